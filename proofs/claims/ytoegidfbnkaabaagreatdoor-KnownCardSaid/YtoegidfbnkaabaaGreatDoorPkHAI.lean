/- A part of one proof (SSmall, PureL, SX1, PureL2, SX2, PureB, SCon2, SRow, SCond). -/
import Derived.Test.YtoegidfbnkaabaaGreatDoorPkHAH
import Derived.Shelf.Strings.SlTrimAscii
set_option linter.all false
set_option maxRecDepth 100000
set_option maxHeartbeats 8000000
open Option renaming some → O, none → V
open Go renaming Value → Y, World → Z
open Bool renaming true → A, false → G
open Go.Obj renaming cells → ae
open Go.Ending renaming returned → ah
open Go.Value renaming iface → aj, pointer → aq
open Option.some renaming injEq → aZ9
open Go.Lib renaming hid → a0a, trimS → a5I
open Nat renaming le_refl → a0d, not_lt_zero → a2g
open List renaming getElem?_eq_getElem → a0e, drop_eq_getElem_cons → a0h, mem_cons → a0n, not_mem_nil → a0v, mem_of_find?_eq_some → a04, all_cons → a1w
open Go.Value renaming slice → a0m
open UInt8 renaming toNat_inj → a02
open Sum.inr renaming injEq → a4h
open Go.Proofs.Tryz renaming prog → a9X
open Go.Proofs.Tryz
namespace Go.Proofs.YtoegidfbnkaabaaGreatDoor
open P
open Go.RowKit
variable{B b base d f i k m n pb tb:Nat}{F:Nat->Prop}{T:List P.Tok}{X:Y->Z->Prop}{av tv u v vv:Y}{gz:List Bd}{vars:List Bs}{w w' w0 w1 w2:Z}
def aks(c:UInt8):Calls a9X 111 #[.int .u8 c.toNat] w fun e w'=>e = ah (.int .u8 (P.cls c))/\w'=w:=by
 have hc:c.toNat<256:=c.toNat_lt;unfold P.cls;obtain⟨n,hn⟩:=b9 c.toNat;rw[<- hn] at hc ⊢;clear hn;by_cases a1:97<=n
 .by_cases a2:n<=122
  .have b1:(97:Int)<=n:=zo;have b2:(n:Int)<=122:=zo;rw[zip ⟨a1,a2⟩]
   go_enter func111,ntmps111
   go_wp2_with fail
   go_ret
   exact⟨J,J⟩
  .have b1:(97:Int)<=n:=zo;have b2:¬ (n:Int)<=122:=zo;have b3:(65:Int)<=n:=zo;have b4:¬ (n:Int)<=90:=zo;have b5:((n:Int) == 95)=false:=zg;have b6:(48:Int)<=n:=zo;have b7:¬ (n:Int)<=57:=zo;have b8:¬ (n:Int)=95:=zo;rw[bX zo,bX zo,bX zo]
   go_enter func111,ntmps111
   go_wp2_with fail
   go_ret
   exact⟨J,J⟩
 .have b1:¬ (97:Int)<=n:=zo;rw[bX zo];by_cases a3:n=95
  .subst a3
   go_enter func111,ntmps111
   go_wp2_with fail
   go_ret
   exact⟨J,J⟩
  have b5:((n:Int) == 95)=false:=zg;have b8:¬ (n:Int)=95:=zo;by_cases a4:65<=n
  .have b3:(65:Int)<=n:=zo;by_cases a5:n<=90
   .have b4:(n:Int)<=90:=zo;rw[zip zo]
    go_enter func111,ntmps111
    go_wp2_with fail
    go_ret
    exact⟨J,J⟩
   .have b4:¬ (n:Int)<=90:=zo;have b6:(48:Int)<=n:=zo;have b7:¬ (n:Int)<=57:=zo;rw[bX zo,bX zo]
    go_enter func111,ntmps111
    go_wp2_with fail
    go_ret
    exact⟨J,J⟩
  .have b3:¬ (65:Int)<=n:=zo;rw[bX zo];by_cases a6:48<=n
   .have b6:(48:Int)<=n:=zo;by_cases a7:n<=57
    .have b7:(n:Int)<=57:=zo;rw[zip zo]
     go_enter func111,ntmps111
     go_wp2_with fail
     go_ret
     exact⟨J,J⟩
    .have b7:¬ (n:Int)<=57:=zo;rw[bX zo]
     go_enter func111,ntmps111
     go_wp2_with fail
     go_ret
     exact⟨J,J⟩
   .have b6:¬ (48:Int)<=n:=zo;rw[bX zo]
    go_enter func111,ntmps111
    go_wp2_with fail
    go_ret
    exact⟨J,J⟩
def Mx(s:Bs):Calls a9X 52 #[aM s] w fun e w'=>e = ah (zi (jK s))/\w'=w:=by
 by_cases c0:s=[116,114,117,101]
 .subst c0
  go_enter func52,ntmps52
  go_wp2_with fail
  go_ret
  exact⟨J,J⟩
 by_cases c1:s=[102,97,105,108]
 .subst c1
  go_enter func52,ntmps52
  go_wp2_with fail
  go_ret
  exact⟨J,J⟩
 by_cases c2:s=[118,97,114]
 .subst c2
  go_enter func52,ntmps52
  go_wp2_with fail
  go_ret
  exact⟨J,J⟩
 by_cases c3:s=[110,111,110,118,97,114]
 .subst c3
  go_enter func52,ntmps52
  go_wp2_with fail
  go_ret
  exact⟨J,J⟩
 by_cases c4:s=[97,116,111,109]
 .subst c4
  go_enter func52,ntmps52
  go_wp2_with fail
  go_ret
  exact⟨J,J⟩
 by_cases c5:s=[105,110,116,101,103,101,114]
 .subst c5
  go_enter func52,ntmps52
  go_wp2_with fail
  go_ret
  exact⟨J,J⟩
 by_cases c6:s=[61]
 .subst c6
  go_enter func52,ntmps52
  go_wp2_with fail
  go_ret
  exact⟨J,J⟩
 by_cases c7:s=[92,61]
 .subst c7
  go_enter func52,ntmps52
  go_wp2_with fail
  go_ret
  exact⟨J,J⟩
 by_cases c8:s=[61,61]
 .subst c8
  go_enter func52,ntmps52
  go_wp2_with fail
  go_ret
  exact⟨J,J⟩
 by_cases c9:s=[105,115]
 .subst c9
  go_enter func52,ntmps52
  go_wp2_with fail
  go_ret
  exact⟨J,J⟩
 by_cases c10:s=[60]
 .subst c10
  go_enter func52,ntmps52
  go_wp2_with fail
  go_ret
  exact⟨J,J⟩
 by_cases c11:s=[62]
 .subst c11
  go_enter func52,ntmps52
  go_wp2_with fail
  go_ret
  exact⟨J,J⟩
 by_cases c12:s=[61,60]
 .subst c12
  go_enter func52,ntmps52
  go_wp2_with fail
  go_ret
  exact⟨J,J⟩
 by_cases c13:s=[62,61]
 .subst c13
  go_enter func52,ntmps52
  go_wp2_with fail
  go_ret
  exact⟨J,J⟩
 by_cases c14:s=[61,58,61]
 .subst c14
  go_enter func52,ntmps52
  go_wp2_with fail
  go_ret
  exact⟨J,J⟩
 have e:jK s=-1:=by
  unfold jK;grind
 rw[e];have d0:(s == ([116,114,117,101]:Bs))=false:=zg;have d1:(s == ([102,97,105,108]:Bs))=false:=zg;have d2:(s == ([118,97,114]:Bs))=false:=zg;have d3:(s == ([110,111,110,118,97,114]:Bs))=false:=zg;have d4:(s == ([97,116,111,109]:Bs))=false:=zg;have d5:(s == ([105,110,116,101,103,101,114]:Bs))=false:=zg;have d6:(s == ([61]:Bs))=false:=zg;have d7:(s == ([92,61]:Bs))=false:=zg;have d8:(s == ([61,61]:Bs))=false:=zg;have d9:(s == ([105,115]:Bs))=false:=zg;have d10:(s == ([60]:Bs))=false:=zg;have d11:(s == ([62]:Bs))=false:=zg;have d12:(s == ([61,60]:Bs))=false:=zg;have d13:(s == ([62,61]:Bs))=false:=zg;have d14:(s == ([61,58,61]:Bs))=false:=zg
 go_enter func52,ntmps52
 go_wp2_with fail
 go_ret
 exact⟨J,J⟩
namespace P
def R4:∀ (f:Nat) (r:Bs) (i:Nat),r.length<f->∃ q,oq f r i=O q
 | 0,r,i,h=>absurd h (a2g _)
 | f+1,[],i,_=>⟨_,by rw[oq]⟩
 | f+1,c::r,i,h=>by
  have b:r.length<f:=zg;rw[oq];split
  .exact R4 f r (i+1) b
  split
  .dsimp only;split
   .grind
   .rename_i g hw;have a:((c::r).drop ((c::r).takeWhile (fun x=>cls x≠0)).length).length<f:=by
     have:0<((c::r).takeWhile (fun x=>cls x≠0)).length:=by
      simp_all
     grind
    obtain⟨q,d⟩:=R4 f ((c::r).drop ((c::r).takeWhile (fun x=>cls x≠0)).length) (i+((c::r).takeWhile (fun x=>cls x≠0)).length) a;grind
  split
  .obtain⟨q,d⟩:=R4 f r (i+1) b;grind
  split
  .grind
  .rename_i s e;have hm:=a04 e;have a:((c::r).drop s.length).length<f:=by
    have:0<s.length:=by
     revert hm
     generalize s=t;intro hm;simp only[oo,a0n,a0v,or_false] at hm;grind
    grind
   obtain⟨q,d⟩:=R4 f ((c::r).drop s.length) (i+s.length) a;grind
def abv(u:Tok):Prop:=u.kind<=4/\(u.kind=3->u.text≠[]/\u.text.all digit=A/\u.text.length<=9)/\(u.kind=1->∃ c r,u.text=c::r/\cls c=115)/\(u.kind=2->u.text≠[])/\(u.kind=4->u.text=[46]\/u.text∈oo)
def aCL{w:Bs}(hw:rR w≠0):abv ⟨rR w,w,i⟩/\rR w≠4:=by
 cases w with
 | nil=>exact absurd J hw
 | cons c r=>
  unfold rR at hw ⊢;dsimp only at hw ⊢;by_cases b:cls c=115
  .rw[zip b] at hw ⊢;split at hw
   .rename_i a;rw[zip a];exact⟨⟨zs,zs,fun _=>⟨c,r,J,b⟩,zs,zs⟩,zo⟩
   omega
  .rw[bX b] at hw ⊢;by_cases d:cls c=99
   .rw[zip d] at hw ⊢;split at hw
    .rename_i a;rw[zip a];exact⟨⟨zs,zs,zs,zs,zs⟩,zo⟩
    omega
   .rw[bX d] at hw ⊢;split at hw
    .rename_i a;rw[zip a];exact⟨⟨zs,fun _=>⟨zs,a.2.1,a.1⟩,zs,zs,zs⟩,zo⟩
    omega
structure Gg(n:Nat)(T:List Tok):Prop where
 len:T.length<=n+1
 last:∃ l t,T=l++[t]/\t.kind=0/\∀ u∈l,u.kind≠0
 tok:∀ u∈T,abv u
def Gg.cons{T:List Tok}(h:Gg n T){u:Tok}(hu:abv u)(b:u.kind≠0)(hm:n<m):Gg m (u::T):=by
 obtain⟨c,⟨l,t,rfl,a,d⟩,e⟩:=h;refine⟨zg,⟨u::l,t,J,a,fun v hv=>?_⟩,fun v hv=>?_⟩<;>grind
theorem Gg.mono{T:List Tok}(h:Gg n T)(hm:n<=m):Gg m T:=⟨by have:=h.len;omega,h.last,h.tok⟩
def R5:∀ (f:Nat) (r:Bs) (i:Nat) (T:List Tok),oq f r i=O (.inr T)->Gg r.length T
 | 0,r,i,T,h=>by simp_all [oq]
 | f+1,[],i,T,h=>by
  rw[oq] at h;simp only[aZ9,a4h] at h;subst h;exact⟨zs,⟨[],_,J,J,zs⟩,fun u hu=>by
   simp only[a0n,a0v,or_false] at hu;subst hu;exact⟨zs,zs,zs,zs,zs⟩⟩
 | f+1,c::r,i,T,h=>by
  rw[oq] at h;split at h
  .exact(R5 f r (i+1) T h).mono zs
  split at h
  .dsimp only at h;split at h
   .grind
   .rename_i e hw;have b:0<((c::r).takeWhile (fun x=>cls x≠0)).length:=by
     simp_all
    cases a:oq f ((c::r).drop ((c::r).takeWhile (fun x=>cls x≠0)).length) (i+((c::r).takeWhile (fun x=>cls x≠0)).length) with
    | none=>grind
    | some q=>
     rw[a] at h;cases q with
     | inl j=>grind
     | inr l=>
      simp only[aZ9,a4h] at h;rw[<- h];refine(R5 f _ _ l a).cons (aCL hw).1 hw ?_;grind
  split at h
  .cases a:oq f r (i+1) with
   | none=>grind
   | some q=>
    rw[a] at h;cases q with
    | inl j=>grind
    | inr l=>
     simp only[aZ9,a4h] at h;rw[<- h];exact(R5 f _ _ l a).cons ⟨zs,zs,zs,zs,fun _=>.inl J⟩ zs zs
  split at h
  .grind
  .rename_i s d;have hm:=a04 d;have g:0<s.length:=by
    revert hm
    generalize s=t;intro hm;simp only[oo,a0n,a0v,or_false] at hm;grind
   cases a:oq f ((c::r).drop s.length) (i+s.length) with
   | none=>grind
   | some q=>
    rw[a] at h;cases q with
    | inl j=>grind
    | inr l=>
     simp only[aZ9,a4h] at h;rw[<- h];refine(R5 f _ _ l a).cons ⟨zs,zs,zs,zs,fun _=>.inr hm⟩ zs ?_;grind
def lex(s:Bs):Sum Nat (List Tok):=(oq (s.length+1) s 0).getD (.inl 0)
def OT(s:Bs):oq (s.length+1) s 0=O (lex s):=by
 obtain⟨q,a⟩:=R4 (s.length+1) s 0 (Nat.lt_succ_self _);simp_all [lex]
end P
open Sx
def akt(c a:Int)(w:Z):Calls a9X 47 #[zi c,zi a] w fun e w'=>
  e = .panicked [{ v:=aj 73 (pp w.heap.size),recovered:=false }]/\w'=w.alloc (ae #[zi c,zi a] 77):=by
 refine avY ?_;exact eQ
def aku(c:UInt8)(w:Z):Calls a9X 111 #[.int .u8 c.toNat] w fun e w'=>e = ah (.int .u8 (P.cls c))/\w'=w:=by
 refine(aks c).mono ?_;grind
def aCM(s:Bs)(w:Z)(b:s.length<=100000):Calls a9X 99 #[aM s,aM [48,49,50,51,52,53,54,55,56,57]] w fun e w'=>
  e = ah (aM (a5I s [48,49,50,51,52,53,54,55,56,57]))/\Ext w w':=by
 refine(Any.strings_Trim_laid Tryz.lays160 zk (bs s) (bs [48,49,50,51,52,53,54,55,56,57]) w (by grind [ByteArray.size]) zd (ascii_of_all zd)).mono ?_;rintro e w' ⟨rfl,a⟩;exact⟨J,⟨a.os,a.tape,a.output,a.size,(by grind [bf,Below.block])⟩⟩
theorem akv(c:UInt8):([48,49,50,51,52,53,54,55,56,57]:Bs).contains c=P.digit c:=by
 have h:∀ n:Fin 256,([48,49,50,51,52,53,54,55,56,57]:Bs).contains (UInt8.ofNat n.val)=P.digit (UInt8.ofNat n.val):=zd;have:=h ⟨c.toNat,c.toNat_lt⟩;simpa using this
theorem akw(s:Bs):a5I s [48,49,50,51,52,53,54,55,56,57]=[]↔s.all P.digit=true:=by
 have a:∀ l:Bs,l.dropWhile (([48,49,50,51,52,53,54,55,56,57]:Bs).contains ·)=[]↔l.all P.digit=true:=fun l=>by
  simp only[akv];induction l with
  | nil=>simp
  | cons c l ih=>
   rw[List.dropWhile_cons,a1w,Bool.and_eq_true];grind
 unfold a5I Lib.trimLeftS Lib.trimRightS;rw[a];constructor
 .intro h;have b:(s.reverse.dropWhile (([48,49,50,51,52,53,54,55,56,57]:Bs).contains ·))=[]:=by
   cases hx:s.reverse.dropWhile (([48,49,50,51,52,53,54,55,56,57]:Bs).contains ·) with
   | nil=>rfl
   | cons c l=>
    rw[hx,List.all_reverse,a1w,Bool.and_eq_true] at h;have:=List.head?_dropWhile_not (([48,49,50,51,52,53,54,55,56,57]:Bs).contains ·) s.reverse;grind [List.head?_cons,akv]
  grind
 grind
def aCN(c:UInt8)(r:Bs)(m:(c::r).length<=100000)(at_:Nat)(w:Z)(x:P.cls c≠0) :
  Calls a9X 112 #[aM (c::r),zi at_,.int .u8 (P.cls c)] w fun e w'=>Ext w w' /\
   ((rR (c::r)≠0/\e = ah (.agg #[zi (rR (c::r)),aM (c::r),zi at_]))\/(rR (c::r)=0/\mR 2 at_ w w' e)):=by
 have a:rR (c::r)=if P.cls c=115 then(if (c::r).length<=8 then 1 else 0) else if P.cls c=99 then(if (c::r).length<=8 then 2 else 0)
  else if (c::r).length<=9/\(c::r).all P.digit=A/\(c≠48\/r=[]) then 3 else 0:=rfl
 have f:(c::r).getD 0 0=c:=rfl;have y:0<(c::r).length:=zs;have n:r=[]↔(c::r).length=1:=zg;have g:c=48↔c.toNat=48:=by rw[<- a02];rfl
 have i:P.cls c=115\/P.cls c=99\/P.cls c=100:=by
  unfold P.cls at x ⊢;grind
 obtain⟨s,z⟩:=b9 (c::r);rw[<- z] at m f y n a ⊢;have B:Ext w (w.alloc (ae #[zi 0,aM [],zi 0] 142)):=yF;have K:∀ (kd:Nat),rR s=kd->kd≠0->Ext w (bO (w.alloc (ae #[zi 0,aM [],zi 0] 142)) w.heap.size (ae #[zi kd,aM s,zi at_] 142)):=yF;refine avV ?_;refine bD ?_;refine⟨fun _ w'=>Ext w w'/\rR s=0,?_,?_⟩
 .rcases i with h | h | h
  .rw[h] at a ⊢;rw[zip rfl] at a;by_cases b:s.length<=8
   .rw[zip b] at a;refine bD ?_;exact yH
   .rw[bX b] at a;refine bD ?_;exact yF
  .rw[h] at a ⊢;rw[bX zd,zip rfl] at a;by_cases b:s.length<=8
   .rw[zip b] at a;refine bD ?_;exact yH
   .rw[bX b] at a;refine bD ?_;exact yF
  .rw[h] at a ⊢;rw[bX zd,bX zd] at a;refine bD ?_;refine⟨fun t w'=>Ext w w'/\w'.heap[w.heap.size]?=aN #[zi 0,aM [],zi 0] 142/\t 25 = .bool (decide (rR s≠0)),?_,?_⟩
   .have j:(w.alloc (ae #[zi 0,aM [],zi 0] 142)).heap[w.heap.size]?=aN #[zi 0,aM [],zi 0] 142:=yH;by_cases o:s.length<=9
    .refine bD ?_;refine(aCM s _ m).mono ?_;rintro e w2 ⟨rfl,k⟩;have p:=B.trans k;have d:=k.ext _ _ j;by_cases l:s.all P.digit=A
     .have q:=(akw s).2 l;rw[q];by_cases C:c.toNat=48
      .have D:(c.toNat:Int)=48:=zo;refine cG f ?_;refine⟨p,d,?_⟩;rw[a];by_cases E:s.length=1
       .have F:(s.length:Int)=1:=zo;rw[zip ⟨o,l,.inr (n.2 E)⟩];grind
       .have F:¬ (s.length:Int)=1:=zo;grind
      .have D:¬ (c.toNat:Int)=48:=zo;refine cG f ?_;refine⟨p,d,?_⟩;rw[a,zip ⟨o,l,.inl (fun e=>C (g.1 e))⟩];grind
     .have q:¬ a5I s [48,49,50,51,52,53,54,55,56,57]=[]:=(by grind [akw]);refine bD ?_;exact yH
    .refine bD ?_;exact yF
   .rintro t w2 ⟨k,d,H⟩ d2;have I:=bf d;rw[H];by_cases hk:rR s≠0
    .rw[FU _ _ hk];have L:rR s=3:=by
      grind
     refine cG d ?_;exact yF
    .rw[FV _ _ hk];exact yF
 .rintro t w' ⟨u,hk⟩ M;refine(akt _ _ _).mono ?_;rintro e w2 ⟨rfl,rfl⟩;refine bD ?_;exact⟨u.alloc _,.inr ⟨hk,_,J,yH,u.size⟩⟩
def aky(p:UInt8->Bool):∀ (l:Bs),(∀ m,m<(l.takeWhile p).length->p (l.getD m 0)=A)/\((l.takeWhile p).length<l.length->p (l.getD (l.takeWhile p).length 0)=G)/\(l.takeWhile p).length<=l.length/\l.take (l.takeWhile p).length=l.takeWhile p
 | []=>⟨fun m h=>absurd h (a2g _),fun h=>absurd h (a2g _),a0d _,J⟩
 | c::l=>by
  obtain⟨b,d,e,f⟩:=aky p l;by_cases a:p c=A
  .rw[List.takeWhile_cons,zip a];refine⟨fun m hm=>?_,fun h=>?_,zg,zg⟩
   .cases m with
    | zero=>grind
    | succ m=>simp_all
   grind
  simp_all
def akz(s:Bs)(j m:Nat):(s.drop j).getD m 0=s.getD (j+m) 0:=by
 grind
theorem abx{x:Bs}(h:x∈oo):x≠[]/\x.length<=3:=by
 simp only[oo,a0n,a0v,or_false] at h;rcases h with rfl | rfl | rfl | rfl | rfl | rfl | rfl | rfl | rfl | rfl | rfl | rfl | rfl | rfl | rfl | rfl | rfl | rfl | rfl | rfl | rfl | rfl | rfl<;>decide
def Gh(p:Bs->Bool)(k:Nat):Bs:=((oo.take k).find? p).getD []
def aCQ{p:Bs->Bool}(hk:k<23)(h:Gh p k=[]):Gh p (k+1)=if p (oo.getD k [])=A then oo.getD k [] else []:=by
 have b:k<oo.length:=hk;have c:(oo.take k).find? p=none:=by
  cases a:(oo.take k).find? p with
  | none=>rfl
  | some x=>
   rw[Gh,a] at h;exact absurd h (abx (List.mem_of_mem_take (a04 a))).1
 grind [oo,Gh,List.take_add_one,a0e]
theorem aby(p:Bs->Bool):Gh p 23=(oo.find? p).getD []:=rfl
def aCR{p:Bs->Bool}(h:Gh p k≠[]):Gh p 23=Gh p k:=by
 have e:oo=oo.take k++oo.drop k:=(List.take_append_drop k _).symm;rw[aby];unfold Gh at h ⊢;cases a:(oo.take k).find? p with
 | none=>grind
 | some x=>grind
def My(acc:List P.Tok):Sum Nat (List P.Tok)->Sum Nat (List P.Tok)
 | .inl i=>.inl i
 | .inr l=>.inr (acc++l)
def V3(T:List P.Tok)(f:Nat)(nm:Bs)(l:List Ex)(bd:Bd)(k:Nat)(vs:List Bs):Option (cg Cl):=
 if ep T k [58,45]=A then cg.bind (mw T f (k+1) vs 0) fun b k' vars'=>mZ T [46] ⟨nm,l,b,vars'⟩ k' vars'
 else mZ T [46] ⟨nm,l,bd,vs⟩ k vs
def abz(T:List P.Tok)(f:Nat)(nm:Bs)(at_:Nat)(l:List Ex)(bd:Bd)(k:Nat)(vs:List Bs):Option (cg Cl):=
 if 0<=jK nm\/nm=[109,111,100] then O (.err 3 at_) else V3 T f nm l bd k vs
def BY:List P.Tok->List Y
 | []=>[]
 | t::l=>.int .i64 t.kind::.string (bs t.text)::.int .i64 t.pos::BY l
theorem akA:∀ (l:List P.Tok) (t:P.Tok),BY (l++[t])=BY l++[zi t.kind,aM t.text,zi t.pos]
 | [],t=>rfl
 | u::l,t=>by
  show _::_::_::BY (l++[t])=_;rw[akA l t];rfl
theorem akB:∀ (l:List P.Tok) (j:Nat),j<l.length->(BY l)[j*3]?=O (zi (tk l j).kind)/\(BY l)[j*3+1]?=O (aM ((tk l j).text))/\(BY l)[j*3+2]?=O (zi (tk l j).pos)
 | [],j,h=>zg
 | u::l,0,_=>⟨J,J,J⟩
 | u::l,j+1,h=>by
  have:=akB l j zg;have e:(j+1)*3=j*3+3:=zo;rw[e];exact this
def aCS:(Tryz.prog.info? 142).map (fun i=>(i.zero,i.size,i.bytes))=O (O (.agg #[zi 0,aM [],zi 0]),3,32):=zk
def V4{acc:List P.Tok}(c:w.ownsRow base 142 3 v acc.length (BY acc)){kd:Nat}{tx:Bs}{ps:Nat}
  (d:w.heap[b]?=aN #[vv,tv,av] 142) (hk:vv=zi kd) (ht:tv = aM tx) (f:av=zi ps)
  (p:acc.length<=100000) (g:base<=w.heap.size) {K:Y->Z->Prop}
  (h:∀ v' w',w'.ownsRow base 142 3 v' (acc++([⟨kd,tx,ps⟩]:List P.Tok)).length (BY (acc++([⟨kd,tx,ps⟩]:List P.Tok)))->w.grownBy w' v.ownBlock->(v'.ownBlock=v.ownBlock\/∀ k,v'.ownBlock=O k->w.heap.size<=k)->K v' w') :
  WR a9X (Builtin.append_ #[143,143] 143 #[v,cM b 1 m]) w K X:=by
 subst hk ht f;obtain⟨i,j,a⟩:=Option.map_eq_some_iff.1 aCS;simp only[Prod.mk.injEq] at a;obtain⟨l,n,o⟩:=a;refine ajh (m:=1) (t:=143) (e:=142) zk j l n o J zo c d J (fun u hu=>?_) zo zo g ?_
 .simp only[a0n,a0v,or_false] at hu;rcases hu with rfl | rfl | rfl<;>rfl
 grind [akA,List.length_append]
def Mz(w:Z):Prop:=∃ cs T z,w.heap[1]?=O (ae cs T z)/\23<=cs.size/\cs.toList.take 23=oo.map fun s=>aM s
theorem Mz.ext{w w':Z}(h:Mz w)(a:Ext w w'):Mz w':=by
 obtain⟨cs,T,z,b,c⟩:=h;exact⟨cs,T,z,a.ext _ _ b,c⟩
def aCT(w:Z)(s:Bs)(e:Ending)(w':Z):Prop:=
 Ext w w'/\if 2000<s.length then mR 1 0 w w' e else match P.lex s with
 | .inl i=>mR 2 i w w' e
 | .inr T=>∃ v,e = ah v/\w'.ownsRow w.heap.size 142 3 v T.length (BY T)
def JX{c a:Int}{e:Ending}(h:mR c a w1 w2 e)(hw:w.heap.size<=w1.heap.size):mR c a w w2 e:=by
 obtain⟨b,d,f,g⟩:=h;exact⟨b,d,f,zo⟩
def akC(c a:Int)(w:Z):Calls a9X 47 #[zi c,zi a] w fun e w'=>mR c a w w' e/\Ext w w':=by
 refine(akt c a w).mono ?_;rintro e w' ⟨rfl,rfl⟩;exact⟨⟨_,J,yH,a0d _⟩,yF⟩
def akD(s:Bs)(w:Z)(hl:s.length<=100000)(hT:Mz w):Calls a9X 84 #[aM s] w (aCT w s):=by
 refine avU ?_;refine⟨fun _ w'=>w'=w/\s.length<=2000,?_,?_⟩
 .by_cases h2:2000<s.length
  .refine JC ?_;refine(akC _ _ _).mono ?_;rintro e w1 ⟨hf,y⟩;obtain⟨b,rfl,h1,M⟩:=hf;refine JC ?_;refine⟨y,?_⟩;rw[zip h2];exact⟨b,J,h1,M⟩
  .refine JC ?_;omega
 .rintro _ w1 ⟨rfl,qf⟩ _;refine⟨fun n t w2=>Ext w1 w2/\∃ j acc f q,n=s.length-j/\j<=s.length/\acc.length<=j/\t 3=zi j/\w2.ownsRow w1.heap.size 142 3 (t 2) acc.length (BY acc) /\
   oq f (s.drop j) j=O q/\My acc q=P.lex s,⟨s.length,yF,0,[],_,_,J,Nat.zero_le _,a0d _,J,World.ownsRow_nil _ _ _ _,OT s,?_⟩,?_⟩
  .cases P.lex s<;>rfl
  intro n t dd w2 N;refine toPr ?_;obtain⟨y,j,acc,f,q,rfl,hj,haj,M,dR,a,Q⟩:=N;have dX:=y.size;by_cases hlt:j<s.length
  .obtain⟨c,r,JY⟩:∃ c r,s.drop j=c::r:=⟨s[j],s.drop (j+1),a0h hlt⟩;have L:s.getD j 0=c:=by
    grind [a0h,a0e]
   have hr:s.drop (j+1)=r:=by
    grind [a0h]
   have aUs:=c.toNat_lt;cases f with
   | zero=>rw[oq] at a;cases a
   | succ f=>
   rw[JY,oq] at a;have oL:(P.blank c=A)↔((c.toNat:Int)=32\/(c.toNat:Int)=10):=by
    have e1:c=32↔c.toNat=32:=by rw[<- a02];rfl
    have e2:c=10↔c.toNat=10:=by rw[<- a02];rfl
    simp only[P.blank,Bool.or_eq_true,beq_iff_eq,e1,e2];omega
   simp (disch:=first|assumption|omega|simp only[zS]<;>omega|decide) only[Pr,PX,PC,NX,ends,Ew,ot,jg,Nat.reduceAdd,Nat.reduceMul,Nat.reduceLeDiff,Nat.reduceEqDiff,Int.reduceToNat,Int.reduceAdd,Int.reduceLT,Int.reduceLE,↓reduceIte,forall_const,eq_self,Z8,jx,ZJ,ZK,Oy,Oz,FU,FV,ZM,ZN,ZO,ZP,ZQ,ZR,ZS,ZT,ZU,ZX,ZY,ZV,ZW,Z2,Z3,Z4,Z5,VA,ZZ,Z9,aaa,aaH,aab,aac,aad,aae,LZ,qG,pX,jd,Ro,BH,uN,size_alloc,Rt,aak,aaf,aag,aah,aai,aaj,aal,aam,aan,aao,aap,aaq,aar,aas,aat,aau,aav,aaw,aax,aay,aaz,aaA,aaB,aaC,VB,Z7,Vu,ZG,ZH,Int.toNat_natCast,Option.isNone_none,Option.isNone_some,List.getElem?_toArray,List.getElem?_cons_zero,List.getElem?_cons_succ,List.setIfInBounds_toArray,List.set_cons_zero,List.set_cons_succ,List.size_toArray,List.length_cons,List.length_nil,List.drop_zero,List.drop_succ_cons,List.take_succ_cons,List.take_zero,List.take_nil,List.drop_nil,a1w,List.all_nil,Bool.and_true,Bool.true_and,Nat.zero_add,Nat.add_zero,Nat.mul_one,and_self,and_true,true_and,decide_true,decide_false,Bool.not_true,Bool.not_false,not_true_eq_false,not_false_eq_true,aiK,aiN,aiP,ai2,ai7,ai9,aja,ajg,M,L];refine⟨fun t2 w3=>w3=w2/\t2 3=zi j/\P.blank c=G,?_,?_⟩
   .refine⟨fun t2 w3=>w3=w2/\t2 25 = .bool (P.blank c),?_,?_⟩
    .refine yu (zA @ZL L) ?_;grind
    .rintro t2 w3 ⟨rfl,z⟩ d2;rw[z];cases hb:P.blank c with
     | true=>
      rw[Oy,M];refine JC ?_;refine⟨s.length-(j+1),zo,y,j+1,acc,f,q,J,zo,zo,?_,?_,?_,Q⟩<;>grind
     | false=>
      rw[Oz];grind
   .rintro t2 w3 ⟨rfl,z,oK⟩ d2;rw[bX (by simp [oK])] at a;rw[L];refine(aku c _).mono ?_;rintro e w4 ⟨rfl,rfl⟩;by_cases pj:P.cls c≠0
    .rw[zip pj] at a;have aCU:¬ ((P.cls c:Nat):Int)=0:=zo;refine JC ?_;obtain⟨W,R⟩:=b9 (((c::r).takeWhile (fun x=>P.cls x≠0)).length);have R6:=aky (fun x=>P.cls x≠0) (c::r);rw[<- R] at R6;dsimp only at a;rw[<- R] at a;obtain⟨Gi,B0,EL,tZ⟩:=R6;have hlen:(c::r).length=s.length-j:=zg;rw[hlen] at B0 EL;rw[<- JY] at Gi B0;simp only[akz,decide_eq_true_eq,decide_eq_false_iff_not,ne_eq,Decidable.not_not] at Gi B0;have hWp:0<W:=by
      grind
     refine⟨fun t3 g=>g=w4/\t3 6=zi ((j+W:Nat):Int),?_,?_⟩
     .refine⟨fun n t3 g=>g=w4/\∃ m,n=W-m/\m<=W/\t3 6=zi ((j+m:Nat):Int),⟨W,J,0,J,Nat.zero_le _,?_⟩,?_⟩
      .grind
      .intro n t3 d3 g N;refine toPr ?_;obtain⟨rfl,m,rfl,hm,C⟩:=N;by_cases hjm:j+m<s.length
       .refine yu C ?_;refine(aku _ _).mono ?_;rintro e D ⟨rfl,rfl⟩;by_cases S:m<W
        .have CY:¬ ((P.cls (s.getD (j+m) 0):Nat):Int)=0:=zg;refine yu C ?_;exact⟨W-(m+1),zo,m+1,J,zo,zg⟩
        .have aCV:m=W:=zo;subst aCV;have CY:((P.cls (s.getD (j+m) 0):Nat):Int)=0:=zo;exact aaQ C
       .have S:m=W:=by
         omega
        subst S;exact aaQ C
     .rintro t3 g ⟨rfl,C⟩ d3;refine yu (zA C z) ?_;have hdt:List.drop j (List.take (j+W) s)=c::r.takeWhile (fun x=>P.cls x≠0):=by
       rw[List.drop_take,JY,show j+W-j=W by omega,tZ,List.takeWhile_cons,zip (by simpa using pj)]
      have Dt:(c::r).takeWhile (fun x=>P.cls x≠0)=c::r.takeWhile (fun x=>P.cls x≠0):=zg;rw[hdt];rw[Dt] at a R;obtain⟨wd,MA⟩:=b9 (c::r.takeWhile (fun x=>P.cls x≠0));refine(aCN c _ zo j g pj).mono ?_;rw[<- MA] at a R ⊢;rintro e D ⟨fZ,(⟨uW,rfl⟩| ⟨uW,iz⟩)⟩
      .have s4:=fZ.size;rw[bX uW] at a;refine yu (zA z C) ?_;have o:Ext D (D.alloc (ae #[zi (rR wd),aM wd,zi j] 142)):=yF;have u:=jM (fZ.trans o).ext dR;refine V4 (acc:=acc) (base:=w1.heap.size) (kd:=rR wd) (tx:=wd) (ps:=j) u yH J J J zo (yH) ?_;intro v' E R7 F AZ;have T:Ext w1 E:=((y.trans fZ).trans o).grow F (fun k hk=>(u.lt k hk).1);cases H:oq f (List.drop wd.length (c::r)) (j+wd.length) with
       | none=>exact yH
       | some q2=>
       rw[R,H] at a;refine⟨s.length-(j+W),zo,T,j+W,acc++[⟨rR wd,wd,j⟩],f,q2,J,zo,zg,zg,yH,?_,?_⟩
       .grind [List.drop_drop]
       .rw[<- Q];cases q2 with
        | inl i=>simp only[aZ9] at a;rw[<- a];rfl
        | inr l=>grind [aZ9,My]
      .rw[zip uW] at a;cases a;simp only[My] at Q;have MC:=JX iz dX;obtain⟨b,rfl,g1,g2⟩:=iz;refine JC ?_;refine⟨yF,?_⟩;exact yH
    .rw[bX pj] at a;have aCU:((P.cls c:Nat):Int)=0:=zo;refine JC ?_;have I:(c=46/\Hk r=A)↔((c.toNat:Int)=46/\(j+1=s.length\/(j+1<s.length/\((s.getD (j+1) 0).toNat=32\/(s.getD (j+1) 0).toNat=10)))):=by
      have e1:c=46↔c.toNat=46:=by rw[<- a02];rfl
      have hrl:r.length=s.length-(j+1):=zg;rw[e1];cases r with
      | nil=>
       grind [Hk]
      | cons d r'=>
       have hd:s.getD (j+1) 0=d:=by rw[show j+1=j+1+0 from J,<- akz,hr];rfl
       rw[hd];have e2:d=32↔d.toNat=32:=by rw[<- a02];rfl
       have e3:d=10↔d.toNat=10:=by rw[<- a02];rfl
       simp only[Hk,P.blank,Bool.or_eq_true,beq_iff_eq,e2,e3];grind
     refine⟨fun t4 g=>g=w4/\t4 2=t 2/\t4 3=zi j/\¬ (c=46/\Hk r=A),?_,?_⟩
     .refine⟨fun t4 g=>g=w4/\t4 79 = .bool (decide (c=46/\Hk r=A)),?_,?_⟩
      .by_cases Du:(c.toNat:Int)=46
       .by_cases hje:j+1=s.length
        .have aCY:((j:Int)+1)=(s.length:Int):=zo;refine yu (zA z L) ?_;grind
        .have aCY:¬ ((j:Int)+1)=(s.length:Int):=zo;have V1:((j:Int)+1).toNat=j+1:=zo;refine yu (zA @ZL (zA z (zA L V1))) ?_;generalize hd:(s.getD (j+1) 0).toNat=d at *;by_cases g1:d=32
         .have V5:=I.2 ⟨Du,.inr ⟨zo,.inl g1⟩⟩;simp [jg,V5,g1]
         .have V6:¬ (d:Int)=32:=zo;by_cases g2:d=10
          .have V5:=I.2 ⟨Du,.inr ⟨zo,.inr g2⟩⟩;simp [jg,V5,g2]
          .have lQ:¬ (c=46/\Hk r=A):=fun h=>by
            rcases(I.1 h).2 with h | ⟨_,h | h⟩
            .exact hje h
            .exact g1 h
            .exact g2 h
           have V7:¬ (d:Int)=10:=zo;rw[decide_eq_false lQ];simp [jg,V6,V7];try omega
       .have lQ:¬ (c=46/\Hk r=A):=zg;rw[decide_eq_false lQ];exact aaQ (zA z L)
      .rintro t4 g ⟨rfl,h83⟩ d4;rw[h83];by_cases U:c=46/\Hk r=A
       .rw[FU _ _ U];rw[zip U] at a;refine yu z ?_;have o:Ext g (g.alloc (ae #[zi 4,aM [46],zi j] 142)):=yF;have u:=jM o.ext dR;refine V4 (acc:=acc) (base:=w1.heap.size) (kd:=4) (tx:=[46]) (ps:=j) u yH J J J zo (yH) ?_;intro v' E R7 F AZ;have T:Ext w1 E:=(y.trans o).grow F (fun k hk=>(u.lt k hk).1);cases H:oq f r (j+1) with
        | none=>rw[H] at a;cases a
        | some q2=>
        rw[H] at a;refine yu z ?_;refine⟨s.length-(j+1),zo,T,j+1,acc++[⟨4,[46],j⟩],f,q2,J,zo,zg,zs,yH,?_,?_⟩
        .grind
        grind [aZ9,My]
       .rw[FV _ _ U];grind
     .rintro t4 g ⟨rfl,xC,JW,U⟩ d4;rw[bX U] at a;obtain⟨cs,TT,zz,tW,jv,A6⟩:=hT.ext y;have hlen:(c::r).length=s.length-j:=zg;refine yu (zA tW A6) ?_;obtain⟨B,sY⟩:∃ B:Bs->Bool,B=fun x=>x.isPrefixOf (c::r):=⟨_,J⟩;refine⟨fun n t5 D=>D=g/\∃ k,n=23-k/\k<=23/\t5 88=zi ((k:Nat):Int)/\t5 2=t 2/\t5 3=zi j/\Gh B k=[],⟨23,J,0,J,Nat.zero_le _,J,?_,?_,J⟩,?_⟩
      .grind
      .grind
      intro n t5 d5 D N;refine toPr ?_;obtain⟨rfl,k,rfl,hk,J0,K,X,km⟩:=N;by_cases akG:k<23
      .obtain⟨x,hx⟩:=b9 (oo.getD k []);have uX:x∈oo:=by
        rw[hx,List.getD_eq_getElem?_getD,a0e (show k<oo.length from akG)];grind
       obtain⟨Mo,Jz⟩:=abx uX;have V8:(List.take 23 cs.toList).toArray[k]?=O (aM x):=by
        grind
       have hkn:((k:Nat):Int).toNat=k:=zo;have aUv:(List.take 23 cs.toList).toArray[((k:Nat):Int).toNat]?=O (aM x):=zg;have aC0:((j:Nat):Int).toNat=j:=zo;refine yu (zA J0 (zA X aC0)) ?_;rw[JY];refine(Tryz.strings_HasPrefix (bs (c::r)) (bs x) _).mono ?_;rintro e E ⟨rfl,rfl⟩;have Gk:Lib.hasPrefix (bs (c::r)).data.toList (bs x).data.toList=B x:=by rw[sY];rfl
       rw[Gk];have R9:=aCQ akG km;rw[<- hx] at R9;by_cases hp:B x=A
       .rw[hp];rw[zip hp] at R9;have vL:oo.find? B=O x:=by
         have h1:=aCR (p:=B) (k:=k+1) (by rw[R9];exact Mo);rw[R9,aby] at h1;grind
        rw[sY] at vL;rw[vL] at a;dsimp only at a;have hle:=(List.isPrefixOf_iff_prefix.1 (by rw[sY] at hp;exact hp)).length_le;rw[hlen] at hle;have oI:0<x.length:=List.length_pos_iff.2 Mo;refine yu (zA K X) ?_;have o:Ext E (E.alloc (ae #[zi 4,aM x,zi j] 142)):=yF;have u:=jM o.ext dR;refine V4 (acc:=acc) (base:=w1.heap.size) (kd:=4) (tx:=x) (ps:=j) u yH J J J zo (yH) ?_;intro v' w8 R7 F AZ;have T:Ext w1 w8:=(y.trans o).grow F (fun k hk=>(u.lt k hk).1);cases H:oq f ((c::r).drop x.length) (j+x.length) with
        | none=>rw[H] at a;cases a
        | some q2=>
        rw[H] at a;refine yu (zA K X) ?_;refine⟨s.length-(j+x.length),zo,T,j+x.length,acc++[⟨4,x,j⟩],f,q2,J,zo,zg,zs,yH,?_,?_⟩
        .grind [List.drop_drop]
        grind [aZ9,My]
       .have Ht:B x=false:=zg;rw[Ht];rw[bX hp] at R9;refine yu (zA J0 (zA K X)) ?_;grind
      .have Dd:k=23:=zo;subst Dd;have xD:oo.find? (fun s=>s.isPrefixOf (c::r))=none:=by
        grind [aby,absurd,abx,a04]
       rw[xD] at a;cases a;simp only[My] at Q;refine yu (zA J0 X) ?_;refine(akC _ _ _).mono ?_;rintro e E ⟨hf,Gl⟩;have eU:=JX hf dX;obtain⟨b,rfl,g1,g2⟩:=hf;refine JC ?_;refine⟨yF,?_⟩;exact yH
  .have Gf:j=s.length:=zo;subst Gf;have H6:List.drop s.length s=[]:=List.drop_length;cases f with
   | zero=>rw[oq] at a;cases a
   | succ f=>
   rw[H6,oq] at a;cases a;simp only[My] at Q;refine yu M ?_;have o:Ext w2 (w2.alloc (ae #[zi 0,aM [],zi (s.length)] 142)):=yF;have u:=jM o.ext dR;refine V4 (acc:=acc) (base:=w1.heap.size) (kd:=0) (tx:=[]) (ps:=s.length) u yH J J J zo (yH) ?_;intro v' D R7 F AZ;refine⟨(y.trans o).grow F (fun k hk=>(u.lt k hk).1),?_⟩;exact yH
namespace P
structure aC1(T:List Tok)(f:Nat):Prop where
 lit:∀ k v d x k' v',nt T f k v d=O (.ok x k' v')->k<k'
 lits:∀ k v d acc x k' v',pS T f k v d acc=O (.ok x k' v')->k<k'
 row:∀ k v d x k' v',nN T f k v d=O (.ok x k' v')->k<k'
 rest:∀ k v d x k' v',pU T f k v d=O (.ok x k' v')->k<k'
 body:∀ k v d x k' v',mw T f k v d=O (.ok x k' v')->k<k'
def Sa(T:List Tok):∀ f,aC1 T f
 | 0=>⟨by simp_all [nt],by simp_all [pS],by simp_all [nN],by simp_all [pU],by simp_all [mw]⟩
 | f+1=>by
  have ih:=Sa T f;have hm:=mono T f;refine⟨?_,?_,?_,?_,?_⟩
  .intro k v d x k' v' h;rw[nt] at h;split at h
   .grind
   split at h
   .grind
   split at h
   .obtain⟨a,i,v1,g,e⟩:=eh h;have:=ih.lit _ _ _ _ _ _ g;grind
   split at h
   .obtain⟨a,i,v1,g,e⟩:=eh h;have:=ih.body _ _ _ _ _ _ g;grind [nR]
   obtain⟨a,i,v1,g,e⟩:=eh h;have:=hm.oper _ _ _ _ _ _ _ g;split at e
   .obtain⟨b,n,v2,j,l⟩:=eh e;have:=hm.oper _ _ _ _ _ _ _ j;grind
   grind
  .intro k v d acc x k' v' h;rw[pS] at h;obtain⟨y,i,v1,g,e⟩:=eh h;have:=ih.lit _ _ _ _ _ _ g;split at e
   .have:=ih.lits _ _ _ _ _ _ _ e;omega
   grind
  .intro k v d x k' v' h;rw[nN] at h;obtain⟨y,i,v1,g,e⟩:=eh h;have:=ih.lits _ _ _ _ _ _ _ g;grind
  .intro k v d x k' v' h;rw[pU] at h;split at h
   .grind
   .exact ih.body _ _ _ _ _ _ h
  .intro k v d x k' v' h;rw[mw] at h;obtain⟨a,i,v1,g,e⟩:=eh h;have:=ih.row _ _ _ _ _ _ g;split at e
   .obtain⟨b,n,v2,j,l⟩:=eh e;have:=ih.row _ _ _ _ _ _ j;split at l
    .obtain⟨c,o,v3,m,p⟩:=eh l;have:=ih.rest _ _ _ _ _ _ m;grind
    grind
   .split at e
    .obtain⟨c,o,v3,m,p⟩:=eh e;have:=ih.rest _ _ _ _ _ _ m;grind
    grind
def whole:Bd->Prop
 | .mk kind _ _ parts=>kind=63->parts.length=3
structure aC2(T:List Tok)(f:Nat):Prop where
 lit:∀ k v d x k' v',nt T f k v d=O (.ok x k' v')->whole x
 lits:∀ k v d acc x k' v',(∀ b∈acc,whole b)->pS T f k v d acc=O (.ok x k' v')->(∀ b∈x,whole b)/\acc.length<x.length
 row:∀ k v d x k' v',nN T f k v d=O (.ok x k' v')->whole x
 rest:∀ k v d x k' v',pU T f k v d=O (.ok x k' v')->whole x
 body:∀ k v d x k' v',mw T f k v d=O (.ok x k' v')->whole x
def abD(T:List Tok):∀ f,aC2 T f
 | 0=>⟨by simp_all [nt],by simp_all [pS],by simp_all [nN],by simp_all [pU],by simp_all [mw]⟩
 | f+1=>by
  have ih:=abD T f;refine⟨?_,?_,?_,?_,?_⟩
  .intro k v d x k' v' h;rw[nt] at h;split at h
   .grind
   split at h
   .grind [aZ9,cg.ok.injEq,whole]
   split at h
   .obtain⟨a,i,v1,g,e⟩:=eh h;grind [aZ9,cg.ok.injEq,whole]
   split at h
   .obtain⟨a,i,v1,g,e⟩:=eh h;rw[(nR e).2.1];exact ih.body _ _ _ _ _ _ g
   obtain⟨a,i,v1,g,e⟩:=eh h;split at e
   .obtain⟨b,m,v2,j,l⟩:=eh e;grind [aZ9,cg.ok.injEq,whole]
   grind [aZ9,cg.ok.injEq,whole]
  .intro k v d acc x k' v' r h;rw[pS] at h;obtain⟨y,i,v1,g,e⟩:=eh h;have s:=ih.lit _ _ _ _ _ _ g;have n:∀ b∈acc++[y],whole b:=by
    grind
   split at e
   .have j:=ih.lits _ _ _ _ _ _ _ n e;grind
   grind
  .intro k v d x k' v' h;rw[nN] at h;obtain⟨y,i,v1,g,e⟩:=eh h;have j:=(ih.lits _ _ _ _ _ _ _ zs g).1;grind [aZ9,cg.ok.injEq,whole]
  .intro k v d x k' v' h;rw[pU] at h;split at h
   .grind
   .exact ih.body _ _ _ _ _ _ h
  .intro k v d x k' v' h;rw[mw] at h;obtain⟨a,i,v1,g,e⟩:=eh h;split at e
   .obtain⟨b,m,v2,j,l⟩:=eh e;split at l
    .obtain⟨c,o,v3,p,q⟩:=eh l;grind [aZ9,cg.ok.injEq,whole]
    grind [aZ9,cg.ok.injEq,whole]
   .split at e
    .obtain⟨c,o,v3,p,q⟩:=eh e;grind [aZ9,cg.ok.injEq,whole]
    .simp only[aZ9,cg.ok.injEq] at e;rw[<- e.1];exact ih.row _ _ _ _ _ _ g
end P
structure mF(w:Z)(B:Nat):Prop where
 lt:3<B
 cell:∀ j,j<9->w.cell? ⟨3,j,V⟩=O (aM (LH.getD j []))
theorem mF.ext(h:mF w B)(hw:∀ (b:Nat) (o:Obj),b<B->w.heap[b]?=O o->w'.heap[b]?=O o):mF w' B:=
 ⟨h.lt,fun j a=>Mb (h.cell j a) (by grind [lt])⟩
theorem mF.fr(a:mF w tb)(h:cY pb w w')(d:tb<pb):mF w' tb:=
 a.ext fun b o e c=>h.block _ _ c (by rintro (h | ⟨h,_⟩)<;>omega)
structure OU(f:Nat):Prop where
 go:∀ {pb tb:Nat} {T:List P.Tok} {k:Nat} {vars:List Bs} {d:Nat} {w:Z} {r:cg Bd},SP w pb tb T k vars d->mF w tb->d<=8 ->
  nt T f k vars d=O r->Calls a9X 115 #[pp pb] w (jS dJ pb tb T d w r)
structure OV(f:Nat):Prop where
 go:∀ {pb tb:Nat} {T:List P.Tok} {k:Nat} {vars:List Bs} {d:Nat} {w:Z} {r:cg Bd},SP w pb tb T k vars d->mF w tb->d<=8 ->
  nN T f k vars d=O r->Calls a9X 114 #[pp pb,.int .u8 44,aM [44],.func (.func 115) #[pp pb] #[]] w (jS dJ pb tb T d w r)
structure J1(f:Nat):Prop where
 go:∀ {pb tb:Nat} {T:List P.Tok} {k:Nat} {vars:List Bs} {d:Nat} {w:Z} {r:cg Bd},SP w pb tb T k vars d->mF w tb->d<=8 ->
  mw T f k vars d=O r->Calls a9X 53 #[pp pb] w (jS dJ pb tb T d w r)
theorem dJ.shape{x:Bd}(h:dJ F w v x):∃ b,v=pp b/\F b:=by
 cases x with
 | mk kind name args parts=>
  unfold dJ at h;obtain⟨b,_,_,_,_,a,c,_⟩:=h;exact⟨b,a,c⟩
def gx.snoc{F:Nat->Prop}{w:Z}{v:Y}{x:Bd}(hv:dJ F w v x):∀ {l:List Bd} {vs:List Y},gx F w vs l->gx F w (vs++[v]) (l++[x])
 | [],vs,h=>by
  unfold gx at h;subst h;simp only[List.nil_append];unfold gx;exact⟨v,[],J,hv,by unfold gx;rfl⟩
 | y::l,vs,h=>by
  unfold gx at h;obtain⟨u,r,rfl,a,b⟩:=h;simp only[List.cons_append];unfold gx;exact⟨u,r++[v],J,a,gx.snoc hv b⟩
def gx.length{F:Nat->Prop}{w:Z}:∀ {l:List Bd} {vs:List Y},gx F w vs l->vs.length=l.length
 | [],vs,h=>by unfold gx at h;rw[h];rfl
 | x::xs,vs,h=>by
  unfold gx at h;obtain⟨v,r,rfl,_,a⟩:=h;simp [gx.length a]
def H7:ln F w bH []:=⟨[],.inl ⟨J,J⟩,by unfold eH;rfl⟩
def J2:JF F w bH []:=⟨[],.inl ⟨J,J⟩,by unfold gx;rfl⟩
def aC3{x:Bd}(a:F b)(h:w.heap[b]?=aN #[u] 84)(hx:dJ F w u x) :
  JF F w (cM b 1 1) [x]:=by
 refine⟨[u],.inr ⟨b,#[u],J,a,h,a0d _,J⟩,?_⟩;unfold gx;exact⟨u,[],J,hx,by unfold gx;rfl⟩
def aC4{x y:Bd}(a:F b)(h:w.heap[b]?=aN #[u,v] 84)(hx:dJ F w u x)(c:dJ F w v y) :
  JF F w (cM b 2 2) [x,y]:=by
 refine⟨[u,v],.inr ⟨b,#[u,v],J,a,h,a0d _,J⟩,?_⟩;unfold gx;refine⟨u,[v],J,hx,?_⟩;unfold gx;exact⟨v,[],J,c,by unfold gx;rfl⟩
def Dv{name:Bs}{args:List Ex}(d:F b)
  (h:w.heap[b]?=aN #[.int .u8 pb,aM name,av,tv] 149) (a:ln F w av args) (c:JF F w tv gz) :
  dJ F w (pp b) (.mk pb name args gz):=by
 obtain⟨vs,e,f⟩:=a;obtain⟨us,g,i⟩:=c;unfold dJ;grind
theorem JF.mono{F F':Nat->Prop}{w w':Z}{v:Y}{l:List Bd}(a:∀ b,F b->F' b)(hw:∀ b o,F b->C8 o->w.heap[b]?=O o->w'.heap[b]?=O o)
  (h:JF F w v l):JF F' w' v l:=by
 obtain⟨vs,c,f⟩:=h;exact⟨vs,c.mono a fun b cs d e=>hw b _ d ⟨zg,J⟩ e,(by grind [gx.mono])⟩
def akH:(Tryz.prog.info? 84).map (fun i=>(i.zero,i.size,i.bytes))=O (O (aq V),1,8):=zk
abbrev akI(pb:Nat):Y:=.func (.func 115) #[pp pb] #[]
def RJ(pb tb:Nat)(T:List P.Tok)(d:Nat)(w0:Z)(c:cg (List Bd))(n:Nat)(a:Act)(w:Z):Prop:=
 ∃ (acc:List Bd) (k:Nat) (vs:List Bs) (xs:List Y) (sl e f g h u8 i j l m o p u16 q r s t u x y z B C D E F H:Y),a={ tmps:=#[pp pb,.int .u8 44,aM [44],akI pb,e,f,g,h,u8,sl,i,j,l,m,o,p,u16,q,r,s,t,u,x,y,z,B,C,D,E,F,H],defers:=[] } /\
  w.ownsRow w0.heap.size 84 1 sl acc.length xs/\gx (fun b=>Nu w0 w b/\sl.ownBlock≠O b) w xs acc/\SP w pb tb T k vs d/\cY pb w0 w/\0<acc.length/\acc.length<=k /\
  (if ep T k [44] then pS T n (k+1) vs d acc else O (.ok acc k vs))=O c
def aC6(MD:∀ m,m<f->OU m){r:cg Bd}(oJ:SP w0 pb tb T k vars d)(pj:mF w0 tb)(hd:d<=8)
  (h:nN T (f+1) k vars d=O r):Calls a9X 114 #[pp pb,.int .u8 44,aM [44],akI pb] w0 (jS dJ pb tb T d w0 r):=by
 rw[nN] at h;cases Ac:pS T f k vars d [] with
 | none=>rw[Ac] at h;simp [cg.bind] at h
 | some re=>
 rw[Ac] at h;cases f with
 | zero=>simp [pS] at Ac
 | succ f=>
 rw[pS] at Ac;have Sb:=a0a oJ;have H8:=a0a pj;have HR:=a0a h;have Mn:=a0a Ac;have xw:=oJ.d2.2.2;have vZ:=oJ.lt;have hT:=oJ.tw.len;obtain⟨i0,hi,JM,JO,JP⟩:=info_parts akH;clear oJ h Ac pj
 go_enter func114,ntmps114
 go_wp2_with fail
 cases hq:nt T f k vars d with
 | none=>have e:=Mn.out;rw[hq] at e;simp [cg.bind] at e
 | some q=>
 have e:=Mn.out;rw[hq] at e;refine((MD f zo).go Sb.out H8.out hd hq).mono ?_;cases q with
 | err c0 a0=>
  rintro e2 w4 ⟨⟨b,rfl,eK,gy⟩,dU,gN⟩;simp only[cg.bind,aZ9] at e;subst e;have hr:=HR.out;simp only[cg.bind,aZ9] at hr;subst hr;exact⟨J,⟨b,J,eK,gy⟩,dU,gN⟩
 | ok x k' uS=>
 rintro e2 w1 ⟨v,rfl,hv,fy,eU⟩;simp only[cg.bind] at e;obtain⟨bx,rfl,jA⟩:=hv.shape;have nA:=(Sa T f).lit _ _ _ _ _ _ hq;have pf:=eU.size;have eO:(w1.alloc (ae #[pp bx] 84)).ownsRow w0.heap.size 84 1 (cM w1.heap.size 1 1) 1 [pp bx]:=
  ⟨J,.inr ⟨w1.heap.size,1,_,J,zo,blk_alloc_new _ _,a0d _,zd,J,J⟩⟩
 have iW:gx (fun b=>Nu w0 (w1.alloc (ae #[pp bx] 84)) b/\(a0m (O ⟨w1.heap.size,0,V⟩) 1 1).ownBlock≠O b) (w1.alloc (ae #[pp bx] 84)) [pp bx] [x]:=by
  have:=gx.snoc (l:=[]) (vs:=[]) (F:=fun b=>Nu w0 (w1.alloc (ae #[pp bx] 84)) b/\(a0m (O ⟨w1.heap.size,0,V⟩) 1 1).ownBlock≠O b) (w:=w1.alloc (ae #[pp bx] 84)) (v:=pp bx) (x:=x)
   (dJ.mono (fun b hb=>⟨(by grind [size_alloc]),fun e=>by injection e with e;grind⟩) (by grind [dQ]) _ _ hv) (by unfold gx;rfl)
  grind
 have RR:=a0a eO;have lU:=a0a iW;have iQ:=a0a (fy.ext (w':=w1.alloc (ae #[pp bx] 84)) fun b o h=>dQ h);have fK:Hid (cY pb w0 (w1.alloc (ae #[pp bx] 84))):=a0a (eU.alloc _);have HE:=a0a e;have HK:=a0a nA;clear hv fy eU eO iW e hq jA Mn nA
 go_wp2_with fail
 refine wp_loop_ghost (fun n a w=>n<=f/\RJ pb tb T d w0 re n a w) ⟨f,a0d _,[x],k',uS,_,_,_,_,_,_,_,_,_,_,_,_,_,_,_,_,_,_,_,_,_,_,_,_,_,_,_,_,J,RR.out,lU.out,iQ.out,fK.out,Nat.zero_lt_one,by have:=HK.out;simp;omega,by simpa using HE.out⟩ ?_;clear RR lU iQ fK HK HE pf;rintro n a w ⟨Zm,acc,k2,vs,xs,sl,u4,u5,u6,u7,u8,yA,yB,yC,vW,vX,yD,u16,yE,yG,BL,BM,BN,BO,BP,BQ,BR,BT,BU,Dg,Dh,Di,rfl,dR,lu,hp,hf,h0a,VV,hr⟩;have F7:=hp.kt;have hz:=hf.size;have BV:=hp.d2.2.2;obtain⟨g',rk,rfl⟩:∃ g cap,sl = cM g acc.length cap:=by
  obtain⟨g1,g2 | ⟨g,cp,cur,e1,e2,e3,e4⟩⟩:=dR<;>grind
 have HO:=a0a dR;have HX:=a0a lu;have HP:=a0a hp;have HF:=a0a hf;by_cases hc:ep T k2 [44]=A
 .rw[zip hc] at hr;cases n with
  | zero=>grind [pS]
  | succ n=>
  rw[pS] at hr;have Ab:=a0a hr;clear dR lu hp hf hr
  go_wp2_with fail
  refine(uP HP.out [44] hc).mono ?_;rintro e w2 ⟨rfl,fy,eU⟩;have iQ:=a0a fy;have fK:=a0a eU;clear fy eU hc
  go_wp2_with fail
  cases hq:nt T n (k2+1) vs d with
  | none=>have e:=Ab.out;rw[hq] at e;simp [cg.bind] at e
  | some q=>
  have e:=Ab.out;rw[hq] at e;refine((MD n zo).go iQ.out (H8.out.fr (HF.out.trans fK.out) vZ) hd hq).mono ?_;cases q with
  | err c0 a0=>
   rintro e2 w4 ⟨⟨b,rfl,eK,gy⟩,dU,gN⟩;simp only[cg.bind,aZ9] at e;subst e;have hr:=HR.out;simp only[cg.bind,aZ9] at hr;subst hr;have:=fK.out.size;exact⟨J,⟨b,J,eK,zo⟩,(HF.out.trans fK.out).trans dU,gN⟩
  | ok x k' uS=>
  rintro e2 w3 ⟨v,rfl,hv,gK,dU⟩;simp only[cg.bind] at e;obtain⟨bx,rfl,jA⟩:=hv.shape;have nA:=(Sa T n).lit _ _ _ _ _ _ hq;have qL:=fK.out.size;have EH:=dU.size;have jU:=gK.kt;have aa8:=iQ.out.d2.2.2;have rW:=gK.d2.2.2;have xx:w3.ownsRow w0.heap.size 84 1 (cM g' acc.length rk) acc.length xs:=by
   obtain⟨g1,g2 | ⟨g,cp,cur,e1,e2,e3,e4⟩⟩:=HO.out
   .omega
   .exact⟨g1,.inr ⟨g,cp,cur,e1,e2,cY.ll dU ⟨zg,J⟩ (cY.ll fK.out ⟨zg,J⟩ e3 zo) zo,e4⟩⟩
  have JQ:gx (fun b=>Nu w0 w3 b/\(a0m (O ⟨g',0,V⟩) acc.length rk).ownBlock≠O b) w3 xs acc:=
   gx.mono zg (by grind [cY.ll,Hid.out]) _ _ HX.out
  have uT:=a0a xx;have lU:=a0a JQ;have HV:=a0a hv;have kz:=a0a gK;have iu:=a0a ((HF.out.trans fK.out).trans dU);have HE:=a0a e;have Aa:=a0a jA;have HK:=a0a nA;clear hv gK dU xx JQ e hq jA nA
  go_wp2_with (at_builtin;go_must (refine Rd J _ _ 147 J w0.heap.size 84 i0 _ 1 8 underlying147 hi JM JO JP J zo _ _ _ J (uT.out.alloc _) ⟨w3.heap.size,0,V⟩ 1 1 [pp bx] J J (Ot J) (by simp [Value.oneCell']) (by grind [maxLen]) zo (by simp;omega) ?_;intro v' w4 rV yI AW;obtain⟨g2,Gd,rfl⟩:=LP rV;have F8:=a0a rV;have tU:=a0a yI;have RO:=a0a AW;clear rV yI AW))
  have jt:SP w4 pb tb T k' uS d:=(kz.out.ext fun b o h=>dQ (o:=Obj.cells #[Value.pointer (O ⟨bx,0,V⟩)] 84) h).OK (uT.out.alloc _) zg zo tU.out;have er:cY pb w0 w4:=(iu.out.alloc _).OL tU.out fun k hk=>(uT.out.lt k hk).1;have OP:=tU.out.size;rw[size_alloc] at OP;have OO:∀ (b:Nat) (o:Obj),w3.heap[b]?=O o->(a0m (O ⟨g',0,V⟩) acc.length rk).ownBlock≠O b->w4.heap[b]?=O o:=fun b o h dZ=>by
   have h':=dQ (o:=Obj.cells #[Value.pointer (O ⟨bx,0,V⟩)] 84) h;rw[tU.out.block b (bf h') (fun e=>dZ e.symm)];omega
  have oK:∀ b,b<w3.heap.size->(a0m (O ⟨g',0,V⟩) acc.length rk).ownBlock≠O b->(a0m (O ⟨g2,0,V⟩) (acc.length+1) Gd).ownBlock≠O b:=fun b hb dZ=>by
   rcases RO.out with h | h
   .rw[h];exact dZ
   grind [size_alloc]
  have hbn:∀ b,Nu w2 w3 b->(a0m (O ⟨g',0,V⟩) acc.length rk).ownBlock≠O b:=fun b hb e=>by
   have:=(HO.out.lt b e).2;omega
  have aa9:gx (fun b=>Nu w0 w4 b/\(a0m (O ⟨g2,0,V⟩) (acc.length+1) Gd).ownBlock≠O b) w4 (xs++[pp bx]) (acc++[x]):=
   gx.snoc (dJ.mono zg zg _ _ HV.out)
    (gx.mono zg zg _ _ lU.out)
  have nA:=HK.out;exact⟨n,Nat.lt_succ_self n,zo,acc++[x],k',uS,_,_,_,_,_,_,_,_,_,_,_,_,_,_,_,_,_,_,_,_,_,_,_,_,_,_,_,_,J,by rw[List.length_append];exact F8.out,aa9,jt,er,zs,zg,HE.out⟩
 .rw[bX hc,aZ9] at hr;subst hr;clear dR lu hp hf;have hr:=HR.out;simp only[cg.bind,aZ9] at hr;subst hr;clear HR;have AY:=(HO.out.lt g' J);have iA:=EC HO.out (F:=Nu w0 w) (fun b hb=>⟨(HO.out.lt b hb).1,(HO.out.lt b hb).2⟩);have Mo:gx (Nu w0 w) w xs acc:=gx.mono zg zg _ _ HX.out;have HSL:=a0a iA;have HXN:=a0a Mo;clear iA Mo;by_cases h1:acc.length=1
  .obtain⟨b1,rfl⟩:∃ b1,acc=[b1]:=List.length_eq_one_iff.1 h1;have rm:=HXN.out;unfold gx at rm;obtain⟨v1,r1,e1,kH,pW⟩:=rm;unfold gx at pW;subst pW;subst e1;have ox:w.cell? ⟨g',0,V⟩=O v1:=by
    obtain⟨g1,g2 | ⟨g,cp,cur,e1,e2,e3,e4,e5,e6,e7⟩⟩:=HO.out
    .omega
    .cases e1;refine cellOf e3 ?_;have h1:(cur.toList.take 1)[0]?=O v1:=zg;grind
   have V9:=a0a kH;have Dl:=AY.2;clear kH h1
   go_wp2_with fail
   refine(p8 HP.out [44] zg zd).mono ?_;rintro e w2 ⟨rfl,rfl⟩;clear hc
   go_wp2_with fail
   go_ret
   exact⟨_,J,V9.out,HP.out,HF.out⟩
  .have A7:((acc.length:Int) == 1)=false:=zg;have qf:¬ (acc.length:Int)=1:=zo
   go_wp2_with fail
   refine(p8 HP.out [44] zg zd).mono ?_;rintro e w2 ⟨rfl,rfl⟩;clear hc
   go_wp2_with fail
   go_ret
   refine⟨_,J,?_,HP.out.ext (by grind [dQ]),HF.out.alloc _⟩;have key:=(show dJ (Nu w0 (w.alloc (ae #[.int .u8 44,aM [],bH,cM g' acc.length rk] 149))) (w.alloc (ae #[.int .u8 44,aM [],bH,cM g' acc.length rk] 149)) (pp w.heap.size) (.mk 44 [] [] acc) from Dv (by grind [size_alloc]) (blk_alloc_new _ _) H7 (JF.mono (by grind [size_alloc]) (by grind [dQ]) ⟨xs,HSL.out,HXN.out⟩));rcases acc with _ | ⟨x1,_ | ⟨x2,l⟩⟩
   .grind
   .grind
   .exact key
def akK:OV 0:=⟨fun _ _ _ h=>by simp [nN] at h⟩
theorem aC8(d:∀ m,m<f->OU m):OV f:=by
 cases f with
 | zero=>exact akK
 | succ f=>exact⟨fun a b c h=>aC6 zg a b c h⟩
def P.Sc(T:List P.Tok)(f k:Nat)(vars:List Bs)(d:Nat):Option (cg Bd):=
 cg.bind (nN T f k vars d) fun a c v1=>
  if ep T c [45,62] then cg.bind (nN T f (c+1) v1 d) fun b e v2=>O (.ok (.mk 63 [] [] [a,b]) e v2) else O (.ok a c v1)
def aC9(F:Nat->Prop)(w:Z)(v:Y)(x:Bd):Prop:=
 (P.whole x/\dJ F w v x) \/
 ∃ (a b:Bd) (n g:Nat) (c vb:Y),x = .mk 63 [] [] [a,b]/\v=pp n/\F n/\F g/\n≠g /\
  w.heap[n]?=aN #[.int .u8 63,aM [],bH,cM g 2 2] 149/\w.heap[g]?=aN #[c,vb] 84 /\
  dJ (fun m=>F m/\m≠n/\m≠g) w c a/\dJ (fun m=>F m/\m≠n/\m≠g) w vb b
def aDa(eO:OV f){r:cg Bd}(oJ:SP w0 pb tb T k vars d)(pj:mF w0 tb)(hd:d<=8)
  (h:P.Sc T f k vars d=O r):Calls a9X 85 #[pp pb] w0 (jS aC9 pb tb T d w0 r):=by
 unfold P.Sc at h;have Sb:=a0a oJ;have H8:=a0a pj;have HR:=a0a h;have xw:=oJ.d2.2.2;have vZ:=oJ.lt;clear oJ h pj
 go_enter func85,ntmps85
 go_wp2_with fail
 cases hq:nN T f k vars d with
 | none=>have e:=HR.out;rw[hq] at e;simp [cg.bind] at e
 | some q=>
 have e:=HR.out;rw[hq] at e;refine(eO.go Sb.out H8.out hd hq).mono ?_;cases q with
 | err c0 a0=>
  rintro e2 w4 ⟨⟨b,rfl,eK,gy⟩,dU,gN⟩;simp only[cg.bind,aZ9] at e;subst e;exact⟨J,⟨b,J,eK,gy⟩,dU,gN⟩
 | ok x k1 v1=>
 rintro e2 w1 ⟨v,rfl,hv,dD,fY⟩;simp only[cg.bind] at e;obtain⟨bx,rfl,jA⟩:=hv.shape;have H9:=(abD T f).row _ _ _ _ _ _ hq;have pf:=fY.size;have V9:=a0a hv;have kz:=a0a dD;have iu:=a0a fY;have Aa:=a0a jA;have HWH:=a0a H9;have HE:=a0a e;clear hv dD fY jA H9 e hq HR;by_cases hc:ep T k1 [45,62]=A
 .go_wp2_with fail
  refine(uP kz.out [45,62] hc).mono ?_;rintro e w2 ⟨rfl,fy,eU⟩;have iQ:=a0a fy;have fK:=a0a eU;have qL:=eU.size;clear fy eU
  go_wp2_with fail
  have e:=HE.out;rw[zip hc] at e;cases hq:nN T f (k1+1) v1 d with
  | none=>rw[hq] at e;simp [cg.bind] at e
  | some q=>
  rw[hq] at e;refine(eO.go iQ.out (H8.out.fr (iu.out.trans fK.out) vZ) hd hq).mono ?_;cases q with
  | err c0 a0=>
   rintro e2 w4 ⟨⟨b,rfl,eK,gy⟩,dU,gN⟩;simp only[cg.bind,aZ9] at e;subst e;exact⟨J,⟨b,J,eK,zo⟩,(iu.out.trans fK.out).trans dU,gN⟩
  | ok y k2 v2=>
  rintro e2 w3 ⟨v,rfl,hv,gK,dU⟩;simp only[cg.bind,aZ9] at e;subst e;obtain⟨Gm,rfl,nO⟩:=hv.shape;have EH:=dU.size;have Wa:=a0a hv;have tV:=a0a gK;have nT:=a0a dU;have rW:=gK.d2.2.2;have aUw:=kz.out.d2.2.2;clear hv gK dU nO hq HE hc
  go_wp2_with fail
  go_ret
  have gS:∀ o o',((w3.alloc o).alloc o').heap.size=w3.heap.size+2:=(by grind [size_alloc]);refine⟨_,J,.inr ⟨x,y,w3.heap.size+1,w3.heap.size,_,_,J,J,zg,zg,zo,EB (by rw[size_alloc]),dQ (blk_alloc_new _ _),?_,?_⟩,
   (by grind [dQ,SP.ext,Hid.out]),(by grind [trans,bz.alloc,bz.trans,Hid.out])⟩
  .exact dJ.mono zg
    (by grind [dQ,cY.ll,Hid.out]) _ _ V9.out
  .exact dJ.mono zg
    (by grind [dQ]) _ _ Wa.out
 .go_wp2_with fail
  refine(p8 kz.out [45,62] zg zd).mono ?_;rintro e w2 ⟨rfl,rfl⟩
  go_wp2_with fail
  go_ret
  have e:=HE.out;rw[bX hc,aZ9] at e;subst e;exact⟨_,J,.inl ⟨HWH.out,V9.out⟩,kz.out,iu.out⟩
