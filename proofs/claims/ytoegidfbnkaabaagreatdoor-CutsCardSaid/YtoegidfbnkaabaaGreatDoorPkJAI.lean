/- A part of one proof (SSmall, PureL, SX1, PureL2, SX2, PureB, SCon2, SRow, SCond). -/
import Derived.Test.YtoegidfbnkaabaaGreatDoorPkJAH
import Derived.Shelf.Strings.SlTrimAscii
set_option linter.all false
set_option maxRecDepth 100000
set_option maxHeartbeats 8000000
open Option renaming some → O, none → V
open Go renaming Value → Y, World → Z
open Bool renaming true → A, false → G
open Go.Obj renaming cells → ae
open Go.Ending renaming returned → ah
open Go.Value renaming iface → aj, pointer → aq
open Option.some renaming injEq → aZG
open Go.Lib renaming hid → aZH, trimS → a5h
open Nat renaming le_refl → aZK, not_lt_zero → a1C
open List renaming getElem?_eq_getElem → aZM, drop_eq_getElem_cons → aZP, mem_cons → aZU, not_mem_nil → aZ2, mem_of_find?_eq_some → a0B, all_cons → a04
open Go.Value renaming slice → aZT
open UInt8 renaming toNat_inj → a0z
open Sum.inr renaming injEq → a3K
open Go.Proofs.Tryz renaming prog → a9w
open Go.Proofs.Tryz
namespace Go.Proofs.YtoegidfbnkaabaaGreatDoor
open P
open Go.RowKit
variable{B b base d f i k m n pb tb:Nat}{F:Nat->Prop}{T:List P.Tok}{X:Y->Z->Prop}{av tv u v vv:Y}{gy:List Bd}{vars:List Bs}{w w' w0 w1 w2:Z}
def akr(c:UInt8):Calls a9w 111 #[.int .u8 c.toNat] w fun e w'=>e = ah (.int .u8 (P.cls c))/\w'=w:=by
 have hc:c.toNat<256:=c.toNat_lt;unfold P.cls;obtain⟨n,hn⟩:=cd c.toNat;rw[<- hn] at hc ⊢;clear hn;by_cases a1:97<=n
 .by_cases a2:n<=122
  .have b1:(97:Int)<=n:=zo;have b2:(n:Int)<=122:=zo;rw[zip ⟨a1,a2⟩]
   go_enter func111,ntmps111
   go_wp2_with fail
   go_ret
   exact⟨J,J⟩
  .have b1:(97:Int)<=n:=zo;have b2:¬ (n:Int)<=122:=zo;have b3:(65:Int)<=n:=zo;have b4:¬ (n:Int)<=90:=zo;have b5:((n:Int) == 95)=false:=zg;have b6:(48:Int)<=n:=zo;have b7:¬ (n:Int)<=57:=zo;have b8:¬ (n:Int)=95:=zo;rw[bZ zo,bZ zo,bZ zo]
   go_enter func111,ntmps111
   go_wp2_with fail
   go_ret
   exact⟨J,J⟩
 .have b1:¬ (97:Int)<=n:=zo;rw[bZ zo];by_cases a3:n=95
  .subst a3
   go_enter func111,ntmps111
   go_wp2_with fail
   go_ret
   exact⟨J,J⟩
  have b5:((n:Int) == 95)=false:=zg;have b8:¬ (n:Int)=95:=zo;by_cases a4:65<=n
  .have b3:(65:Int)<=n:=zo;by_cases a5:n<=90
   .have b4:(n:Int)<=90:=zo;rw[zip zo]
    go_enter func111,ntmps111
    go_wp2_with fail
    go_ret
    exact⟨J,J⟩
   .have b4:¬ (n:Int)<=90:=zo;have b6:(48:Int)<=n:=zo;have b7:¬ (n:Int)<=57:=zo;rw[bZ zo,bZ zo]
    go_enter func111,ntmps111
    go_wp2_with fail
    go_ret
    exact⟨J,J⟩
  .have b3:¬ (65:Int)<=n:=zo;rw[bZ zo];by_cases a6:48<=n
   .have b6:(48:Int)<=n:=zo;by_cases a7:n<=57
    .have b7:(n:Int)<=57:=zo;rw[zip zo]
     go_enter func111,ntmps111
     go_wp2_with fail
     go_ret
     exact⟨J,J⟩
    .have b7:¬ (n:Int)<=57:=zo;rw[bZ zo]
     go_enter func111,ntmps111
     go_wp2_with fail
     go_ret
     exact⟨J,J⟩
   .have b6:¬ (48:Int)<=n:=zo;rw[bZ zo]
    go_enter func111,ntmps111
    go_wp2_with fail
    go_ret
    exact⟨J,J⟩
def Mq(s:Bs):Calls a9w 52 #[aT s] w fun e w'=>e = ah (zi (jG s))/\w'=w:=by
 by_cases c0:s=[116,114,117,101]
 .subst c0
  go_enter func52,ntmps52
  go_wp2_with fail
  go_ret
  exact⟨J,J⟩
 by_cases c1:s=[102,97,105,108]
 .subst c1
  go_enter func52,ntmps52
  go_wp2_with fail
  go_ret
  exact⟨J,J⟩
 by_cases c2:s=[118,97,114]
 .subst c2
  go_enter func52,ntmps52
  go_wp2_with fail
  go_ret
  exact⟨J,J⟩
 by_cases c3:s=[110,111,110,118,97,114]
 .subst c3
  go_enter func52,ntmps52
  go_wp2_with fail
  go_ret
  exact⟨J,J⟩
 by_cases c4:s=[97,116,111,109]
 .subst c4
  go_enter func52,ntmps52
  go_wp2_with fail
  go_ret
  exact⟨J,J⟩
 by_cases c5:s=[105,110,116,101,103,101,114]
 .subst c5
  go_enter func52,ntmps52
  go_wp2_with fail
  go_ret
  exact⟨J,J⟩
 by_cases c6:s=[61]
 .subst c6
  go_enter func52,ntmps52
  go_wp2_with fail
  go_ret
  exact⟨J,J⟩
 by_cases c7:s=[92,61]
 .subst c7
  go_enter func52,ntmps52
  go_wp2_with fail
  go_ret
  exact⟨J,J⟩
 by_cases c8:s=[61,61]
 .subst c8
  go_enter func52,ntmps52
  go_wp2_with fail
  go_ret
  exact⟨J,J⟩
 by_cases c9:s=[105,115]
 .subst c9
  go_enter func52,ntmps52
  go_wp2_with fail
  go_ret
  exact⟨J,J⟩
 by_cases c10:s=[60]
 .subst c10
  go_enter func52,ntmps52
  go_wp2_with fail
  go_ret
  exact⟨J,J⟩
 by_cases c11:s=[62]
 .subst c11
  go_enter func52,ntmps52
  go_wp2_with fail
  go_ret
  exact⟨J,J⟩
 by_cases c12:s=[61,60]
 .subst c12
  go_enter func52,ntmps52
  go_wp2_with fail
  go_ret
  exact⟨J,J⟩
 by_cases c13:s=[62,61]
 .subst c13
  go_enter func52,ntmps52
  go_wp2_with fail
  go_ret
  exact⟨J,J⟩
 by_cases c14:s=[61,58,61]
 .subst c14
  go_enter func52,ntmps52
  go_wp2_with fail
  go_ret
  exact⟨J,J⟩
 have e:jG s=-1:=by
  unfold jG;grind
 rw[e];have d0:(s == ([116,114,117,101]:Bs))=false:=zg;have d1:(s == ([102,97,105,108]:Bs))=false:=zg;have d2:(s == ([118,97,114]:Bs))=false:=zg;have d3:(s == ([110,111,110,118,97,114]:Bs))=false:=zg;have d4:(s == ([97,116,111,109]:Bs))=false:=zg;have d5:(s == ([105,110,116,101,103,101,114]:Bs))=false:=zg;have d6:(s == ([61]:Bs))=false:=zg;have d7:(s == ([92,61]:Bs))=false:=zg;have d8:(s == ([61,61]:Bs))=false:=zg;have d9:(s == ([105,115]:Bs))=false:=zg;have d10:(s == ([60]:Bs))=false:=zg;have d11:(s == ([62]:Bs))=false:=zg;have d12:(s == ([61,60]:Bs))=false:=zg;have d13:(s == ([62,61]:Bs))=false:=zg;have d14:(s == ([61,58,61]:Bs))=false:=zg
 go_enter func52,ntmps52
 go_wp2_with fail
 go_ret
 exact⟨J,J⟩
namespace P
def R7:∀ (f:Nat) (r:Bs) (i:Nat),r.length<f->∃ q,oh f r i=O q
 | 0,r,i,h=>absurd h (a1C _)
 | f+1,[],i,_=>⟨_,by rw[oh]⟩
 | f+1,c::r,i,h=>by
  have b:r.length<f:=zg;rw[oh];split
  .exact R7 f r (i+1) b
  split
  .dsimp only;split
   .grind
   .rename_i g hw;have a:((c::r).drop ((c::r).takeWhile (fun x=>cls x≠0)).length).length<f:=by
     have:0<((c::r).takeWhile (fun x=>cls x≠0)).length:=by
      simp_all
     grind
    obtain⟨q,d⟩:=R7 f ((c::r).drop ((c::r).takeWhile (fun x=>cls x≠0)).length) (i+((c::r).takeWhile (fun x=>cls x≠0)).length) a;grind
  split
  .obtain⟨q,d⟩:=R7 f r (i+1) b;grind
  split
  .grind
  .rename_i s e;have hm:=a0B e;have a:((c::r).drop s.length).length<f:=by
    have:0<s.length:=by
     revert hm
     generalize s=t;intro hm;simp only[og,aZU,aZ2,or_false] at hm;grind
    grind
   obtain⟨q,d⟩:=R7 f ((c::r).drop s.length) (i+s.length) a;grind
def abw(u:Tok):Prop:=u.kind<=4/\(u.kind=3->u.text≠[]/\u.text.all digit=A/\u.text.length<=9)/\(u.kind=1->∃ c r,u.text=c::r/\cls c=115)/\(u.kind=2->u.text≠[])/\(u.kind=4->u.text=[46]\/u.text∈og)
def aCh{w:Bs}(hw:rJ w≠0):abw ⟨rJ w,w,i⟩/\rJ w≠4:=by
 cases w with
 | nil=>exact absurd J hw
 | cons c r=>
  unfold rJ at hw ⊢;dsimp only at hw ⊢;by_cases b:cls c=115
  .rw[zip b] at hw ⊢;split at hw
   .rename_i a;rw[zip a];exact⟨⟨zs,zs,fun _=>⟨c,r,J,b⟩,zs,zs⟩,zo⟩
   omega
  .rw[bZ b] at hw ⊢;by_cases d:cls c=99
   .rw[zip d] at hw ⊢;split at hw
    .rename_i a;rw[zip a];exact⟨⟨zs,zs,zs,zs,zs⟩,zo⟩
    omega
   .rw[bZ d] at hw ⊢;split at hw
    .rename_i a;rw[zip a];exact⟨⟨zs,fun _=>⟨zs,a.2.1,a.1⟩,zs,zs,zs⟩,zo⟩
    omega
structure F8(n:Nat)(T:List Tok):Prop where
 len:T.length<=n+1
 last:∃ l t,T=l++[t]/\t.kind=0/\∀ u∈l,u.kind≠0
 tok:∀ u∈T,abw u
def F8.cons{T:List Tok}(h:F8 n T){u:Tok}(hu:abw u)(b:u.kind≠0)(hm:n<m):F8 m (u::T):=by
 obtain⟨c,⟨l,t,rfl,a,d⟩,e⟩:=h;refine⟨zg,⟨u::l,t,J,a,fun v hv=>?_⟩,fun v hv=>?_⟩<;>grind
theorem F8.mono{T:List Tok}(h:F8 n T)(hm:n<=m):F8 m T:=⟨by have:=h.len;omega,h.last,h.tok⟩
def R8:∀ (f:Nat) (r:Bs) (i:Nat) (T:List Tok),oh f r i=O (.inr T)->F8 r.length T
 | 0,r,i,T,h=>by simp_all [oh]
 | f+1,[],i,T,h=>by
  rw[oh] at h;simp only[aZG,a3K] at h;subst h;exact⟨zs,⟨[],_,J,J,zs⟩,fun u hu=>by
   simp only[aZU,aZ2,or_false] at hu;subst hu;exact⟨zs,zs,zs,zs,zs⟩⟩
 | f+1,c::r,i,T,h=>by
  rw[oh] at h;split at h
  .exact(R8 f r (i+1) T h).mono zs
  split at h
  .dsimp only at h;split at h
   .grind
   .rename_i e hw;have b:0<((c::r).takeWhile (fun x=>cls x≠0)).length:=by
     simp_all
    cases a:oh f ((c::r).drop ((c::r).takeWhile (fun x=>cls x≠0)).length) (i+((c::r).takeWhile (fun x=>cls x≠0)).length) with
    | none=>grind
    | some q=>
     rw[a] at h;cases q with
     | inl j=>grind
     | inr l=>
      simp only[aZG,a3K] at h;rw[<- h];refine(R8 f _ _ l a).cons (aCh hw).1 hw ?_;grind
  split at h
  .cases a:oh f r (i+1) with
   | none=>grind
   | some q=>
    rw[a] at h;cases q with
    | inl j=>grind
    | inr l=>
     simp only[aZG,a3K] at h;rw[<- h];exact(R8 f _ _ l a).cons ⟨zs,zs,zs,zs,fun _=>.inl J⟩ zs zs
  split at h
  .grind
  .rename_i s d;have hm:=a0B d;have g:0<s.length:=by
    revert hm
    generalize s=t;intro hm;simp only[og,aZU,aZ2,or_false] at hm;grind
   cases a:oh f ((c::r).drop s.length) (i+s.length) with
   | none=>grind
   | some q=>
    rw[a] at h;cases q with
    | inl j=>grind
    | inr l=>
     simp only[aZG,a3K] at h;rw[<- h];refine(R8 f _ _ l a).cons ⟨zs,zs,zs,zs,fun _=>.inr hm⟩ zs ?_;grind
def lex(s:Bs):Sum Nat (List Tok):=(oh (s.length+1) s 0).getD (.inl 0)
def R9(s:Bs):oh (s.length+1) s 0=O (lex s):=by
 obtain⟨q,a⟩:=R7 (s.length+1) s 0 (Nat.lt_succ_self _);simp_all [lex]
end P
open Sx
def aks(c a:Int)(w:Z):Calls a9w 47 #[zi c,zi a] w fun e w'=>
  e = .panicked [{ v:=aj 73 (pp w.heap.size),recovered:=false }]/\w'=w.alloc (ae #[zi c,zi a] 77):=by
 refine avQ ?_;exact eR
def akt(c:UInt8)(w:Z):Calls a9w 111 #[.int .u8 c.toNat] w fun e w'=>e = ah (.int .u8 (P.cls c))/\w'=w:=by
 refine(akr c).mono ?_;grind
def aCi(s:Bs)(w:Z)(b:s.length<=100000):Calls a9w 99 #[aT s,aT [48,49,50,51,52,53,54,55,56,57]] w fun e w'=>
  e = ah (aT (a5h s [48,49,50,51,52,53,54,55,56,57]))/\Ext w w':=by
 refine(Any.strings_Trim_laid Tryz.lays160 zk (bs s) (bs [48,49,50,51,52,53,54,55,56,57]) w (by grind [ByteArray.size]) zd (ascii_of_all zd)).mono ?_;rintro e w' ⟨rfl,a⟩;exact⟨J,⟨a.os,a.tape,a.output,a.size,(by grind [bg,Below.block])⟩⟩
theorem aku(c:UInt8):([48,49,50,51,52,53,54,55,56,57]:Bs).contains c=P.digit c:=by
 have h:∀ n:Fin 256,([48,49,50,51,52,53,54,55,56,57]:Bs).contains (UInt8.ofNat n.val)=P.digit (UInt8.ofNat n.val):=zd;have:=h ⟨c.toNat,c.toNat_lt⟩;simpa using this
theorem akv(s:Bs):a5h s [48,49,50,51,52,53,54,55,56,57]=[]↔s.all P.digit=true:=by
 have a:∀ l:Bs,l.dropWhile (([48,49,50,51,52,53,54,55,56,57]:Bs).contains ·)=[]↔l.all P.digit=true:=fun l=>by
  simp only[aku];induction l with
  | nil=>simp
  | cons c l ih=>
   rw[List.dropWhile_cons,a04,Bool.and_eq_true];grind
 unfold a5h Lib.trimLeftS Lib.trimRightS;rw[a];constructor
 .intro h;have b:(s.reverse.dropWhile (([48,49,50,51,52,53,54,55,56,57]:Bs).contains ·))=[]:=by
   cases hx:s.reverse.dropWhile (([48,49,50,51,52,53,54,55,56,57]:Bs).contains ·) with
   | nil=>rfl
   | cons c l=>
    rw[hx,List.all_reverse,a04,Bool.and_eq_true] at h;have:=List.head?_dropWhile_not (([48,49,50,51,52,53,54,55,56,57]:Bs).contains ·) s.reverse;grind [List.head?_cons,aku]
  grind
 grind
def aCj(c:UInt8)(r:Bs)(n:(c::r).length<=100000)(at_:Nat)(w:Z)(y:P.cls c≠0) :
  Calls a9w 112 #[aT (c::r),zi at_,.int .u8 (P.cls c)] w fun e w'=>Ext w w' /\
   ((rJ (c::r)≠0/\e = ah (.agg #[zi (rJ (c::r)),aT (c::r),zi at_]))\/(rJ (c::r)=0/\mN 2 at_ w w' e)):=by
 have a:rJ (c::r)=if P.cls c=115 then(if (c::r).length<=8 then 1 else 0) else if P.cls c=99 then(if (c::r).length<=8 then 2 else 0)
  else if (c::r).length<=9/\(c::r).all P.digit=A/\(c≠48\/r=[]) then 3 else 0:=rfl
 have f:(c::r).getD 0 0=c:=rfl;have z:0<(c::r).length:=zs;have o:r=[]↔(c::r).length=1:=zg;have g:c=48↔c.toNat=48:=by rw[<- a0z];rfl
 have i:P.cls c=115\/P.cls c=99\/P.cls c=100:=by
  unfold P.cls at y ⊢;grind
 obtain⟨s,B⟩:=cd (c::r);rw[<- B] at n f z o a ⊢;have C:Ext w (w.alloc (ae #[zi 0,aT [],zi 0] 142)):=yF;have K:∀ (kd:Nat),rJ s=kd->kd≠0->Ext w (bO (w.alloc (ae #[zi 0,aT [],zi 0] 142)) w.heap.size (ae #[zi kd,aT s,zi at_] 142)):=yF;refine avN ?_;refine bE ?_;refine⟨fun _ w'=>Ext w w'/\rJ s=0,?_,?_⟩
 .rcases i with h | h | h
  .rw[h] at a ⊢;rw[zip rfl] at a;by_cases b:s.length<=8
   .rw[zip b] at a;refine bE ?_;exact yH
   .rw[bZ b] at a;refine bE ?_;exact yF
  .rw[h] at a ⊢;rw[bZ zd,zip rfl] at a;by_cases b:s.length<=8
   .rw[zip b] at a;refine bE ?_;exact yH
   .rw[bZ b] at a;refine bE ?_;exact yF
  .rw[h] at a ⊢;rw[bZ zd,bZ zd] at a;refine bE ?_;refine⟨fun t w'=>Ext w w'/\w'.heap[w.heap.size]?=aM #[zi 0,aT [],zi 0] 142/\t 25 = .bool (decide (rJ s≠0)),?_,?_⟩
   .have j:(w.alloc (ae #[zi 0,aT [],zi 0] 142)).heap[w.heap.size]?=aM #[zi 0,aT [],zi 0] 142:=yH;by_cases p:s.length<=9
    .refine bE ?_;refine(aCi s _ n).mono ?_;rintro e w2 ⟨rfl,k⟩;have q:=C.trans k;have d:=k.ext _ _ j;by_cases l:s.all P.digit=A
     .have u:=(akv s).2 l;rw[u];by_cases D:c.toNat=48
      .have E:(c.toNat:Int)=48:=zo;refine cH f ?_;refine⟨q,d,?_⟩;rw[a];by_cases F:s.length=1
       .have H:(s.length:Int)=1:=zo;rw[zip ⟨p,l,.inr (o.2 F)⟩];grind
       .have H:¬ (s.length:Int)=1:=zo;grind
      .have E:¬ (c.toNat:Int)=48:=zo;refine cH f ?_;refine⟨q,d,?_⟩;rw[a,zip ⟨p,l,.inl (fun e=>D (g.1 e))⟩];grind
     .have u:¬ a5h s [48,49,50,51,52,53,54,55,56,57]=[]:=(by grind [akv]);refine bE ?_;exact yH
    .refine bE ?_;exact yF
   .rintro t w2 ⟨k,d,m⟩ d2;have I:=bg d;rw[m];by_cases hk:rJ s≠0
    .rw[FL _ _ hk];have L:rJ s=3:=by
      grind
     refine cH d ?_;exact yF
    .rw[FM _ _ hk];exact yF
 .rintro t w' ⟨x,hk⟩ M;refine(aks _ _ _).mono ?_;rintro e w2 ⟨rfl,rfl⟩;refine bE ?_;exact⟨x.alloc _,.inr ⟨hk,_,J,yH,x.size⟩⟩
def akx(p:UInt8->Bool):∀ (l:Bs),(∀ m,m<(l.takeWhile p).length->p (l.getD m 0)=A)/\((l.takeWhile p).length<l.length->p (l.getD (l.takeWhile p).length 0)=G)/\(l.takeWhile p).length<=l.length/\l.take (l.takeWhile p).length=l.takeWhile p
 | []=>⟨fun m h=>absurd h (a1C _),fun h=>absurd h (a1C _),aZK _,J⟩
 | c::l=>by
  obtain⟨b,d,e,f⟩:=akx p l;by_cases a:p c=A
  .rw[List.takeWhile_cons,zip a];refine⟨fun m hm=>?_,fun h=>?_,zg,zg⟩
   .cases m with
    | zero=>grind
    | succ m=>simp_all
   grind
  simp_all
def aky(s:Bs)(j m:Nat):(s.drop j).getD m 0=s.getD (j+m) 0:=by
 grind
theorem aby{x:Bs}(h:x∈og):x≠[]/\x.length<=3:=by
 simp only[og,aZU,aZ2,or_false] at h;rcases h with rfl | rfl | rfl | rfl | rfl | rfl | rfl | rfl | rfl | rfl | rfl | rfl | rfl | rfl | rfl | rfl | rfl | rfl | rfl | rfl | rfl | rfl | rfl<;>decide
def F9(p:Bs->Bool)(k:Nat):Bs:=((og.take k).find? p).getD []
def aCn{p:Bs->Bool}(hk:k<23)(h:F9 p k=[]):F9 p (k+1)=if p (og.getD k [])=A then og.getD k [] else []:=by
 have b:k<og.length:=hk;have c:(og.take k).find? p=none:=by
  cases a:(og.take k).find? p with
  | none=>rfl
  | some x=>
   rw[F9,a] at h;exact absurd h (aby (List.mem_of_mem_take (a0B a))).1
 grind [og,F9,List.take_add_one,aZM]
theorem abz(p:Bs->Bool):F9 p 23=(og.find? p).getD []:=rfl
def aCo{p:Bs->Bool}(h:F9 p k≠[]):F9 p 23=F9 p k:=by
 have e:og=og.take k++og.drop k:=(List.take_append_drop k _).symm;rw[abz];unfold F9 at h ⊢;cases a:(og.take k).find? p with
 | none=>grind
 | some x=>grind
def Mr(acc:List P.Tok):Sum Nat (List P.Tok)->Sum Nat (List P.Tok)
 | .inl i=>.inl i
 | .inr l=>.inr (acc++l)
def V0(T:List P.Tok)(f:Nat)(nm:Bs)(l:List Ex)(bd:Bd)(k:Nat)(vs:List Bs):Option (cj Cl):=
 if eh T k [58,45]=A then cj.bind (ml T f (k+1) vs 0) fun b k' vars'=>mW T [46] ⟨nm,l,b,vars'⟩ k' vars'
 else mW T [46] ⟨nm,l,bd,vs⟩ k vs
def abA(T:List P.Tok)(f:Nat)(nm:Bs)(at_:Nat)(l:List Ex)(bd:Bd)(k:Nat)(vs:List Bs):Option (cj Cl):=
 if 0<=jG nm\/nm=[109,111,100] then O (.err 3 at_) else V0 T f nm l bd k vs
def BT:List P.Tok->List Y
 | []=>[]
 | t::l=>.int .i64 t.kind::.string (bs t.text)::.int .i64 t.pos::BT l
theorem akz:∀ (l:List P.Tok) (t:P.Tok),BT (l++[t])=BT l++[zi t.kind,aT t.text,zi t.pos]
 | [],t=>rfl
 | u::l,t=>by
  show _::_::_::BT (l++[t])=_;rw[akz l t];rfl
theorem akA:∀ (l:List P.Tok) (j:Nat),j<l.length->(BT l)[j*3]?=O (zi (tk l j).kind)/\(BT l)[j*3+1]?=O (aT ((tk l j).text))/\(BT l)[j*3+2]?=O (zi (tk l j).pos)
 | [],j,h=>zg
 | u::l,0,_=>⟨J,J,J⟩
 | u::l,j+1,h=>by
  have:=akA l j zg;have e:(j+1)*3=j*3+3:=zo;rw[e];exact this
def aCp:(Tryz.prog.info? 142).map (fun i=>(i.zero,i.size,i.bytes))=O (O (.agg #[zi 0,aT [],zi 0]),3,32):=zk
def V1{acc:List P.Tok}(c:w.ownsRow base 142 3 v acc.length (BT acc)){kd:Nat}{tx:Bs}{ps:Nat}
  (d:w.heap[b]?=aM #[vv,tv,av] 142) (hk:vv=zi kd) (ht:tv = aT tx) (f:av=zi ps)
  (p:acc.length<=100000) (g:base<=w.heap.size) {K:Y->Z->Prop}
  (h:∀ v' w',w'.ownsRow base 142 3 v' (acc++([⟨kd,tx,ps⟩]:List P.Tok)).length (BT (acc++([⟨kd,tx,ps⟩]:List P.Tok)))->w.grownBy w' v.ownBlock->(v'.ownBlock=v.ownBlock\/∀ k,v'.ownBlock=O k->w.heap.size<=k)->K v' w') :
  WR a9w (Builtin.append_ #[143,143] 143 #[v,cR b 1 m]) w K X:=by
 subst hk ht f;obtain⟨i,j,a⟩:=Option.map_eq_some_iff.1 aCp;simp only[Prod.mk.injEq] at a;obtain⟨l,n,o⟩:=a;refine ajh (m:=1) (t:=143) (e:=142) zk j l n o J zo c d J (fun u hu=>?_) zo zo g ?_
 .simp only[aZU,aZ2,or_false] at hu;rcases hu with rfl | rfl | rfl<;>rfl
 grind [akz,List.length_append]
def Ms(w:Z):Prop:=∃ cs T z,w.heap[1]?=O (ae cs T z)/\23<=cs.size/\cs.toList.take 23=og.map fun s=>aT s
theorem Ms.ext{w w':Z}(h:Ms w)(a:Ext w w'):Ms w':=by
 obtain⟨cs,T,z,b,c⟩:=h;exact⟨cs,T,z,a.ext _ _ b,c⟩
def aCq(w:Z)(s:Bs)(e:Ending)(w':Z):Prop:=
 Ext w w'/\if 2000<s.length then mN 1 0 w w' e else match P.lex s with
 | .inl i=>mN 2 i w w' e
 | .inr T=>∃ v,e = ah v/\w'.ownsRow w.heap.size 142 3 v T.length (BT T)
def Mt{c a:Int}{e:Ending}(h:mN c a w1 w2 e)(hw:w.heap.size<=w1.heap.size):mN c a w w2 e:=by
 obtain⟨b,d,f,g⟩:=h;exact⟨b,d,f,zo⟩
def akB(c a:Int)(w:Z):Calls a9w 47 #[zi c,zi a] w fun e w'=>mN c a w w' e/\Ext w w':=by
 refine(aks c a w).mono ?_;rintro e w' ⟨rfl,rfl⟩;exact⟨⟨_,J,yH,aZK _⟩,yF⟩
def akC(s:Bs)(w:Z)(hl:s.length<=100000)(hT:Ms w):Calls a9w 84 #[aT s] w (aCq w s):=by
 refine avM ?_;refine⟨fun _ w'=>w'=w/\s.length<=2000,?_,?_⟩
 .by_cases h2:2000<s.length
  .refine JA ?_;refine(akB _ _ _).mono ?_;rintro e w1 ⟨hf,y⟩;obtain⟨b,rfl,h1,M⟩:=hf;refine JA ?_;refine⟨y,?_⟩;rw[zip h2];exact⟨b,J,h1,M⟩
  .refine JA ?_;omega
 .rintro _ w1 ⟨rfl,pY⟩ _;refine⟨fun n t w2=>Ext w1 w2/\∃ j acc f q,n=s.length-j/\j<=s.length/\acc.length<=j/\t 3=zi j/\w2.ownsRow w1.heap.size 142 3 (t 2) acc.length (BT acc) /\
   oh f (s.drop j) j=O q/\Mr acc q=P.lex s,⟨s.length,yF,0,[],_,_,J,Nat.zero_le _,aZK _,J,World.ownsRow_nil _ _ _ _,R9 s,?_⟩,?_⟩
  .cases P.lex s<;>rfl
  intro n t dd w2 N;refine toPr ?_;obtain⟨y,j,acc,f,q,rfl,hj,haj,M,dR,a,Q⟩:=N;have dX:=y.size;by_cases hlt:j<s.length
  .obtain⟨c,r,JU⟩:∃ c r,s.drop j=c::r:=⟨s[j],s.drop (j+1),aZP hlt⟩;have L:s.getD j 0=c:=by
    grind [aZP,aZM]
   have hr:s.drop (j+1)=r:=by
    grind [aZP]
   have aTU:=c.toNat_lt;cases f with
   | zero=>rw[oh] at a;cases a
   | succ f=>
   rw[JU,oh] at a;have oK:(P.blank c=A)↔((c.toNat:Int)=32\/(c.toNat:Int)=10):=by
    have e1:c=32↔c.toNat=32:=by rw[<- a0z];rfl
    have e2:c=10↔c.toNat=10:=by rw[<- a0z];rfl
    simp only[P.blank,Bool.or_eq_true,beq_iff_eq,e1,e2];omega
   simp (disch:=first|assumption|omega|simp only[zS]<;>omega|decide) only[Pr,PX,PC,NX,ends,Em,oF,jd,Nat.reduceAdd,Nat.reduceMul,Nat.reduceLeDiff,Nat.reduceEqDiff,Int.reduceToNat,Int.reduceAdd,Int.reduceLT,Int.reduceLE,↓reduceIte,forall_const,eq_self,aaa,ju,ZK,ZL,Oq,Ot,FL,FM,ZN,ZO,ZP,ZQ,ZR,ZS,ZT,ZU,ZV,ZY,ZZ,ZW,ZX,Z4,Z5,Z6,Z7,Vx,Z1,aab,aac,aaJ,aad,aae,aaf,aag,LQ,sx,pS,iY,Ro,BE,uC,size_alloc,Rt,aam,aah,aai,aaj,aak,aal,aan,aao,aap,aaq,aar,aas,aat,aau,aav,aaw,aax,aay,aaz,aaA,aaB,aaC,aaD,aaE,Ov,Z9,Vs,ZH,ZI,Int.toNat_natCast,Option.isNone_none,Option.isNone_some,List.getElem?_toArray,List.getElem?_cons_zero,List.getElem?_cons_succ,List.setIfInBounds_toArray,List.set_cons_zero,List.set_cons_succ,List.size_toArray,List.length_cons,List.length_nil,List.drop_zero,List.drop_succ_cons,List.take_succ_cons,List.take_zero,List.take_nil,List.drop_nil,a04,List.all_nil,Bool.and_true,Bool.true_and,Nat.zero_add,Nat.add_zero,Nat.mul_one,and_self,and_true,true_and,decide_true,decide_false,Bool.not_true,Bool.not_false,not_true_eq_false,not_false_eq_true,aiK,aiN,aiP,ai2,ai7,ai9,aja,ajg,M,L];refine⟨fun t2 w3=>w3=w2/\t2 3=zi j/\P.blank c=G,?_,?_⟩
   .refine⟨fun t2 w3=>w3=w2/\t2 25 = .bool (P.blank c),?_,?_⟩
    .refine yf (zA @ZM L) ?_;grind
    .rintro t2 w3 ⟨rfl,z⟩ d2;rw[z];cases hb:P.blank c with
     | true=>
      rw[Oq,M];refine JA ?_;refine⟨s.length-(j+1),zo,y,j+1,acc,f,q,J,zo,zo,?_,?_,?_,Q⟩<;>grind
     | false=>
      rw[Ot];grind
   .rintro t2 w3 ⟨rfl,z,oJ⟩ d2;rw[bZ (by simp [oJ])] at a;rw[L];refine(akt c _).mono ?_;rintro e w4 ⟨rfl,rfl⟩;by_cases mO:P.cls c≠0
    .rw[zip mO] at a;have aCr:¬ ((P.cls c:Nat):Int)=0:=zo;refine JA ?_;obtain⟨W,R⟩:=cd (((c::r).takeWhile (fun x=>P.cls x≠0)).length);have Sa:=akx (fun x=>P.cls x≠0) (c::r);rw[<- R] at Sa;dsimp only at a;rw[<- R] at a;obtain⟨Gb,BV,EE,vO⟩:=Sa;have hlen:(c::r).length=s.length-j:=zg;rw[hlen] at BV EE;rw[<- JU] at Gb BV;simp only[aky,decide_eq_true_eq,decide_eq_false_iff_not,ne_eq,Decidable.not_not] at Gb BV;have hWp:0<W:=by
      grind
     refine⟨fun t3 g=>g=w4/\t3 6=zi ((j+W:Nat):Int),?_,?_⟩
     .refine⟨fun n t3 g=>g=w4/\∃ m,n=W-m/\m<=W/\t3 6=zi ((j+m:Nat):Int),⟨W,J,0,J,Nat.zero_le _,?_⟩,?_⟩
      .grind
      .intro n t3 d3 g N;refine toPr ?_;obtain⟨rfl,m,rfl,hm,C⟩:=N;by_cases Zz:j+m<s.length
       .refine yf C ?_;refine(akt _ _).mono ?_;rintro e D ⟨rfl,rfl⟩;by_cases S:m<W
        .have CT:¬ ((P.cls (s.getD (j+m) 0):Nat):Int)=0:=zg;refine yf C ?_;exact⟨W-(m+1),zo,m+1,J,zo,zg⟩
        .have aCs:m=W:=zo;subst aCs;have CT:((P.cls (s.getD (j+m) 0):Nat):Int)=0:=zo;exact aaT C
       .have S:m=W:=by
         omega
        subst S;exact aaT C
     .rintro t3 g ⟨rfl,C⟩ d3;refine yf (zA C z) ?_;have hdt:List.drop j (List.take (j+W) s)=c::r.takeWhile (fun x=>P.cls x≠0):=by
       rw[List.drop_take,JU,show j+W-j=W by omega,vO,List.takeWhile_cons,zip (by simpa using mO)]
      have Gc:(c::r).takeWhile (fun x=>P.cls x≠0)=c::r.takeWhile (fun x=>P.cls x≠0):=zg;rw[hdt];rw[Gc] at a R;obtain⟨wd,Mu⟩:=cd (c::r.takeWhile (fun x=>P.cls x≠0));refine(aCj c _ zo j g mO).mono ?_;rw[<- Mu] at a R ⊢;rintro e D ⟨gW,(⟨AW,rfl⟩| ⟨AW,ja⟩)⟩
      .have s4:=gW.size;rw[bZ AW] at a;refine yf (zA z C) ?_;have o:Ext D (D.alloc (ae #[zi (rJ wd),aT wd,zi j] 142)):=yF;have u:=jJ (gW.trans o).ext dR;refine V1 (acc:=acc) (base:=w1.heap.size) (kd:=rJ wd) (tx:=wd) (ps:=j) u yH J J J zo (yH) ?_;intro v' E Sb F AQ;have T:Ext w1 E:=((y.trans gW).trans o).grow F (fun k hk=>(u.lt k hk).1);cases H:oh f (List.drop wd.length (c::r)) (j+wd.length) with
       | none=>exact yH
       | some q2=>
       rw[R,H] at a;refine⟨s.length-(j+W),zo,T,j+W,acc++[⟨rJ wd,wd,j⟩],f,q2,J,zo,zg,zg,yH,?_,?_⟩
       .grind [List.drop_drop]
       .rw[<- Q];cases q2 with
        | inl i=>simp only[aZG] at a;rw[<- a];rfl
        | inr l=>grind [aZG,Mr]
      .rw[zip AW] at a;cases a;simp only[Mr] at Q;have OO:=Mt ja dX;obtain⟨b,rfl,g1,g2⟩:=ja;refine JA ?_;refine⟨yF,?_⟩;exact yH
    .rw[bZ mO] at a;have aCr:((P.cls c:Nat):Int)=0:=zo;refine JA ?_;have I:(c=46/\Hi r=A)↔((c.toNat:Int)=46/\(j+1=s.length\/(j+1<s.length/\((s.getD (j+1) 0).toNat=32\/(s.getD (j+1) 0).toNat=10)))):=by
      have e1:c=46↔c.toNat=46:=by rw[<- a0z];rfl
      have hrl:r.length=s.length-(j+1):=zg;rw[e1];cases r with
      | nil=>
       grind [Hi]
      | cons d r'=>
       have hd:s.getD (j+1) 0=d:=by rw[show j+1=j+1+0 from J,<- aky,hr];rfl
       rw[hd];have e2:d=32↔d.toNat=32:=by rw[<- a0z];rfl
       have e3:d=10↔d.toNat=10:=by rw[<- a0z];rfl
       simp only[Hi,P.blank,Bool.or_eq_true,beq_iff_eq,e2,e3];grind
     refine⟨fun t4 g=>g=w4/\t4 2=t 2/\t4 3=zi j/\¬ (c=46/\Hi r=A),?_,?_⟩
     .refine⟨fun t4 g=>g=w4/\t4 79 = .bool (decide (c=46/\Hi r=A)),?_,?_⟩
      .by_cases Dl:(c.toNat:Int)=46
       .by_cases hje:j+1=s.length
        .have aCv:((j:Int)+1)=(s.length:Int):=zo;refine yf (zA z L) ?_;grind
        .have aCv:¬ ((j:Int)+1)=(s.length:Int):=zo;have VZ:((j:Int)+1).toNat=j+1:=zo;refine yf (zA @ZM (zA z (zA L VZ))) ?_;generalize hd:(s.getD (j+1) 0).toNat=d at *;by_cases g1:d=32
         .have V2:=I.2 ⟨Dl,.inr ⟨zo,.inl g1⟩⟩;simp [jd,V2,g1]
         .have V3:¬ (d:Int)=32:=zo;by_cases g2:d=10
          .have V2:=I.2 ⟨Dl,.inr ⟨zo,.inr g2⟩⟩;simp [jd,V2,g2]
          .have lM:¬ (c=46/\Hi r=A):=fun h=>by
            rcases(I.1 h).2 with h | ⟨_,h | h⟩
            .exact hje h
            .exact g1 h
            .exact g2 h
           have V4:¬ (d:Int)=10:=zo;rw[decide_eq_false lM];simp [jd,V3,V4];try omega
       .have lM:¬ (c=46/\Hi r=A):=zg;rw[decide_eq_false lM];exact aaT (zA z L)
      .rintro t4 g ⟨rfl,h83⟩ d4;rw[h83];by_cases U:c=46/\Hi r=A
       .rw[FL _ _ U];rw[zip U] at a;refine yf z ?_;have o:Ext g (g.alloc (ae #[zi 4,aT [46],zi j] 142)):=yF;have u:=jJ o.ext dR;refine V1 (acc:=acc) (base:=w1.heap.size) (kd:=4) (tx:=[46]) (ps:=j) u yH J J J zo (yH) ?_;intro v' E Sb F AQ;have T:Ext w1 E:=(y.trans o).grow F (fun k hk=>(u.lt k hk).1);cases H:oh f r (j+1) with
        | none=>rw[H] at a;cases a
        | some q2=>
        rw[H] at a;refine yf z ?_;refine⟨s.length-(j+1),zo,T,j+1,acc++[⟨4,[46],j⟩],f,q2,J,zo,zg,zs,yH,?_,?_⟩
        .grind
        grind [aZG,Mr]
       .rw[FM _ _ U];grind
     .rintro t4 g ⟨rfl,AX,RY,U⟩ d4;rw[bZ U] at a;obtain⟨cs,TT,zz,tL,jf,AY⟩:=hT.ext y;have hlen:(c::r).length=s.length-j:=zg;refine yf (zA tL AY) ?_;obtain⟨B,sO⟩:∃ B:Bs->Bool,B=fun x=>x.isPrefixOf (c::r):=⟨_,J⟩;refine⟨fun n t5 D=>D=g/\∃ k,n=23-k/\k<=23/\t5 88=zi ((k:Nat):Int)/\t5 2=t 2/\t5 3=zi j/\F9 B k=[],⟨23,J,0,J,Nat.zero_le _,J,?_,?_,J⟩,?_⟩
      .grind
      .grind
      intro n t5 d5 D N;refine toPr ?_;obtain⟨rfl,k,rfl,hk,JW,K,X,j8⟩:=N;by_cases akF:k<23
      .obtain⟨x,hx⟩:=cd (og.getD k []);have BW:x∈og:=by
        rw[hx,List.getD_eq_getElem?_getD,aZM (show k<og.length from akF)];grind
       obtain⟨Mg,Jw⟩:=aby BW;have V5:(List.take 23 cs.toList).toArray[k]?=O (aT x):=by
        grind
       have hkn:((k:Nat):Int).toNat=k:=zo;have aTX:(List.take 23 cs.toList).toArray[((k:Nat):Int).toNat]?=O (aT x):=zg;have aCx:((j:Nat):Int).toNat=j:=zo;refine yf (zA JW (zA X aCx)) ?_;rw[JU];refine(Tryz.strings_HasPrefix (bs (c::r)) (bs x) _).mono ?_;rintro e E ⟨rfl,rfl⟩;have Ge:Lib.hasPrefix (bs (c::r)).data.toList (bs x).data.toList=B x:=by rw[sO];rfl
       rw[Ge];have Sd:=aCn akF j8;rw[<- hx] at Sd;by_cases hp:B x=A
       .rw[hp];rw[zip hp] at Sd;have vy:og.find? B=O x:=by
         have h1:=aCo (p:=B) (k:=k+1) (by rw[Sd];exact Mg);rw[Sd,abz] at h1;grind
        rw[sO] at vy;rw[vy] at a;dsimp only at a;have hle:=(List.isPrefixOf_iff_prefix.1 (by rw[sO] at hp;exact hp)).length_le;rw[hlen] at hle;have oH:0<x.length:=List.length_pos_iff.2 Mg;refine yf (zA K X) ?_;have o:Ext E (E.alloc (ae #[zi 4,aT x,zi j] 142)):=yF;have u:=jJ o.ext dR;refine V1 (acc:=acc) (base:=w1.heap.size) (kd:=4) (tx:=x) (ps:=j) u yH J J J zo (yH) ?_;intro v' w8 Sb F AQ;have T:Ext w1 w8:=(y.trans o).grow F (fun k hk=>(u.lt k hk).1);cases H:oh f ((c::r).drop x.length) (j+x.length) with
        | none=>rw[H] at a;cases a
        | some q2=>
        rw[H] at a;refine yf (zA K X) ?_;refine⟨s.length-(j+x.length),zo,T,j+x.length,acc++[⟨4,x,j⟩],f,q2,J,zo,zg,zs,yH,?_,?_⟩
        .grind [List.drop_drop]
        grind [aZG,Mr]
       .have Hq:B x=false:=zg;rw[Hq];rw[bZ hp] at Sd;refine yf (zA JW (zA K X)) ?_;grind
      .have C9:k=23:=zo;subst C9;have xl:og.find? (fun s=>s.isPrefixOf (c::r))=none:=by
        grind [abz,absurd,aby,a0B]
       rw[xl] at a;cases a;simp only[Mr] at Q;refine yf (zA JW X) ?_;refine(akB _ _ _).mono ?_;rintro e E ⟨hf,BX⟩;have eV:=Mt hf dX;obtain⟨b,rfl,g1,g2⟩:=hf;refine JA ?_;refine⟨yF,?_⟩;exact yH
  .have F7:j=s.length:=zo;subst F7;have H5:List.drop s.length s=[]:=List.drop_length;cases f with
   | zero=>rw[oh] at a;cases a
   | succ f=>
   rw[H5,oh] at a;cases a;simp only[Mr] at Q;refine yf M ?_;have o:Ext w2 (w2.alloc (ae #[zi 0,aT [],zi (s.length)] 142)):=yF;have u:=jJ o.ext dR;refine V1 (acc:=acc) (base:=w1.heap.size) (kd:=0) (tx:=[]) (ps:=s.length) u yH J J J zo (yH) ?_;intro v' D Sb F AQ;refine⟨(y.trans o).grow F (fun k hk=>(u.lt k hk).1),?_⟩;exact yH
namespace P
structure aCy(T:List Tok)(f:Nat):Prop where
 lit:∀ k v d x k' v',np T f k v d=O (.ok x k' v')->k<k'
 lits:∀ k v d acc x k' v',pO T f k v d acc=O (.ok x k' v')->k<k'
 row:∀ k v d x k' v',nJ T f k v d=O (.ok x k' v')->k<k'
 rest:∀ k v d x k' v',pP T f k v d=O (.ok x k' v')->k<k'
 body:∀ k v d x k' v',ml T f k v d=O (.ok x k' v')->k<k'
def Se(T:List Tok):∀ f,aCy T f
 | 0=>⟨by simp_all [np],by simp_all [pO],by simp_all [nJ],by simp_all [pP],by simp_all [ml]⟩
 | f+1=>by
  have ih:=Se T f;have hm:=mono T f;refine⟨?_,?_,?_,?_,?_⟩
  .intro k v d x k' v' h;rw[np] at h;split at h
   .grind
   split at h
   .grind
   split at h
   .obtain⟨a,i,v1,g,e⟩:=ee h;have:=ih.lit _ _ _ _ _ _ g;grind
   split at h
   .obtain⟨a,i,v1,g,e⟩:=ee h;have:=ih.body _ _ _ _ _ _ g;grind [nP]
   obtain⟨a,i,v1,g,e⟩:=ee h;have:=hm.oper _ _ _ _ _ _ _ g;split at e
   .obtain⟨b,n,v2,j,l⟩:=ee e;have:=hm.oper _ _ _ _ _ _ _ j;grind
   grind
  .intro k v d acc x k' v' h;rw[pO] at h;obtain⟨y,i,v1,g,e⟩:=ee h;have:=ih.lit _ _ _ _ _ _ g;split at e
   .have:=ih.lits _ _ _ _ _ _ _ e;omega
   grind
  .intro k v d x k' v' h;rw[nJ] at h;obtain⟨y,i,v1,g,e⟩:=ee h;have:=ih.lits _ _ _ _ _ _ _ g;grind
  .intro k v d x k' v' h;rw[pP] at h;split at h
   .grind
   .exact ih.body _ _ _ _ _ _ h
  .intro k v d x k' v' h;rw[ml] at h;obtain⟨a,i,v1,g,e⟩:=ee h;have:=ih.row _ _ _ _ _ _ g;split at e
   .obtain⟨b,n,v2,j,l⟩:=ee e;have:=ih.row _ _ _ _ _ _ j;split at l
    .obtain⟨c,o,v3,m,p⟩:=ee l;have:=ih.rest _ _ _ _ _ _ m;grind
    grind
   .split at e
    .obtain⟨c,o,v3,m,p⟩:=ee e;have:=ih.rest _ _ _ _ _ _ m;grind
    grind
def whole:Bd->Prop
 | .mk kind _ _ parts=>kind=63->parts.length=3
structure aCz(T:List Tok)(f:Nat):Prop where
 lit:∀ k v d x k' v',np T f k v d=O (.ok x k' v')->whole x
 lits:∀ k v d acc x k' v',(∀ b∈acc,whole b)->pO T f k v d acc=O (.ok x k' v')->(∀ b∈x,whole b)/\acc.length<x.length
 row:∀ k v d x k' v',nJ T f k v d=O (.ok x k' v')->whole x
 rest:∀ k v d x k' v',pP T f k v d=O (.ok x k' v')->whole x
 body:∀ k v d x k' v',ml T f k v d=O (.ok x k' v')->whole x
def abE(T:List Tok):∀ f,aCz T f
 | 0=>⟨by simp_all [np],by simp_all [pO],by simp_all [nJ],by simp_all [pP],by simp_all [ml]⟩
 | f+1=>by
  have ih:=abE T f;refine⟨?_,?_,?_,?_,?_⟩
  .intro k v d x k' v' h;rw[np] at h;split at h
   .grind
   split at h
   .grind [aZG,cj.ok.injEq,whole]
   split at h
   .obtain⟨a,i,v1,g,e⟩:=ee h;grind [aZG,cj.ok.injEq,whole]
   split at h
   .obtain⟨a,i,v1,g,e⟩:=ee h;rw[(nP e).2.1];exact ih.body _ _ _ _ _ _ g
   obtain⟨a,i,v1,g,e⟩:=ee h;split at e
   .obtain⟨b,m,v2,j,l⟩:=ee e;grind [aZG,cj.ok.injEq,whole]
   grind [aZG,cj.ok.injEq,whole]
  .intro k v d acc x k' v' r h;rw[pO] at h;obtain⟨y,i,v1,g,e⟩:=ee h;have s:=ih.lit _ _ _ _ _ _ g;have n:∀ b∈acc++[y],whole b:=by
    grind
   split at e
   .have j:=ih.lits _ _ _ _ _ _ _ n e;grind
   grind
  .intro k v d x k' v' h;rw[nJ] at h;obtain⟨y,i,v1,g,e⟩:=ee h;have j:=(ih.lits _ _ _ _ _ _ _ zs g).1;grind [aZG,cj.ok.injEq,whole]
  .intro k v d x k' v' h;rw[pP] at h;split at h
   .grind
   .exact ih.body _ _ _ _ _ _ h
  .intro k v d x k' v' h;rw[ml] at h;obtain⟨a,i,v1,g,e⟩:=ee h;split at e
   .obtain⟨b,m,v2,j,l⟩:=ee e;split at l
    .obtain⟨c,o,v3,p,q⟩:=ee l;grind [aZG,cj.ok.injEq,whole]
    grind [aZG,cj.ok.injEq,whole]
   .split at e
    .obtain⟨c,o,v3,p,q⟩:=ee e;grind [aZG,cj.ok.injEq,whole]
    .simp only[aZG,cj.ok.injEq] at e;rw[<- e.1];exact ih.row _ _ _ _ _ _ g
end P
structure mw(w:Z)(B:Nat):Prop where
 lt:3<B
 cell:∀ j,j<9->w.cell? ⟨3,j,V⟩=O (aT (LA.getD j []))
theorem mw.ext(h:mw w B)(hw:∀ (b:Nat) (o:Obj),b<B->w.heap[b]?=O o->w'.heap[b]?=O o):mw w' B:=
 ⟨h.lt,fun j a=>LX (h.cell j a) (by grind [lt])⟩
theorem mw.fr(a:mw w tb)(h:cZ pb w w')(d:tb<pb):mw w' tb:=
 a.ext fun b o e c=>h.block _ _ c (by rintro (h | ⟨h,_⟩)<;>omega)
structure OP(f:Nat):Prop where
 go:∀ {pb tb:Nat} {T:List P.Tok} {k:Nat} {vars:List Bs} {d:Nat} {w:Z} {r:cj Bd},SP w pb tb T k vars d->mw w tb->d<=8 ->
  np T f k vars d=O r->Calls a9w 115 #[pp pb] w (jN dL pb tb T d w r)
structure OQ(f:Nat):Prop where
 go:∀ {pb tb:Nat} {T:List P.Tok} {k:Nat} {vars:List Bs} {d:Nat} {w:Z} {r:cj Bd},SP w pb tb T k vars d->mw w tb->d<=8 ->
  nJ T f k vars d=O r->Calls a9w 114 #[pp pb,.int .u8 44,aT [44],.func (.func 115) #[pp pb] #[]] w (jN dL pb tb T d w r)
structure JX(f:Nat):Prop where
 go:∀ {pb tb:Nat} {T:List P.Tok} {k:Nat} {vars:List Bs} {d:Nat} {w:Z} {r:cj Bd},SP w pb tb T k vars d->mw w tb->d<=8 ->
  ml T f k vars d=O r->Calls a9w 53 #[pp pb] w (jN dL pb tb T d w r)
theorem dL.shape{x:Bd}(h:dL F w v x):∃ b,v=pp b/\F b:=by
 cases x with
 | mk kind name args parts=>
  unfold dL at h;obtain⟨b,_,_,_,_,a,c,_⟩:=h;exact⟨b,a,c⟩
def gx.snoc{F:Nat->Prop}{w:Z}{v:Y}{x:Bd}(hv:dL F w v x):∀ {l:List Bd} {vs:List Y},gx F w vs l->gx F w (vs++[v]) (l++[x])
 | [],vs,h=>by
  unfold gx at h;subst h;simp only[List.nil_append];unfold gx;exact⟨v,[],J,hv,by unfold gx;rfl⟩
 | y::l,vs,h=>by
  unfold gx at h;obtain⟨u,r,rfl,a,b⟩:=h;simp only[List.cons_append];unfold gx;exact⟨u,r++[v],J,a,gx.snoc hv b⟩
def gx.length{F:Nat->Prop}{w:Z}:∀ {l:List Bd} {vs:List Y},gx F w vs l->vs.length=l.length
 | [],vs,h=>by unfold gx at h;rw[h];rfl
 | x::xs,vs,h=>by
  unfold gx at h;obtain⟨v,r,rfl,_,a⟩:=h;simp [gx.length a]
def H6:lp F w bV []:=⟨[],.inl ⟨J,J⟩,by unfold eO;rfl⟩
def JY:JD F w bV []:=⟨[],.inl ⟨J,J⟩,by unfold gx;rfl⟩
def aCA{x:Bd}(a:F b)(h:w.heap[b]?=aM #[u] 84)(hx:dL F w u x) :
  JD F w (cR b 1 1) [x]:=by
 refine⟨[u],.inr ⟨b,#[u],J,a,h,aZK _,J⟩,?_⟩;unfold gx;exact⟨u,[],J,hx,by unfold gx;rfl⟩
def aCB{x y:Bd}(a:F b)(h:w.heap[b]?=aM #[u,v] 84)(hx:dL F w u x)(c:dL F w v y) :
  JD F w (cR b 2 2) [x,y]:=by
 refine⟨[u,v],.inr ⟨b,#[u,v],J,a,h,aZK _,J⟩,?_⟩;unfold gx;refine⟨u,[v],J,hx,?_⟩;unfold gx;exact⟨v,[],J,c,by unfold gx;rfl⟩
def Dp{name:Bs}{args:List Ex}(d:F b)
  (h:w.heap[b]?=aM #[.int .u8 pb,aT name,av,tv] 149) (a:lp F w av args) (c:JD F w tv gy) :
  dL F w (pp b) (.mk pb name args gy):=by
 obtain⟨vs,e,f⟩:=a;obtain⟨us,g,i⟩:=c;unfold dL;grind
theorem JD.mono{F F':Nat->Prop}{w w':Z}{v:Y}{l:List Bd}(a:∀ b,F b->F' b)(hw:∀ b o,F b->C5 o->w.heap[b]?=O o->w'.heap[b]?=O o)
  (h:JD F w v l):JD F' w' v l:=by
 obtain⟨vs,c,f⟩:=h;exact⟨vs,c.mono a fun b cs d e=>hw b _ d ⟨zg,J⟩ e,(by grind [gx.mono])⟩
def akG:(Tryz.prog.info? 84).map (fun i=>(i.zero,i.size,i.bytes))=O (O (aq V),1,8):=zk
abbrev akH(pb:Nat):Y:=.func (.func 115) #[pp pb] #[]
def RJ(pb tb:Nat)(T:List P.Tok)(d:Nat)(w0:Z)(c:cj (List Bd))(n:Nat)(a:Act)(w:Z):Prop:=
 ∃ (acc:List Bd) (k:Nat) (vs:List Bs) (xs:List Y) (sl e f g h u8 i j l m o p u16 q r s t u x y z B C D E F H:Y),a={ tmps:=#[pp pb,.int .u8 44,aT [44],akH pb,e,f,g,h,u8,sl,i,j,l,m,o,p,u16,q,r,s,t,u,x,y,z,B,C,D,E,F,H],defers:=[] } /\
  w.ownsRow w0.heap.size 84 1 sl acc.length xs/\gx (fun b=>Nu w0 w b/\sl.ownBlock≠O b) w xs acc/\SP w pb tb T k vs d/\cZ pb w0 w/\0<acc.length/\acc.length<=k /\
  (if eh T k [44] then pO T n (k+1) vs d acc else O (.ok acc k vs))=O c
def aCD(Mv:∀ m,m<f->OP m){r:cj Bd}(oI:SP w0 pb tb T k vars d)(mO:mw w0 tb)(hd:d<=8)
  (h:nJ T (f+1) k vars d=O r):Calls a9w 114 #[pp pb,.int .u8 44,aT [44],akH pb] w0 (jN dL pb tb T d w0 r):=by
 rw[nJ] at h;cases zK:pO T f k vars d [] with
 | none=>rw[zK] at h;simp [cj.bind] at h
 | some re=>
 rw[zK] at h;cases f with
 | zero=>simp [pO] at zK
 | succ f=>
 rw[pO] at zK;have Sf:=aZH oI;have H7:=aZH mO;have HR:=aZH h;have Mf:=aZH zK;have xg:=oI.d2.2.2;have vM:=oI.lt;have hT:=oI.tw.len;obtain⟨i0,hi,JK,JL,JM⟩:=info_parts akG;clear oI h zK mO
 go_enter func114,ntmps114
 go_wp2_with fail
 cases hq:np T f k vars d with
 | none=>have e:=Mf.out;rw[hq] at e;simp [cj.bind] at e
 | some q=>
 have e:=Mf.out;rw[hq] at e;refine((Mv f zo).go Sf.out H7.out hd hq).mono ?_;cases q with
 | err c0 a0=>
  rintro e2 w4 ⟨⟨b,rfl,eK,gn⟩,dU,gJ⟩;simp only[cj.bind,aZG] at e;subst e;have hr:=HR.out;simp only[cj.bind,aZG] at hr;subst hr;exact⟨J,⟨b,J,eK,gn⟩,dU,gJ⟩
 | ok x k' vK=>
 rintro e2 w1 ⟨v,rfl,hv,fc,eV⟩;simp only[cj.bind] at e;obtain⟨bx,rfl,jy⟩:=hv.shape;have nu:=(Se T f).lit _ _ _ _ _ _ hq;have oZ:=eV.size;have eP:(w1.alloc (ae #[pp bx] 84)).ownsRow w0.heap.size 84 1 (cR w1.heap.size 1 1) 1 [pp bx]:=
  ⟨J,.inr ⟨w1.heap.size,1,_,J,zo,blk_alloc_new _ _,aZK _,zd,J,J⟩⟩
 have iV:gx (fun b=>Nu w0 (w1.alloc (ae #[pp bx] 84)) b/\(aZT (O ⟨w1.heap.size,0,V⟩) 1 1).ownBlock≠O b) (w1.alloc (ae #[pp bx] 84)) [pp bx] [x]:=by
  have:=gx.snoc (l:=[]) (vs:=[]) (F:=fun b=>Nu w0 (w1.alloc (ae #[pp bx] 84)) b/\(aZT (O ⟨w1.heap.size,0,V⟩) 1 1).ownBlock≠O b) (w:=w1.alloc (ae #[pp bx] 84)) (v:=pp bx) (x:=x)
   (dL.mono (fun b hb=>⟨(by grind [size_alloc]),fun e=>by injection e with e;grind⟩) (by grind [dQ]) _ _ hv) (by unfold gx;rfl)
  grind
 have RS:=aZH eP;have lS:=aZH iV;have iO:=aZH (fc.ext (w':=w1.alloc (ae #[pp bx] 84)) fun b o h=>dQ h);have fO:Hid (cZ pb w0 (w1.alloc (ae #[pp bx] 84))):=aZH (eV.alloc _);have HE:=aZH e;have HK:=aZH nu;clear hv fc eV eP iV e hq jy Mf nu
 go_wp2_with fail
 refine wp_loop_ghost (fun n a w=>n<=f/\RJ pb tb T d w0 re n a w) ⟨f,aZK _,[x],k',vK,_,_,_,_,_,_,_,_,_,_,_,_,_,_,_,_,_,_,_,_,_,_,_,_,_,_,_,_,J,RS.out,lS.out,iO.out,fO.out,Nat.zero_lt_one,by have:=HK.out;simp;omega,by simpa using HE.out⟩ ?_;clear RS lS iO fO HK HE oZ;rintro n a w ⟨Zn,acc,k2,vs,xs,sl,u4,u5,u6,u7,u8,ym,yn,yo,vI,vJ,yp,u16,yq,yr,BI,BJ,BK,BL,BM,BN,BO,BP,BQ,Dc,Dd,De,rfl,dR,lR,hp,hf,h0a,VS,hr⟩;have Hv:=hp.kt;have hz:=hf.size;have BR:=hp.d2.2.2;obtain⟨g',qZ,rfl⟩:∃ g cap,sl = cR g acc.length cap:=by
  obtain⟨g1,g2 | ⟨g,cp,cur,e1,e2,e3,e4⟩⟩:=dR<;>grind
 have HO:=aZH dR;have HX:=aZH lR;have HP:=aZH hp;have HF:=aZH hf;by_cases hc:eh T k2 [44]=A
 .rw[zip hc] at hr;cases n with
  | zero=>grind [pO]
  | succ n=>
  rw[pO] at hr;have zJ:=aZH hr;clear dR lR hp hf hr
  go_wp2_with fail
  refine(uE HP.out [44] hc).mono ?_;rintro e w2 ⟨rfl,fc,eV⟩;have iO:=aZH fc;have fO:=aZH eV;clear fc eV hc
  go_wp2_with fail
  cases hq:np T n (k2+1) vs d with
  | none=>have e:=zJ.out;rw[hq] at e;simp [cj.bind] at e
  | some q=>
  have e:=zJ.out;rw[hq] at e;refine((Mv n zo).go iO.out (H7.out.fr (HF.out.trans fO.out) vM) hd hq).mono ?_;cases q with
  | err c0 a0=>
   rintro e2 w4 ⟨⟨b,rfl,eK,gn⟩,dU,gJ⟩;simp only[cj.bind,aZG] at e;subst e;have hr:=HR.out;simp only[cj.bind,aZG] at hr;subst hr;have:=fO.out.size;exact⟨J,⟨b,J,eK,zo⟩,(HF.out.trans fO.out).trans dU,gJ⟩
  | ok x k' vK=>
  rintro e2 w3 ⟨v,rfl,hv,gH,dU⟩;simp only[cj.bind] at e;obtain⟨bx,rfl,jy⟩:=hv.shape;have nu:=(Se T n).lit _ _ _ _ _ _ hq;have qE:=fO.out.size;have EA:=dU.size;have jQ:=gH.kt;have aba:=iO.out.d2.2.2;have rR:=gH.d2.2.2;have xh:w3.ownsRow w0.heap.size 84 1 (cR g' acc.length qZ) acc.length xs:=by
   obtain⟨g1,g2 | ⟨g,cp,cur,e1,e2,e3,e4⟩⟩:=HO.out
   .omega
   .exact⟨g1,.inr ⟨g,cp,cur,e1,e2,cZ.kX dU ⟨zg,J⟩ (cZ.kX fO.out ⟨zg,J⟩ e3 zo) zo,e4⟩⟩
  have JO:gx (fun b=>Nu w0 w3 b/\(aZT (O ⟨g',0,V⟩) acc.length qZ).ownBlock≠O b) w3 xs acc:=
   gx.mono zg (by grind [cZ.kX,Hid.out]) _ _ HX.out
  have uH:=aZH xh;have lS:=aZH JO;have HV:=aZH hv;have kh:=aZH gH;have im:=aZH ((HF.out.trans fO.out).trans dU);have HE:=aZH e;have zI:=aZH jy;have HK:=aZH nu;clear hv gH dU xh JO e hq jy nu
  go_wp2_with (at_builtin;go_must (refine Rc J _ _ 147 J w0.heap.size 84 i0 _ 1 8 underlying147 hi JK JL JM J zo _ _ _ J (uH.out.alloc _) ⟨w3.heap.size,0,V⟩ 1 1 [pp bx] J J (Oj J) (by simp [Value.oneCell']) (by grind [maxLen]) zo (by simp;omega) ?_;intro v' w4 rQ yt AN;obtain⟨g2,F5,rfl⟩:=LG rQ;have F1:=aZH rQ;have tJ:=aZH yt;have RP:=aZH AN;clear rQ yt AN))
  have jP:SP w4 pb tb T k' vK d:=(kh.out.ext fun b o h=>dQ (o:=Obj.cells #[Value.pointer (O ⟨bx,0,V⟩)] 84) h).OD (uH.out.alloc _) zg zo tJ.out;have eo:cZ pb w0 w4:=(im.out.alloc _).OE tJ.out fun k hk=>(uH.out.lt k hk).1;have OK:=tJ.out.size;rw[size_alloc] at OK;have OI:∀ (b:Nat) (o:Obj),w3.heap[b]?=O o->(aZT (O ⟨g',0,V⟩) acc.length qZ).ownBlock≠O b->w4.heap[b]?=O o:=fun b o h ed=>by
   have h':=dQ (o:=Obj.cells #[Value.pointer (O ⟨bx,0,V⟩)] 84) h;rw[tJ.out.block b (bg h') (fun e=>ed e.symm)];omega
  have oJ:∀ b,b<w3.heap.size->(aZT (O ⟨g',0,V⟩) acc.length qZ).ownBlock≠O b->(aZT (O ⟨g2,0,V⟩) (acc.length+1) F5).ownBlock≠O b:=fun b hb ed=>by
   rcases RP.out with h | h
   .rw[h];exact ed
   grind [size_alloc]
  have hbn:∀ b,Nu w2 w3 b->(aZT (O ⟨g',0,V⟩) acc.length qZ).ownBlock≠O b:=fun b hb e=>by
   have:=(HO.out.lt b e).2;omega
  have abb:gx (fun b=>Nu w0 w4 b/\(aZT (O ⟨g2,0,V⟩) (acc.length+1) F5).ownBlock≠O b) w4 (xs++[pp bx]) (acc++[x]):=
   gx.snoc (dL.mono zg zg _ _ HV.out)
    (gx.mono zg zg _ _ lS.out)
  have nu:=HK.out;exact⟨n,Nat.lt_succ_self n,zo,acc++[x],k',vK,_,_,_,_,_,_,_,_,_,_,_,_,_,_,_,_,_,_,_,_,_,_,_,_,_,_,_,_,J,by rw[List.length_append];exact F1.out,abb,jP,eo,zs,zg,HE.out⟩
 .rw[bZ hc,aZG] at hr;subst hr;clear dR lR hp hf;have hr:=HR.out;simp only[cj.bind,aZG] at hr;subst hr;clear HR;have AP:=(HO.out.lt g' J);have iH:=Et HO.out (F:=Nu w0 w) (fun b hb=>⟨(HO.out.lt b hb).1,(HO.out.lt b hb).2⟩);have Mg:gx (Nu w0 w) w xs acc:=gx.mono zg zg _ _ HX.out;have HSL:=aZH iH;have HXN:=aZH Mg;clear iH Mg;by_cases h1:acc.length=1
  .obtain⟨b1,rfl⟩:∃ b1,acc=[b1]:=List.length_eq_one_iff.1 h1;have q8:=HXN.out;unfold gx at q8;obtain⟨v1,r1,e1,kz,pR⟩:=q8;unfold gx at pR;subst pR;subst e1;have ns:w.cell? ⟨g',0,V⟩=O v1:=by
    obtain⟨g1,g2 | ⟨g,cp,cur,e1,e2,e3,e4,e5,e6,e7⟩⟩:=HO.out
    .omega
    .cases e1;refine cellOf e3 ?_;have h1:(cur.toList.take 1)[0]?=O v1:=zg;grind
   have V6:=aZH kz;have Dh:=AP.2;clear kz h1
   go_wp2_with fail
   refine(pW HP.out [44] zg zd).mono ?_;rintro e w2 ⟨rfl,rfl⟩;clear hc
   go_wp2_with fail
   go_ret
   exact⟨_,J,V6.out,HP.out,HF.out⟩
  .have AZ:((acc.length:Int) == 1)=false:=zg;have pY:¬ (acc.length:Int)=1:=zo
   go_wp2_with fail
   refine(pW HP.out [44] zg zd).mono ?_;rintro e w2 ⟨rfl,rfl⟩;clear hc
   go_wp2_with fail
   go_ret
   refine⟨_,J,?_,HP.out.ext (by grind [dQ]),HF.out.alloc _⟩;have key:=(show dL (Nu w0 (w.alloc (ae #[.int .u8 44,aT [],bV,cR g' acc.length qZ] 149))) (w.alloc (ae #[.int .u8 44,aT [],bV,cR g' acc.length qZ] 149)) (pp w.heap.size) (.mk 44 [] [] acc) from Dp (by grind [size_alloc]) (blk_alloc_new _ _) H6 (JD.mono (by grind [size_alloc]) (by grind [dQ]) ⟨xs,HSL.out,HXN.out⟩));rcases acc with _ | ⟨x1,_ | ⟨x2,l⟩⟩
   .grind
   .grind
   .exact key
def akJ:OQ 0:=⟨fun _ _ _ h=>by simp [nJ] at h⟩
theorem aCF(d:∀ m,m<f->OP m):OQ f:=by
 cases f with
 | zero=>exact akJ
 | succ f=>exact⟨fun a b c h=>aCD zg a b c h⟩
def P.Sg(T:List P.Tok)(f k:Nat)(vars:List Bs)(d:Nat):Option (cj Bd):=
 cj.bind (nJ T f k vars d) fun a c v1=>
  if eh T c [45,62] then cj.bind (nJ T f (c+1) v1 d) fun b e v2=>O (.ok (.mk 63 [] [] [a,b]) e v2) else O (.ok a c v1)
def aCG(F:Nat->Prop)(w:Z)(v:Y)(x:Bd):Prop:=
 (P.whole x/\dL F w v x) \/
 ∃ (a b:Bd) (n g:Nat) (c vb:Y),x = .mk 63 [] [] [a,b]/\v=pp n/\F n/\F g/\n≠g /\
  w.heap[n]?=aM #[.int .u8 63,aT [],bV,cR g 2 2] 149/\w.heap[g]?=aM #[c,vb] 84 /\
  dL (fun m=>F m/\m≠n/\m≠g) w c a/\dL (fun m=>F m/\m≠n/\m≠g) w vb b
def aCH(eP:OQ f){r:cj Bd}(oI:SP w0 pb tb T k vars d)(mO:mw w0 tb)(hd:d<=8)
  (h:P.Sg T f k vars d=O r):Calls a9w 85 #[pp pb] w0 (jN aCG pb tb T d w0 r):=by
 unfold P.Sg at h;have Sf:=aZH oI;have H7:=aZH mO;have HR:=aZH h;have xg:=oI.d2.2.2;have vM:=oI.lt;clear oI h mO
 go_enter func85,ntmps85
 go_wp2_with fail
 cases hq:nJ T f k vars d with
 | none=>have e:=HR.out;rw[hq] at e;simp [cj.bind] at e
 | some q=>
 have e:=HR.out;rw[hq] at e;refine(eP.go Sf.out H7.out hd hq).mono ?_;cases q with
 | err c0 a0=>
  rintro e2 w4 ⟨⟨b,rfl,eK,gn⟩,dU,gJ⟩;simp only[cj.bind,aZG] at e;subst e;exact⟨J,⟨b,J,eK,gn⟩,dU,gJ⟩
 | ok x k1 v1=>
 rintro e2 w1 ⟨v,rfl,hv,dD,gi⟩;simp only[cj.bind] at e;obtain⟨bx,rfl,jy⟩:=hv.shape;have H8:=(abE T f).row _ _ _ _ _ _ hq;have oZ:=gi.size;have V6:=aZH hv;have kh:=aZH dD;have im:=aZH gi;have zI:=aZH jy;have HWH:=aZH H8;have HE:=aZH e;clear hv dD gi jy H8 e hq HR;by_cases hc:eh T k1 [45,62]=A
 .go_wp2_with fail
  refine(uE kh.out [45,62] hc).mono ?_;rintro e w2 ⟨rfl,fc,eV⟩;have iO:=aZH fc;have fO:=aZH eV;have qE:=eV.size;clear fc eV
  go_wp2_with fail
  have e:=HE.out;rw[zip hc] at e;cases hq:nJ T f (k1+1) v1 d with
  | none=>rw[hq] at e;simp [cj.bind] at e
  | some q=>
  rw[hq] at e;refine(eP.go iO.out (H7.out.fr (im.out.trans fO.out) vM) hd hq).mono ?_;cases q with
  | err c0 a0=>
   rintro e2 w4 ⟨⟨b,rfl,eK,gn⟩,dU,gJ⟩;simp only[cj.bind,aZG] at e;subst e;exact⟨J,⟨b,J,eK,zo⟩,(im.out.trans fO.out).trans dU,gJ⟩
  | ok y k2 v2=>
  rintro e2 w3 ⟨v,rfl,hv,gH,dU⟩;simp only[cj.bind,aZG] at e;subst e;obtain⟨Gf,rfl,nK⟩:=hv.shape;have EA:=dU.size;have V7:=aZH hv;have tK:=aZH gH;have nR:=aZH dU;have rR:=gH.d2.2.2;have aTY:=kh.out.d2.2.2;clear hv gH dU nK hq HE hc
  go_wp2_with fail
  go_ret
  have gK:∀ o o',((w3.alloc o).alloc o').heap.size=w3.heap.size+2:=(by grind [size_alloc]);refine⟨_,J,.inr ⟨x,y,w3.heap.size+1,w3.heap.size,_,_,J,J,zg,zg,zo,Es (by rw[size_alloc]),dQ (blk_alloc_new _ _),?_,?_⟩,
   (by grind [dQ,SP.ext,Hid.out]),(by grind [trans,bB.alloc,bB.trans,Hid.out])⟩
  .exact dL.mono zg
    (by grind [dQ,cZ.kX,Hid.out]) _ _ V6.out
  .exact dL.mono zg
    (by grind [dQ]) _ _ V7.out
 .go_wp2_with fail
  refine(pW kh.out [45,62] zg zd).mono ?_;rintro e w2 ⟨rfl,rfl⟩
  go_wp2_with fail
  go_ret
  have e:=HE.out;rw[bZ hc,aZG] at e;subst e;exact⟨_,J,.inl ⟨HWH.out,V6.out⟩,kh.out,im.out⟩
