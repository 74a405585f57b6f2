/- A part of one proof (SSmall, PureL, SX1, PureL2, SX2, PureB, SCon2, SRow, SCond). -/
import Derived.Test.YtoegidfbnkaabaaGreatDoorPkLAH
import Derived.Shelf.Strings.SlTrimAscii
set_option linter.all false
set_option maxRecDepth 100000
set_option maxHeartbeats 8000000
open Option renaming some → O, none → V
open Go renaming Value → Y, World → Z
open Bool renaming true → A, false → G
open Go.Obj renaming cells → ae
open Go.Ending renaming returned → ah
open Go.Value renaming iface → aj, pointer → aq
open Option.some renaming injEq → a1o
open Go.Lib renaming hid → a1p, trimS → a65
open Nat renaming le_refl → a1s, not_lt_zero → a3z
open List renaming getElem?_eq_getElem → a1u, drop_eq_getElem_cons → a1y, mem_cons → a1z, not_mem_nil → a1E, mem_of_find?_eq_some → a2q, all_cons → a2T
open Go.Value renaming slice → a1D
open UInt8 renaming toNat_inj → a2p
open Sum.inr renaming injEq → a5z
open Go.Proofs.Tryz renaming prog → bbt
open Go.Proofs.Tryz
namespace Go.Proofs.YtoegidfbnkaabaaGreatDoor
open P
open Go.RowKit
variable{B b base d f i k m n pb tb:Nat}{F:Nat->Prop}{T:List P.Tok}{X:Y->Z->Prop}{av tv u v vv:Y}{gr:List Bd}{vars:List Bs}{w w' w0 w1 w2:Z}
def aln(c:UInt8):Calls bbt 111 #[.int .u8 c.toNat] w fun e w'=>e = ah (.int .u8 (P.cls c))/\w'=w:=by
 have hc:c.toNat<256:=c.toNat_lt;unfold P.cls;obtain⟨n,hn⟩:=cg c.toNat;rw[<- hn] at hc ⊢;clear hn;by_cases a1:97<=n
 .by_cases a2:n<=122
  .have b1:(97:Int)<=n:=zo;have b2:(n:Int)<=122:=zo;rw[zip ⟨a1,a2⟩]
   go_enter func111,ntmps111
   go_wp2_with fail
   go_ret
   exact⟨J,J⟩
  .have b1:(97:Int)<=n:=zo;have b2:¬ (n:Int)<=122:=zo;have b3:(65:Int)<=n:=zo;have b4:¬ (n:Int)<=90:=zo;have b5:((n:Int) == 95)=false:=zg;have b6:(48:Int)<=n:=zo;have b7:¬ (n:Int)<=57:=zo;have b8:¬ (n:Int)=95:=zo;rw[bM zo,bM zo,bM zo]
   go_enter func111,ntmps111
   go_wp2_with fail
   go_ret
   exact⟨J,J⟩
 .have b1:¬ (97:Int)<=n:=zo;rw[bM zo];by_cases a3:n=95
  .subst a3
   go_enter func111,ntmps111
   go_wp2_with fail
   go_ret
   exact⟨J,J⟩
  have b5:((n:Int) == 95)=false:=zg;have b8:¬ (n:Int)=95:=zo;by_cases a4:65<=n
  .have b3:(65:Int)<=n:=zo;by_cases a5:n<=90
   .have b4:(n:Int)<=90:=zo;rw[zip zo]
    go_enter func111,ntmps111
    go_wp2_with fail
    go_ret
    exact⟨J,J⟩
   .have b4:¬ (n:Int)<=90:=zo;have b6:(48:Int)<=n:=zo;have b7:¬ (n:Int)<=57:=zo;rw[bM zo,bM zo]
    go_enter func111,ntmps111
    go_wp2_with fail
    go_ret
    exact⟨J,J⟩
  .have b3:¬ (65:Int)<=n:=zo;rw[bM zo];by_cases a6:48<=n
   .have b6:(48:Int)<=n:=zo;by_cases a7:n<=57
    .have b7:(n:Int)<=57:=zo;rw[zip zo]
     go_enter func111,ntmps111
     go_wp2_with fail
     go_ret
     exact⟨J,J⟩
    .have b7:¬ (n:Int)<=57:=zo;rw[bM zo]
     go_enter func111,ntmps111
     go_wp2_with fail
     go_ret
     exact⟨J,J⟩
   .have b6:¬ (48:Int)<=n:=zo;rw[bM zo]
    go_enter func111,ntmps111
    go_wp2_with fail
    go_ret
    exact⟨J,J⟩
def M7(s:Bs):Calls bbt 52 #[aT s] w fun e w'=>e = ah (zi (jw s))/\w'=w:=by
 by_cases c0:s=[116,114,117,101]
 .subst c0
  go_enter func52,ntmps52
  go_wp2_with fail
  go_ret
  exact⟨J,J⟩
 by_cases c1:s=[102,97,105,108]
 .subst c1
  go_enter func52,ntmps52
  go_wp2_with fail
  go_ret
  exact⟨J,J⟩
 by_cases c2:s=[118,97,114]
 .subst c2
  go_enter func52,ntmps52
  go_wp2_with fail
  go_ret
  exact⟨J,J⟩
 by_cases c3:s=[110,111,110,118,97,114]
 .subst c3
  go_enter func52,ntmps52
  go_wp2_with fail
  go_ret
  exact⟨J,J⟩
 by_cases c4:s=[97,116,111,109]
 .subst c4
  go_enter func52,ntmps52
  go_wp2_with fail
  go_ret
  exact⟨J,J⟩
 by_cases c5:s=[105,110,116,101,103,101,114]
 .subst c5
  go_enter func52,ntmps52
  go_wp2_with fail
  go_ret
  exact⟨J,J⟩
 by_cases c6:s=[61]
 .subst c6
  go_enter func52,ntmps52
  go_wp2_with fail
  go_ret
  exact⟨J,J⟩
 by_cases c7:s=[92,61]
 .subst c7
  go_enter func52,ntmps52
  go_wp2_with fail
  go_ret
  exact⟨J,J⟩
 by_cases c8:s=[61,61]
 .subst c8
  go_enter func52,ntmps52
  go_wp2_with fail
  go_ret
  exact⟨J,J⟩
 by_cases c9:s=[105,115]
 .subst c9
  go_enter func52,ntmps52
  go_wp2_with fail
  go_ret
  exact⟨J,J⟩
 by_cases c10:s=[60]
 .subst c10
  go_enter func52,ntmps52
  go_wp2_with fail
  go_ret
  exact⟨J,J⟩
 by_cases c11:s=[62]
 .subst c11
  go_enter func52,ntmps52
  go_wp2_with fail
  go_ret
  exact⟨J,J⟩
 by_cases c12:s=[61,60]
 .subst c12
  go_enter func52,ntmps52
  go_wp2_with fail
  go_ret
  exact⟨J,J⟩
 by_cases c13:s=[62,61]
 .subst c13
  go_enter func52,ntmps52
  go_wp2_with fail
  go_ret
  exact⟨J,J⟩
 by_cases c14:s=[61,58,61]
 .subst c14
  go_enter func52,ntmps52
  go_wp2_with fail
  go_ret
  exact⟨J,J⟩
 have e:jw s=-1:=by
  unfold jw;grind
 rw[e];have d0:(s == ([116,114,117,101]:Bs))=false:=zg;have d1:(s == ([102,97,105,108]:Bs))=false:=zg;have d2:(s == ([118,97,114]:Bs))=false:=zg;have d3:(s == ([110,111,110,118,97,114]:Bs))=false:=zg;have d4:(s == ([97,116,111,109]:Bs))=false:=zg;have d5:(s == ([105,110,116,101,103,101,114]:Bs))=false:=zg;have d6:(s == ([61]:Bs))=false:=zg;have d7:(s == ([92,61]:Bs))=false:=zg;have d8:(s == ([61,61]:Bs))=false:=zg;have d9:(s == ([105,115]:Bs))=false:=zg;have d10:(s == ([60]:Bs))=false:=zg;have d11:(s == ([62]:Bs))=false:=zg;have d12:(s == ([61,60]:Bs))=false:=zg;have d13:(s == ([62,61]:Bs))=false:=zg;have d14:(s == ([61,58,61]:Bs))=false:=zg
 go_enter func52,ntmps52
 go_wp2_with fail
 go_ret
 exact⟨J,J⟩
namespace P
def S4:∀ (f:Nat) (r:Bs) (i:Nat),r.length<f->∃ q,jk f r i=O q
 | 0,r,i,h=>absurd h (a3z _)
 | f+1,[],i,_=>⟨_,by rw[jk]⟩
 | f+1,c::r,i,h=>by
  have b:r.length<f:=zg;rw[jk];split
  .exact S4 f r (i+1) b
  split
  .dsimp only;split
   .grind
   .rename_i g hw;have a:((c::r).drop ((c::r).takeWhile (fun x=>cls x≠0)).length).length<f:=by
     have:0<((c::r).takeWhile (fun x=>cls x≠0)).length:=by
      simp_all
     grind
    obtain⟨q,d⟩:=S4 f ((c::r).drop ((c::r).takeWhile (fun x=>cls x≠0)).length) (i+((c::r).takeWhile (fun x=>cls x≠0)).length) a;grind
  split
  .obtain⟨q,d⟩:=S4 f r (i+1) b;grind
  split
  .grind
  .rename_i s e;have hm:=a2q e;have a:((c::r).drop s.length).length<f:=by
    have:0<s.length:=by
     revert hm
     generalize s=t;intro hm;simp only[nH,a1z,a1E,or_false] at hm;grind
    grind
   obtain⟨q,d⟩:=S4 f ((c::r).drop s.length) (i+s.length) a;grind
def acq(u:Tok):Prop:=u.kind<=4/\(u.kind=3->u.text≠[]/\u.text.all digit=A/\u.text.length<=9)/\(u.kind=1->∃ c r,u.text=c::r/\cls c=115)/\(u.kind=2->u.text≠[])/\(u.kind=4->u.text=[46]\/u.text∈nH)
def aDj{w:Bs}(hw:lK w≠0):acq ⟨lK w,w,i⟩/\lK w≠4:=by
 cases w with
 | nil=>exact absurd J hw
 | cons c r=>
  unfold lK at hw ⊢;dsimp only at hw ⊢;by_cases b:cls c=115
  .rw[zip b] at hw ⊢;split at hw
   .rename_i a;rw[zip a];exact⟨⟨zs,zs,fun _=>⟨c,r,J,b⟩,zs,zs⟩,zo⟩
   omega
  .rw[bM b] at hw ⊢;by_cases d:cls c=99
   .rw[zip d] at hw ⊢;split at hw
    .rename_i a;rw[zip a];exact⟨⟨zs,zs,zs,zs,zs⟩,zo⟩
    omega
   .rw[bM d] at hw ⊢;split at hw
    .rename_i a;rw[zip a];exact⟨⟨zs,fun _=>⟨zs,a.2.1,a.1⟩,zs,zs,zs⟩,zo⟩
    omega
structure GH(n:Nat)(T:List Tok):Prop where
 len:T.length<=n+1
 last:∃ l t,T=l++[t]/\t.kind=0/\∀ u∈l,u.kind≠0
 tok:∀ u∈T,acq u
def GH.cons{T:List Tok}(h:GH n T){u:Tok}(hu:acq u)(b:u.kind≠0)(hm:n<m):GH m (u::T):=by
 obtain⟨c,⟨l,t,rfl,a,d⟩,e⟩:=h;refine⟨zg,⟨u::l,t,J,a,fun v hv=>?_⟩,fun v hv=>?_⟩<;>grind
theorem GH.mono{T:List Tok}(h:GH n T)(hm:n<=m):GH m T:=⟨by have:=h.len;omega,h.last,h.tok⟩
def S5:∀ (f:Nat) (r:Bs) (i:Nat) (T:List Tok),jk f r i=O (.inr T)->GH r.length T
 | 0,r,i,T,h=>by simp_all [jk]
 | f+1,[],i,T,h=>by
  rw[jk] at h;simp only[a1o,a5z] at h;subst h;exact⟨zs,⟨[],_,J,J,zs⟩,fun u hu=>by
   simp only[a1z,a1E,or_false] at hu;subst hu;exact⟨zs,zs,zs,zs,zs⟩⟩
 | f+1,c::r,i,T,h=>by
  rw[jk] at h;split at h
  .exact(S5 f r (i+1) T h).mono zs
  split at h
  .dsimp only at h;split at h
   .grind
   .rename_i e hw;have b:0<((c::r).takeWhile (fun x=>cls x≠0)).length:=by
     simp_all
    cases a:jk f ((c::r).drop ((c::r).takeWhile (fun x=>cls x≠0)).length) (i+((c::r).takeWhile (fun x=>cls x≠0)).length) with
    | none=>grind
    | some q=>
     rw[a] at h;cases q with
     | inl j=>grind
     | inr l=>
      simp only[a1o,a5z] at h;rw[<- h];refine(S5 f _ _ l a).cons (aDj hw).1 hw ?_;grind
  split at h
  .cases a:jk f r (i+1) with
   | none=>grind
   | some q=>
    rw[a] at h;cases q with
    | inl j=>grind
    | inr l=>
     simp only[a1o,a5z] at h;rw[<- h];exact(S5 f _ _ l a).cons ⟨zs,zs,zs,zs,fun _=>.inl J⟩ zs zs
  split at h
  .grind
  .rename_i s d;have hm:=a2q d;have g:0<s.length:=by
    revert hm
    generalize s=t;intro hm;simp only[nH,a1z,a1E,or_false] at hm;grind
   cases a:jk f ((c::r).drop s.length) (i+s.length) with
   | none=>grind
   | some q=>
    rw[a] at h;cases q with
    | inl j=>grind
    | inr l=>
     simp only[a1o,a5z] at h;rw[<- h];refine(S5 f _ _ l a).cons ⟨zs,zs,zs,zs,fun _=>.inr hm⟩ zs ?_;grind
def lex(s:Bs):Sum Nat (List Tok):=(jk (s.length+1) s 0).getD (.inl 0)
def S6(s:Bs):jk (s.length+1) s 0=O (lex s):=by
 obtain⟨q,a⟩:=S4 (s.length+1) s 0 (Nat.lt_succ_self _);simp_all [lex]
end P
open Sx
def alo(c a:Int)(w:Z):Calls bbt 47 #[zi c,zi a] w fun e w'=>
  e = .panicked [{ v:=aj 73 (pp w.heap.size),recovered:=false }]/\w'=w.alloc (ae #[zi c,zi a] 77):=by
 refine awX ?_;exact eT
def alp(c:UInt8)(w:Z):Calls bbt 111 #[.int .u8 c.toNat] w fun e w'=>e = ah (.int .u8 (P.cls c))/\w'=w:=by
 refine(aln c).mono ?_;grind
def aDk(s:Bs)(w:Z)(b:s.length<=100000):Calls bbt 99 #[aT s,aT [48,49,50,51,52,53,54,55,56,57]] w fun e w'=>
  e = ah (aT (a65 s [48,49,50,51,52,53,54,55,56,57]))/\Ext w w':=by
 refine(Any.strings_Trim_laid Tryz.lays160 zk (bs s) (bs [48,49,50,51,52,53,54,55,56,57]) w (by grind [ByteArray.size]) zd (ascii_of_all zd)).mono ?_;rintro e w' ⟨rfl,a⟩;exact⟨J,⟨a.os,a.tape,a.output,a.size,(by grind [bg,Below.block])⟩⟩
theorem alq(c:UInt8):([48,49,50,51,52,53,54,55,56,57]:Bs).contains c=P.digit c:=by
 have h:∀ n:Fin 256,([48,49,50,51,52,53,54,55,56,57]:Bs).contains (UInt8.ofNat n.val)=P.digit (UInt8.ofNat n.val):=zd;have:=h ⟨c.toNat,c.toNat_lt⟩;simpa using this
theorem alr(s:Bs):a65 s [48,49,50,51,52,53,54,55,56,57]=[]↔s.all P.digit=true:=by
 have a:∀ l:Bs,l.dropWhile (([48,49,50,51,52,53,54,55,56,57]:Bs).contains ·)=[]↔l.all P.digit=true:=fun l=>by
  simp only[alq];induction l with
  | nil=>simp
  | cons c l ih=>
   rw[List.dropWhile_cons,a2T,Bool.and_eq_true];grind
 unfold a65 Lib.trimLeftS Lib.trimRightS;rw[a];constructor
 .intro h;have b:(s.reverse.dropWhile (([48,49,50,51,52,53,54,55,56,57]:Bs).contains ·))=[]:=by
   cases hx:s.reverse.dropWhile (([48,49,50,51,52,53,54,55,56,57]:Bs).contains ·) with
   | nil=>rfl
   | cons c l=>
    rw[hx,List.all_reverse,a2T,Bool.and_eq_true] at h;have:=List.head?_dropWhile_not (([48,49,50,51,52,53,54,55,56,57]:Bs).contains ·) s.reverse;grind [List.head?_cons,alq]
  grind
 grind
def aDl(c:UInt8)(r:Bs)(n:(c::r).length<=100000)(at_:Nat)(w:Z)(y:P.cls c≠0) :
  Calls bbt 112 #[aT (c::r),zi at_,.int .u8 (P.cls c)] w fun e w'=>Ext w w' /\
   ((lK (c::r)≠0/\e = ah (.agg #[zi (lK (c::r)),aT (c::r),zi at_]))\/(lK (c::r)=0/\nw 2 at_ w w' e)):=by
 have a:lK (c::r)=if P.cls c=115 then(if (c::r).length<=8 then 1 else 0) else if P.cls c=99 then(if (c::r).length<=8 then 2 else 0)
  else if (c::r).length<=9/\(c::r).all P.digit=A/\(c≠48\/r=[]) then 3 else 0:=rfl
 have f:(c::r).getD 0 0=c:=rfl;have z:0<(c::r).length:=zs;have o:r=[]↔(c::r).length=1:=zg;have g:c=48↔c.toNat=48:=by rw[<- a2p];rfl
 have i:P.cls c=115\/P.cls c=99\/P.cls c=100:=by
  unfold P.cls at y ⊢;grind
 obtain⟨s,B⟩:=cg (c::r);rw[<- B] at n f z o a ⊢;have C:Ext w (w.alloc (ae #[zi 0,aT [],zi 0] 142)):=yF;have K:∀ (kd:Nat),lK s=kd->kd≠0->Ext w (bQ (w.alloc (ae #[zi 0,aT [],zi 0] 142)) w.heap.size (ae #[zi kd,aT s,zi at_] 142)):=yF;refine awU ?_;refine bH ?_;refine⟨fun _ w'=>Ext w w'/\lK s=0,?_,?_⟩
 .rcases i with h | h | h
  .rw[h] at a ⊢;rw[zip rfl] at a;by_cases b:s.length<=8
   .rw[zip b] at a;refine bH ?_;exact yH
   .rw[bM b] at a;refine bH ?_;exact yF
  .rw[h] at a ⊢;rw[bM zd,zip rfl] at a;by_cases b:s.length<=8
   .rw[zip b] at a;refine bH ?_;exact yH
   .rw[bM b] at a;refine bH ?_;exact yF
  .rw[h] at a ⊢;rw[bM zd,bM zd] at a;refine bH ?_;refine⟨fun t w'=>Ext w w'/\w'.heap[w.heap.size]?=aO #[zi 0,aT [],zi 0] 142/\t 25 = .bool (decide (lK s≠0)),?_,?_⟩
   .have j:(w.alloc (ae #[zi 0,aT [],zi 0] 142)).heap[w.heap.size]?=aO #[zi 0,aT [],zi 0] 142:=yH;by_cases p:s.length<=9
    .refine bH ?_;refine(aDk s _ n).mono ?_;rintro e w2 ⟨rfl,k⟩;have q:=C.trans k;have d:=k.ext _ _ j;by_cases l:s.all P.digit=A
     .have u:=(alr s).2 l;rw[u];by_cases D:c.toNat=48
      .have E:(c.toNat:Int)=48:=zo;refine cJ f ?_;refine⟨q,d,?_⟩;rw[a];by_cases F:s.length=1
       .have H:(s.length:Int)=1:=zo;rw[zip ⟨p,l,.inr (o.2 F)⟩];grind
       .have H:¬ (s.length:Int)=1:=zo;grind
      .have E:¬ (c.toNat:Int)=48:=zo;refine cJ f ?_;refine⟨q,d,?_⟩;rw[a,zip ⟨p,l,.inl (fun e=>D (g.1 e))⟩];grind
     .have u:¬ a65 s [48,49,50,51,52,53,54,55,56,57]=[]:=(by grind [alr]);refine bH ?_;exact yH
    .refine bH ?_;exact yF
   .rintro t w2 ⟨k,d,m⟩ d2;have I:=bg d;rw[m];by_cases hk:lK s≠0
    .rw[Gk _ _ hk];have L:lK s=3:=by
      grind
     refine cJ d ?_;exact yF
    .rw[Gl _ _ hk];exact yF
 .rintro t w' ⟨x,hk⟩ M;refine(alo _ _ _).mono ?_;rintro e w2 ⟨rfl,rfl⟩;refine bH ?_;exact⟨x.alloc _,.inr ⟨hk,_,J,yH,x.size⟩⟩
def alu(p:UInt8->Bool):∀ (l:Bs),(∀ m,m<(l.takeWhile p).length->p (l.getD m 0)=A)/\((l.takeWhile p).length<l.length->p (l.getD (l.takeWhile p).length 0)=G)/\(l.takeWhile p).length<=l.length/\l.take (l.takeWhile p).length=l.takeWhile p
 | []=>⟨fun m h=>absurd h (a3z _),fun h=>absurd h (a3z _),a1s _,J⟩
 | c::l=>by
  obtain⟨b,d,e,f⟩:=alu p l;by_cases a:p c=A
  .rw[List.takeWhile_cons,zip a];refine⟨fun m hm=>?_,fun h=>?_,zg,zg⟩
   .cases m with
    | zero=>grind
    | succ m=>simp_all
   grind
  simp_all
def alv(s:Bs)(j m:Nat):(s.drop j).getD m 0=s.getD (j+m) 0:=by
 grind
theorem acu{x:Bs}(h:x∈nH):x≠[]/\x.length<=3:=by
 simp only[nH,a1z,a1E,or_false] at h;rcases h with rfl | rfl | rfl | rfl | rfl | rfl | rfl | rfl | rfl | rfl | rfl | rfl | rfl | rfl | rfl | rfl | rfl | rfl | rfl | rfl | rfl | rfl | rfl<;>decide
def GI(p:Bs->Bool)(k:Nat):Bs:=((nH.take k).find? p).getD []
def aDp{p:Bs->Bool}(hk:k<23)(h:GI p k=[]):GI p (k+1)=if p (nH.getD k [])=A then nH.getD k [] else []:=by
 have b:k<nH.length:=hk;have c:(nH.take k).find? p=none:=by
  cases a:(nH.take k).find? p with
  | none=>rfl
  | some x=>
   rw[GI,a] at h;exact absurd h (acu (List.mem_of_mem_take (a2q a))).1
 grind [nH,GI,List.take_add_one,a1u]
theorem acv(p:Bs->Bool):GI p 23=(nH.find? p).getD []:=rfl
def aDq{p:Bs->Bool}(h:GI p k≠[]):GI p 23=GI p k:=by
 have e:nH=nH.take k++nH.drop k:=(List.take_append_drop k _).symm;rw[acv];unfold GI at h ⊢;cases a:(nH.take k).find? p with
 | none=>grind
 | some x=>grind
def M8(acc:List P.Tok):Sum Nat (List P.Tok)->Sum Nat (List P.Tok)
 | .inl i=>.inl i
 | .inr l=>.inr (acc++l)
def W2(T:List P.Tok)(f:Nat)(nm:Bs)(l:List Ex)(bd:Bd)(k:Nat)(vs:List Bs):Option (cj Cl):=
 if dZ T k [58,45]=A then cj.bind (mS T f (k+1) vs 0) fun b k' vars'=>mR T [46] ⟨nm,l,b,vars'⟩ k' vars'
 else mR T [46] ⟨nm,l,bd,vs⟩ k vs
def acw(T:List P.Tok)(f:Nat)(nm:Bs)(at_:Nat)(l:List Ex)(bd:Bd)(k:Nat)(vs:List Bs):Option (cj Cl):=
 if 0<=jw nm\/nm=[109,111,100] then O (.err 3 at_) else W2 T f nm l bd k vs
def Cs:List P.Tok->List Y
 | []=>[]
 | t::l=>.int .i64 t.kind::.string (bs t.text)::.int .i64 t.pos::Cs l
theorem alw:∀ (l:List P.Tok) (t:P.Tok),Cs (l++[t])=Cs l++[zi t.kind,aT t.text,zi t.pos]
 | [],t=>rfl
 | u::l,t=>by
  show _::_::_::Cs (l++[t])=_;rw[alw l t];rfl
theorem alx:∀ (l:List P.Tok) (j:Nat),j<l.length->(Cs l)[j*3]?=O (zi (tk l j).kind)/\(Cs l)[j*3+1]?=O (aT ((tk l j).text))/\(Cs l)[j*3+2]?=O (zi (tk l j).pos)
 | [],j,h=>zg
 | u::l,0,_=>⟨J,J,J⟩
 | u::l,j+1,h=>by
  have:=alx l j zg;have e:(j+1)*3=j*3+3:=zo;rw[e];exact this
def aDr:(Tryz.prog.info? 142).map (fun i=>(i.zero,i.size,i.bytes))=O (O (.agg #[zi 0,aT [],zi 0]),3,32):=zk
def W4{acc:List P.Tok}(c:w.ownsRow base 142 3 v acc.length (Cs acc)){kd:Nat}{tx:Bs}{ps:Nat}
  (d:w.heap[b]?=aO #[vv,tv,av] 142) (hk:vv=zi kd) (ht:tv = aT tx) (f:av=zi ps)
  (o:acc.length<=100000) (g:base<=w.heap.size) {K:Y->Z->Prop}
  (h:∀ v' w',w'.ownsRow base 142 3 v' (acc++([⟨kd,tx,ps⟩]:List P.Tok)).length (Cs (acc++([⟨kd,tx,ps⟩]:List P.Tok)))->w.grownBy w' v.ownBlock->(v'.ownBlock=v.ownBlock\/∀ k,v'.ownBlock=O k->w.heap.size<=k)->K v' w') :
  WR bbt (Builtin.append_ #[143,143] 143 #[v,cS b 1 m]) w K X:=by
 subst hk ht f;obtain⟨i,hi,a⟩:=Option.map_eq_some_iff.1 aDr;simp only[Prod.mk.injEq] at a;obtain⟨j,l,n⟩:=a;refine akc (m:=1) (t:=143) (e:=142) zk hi j l n J zo c d J (fun u hu=>?_) zo zo g ?_
 .simp only[a1z,a1E,or_false] at hu;rcases hu with rfl | rfl | rfl<;>rfl
 grind [alw,List.length_append]
def M9(w:Z):Prop:=∃ cs T z,w.heap[1]?=O (ae cs T z)/\23<=cs.size/\cs.toList.take 23=nH.map fun s=>aT s
theorem M9.ext{w w':Z}(h:M9 w)(a:Ext w w'):M9 w':=by
 obtain⟨cs,T,z,b,c⟩:=h;exact⟨cs,T,z,a.ext _ _ b,c⟩
def aDs(w:Z)(s:Bs)(e:Ending)(w':Z):Prop:=
 Ext w w'/\if 2000<s.length then nw 1 0 w w' e else match P.lex s with
 | .inl i=>nw 2 i w w' e
 | .inr T=>∃ v,e = ah v/\w'.ownsRow w.heap.size 142 3 v T.length (Cs T)
def Na{c a:Int}{e:Ending}(h:nw c a w1 w2 e)(hw:w.heap.size<=w1.heap.size):nw c a w w2 e:=by
 obtain⟨b,d,f,g⟩:=h;exact⟨b,d,f,zo⟩
def aly(c a:Int)(w:Z):Calls bbt 47 #[zi c,zi a] w fun e w'=>nw c a w w' e/\Ext w w':=by
 refine(alo c a w).mono ?_;rintro e w' ⟨rfl,rfl⟩;exact⟨⟨_,J,yH,a1s _⟩,yF⟩
def alz(s:Bs)(w:Z)(hl:s.length<=100000)(hT:M9 w):Calls bbt 84 #[aT s] w (aDs w s):=by
 refine awT ?_;refine⟨fun _ w'=>w'=w/\s.length<=2000,?_,?_⟩
 .by_cases h2:2000<s.length
  .refine J6 ?_;refine(aly _ _ _).mono ?_;rintro e w1 ⟨hf,y⟩;obtain⟨b,rfl,h1,M⟩:=hf;refine J6 ?_;refine⟨y,?_⟩;rw[zip h2];exact⟨b,J,h1,M⟩
  .refine J6 ?_;omega
 .rintro _ w1 ⟨rfl,qF⟩ _;refine⟨fun n t w2=>Ext w1 w2/\∃ j acc f q,n=s.length-j/\j<=s.length/\acc.length<=j/\t 3=zi j/\w2.ownsRow w1.heap.size 142 3 (t 2) acc.length (Cs acc) /\
   jk f (s.drop j) j=O q/\M8 acc q=P.lex s,⟨s.length,yF,0,[],_,_,J,Nat.zero_le _,a1s _,J,World.ownsRow_nil _ _ _ _,S6 s,?_⟩,?_⟩
  .cases P.lex s<;>rfl
  intro n t dd w2 N;refine toPr ?_;obtain⟨y,j,acc,f,q,rfl,hj,haj,M,dS,a,Q⟩:=N;have dX:=y.size;by_cases hlt:j<s.length
  .obtain⟨c,r,Ko⟩:∃ c r,s.drop j=c::r:=⟨s[j],s.drop (j+1),a1y hlt⟩;have L:s.getD j 0=c:=by
    grind [a1y,a1u]
   have hr:s.drop (j+1)=r:=by
    grind [a1y]
   have aVg:=c.toNat_lt;cases f with
   | zero=>rw[jk] at a;cases a
   | succ f=>
   rw[Ko,jk] at a;have py:(P.blank c=A)↔((c.toNat:Int)=32\/(c.toNat:Int)=10):=by
    have e1:c=32↔c.toNat=32:=by rw[<- a2p];rfl
    have e2:c=10↔c.toNat=10:=by rw[<- a2p];rfl
    simp only[P.blank,Bool.or_eq_true,beq_iff_eq,e1,e2];omega
   simp (disch:=first|assumption|omega|simp only[zS]<;>omega|decide) only[Pr,PX,PC,NX,ends,EU,po,jg,Nat.reduceAdd,Nat.reduceMul,Nat.reduceLeDiff,Nat.reduceEqDiff,Int.reduceToNat,Int.reduceAdd,Int.reduceLT,Int.reduceLE,↓reduceIte,forall_const,eq_self,aa0,jx,aaA,aaB,Pf,Pg,Gk,Gl,aaD,aaE,aaF,aaG,aaH,aaI,aaJ,aaK,aaL,aaO,aaP,aaM,aaN,aaU,aaV,aaW,aaX,Wx,aaR,aa1,aa2,abA,aa3,aa4,aa5,aa6,MD,sK,qz,jb,Se,Ca,vf,size_alloc,Sj,abc,aa7,aa8,aa9,aba,abb,abd,abe,abf,abg,abh,abi,abj,abk,abl,abm,abn,abo,abp,abq,abr,abt,abu,abv,we,u8w,Wr,aax,aay,Int.toNat_natCast,Option.isNone_none,Option.isNone_some,List.getElem?_toArray,List.getElem?_cons_zero,List.getElem?_cons_succ,List.setIfInBounds_toArray,List.set_cons_zero,List.set_cons_succ,List.size_toArray,List.length_cons,List.length_nil,List.drop_zero,List.drop_succ_cons,List.take_succ_cons,List.take_zero,List.take_nil,List.drop_nil,a2T,List.all_nil,Bool.and_true,Bool.true_and,Nat.zero_add,Nat.add_zero,Nat.mul_one,and_self,and_true,true_and,decide_true,decide_false,Bool.not_true,Bool.not_false,not_true_eq_false,not_false_eq_true,ajF,ajI,ajK,ajX,aj2,aj4,aj5,akb,M,L];refine⟨fun t2 w3=>w3=w2/\t2 3=zi j/\P.blank c=G,?_,?_⟩
   .refine⟨fun t2 w3=>w3=w2/\t2 25 = .bool (P.blank c),?_,?_⟩
    .refine yC (zA @aaC L) ?_;grind
    .rintro t2 w3 ⟨rfl,z⟩ d2;rw[z];cases hb:P.blank c with
     | true=>
      rw[Pf,M];refine J6 ?_;refine⟨s.length-(j+1),zo,y,j+1,acc,f,q,J,zo,zo,?_,?_,?_,Q⟩<;>grind
     | false=>
      rw[Pg];grind
   .rintro t2 w3 ⟨rfl,z,px⟩ d2;rw[bM (by simp [px])] at a;rw[L];refine(alp c _).mono ?_;rintro e w4 ⟨rfl,rfl⟩;by_cases pS:P.cls c≠0
    .rw[zip pS] at a;have aDt:¬ ((P.cls c:Nat):Int)=0:=zo;refine J6 ?_;obtain⟨W,R⟩:=cg (((c::r).takeWhile (fun x=>P.cls x≠0)).length);have S7:=alu (fun x=>P.cls x≠0) (c::r);rw[<- R] at S7;dsimp only at a;rw[<- R] at a;obtain⟨GJ,Cu,E8,wT⟩:=S7;have hlen:(c::r).length=s.length-j:=zg;rw[hlen] at Cu E8;rw[<- Ko] at GJ Cu;simp only[alv,decide_eq_true_eq,decide_eq_false_iff_not,ne_eq,Decidable.not_not] at GJ Cu;have hWp:0<W:=by
      grind
     refine⟨fun t3 g=>g=w4/\t3 6=zi ((j+W:Nat):Int),?_,?_⟩
     .refine⟨fun n t3 g=>g=w4/\∃ m,n=W-m/\m<=W/\t3 6=zi ((j+m:Nat):Int),⟨W,J,0,J,Nat.zero_le _,?_⟩,?_⟩
      .grind
      .intro n t3 d3 g N;refine toPr ?_;obtain⟨rfl,m,rfl,hm,C⟩:=N;by_cases hjm:j+m<s.length
       .refine yC C ?_;refine(alp _ _).mono ?_;rintro e D ⟨rfl,rfl⟩;by_cases S:m<W
        .have Dv:¬ ((P.cls (s.getD (j+m) 0):Nat):Int)=0:=zg;refine yC C ?_;exact⟨W-(m+1),zo,m+1,J,zo,zg⟩
        .have aDu:m=W:=zo;subst aDu;have Dv:((P.cls (s.getD (j+m) 0):Nat):Int)=0:=zo;exact abJ C
       .have S:m=W:=by
         omega
        subst S;exact abJ C
     .rintro t3 g ⟨rfl,C⟩ d3;refine yC (zA C z) ?_;have hdt:List.drop j (List.take (j+W) s)=c::r.takeWhile (fun x=>P.cls x≠0):=by
       rw[List.drop_take,Ko,show j+W-j=W by omega,wT,List.takeWhile_cons,zip (by simpa using pS)]
      have GL:(c::r).takeWhile (fun x=>P.cls x≠0)=c::r.takeWhile (fun x=>P.cls x≠0):=zg;rw[hdt];rw[GL] at a R;obtain⟨wd,Nb⟩:=cg (c::r.takeWhile (fun x=>P.cls x≠0));refine(aDl c _ zo j g pS).mono ?_;rw[<- Nb] at a R ⊢;rintro e D ⟨gW,(⟨xN,rfl⟩| ⟨xN,je⟩)⟩
      .have s4:=gW.size;rw[bM xN] at a;refine yC (zA z C) ?_;have o:Ext D (D.alloc (ae #[zi (lK wd),aT wd,zi j] 142)):=yF;have u:=jL (gW.trans o).ext dS;refine W4 (acc:=acc) (base:=w1.heap.size) (kd:=lK wd) (tx:=wd) (ps:=j) u yH J J J zo (yH) ?_;intro v' E S8 F Br;have T:Ext w1 E:=((y.trans gW).trans o).grow F (fun k hk=>(u.lt k hk).1);cases H:jk f (List.drop wd.length (c::r)) (j+wd.length) with
       | none=>exact yH
       | some q2=>
       rw[R,H] at a;refine⟨s.length-(j+W),zo,T,j+W,acc++[⟨lK wd,wd,j⟩],f,q2,J,zo,zg,zg,yH,?_,?_⟩
       .grind [List.drop_drop]
       .rw[<- Q];cases q2 with
        | inl i=>simp only[a1o] at a;rw[<- a];rfl
        | inr l=>grind [a1o,M8]
      .rw[zip xN] at a;cases a;simp only[M8] at Q;have PF:=Na je dX;obtain⟨b,rfl,g1,g2⟩:=je;refine J6 ?_;refine⟨yF,?_⟩;exact yH
    .rw[bM pS] at a;have aDt:((P.cls c:Nat):Int)=0:=zo;refine J6 ?_;have I:(c=46/\H6 r=A)↔((c.toNat:Int)=46/\(j+1=s.length\/(j+1<s.length/\((s.getD (j+1) 0).toNat=32\/(s.getD (j+1) 0).toNat=10)))):=by
      have e1:c=46↔c.toNat=46:=by rw[<- a2p];rfl
      have hrl:r.length=s.length-(j+1):=zg;rw[e1];cases r with
      | nil=>
       grind [H6]
      | cons d r'=>
       have hd:s.getD (j+1) 0=d:=by rw[show j+1=j+1+0 from J,<- alv,hr];rfl
       rw[hd];have e2:d=32↔d.toNat=32:=by rw[<- a2p];rfl
       have e3:d=10↔d.toNat=10:=by rw[<- a2p];rfl
       simp only[H6,P.blank,Bool.or_eq_true,beq_iff_eq,e2,e3];grind
     refine⟨fun t4 g=>g=w4/\t4 2=t 2/\t4 3=zi j/\¬ (c=46/\H6 r=A),?_,?_⟩
     .refine⟨fun t4 g=>g=w4/\t4 79 = .bool (decide (c=46/\H6 r=A)),?_,?_⟩
      .by_cases DT:(c.toNat:Int)=46
       .by_cases hje:j+1=s.length
        .have aDx:((j:Int)+1)=(s.length:Int):=zo;refine yC (zA z L) ?_;grind
        .have aDx:¬ ((j:Int)+1)=(s.length:Int):=zo;have W1:((j:Int)+1).toNat=j+1:=zo;refine yC (zA @aaC (zA z (zA L W1))) ?_;generalize hd:(s.getD (j+1) 0).toNat=d at *;by_cases g1:d=32
         .have W5:=I.2 ⟨DT,.inr ⟨zo,.inl g1⟩⟩;simp [jg,W5,g1]
         .have W6:¬ (d:Int)=32:=zo;by_cases g2:d=10
          .have W5:=I.2 ⟨DT,.inr ⟨zo,.inr g2⟩⟩;simp [jg,W5,g2]
          .have mg:¬ (c=46/\H6 r=A):=fun h=>by
            rcases(I.1 h).2 with h | ⟨_,h | h⟩
            .exact hje h
            .exact g1 h
            .exact g2 h
           have W7:¬ (d:Int)=10:=zo;rw[decide_eq_false mg];simp [jg,W6,W7];try omega
       .have mg:¬ (c=46/\H6 r=A):=zg;rw[decide_eq_false mg];exact abJ (zA z L)
      .rintro t4 g ⟨rfl,h83⟩ d4;rw[h83];by_cases U:c=46/\H6 r=A
       .rw[Gk _ _ U];rw[zip U] at a;refine yC z ?_;have o:Ext g (g.alloc (ae #[zi 4,aT [46],zi j] 142)):=yF;have u:=jL o.ext dS;refine W4 (acc:=acc) (base:=w1.heap.size) (kd:=4) (tx:=[46]) (ps:=j) u yH J J J zo (yH) ?_;intro v' E S8 F Br;have T:Ext w1 E:=(y.trans o).grow F (fun k hk=>(u.lt k hk).1);cases H:jk f r (j+1) with
        | none=>rw[H] at a;cases a
        | some q2=>
        rw[H] at a;refine yC z ?_;refine⟨s.length-(j+1),zo,T,j+1,acc++[⟨4,[46],j⟩],f,q2,J,zo,zg,zs,yH,?_,?_⟩
        .grind
        grind [a1o,M8]
       .rw[Gl _ _ U];grind
     .rintro t4 g ⟨rfl,By,SU,U⟩ d4;rw[bM U] at a;obtain⟨cs,TT,zz,yU,jO,Bz⟩:=hT.ext y;have hlen:(c::r).length=s.length-j:=zg;refine yC (zA yU Bz) ?_;obtain⟨B,tR⟩:∃ B:Bs->Bool,B=fun x=>x.isPrefixOf (c::r):=⟨_,J⟩;refine⟨fun n t5 D=>D=g/\∃ k,n=23-k/\k<=23/\t5 88=zi ((k:Nat):Int)/\t5 2=t 2/\t5 3=zi j/\GI B k=[],⟨23,J,0,J,Nat.zero_le _,J,?_,?_,J⟩,?_⟩
      .grind
      .grind
      intro n t5 d5 D N;refine toPr ?_;obtain⟨rfl,k,rfl,hk,Kq,K,X,kl⟩:=N;by_cases alC:k<23
      .obtain⟨x,hx⟩:=cg (nH.getD k []);have Cw:x∈nH:=by
        rw[hx,List.getD_eq_getElem?_getD,a1u (show k<nH.length from alC)];grind
       obtain⟨MX,J2⟩:=acu Cw;have W8:(List.take 23 cs.toList).toArray[k]?=O (aT x):=by
        grind
       have hkn:((k:Nat):Int).toNat=k:=zo;have aVj:(List.take 23 cs.toList).toArray[((k:Nat):Int).toNat]?=O (aT x):=zg;have aDz:((j:Nat):Int).toNat=j:=zo;refine yC (zA Kq (zA X aDz)) ?_;rw[Ko];refine(Tryz.strings_HasPrefix (bs (c::r)) (bs x) _).mono ?_;rintro e E ⟨rfl,rfl⟩;have GN:Lib.hasPrefix (bs (c::r)).data.toList (bs x).data.toList=B x:=by rw[tR];rfl
       rw[GN];have Ta:=aDp alC kl;rw[<- hx] at Ta;by_cases hp:B x=A
       .rw[hp];rw[zip hp] at Ta;have vV:nH.find? B=O x:=by
         have h1:=aDq (p:=B) (k:=k+1) (by rw[Ta];exact MX);rw[Ta,acv] at h1;grind
        rw[tR] at vV;rw[vV] at a;dsimp only at a;have hle:=(List.isPrefixOf_iff_prefix.1 (by rw[tR] at hp;exact hp)).length_le;rw[hlen] at hle;have nR:0<x.length:=List.length_pos_iff.2 MX;refine yC (zA K X) ?_;have o:Ext E (E.alloc (ae #[zi 4,aT x,zi j] 142)):=yF;have u:=jL o.ext dS;refine W4 (acc:=acc) (base:=w1.heap.size) (kd:=4) (tx:=x) (ps:=j) u yH J J J zo (yH) ?_;intro v' w8 S8 F Br;have T:Ext w1 w8:=(y.trans o).grow F (fun k hk=>(u.lt k hk).1);cases H:jk f ((c::r).drop x.length) (j+x.length) with
        | none=>rw[H] at a;cases a
        | some q2=>
        rw[H] at a;refine yC (zA K X) ?_;refine⟨s.length-(j+x.length),zo,T,j+x.length,acc++[⟨4,x,j⟩],f,q2,J,zo,zg,zs,yH,?_,?_⟩
        .grind [List.drop_drop]
        grind [a1o,M8]
       .have Ih:B x=false:=zg;rw[Ih];rw[bM hp] at Ta;refine yC (zA Kq (zA K X)) ?_;grind
      .have yJ:k=23:=zo;subst yJ;have xO:nH.find? (fun s=>s.isPrefixOf (c::r))=none:=by
        grind [acv,absurd,acu,a2q]
       rw[xO] at a;cases a;simp only[M8] at Q;refine yC (zA Kq X) ?_;refine(aly _ _ _).mono ?_;rintro e E ⟨hf,GO⟩;have eW:=Na hf dX;obtain⟨b,rfl,g1,g2⟩:=hf;refine J6 ?_;refine⟨yF,?_⟩;exact yH
  .have GG:j=s.length:=zo;subst GG;have Iy:List.drop s.length s=[]:=List.drop_length;cases f with
   | zero=>rw[jk] at a;cases a
   | succ f=>
   rw[Iy,jk] at a;cases a;simp only[M8] at Q;refine yC M ?_;have o:Ext w2 (w2.alloc (ae #[zi 0,aT [],zi (s.length)] 142)):=yF;have u:=jL o.ext dS;refine W4 (acc:=acc) (base:=w1.heap.size) (kd:=0) (tx:=[]) (ps:=s.length) u yH J J J zo (yH) ?_;intro v' D S8 F Br;refine⟨(y.trans o).grow F (fun k hk=>(u.lt k hk).1),?_⟩;exact yH
namespace P
structure aDA(T:List Tok)(f:Nat):Prop where
 lit:∀ k v d x k' v',nQ T f k v d=O (.ok x k' v')->k<k'
 lits:∀ k v d acc x k' v',qw T f k v d acc=O (.ok x k' v')->k<k'
 row:∀ k v d x k' v',oo T f k v d=O (.ok x k' v')->k<k'
 rest:∀ k v d x k' v',qx T f k v d=O (.ok x k' v')->k<k'
 body:∀ k v d x k' v',mS T f k v d=O (.ok x k' v')->k<k'
def Tb(T:List Tok):∀ f,aDA T f
 | 0=>⟨by simp_all [nQ],by simp_all [qw],by simp_all [oo],by simp_all [qx],by simp_all [mS]⟩
 | f+1=>by
  have ih:=Tb T f;have hm:=mono T f;refine⟨?_,?_,?_,?_,?_⟩
  .intro k v d x k' v' h;rw[nQ] at h;split at h
   .grind
   split at h
   .grind
   split at h
   .obtain⟨a,i,v1,g,e⟩:=eh h;have:=ih.lit _ _ _ _ _ _ g;grind
   split at h
   .obtain⟨a,i,v1,g,e⟩:=eh h;have:=ih.body _ _ _ _ _ _ g;grind [oz]
   obtain⟨a,i,v1,g,e⟩:=eh h;have:=hm.oper _ _ _ _ _ _ _ g;split at e
   .obtain⟨b,n,v2,j,l⟩:=eh e;have:=hm.oper _ _ _ _ _ _ _ j;grind
   grind
  .intro k v d acc x k' v' h;rw[qw] at h;obtain⟨y,i,v1,g,e⟩:=eh h;have:=ih.lit _ _ _ _ _ _ g;split at e
   .have:=ih.lits _ _ _ _ _ _ _ e;omega
   grind
  .intro k v d x k' v' h;rw[oo] at h;obtain⟨y,i,v1,g,e⟩:=eh h;have:=ih.lits _ _ _ _ _ _ _ g;grind
  .intro k v d x k' v' h;rw[qx] at h;split at h
   .grind
   .exact ih.body _ _ _ _ _ _ h
  .intro k v d x k' v' h;rw[mS] at h;obtain⟨a,i,v1,g,e⟩:=eh h;have:=ih.row _ _ _ _ _ _ g;split at e
   .obtain⟨b,n,v2,j,l⟩:=eh e;have:=ih.row _ _ _ _ _ _ j;split at l
    .obtain⟨c,o,v3,m,p⟩:=eh l;have:=ih.rest _ _ _ _ _ _ m;grind
    grind
   .split at e
    .obtain⟨c,o,v3,m,p⟩:=eh e;have:=ih.rest _ _ _ _ _ _ m;grind
    grind
def whole:Bd->Prop
 | .mk kind _ _ parts=>kind=63->parts.length=3
structure aDB(T:List Tok)(f:Nat):Prop where
 lit:∀ k v d x k' v',nQ T f k v d=O (.ok x k' v')->whole x
 lits:∀ k v d acc x k' v',(∀ b∈acc,whole b)->qw T f k v d acc=O (.ok x k' v')->(∀ b∈x,whole b)/\acc.length<x.length
 row:∀ k v d x k' v',oo T f k v d=O (.ok x k' v')->whole x
 rest:∀ k v d x k' v',qx T f k v d=O (.ok x k' v')->whole x
 body:∀ k v d x k' v',mS T f k v d=O (.ok x k' v')->whole x
def acA(T:List Tok):∀ f,aDB T f
 | 0=>⟨by simp_all [nQ],by simp_all [qw],by simp_all [oo],by simp_all [qx],by simp_all [mS]⟩
 | f+1=>by
  have ih:=acA T f;refine⟨?_,?_,?_,?_,?_⟩
  .intro k v d x k' v' h;rw[nQ] at h;split at h
   .grind
   split at h
   .grind [a1o,cj.ok.injEq,whole]
   split at h
   .obtain⟨a,i,v1,g,e⟩:=eh h;grind [a1o,cj.ok.injEq,whole]
   split at h
   .obtain⟨a,i,v1,g,e⟩:=eh h;rw[(oz e).2.1];exact ih.body _ _ _ _ _ _ g
   obtain⟨a,i,v1,g,e⟩:=eh h;split at e
   .obtain⟨b,m,v2,j,l⟩:=eh e;grind [a1o,cj.ok.injEq,whole]
   grind [a1o,cj.ok.injEq,whole]
  .intro k v d acc x k' v' r h;rw[qw] at h;obtain⟨y,i,v1,g,e⟩:=eh h;have s:=ih.lit _ _ _ _ _ _ g;have n:∀ b∈acc++[y],whole b:=by
    grind
   split at e
   .have j:=ih.lits _ _ _ _ _ _ _ n e;grind
   grind
  .intro k v d x k' v' h;rw[oo] at h;obtain⟨y,i,v1,g,e⟩:=eh h;have j:=(ih.lits _ _ _ _ _ _ _ zs g).1;grind [a1o,cj.ok.injEq,whole]
  .intro k v d x k' v' h;rw[qx] at h;split at h
   .grind
   .exact ih.body _ _ _ _ _ _ h
  .intro k v d x k' v' h;rw[mS] at h;obtain⟨a,i,v1,g,e⟩:=eh h;split at e
   .obtain⟨b,m,v2,j,l⟩:=eh e;split at l
    .obtain⟨c,o,v3,p,q⟩:=eh l;grind [a1o,cj.ok.injEq,whole]
    grind [a1o,cj.ok.injEq,whole]
   .split at e
    .obtain⟨c,o,v3,p,q⟩:=eh e;grind [a1o,cj.ok.injEq,whole]
    .simp only[a1o,cj.ok.injEq] at e;rw[<- e.1];exact ih.row _ _ _ _ _ _ g
end P
structure mY(w:Z)(B:Nat):Prop where
 lt:3<B
 cell:∀ j,j<9->w.cell? ⟨3,j,V⟩=O (aT (Mr.getD j []))
theorem mY.ext(h:mY w B)(hw:∀ (b:Nat) (o:Obj),b<B->w.heap[b]?=O o->w'.heap[b]?=O o):mY w' B:=
 ⟨h.lt,fun j a=>MI (h.cell j a) (by grind [lt])⟩
theorem mY.fr(a:mY w tb)(h:db pb w w')(d:tb<pb):mY w' tb:=
 a.ext fun b o e c=>h.block _ _ c (by rintro (h | ⟨h,_⟩)<;>omega)
structure PG(f:Nat):Prop where
 go:∀ {pb tb:Nat} {T:List P.Tok} {k:Nat} {vars:List Bs} {d:Nat} {w:Z} {r:cj Bd},SP w pb tb T k vars d->mY w tb->d<=8 ->
  nQ T f k vars d=O r->Calls bbt 115 #[pp pb] w (jW dJ pb tb T d w r)
structure PH(f:Nat):Prop where
 go:∀ {pb tb:Nat} {T:List P.Tok} {k:Nat} {vars:List Bs} {d:Nat} {w:Z} {r:cj Bd},SP w pb tb T k vars d->mY w tb->d<=8 ->
  oo T f k vars d=O r->Calls bbt 114 #[pp pb,.int .u8 44,aT [44],.func (.func 115) #[pp pb] #[]] w (jW dJ pb tb T d w r)
structure Kr(f:Nat):Prop where
 go:∀ {pb tb:Nat} {T:List P.Tok} {k:Nat} {vars:List Bs} {d:Nat} {w:Z} {r:cj Bd},SP w pb tb T k vars d->mY w tb->d<=8 ->
  mS T f k vars d=O r->Calls bbt 53 #[pp pb] w (jW dJ pb tb T d w r)
theorem dJ.shape{x:Bd}(h:dJ F w v x):∃ b,v=pp b/\F b:=by
 cases x with
 | mk kind name args parts=>
  unfold dJ at h;obtain⟨b,_,_,_,_,a,c,_⟩:=h;exact⟨b,a,c⟩
def gy.snoc{F:Nat->Prop}{w:Z}{v:Y}{x:Bd}(hv:dJ F w v x):∀ {l:List Bd} {vs:List Y},gy F w vs l->gy F w (vs++[v]) (l++[x])
 | [],vs,h=>by
  unfold gy at h;subst h;simp only[List.nil_append];unfold gy;exact⟨v,[],J,hv,by unfold gy;rfl⟩
 | y::l,vs,h=>by
  unfold gy at h;obtain⟨u,r,rfl,a,b⟩:=h;simp only[List.cons_append];unfold gy;exact⟨u,r++[v],J,a,gy.snoc hv b⟩
def gy.length{F:Nat->Prop}{w:Z}:∀ {l:List Bd} {vs:List Y},gy F w vs l->vs.length=l.length
 | [],vs,h=>by unfold gy at h;rw[h];rfl
 | x::xs,vs,h=>by
  unfold gy at h;obtain⟨v,r,rfl,_,a⟩:=h;simp [gy.length a]
def Iz:lO F w bW []:=⟨[],.inl ⟨J,J⟩,by unfold eQ;rfl⟩
def Ks:J9 F w bW []:=⟨[],.inl ⟨J,J⟩,by unfold gy;rfl⟩
def aDC{x:Bd}(a:F b)(h:w.heap[b]?=aO #[u] 84)(hx:dJ F w u x) :
  J9 F w (cS b 1 1) [x]:=by
 refine⟨[u],.inr ⟨b,#[u],J,a,h,a1s _,J⟩,?_⟩;unfold gy;exact⟨u,[],J,hx,by unfold gy;rfl⟩
def aDD{x y:Bd}(a:F b)(h:w.heap[b]?=aO #[u,v] 84)(hx:dJ F w u x)(c:dJ F w v y) :
  J9 F w (cS b 2 2) [x,y]:=by
 refine⟨[u,v],.inr ⟨b,#[u,v],J,a,h,a1s _,J⟩,?_⟩;unfold gy;refine⟨u,[v],J,hx,?_⟩;unfold gy;exact⟨v,[],J,c,by unfold gy;rfl⟩
def DU{name:Bs}{args:List Ex}(d:F b)
  (h:w.heap[b]?=aO #[.int .u8 pb,aT name,av,tv] 149) (a:lO F w av args) (c:J9 F w tv gr) :
  dJ F w (pp b) (.mk pb name args gr):=by
 obtain⟨vs,e,f⟩:=a;obtain⟨us,g,i⟩:=c;unfold dJ;grind
theorem J9.mono{F F':Nat->Prop}{w w':Z}{v:Y}{l:List Bd}(a:∀ b,F b->F' b)(hw:∀ b o,F b->DE o->w.heap[b]?=O o->w'.heap[b]?=O o)
  (h:J9 F w v l):J9 F' w' v l:=by
 obtain⟨vs,c,f⟩:=h;exact⟨vs,c.mono a fun b cs d e=>hw b _ d ⟨zg,J⟩ e,(by grind [gy.mono])⟩
def alD:(Tryz.prog.info? 84).map (fun i=>(i.zero,i.size,i.bytes))=O (O (aq V),1,8):=zk
abbrev alE(pb:Nat):Y:=.func (.func 115) #[pp pb] #[]
def RJ(pb tb:Nat)(T:List P.Tok)(d:Nat)(w0:Z)(c:cj (List Bd))(n:Nat)(a:Act)(w:Z):Prop:=
 ∃ (acc:List Bd) (k:Nat) (vs:List Bs) (xs:List Y) (sl e f g h u8 i j l m o p u16 q r s t u x y z B C D E F H:Y),a={ tmps:=#[pp pb,.int .u8 44,aT [44],alE pb,e,f,g,h,u8,sl,i,j,l,m,o,p,u16,q,r,s,t,u,x,y,z,B,C,D,E,F,H],defers:=[] } /\
  w.ownsRow w0.heap.size 84 1 sl acc.length xs/\gy (fun b=>Nu w0 w b/\sl.ownBlock≠O b) w xs acc/\SP w pb tb T k vs d/\db pb w0 w/\0<acc.length/\acc.length<=k /\
  (if dZ T k [44] then qw T n (k+1) vs d acc else O (.ok acc k vs))=O c
def aDF(Nc:∀ m,m<f->PG m){r:cj Bd}(pw:SP w0 pb tb T k vars d)(pS:mY w0 tb)(hd:d<=8)
  (h:oo T (f+1) k vars d=O r):Calls bbt 114 #[pp pb,.int .u8 44,aT [44],alE pb] w0 (jW dJ pb tb T d w0 r):=by
 rw[oo] at h;cases Au:qw T f k vars d [] with
 | none=>rw[Au] at h;simp [cj.bind] at h
 | some re=>
 rw[Au] at h;cases f with
 | zero=>simp [qw] at Au
 | succ f=>
 rw[qw] at Au;have Tc:=a1p pw;have IA:=a1p pS;have HR:=a1p h;have MV:=a1p Au;have xJ:=pw.d2.2.2;have wQ:=pw.lt;have hT:=pw.tw.len;obtain⟨i0,hi,Kg,Kh,Ki⟩:=info_parts alD;clear pw h Au pS
 go_enter func114,ntmps114
 go_wp2_with fail
 cases hq:nQ T f k vars d with
 | none=>have e:=MV.out;rw[hq] at e;simp [cj.bind] at e
 | some q=>
 have e:=MV.out;rw[hq] at e;refine((Nc f zo).go Tc.out IA.out hd hq).mono ?_;cases q with
 | err c0 a0=>
  rintro e2 w4 ⟨⟨b,rfl,eL,gz⟩,dU,gJ⟩;simp only[cj.bind,a1o] at e;subst e;have hr:=HR.out;simp only[cj.bind,a1o] at hr;subst hr;exact⟨J,⟨b,J,eL,gz⟩,dU,gJ⟩
 | ok x k' wN=>
 rintro e2 w1 ⟨v,rfl,hv,fa,eW⟩;simp only[cj.bind] at e;obtain⟨bx,rfl,jB⟩:=hv.shape;have nT:=(Tb T f).lit _ _ _ _ _ _ hq;have pR:=eW.size;have eG:(w1.alloc (ae #[pp bx] 84)).ownsRow w0.heap.size 84 1 (cS w1.heap.size 1 1) 1 [pp bx]:=
  ⟨J,.inr ⟨w1.heap.size,1,_,J,zo,blk_alloc_new _ _,a1s _,zd,J,J⟩⟩
 have iV:gy (fun b=>Nu w0 (w1.alloc (ae #[pp bx] 84)) b/\(a1D (O ⟨w1.heap.size,0,V⟩) 1 1).ownBlock≠O b) (w1.alloc (ae #[pp bx] 84)) [pp bx] [x]:=by
  have:=gy.snoc (l:=[]) (vs:=[]) (F:=fun b=>Nu w0 (w1.alloc (ae #[pp bx] 84)) b/\(a1D (O ⟨w1.heap.size,0,V⟩) 1 1).ownBlock≠O b) (w:=w1.alloc (ae #[pp bx] 84)) (v:=pp bx) (x:=x)
   (dJ.mono (fun b hb=>⟨(by grind [size_alloc]),fun e=>by injection e with e;grind⟩) (by grind [dR]) _ _ hv) (by unfold gy;rfl)
  grind
 have SL:=a1p eG;have mm:=a1p iV;have iO:=a1p (fa.ext (w':=w1.alloc (ae #[pp bx] 84)) fun b o h=>dR h);have fO:Hid (db pb w0 (w1.alloc (ae #[pp bx] 84))):=a1p (eW.alloc _);have HE:=a1p e;have HK:=a1p nT;clear hv fa eW eG iV e hq jB MV nT
 go_wp2_with fail
 refine wp_loop_ghost (fun n a w=>n<=f/\RJ pb tb T d w0 re n a w) ⟨f,a1s _,[x],k',wN,_,_,_,_,_,_,_,_,_,_,_,_,_,_,_,_,_,_,_,_,_,_,_,_,_,_,_,_,J,SL.out,mm.out,iO.out,fO.out,Nat.zero_lt_one,by have:=HK.out;simp;omega,by simpa using HE.out⟩ ?_;clear SL mm iO fO HK HE pR;rintro n a w ⟨hnf,acc,k2,vs,xs,sl,u4,u5,u6,u7,u8,yN,yO,yP,wJ,wK,yQ,u16,yR,yS,Ce,Cf,Cg,Ch,Ci,Cj,Ck,Cm,Cn,DL,DM,DN,rfl,dS,ml,hp,hf,h0a,WV,hr⟩;have Im:=hp.kt;have hz:=hf.size;have Cq:=hp.d2.2.2;obtain⟨g',rJ,rfl⟩:∃ g cap,sl = cS g acc.length cap:=by
  obtain⟨g1,g2 | ⟨g,cp,cur,e1,e2,e3,e4⟩⟩:=dS<;>grind
 have HO:=a1p dS;have HX:=a1p ml;have HP:=a1p hp;have HF:=a1p hf;by_cases hc:dZ T k2 [44]=A
 .rw[zip hc] at hr;cases n with
  | zero=>grind [qw]
  | succ n=>
  rw[qw] at hr;have As:=a1p hr;clear dS ml hp hf hr
  go_wp2_with fail
  refine(vh HP.out [44] hc).mono ?_;rintro e w2 ⟨rfl,fa,eW⟩;have iO:=a1p fa;have fO:=a1p eW;clear fa eW hc
  go_wp2_with fail
  cases hq:nQ T n (k2+1) vs d with
  | none=>have e:=As.out;rw[hq] at e;simp [cj.bind] at e
  | some q=>
  have e:=As.out;rw[hq] at e;refine((Nc n zo).go iO.out (IA.out.fr (HF.out.trans fO.out) wQ) hd hq).mono ?_;cases q with
  | err c0 a0=>
   rintro e2 w4 ⟨⟨b,rfl,eL,gz⟩,dU,gJ⟩;simp only[cj.bind,a1o] at e;subst e;have hr:=HR.out;simp only[cj.bind,a1o] at hr;subst hr;have:=fO.out.size;exact⟨J,⟨b,J,eL,zo⟩,(HF.out.trans fO.out).trans dU,gJ⟩
  | ok x k' wN=>
  rintro e2 w3 ⟨v,rfl,hv,gH,dU⟩;simp only[cj.bind] at e;obtain⟨bx,rfl,jB⟩:=hv.shape;have nT:=(Tb T n).lit _ _ _ _ _ _ hq;have rj:=fO.out.size;have E3:=dU.size;have jN:=gH.kt;have ab1:=iO.out.d2.2.2;have sW:=gH.d2.2.2;have xK:w3.ownsRow w0.heap.size 84 1 (cS g' acc.length rJ) acc.length xs:=by
   obtain⟨g1,g2 | ⟨g,cp,cur,e1,e2,e3,e4⟩⟩:=HO.out
   .omega
   .exact⟨g1,.inr ⟨g,cp,cur,e1,e2,db.lF dU ⟨zg,J⟩ (db.lF fO.out ⟨zg,J⟩ e3 zo) zo,e4⟩⟩
  have Kj:gy (fun b=>Nu w0 w3 b/\(a1D (O ⟨g',0,V⟩) acc.length rJ).ownBlock≠O b) w3 xs acc:=
   gy.mono zg (by grind [db.lF,Hid.out]) _ _ HX.out
  have vl:=a1p xK;have mm:=a1p Kj;have HV:=a1p hv;have ku:=a1p gH;have ix:=a1p ((HF.out.trans fO.out).trans dU);have HE:=a1p e;have Ar:=a1p jB;have HK:=a1p nT;clear hv gH dU xK Kj e hq jB nT
  go_wp2_with (at_builtin;go_must (refine R3 J _ _ 147 J w0.heap.size 84 i0 _ 1 8 underlying147 hi Kg Kh Ki J zo _ _ _ J (vl.out.alloc _) ⟨w3.heap.size,0,V⟩ 1 1 [pp bx] J J (O8 J) (by simp [Value.oneCell']) (by grind [maxLen]) zo (by simp;omega) ?_;intro v' w4 sU yT Bn;obtain⟨g2,GD,rfl⟩:=Mv sU;have Gz:=a1p sU;have uz:=a1p yT;have SI:=a1p Bn;clear sU yT Bn))
  have jY:SP w4 pb tb T k' wN d:=(ku.out.ext fun b o h=>dR (o:=Obj.cells #[Value.pointer (O ⟨bx,0,V⟩)] 84) h).Ps (vl.out.alloc _) zg zo uz.out;have ez:db pb w0 w4:=(ix.out.alloc _).Pt uz.out fun k hk=>(vl.out.lt k hk).1;have Py:=uz.out.size;rw[size_alloc] at Py;have Px:∀ (b:Nat) (o:Obj),w3.heap[b]?=O o->(a1D (O ⟨g',0,V⟩) acc.length rJ).ownBlock≠O b->w4.heap[b]?=O o:=fun b o h ee=>by
   have h':=dR (o:=Obj.cells #[Value.pointer (O ⟨bx,0,V⟩)] 84) h;rw[uz.out.block b (bg h') (fun e=>ee e.symm)];omega
  have px:∀ b,b<w3.heap.size->(a1D (O ⟨g',0,V⟩) acc.length rJ).ownBlock≠O b->(a1D (O ⟨g2,0,V⟩) (acc.length+1) GD).ownBlock≠O b:=fun b hb ee=>by
   rcases SI.out with h | h
   .rw[h];exact ee
   grind [size_alloc]
  have hbn:∀ b,Nu w2 w3 b->(a1D (O ⟨g',0,V⟩) acc.length rJ).ownBlock≠O b:=fun b hb e=>by
   have:=(HO.out.lt b e).2;omega
  have ab2:gy (fun b=>Nu w0 w4 b/\(a1D (O ⟨g2,0,V⟩) (acc.length+1) GD).ownBlock≠O b) w4 (xs++[pp bx]) (acc++[x]):=
   gy.snoc (dJ.mono zg zg _ _ HV.out)
    (gy.mono zg zg _ _ mm.out)
  have nT:=HK.out;exact⟨n,Nat.lt_succ_self n,zo,acc++[x],k',wN,_,_,_,_,_,_,_,_,_,_,_,_,_,_,_,_,_,_,_,_,_,_,_,_,_,_,_,_,J,by rw[List.length_append];exact Gz.out,ab2,jY,ez,zs,zg,HE.out⟩
 .rw[bM hc,a1o] at hr;subst hr;clear dS ml hp hf;have hr:=HR.out;simp only[cj.bind,a1o] at hr;subst hr;clear HR;have Bp:=(HO.out.lt g' J);have iQ:=EZ HO.out (F:=Nu w0 w) (fun b hb=>⟨(HO.out.lt b hb).1,(HO.out.lt b hb).2⟩);have MX:gy (Nu w0 w) w xs acc:=gy.mono zg zg _ _ HX.out;have HSL:=a1p iQ;have HXN:=a1p MX;clear iQ MX;by_cases h1:acc.length=1
  .obtain⟨b1,rfl⟩:∃ b1,acc=[b1]:=List.length_eq_one_iff.1 h1;have rL:=HXN.out;unfold gy at rL;obtain⟨v1,r1,e1,kK,pk⟩:=rL;unfold gy at pk;subst pk;subst e1;have nJ:w.cell? ⟨g',0,V⟩=O v1:=by
    obtain⟨g1,g2 | ⟨g,cp,cur,e1,e2,e3,e4,e5,e6,e7⟩⟩:=HO.out
    .omega
    .cases e1;refine cellOf e3 ?_;have h1:(cur.toList.take 1)[0]?=O v1:=zg;grind
   have W9:=a1p kK;have DQ:=Bp.2;clear kK h1
   go_wp2_with fail
   refine(qD HP.out [44] zg zd).mono ?_;rintro e w2 ⟨rfl,rfl⟩;clear hc
   go_wp2_with fail
   go_ret
   exact⟨_,J,W9.out,HP.out,HF.out⟩
  .have BA:((acc.length:Int) == 1)=false:=zg;have qF:¬ (acc.length:Int)=1:=zo
   go_wp2_with fail
   refine(qD HP.out [44] zg zd).mono ?_;rintro e w2 ⟨rfl,rfl⟩;clear hc
   go_wp2_with fail
   go_ret
   refine⟨_,J,?_,HP.out.ext (by grind [dR]),HF.out.alloc _⟩;have key:=(show dJ (Nu w0 (w.alloc (ae #[.int .u8 44,aT [],bW,cS g' acc.length rJ] 149))) (w.alloc (ae #[.int .u8 44,aT [],bW,cS g' acc.length rJ] 149)) (pp w.heap.size) (.mk 44 [] [] acc) from DU (by grind [size_alloc]) (blk_alloc_new _ _) Iz (J9.mono (by grind [size_alloc]) (by grind [dR]) ⟨xs,HSL.out,HXN.out⟩));rcases acc with _ | ⟨x1,_ | ⟨x2,l⟩⟩
   .grind
   .grind
   .exact key
def alG:PH 0:=⟨fun _ _ _ h=>by simp [oo] at h⟩
theorem aDH(d:∀ m,m<f->PG m):PH f:=by
 cases f with
 | zero=>exact alG
 | succ f=>exact⟨fun a b c h=>aDF zg a b c h⟩
def P.Td(T:List P.Tok)(f k:Nat)(vars:List Bs)(d:Nat):Option (cj Bd):=
 cj.bind (oo T f k vars d) fun a c v1=>
  if dZ T c [45,62] then cj.bind (oo T f (c+1) v1 d) fun b e v2=>O (.ok (.mk 63 [] [] [a,b]) e v2) else O (.ok a c v1)
def aDI(F:Nat->Prop)(w:Z)(v:Y)(x:Bd):Prop:=
 (P.whole x/\dJ F w v x) \/
 ∃ (a b:Bd) (n g:Nat) (c vb:Y),x = .mk 63 [] [] [a,b]/\v=pp n/\F n/\F g/\n≠g /\
  w.heap[n]?=aO #[.int .u8 63,aT [],bW,cS g 2 2] 149/\w.heap[g]?=aO #[c,vb] 84 /\
  dJ (fun m=>F m/\m≠n/\m≠g) w c a/\dJ (fun m=>F m/\m≠n/\m≠g) w vb b
def aDJ(eG:PH f){r:cj Bd}(pw:SP w0 pb tb T k vars d)(pS:mY w0 tb)(hd:d<=8)
  (h:P.Td T f k vars d=O r):Calls bbt 85 #[pp pb] w0 (jW aDI pb tb T d w0 r):=by
 unfold P.Td at h;have Tc:=a1p pw;have IA:=a1p pS;have HR:=a1p h;have xJ:=pw.d2.2.2;have wQ:=pw.lt;clear pw h pS
 go_enter func85,ntmps85
 go_wp2_with fail
 cases hq:oo T f k vars d with
 | none=>have e:=HR.out;rw[hq] at e;simp [cj.bind] at e
 | some q=>
 have e:=HR.out;rw[hq] at e;refine(eG.go Tc.out IA.out hd hq).mono ?_;cases q with
 | err c0 a0=>
  rintro e2 w4 ⟨⟨b,rfl,eL,gz⟩,dU,gJ⟩;simp only[cj.bind,a1o] at e;subst e;exact⟨J,⟨b,J,eL,gz⟩,dU,gJ⟩
 | ok x k1 v1=>
 rintro e2 w1 ⟨v,rfl,hv,dE,gj⟩;simp only[cj.bind] at e;obtain⟨bx,rfl,jB⟩:=hv.shape;have IB:=(acA T f).row _ _ _ _ _ _ hq;have pR:=gj.size;have W9:=a1p hv;have ku:=a1p dE;have ix:=a1p gj;have Ar:=a1p jB;have HWH:=a1p IB;have HE:=a1p e;clear hv dE gj jB IB e hq HR;by_cases hc:dZ T k1 [45,62]=A
 .go_wp2_with fail
  refine(vh ku.out [45,62] hc).mono ?_;rintro e w2 ⟨rfl,fa,eW⟩;have iO:=a1p fa;have fO:=a1p eW;have rj:=eW.size;clear fa eW
  go_wp2_with fail
  have e:=HE.out;rw[zip hc] at e;cases hq:oo T f (k1+1) v1 d with
  | none=>rw[hq] at e;simp [cj.bind] at e
  | some q=>
  rw[hq] at e;refine(eG.go iO.out (IA.out.fr (ix.out.trans fO.out) wQ) hd hq).mono ?_;cases q with
  | err c0 a0=>
   rintro e2 w4 ⟨⟨b,rfl,eL,gz⟩,dU,gJ⟩;simp only[cj.bind,a1o] at e;subst e;exact⟨J,⟨b,J,eL,zo⟩,(ix.out.trans fO.out).trans dU,gJ⟩
  | ok y k2 v2=>
  rintro e2 w3 ⟨v,rfl,hv,gH,dU⟩;simp only[cj.bind,a1o] at e;subst e;obtain⟨GP,rfl,oq⟩:=hv.shape;have E3:=dU.size;have Xa:=a1p hv;have uA:=a1p gH;have oB:=a1p dU;have sW:=gH.d2.2.2;have aVk:=ku.out.d2.2.2;clear hv gH dU oq hq HE hc
  go_wp2_with fail
  go_ret
  have gT:∀ o o',((w3.alloc o).alloc o').heap.size=w3.heap.size+2:=(by grind [size_alloc]);refine⟨_,J,.inr ⟨x,y,w3.heap.size+1,w3.heap.size,_,_,J,J,zg,zg,zo,EY (by rw[size_alloc]),dR (blk_alloc_new _ _),?_,?_⟩,
   (by grind [dR,SP.ext,Hid.out]),(by grind [trans,bB.alloc,bB.trans,Hid.out])⟩
  .exact dJ.mono zg
    (by grind [dR,db.lF,Hid.out]) _ _ W9.out
  .exact dJ.mono zg
    (by grind [dR]) _ _ Xa.out
 .go_wp2_with fail
  refine(qD ku.out [45,62] zg zd).mono ?_;rintro e w2 ⟨rfl,rfl⟩
  go_wp2_with fail
  go_ret
  have e:=HE.out;rw[bM hc,a1o] at e;subst e;exact⟨_,J,.inl ⟨HWH.out,W9.out⟩,ku.out,ix.out⟩
