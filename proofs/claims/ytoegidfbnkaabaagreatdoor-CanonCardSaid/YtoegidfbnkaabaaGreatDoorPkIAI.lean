/- A part of one proof (SSmall, PureL, SX1, PureL2, SX2, PureB, SCon2, SRow, SCond). -/
import Derived.Test.YtoegidfbnkaabaaGreatDoorPkIAH
import Derived.Shelf.Strings.SlTrimAscii
set_option linter.all false
set_option maxRecDepth 100000
set_option maxHeartbeats 8000000
open Option renaming some → O, none → V
open Go renaming Value → Y, World → Z
open Bool renaming true → A, false → G
open Go.Obj renaming cells → ae
open Go.Ending renaming returned → ah
open Go.Value renaming iface → aj, pointer → aq
open Option.some renaming injEq → a07
open Go.Lib renaming hid → a08, trimS → a6W
open Nat renaming le_refl → a1c, not_lt_zero → a3g
open List renaming getElem?_eq_getElem → a1e, mem_cons → a1g, drop_eq_getElem_cons → a1h, not_mem_nil → a1l, mem_of_find?_eq_some → a1Z, all_cons → a2z
open Go.Value renaming slice → a1n
open UInt8 renaming toNat_inj → a18
open Sum.inr renaming injEq → a5l
open Go.Proofs.Tryz renaming prog → bbf
open Go.Proofs.Tryz
namespace Go.Proofs.YtoegidfbnkaabaaGreatDoor
open P
open Go.RowKit
variable{B b base d f i k n pb tb:Nat}{F:Nat->Prop}{T:List P.Tok}{X:Y->Z->Prop}{av tv u v vv:Y}{gI:List Bd}{vars:List Bs}{w' w0 w1 w2:Z}
def alz(c:UInt8){w:Z}:Calls bbf 111 #[.int .u8 c.toNat] w fun e w'=>e = ah (.int .u8 (P.cls c))/\w'=w:=by
 have hc:c.toNat<256:=c.toNat_lt;unfold P.cls;obtain⟨n,hn⟩:=cg c.toNat;rw[<- hn] at hc ⊢;clear hn;by_cases a1:97<=n
 .by_cases a2:n<=122
  .have b1:(97:Int)<=n:=zo;have b2:(n:Int)<=122:=zo;rw[zip ⟨a1,a2⟩]
   go_enter func111,ntmps111
   go_wp2_with fail
   go_ret
   exact⟨J,J⟩
  .have b1:(97:Int)<=n:=zo;have b2:¬ (n:Int)<=122:=zo;have b3:(65:Int)<=n:=zo;have b4:¬ (n:Int)<=90:=zo;have b5:((n:Int) == 95)=false:=zg;have b6:(48:Int)<=n:=zo;have b7:¬ (n:Int)<=57:=zo;have b8:¬ (n:Int)=95:=zo;rw[bI zo,bI zo,bI zo]
   go_enter func111,ntmps111
   go_wp2_with fail
   go_ret
   exact⟨J,J⟩
 .have b1:¬ (97:Int)<=n:=zo;rw[bI zo];by_cases a3:n=95
  .subst a3
   go_enter func111,ntmps111
   go_wp2_with fail
   go_ret
   exact⟨J,J⟩
  have b5:((n:Int) == 95)=false:=zg;have b8:¬ (n:Int)=95:=zo;by_cases a4:65<=n
  .have b3:(65:Int)<=n:=zo;by_cases a5:n<=90
   .have b4:(n:Int)<=90:=zo;rw[zip zo]
    go_enter func111,ntmps111
    go_wp2_with fail
    go_ret
    exact⟨J,J⟩
   .have b4:¬ (n:Int)<=90:=zo;have b6:(48:Int)<=n:=zo;have b7:¬ (n:Int)<=57:=zo;rw[bI zo,bI zo]
    go_enter func111,ntmps111
    go_wp2_with fail
    go_ret
    exact⟨J,J⟩
  .have b3:¬ (65:Int)<=n:=zo;rw[bI zo];by_cases a6:48<=n
   .have b6:(48:Int)<=n:=zo;by_cases a7:n<=57
    .have b7:(n:Int)<=57:=zo;rw[zip zo]
     go_enter func111,ntmps111
     go_wp2_with fail
     go_ret
     exact⟨J,J⟩
    .have b7:¬ (n:Int)<=57:=zo;rw[bI zo]
     go_enter func111,ntmps111
     go_wp2_with fail
     go_ret
     exact⟨J,J⟩
   .have b6:¬ (48:Int)<=n:=zo;rw[bI zo]
    go_enter func111,ntmps111
    go_wp2_with fail
    go_ret
    exact⟨J,J⟩
def NL(s:Bs){w:Z}:Calls bbf 52 #[aT s] w fun e w'=>e = ah (zi (jW s))/\w'=w:=by
 by_cases c0:s=[116,114,117,101]
 .subst c0
  go_enter func52,ntmps52
  go_wp2_with fail
  go_ret
  exact⟨J,J⟩
 by_cases c1:s=[102,97,105,108]
 .subst c1
  go_enter func52,ntmps52
  go_wp2_with fail
  go_ret
  exact⟨J,J⟩
 by_cases c2:s=[118,97,114]
 .subst c2
  go_enter func52,ntmps52
  go_wp2_with fail
  go_ret
  exact⟨J,J⟩
 by_cases c3:s=[110,111,110,118,97,114]
 .subst c3
  go_enter func52,ntmps52
  go_wp2_with fail
  go_ret
  exact⟨J,J⟩
 by_cases c4:s=[97,116,111,109]
 .subst c4
  go_enter func52,ntmps52
  go_wp2_with fail
  go_ret
  exact⟨J,J⟩
 by_cases c5:s=[105,110,116,101,103,101,114]
 .subst c5
  go_enter func52,ntmps52
  go_wp2_with fail
  go_ret
  exact⟨J,J⟩
 by_cases c6:s=[61]
 .subst c6
  go_enter func52,ntmps52
  go_wp2_with fail
  go_ret
  exact⟨J,J⟩
 by_cases c7:s=[92,61]
 .subst c7
  go_enter func52,ntmps52
  go_wp2_with fail
  go_ret
  exact⟨J,J⟩
 by_cases c8:s=[61,61]
 .subst c8
  go_enter func52,ntmps52
  go_wp2_with fail
  go_ret
  exact⟨J,J⟩
 by_cases c9:s=[105,115]
 .subst c9
  go_enter func52,ntmps52
  go_wp2_with fail
  go_ret
  exact⟨J,J⟩
 by_cases c10:s=[60]
 .subst c10
  go_enter func52,ntmps52
  go_wp2_with fail
  go_ret
  exact⟨J,J⟩
 by_cases c11:s=[62]
 .subst c11
  go_enter func52,ntmps52
  go_wp2_with fail
  go_ret
  exact⟨J,J⟩
 by_cases c12:s=[61,60]
 .subst c12
  go_enter func52,ntmps52
  go_wp2_with fail
  go_ret
  exact⟨J,J⟩
 by_cases c13:s=[62,61]
 .subst c13
  go_enter func52,ntmps52
  go_wp2_with fail
  go_ret
  exact⟨J,J⟩
 by_cases c14:s=[61,58,61]
 .subst c14
  go_enter func52,ntmps52
  go_wp2_with fail
  go_ret
  exact⟨J,J⟩
 have e:jW s=-1:=by
  unfold jW;grind
 rw[e];have d0:(s == ([116,114,117,101]:Bs))=false:=zg;have d1:(s == ([102,97,105,108]:Bs))=false:=zg;have d2:(s == ([118,97,114]:Bs))=false:=zg;have d3:(s == ([110,111,110,118,97,114]:Bs))=false:=zg;have d4:(s == ([97,116,111,109]:Bs))=false:=zg;have d5:(s == ([105,110,116,101,103,101,114]:Bs))=false:=zg;have d6:(s == ([61]:Bs))=false:=zg;have d7:(s == ([92,61]:Bs))=false:=zg;have d8:(s == ([61,61]:Bs))=false:=zg;have d9:(s == ([105,115]:Bs))=false:=zg;have d10:(s == ([60]:Bs))=false:=zg;have d11:(s == ([62]:Bs))=false:=zg;have d12:(s == ([61,60]:Bs))=false:=zg;have d13:(s == ([62,61]:Bs))=false:=zg;have d14:(s == ([61,58,61]:Bs))=false:=zg
 go_enter func52,ntmps52
 go_wp2_with fail
 go_ret
 exact⟨J,J⟩
namespace P
def S7:∀ (f:Nat) (r:Bs) (i:Nat),r.length<f->∃ q,lB f r i=O q
 | 0,r,i,h=>absurd h (a3g _)
 | f+1,[],i,_=>⟨_,by rw[lB]⟩
 | f+1,c::r,i,h=>by
  have b:r.length<f:=zg;rw[lB];split
  .exact S7 f r (i+1) b
  split
  .dsimp only;split
   .grind
   .rename_i g hw;have a:((c::r).drop ((c::r).takeWhile (fun x=>cls x≠0)).length).length<f:=by
     have:0<((c::r).takeWhile (fun x=>cls x≠0)).length:=by
      simp_all
     grind
    obtain⟨q,d⟩:=S7 f ((c::r).drop ((c::r).takeWhile (fun x=>cls x≠0)).length) (i+((c::r).takeWhile (fun x=>cls x≠0)).length) a;grind
  split
  .obtain⟨q,d⟩:=S7 f r (i+1) b;grind
  split
  .grind
  .rename_i s e;have hm:=a1Z e;have a:((c::r).drop s.length).length<f:=by
    have:0<s.length:=by
     revert hm
     generalize s=t;intro hm;simp only[nP,a1g,a1l,or_false] at hm;grind
    grind
   obtain⟨q,d⟩:=S7 f ((c::r).drop s.length) (i+s.length) a;grind
def acC(u:Tok):Prop:=u.kind<=4/\(u.kind=3->u.text≠[]/\u.text.all digit=A/\u.text.length<=9)/\(u.kind=1->∃ c r,u.text=c::r/\cls c=115)/\(u.kind=2->u.text≠[])/\(u.kind=4->u.text=[46]\/u.text∈nP)
def aDw{w:Bs}(hw:jH w≠0):acC ⟨jH w,w,i⟩/\jH w≠4:=by
 cases w with
 | nil=>exact absurd J hw
 | cons c r=>
  unfold jH at hw ⊢;dsimp only at hw ⊢;by_cases b:cls c=115
  .rw[zip b] at hw ⊢;split at hw
   .rename_i a;rw[zip a];exact⟨⟨zs,zs,fun _=>⟨c,r,J,b⟩,zs,zs⟩,zo⟩
   omega
  .rw[bI b] at hw ⊢;by_cases d:cls c=99
   .rw[zip d] at hw ⊢;split at hw
    .rename_i a;rw[zip a];exact⟨⟨zs,zs,zs,zs,zs⟩,zo⟩
    omega
   .rw[bI d] at hw ⊢;split at hw
    .rename_i a;rw[zip a];exact⟨⟨zs,fun _=>⟨zs,a.2.1,a.1⟩,zs,zs,zs⟩,zo⟩
    omega
structure G0(n:Nat)(T:List Tok):Prop where
 len:T.length<=n+1
 last:∃ l t,T=l++[t]/\t.kind=0/\∀ u∈l,u.kind≠0
 tok:∀ u∈T,acC u
def G0.cons{m:Nat}{T:List Tok}(h:G0 n T){u:Tok}(hu:acC u)(b:u.kind≠0)(hm:n<m):G0 m (u::T):=by
 obtain⟨c,⟨l,t,rfl,a,d⟩,e⟩:=h;refine⟨zg,⟨u::l,t,J,a,fun v hv=>?_⟩,fun v hv=>?_⟩<;>grind
theorem G0.mono{m:Nat}{T:List Tok}(h:G0 n T)(hm:n<=m):G0 m T:=⟨by have:=h.len;omega,h.last,h.tok⟩
def S8:∀ (f:Nat) (r:Bs) (i:Nat) (T:List Tok),lB f r i=O (.inr T)->G0 r.length T
 | 0,r,i,T,h=>by simp_all [lB]
 | f+1,[],i,T,h=>by
  rw[lB] at h;simp only[a07,a5l] at h;subst h;exact⟨zs,⟨[],_,J,J,zs⟩,fun u hu=>by
   simp only[a1g,a1l,or_false] at hu;subst hu;exact⟨zs,zs,zs,zs,zs⟩⟩
 | f+1,c::r,i,T,h=>by
  rw[lB] at h;split at h
  .exact(S8 f r (i+1) T h).mono zs
  split at h
  .dsimp only at h;split at h
   .grind
   .rename_i e hw;have b:0<((c::r).takeWhile (fun x=>cls x≠0)).length:=by
     simp_all
    cases a:lB f ((c::r).drop ((c::r).takeWhile (fun x=>cls x≠0)).length) (i+((c::r).takeWhile (fun x=>cls x≠0)).length) with
    | none=>grind
    | some q=>
     rw[a] at h;cases q with
     | inl j=>grind
     | inr l=>
      simp only[a07,a5l] at h;rw[<- h];refine(S8 f _ _ l a).cons (aDw hw).1 hw ?_;grind
  split at h
  .cases a:lB f r (i+1) with
   | none=>grind
   | some q=>
    rw[a] at h;cases q with
    | inl j=>grind
    | inr l=>
     simp only[a07,a5l] at h;rw[<- h];exact(S8 f _ _ l a).cons ⟨zs,zs,zs,zs,fun _=>.inl J⟩ zs zs
  split at h
  .grind
  .rename_i s d;have hm:=a1Z d;have g:0<s.length:=by
    revert hm
    generalize s=t;intro hm;simp only[nP,a1g,a1l,or_false] at hm;grind
   cases a:lB f ((c::r).drop s.length) (i+s.length) with
   | none=>grind
   | some q=>
    rw[a] at h;cases q with
    | inl j=>grind
    | inr l=>
     simp only[a07,a5l] at h;rw[<- h];refine(S8 f _ _ l a).cons ⟨zs,zs,zs,zs,fun _=>.inr hm⟩ zs ?_;grind
def lex(s:Bs):Sum Nat (List Tok):=(lB (s.length+1) s 0).getD (.inl 0)
def IU(s:Bs):lB (s.length+1) s 0=O (lex s):=by
 obtain⟨q,a⟩:=S7 (s.length+1) s 0 (Nat.lt_succ_self _);simp_all [lex]
end P
open Sx
def alA(c a:Int)(w:Z):Calls bbf 47 #[zi c,zi a] w fun e w'=>
  e = .panicked [{ v:=aj 73 (pp w.heap.size),recovered:=false }]/\w'=w.alloc (ae #[zi c,zi a] 77):=by
 refine aw6 ?_;exact eV
def alB(c:UInt8)(w:Z):Calls bbf 111 #[.int .u8 c.toNat] w fun e w'=>e = ah (.int .u8 (P.cls c))/\w'=w:=by
 refine(alz c).mono ?_;grind
def aDx(s:Bs)(w:Z)(b:s.length<=100000):Calls bbf 99 #[aT s,aT [48,49,50,51,52,53,54,55,56,57]] w fun e w'=>
  e = ah (aT (a6W s [48,49,50,51,52,53,54,55,56,57]))/\Ext w w':=by
 refine(Any.strings_Trim_laid Tryz.lays160 zk (bs s) (bs [48,49,50,51,52,53,54,55,56,57]) w (by grind [ByteArray.size]) zd (ascii_of_all zd)).mono ?_;rintro e w' ⟨rfl,a⟩;exact⟨J,⟨a.os,a.tape,a.output,a.size,(by grind [bh,Below.block])⟩⟩
theorem alC(c:UInt8):([48,49,50,51,52,53,54,55,56,57]:Bs).contains c=P.digit c:=by
 have h:∀ n:Fin 256,([48,49,50,51,52,53,54,55,56,57]:Bs).contains (UInt8.ofNat n.val)=P.digit (UInt8.ofNat n.val):=zd;have:=h ⟨c.toNat,c.toNat_lt⟩;simpa using this
theorem alD(s:Bs):a6W s [48,49,50,51,52,53,54,55,56,57]=[]↔s.all P.digit=true:=by
 have a:∀ l:Bs,l.dropWhile (([48,49,50,51,52,53,54,55,56,57]:Bs).contains ·)=[]↔l.all P.digit=true:=fun l=>by
  simp only[alC];induction l with
  | nil=>simp
  | cons c l ih=>
   rw[List.dropWhile_cons,a2z,Bool.and_eq_true];grind
 unfold a6W Lib.trimLeftS Lib.trimRightS;rw[a];constructor
 .intro h;have b:(s.reverse.dropWhile (([48,49,50,51,52,53,54,55,56,57]:Bs).contains ·))=[]:=by
   cases hx:s.reverse.dropWhile (([48,49,50,51,52,53,54,55,56,57]:Bs).contains ·) with
   | nil=>rfl
   | cons c l=>
    rw[hx,List.all_reverse,a2z,Bool.and_eq_true] at h;have:=List.head?_dropWhile_not (([48,49,50,51,52,53,54,55,56,57]:Bs).contains ·) s.reverse;grind [List.head?_cons,alC]
  grind
 grind
def aDy(c:UInt8)(r:Bs)(m:(c::r).length<=100000)(at_:Nat)(w:Z)(x:P.cls c≠0) :
  Calls bbf 112 #[aT (c::r),zi at_,.int .u8 (P.cls c)] w fun e w'=>Ext w w' /\
   ((jH (c::r)≠0/\e = ah (.agg #[zi (jH (c::r)),aT (c::r),zi at_]))\/(jH (c::r)=0/\nA 2 at_ w w' e)):=by
 have a:jH (c::r)=if P.cls c=115 then(if (c::r).length<=8 then 1 else 0) else if P.cls c=99 then(if (c::r).length<=8 then 2 else 0)
  else if (c::r).length<=9/\(c::r).all P.digit=A/\(c≠48\/r=[]) then 3 else 0:=rfl
 have f:(c::r).getD 0 0=c:=rfl;have y:0<(c::r).length:=zs;have n:r=[]↔(c::r).length=1:=zg;have g:c=48↔c.toNat=48:=by rw[<- a18];rfl
 have i:P.cls c=115\/P.cls c=99\/P.cls c=100:=by
  unfold P.cls at x ⊢;grind
 obtain⟨s,z⟩:=cg (c::r);rw[<- z] at m f y n a ⊢;have B:Ext w (w.alloc (ae #[zi 0,aT [],zi 0] 142)):=yF;have K:∀ (kd:Nat),jH s=kd->kd≠0->Ext w (bS (w.alloc (ae #[zi 0,aT [],zi 0] 142)) w.heap.size (ae #[zi kd,aT s,zi at_] 142)):=yF;refine aw3 ?_;refine bG ?_;refine⟨fun _ w'=>Ext w w'/\jH s=0,?_,?_⟩
 .rcases i with h | h | h
  .rw[h] at a ⊢;rw[zip rfl] at a;by_cases b:s.length<=8
   .rw[zip b] at a;refine bG ?_;exact yH
   .rw[bI b] at a;refine bG ?_;exact yF
  .rw[h] at a ⊢;rw[bI zd,zip rfl] at a;by_cases b:s.length<=8
   .rw[zip b] at a;refine bG ?_;exact yH
   .rw[bI b] at a;refine bG ?_;exact yF
  .rw[h] at a ⊢;rw[bI zd,bI zd] at a;refine bG ?_;refine⟨fun t w'=>Ext w w'/\w'.heap[w.heap.size]?=aN #[zi 0,aT [],zi 0] 142/\t 25 = .bool (decide (jH s≠0)),?_,?_⟩
   .have j:(w.alloc (ae #[zi 0,aT [],zi 0] 142)).heap[w.heap.size]?=aN #[zi 0,aT [],zi 0] 142:=yH;by_cases o:s.length<=9
    .refine bG ?_;refine(aDx s _ m).mono ?_;rintro e w2 ⟨rfl,k⟩;have p:=B.trans k;have d:=k.ext _ _ j;by_cases l:s.all P.digit=A
     .have q:=(alD s).2 l;rw[q];by_cases C:c.toNat=48
      .have D:(c.toNat:Int)=48:=zo;refine cO f ?_;refine⟨p,d,?_⟩;rw[a];by_cases E:s.length=1
       .have F:(s.length:Int)=1:=zo;rw[zip ⟨o,l,.inr (n.2 E)⟩];grind
       .have F:¬ (s.length:Int)=1:=zo;grind
      .have D:¬ (c.toNat:Int)=48:=zo;refine cO f ?_;refine⟨p,d,?_⟩;rw[a,zip ⟨o,l,.inl (fun e=>C (g.1 e))⟩];grind
     .have q:¬ a6W s [48,49,50,51,52,53,54,55,56,57]=[]:=(by grind [alD]);refine bG ?_;exact yH
    .refine bG ?_;exact yF
   .rintro t w2 ⟨k,d,H⟩ d2;have I:=bh d;rw[H];by_cases hk:jH s≠0
    .rw[GB _ _ hk];have L:jH s=3:=by
      grind
     refine cO d ?_;exact yF
    .rw[GC _ _ hk];exact yF
 .rintro t w' ⟨u,hk⟩ M;refine(alA _ _ _).mono ?_;rintro e w2 ⟨rfl,rfl⟩;refine bG ?_;exact⟨u.alloc _,.inr ⟨hk,_,J,yH,u.size⟩⟩
def alF(p:UInt8->Bool):∀ (l:Bs),(∀ m,m<(l.takeWhile p).length->p (l.getD m 0)=A)/\((l.takeWhile p).length<l.length->p (l.getD (l.takeWhile p).length 0)=G)/\(l.takeWhile p).length<=l.length/\l.take (l.takeWhile p).length=l.takeWhile p
 | []=>⟨fun m h=>absurd h (a3g _),fun h=>absurd h (a3g _),a1c _,J⟩
 | c::l=>by
  obtain⟨b,d,e,f⟩:=alF p l;by_cases a:p c=A
  .rw[List.takeWhile_cons,zip a];refine⟨fun m hm=>?_,fun h=>?_,zg,zg⟩
   .cases m with
    | zero=>grind
    | succ m=>simp_all
   grind
  simp_all
def alG(s:Bs)(j m:Nat):(s.drop j).getD m 0=s.getD (j+m) 0:=by
 grind
theorem acE{x:Bs}(h:x∈nP):x≠[]/\x.length<=3:=by
 simp only[nP,a1g,a1l,or_false] at h;rcases h with rfl | rfl | rfl | rfl | rfl | rfl | rfl | rfl | rfl | rfl | rfl | rfl | rfl | rfl | rfl | rfl | rfl | rfl | rfl | rfl | rfl | rfl | rfl<;>decide
def G1(p:Bs->Bool)(k:Nat):Bs:=((nP.take k).find? p).getD []
def aDB{p:Bs->Bool}(hk:k<23)(h:G1 p k=[]):G1 p (k+1)=if p (nP.getD k [])=A then nP.getD k [] else []:=by
 have b:k<nP.length:=hk;have c:(nP.take k).find? p=none:=by
  cases a:(nP.take k).find? p with
  | none=>rfl
  | some x=>
   rw[G1,a] at h;exact absurd h (acE (List.mem_of_mem_take (a1Z a))).1
 grind [nP,G1,List.take_add_one,a1e]
theorem acF(p:Bs->Bool):G1 p 23=(nP.find? p).getD []:=rfl
def aDC{p:Bs->Bool}(h:G1 p k≠[]):G1 p 23=G1 p k:=by
 have e:nP=nP.take k++nP.drop k:=(List.take_append_drop k _).symm;rw[acF];unfold G1 at h ⊢;cases a:(nP.take k).find? p with
 | none=>grind
 | some x=>grind
def NM(acc:List P.Tok):Sum Nat (List P.Tok)->Sum Nat (List P.Tok)
 | .inl i=>.inl i
 | .inr l=>.inr (acc++l)
def W6(T:List P.Tok)(f:Nat)(nm:Bs)(l:List Ex)(bd:Bd)(k:Nat)(vs:List Bs):Option (cd Cl):=
 if dQ T k [58,45]=A then cd.bind (mT T f (k+1) vs 0) fun b k' vars'=>mj T [46] ⟨nm,l,b,vars'⟩ k' vars'
 else mj T [46] ⟨nm,l,bd,vs⟩ k vs
def acG(T:List P.Tok)(f:Nat)(nm:Bs)(at_:Nat)(l:List Ex)(bd:Bd)(k:Nat)(vs:List Bs):Option (cd Cl):=
 if 0<=jW nm\/nm=[109,111,100] then O (.err 3 at_) else W6 T f nm l bd k vs
def CC:List P.Tok->List Y
 | []=>[]
 | t::l=>.int .i64 t.kind::.string (bs t.text)::.int .i64 t.pos::CC l
theorem alH:∀ (l:List P.Tok) (t:P.Tok),CC (l++[t])=CC l++[zi t.kind,aT t.text,zi t.pos]
 | [],t=>rfl
 | u::l,t=>by
  show _::_::_::CC (l++[t])=_;rw[alH l t];rfl
theorem alI:∀ (l:List P.Tok) (j:Nat),j<l.length->(CC l)[j*3]?=O (zi (tk l j).kind)/\(CC l)[j*3+1]?=O (aT ((tk l j).text))/\(CC l)[j*3+2]?=O (zi (tk l j).pos)
 | [],j,h=>zg
 | u::l,0,_=>⟨J,J,J⟩
 | u::l,j+1,h=>by
  have:=alI l j zg;have e:(j+1)*3=j*3+3:=zo;rw[e];exact this
def aDD:(Tryz.prog.info? 142).map (fun i=>(i.zero,i.size,i.bytes))=O (O (.agg #[zi 0,aT [],zi 0]),3,32):=zk
def W7{w:Z}{acc:List P.Tok}(c:w.ownsRow base 142 3 v acc.length (CC acc)){m:Nat}{kd:Nat}{tx:Bs}{ps:Nat}
  (d:w.heap[b]?=aN #[vv,tv,av] 142) (hk:vv=zi kd) (ht:tv = aT tx) (f:av=zi ps)
  (p:acc.length<=100000) (g:base<=w.heap.size) {K:Y->Z->Prop}
  (h:∀ v' w',w'.ownsRow base 142 3 v' (acc++([⟨kd,tx,ps⟩]:List P.Tok)).length (CC (acc++([⟨kd,tx,ps⟩]:List P.Tok)))->w.grownBy w' v.ownBlock->(v'.ownBlock=v.ownBlock\/∀ k,v'.ownBlock=O k->w.heap.size<=k)->K v' w') :
  WR bbf (Builtin.append_ #[143,143] 143 #[v,cV b 1 m]) w K X:=by
 subst hk ht f;obtain⟨i,j,a⟩:=Option.map_eq_some_iff.1 aDD;simp only[Prod.mk.injEq] at a;obtain⟨l,n,o⟩:=a;refine ako (m:=1) (t:=143) (e:=142) zk j l n o J zo c d J (fun u hu=>?_) zo zo g ?_
 .simp only[a1g,a1l,or_false] at hu;rcases hu with rfl | rfl | rfl<;>rfl
 grind [alH,List.length_append]
def NN(w:Z):Prop:=∃ cs T z,w.heap[1]?=O (ae cs T z)/\23<=cs.size/\cs.toList.take 23=nP.map fun s=>aT s
theorem NN.ext{w w':Z}(h:NN w)(a:Ext w w'):NN w':=by
 obtain⟨cs,T,z,b,c⟩:=h;exact⟨cs,T,z,a.ext _ _ b,c⟩
def aDE(w:Z)(s:Bs)(e:Ending)(w':Z):Prop:=
 Ext w w'/\if 2000<s.length then nA 1 0 w w' e else match P.lex s with
 | .inl i=>nA 2 i w w' e
 | .inr T=>∃ v,e = ah v/\w'.ownsRow w.heap.size 142 3 v T.length (CC T)
def KQ{c a:Int}{w:Z}{e:Ending}(h:nA c a w1 w2 e)(hw:w.heap.size<=w1.heap.size):nA c a w w2 e:=by
 obtain⟨b,d,f,g⟩:=h;exact⟨b,d,f,zo⟩
def alJ(c a:Int)(w:Z):Calls bbf 47 #[zi c,zi a] w fun e w'=>nA c a w w' e/\Ext w w':=by
 refine(alA c a w).mono ?_;rintro e w' ⟨rfl,rfl⟩;exact⟨⟨_,J,yH,a1c _⟩,yF⟩
def alK(s:Bs)(w:Z)(hl:s.length<=100000)(hT:NN w):Calls bbf 84 #[aT s] w (aDE w s):=by
 refine aw2 ?_;refine⟨fun _ w'=>w'=w/\s.length<=2000,?_,?_⟩
 .by_cases h2:2000<s.length
  .refine Kx ?_;refine(alJ _ _ _).mono ?_;rintro e w1 ⟨hf,y⟩;obtain⟨b,rfl,h1,M⟩:=hf;refine Kx ?_;refine⟨y,?_⟩;rw[zip h2];exact⟨b,J,h1,M⟩
  .refine Kx ?_;omega
 .rintro _ w1 ⟨rfl,pG⟩ _;refine⟨fun n t w2=>Ext w1 w2/\∃ j acc f q,n=s.length-j/\j<=s.length/\acc.length<=j/\t 3=zi j/\w2.ownsRow w1.heap.size 142 3 (t 2) acc.length (CC acc) /\
   lB f (s.drop j) j=O q/\NM acc q=P.lex s,⟨s.length,yF,0,[],_,_,J,Nat.zero_le _,a1c _,J,World.ownsRow_nil _ _ _ _,IU s,?_⟩,?_⟩
  .cases P.lex s<;>rfl
  intro n t dd w2 N;refine toPr ?_;obtain⟨y,j,acc,f,q,rfl,hj,haj,M,dY,a,Q⟩:=N;have eg:=y.size;by_cases hlt:j<s.length
  .obtain⟨c,r,KR⟩:∃ c r,s.drop j=c::r:=⟨s[j],s.drop (j+1),a1h hlt⟩;have L:s.getD j 0=c:=by
    grind [a1h,a1e]
   have hr:s.drop (j+1)=r:=by
    grind [a1h]
   have aVn:=c.toNat_lt;cases f with
   | zero=>rw[lB] at a;cases a
   | succ f=>
   rw[KR,lB] at a;have pK:(P.blank c=A)↔((c.toNat:Int)=32\/(c.toNat:Int)=10):=by
    have e1:c=32↔c.toNat=32:=by rw[<- a18];rfl
    have e2:c=10↔c.toNat=10:=by rw[<- a18];rfl
    simp only[P.blank,Bool.or_eq_true,beq_iff_eq,e1,e2];omega
   simp (disch:=first|assumption|omega|simp only[zS]<;>omega|decide) only[Pr,PX,PC,NX,ends,Fc,pD,jv,Nat.reduceAdd,Nat.reduceMul,Nat.reduceLeDiff,Nat.reduceEqDiff,Int.reduceToNat,Int.reduceAdd,Int.reduceLT,Int.reduceLE,↓reduceIte,forall_const,eq_self,aa9,jI,aaJ,aaK,PE,PF,GB,GC,aaM,aaN,aaO,aaP,aaQ,aaR,aaS,aaT,aaU,aaX,aaY,aaV,aaW,aa3,aa4,aa5,aa6,Wy,aa0,aba,abb,abJ,abc,abd,abe,abf,M9,rR,qJ,jr,Sp,Ck,vp,size_alloc,Sw,abl,abg,abh,abi,abj,abk,abm,abn,abo,abp,abq,abr,abt,abu,abv,abw,abx,aby,abz,abA,abB,abC,abD,abE,Wz,u8w,Wt,aaG,aaH,Int.toNat_natCast,Option.isNone_none,Option.isNone_some,List.getElem?_toArray,List.getElem?_cons_zero,List.getElem?_cons_succ,List.setIfInBounds_toArray,List.set_cons_zero,List.set_cons_succ,List.size_toArray,List.length_cons,List.length_nil,List.drop_zero,List.drop_succ_cons,List.take_succ_cons,List.take_zero,List.take_nil,List.drop_nil,a2z,List.all_nil,Bool.and_true,Bool.true_and,Nat.zero_add,Nat.add_zero,Nat.mul_one,and_self,and_true,true_and,decide_true,decide_false,Bool.not_true,Bool.not_false,not_true_eq_false,not_false_eq_true,ajR,ajU,ajW,aj9,ake,akg,akh,akn,M,L];refine⟨fun t2 w3=>w3=w2/\t2 3=zi j/\P.blank c=G,?_,?_⟩
   .refine⟨fun t2 w3=>w3=w2/\t2 25 = .bool (P.blank c),?_,?_⟩
    .refine yV (zA @aaL L) ?_;grind
    .rintro t2 w3 ⟨rfl,z⟩ d2;rw[z];cases hb:P.blank c with
     | true=>
      rw[PE,M];refine Kx ?_;refine⟨s.length-(j+1),zo,y,j+1,acc,f,q,J,zo,zo,?_,?_,?_,Q⟩<;>grind
     | false=>
      rw[PF];grind
   .rintro t2 w3 ⟨rfl,z,pJ⟩ d2;rw[bI (by simp [pJ])] at a;rw[L];refine(alB c _).mono ?_;rintro e w4 ⟨rfl,rfl⟩;by_cases qd:P.cls c≠0
    .rw[zip qd] at a;have aDF:¬ ((P.cls c:Nat):Int)=0:=zo;refine Kx ?_;obtain⟨W,R⟩:=cg (((c::r).takeWhile (fun x=>P.cls x≠0)).length);have D9:=alF (fun x=>P.cls x≠0) (c::r);rw[<- R] at D9;dsimp only at a;rw[<- R] at a;obtain⟨G2,CE,Ft,xl⟩:=D9;have hlen:(c::r).length=s.length-j:=zg;rw[hlen] at CE Ft;rw[<- KR] at G2 CE;simp only[alG,decide_eq_true_eq,decide_eq_false_iff_not,ne_eq,Decidable.not_not] at G2 CE;have hWp:0<W:=by
      grind
     refine⟨fun t3 g=>g=w4/\t3 6=zi ((j+W:Nat):Int),?_,?_⟩
     .refine⟨fun n t3 g=>g=w4/\∃ m,n=W-m/\m<=W/\t3 6=zi ((j+m:Nat):Int),⟨W,J,0,J,Nat.zero_le _,?_⟩,?_⟩
      .grind
      .intro n t3 d3 g N;refine toPr ?_;obtain⟨rfl,m,rfl,hm,C⟩:=N;by_cases hjm:j+m<s.length
       .refine yV C ?_;refine(alB _ _).mono ?_;rintro e D ⟨rfl,rfl⟩;by_cases S:m<W
        .have DJ:¬ ((P.cls (s.getD (j+m) 0):Nat):Int)=0:=zg;refine yV C ?_;exact⟨W-(m+1),zo,m+1,J,zo,zg⟩
        .have aDG:m=W:=zo;subst aDG;have DJ:((P.cls (s.getD (j+m) 0):Nat):Int)=0:=zo;exact abS C
       .have S:m=W:=by
         omega
        subst S;exact abS C
     .rintro t3 g ⟨rfl,C⟩ d3;refine yV (zA C z) ?_;have hdt:List.drop j (List.take (j+W) s)=c::r.takeWhile (fun x=>P.cls x≠0):=by
       rw[List.drop_take,KR,show j+W-j=W by omega,xl,List.takeWhile_cons,zip (by simpa using qd)]
      have BG:(c::r).takeWhile (fun x=>P.cls x≠0)=c::r.takeWhile (fun x=>P.cls x≠0):=zg;rw[hdt];rw[BG] at a R;obtain⟨wd,NO⟩:=cg (c::r.takeWhile (fun x=>P.cls x≠0));refine(aDy c _ zo j g qd).mono ?_;rw[<- NO] at a R ⊢;rintro e D ⟨gJ,(⟨vC,rfl⟩| ⟨vC,iV⟩)⟩
      .have s4:=gJ.size;rw[bI vC] at a;refine yV (zA z C) ?_;have o:Ext D (D.alloc (ae #[zi (jH wd),aT wd,zi j] 142)):=yF;have u:=jY (gJ.trans o).ext dY;refine W7 (acc:=acc) (base:=w1.heap.size) (kd:=jH wd) (tx:=wd) (ps:=j) u yH J J J zo (yH) ?_;intro v' E S9 F BB;have T:Ext w1 E:=((y.trans gJ).trans o).grow F (fun k hk=>(u.lt k hk).1);cases H:lB f (List.drop wd.length (c::r)) (j+wd.length) with
       | none=>exact yH
       | some q2=>
       rw[R,H] at a;refine⟨s.length-(j+W),zo,T,j+W,acc++[⟨jH wd,wd,j⟩],f,q2,J,zo,zg,zg,yH,?_,?_⟩
       .grind [List.drop_drop]
       .rw[<- Q];cases q2 with
        | inl i=>simp only[a07] at a;rw[<- a];rfl
        | inr l=>grind [a07,NM]
      .rw[zip vC] at a;cases a;simp only[NM] at Q;have NQ:=KQ iV eg;obtain⟨b,rfl,g1,g2⟩:=iV;refine Kx ?_;refine⟨yF,?_⟩;exact yH
    .rw[bI qd] at a;have aDF:((P.cls c:Nat):Int)=0:=zo;refine Kx ?_;have I:(c=46/\IA r=A)↔((c.toNat:Int)=46/\(j+1=s.length\/(j+1<s.length/\((s.getD (j+1) 0).toNat=32\/(s.getD (j+1) 0).toNat=10)))):=by
      have e1:c=46↔c.toNat=46:=by rw[<- a18];rfl
      have hrl:r.length=s.length-(j+1):=zg;rw[e1];cases r with
      | nil=>
       grind [IA]
      | cons d r'=>
       have hd:s.getD (j+1) 0=d:=by rw[show j+1=j+1+0 from J,<- alG,hr];rfl
       rw[hd];have e2:d=32↔d.toNat=32:=by rw[<- a18];rfl
       have e3:d=10↔d.toNat=10:=by rw[<- a18];rfl
       simp only[IA,P.blank,Bool.or_eq_true,beq_iff_eq,e2,e3];grind
     refine⟨fun t4 g=>g=w4/\t4 2=t 2/\t4 3=zi j/\¬ (c=46/\IA r=A),?_,?_⟩
     .refine⟨fun t4 g=>g=w4/\t4 79 = .bool (decide (c=46/\IA r=A)),?_,?_⟩
      .by_cases BH:(c.toNat:Int)=46
       .by_cases hje:j+1=s.length
        .have aDJ:((j:Int)+1)=(s.length:Int):=zo;refine yV (zA z L) ?_;grind
        .have aDJ:¬ ((j:Int)+1)=(s.length:Int):=zo;have W4:((j:Int)+1).toNat=j+1:=zo;refine yV (zA @aaL (zA z (zA L W4))) ?_;generalize hd:(s.getD (j+1) 0).toNat=d at *;by_cases g1:d=32
         .have W9:=I.2 ⟨BH,.inr ⟨zo,.inl g1⟩⟩;simp [jv,W9,g1]
         .have Xa:¬ (d:Int)=32:=zo;by_cases g2:d=10
          .have W9:=I.2 ⟨BH,.inr ⟨zo,.inr g2⟩⟩;simp [jv,W9,g2]
          .have mi:¬ (c=46/\IA r=A):=fun h=>by
            rcases(I.1 h).2 with h | ⟨_,h | h⟩
            .exact hje h
            .exact g1 h
            .exact g2 h
           have Xc:¬ (d:Int)=10:=zo;rw[decide_eq_false mi];simp [jv,Xa,Xc];try omega
       .have mi:¬ (c=46/\IA r=A):=zg;rw[decide_eq_false mi];exact abS (zA z L)
      .rintro t4 g ⟨rfl,h83⟩ d4;rw[h83];by_cases U:c=46/\IA r=A
       .rw[GB _ _ U];rw[zip U] at a;refine yV z ?_;have o:Ext g (g.alloc (ae #[zi 4,aT [46],zi j] 142)):=yF;have u:=jY o.ext dY;refine W7 (acc:=acc) (base:=w1.heap.size) (kd:=4) (tx:=[46]) (ps:=j) u yH J J J zo (yH) ?_;intro v' E S9 F BB;have T:Ext w1 E:=(y.trans o).grow F (fun k hk=>(u.lt k hk).1);cases H:lB f r (j+1) with
        | none=>rw[H] at a;cases a
        | some q2=>
        rw[H] at a;refine yV z ?_;refine⟨s.length-(j+1),zo,T,j+1,acc++[⟨4,[46],j⟩],f,q2,J,zo,zg,zs,yH,?_,?_⟩
        .grind
        grind [a07,NM]
       .rw[GC _ _ U];grind
     .rintro t4 g ⟨rfl,yd,KP,U⟩ d4;rw[bI U] at a;obtain⟨cs,TT,zz,ze,jZ,BI⟩:=hT.ext y;have hlen:(c::r).length=s.length-j:=zg;refine yV (zA ze BI) ?_;obtain⟨B,tU⟩:∃ B:Bs->Bool,B=fun x=>x.isPrefixOf (c::r):=⟨_,J⟩;refine⟨fun n t5 D=>D=g/\∃ k,n=23-k/\k<=23/\t5 88=zi ((k:Nat):Int)/\t5 2=t 2/\t5 3=zi j/\G1 B k=[],⟨23,J,0,J,Nat.zero_le _,J,?_,?_,J⟩,?_⟩
      .grind
      .grind
      intro n t5 d5 D N;refine toPr ?_;obtain⟨rfl,k,rfl,hk,KS,K,X,kC⟩:=N;by_cases alM:k<23
      .obtain⟨x,hx⟩:=cg (nP.getD k []);have CF:x∈nP:=by
        rw[hx,List.getD_eq_getElem?_getD,a1e (show k<nP.length from alM)];grind
       obtain⟨NA,Kt⟩:=acE CF;have Xd:(List.take 23 cs.toList).toArray[k]?=O (aT x):=by
        grind
       have hkn:((k:Nat):Int).toNat=k:=zo;have aVq:(List.take 23 cs.toList).toArray[((k:Nat):Int).toNat]?=O (aT x):=zg;have aDL:((j:Nat):Int).toNat=j:=zo;refine yV (zA KS (zA X aDL)) ?_;rw[KR];refine(Tryz.strings_HasPrefix (bs (c::r)) (bs x) _).mono ?_;rintro e E ⟨rfl,rfl⟩;have G4:Lib.hasPrefix (bs (c::r)).data.toList (bs x).data.toList=B x:=by rw[tU];rfl
       rw[G4];have Tb:=aDB alM kC;rw[<- hx] at Tb;by_cases hp:B x=A
       .rw[hp];rw[zip hp] at Tb;have wJ:nP.find? B=O x:=by
         have h1:=aDC (p:=B) (k:=k+1) (by rw[Tb];exact NA);rw[Tb,acF] at h1;grind
        rw[tU] at wJ;rw[wJ] at a;dsimp only at a;have hle:=(List.isPrefixOf_iff_prefix.1 (by rw[tU] at hp;exact hp)).length_le;rw[hlen] at hle;have pF:0<x.length:=List.length_pos_iff.2 NA;refine yV (zA K X) ?_;have o:Ext E (E.alloc (ae #[zi 4,aT x,zi j] 142)):=yF;have u:=jY o.ext dY;refine W7 (acc:=acc) (base:=w1.heap.size) (kd:=4) (tx:=x) (ps:=j) u yH J J J zo (yH) ?_;intro v' w8 S9 F BB;have T:Ext w1 w8:=(y.trans o).grow F (fun k hk=>(u.lt k hk).1);cases H:lB f ((c::r).drop x.length) (j+x.length) with
        | none=>rw[H] at a;cases a
        | some q2=>
        rw[H] at a;refine yV (zA K X) ?_;refine⟨s.length-(j+x.length),zo,T,j+x.length,acc++[⟨4,x,j⟩],f,q2,J,zo,zg,zs,yH,?_,?_⟩
        .grind [List.drop_drop]
        grind [a07,NM]
       .have Bu:B x=false:=zg;rw[Bu];rw[bI hp] at Tb;refine yV (zA KS (zA K X)) ?_;grind
      .have DV:k=23:=zo;subst DV;have ye:nP.find? (fun s=>s.isPrefixOf (c::r))=none:=by
        grind [acF,absurd,acE,a1Z]
       rw[ye] at a;cases a;simp only[NM] at Q;refine yV (zA KS X) ?_;refine(alJ _ _ _).mono ?_;rintro e E ⟨hf,G5⟩;have eZ:=KQ hf eg;obtain⟨b,rfl,g1,g2⟩:=hf;refine Kx ?_;refine⟨yF,?_⟩;exact yH
  .have D5:j=s.length:=zo;subst D5;have IX:List.drop s.length s=[]:=List.drop_length;cases f with
   | zero=>rw[lB] at a;cases a
   | succ f=>
   rw[IX,lB] at a;cases a;simp only[NM] at Q;refine yV M ?_;have o:Ext w2 (w2.alloc (ae #[zi 0,aT [],zi (s.length)] 142)):=yF;have u:=jY o.ext dY;refine W7 (acc:=acc) (base:=w1.heap.size) (kd:=0) (tx:=[]) (ps:=s.length) u yH J J J zo (yH) ?_;intro v' D S9 F BB;refine⟨(y.trans o).grow F (fun k hk=>(u.lt k hk).1),?_⟩;exact yH
namespace P
structure aDM(T:List Tok)(f:Nat):Prop where
 lit:∀ k v d x k' v',nQ T f k v d=O (.ok x k' v')->k<k'
 lits:∀ k v d acc x k' v',qF T f k v d acc=O (.ok x k' v')->k<k'
 row:∀ k v d x k' v',ot T f k v d=O (.ok x k' v')->k<k'
 rest:∀ k v d x k' v',qG T f k v d=O (.ok x k' v')->k<k'
 body:∀ k v d x k' v',mT T f k v d=O (.ok x k' v')->k<k'
def Tc(T:List Tok):∀ f,aDM T f
 | 0=>⟨by simp_all [nQ],by simp_all [qF],by simp_all [ot],by simp_all [qG],by simp_all [mT]⟩
 | f+1=>by
  have ih:=Tc T f;have hm:=mono T f;refine⟨?_,?_,?_,?_,?_⟩
  .intro k v d x k' v' h;rw[nQ] at h;split at h
   .grind
   split at h
   .grind
   split at h
   .obtain⟨a,i,v1,g,e⟩:=ee h;have:=ih.lit _ _ _ _ _ _ g;grind
   split at h
   .obtain⟨a,i,v1,g,e⟩:=ee h;have:=ih.body _ _ _ _ _ _ g;grind [mV]
   obtain⟨a,i,v1,g,e⟩:=ee h;have:=hm.oper _ _ _ _ _ _ _ g;split at e
   .obtain⟨b,n,v2,j,l⟩:=ee e;have:=hm.oper _ _ _ _ _ _ _ j;grind
   grind
  .intro k v d acc x k' v' h;rw[qF] at h;obtain⟨y,i,v1,g,e⟩:=ee h;have:=ih.lit _ _ _ _ _ _ g;split at e
   .have:=ih.lits _ _ _ _ _ _ _ e;omega
   grind
  .intro k v d x k' v' h;rw[ot] at h;obtain⟨y,i,v1,g,e⟩:=ee h;have:=ih.lits _ _ _ _ _ _ _ g;grind
  .intro k v d x k' v' h;rw[qG] at h;split at h
   .grind
   .exact ih.body _ _ _ _ _ _ h
  .intro k v d x k' v' h;rw[mT] at h;obtain⟨a,i,v1,g,e⟩:=ee h;have:=ih.row _ _ _ _ _ _ g;split at e
   .obtain⟨b,n,v2,j,l⟩:=ee e;have:=ih.row _ _ _ _ _ _ j;split at l
    .obtain⟨c,o,v3,m,p⟩:=ee l;have:=ih.rest _ _ _ _ _ _ m;grind
    grind
   .split at e
    .obtain⟨c,o,v3,m,p⟩:=ee e;have:=ih.rest _ _ _ _ _ _ m;grind
    grind
def whole:Bd->Prop
 | .mk kind _ _ parts=>kind=63->parts.length=3
structure aDN(T:List Tok)(f:Nat):Prop where
 lit:∀ k v d x k' v',nQ T f k v d=O (.ok x k' v')->whole x
 lits:∀ k v d acc x k' v',(∀ b∈acc,whole b)->qF T f k v d acc=O (.ok x k' v')->(∀ b∈x,whole b)/\acc.length<x.length
 row:∀ k v d x k' v',ot T f k v d=O (.ok x k' v')->whole x
 rest:∀ k v d x k' v',qG T f k v d=O (.ok x k' v')->whole x
 body:∀ k v d x k' v',mT T f k v d=O (.ok x k' v')->whole x
def acK(T:List Tok):∀ f,aDN T f
 | 0=>⟨by simp_all [nQ],by simp_all [qF],by simp_all [ot],by simp_all [qG],by simp_all [mT]⟩
 | f+1=>by
  have ih:=acK T f;refine⟨?_,?_,?_,?_,?_⟩
  .intro k v d x k' v' h;rw[nQ] at h;split at h
   .grind
   split at h
   .grind [a07,cd.ok.injEq,whole]
   split at h
   .obtain⟨a,i,v1,g,e⟩:=ee h;grind [a07,cd.ok.injEq,whole]
   split at h
   .obtain⟨a,i,v1,g,e⟩:=ee h;rw[(mV e).2.1];exact ih.body _ _ _ _ _ _ g
   obtain⟨a,i,v1,g,e⟩:=ee h;split at e
   .obtain⟨b,m,v2,j,l⟩:=ee e;grind [a07,cd.ok.injEq,whole]
   grind [a07,cd.ok.injEq,whole]
  .intro k v d acc x k' v' r h;rw[qF] at h;obtain⟨y,i,v1,g,e⟩:=ee h;have s:=ih.lit _ _ _ _ _ _ g;have n:∀ b∈acc++[y],whole b:=by
    grind
   split at e
   .have j:=ih.lits _ _ _ _ _ _ _ n e;grind
   grind
  .intro k v d x k' v' h;rw[ot] at h;obtain⟨y,i,v1,g,e⟩:=ee h;have j:=(ih.lits _ _ _ _ _ _ _ zs g).1;grind [a07,cd.ok.injEq,whole]
  .intro k v d x k' v' h;rw[qG] at h;split at h
   .grind
   .exact ih.body _ _ _ _ _ _ h
  .intro k v d x k' v' h;rw[mT] at h;obtain⟨a,i,v1,g,e⟩:=ee h;split at e
   .obtain⟨b,m,v2,j,l⟩:=ee e;split at l
    .obtain⟨c,o,v3,p,q⟩:=ee l;grind [a07,cd.ok.injEq,whole]
    grind [a07,cd.ok.injEq,whole]
   .split at e
    .obtain⟨c,o,v3,p,q⟩:=ee e;grind [a07,cd.ok.injEq,whole]
    .simp only[a07,cd.ok.injEq] at e;rw[<- e.1];exact ih.row _ _ _ _ _ _ g
end P
structure mZ(w:Z)(B:Nat):Prop where
 lt:3<B
 cell:∀ j,j<9->w.cell? ⟨3,j,V⟩=O (aT (MU.getD j []))
theorem mZ.ext{w:Z}(h:mZ w B)(hw:∀ (b:Nat) (o:Obj),b<B->w.heap[b]?=O o->w'.heap[b]?=O o):mZ w' B:=
 ⟨h.lt,fun j a=>Ng (h.cell j a) (by grind [lt])⟩
theorem mZ.fr{w:Z}(a:mZ w tb)(h:dc pb w w')(d:tb<pb):mZ w' tb:=
 a.ext fun b o e c=>h.block _ _ c (by rintro (h | ⟨h,_⟩)<;>omega)
structure P1(f:Nat):Prop where
 go:∀ {pb tb:Nat} {T:List P.Tok} {k:Nat} {vars:List Bs} {d:Nat} {w:Z} {r:cd Bd},SP w pb tb T k vars d->mZ w tb->d<=8 ->
  nQ T f k vars d=O r->Calls bbf 115 #[pp pb] w (j8 dP pb tb T d w r)
structure P2(f:Nat):Prop where
 go:∀ {pb tb:Nat} {T:List P.Tok} {k:Nat} {vars:List Bs} {d:Nat} {w:Z} {r:cd Bd},SP w pb tb T k vars d->mZ w tb->d<=8 ->
  ot T f k vars d=O r->Calls bbf 114 #[pp pb,.int .u8 44,aT [44],.func (.func 115) #[pp pb] #[]] w (j8 dP pb tb T d w r)
structure KT(f:Nat):Prop where
 go:∀ {pb tb:Nat} {T:List P.Tok} {k:Nat} {vars:List Bs} {d:Nat} {w:Z} {r:cd Bd},SP w pb tb T k vars d->mZ w tb->d<=8 ->
  mT T f k vars d=O r->Calls bbf 53 #[pp pb] w (j8 dP pb tb T d w r)
theorem dP.shape{w:Z}{x:Bd}(h:dP F w v x):∃ b,v=pp b/\F b:=by
 cases x with
 | mk kind name args parts=>
  unfold dP at h;obtain⟨b,_,_,_,_,a,c,_⟩:=h;exact⟨b,a,c⟩
def gF.snoc{F:Nat->Prop}{w:Z}{v:Y}{x:Bd}(hv:dP F w v x):∀ {l:List Bd} {vs:List Y},gF F w vs l->gF F w (vs++[v]) (l++[x])
 | [],vs,h=>by
  unfold gF at h;subst h;simp only[List.nil_append];unfold gF;exact⟨v,[],J,hv,by unfold gF;rfl⟩
 | y::l,vs,h=>by
  unfold gF at h;obtain⟨u,r,rfl,a,b⟩:=h;simp only[List.cons_append];unfold gF;exact⟨u,r++[v],J,a,gF.snoc hv b⟩
def gF.length{F:Nat->Prop}{w:Z}:∀ {l:List Bd} {vs:List Y},gF F w vs l->vs.length=l.length
 | [],vs,h=>by unfold gF at h;rw[h];rfl
 | x::xs,vs,h=>by
  unfold gF at h;obtain⟨v,r,rfl,_,a⟩:=h;simp [gF.length a]
def IY{w:Z}:lH F w bX []:=⟨[],.inl ⟨J,J⟩,by unfold eM;rfl⟩
def KU{w:Z}:KA F w bX []:=⟨[],.inl ⟨J,J⟩,by unfold gF;rfl⟩
def aDO{w:Z}{x:Bd}(a:F b)(h:w.heap[b]?=aN #[u] 84)(hx:dP F w u x) :
  KA F w (cV b 1 1) [x]:=by
 refine⟨[u],.inr ⟨b,#[u],J,a,h,a1c _,J⟩,?_⟩;unfold gF;exact⟨u,[],J,hx,by unfold gF;rfl⟩
def aDP{w:Z}{x y:Bd}(a:F b)(h:w.heap[b]?=aN #[u,v] 84)(hx:dP F w u x)(c:dP F w v y) :
  KA F w (cV b 2 2) [x,y]:=by
 refine⟨[u,v],.inr ⟨b,#[u,v],J,a,h,a1c _,J⟩,?_⟩;unfold gF;refine⟨u,[v],J,hx,?_⟩;unfold gF;exact⟨v,[],J,c,by unfold gF;rfl⟩
def Ea{w:Z}{name:Bs}{args:List Ex}(d:F b)
  (h:w.heap[b]?=aN #[.int .u8 pb,aT name,av,tv] 149) (a:lH F w av args) (c:KA F w tv gI) :
  dP F w (pp b) (.mk pb name args gI):=by
 obtain⟨vs,e,f⟩:=a;obtain⟨us,g,i⟩:=c;unfold dP;grind
theorem KA.mono{F F':Nat->Prop}{w w':Z}{v:Y}{l:List Bd}(a:∀ b,F b->F' b)(hw:∀ b o,F b->DR o->w.heap[b]?=O o->w'.heap[b]?=O o)
  (h:KA F w v l):KA F' w' v l:=by
 obtain⟨vs,c,f⟩:=h;exact⟨vs,c.mono a fun b cs d e=>hw b _ d ⟨zg,J⟩ e,(by grind [gF.mono])⟩
def alN:(Tryz.prog.info? 84).map (fun i=>(i.zero,i.size,i.bytes))=O (O (aq V),1,8):=zk
abbrev alO(pb:Nat):Y:=.func (.func 115) #[pp pb] #[]
def RJ(pb tb:Nat)(T:List P.Tok)(d:Nat)(w0:Z)(c:cd (List Bd))(n:Nat)(a:Act)(w:Z):Prop:=
 ∃ (acc:List Bd) (k:Nat) (vs:List Bs) (xs:List Y) (sl e f g h u8 i j l m o p u16 q r s t u x y z B C D E F H:Y),a={ tmps:=#[pp pb,.int .u8 44,aT [44],alO pb,e,f,g,h,u8,sl,i,j,l,m,o,p,u16,q,r,s,t,u,x,y,z,B,C,D,E,F,H],defers:=[] } /\
  w.ownsRow w0.heap.size 84 1 sl acc.length xs/\gF (fun b=>Nu w0 w b/\sl.ownBlock≠O b) w xs acc/\SP w pb tb T k vs d/\dc pb w0 w/\0<acc.length/\acc.length<=k /\
  (if dQ T k [44] then qF T n (k+1) vs d acc else O (.ok acc k vs))=O c
def aDR(NR:∀ m,m<f->P1 m){r:cd Bd}(pH:SP w0 pb tb T k vars d)(qd:mZ w0 tb)(hd:d<=8)
  (h:ot T (f+1) k vars d=O r):Calls bbf 114 #[pp pb,.int .u8 44,aT [44],alO pb] w0 (j8 dP pb tb T d w0 r):=by
 rw[ot] at h;cases AE:qF T f k vars d [] with
 | none=>rw[AE] at h;simp [cd.bind] at h
 | some re=>
 rw[AE] at h;cases f with
 | zero=>simp [qF] at AE
 | succ f=>
 rw[qF] at AE;have Td:=a08 pH;have IZ:=a08 qd;have HR:=a08 h;have Nz:=a08 AE;have xY:=pH.d2.2.2;have xj:=pH.lt;have hT:=pH.tw.len;obtain⟨i0,hi,KH,KI,KJ⟩:=info_parts alN;clear pH h AE qd
 go_enter func114,ntmps114
 go_wp2_with fail
 cases hq:nQ T f k vars d with
 | none=>have e:=Nz.out;rw[hq] at e;simp [cd.bind] at e
 | some q=>
 have e:=Nz.out;rw[hq] at e;refine((NR f zo).go Td.out IZ.out hd hq).mono ?_;cases q with
 | err c0 a0=>
  rintro e2 w4 ⟨⟨b,rfl,eP,gH⟩,ea,gT⟩;simp only[cd.bind,a07] at e;subst e;have hr:=HR.out;simp only[cd.bind,a07] at hr;subst hr;exact⟨J,⟨b,J,eP,gH⟩,ea,gT⟩
 | ok x k' qO=>
 rintro e2 w1 ⟨v,rfl,hv,eY,eZ⟩;simp only[cd.bind] at e;obtain⟨bx,rfl,jL⟩:=hv.shape;have nT:=(Tc T f).lit _ _ _ _ _ _ hq;have p8:=eZ.size;have eS:(w1.alloc (ae #[pp bx] 84)).ownsRow w0.heap.size 84 1 (cV w1.heap.size 1 1) 1 [pp bx]:=
  ⟨J,.inr ⟨w1.heap.size,1,_,J,zo,blk_alloc_new _ _,a1c _,zd,J,J⟩⟩
 have jl:gF (fun b=>Nu w0 (w1.alloc (ae #[pp bx] 84)) b/\(a1n (O ⟨w1.heap.size,0,V⟩) 1 1).ownBlock≠O b) (w1.alloc (ae #[pp bx] 84)) [pp bx] [x]:=by
  have:=gF.snoc (l:=[]) (vs:=[]) (F:=fun b=>Nu w0 (w1.alloc (ae #[pp bx] 84)) b/\(a1n (O ⟨w1.heap.size,0,V⟩) 1 1).ownBlock≠O b) (w:=w1.alloc (ae #[pp bx] 84)) (v:=pp bx) (x:=x)
   (dP.mono (fun b hb=>⟨(by grind [size_alloc]),fun e=>by injection e with e;grind⟩) (by grind [dX]) _ _ hv) (by unfold gF;rfl)
  grind
 have SU:=a08 eS;have mv:=a08 jl;have jb:=a08 (eY.ext (w':=w1.alloc (ae #[pp bx] 84)) fun b o h=>dX h);have fR:Hid (dc pb w0 (w1.alloc (ae #[pp bx] 84))):=a08 (eZ.alloc _);have HE:=a08 e;have HK:=a08 nT;clear hv eY eZ eS jl e hq jL Nz nT
 go_wp2_with fail
 refine wp_loop_ghost (fun n a w=>n<=f/\RJ pb tb T d w0 re n a w) ⟨f,a1c _,[x],k',qO,_,_,_,_,_,_,_,_,_,_,_,_,_,_,_,_,_,_,_,_,_,_,_,_,_,_,_,_,J,SU.out,mv.out,jb.out,fR.out,Nat.zero_lt_one,by have:=HK.out;simp;omega,by simpa using HE.out⟩ ?_;clear SU mv jb fR HK HE p8;rintro n a w ⟨hnf,acc,k2,vs,xs,sl,u4,u5,u6,u7,u8,y5,y6,y7,xg,xh,y8,u16,y9,za,Cp,Cq,Cr,Cs,Ct,Cu,Cv,Cw,Cx,DY,DZ,D0,rfl,dY,lJ,hp,hf,h0a,WX,hr⟩;have GS:=hp.kt;have hz:=hf.size;have Cy:=hp.d2.2.2;obtain⟨g',rU,rfl⟩:∃ g cap,sl = cV g acc.length cap:=by
  obtain⟨g1,g2 | ⟨g,cp,cur,e1,e2,e3,e4⟩⟩:=dY<;>grind
 have HO:=a08 dY;have HX:=a08 lJ;have HP:=a08 hp;have HF:=a08 hf;by_cases hc:dQ T k2 [44]=A
 .rw[zip hc] at hr;cases n with
  | zero=>grind [qF]
  | succ n=>
  rw[qF] at hr;have AD:=a08 hr;clear dY lJ hp hf hr
  go_wp2_with fail
  refine(vu HP.out [44] hc).mono ?_;rintro e w2 ⟨rfl,eY,eZ⟩;have jb:=a08 eY;have fR:=a08 eZ;clear eY eZ hc
  go_wp2_with fail
  cases hq:nQ T n (k2+1) vs d with
  | none=>have e:=AD.out;rw[hq] at e;simp [cd.bind] at e
  | some q=>
  have e:=AD.out;rw[hq] at e;refine((NR n zo).go jb.out (IZ.out.fr (HF.out.trans fR.out) xj) hd hq).mono ?_;cases q with
  | err c0 a0=>
   rintro e2 w4 ⟨⟨b,rfl,eP,gH⟩,ea,gT⟩;simp only[cd.bind,a07] at e;subst e;have hr:=HR.out;simp only[cd.bind,a07] at hr;subst hr;have:=fR.out.size;exact⟨J,⟨b,J,eP,zo⟩,(HF.out.trans fR.out).trans ea,gT⟩
  | ok x k' qO=>
  rintro e2 w3 ⟨v,rfl,hv,gQ,ea⟩;simp only[cd.bind] at e;obtain⟨bx,rfl,jL⟩:=hv.shape;have nT:=(Tc T n).lit _ _ _ _ _ _ hq;have pL:=fR.out.size;have Fo:=ea.size;have ke:=gQ.kt;have acd:=jb.out.d2.2.2;have th:=gQ.d2.2.2;have xZ:w3.ownsRow w0.heap.size 84 1 (cV g' acc.length rU) acc.length xs:=by
   obtain⟨g1,g2 | ⟨g,cp,cur,e1,e2,e3,e4⟩⟩:=HO.out
   .omega
   .exact⟨g1,.inr ⟨g,cp,cur,e1,e2,dc.lG ea ⟨zg,J⟩ (dc.lG fR.out ⟨zg,J⟩ e3 zo) zo,e4⟩⟩
  have KK:gF (fun b=>Nu w0 w3 b/\(a1n (O ⟨g',0,V⟩) acc.length rU).ownBlock≠O b) w3 xs acc:=
   gF.mono zg (by grind [dc.lG,Hid.out]) _ _ HX.out
  have vz:=a08 xZ;have mv:=a08 KK;have HV:=a08 hv;have kK:=a08 gQ;have iD:=a08 ((HF.out.trans fR.out).trans ea);have HE:=a08 e;have AB:=a08 jL;have HK:=a08 nT;clear hv gQ ea xZ KK e hq jL nT
  go_wp2_with (at_builtin;go_must (refine Sd J _ _ 147 J w0.heap.size 84 i0 _ 1 8 underlying147 hi KH KI KJ J zo _ _ _ J (vz.out.alloc _) ⟨w3.heap.size,0,V⟩ 1 1 [pp bx] J J (Pw J) (by simp [Value.oneCell']) (by grind [maxLen]) zo (by simp;omega) ?_;intro v' w4 tg zc By;obtain⟨g2,GY,rfl⟩:=MZ tg;have GU:=a08 tg;have uB:=a08 zc;have SQ:=a08 By;clear tg zc By))
  have im:SP w4 pb tb T k' qO d:=(kK.out.ext fun b o h=>dX (o:=Obj.cells #[Value.pointer (O ⟨bx,0,V⟩)] 84) h).PQ (vz.out.alloc _) zg zo uB.out;have eF:dc pb w0 w4:=(iD.out.alloc _).PR uB.out fun k hk=>(vz.out.lt k hk).1;have PW:=uB.out.size;rw[size_alloc] at PW;have PV:∀ (b:Nat) (o:Obj),w3.heap[b]?=O o->(a1n (O ⟨g',0,V⟩) acc.length rU).ownBlock≠O b->w4.heap[b]?=O o:=fun b o h ed=>by
   have h':=dX (o:=Obj.cells #[Value.pointer (O ⟨bx,0,V⟩)] 84) h;rw[uB.out.block b (bh h') (fun e=>ed e.symm)];omega
  have pJ:∀ b,b<w3.heap.size->(a1n (O ⟨g',0,V⟩) acc.length rU).ownBlock≠O b->(a1n (O ⟨g2,0,V⟩) (acc.length+1) GY).ownBlock≠O b:=fun b hb ed=>by
   rcases SQ.out with h | h
   .rw[h];exact ed
   grind [size_alloc]
  have hbn:∀ b,Nu w2 w3 b->(a1n (O ⟨g',0,V⟩) acc.length rU).ownBlock≠O b:=fun b hb e=>by
   have:=(HO.out.lt b e).2;omega
  have ace:gF (fun b=>Nu w0 w4 b/\(a1n (O ⟨g2,0,V⟩) (acc.length+1) GY).ownBlock≠O b) w4 (xs++[pp bx]) (acc++[x]):=
   gF.snoc (dP.mono zg zg _ _ HV.out)
    (gF.mono zg zg _ _ mv.out)
  have nT:=HK.out;exact⟨n,Nat.lt_succ_self n,zo,acc++[x],k',qO,_,_,_,_,_,_,_,_,_,_,_,_,_,_,_,_,_,_,_,_,_,_,_,_,_,_,_,_,J,by rw[List.length_append];exact GU.out,ace,im,eF,zs,zg,HE.out⟩
 .rw[bI hc,a07] at hr;subst hr;clear dY lJ hp hf;have hr:=HR.out;simp only[cd.bind,a07] at hr;subst hr;clear HR;have BA:=(HO.out.lt g' J);have jd:=Fi HO.out (F:=Nu w0 w) (fun b hb=>⟨(HO.out.lt b hb).1,(HO.out.lt b hb).2⟩);have NA:gF (Nu w0 w) w xs acc:=gF.mono zg zg _ _ HX.out;have HSL:=a08 jd;have HXN:=a08 NA;clear jd NA;by_cases h1:acc.length=1
  .obtain⟨b1,rfl⟩:∃ b1,acc=[b1]:=List.length_eq_one_iff.1 h1;have rW:=HXN.out;unfold gF at rW;obtain⟨v1,r1,e1,kS,qI⟩:=rW;unfold gF at qI;subst qI;subst e1;have oV:w.cell? ⟨g',0,V⟩=O v1:=by
    obtain⟨g1,g2 | ⟨g,cp,cur,e1,e2,e3,e4,e5,e6,e7⟩⟩:=HO.out
    .omega
    .cases e1;refine cellOf e3 ?_;have h1:(cur.toList.take 1)[0]?=O v1:=zg;grind
   have Xe:=a08 kS;have D3:=BA.2;clear kS h1
   go_wp2_with fail
   refine(qM HP.out [44] zg zd).mono ?_;rintro e w2 ⟨rfl,rfl⟩;clear hc
   go_wp2_with fail
   go_ret
   exact⟨_,J,Xe.out,HP.out,HF.out⟩
  .have BK:((acc.length:Int) == 1)=false:=zg;have pG:¬ (acc.length:Int)=1:=zo
   go_wp2_with fail
   refine(qM HP.out [44] zg zd).mono ?_;rintro e w2 ⟨rfl,rfl⟩;clear hc
   go_wp2_with fail
   go_ret
   refine⟨_,J,?_,HP.out.ext (by grind [dX]),HF.out.alloc _⟩;have key:=(show dP (Nu w0 (w.alloc (ae #[.int .u8 44,aT [],bX,cV g' acc.length rU] 149))) (w.alloc (ae #[.int .u8 44,aT [],bX,cV g' acc.length rU] 149)) (pp w.heap.size) (.mk 44 [] [] acc) from Ea (by grind [size_alloc]) (blk_alloc_new _ _) IY (KA.mono (by grind [size_alloc]) (by grind [dX]) ⟨xs,HSL.out,HXN.out⟩));rcases acc with _ | ⟨x1,_ | ⟨x2,l⟩⟩
   .grind
   .grind
   .exact key
def alQ:P2 0:=⟨fun _ _ _ h=>by simp [ot] at h⟩
theorem aDT(d:∀ m,m<f->P1 m):P2 f:=by
 cases f with
 | zero=>exact alQ
 | succ f=>exact⟨fun a b c h=>aDR zg a b c h⟩
def P.Te(T:List P.Tok)(f k:Nat)(vars:List Bs)(d:Nat):Option (cd Bd):=
 cd.bind (ot T f k vars d) fun a c v1=>
  if dQ T c [45,62] then cd.bind (ot T f (c+1) v1 d) fun b e v2=>O (.ok (.mk 63 [] [] [a,b]) e v2) else O (.ok a c v1)
def aDU(F:Nat->Prop)(w:Z)(v:Y)(x:Bd):Prop:=
 (P.whole x/\dP F w v x) \/
 ∃ (a b:Bd) (n g:Nat) (c vb:Y),x = .mk 63 [] [] [a,b]/\v=pp n/\F n/\F g/\n≠g /\
  w.heap[n]?=aN #[.int .u8 63,aT [],bX,cV g 2 2] 149/\w.heap[g]?=aN #[c,vb] 84 /\
  dP (fun m=>F m/\m≠n/\m≠g) w c a/\dP (fun m=>F m/\m≠n/\m≠g) w vb b
def aDV(eS:P2 f){r:cd Bd}(pH:SP w0 pb tb T k vars d)(qd:mZ w0 tb)(hd:d<=8)
  (h:P.Te T f k vars d=O r):Calls bbf 85 #[pp pb] w0 (j8 aDU pb tb T d w0 r):=by
 unfold P.Te at h;have Td:=a08 pH;have IZ:=a08 qd;have HR:=a08 h;have xY:=pH.d2.2.2;have xj:=pH.lt;clear pH h qd
 go_enter func85,ntmps85
 go_wp2_with fail
 cases hq:ot T f k vars d with
 | none=>have e:=HR.out;rw[hq] at e;simp [cd.bind] at e
 | some q=>
 have e:=HR.out;rw[hq] at e;refine(eS.go Td.out IZ.out hd hq).mono ?_;cases q with
 | err c0 a0=>
  rintro e2 w4 ⟨⟨b,rfl,eP,gH⟩,ea,gT⟩;simp only[cd.bind,a07] at e;subst e;exact⟨J,⟨b,J,eP,gH⟩,ea,gT⟩
 | ok x k1 v1=>
 rintro e2 w1 ⟨v,rfl,hv,dI,gw⟩;simp only[cd.bind] at e;obtain⟨bx,rfl,jL⟩:=hv.shape;have I0:=(acK T f).row _ _ _ _ _ _ hq;have p8:=gw.size;have Xe:=a08 hv;have kK:=a08 dI;have iD:=a08 gw;have AB:=a08 jL;have HWH:=a08 I0;have HE:=a08 e;clear hv dI gw jL I0 e hq HR;by_cases hc:dQ T k1 [45,62]=A
 .go_wp2_with fail
  refine(vu kK.out [45,62] hc).mono ?_;rintro e w2 ⟨rfl,eY,eZ⟩;have jb:=a08 eY;have fR:=a08 eZ;have pL:=eZ.size;clear eY eZ
  go_wp2_with fail
  have e:=HE.out;rw[zip hc] at e;cases hq:ot T f (k1+1) v1 d with
  | none=>rw[hq] at e;simp [cd.bind] at e
  | some q=>
  rw[hq] at e;refine(eS.go jb.out (IZ.out.fr (iD.out.trans fR.out) xj) hd hq).mono ?_;cases q with
  | err c0 a0=>
   rintro e2 w4 ⟨⟨b,rfl,eP,gH⟩,ea,gT⟩;simp only[cd.bind,a07] at e;subst e;exact⟨J,⟨b,J,eP,zo⟩,(iD.out.trans fR.out).trans ea,gT⟩
  | ok y k2 v2=>
  rintro e2 w3 ⟨v,rfl,hv,gQ,ea⟩;simp only[cd.bind,a07] at e;subst e;obtain⟨G6,rfl,ou⟩:=hv.shape;have Fo:=ea.size;have Xf:=a08 hv;have uC:=a08 gQ;have oA:=a08 ea;have th:=gQ.d2.2.2;have aVr:=kK.out.d2.2.2;clear hv gQ ea ou hq HE hc
  go_wp2_with fail
  go_ret
  have gY:∀ o o',((w3.alloc o).alloc o').heap.size=w3.heap.size+2:=(by grind [size_alloc]);refine⟨_,J,.inr ⟨x,y,w3.heap.size+1,w3.heap.size,_,_,J,J,zg,zg,zo,Fh (by rw[size_alloc]),dX (blk_alloc_new _ _),?_,?_⟩,
   (by grind [dX,SP.ext,Hid.out]),(by grind [trans,bB.alloc,bB.trans,Hid.out])⟩
  .exact dP.mono zg
    (by grind [dX,dc.lG,Hid.out]) _ _ Xe.out
  .exact dP.mono zg
    (by grind [dX]) _ _ Xf.out
 .go_wp2_with fail
  refine(qM kK.out [45,62] zg zd).mono ?_;rintro e w2 ⟨rfl,rfl⟩
  go_wp2_with fail
  go_ret
  have e:=HE.out;rw[bI hc,a07] at e;subst e;exact⟨_,J,.inl ⟨HWH.out,Xe.out⟩,kK.out,iD.out⟩
