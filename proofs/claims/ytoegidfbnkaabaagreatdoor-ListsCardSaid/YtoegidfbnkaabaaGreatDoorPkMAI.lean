/- A part of one proof (SSmall, PureL, SX1, PureL2, SX2, PureB, SCon2, SRow, SCond). -/
import Derived.Test.YtoegidfbnkaabaaGreatDoorPkMAH
import Derived.Shelf.Strings.SlTrimAscii
set_option linter.all false
set_option maxRecDepth 100000
set_option maxHeartbeats 8000000
open Option renaming some → O, none → V
open Go renaming Value → Y, World → Z
open Bool renaming true → G, false → ae
open Go.Obj renaming cells → ah
open Go.Ending renaming returned → ai
open Go.Value renaming iface → ak, pointer → au
open Option.some renaming injEq → a3I
open Go.Lib renaming hid → a3J, trimS → a9n
open Nat renaming le_refl → a3O, not_lt_zero → a5A
open List renaming getElem?_eq_getElem → a3P, mem_cons → a3T, drop_eq_getElem_cons → a3U, not_mem_nil → a30, mem_of_find?_eq_some → a4I, all_cons → a5d
open Go.Value renaming slice → a3Y
open UInt8 renaming toNat_inj → a4G
open Sum.inr renaming injEq → a7R
open Go.Proofs.Tryz renaming prog → bdF
open Go.Proofs.Tryz
namespace Go.Proofs.YtoegidfbnkaabaaGreatDoor
open P
open Go.RowKit
variable{B b base d f i k m n pb tb:Nat}{F:Nat->Prop}{T:List P.Tok}{X:Y->Z->Prop}{av tv u v vv:Y}{gz:List Bd}{vars:List Bs}{w w' w0 w1 w2:Z}
def amJ(c:UInt8):Calls bdF 111 #[.int .u8 c.toNat] w fun e w'=>e = ai (.int .u8 (P.cls c))/\w'=w:=by
 have hc:c.toNat<256:=c.toNat_lt;unfold P.cls;obtain⟨n,hn⟩:=cj c.toNat;rw[<- hn] at hc ⊢;clear hn;by_cases a1:97<=n
 .by_cases a2:n<=122
  .have b1:(97:Int)<=n:=zo;have b2:(n:Int)<=122:=zo;rw[zip ⟨a1,a2⟩]
   go_enter func111,ntmps111
   go_wp2_with fail
   go_ret
   exact⟨J,J⟩
  .have b1:(97:Int)<=n:=zo;have b2:¬ (n:Int)<=122:=zo;have b3:(65:Int)<=n:=zo;have b4:¬ (n:Int)<=90:=zo;have b5:((n:Int) == 95)=false:=zg;have b6:(48:Int)<=n:=zo;have b7:¬ (n:Int)<=57:=zo;have b8:¬ (n:Int)=95:=zo;rw[bU zo,bU zo,bU zo]
   go_enter func111,ntmps111
   go_wp2_with fail
   go_ret
   exact⟨J,J⟩
 .have b1:¬ (97:Int)<=n:=zo;rw[bU zo];by_cases a3:n=95
  .subst a3
   go_enter func111,ntmps111
   go_wp2_with fail
   go_ret
   exact⟨J,J⟩
  have b5:((n:Int) == 95)=false:=zg;have b8:¬ (n:Int)=95:=zo;by_cases a4:65<=n
  .have b3:(65:Int)<=n:=zo;by_cases a5:n<=90
   .have b4:(n:Int)<=90:=zo;rw[zip zo]
    go_enter func111,ntmps111
    go_wp2_with fail
    go_ret
    exact⟨J,J⟩
   .have b4:¬ (n:Int)<=90:=zo;have b6:(48:Int)<=n:=zo;have b7:¬ (n:Int)<=57:=zo;rw[bU zo,bU zo]
    go_enter func111,ntmps111
    go_wp2_with fail
    go_ret
    exact⟨J,J⟩
  .have b3:¬ (65:Int)<=n:=zo;rw[bU zo];by_cases a6:48<=n
   .have b6:(48:Int)<=n:=zo;by_cases a7:n<=57
    .have b7:(n:Int)<=57:=zo;rw[zip zo]
     go_enter func111,ntmps111
     go_wp2_with fail
     go_ret
     exact⟨J,J⟩
    .have b7:¬ (n:Int)<=57:=zo;rw[bU zo]
     go_enter func111,ntmps111
     go_wp2_with fail
     go_ret
     exact⟨J,J⟩
   .have b6:¬ (48:Int)<=n:=zo;rw[bU zo]
    go_enter func111,ntmps111
    go_wp2_with fail
    go_ret
    exact⟨J,J⟩
def NR(s:Bs):Calls bdF 52 #[aW s] w fun e w'=>e = ai (zi (jx s))/\w'=w:=by
 by_cases c0:s=[116,114,117,101]
 .subst c0
  go_enter func52,ntmps52
  go_wp2_with fail
  go_ret
  exact⟨J,J⟩
 by_cases c1:s=[102,97,105,108]
 .subst c1
  go_enter func52,ntmps52
  go_wp2_with fail
  go_ret
  exact⟨J,J⟩
 by_cases c2:s=[118,97,114]
 .subst c2
  go_enter func52,ntmps52
  go_wp2_with fail
  go_ret
  exact⟨J,J⟩
 by_cases c3:s=[110,111,110,118,97,114]
 .subst c3
  go_enter func52,ntmps52
  go_wp2_with fail
  go_ret
  exact⟨J,J⟩
 by_cases c4:s=[97,116,111,109]
 .subst c4
  go_enter func52,ntmps52
  go_wp2_with fail
  go_ret
  exact⟨J,J⟩
 by_cases c5:s=[105,110,116,101,103,101,114]
 .subst c5
  go_enter func52,ntmps52
  go_wp2_with fail
  go_ret
  exact⟨J,J⟩
 by_cases c6:s=[61]
 .subst c6
  go_enter func52,ntmps52
  go_wp2_with fail
  go_ret
  exact⟨J,J⟩
 by_cases c7:s=[92,61]
 .subst c7
  go_enter func52,ntmps52
  go_wp2_with fail
  go_ret
  exact⟨J,J⟩
 by_cases c8:s=[61,61]
 .subst c8
  go_enter func52,ntmps52
  go_wp2_with fail
  go_ret
  exact⟨J,J⟩
 by_cases c9:s=[105,115]
 .subst c9
  go_enter func52,ntmps52
  go_wp2_with fail
  go_ret
  exact⟨J,J⟩
 by_cases c10:s=[60]
 .subst c10
  go_enter func52,ntmps52
  go_wp2_with fail
  go_ret
  exact⟨J,J⟩
 by_cases c11:s=[62]
 .subst c11
  go_enter func52,ntmps52
  go_wp2_with fail
  go_ret
  exact⟨J,J⟩
 by_cases c12:s=[61,60]
 .subst c12
  go_enter func52,ntmps52
  go_wp2_with fail
  go_ret
  exact⟨J,J⟩
 by_cases c13:s=[62,61]
 .subst c13
  go_enter func52,ntmps52
  go_wp2_with fail
  go_ret
  exact⟨J,J⟩
 by_cases c14:s=[61,58,61]
 .subst c14
  go_enter func52,ntmps52
  go_wp2_with fail
  go_ret
  exact⟨J,J⟩
 have e:jx s=-1:=by
  unfold jx;grind
 rw[e];have d0:(s == ([116,114,117,101]:Bs))=false:=zg;have d1:(s == ([102,97,105,108]:Bs))=false:=zg;have d2:(s == ([118,97,114]:Bs))=false:=zg;have d3:(s == ([110,111,110,118,97,114]:Bs))=false:=zg;have d4:(s == ([97,116,111,109]:Bs))=false:=zg;have d5:(s == ([105,110,116,101,103,101,114]:Bs))=false:=zg;have d6:(s == ([61]:Bs))=false:=zg;have d7:(s == ([92,61]:Bs))=false:=zg;have d8:(s == ([61,61]:Bs))=false:=zg;have d9:(s == ([105,115]:Bs))=false:=zg;have d10:(s == ([60]:Bs))=false:=zg;have d11:(s == ([62]:Bs))=false:=zg;have d12:(s == ([61,60]:Bs))=false:=zg;have d13:(s == ([62,61]:Bs))=false:=zg;have d14:(s == ([61,58,61]:Bs))=false:=zg
 go_enter func52,ntmps52
 go_wp2_with fail
 go_ret
 exact⟨J,J⟩
namespace P
def TS:∀ (f:Nat) (r:Bs) (i:Nat),r.length<f->∃ q,jw f r i=O q
 | 0,r,i,h=>absurd h (a5A _)
 | f+1,[],i,_=>⟨_,by rw[jw]⟩
 | f+1,c::r,i,h=>by
  have b:r.length<f:=zg;rw[jw];split
  .exact TS f r (i+1) b
  split
  .dsimp only;split
   .grind
   .rename_i g hw;have a:((c::r).drop ((c::r).takeWhile (fun x=>cls x≠0)).length).length<f:=by
     have:0<((c::r).takeWhile (fun x=>cls x≠0)).length:=by
      simp_all
     grind
    obtain⟨q,d⟩:=TS f ((c::r).drop ((c::r).takeWhile (fun x=>cls x≠0)).length) (i+((c::r).takeWhile (fun x=>cls x≠0)).length) a;grind
  split
  .obtain⟨q,d⟩:=TS f r (i+1) b;grind
  split
  .grind
  .rename_i s e;have hm:=a4I e;have a:((c::r).drop s.length).length<f:=by
    have:0<s.length:=by
     revert hm
     generalize s=t;intro hm;simp only[nL,a3T,a30,or_false] at hm;grind
    grind
   obtain⟨q,d⟩:=TS f ((c::r).drop s.length) (i+s.length) a;grind
def adA(u:Tok):Prop:=u.kind<=4/\(u.kind=3->u.text≠[]/\u.text.all digit=G/\u.text.length<=9)/\(u.kind=1->∃ c r,u.text=c::r/\cls c=115)/\(u.kind=2->u.text≠[])/\(u.kind=4->u.text=[46]\/u.text∈nL)
def aEQ{w:Bs}(hw:mP w≠0):adA ⟨mP w,w,i⟩/\mP w≠4:=by
 cases w with
 | nil=>exact absurd J hw
 | cons c r=>
  unfold mP at hw ⊢;dsimp only at hw ⊢;by_cases b:cls c=115
  .rw[zip b] at hw ⊢;split at hw
   .rename_i a;rw[zip a];exact⟨⟨zs,zs,fun _=>⟨c,r,J,b⟩,zs,zs⟩,zo⟩
   omega
  .rw[bU b] at hw ⊢;by_cases d:cls c=99
   .rw[zip d] at hw ⊢;split at hw
    .rename_i a;rw[zip a];exact⟨⟨zs,zs,zs,zs,zs⟩,zo⟩
    omega
   .rw[bU d] at hw ⊢;split at hw
    .rename_i a;rw[zip a];exact⟨⟨zs,fun _=>⟨zs,a.2.1,a.1⟩,zs,zs,zs⟩,zo⟩
    omega
structure Hd(n:Nat)(T:List Tok):Prop where
 len:T.length<=n+1
 last:∃ l t,T=l++[t]/\t.kind=0/\∀ u∈l,u.kind≠0
 tok:∀ u∈T,adA u
def Hd.cons{T:List Tok}(h:Hd n T){u:Tok}(hu:adA u)(b:u.kind≠0)(hm:n<m):Hd m (u::T):=by
 obtain⟨c,⟨l,t,rfl,a,d⟩,e⟩:=h;refine⟨zg,⟨u::l,t,J,a,fun v hv=>?_⟩,fun v hv=>?_⟩<;>grind
theorem Hd.mono{T:List Tok}(h:Hd n T)(hm:n<=m):Hd m T:=⟨by have:=h.len;omega,h.last,h.tok⟩
def TU:∀ (f:Nat) (r:Bs) (i:Nat) (T:List Tok),jw f r i=O (.inr T)->Hd r.length T
 | 0,r,i,T,h=>by simp_all [jw]
 | f+1,[],i,T,h=>by
  rw[jw] at h;simp only[a3I,a7R] at h;subst h;exact⟨zs,⟨[],_,J,J,zs⟩,fun u hu=>by
   simp only[a3T,a30,or_false] at hu;subst hu;exact⟨zs,zs,zs,zs,zs⟩⟩
 | f+1,c::r,i,T,h=>by
  rw[jw] at h;split at h
  .exact(TU f r (i+1) T h).mono zs
  split at h
  .dsimp only at h;split at h
   .grind
   .rename_i e hw;have b:0<((c::r).takeWhile (fun x=>cls x≠0)).length:=by
     simp_all
    cases a:jw f ((c::r).drop ((c::r).takeWhile (fun x=>cls x≠0)).length) (i+((c::r).takeWhile (fun x=>cls x≠0)).length) with
    | none=>grind
    | some q=>
     rw[a] at h;cases q with
     | inl j=>grind
     | inr l=>
      simp only[a3I,a7R] at h;rw[<- h];refine(TU f _ _ l a).cons (aEQ hw).1 hw ?_;grind
  split at h
  .cases a:jw f r (i+1) with
   | none=>grind
   | some q=>
    rw[a] at h;cases q with
    | inl j=>grind
    | inr l=>
     simp only[a3I,a7R] at h;rw[<- h];exact(TU f _ _ l a).cons ⟨zs,zs,zs,zs,fun _=>.inl J⟩ zs zs
  split at h
  .grind
  .rename_i s d;have hm:=a4I d;have g:0<s.length:=by
    revert hm
    generalize s=t;intro hm;simp only[nL,a3T,a30,or_false] at hm;grind
   cases a:jw f ((c::r).drop s.length) (i+s.length) with
   | none=>grind
   | some q=>
    rw[a] at h;cases q with
    | inl j=>grind
    | inr l=>
     simp only[a3I,a7R] at h;rw[<- h];refine(TU f _ _ l a).cons ⟨zs,zs,zs,zs,fun _=>.inr hm⟩ zs ?_;grind
def lex(s:Bs):Sum Nat (List Tok):=(jw (s.length+1) s 0).getD (.inl 0)
def TV(s:Bs):jw (s.length+1) s 0=O (lex s):=by
 obtain⟨q,a⟩:=TS (s.length+1) s 0 (Nat.lt_succ_self _);simp_all [lex]
end P
open Sx
def amK(c a:Int)(w:Z):Calls bdF 47 #[zi c,zi a] w fun e w'=>
  e = .panicked [{ v:=ak 73 (pp w.heap.size),recovered:=false }]/\w'=w.alloc (ah #[zi c,zi a] 77):=by
 refine ays ?_;exact eR
def amL(c:UInt8)(w:Z):Calls bdF 111 #[.int .u8 c.toNat] w fun e w'=>e = ai (.int .u8 (P.cls c))/\w'=w:=by
 refine(amJ c).mono ?_;grind
def aER(s:Bs)(w:Z)(b:s.length<=100000):Calls bdF 99 #[aW s,aW [48,49,50,51,52,53,54,55,56,57]] w fun e w'=>
  e = ai (aW (a9n s [48,49,50,51,52,53,54,55,56,57]))/\Ext w w':=by
 refine(Any.strings_Trim_laid Tryz.lays160 zk (bs s) (bs [48,49,50,51,52,53,54,55,56,57]) w (by grind [ByteArray.size]) zd (ascii_of_all zd)).mono ?_;rintro e w' ⟨rfl,a⟩;exact⟨J,⟨a.os,a.tape,a.output,a.size,(by grind [bn,Below.block])⟩⟩
theorem amM(c:UInt8):([48,49,50,51,52,53,54,55,56,57]:Bs).contains c=P.digit c:=by
 have h:∀ n:Fin 256,([48,49,50,51,52,53,54,55,56,57]:Bs).contains (UInt8.ofNat n.val)=P.digit (UInt8.ofNat n.val):=zd;have:=h ⟨c.toNat,c.toNat_lt⟩;simpa using this
theorem amN(s:Bs):a9n s [48,49,50,51,52,53,54,55,56,57]=[]↔s.all P.digit=true:=by
 have a:∀ l:Bs,l.dropWhile (([48,49,50,51,52,53,54,55,56,57]:Bs).contains ·)=[]↔l.all P.digit=true:=fun l=>by
  simp only[amM];induction l with
  | nil=>simp
  | cons c l ih=>
   rw[List.dropWhile_cons,a5d,Bool.and_eq_true];grind
 unfold a9n Lib.trimLeftS Lib.trimRightS;rw[a];constructor
 .intro h;have b:(s.reverse.dropWhile (([48,49,50,51,52,53,54,55,56,57]:Bs).contains ·))=[]:=by
   cases hx:s.reverse.dropWhile (([48,49,50,51,52,53,54,55,56,57]:Bs).contains ·) with
   | nil=>rfl
   | cons c l=>
    rw[hx,List.all_reverse,a5d,Bool.and_eq_true] at h;have:=List.head?_dropWhile_not (([48,49,50,51,52,53,54,55,56,57]:Bs).contains ·) s.reverse;grind [List.head?_cons,amM]
  grind
 grind
def aES(c:UInt8)(r:Bs)(n:(c::r).length<=100000)(at_:Nat)(w:Z)(y:P.cls c≠0) :
  Calls bdF 112 #[aW (c::r),zi at_,.int .u8 (P.cls c)] w fun e w'=>Ext w w' /\
   ((mP (c::r)≠0/\e = ai (.agg #[zi (mP (c::r)),aW (c::r),zi at_]))\/(mP (c::r)=0/\nD 2 at_ w w' e)):=by
 have a:mP (c::r)=if P.cls c=115 then(if (c::r).length<=8 then 1 else 0) else if P.cls c=99 then(if (c::r).length<=8 then 2 else 0)
  else if (c::r).length<=9/\(c::r).all P.digit=G/\(c≠48\/r=[]) then 3 else 0:=rfl
 have f:(c::r).getD 0 0=c:=rfl;have z:0<(c::r).length:=zs;have o:r=[]↔(c::r).length=1:=zg;have g:c=48↔c.toNat=48:=by rw[<- a4G];rfl
 have i:P.cls c=115\/P.cls c=99\/P.cls c=100:=by
  unfold P.cls at y ⊢;grind
 obtain⟨s,A⟩:=cj (c::r);rw[<- A] at n f z o a ⊢;have B:Ext w (w.alloc (ah #[zi 0,aW [],zi 0] 142)):=yF;have I:∀ (kd:Nat),mP s=kd->kd≠0->Ext w (bR (w.alloc (ah #[zi 0,aW [],zi 0] 142)) w.heap.size (ah #[zi kd,aW s,zi at_] 142)):=yF;refine ayp ?_;refine bG ?_;refine⟨fun _ w'=>Ext w w'/\mP s=0,?_,?_⟩
 .rcases i with h | h | h
  .rw[h] at a ⊢;rw[zip rfl] at a;by_cases b:s.length<=8
   .rw[zip b] at a;refine bG ?_;exact yH
   .rw[bU b] at a;refine bG ?_;exact yF
  .rw[h] at a ⊢;rw[bU zd,zip rfl] at a;by_cases b:s.length<=8
   .rw[zip b] at a;refine bG ?_;exact yH
   .rw[bU b] at a;refine bG ?_;exact yF
  .rw[h] at a ⊢;rw[bU zd,bU zd] at a;refine bG ?_;refine⟨fun t w'=>Ext w w'/\w'.heap[w.heap.size]?=aO #[zi 0,aW [],zi 0] 142/\t 25 = .bool (decide (mP s≠0)),?_,?_⟩
   .have j:(w.alloc (ah #[zi 0,aW [],zi 0] 142)).heap[w.heap.size]?=aO #[zi 0,aW [],zi 0] 142:=yH;by_cases p:s.length<=9
    .refine bG ?_;refine(aER s _ n).mono ?_;rintro e w2 ⟨rfl,k⟩;have q:=B.trans k;have d:=k.ext _ _ j;by_cases l:s.all P.digit=G
     .have u:=(amN s).2 l;rw[u];by_cases C:c.toNat=48
      .have D:(c.toNat:Int)=48:=zo;refine cJ f ?_;refine⟨q,d,?_⟩;rw[a];by_cases E:s.length=1
       .have F:(s.length:Int)=1:=zo;rw[zip ⟨p,l,.inr (o.2 E)⟩];grind
       .have F:¬ (s.length:Int)=1:=zo;grind
      .have D:¬ (c.toNat:Int)=48:=zo;refine cJ f ?_;refine⟨q,d,?_⟩;rw[a,zip ⟨p,l,.inl (fun e=>C (g.1 e))⟩];grind
     .have u:¬ a9n s [48,49,50,51,52,53,54,55,56,57]=[]:=(by grind [amN]);refine bG ?_;exact yH
    .refine bG ?_;exact yF
   .rintro t w2 ⟨k,d,m⟩ d2;have H:=bn d;rw[m];by_cases hk:mP s≠0
    .rw[GS _ _ hk];have K:mP s=3:=by
      grind
     refine cJ d ?_;exact yF
    .rw[GU _ _ hk];exact yF
 .rintro t w' ⟨x,hk⟩ L;refine(amK _ _ _).mono ?_;rintro e w2 ⟨rfl,rfl⟩;refine bG ?_;exact⟨x.alloc _,.inr ⟨hk,_,J,yH,x.size⟩⟩
def amP(p:UInt8->Bool):∀ (l:Bs),(∀ m,m<(l.takeWhile p).length->p (l.getD m 0)=G)/\((l.takeWhile p).length<l.length->p (l.getD (l.takeWhile p).length 0)=ae)/\(l.takeWhile p).length<=l.length/\l.take (l.takeWhile p).length=l.takeWhile p
 | []=>⟨fun m h=>absurd h (a5A _),fun h=>absurd h (a5A _),a3O _,J⟩
 | c::l=>by
  obtain⟨b,d,e,f⟩:=amP p l;by_cases a:p c=G
  .rw[List.takeWhile_cons,zip a];refine⟨fun m hm=>?_,fun h=>?_,zg,zg⟩
   .cases m with
    | zero=>grind
    | succ m=>simp_all
   grind
  simp_all
def amQ(s:Bs)(j m:Nat):(s.drop j).getD m 0=s.getD (j+m) 0:=by
 grind
theorem adC{x:Bs}(h:x∈nL):x≠[]/\x.length<=3:=by
 simp only[nL,a3T,a30,or_false] at h;rcases h with rfl | rfl | rfl | rfl | rfl | rfl | rfl | rfl | rfl | rfl | rfl | rfl | rfl | rfl | rfl | rfl | rfl | rfl | rfl | rfl | rfl | rfl | rfl<;>decide
def He(p:Bs->Bool)(k:Nat):Bs:=((nL.take k).find? p).getD []
def aEW{p:Bs->Bool}(hk:k<23)(h:He p k=[]):He p (k+1)=if p (nL.getD k [])=G then nL.getD k [] else []:=by
 have b:k<nL.length:=hk;have c:(nL.take k).find? p=none:=by
  cases a:(nL.take k).find? p with
  | none=>rfl
  | some x=>
   rw[He,a] at h;exact absurd h (adC (List.mem_of_mem_take (a4I a))).1
 grind [nL,He,List.take_add_one,a3P]
theorem adD(p:Bs->Bool):He p 23=(nL.find? p).getD []:=rfl
def aEX{p:Bs->Bool}(h:He p k≠[]):He p 23=He p k:=by
 have e:nL=nL.take k++nL.drop k:=(List.take_append_drop k _).symm;rw[adD];unfold He at h ⊢;cases a:(nL.take k).find? p with
 | none=>grind
 | some x=>grind
def NU(acc:List P.Tok):Sum Nat (List P.Tok)->Sum Nat (List P.Tok)
 | .inl i=>.inl i
 | .inr l=>.inr (acc++l)
def XT(T:List P.Tok)(f:Nat)(nm:Bs)(l:List Ex)(bd:Bd)(k:Nat)(vs:List Bs):Option (cr Cl):=
 if ee T k [58,45]=G then cr.bind (mX T f (k+1) vs 0) fun b k' vars'=>mW T [46] ⟨nm,l,b,vars'⟩ k' vars'
 else mW T [46] ⟨nm,l,bd,vs⟩ k vs
def adE(T:List P.Tok)(f:Nat)(nm:Bs)(at_:Nat)(l:List Ex)(bd:Bd)(k:Nat)(vs:List Bs):Option (cr Cl):=
 if 0<=jx nm\/nm=[109,111,100] then O (.err 3 at_) else XT T f nm l bd k vs
def CM:List P.Tok->List Y
 | []=>[]
 | t::l=>.int .i64 t.kind::.string (bs t.text)::.int .i64 t.pos::CM l
theorem amR:∀ (l:List P.Tok) (t:P.Tok),CM (l++[t])=CM l++[zi t.kind,aW t.text,zi t.pos]
 | [],t=>rfl
 | u::l,t=>by
  show _::_::_::CM (l++[t])=_;rw[amR l t];rfl
theorem amS:∀ (l:List P.Tok) (j:Nat),j<l.length->(CM l)[j*3]?=O (zi (tk l j).kind)/\(CM l)[j*3+1]?=O (aW ((tk l j).text))/\(CM l)[j*3+2]?=O (zi (tk l j).pos)
 | [],j,h=>zg
 | u::l,0,_=>⟨J,J,J⟩
 | u::l,j+1,h=>by
  have:=amS l j zg;have e:(j+1)*3=j*3+3:=zo;rw[e];exact this
def aEY:(Tryz.prog.info? 142).map (fun i=>(i.zero,i.size,i.bytes))=O (O (.agg #[zi 0,aW [],zi 0]),3,32):=zk
def XU{acc:List P.Tok}(c:w.ownsRow base 142 3 v acc.length (CM acc)){kd:Nat}{tx:Bs}{ps:Nat}
  (d:w.heap[b]?=aO #[vv,tv,av] 142) (hk:vv=zi kd) (ht:tv = aW tx) (f:av=zi ps)
  (o:acc.length<=100000) (g:base<=w.heap.size) {K:Y->Z->Prop}
  (h:∀ v' w',w'.ownsRow base 142 3 v' (acc++([⟨kd,tx,ps⟩]:List P.Tok)).length (CM (acc++([⟨kd,tx,ps⟩]:List P.Tok)))->w.grownBy w' v.ownBlock->(v'.ownBlock=v.ownBlock\/∀ k,v'.ownBlock=O k->w.heap.size<=k)->K v' w') :
  WR bdF (Builtin.append_ #[143,143] 143 #[v,cS b 1 m]) w K X:=by
 subst hk ht f;obtain⟨i,hi,a⟩:=Option.map_eq_some_iff.1 aEY;simp only[Prod.mk.injEq] at a;obtain⟨j,l,n⟩:=a;refine aly (m:=1) (t:=143) (e:=142) zk hi j l n J zo c d J (fun u hu=>?_) zo zo g ?_
 .simp only[a3T,a30,or_false] at hu;rcases hu with rfl | rfl | rfl<;>rfl
 grind [amR,List.length_append]
def NV(w:Z):Prop:=∃ cs T z,w.heap[1]?=O (ah cs T z)/\23<=cs.size/\cs.toList.take 23=nL.map fun s=>aW s
theorem NV.ext{w w':Z}(h:NV w)(a:Ext w w'):NV w':=by
 obtain⟨cs,T,z,b,c⟩:=h;exact⟨cs,T,z,a.ext _ _ b,c⟩
def aEZ(w:Z)(s:Bs)(e:Ending)(w':Z):Prop:=
 Ext w w'/\if 2000<s.length then nD 1 0 w w' e else match P.lex s with
 | .inl i=>nD 2 i w w' e
 | .inr T=>∃ v,e = ai v/\w'.ownsRow w.heap.size 142 3 v T.length (CM T)
def NW{c a:Int}{e:Ending}(h:nD c a w1 w2 e)(hw:w.heap.size<=w1.heap.size):nD c a w w2 e:=by
 obtain⟨b,d,f,g⟩:=h;exact⟨b,d,f,zo⟩
def amT(c a:Int)(w:Z):Calls bdF 47 #[zi c,zi a] w fun e w'=>nD c a w w' e/\Ext w w':=by
 refine(amK c a w).mono ?_;rintro e w' ⟨rfl,rfl⟩;exact⟨⟨_,J,yH,a3O _⟩,yF⟩
def amU(s:Bs)(w:Z)(hl:s.length<=100000)(hT:NV w):Calls bdF 84 #[aW s] w (aEZ w s):=by
 refine ayo ?_;refine⟨fun _ w'=>w'=w/\s.length<=2000,?_,?_⟩
 .by_cases h2:2000<s.length
  .refine KB ?_;refine(amT _ _ _).mono ?_;rintro e w1 ⟨hf,y⟩;obtain⟨b,rfl,h1,L⟩:=hf;refine KB ?_;refine⟨y,?_⟩;rw[zip h2];exact⟨b,J,h1,L⟩
  .refine KB ?_;omega
 .rintro _ w1 ⟨rfl,qM⟩ _;refine⟨fun n t w2=>Ext w1 w2/\∃ j acc f q,n=s.length-j/\j<=s.length/\acc.length<=j/\t 3=zi j/\w2.ownsRow w1.heap.size 142 3 (t 2) acc.length (CM acc) /\
   jw f (s.drop j) j=O q/\NU acc q=P.lex s,⟨s.length,yF,0,[],_,_,J,Nat.zero_le _,a3O _,J,World.ownsRow_nil _ _ _ _,TV s,?_⟩,?_⟩
  .cases P.lex s<;>rfl
  intro n t dd w2 M;refine toPr ?_;obtain⟨y,j,acc,f,q,rfl,hj,haj,L,dS,a,N⟩:=M;have dZ:=y.size;by_cases hlt:j<s.length
  .obtain⟨c,r,KT⟩:∃ c r,s.drop j=c::r:=⟨s[j],s.drop (j+1),a3U hlt⟩;have K:s.getD j 0=c:=by
    grind [a3U,a3P]
   have hr:s.drop (j+1)=r:=by
    grind [a3U]
   have aXh:=c.toNat_lt;cases f with
   | zero=>rw[jw] at a;cases a
   | succ f=>
   rw[KT,jw] at a;have pJ:(P.blank c=G)↔((c.toNat:Int)=32\/(c.toNat:Int)=10):=by
    have e1:c=32↔c.toNat=32:=by rw[<- a4G];rfl
    have e2:c=10↔c.toNat=10:=by rw[<- a4G];rfl
    simp only[P.blank,Bool.or_eq_true,beq_iff_eq,e1,e2];omega
   simp (disch:=first|assumption|omega|simp only[zS]<;>omega|decide) only[Pr,PX,PC,NX,ends,Ft,pF,jo,Nat.reduceAdd,Nat.reduceMul,Nat.reduceLeDiff,Nat.reduceEqDiff,Int.reduceToNat,Int.reduceAdd,Int.reduceLT,Int.reduceLE,↓reduceIte,forall_const,eq_self,ab8,jI,abG,abH,P8,P9,GS,GU,abJ,abK,abL,abM,abN,abO,abP,abQ,abR,abU,abV,abS,abT,ab0,ab1,ab2,ab5,Xu,abY,ab9,aca,acL,acb,acd,ace,acf,Nn,tW,qI,jg,Te,Cq,vy,size_alloc,Tj,acm,acg,ach,aci,acj,ack,acn,aco,acp,acq,acr,acu,acv,acw,acx,acy,acz,acA,acB,acC,acD,acE,acF,acG,Qc,u8w,Xo,abD,abE,Int.toNat_natCast,Option.isNone_none,Option.isNone_some,List.getElem?_toArray,List.getElem?_cons_zero,List.getElem?_cons_succ,List.setIfInBounds_toArray,List.set_cons_zero,List.set_cons_succ,List.size_toArray,List.length_cons,List.length_nil,List.drop_zero,List.drop_succ_cons,List.take_succ_cons,List.take_zero,List.take_nil,List.drop_nil,a5d,List.all_nil,Bool.and_true,Bool.true_and,Nat.zero_add,Nat.add_zero,Nat.mul_one,and_self,and_true,true_and,decide_true,decide_false,Bool.not_true,Bool.not_false,not_true_eq_false,not_false_eq_true,akZ,ak2,ak4,alh,aln,alp,alq,alx,L,K];refine⟨fun t2 w3=>w3=w2/\t2 3=zi j/\P.blank c=ae,?_,?_⟩
   .refine⟨fun t2 w3=>w3=w2/\t2 25 = .bool (P.blank c),?_,?_⟩
    .refine yU (zA @abI K) ?_;grind
    .rintro t2 w3 ⟨rfl,z⟩ d2;rw[z];cases hb:P.blank c with
     | true=>
      rw[P8,L];refine KB ?_;refine⟨s.length-(j+1),zo,y,j+1,acc,f,q,J,zo,zo,?_,?_,?_,N⟩<;>grind
     | false=>
      rw[P9];grind
   .rintro t2 w3 ⟨rfl,z,pI⟩ d2;rw[bU (by simp [pI])] at a;rw[K];refine(amL c _).mono ?_;rintro e w4 ⟨rfl,rfl⟩;by_cases nX:P.cls c≠0
    .rw[zip nX] at a;have aE0:¬ ((P.cls c:Nat):Int)=0:=zo;refine KB ?_;obtain⟨W,Q⟩:=cj (((c::r).takeWhile (fun x=>P.cls x≠0)).length);have TX:=amP (fun x=>P.cls x≠0) (c::r);rw[<- Q] at TX;dsimp only at a;rw[<- Q] at a;obtain⟨Hf,CO,FF,xk⟩:=TX;have hlen:(c::r).length=s.length-j:=zg;rw[hlen] at CO FF;rw[<- KT] at Hf CO;simp only[amQ,decide_eq_true_eq,decide_eq_false_iff_not,ne_eq,Decidable.not_not] at Hf CO;have hWp:0<W:=by
      grind
     refine⟨fun t3 g=>g=w4/\t3 6=zi ((j+W:Nat):Int),?_,?_⟩
     .refine⟨fun n t3 g=>g=w4/\∃ m,n=W-m/\m<=W/\t3 6=zi ((j+m:Nat):Int),⟨W,J,0,J,Nat.zero_le _,?_⟩,?_⟩
      .grind
      .intro n t3 d3 g M;refine toPr ?_;obtain⟨rfl,m,rfl,hm,B⟩:=M;by_cases hjm:j+m<s.length
       .refine yU B ?_;refine(amL _ _).mono ?_;rintro e C ⟨rfl,rfl⟩;by_cases R:m<W
        .have Cn:¬ ((P.cls (s.getD (j+m) 0):Nat):Int)=0:=zg;refine yU B ?_;exact⟨W-(m+1),zo,m+1,J,zo,zg⟩
        .have aE1:m=W:=zo;subst aE1;have Cn:((P.cls (s.getD (j+m) 0):Nat):Int)=0:=zo;exact acV B
       .have R:m=W:=by
         omega
        subst R;exact acV B
     .rintro t3 g ⟨rfl,B⟩ d3;refine yU (zA B z) ?_;have hdt:List.drop j (List.take (j+W) s)=c::r.takeWhile (fun x=>P.cls x≠0):=by
       rw[List.drop_take,KT,show j+W-j=W by omega,xk,List.takeWhile_cons,zip (by simpa using nX)]
      have CP:(c::r).takeWhile (fun x=>P.cls x≠0)=c::r.takeWhile (fun x=>P.cls x≠0):=zg;rw[hdt];rw[CP] at a Q;obtain⟨wd,NY⟩:=cj (c::r.takeWhile (fun x=>P.cls x≠0));refine(aES c _ zo j g nX).mono ?_;rw[<- NY] at a Q ⊢;rintro e C ⟨gT,(⟨BJ,rfl⟩| ⟨BJ,jl⟩)⟩
      .have s4:=gT.size;rw[bU BJ] at a;refine yU (zA z B) ?_;have o:Ext C (C.alloc (ah #[zi (mP wd),aW wd,zi j] 142)):=yF;have u:=jK (gT.trans o).ext dS;refine XU (acc:=acc) (base:=w1.heap.size) (kd:=mP wd) (tx:=wd) (ps:=j) u yH J J J zo (yH) ?_;intro v' D TY E BD;have S:Ext w1 D:=((y.trans gT).trans o).grow E (fun k hk=>(u.lt k hk).1);cases F:jw f (List.drop wd.length (c::r)) (j+wd.length) with
       | none=>exact yH
       | some q2=>
       rw[Q,F] at a;refine⟨s.length-(j+W),zo,S,j+W,acc++[⟨mP wd,wd,j⟩],f,q2,J,zo,zg,zg,yH,?_,?_⟩
       .grind [List.drop_drop]
       .rw[<- N];cases q2 with
        | inl i=>simp only[a3I] at a;rw[<- a];rfl
        | inr l=>grind [a3I,NU]
      .rw[zip BJ] at a;cases a;simp only[NU] at N;have Qu:=NW jl dZ;obtain⟨b,rfl,g1,g2⟩:=jl;refine KB ?_;refine⟨yF,?_⟩;exact yH
    .rw[bU nX] at a;have aE0:((P.cls c:Nat):Int)=0:=zo;refine KB ?_;have H:(c=46/\IK r=G)↔((c.toNat:Int)=46/\(j+1=s.length\/(j+1<s.length/\((s.getD (j+1) 0).toNat=32\/(s.getD (j+1) 0).toNat=10)))):=by
      have e1:c=46↔c.toNat=46:=by rw[<- a4G];rfl
      have hrl:r.length=s.length-(j+1):=zg;rw[e1];cases r with
      | nil=>
       grind [IK]
      | cons d r'=>
       have hd:s.getD (j+1) 0=d:=by rw[show j+1=j+1+0 from J,<- amQ,hr];rfl
       rw[hd];have e2:d=32↔d.toNat=32:=by rw[<- a4G];rfl
       have e3:d=10↔d.toNat=10:=by rw[<- a4G];rfl
       simp only[IK,P.blank,Bool.or_eq_true,beq_iff_eq,e2,e3];grind
     refine⟨fun t4 g=>g=w4/\t4 2=t 2/\t4 3=zi j/\¬ (c=46/\IK r=G),?_,?_⟩
     .refine⟨fun t4 g=>g=w4/\t4 79 = .bool (decide (c=46/\IK r=G)),?_,?_⟩
      .by_cases Eg:(c.toNat:Int)=46
       .by_cases hje:j+1=s.length
        .have aE4:((j:Int)+1)=(s.length:Int):=zo;refine yU (zA z K) ?_;grind
        .have aE4:¬ ((j:Int)+1)=(s.length:Int):=zo;have NT:((j:Int)+1).toNat=j+1:=zo;refine yU (zA @abI (zA z (zA K NT))) ?_;generalize hd:(s.getD (j+1) 0).toNat=d at *;by_cases g1:d=32
         .have XV:=H.2 ⟨Eg,.inr ⟨zo,.inl g1⟩⟩;simp [jo,XV,g1]
         .have XW:¬ (d:Int)=32:=zo;by_cases g2:d=10
          .have XV:=H.2 ⟨Eg,.inr ⟨zo,.inr g2⟩⟩;simp [jo,XV,g2]
          .have mn:¬ (c=46/\IK r=G):=fun h=>by
            rcases(H.1 h).2 with h | ⟨_,h | h⟩
            .exact hje h
            .exact g1 h
            .exact g2 h
           have XX:¬ (d:Int)=10:=zo;rw[decide_eq_false mn];simp [jo,XW,XX];try omega
       .have mn:¬ (c=46/\IK r=G):=zg;rw[decide_eq_false mn];exact acV (zA z K)
      .rintro t4 g ⟨rfl,h83⟩ d4;rw[h83];by_cases T:c=46/\IK r=G
       .rw[GS _ _ T];rw[zip T] at a;refine yU z ?_;have o:Ext g (g.alloc (ah #[zi 4,aW [46],zi j] 142)):=yF;have u:=jK o.ext dS;refine XU (acc:=acc) (base:=w1.heap.size) (kd:=4) (tx:=[46]) (ps:=j) u yH J J J zo (yH) ?_;intro v' D TY E BD;have S:Ext w1 D:=(y.trans o).grow E (fun k hk=>(u.lt k hk).1);cases F:jw f r (j+1) with
        | none=>rw[F] at a;cases a
        | some q2=>
        rw[F] at a;refine yU z ?_;refine⟨s.length-(j+1),zo,S,j+1,acc++[⟨4,[46],j⟩],f,q2,J,zo,zg,zs,yH,?_,?_⟩
        .grind
        grind [a3I,NU]
       .rw[GU _ _ T];grind
     .rintro t4 g ⟨rfl,BK,I4,T⟩ d4;rw[bU T] at a;obtain⟨cs,TT,zz,ti,jt,zh⟩:=hT.ext y;have hlen:(c::r).length=s.length-j:=zg;refine yU (zA ti zh) ?_;obtain⟨A,uf⟩:∃ A:Bs->Bool,A=fun x=>x.isPrefixOf (c::r):=⟨_,J⟩;refine⟨fun n t5 C=>C=g/\∃ k,n=23-k/\k<=23/\t5 88=zi ((k:Nat):Int)/\t5 2=t 2/\t5 3=zi j/\He A k=[],⟨23,J,0,J,Nat.zero_le _,J,?_,?_,J⟩,?_⟩
      .grind
      .grind
      intro n t5 d5 C M;refine toPr ?_;obtain⟨rfl,k,rfl,hk,KV,I,U,kx⟩:=M;by_cases X:k<23
      .obtain⟨x,hx⟩:=cj (nL.getD k []);have CS:x∈nL:=by
        rw[hx,List.getD_eq_getElem?_getD,a3P (show k<nL.length from X)];grind
       obtain⟨NH,Kx⟩:=adC CS;have XY:(List.take 23 cs.toList).toArray[k]?=O (aW x):=by
        grind
       have hkn:((k:Nat):Int).toNat=k:=zo;have aXk:(List.take 23 cs.toList).toArray[((k:Nat):Int).toNat]?=O (aW x):=zg;have aE6:((j:Nat):Int).toNat=j:=zo;refine yU (zA KV (zA U aE6)) ?_;rw[KT];refine(Tryz.strings_HasPrefix (bs (c::r)) (bs x) _).mono ?_;rintro e D ⟨rfl,rfl⟩;have Hh:Lib.hasPrefix (bs (c::r)).data.toList (bs x).data.toList=A x:=by rw[uf];rfl
       rw[Hh];have T0:=aEW X kx;rw[<- hx] at T0;by_cases hp:A x=G
       .rw[hp];rw[zip hp] at T0;have wN:nL.find? A=O x:=by
         have h1:=aEX (p:=A) (k:=k+1) (by rw[T0];exact NH);rw[T0,adD] at h1;grind
        rw[uf] at wN;rw[wN] at a;dsimp only at a;have hle:=(List.isPrefixOf_iff_prefix.1 (by rw[uf] at hp;exact hp)).length_le;rw[hlen] at hle;have pG:0<x.length:=List.length_pos_iff.2 NH;refine yU (zA I U) ?_;have o:Ext D (D.alloc (ah #[zi 4,aW x,zi j] 142)):=yF;have u:=jK o.ext dS;refine XU (acc:=acc) (base:=w1.heap.size) (kd:=4) (tx:=x) (ps:=j) u yH J J J zo (yH) ?_;intro v' w8 TY E BD;have S:Ext w1 w8:=(y.trans o).grow E (fun k hk=>(u.lt k hk).1);cases F:jw f ((c::r).drop x.length) (j+x.length) with
        | none=>rw[F] at a;cases a
        | some q2=>
        rw[F] at a;refine yU (zA I U) ?_;refine⟨s.length-(j+x.length),zo,S,j+x.length,acc++[⟨4,x,j⟩],f,q2,J,zo,zg,zs,yH,?_,?_⟩
        .grind [List.drop_drop]
        grind [a3I,NU]
       .have IT:A x=false:=zg;rw[IT];rw[bU hp] at T0;refine yU (zA KV (zA I U)) ?_;grind
      .have Cs:k=23:=zo;subst Cs;have yd:nL.find? (fun s=>s.isPrefixOf (c::r))=none:=by
        grind [adD,absurd,adC,a4I]
       rw[yd] at a;cases a;simp only[NU] at N;refine yU (zA KV U) ?_;refine(amT _ _ _).mono ?_;rintro e D ⟨hf,Hi⟩;have eY:=NW hf dZ;obtain⟨b,rfl,g1,g2⟩:=hf;refine KB ?_;refine⟨yF,?_⟩;exact yH
  .have Hc:j=s.length:=zo;subst Hc;have Ja:List.drop s.length s=[]:=List.drop_length;cases f with
   | zero=>rw[jw] at a;cases a
   | succ f=>
   rw[Ja,jw] at a;cases a;simp only[NU] at N;refine yU L ?_;have o:Ext w2 (w2.alloc (ah #[zi 0,aW [],zi (s.length)] 142)):=yF;have u:=jK o.ext dS;refine XU (acc:=acc) (base:=w1.heap.size) (kd:=0) (tx:=[]) (ps:=s.length) u yH J J J zo (yH) ?_;intro v' C TY E BD;refine⟨(y.trans o).grow E (fun k hk=>(u.lt k hk).1),?_⟩;exact yH
namespace P
structure aE7(T:List Tok)(f:Nat):Prop where
 lit:∀ k v d x k' v',nU T f k v d=O (.ok x k' v')->k<k'
 lits:∀ k v d acc x k' v',qE T f k v d acc=O (.ok x k' v')->k<k'
 row:∀ k v d x k' v',ow T f k v d=O (.ok x k' v')->k<k'
 rest:∀ k v d x k' v',qF T f k v d=O (.ok x k' v')->k<k'
 body:∀ k v d x k' v',mX T f k v d=O (.ok x k' v')->k<k'
def T3(T:List Tok):∀ f,aE7 T f
 | 0=>⟨by simp_all [nU],by simp_all [qE],by simp_all [ow],by simp_all [qF],by simp_all [mX]⟩
 | f+1=>by
  have ih:=T3 T f;have hm:=mono T f;refine⟨?_,?_,?_,?_,?_⟩
  .intro k v d x k' v' h;rw[nU] at h;split at h
   .grind
   split at h
   .grind
   split at h
   .obtain⟨a,i,v1,g,e⟩:=eo h;have:=ih.lit _ _ _ _ _ _ g;grind
   split at h
   .obtain⟨a,i,v1,g,e⟩:=eo h;have:=ih.body _ _ _ _ _ _ g;grind [oC]
   obtain⟨a,i,v1,g,e⟩:=eo h;have:=hm.oper _ _ _ _ _ _ _ g;split at e
   .obtain⟨b,n,v2,j,l⟩:=eo e;have:=hm.oper _ _ _ _ _ _ _ j;grind
   grind
  .intro k v d acc x k' v' h;rw[qE] at h;obtain⟨y,i,v1,g,e⟩:=eo h;have:=ih.lit _ _ _ _ _ _ g;split at e
   .have:=ih.lits _ _ _ _ _ _ _ e;omega
   grind
  .intro k v d x k' v' h;rw[ow] at h;obtain⟨y,i,v1,g,e⟩:=eo h;have:=ih.lits _ _ _ _ _ _ _ g;grind
  .intro k v d x k' v' h;rw[qF] at h;split at h
   .grind
   .exact ih.body _ _ _ _ _ _ h
  .intro k v d x k' v' h;rw[mX] at h;obtain⟨a,i,v1,g,e⟩:=eo h;have:=ih.row _ _ _ _ _ _ g;split at e
   .obtain⟨b,n,v2,j,l⟩:=eo e;have:=ih.row _ _ _ _ _ _ j;split at l
    .obtain⟨c,o,v3,m,p⟩:=eo l;have:=ih.rest _ _ _ _ _ _ m;grind
    grind
   .split at e
    .obtain⟨c,o,v3,m,p⟩:=eo e;have:=ih.rest _ _ _ _ _ _ m;grind
    grind
def whole:Bd->Prop
 | .mk kind _ _ parts=>kind=63->parts.length=3
structure aE8(T:List Tok)(f:Nat):Prop where
 lit:∀ k v d x k' v',nU T f k v d=O (.ok x k' v')->whole x
 lits:∀ k v d acc x k' v',(∀ b∈acc,whole b)->qE T f k v d acc=O (.ok x k' v')->(∀ b∈x,whole b)/\acc.length<x.length
 row:∀ k v d x k' v',ow T f k v d=O (.ok x k' v')->whole x
 rest:∀ k v d x k' v',qF T f k v d=O (.ok x k' v')->whole x
 body:∀ k v d x k' v',mX T f k v d=O (.ok x k' v')->whole x
def adI(T:List Tok):∀ f,aE8 T f
 | 0=>⟨by simp_all [nU],by simp_all [qE],by simp_all [ow],by simp_all [qF],by simp_all [mX]⟩
 | f+1=>by
  have ih:=adI T f;refine⟨?_,?_,?_,?_,?_⟩
  .intro k v d x k' v' h;rw[nU] at h;split at h
   .grind
   split at h
   .grind [a3I,cr.ok.injEq,whole]
   split at h
   .obtain⟨a,i,v1,g,e⟩:=eo h;grind [a3I,cr.ok.injEq,whole]
   split at h
   .obtain⟨a,i,v1,g,e⟩:=eo h;rw[(oC e).2.1];exact ih.body _ _ _ _ _ _ g
   obtain⟨a,i,v1,g,e⟩:=eo h;split at e
   .obtain⟨b,m,v2,j,l⟩:=eo e;grind [a3I,cr.ok.injEq,whole]
   grind [a3I,cr.ok.injEq,whole]
  .intro k v d acc x k' v' r h;rw[qE] at h;obtain⟨y,i,v1,g,e⟩:=eo h;have s:=ih.lit _ _ _ _ _ _ g;have n:∀ b∈acc++[y],whole b:=by
    grind
   split at e
   .have j:=ih.lits _ _ _ _ _ _ _ n e;grind
   grind
  .intro k v d x k' v' h;rw[ow] at h;obtain⟨y,i,v1,g,e⟩:=eo h;have j:=(ih.lits _ _ _ _ _ _ _ zs g).1;grind [a3I,cr.ok.injEq,whole]
  .intro k v d x k' v' h;rw[qF] at h;split at h
   .grind
   .exact ih.body _ _ _ _ _ _ h
  .intro k v d x k' v' h;rw[mX] at h;obtain⟨a,i,v1,g,e⟩:=eo h;split at e
   .obtain⟨b,m,v2,j,l⟩:=eo e;split at l
    .obtain⟨c,o,v3,p,q⟩:=eo l;grind [a3I,cr.ok.injEq,whole]
    grind [a3I,cr.ok.injEq,whole]
   .split at e
    .obtain⟨c,o,v3,p,q⟩:=eo e;grind [a3I,cr.ok.injEq,whole]
    .simp only[a3I,cr.ok.injEq] at e;rw[<- e.1];exact ih.row _ _ _ _ _ _ g
end P
structure nk(w:Z)(B:Nat):Prop where
 lt:3<B
 cell:∀ j,j<9->w.cell? ⟨3,j,V⟩=O (aW (M7.getD j []))
theorem nk.ext(h:nk w B)(hw:∀ (b:Nat) (o:Obj),b<B->w.heap[b]?=O o->w'.heap[b]?=O o):nk w' B:=
 ⟨h.lt,fun j a=>Ns (h.cell j a) (by grind [lt])⟩
theorem nk.fr(a:nk w tb)(h:db pb w w')(d:tb<pb):nk w' tb:=
 a.ext fun b o e c=>h.block _ _ c (by rintro (h | ⟨h,_⟩)<;>omega)
structure Qx(f:Nat):Prop where
 go:∀ {pb tb:Nat} {T:List P.Tok} {k:Nat} {vars:List Bs} {d:Nat} {w:Z} {r:cr Bd},SP w pb tb T k vars d->nk w tb->d<=8 ->
  nU T f k vars d=O r->Calls bdF 115 #[pp pb] w (j6 dL pb tb T d w r)
structure Qy(f:Nat):Prop where
 go:∀ {pb tb:Nat} {T:List P.Tok} {k:Nat} {vars:List Bs} {d:Nat} {w:Z} {r:cr Bd},SP w pb tb T k vars d->nk w tb->d<=8 ->
  ow T f k vars d=O r->Calls bdF 114 #[pp pb,.int .u8 44,aW [44],.func (.func 115) #[pp pb] #[]] w (j6 dL pb tb T d w r)
structure KW(f:Nat):Prop where
 go:∀ {pb tb:Nat} {T:List P.Tok} {k:Nat} {vars:List Bs} {d:Nat} {w:Z} {r:cr Bd},SP w pb tb T k vars d->nk w tb->d<=8 ->
  mX T f k vars d=O r->Calls bdF 53 #[pp pb] w (j6 dL pb tb T d w r)
theorem dL.shape{x:Bd}(h:dL F w v x):∃ b,v=pp b/\F b:=by
 cases x with
 | mk kind name args parts=>
  unfold dL at h;obtain⟨b,_,_,_,_,a,c,_⟩:=h;exact⟨b,a,c⟩
def gD.snoc{F:Nat->Prop}{w:Z}{v:Y}{x:Bd}(hv:dL F w v x):∀ {l:List Bd} {vs:List Y},gD F w vs l->gD F w (vs++[v]) (l++[x])
 | [],vs,h=>by
  unfold gD at h;subst h;simp only[List.nil_append];unfold gD;exact⟨v,[],J,hv,by unfold gD;rfl⟩
 | y::l,vs,h=>by
  unfold gD at h;obtain⟨u,r,rfl,a,b⟩:=h;simp only[List.cons_append];unfold gD;exact⟨u,r++[v],J,a,gD.snoc hv b⟩
def gD.length{F:Nat->Prop}{w:Z}:∀ {l:List Bd} {vs:List Y},gD F w vs l->vs.length=l.length
 | [],vs,h=>by unfold gD at h;rw[h];rfl
 | x::xs,vs,h=>by
  unfold gD at h;obtain⟨v,r,rfl,_,a⟩:=h;simp [gD.length a]
def Jb:lV F w bW []:=⟨[],.inl ⟨J,J⟩,by unfold eS;rfl⟩
def KX:KE F w bW []:=⟨[],.inl ⟨J,J⟩,by unfold gD;rfl⟩
def aE9{x:Bd}(a:F b)(h:w.heap[b]?=aO #[u] 84)(hx:dL F w u x) :
  KE F w (cS b 1 1) [x]:=by
 refine⟨[u],.inr ⟨b,#[u],J,a,h,a3O _,J⟩,?_⟩;unfold gD;exact⟨u,[],J,hx,by unfold gD;rfl⟩
def aFa{x y:Bd}(a:F b)(h:w.heap[b]?=aO #[u,v] 84)(hx:dL F w u x)(c:dL F w v y) :
  KE F w (cS b 2 2) [x,y]:=by
 refine⟨[u,v],.inr ⟨b,#[u,v],J,a,h,a3O _,J⟩,?_⟩;unfold gD;refine⟨u,[v],J,hx,?_⟩;unfold gD;exact⟨v,[],J,c,by unfold gD;rfl⟩
def Eh{name:Bs}{args:List Ex}(d:F b)
  (h:w.heap[b]?=aO #[.int .u8 pb,aW name,av,tv] 149) (a:lV F w av args) (c:KE F w tv gz) :
  dL F w (pp b) (.mk pb name args gz):=by
 obtain⟨vs,e,f⟩:=a;obtain⟨us,g,i⟩:=c;unfold dL;grind
theorem KE.mono{F F':Nat->Prop}{w w':Z}{v:Y}{l:List Bd}(a:∀ b,F b->F' b)(hw:∀ b o,F b->D0 o->w.heap[b]?=O o->w'.heap[b]?=O o)
  (h:KE F w v l):KE F' w' v l:=by
 obtain⟨vs,c,f⟩:=h;exact⟨vs,c.mono a fun b cs d e=>hw b _ d ⟨zg,J⟩ e,(by grind [gD.mono])⟩
def amY:(Tryz.prog.info? 84).map (fun i=>(i.zero,i.size,i.bytes))=O (O (au V),1,8):=zk
abbrev amZ(pb:Nat):Y:=.func (.func 115) #[pp pb] #[]
def RJ(pb tb:Nat)(T:List P.Tok)(d:Nat)(w0:Z)(c:cr (List Bd))(n:Nat)(a:Act)(w:Z):Prop:=
 ∃ (acc:List Bd) (k:Nat) (vs:List Bs) (xs:List Y) (sl e f g h u8 i j l m o p u16 q r s t u x y z A B C D E F:Y),a={ tmps:=#[pp pb,.int .u8 44,aW [44],amZ pb,e,f,g,h,u8,sl,i,j,l,m,o,p,u16,q,r,s,t,u,x,y,z,A,B,C,D,E,F],defers:=[] } /\
  w.ownsRow w0.heap.size 84 1 sl acc.length xs/\gD (fun b=>Nu w0 w b/\sl.ownBlock≠O b) w xs acc/\SP w pb tb T k vs d/\db pb w0 w/\0<acc.length/\acc.length<=k /\
  (if ee T k [44] then qE T n (k+1) vs d acc else O (.ok acc k vs))=O c
def aFc(NZ:∀ m,m<f->Qx m){r:cr Bd}(pH:SP w0 pb tb T k vars d)(nX:nk w0 tb)(hd:d<=8)
  (h:ow T (f+1) k vars d=O r):Calls bdF 114 #[pp pb,.int .u8 44,aW [44],amZ pb] w0 (j6 dL pb tb T d w0 r):=by
 rw[ow] at h;cases AK:qE T f k vars d [] with
 | none=>rw[AK] at h;simp [cr.bind] at h
 | some re=>
 rw[AK] at h;cases f with
 | zero=>simp [qE] at AK
 | succ f=>
 rw[qE] at AK;have T4:=a3J pH;have Jc:=a3J nX;have HR:=a3J h;have NG:=a3J AK;have xY:=pH.d2.2.2;have xi:=pH.lt;have hT:=pH.tw.len;obtain⟨i0,hi,KK,KL,KM⟩:=info_parts amY;clear pH h AK nX
 go_enter func114,ntmps114
 go_wp2_with fail
 cases hq:nU T f k vars d with
 | none=>have e:=NG.out;rw[hq] at e;simp [cr.bind] at e
 | some q=>
 have e:=NG.out;rw[hq] at e;refine((NZ f zo).go T4.out Jc.out hd hq).mono ?_;cases q with
 | err c0 a0=>
  rintro e2 w4 ⟨⟨b,rfl,eO,gF⟩,dV,gO⟩;simp only[cr.bind,a3I] at e;subst e;have hr:=HR.out;simp only[cr.bind,a3I] at hr;subst hr;exact⟨J,⟨b,J,eO,gF⟩,dV,gO⟩
 | ok x k' xg=>
 rintro e2 w1 ⟨v,rfl,hv,fi,eY⟩;simp only[cr.bind] at e;obtain⟨bx,rfl,jM⟩:=hv.shape;have nW:=(T3 T f).lit _ _ _ _ _ _ hq;have oZ:=eY.size;have eT:(w1.alloc (ah #[pp bx] 84)).ownsRow w0.heap.size 84 1 (cS w1.heap.size 1 1) 1 [pp bx]:=
  ⟨J,.inr ⟨w1.heap.size,1,_,J,zo,blk_alloc_new _ _,a3O _,zd,J,J⟩⟩
 have jb:gD (fun b=>Nu w0 (w1.alloc (ah #[pp bx] 84)) b/\(a3Y (O ⟨w1.heap.size,0,V⟩) 1 1).ownBlock≠O b) (w1.alloc (ah #[pp bx] 84)) [pp bx] [x]:=by
  have:=gD.snoc (l:=[]) (vs:=[]) (F:=fun b=>Nu w0 (w1.alloc (ah #[pp bx] 84)) b/\(a3Y (O ⟨w1.heap.size,0,V⟩) 1 1).ownBlock≠O b) (w:=w1.alloc (ah #[pp bx] 84)) (v:=pp bx) (x:=x)
   (dL.mono (fun b hb=>⟨(by grind [size_alloc]),fun e=>by injection e with e;grind⟩) (by grind [dT]) _ _ hv) (by unfold gD;rfl)
  grind
 have TH:=a3J eT;have mz:=a3J jb;have iU:=a3J (fi.ext (w':=w1.alloc (ah #[pp bx] 84)) fun b o h=>dT h);have fR:Hid (db pb w0 (w1.alloc (ah #[pp bx] 84))):=a3J (eY.alloc _);have HE:=a3J e;have HK:=a3J nW;clear hv fi eY eT jb e hq jM NG nW
 go_wp2_with fail
 refine wp_loop_ghost (fun n a w=>n<=f/\RJ pb tb T d w0 re n a w) ⟨f,a3O _,[x],k',xg,_,_,_,_,_,_,_,_,_,_,_,_,_,_,_,_,_,_,_,_,_,_,_,_,_,_,_,_,J,TH.out,mz.out,iU.out,fR.out,Nat.zero_lt_one,by have:=HK.out;simp;omega,by simpa using HE.out⟩ ?_;clear TH mz iU fR HK HE oZ;rintro n a w ⟨hnf,acc,k2,vs,xs,sl,u4,u5,u6,u7,u8,y3,y5,y6,xe,xf,y7,u16,y8,y9,Cv,Cw,Cx,Cy,Cz,CB,CC,CD,CE,D8,D9,Ea,rfl,dS,my,hp,hf,h0a,XN,hr⟩;have IY:=hp.kt;have hz:=hf.size;have CH:=hp.d2.2.2;obtain⟨g',pX,rfl⟩:∃ g cap,sl = cS g acc.length cap:=by
  obtain⟨g1,g2 | ⟨g,cp,cur,e1,e2,e3,e4⟩⟩:=dS<;>grind
 have HO:=a3J dS;have HX:=a3J my;have HP:=a3J hp;have HF:=a3J hf;by_cases hc:ee T k2 [44]=G
 .rw[zip hc] at hr;cases n with
  | zero=>grind [qE]
  | succ n=>
  rw[qE] at hr;have AI:=a3J hr;clear dS my hp hf hr
  go_wp2_with fail
  refine(vA HP.out [44] hc).mono ?_;rintro e w2 ⟨rfl,fi,eY⟩;have iU:=a3J fi;have fR:=a3J eY;clear fi eY hc
  go_wp2_with fail
  cases hq:nU T n (k2+1) vs d with
  | none=>have e:=AI.out;rw[hq] at e;simp [cr.bind] at e
  | some q=>
  have e:=AI.out;rw[hq] at e;refine((NZ n zo).go iU.out (Jc.out.fr (HF.out.trans fR.out) xi) hd hq).mono ?_;cases q with
  | err c0 a0=>
   rintro e2 w4 ⟨⟨b,rfl,eO,gF⟩,dV,gO⟩;simp only[cr.bind,a3I] at e;subst e;have hr:=HR.out;simp only[cr.bind,a3I] at hr;subst hr;have:=fR.out.size;exact⟨J,⟨b,J,eO,zo⟩,(HF.out.trans fR.out).trans dV,gO⟩
  | ok x k' xg=>
  rintro e2 w3 ⟨v,rfl,hv,gL,dV⟩;simp only[cr.bind] at e;obtain⟨bx,rfl,jM⟩:=hv.shape;have nW:=(T3 T n).lit _ _ _ _ _ _ hq;have pY:=fR.out.size;have BA:=dV.size;have jY:=gL.kt;have adf:=iU.out.d2.2.2;have tj:=gL.d2.2.2;have xZ:w3.ownsRow w0.heap.size 84 1 (cS g' acc.length pX) acc.length xs:=by
   obtain⟨g1,g2 | ⟨g,cp,cur,e1,e2,e3,e4⟩⟩:=HO.out
   .omega
   .exact⟨g1,.inr ⟨g,cp,cur,e1,e2,db.lL dV ⟨zg,J⟩ (db.lL fR.out ⟨zg,J⟩ e3 zo) zo,e4⟩⟩
  have KN:gD (fun b=>Nu w0 w3 b/\(a3Y (O ⟨g',0,V⟩) acc.length pX).ownBlock≠O b) w3 xs acc:=
   gD.mono zg (by grind [db.lL,Hid.out]) _ _ HX.out
  have vD:=a3J xZ;have mz:=a3J KN;have HV:=a3J hv;have kH:=a3J gL;have iz:=a3J ((HF.out.trans fR.out).trans dV);have HE:=a3J e;have AH:=a3J jM;have HK:=a3J nW;clear hv gL dV xZ KN e hq jM nW
  go_wp2_with (at_builtin;go_must (refine S2 J _ _ 147 J w0.heap.size 84 i0 _ 1 8 underlying147 hi KK KL KM J zo _ _ _ J (vD.out.alloc _) ⟨w3.heap.size,0,V⟩ 1 1 [pp bx] J J (P3 J) (by simp [Value.oneCell']) (by grind [maxLen]) zo (by simp;omega) ?_;intro v' w4 th zc Bz;obtain⟨g2,Ha,rfl⟩:=Nb th;have G6:=a3J th;have uJ:=a3J zc;have TE:=a3J Bz;clear th zc Bz))
  have j7:SP w4 pb tb T k' xg d:=(kH.out.ext fun b o h=>dT (o:=Obj.cells #[Value.pointer (O ⟨bx,0,V⟩)] 84) h).Qk (vD.out.alloc _) zg zo uJ.out;have eA:db pb w0 w4:=(iz.out.alloc _).Ql uJ.out fun k hk=>(vD.out.lt k hk).1;have KQ:=uJ.out.size;rw[size_alloc] at KQ;have Qo:∀ (b:Nat) (o:Obj),w3.heap[b]?=O o->(a3Y (O ⟨g',0,V⟩) acc.length pX).ownBlock≠O b->w4.heap[b]?=O o:=fun b o h ef=>by
   have h':=dT (o:=Obj.cells #[Value.pointer (O ⟨bx,0,V⟩)] 84) h;rw[uJ.out.block b (bn h') (fun e=>ef e.symm)];omega
  have pI:∀ b,b<w3.heap.size->(a3Y (O ⟨g',0,V⟩) acc.length pX).ownBlock≠O b->(a3Y (O ⟨g2,0,V⟩) (acc.length+1) Ha).ownBlock≠O b:=fun b hb ef=>by
   rcases TE.out with h | h
   .rw[h];exact ef
   grind [size_alloc]
  have hbn:∀ b,Nu w2 w3 b->(a3Y (O ⟨g',0,V⟩) acc.length pX).ownBlock≠O b:=fun b hb e=>by
   have:=(HO.out.lt b e).2;omega
  have adg:gD (fun b=>Nu w0 w4 b/\(a3Y (O ⟨g2,0,V⟩) (acc.length+1) Ha).ownBlock≠O b) w4 (xs++[pp bx]) (acc++[x]):=
   gD.snoc (dL.mono zg zg _ _ HV.out)
    (gD.mono zg zg _ _ mz.out)
  have nW:=HK.out;exact⟨n,Nat.lt_succ_self n,zo,acc++[x],k',xg,_,_,_,_,_,_,_,_,_,_,_,_,_,_,_,_,_,_,_,_,_,_,_,_,_,_,_,_,J,by rw[List.length_append];exact G6.out,adg,j7,eA,zs,zg,HE.out⟩
 .rw[bU hc,a3I] at hr;subst hr;clear dS my hp hf;have hr:=HR.out;simp only[cr.bind,a3I] at hr;subst hr;clear HR;have BC:=(HO.out.lt g' J);have iW:=Fy HO.out (F:=Nu w0 w) (fun b hb=>⟨(HO.out.lt b hb).1,(HO.out.lt b hb).2⟩);have NH:gD (Nu w0 w) w xs acc:=gD.mono zg zg _ _ HX.out;have HSL:=a3J iW;have HXN:=a3J NH;clear iW NH;by_cases h1:acc.length=1
  .obtain⟨b1,rfl⟩:∃ b1,acc=[b1]:=List.length_eq_one_iff.1 h1;have rR:=HXN.out;unfold gD at rR;obtain⟨v1,r1,e1,kR,qH⟩:=rR;unfold gD at qH;subst qH;subst e1;have nE:w.cell? ⟨g',0,V⟩=O v1:=by
    obtain⟨g1,g2 | ⟨g,cp,cur,e1,e2,e3,e4,e5,e6,e7⟩⟩:=HO.out
    .omega
    .cases e1;refine cellOf e3 ?_;have h1:(cur.toList.take 1)[0]?=O v1:=zg;grind
   have XZ:=a3J kR;have Ec:=BC.2;clear kR h1
   go_wp2_with fail
   refine(qK HP.out [44] zg zd).mono ?_;rintro e w2 ⟨rfl,rfl⟩;clear hc
   go_wp2_with fail
   go_ret
   exact⟨_,J,XZ.out,HP.out,HF.out⟩
  .have BL:((acc.length:Int) == 1)=false:=zg;have qM:¬ (acc.length:Int)=1:=zo
   go_wp2_with fail
   refine(qK HP.out [44] zg zd).mono ?_;rintro e w2 ⟨rfl,rfl⟩;clear hc
   go_wp2_with fail
   go_ret
   refine⟨_,J,?_,HP.out.ext (by grind [dT]),HF.out.alloc _⟩;have key:=(show dL (Nu w0 (w.alloc (ah #[.int .u8 44,aW [],bW,cS g' acc.length pX] 149))) (w.alloc (ah #[.int .u8 44,aW [],bW,cS g' acc.length pX] 149)) (pp w.heap.size) (.mk 44 [] [] acc) from Eh (by grind [size_alloc]) (blk_alloc_new _ _) Jb (KE.mono (by grind [size_alloc]) (by grind [dT]) ⟨xs,HSL.out,HXN.out⟩));rcases acc with _ | ⟨x1,_ | ⟨x2,l⟩⟩
   .grind
   .grind
   .exact key
def am1:Qy 0:=⟨fun _ _ _ h=>by simp [ow] at h⟩
theorem aFe(d:∀ m,m<f->Qx m):Qy f:=by
 cases f with
 | zero=>exact am1
 | succ f=>exact⟨fun a b c h=>aFc zg a b c h⟩
def P.T5(T:List P.Tok)(f k:Nat)(vars:List Bs)(d:Nat):Option (cr Bd):=
 cr.bind (ow T f k vars d) fun a c v1=>
  if ee T c [45,62] then cr.bind (ow T f (c+1) v1 d) fun b e v2=>O (.ok (.mk 63 [] [] [a,b]) e v2) else O (.ok a c v1)
def aFf(F:Nat->Prop)(w:Z)(v:Y)(x:Bd):Prop:=
 (P.whole x/\dL F w v x) \/
 ∃ (a b:Bd) (n g:Nat) (c vb:Y),x = .mk 63 [] [] [a,b]/\v=pp n/\F n/\F g/\n≠g /\
  w.heap[n]?=aO #[.int .u8 63,aW [],bW,cS g 2 2] 149/\w.heap[g]?=aO #[c,vb] 84 /\
  dL (fun m=>F m/\m≠n/\m≠g) w c a/\dL (fun m=>F m/\m≠n/\m≠g) w vb b
def aFg(eT:Qy f){r:cr Bd}(pH:SP w0 pb tb T k vars d)(nX:nk w0 tb)(hd:d<=8)
  (h:P.T5 T f k vars d=O r):Calls bdF 85 #[pp pb] w0 (j6 aFf pb tb T d w0 r):=by
 unfold P.T5 at h;have T4:=a3J pH;have Jc:=a3J nX;have HR:=a3J h;have xY:=pH.d2.2.2;have xi:=pH.lt;clear pH h nX
 go_enter func85,ntmps85
 go_wp2_with fail
 cases hq:ow T f k vars d with
 | none=>have e:=HR.out;rw[hq] at e;simp [cr.bind] at e
 | some q=>
 have e:=HR.out;rw[hq] at e;refine(eT.go T4.out Jc.out hd hq).mono ?_;cases q with
 | err c0 a0=>
  rintro e2 w4 ⟨⟨b,rfl,eO,gF⟩,dV,gO⟩;simp only[cr.bind,a3I] at e;subst e;exact⟨J,⟨b,J,eO,gF⟩,dV,gO⟩
 | ok x k1 v1=>
 rintro e2 w1 ⟨v,rfl,hv,dC,gn⟩;simp only[cr.bind] at e;obtain⟨bx,rfl,jM⟩:=hv.shape;have Jd:=(adI T f).row _ _ _ _ _ _ hq;have oZ:=gn.size;have XZ:=a3J hv;have kH:=a3J dC;have iz:=a3J gn;have AH:=a3J jM;have HWH:=a3J Jd;have HE:=a3J e;clear hv dC gn jM Jd e hq HR;by_cases hc:ee T k1 [45,62]=G
 .go_wp2_with fail
  refine(vA kH.out [45,62] hc).mono ?_;rintro e w2 ⟨rfl,fi,eY⟩;have iU:=a3J fi;have fR:=a3J eY;have pY:=eY.size;clear fi eY
  go_wp2_with fail
  have e:=HE.out;rw[zip hc] at e;cases hq:ow T f (k1+1) v1 d with
  | none=>rw[hq] at e;simp [cr.bind] at e
  | some q=>
  rw[hq] at e;refine(eT.go iU.out (Jc.out.fr (iz.out.trans fR.out) xi) hd hq).mono ?_;cases q with
  | err c0 a0=>
   rintro e2 w4 ⟨⟨b,rfl,eO,gF⟩,dV,gO⟩;simp only[cr.bind,a3I] at e;subst e;exact⟨J,⟨b,J,eO,zo⟩,(iz.out.trans fR.out).trans dV,gO⟩
  | ok y k2 v2=>
  rintro e2 w3 ⟨v,rfl,hv,gL,dV⟩;simp only[cr.bind,a3I] at e;subst e;obtain⟨Hj,rfl,ox⟩:=hv.shape;have BA:=dV.size;have X0:=a3J hv;have uK:=a3J gL;have oE:=a3J dV;have tj:=gL.d2.2.2;have aXl:=kH.out.d2.2.2;clear hv gL dV ox hq HE hc
  go_wp2_with fail
  go_ret
  have gY:∀ o o',((w3.alloc o).alloc o').heap.size=w3.heap.size+2:=(by grind [size_alloc]);refine⟨_,J,.inr ⟨x,y,w3.heap.size+1,w3.heap.size,_,_,J,J,zg,zg,zo,Fx (by rw[size_alloc]),dT (blk_alloc_new _ _),?_,?_⟩,
   (by grind [dT,SP.ext,Hid.out]),(by grind [trans,bD.alloc,bD.trans,Hid.out])⟩
  .exact dL.mono zg
    (by grind [dT,db.lL,Hid.out]) _ _ XZ.out
  .exact dL.mono zg
    (by grind [dT]) _ _ X0.out
 .go_wp2_with fail
  refine(qK kH.out [45,62] zg zd).mono ?_;rintro e w2 ⟨rfl,rfl⟩
  go_wp2_with fail
  go_ret
  have e:=HE.out;rw[bU hc,a3I] at e;subst e;exact⟨_,J,.inl ⟨HWH.out,XZ.out⟩,kH.out,iz.out⟩
