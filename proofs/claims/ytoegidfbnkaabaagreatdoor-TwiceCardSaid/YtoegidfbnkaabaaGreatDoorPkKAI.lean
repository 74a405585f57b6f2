/- A part of one proof (SSmall, PureL, SX1, PureL2, SX2, PureB, SCon2, SRow, SCond). -/
import Derived.Test.YtoegidfbnkaabaaGreatDoorPkKAH
import Derived.Shelf.Strings.SlTrimAscii
set_option linter.all false
set_option maxRecDepth 100000
set_option maxHeartbeats 8000000
open Option renaming some → O, none → V
open Go renaming Value → Y, World → Z
open Bool renaming true → A, false → ae
open Go.Obj renaming cells → ah
open Go.Ending renaming returned → ai
open Go.Value renaming iface → ak, pointer → au
open Option.some renaming injEq → a0z
open Go.Lib renaming hid → a0A, trimS → a6c
open Nat renaming le_refl → a0D, not_lt_zero → a1K
open List renaming getElem?_eq_getElem → a0F, drop_eq_getElem_cons → a0I, mem_cons → a0N, not_mem_nil → a0V, mem_of_find?_eq_some → a1v, all_cons → a1W
open Go.Value renaming slice → a0M
open UInt8 renaming toNat_inj → a1t
open Sum.inr renaming injEq → a4H
open Go.Proofs.Tryz renaming prog → bar
open Go.Proofs.Tryz
namespace Go.Proofs.YtoegidfbnkaabaaGreatDoor
open P
open Go.RowKit
variable{B b base d f i k m n pb tb:Nat}{F:Nat->Prop}{T:List P.Tok}{X:Y->Z->Prop}{av tv u v vv:Y}{gI:List Bd}{vars:List Bs}{w w' w0 w1 w2:Z}
def ak9(c:UInt8):Calls bar 111 #[.int .u8 c.toNat] w fun e w'=>e = ai (.int .u8 (P.cls c))/\w'=w:=by
 have hc:c.toNat<256:=c.toNat_lt;unfold P.cls;obtain⟨n,hn⟩:=ck c.toNat;rw[<- hn] at hc ⊢;clear hn;by_cases a1:97<=n
 .by_cases a2:n<=122
  .have b1:(97:Int)<=n:=zo;have b2:(n:Int)<=122:=zo;rw[zip ⟨a1,a2⟩]
   go_enter func111,ntmps111
   go_wp2_with fail
   go_ret
   exact⟨J,J⟩
  .have b1:(97:Int)<=n:=zo;have b2:¬ (n:Int)<=122:=zo;have b3:(65:Int)<=n:=zo;have b4:¬ (n:Int)<=90:=zo;have b5:((n:Int) == 95)=false:=zg;have b6:(48:Int)<=n:=zo;have b7:¬ (n:Int)<=57:=zo;have b8:¬ (n:Int)=95:=zo;rw[bO zo,bO zo,bO zo]
   go_enter func111,ntmps111
   go_wp2_with fail
   go_ret
   exact⟨J,J⟩
 .have b1:¬ (97:Int)<=n:=zo;rw[bO zo];by_cases a3:n=95
  .subst a3
   go_enter func111,ntmps111
   go_wp2_with fail
   go_ret
   exact⟨J,J⟩
  have b5:((n:Int) == 95)=false:=zg;have b8:¬ (n:Int)=95:=zo;by_cases a4:65<=n
  .have b3:(65:Int)<=n:=zo;by_cases a5:n<=90
   .have b4:(n:Int)<=90:=zo;rw[zip zo]
    go_enter func111,ntmps111
    go_wp2_with fail
    go_ret
    exact⟨J,J⟩
   .have b4:¬ (n:Int)<=90:=zo;have b6:(48:Int)<=n:=zo;have b7:¬ (n:Int)<=57:=zo;rw[bO zo,bO zo]
    go_enter func111,ntmps111
    go_wp2_with fail
    go_ret
    exact⟨J,J⟩
  .have b3:¬ (65:Int)<=n:=zo;rw[bO zo];by_cases a6:48<=n
   .have b6:(48:Int)<=n:=zo;by_cases a7:n<=57
    .have b7:(n:Int)<=57:=zo;rw[zip zo]
     go_enter func111,ntmps111
     go_wp2_with fail
     go_ret
     exact⟨J,J⟩
    .have b7:¬ (n:Int)<=57:=zo;rw[bO zo]
     go_enter func111,ntmps111
     go_wp2_with fail
     go_ret
     exact⟨J,J⟩
   .have b6:¬ (48:Int)<=n:=zo;rw[bO zo]
    go_enter func111,ntmps111
    go_wp2_with fail
    go_ret
    exact⟨J,J⟩
def MK(s:Bs):Calls bar 52 #[aW s] w fun e w'=>e = ai (zi (jx s))/\w'=w:=by
 by_cases c0:s=[116,114,117,101]
 .subst c0
  go_enter func52,ntmps52
  go_wp2_with fail
  go_ret
  exact⟨J,J⟩
 by_cases c1:s=[102,97,105,108]
 .subst c1
  go_enter func52,ntmps52
  go_wp2_with fail
  go_ret
  exact⟨J,J⟩
 by_cases c2:s=[118,97,114]
 .subst c2
  go_enter func52,ntmps52
  go_wp2_with fail
  go_ret
  exact⟨J,J⟩
 by_cases c3:s=[110,111,110,118,97,114]
 .subst c3
  go_enter func52,ntmps52
  go_wp2_with fail
  go_ret
  exact⟨J,J⟩
 by_cases c4:s=[97,116,111,109]
 .subst c4
  go_enter func52,ntmps52
  go_wp2_with fail
  go_ret
  exact⟨J,J⟩
 by_cases c5:s=[105,110,116,101,103,101,114]
 .subst c5
  go_enter func52,ntmps52
  go_wp2_with fail
  go_ret
  exact⟨J,J⟩
 by_cases c6:s=[61]
 .subst c6
  go_enter func52,ntmps52
  go_wp2_with fail
  go_ret
  exact⟨J,J⟩
 by_cases c7:s=[92,61]
 .subst c7
  go_enter func52,ntmps52
  go_wp2_with fail
  go_ret
  exact⟨J,J⟩
 by_cases c8:s=[61,61]
 .subst c8
  go_enter func52,ntmps52
  go_wp2_with fail
  go_ret
  exact⟨J,J⟩
 by_cases c9:s=[105,115]
 .subst c9
  go_enter func52,ntmps52
  go_wp2_with fail
  go_ret
  exact⟨J,J⟩
 by_cases c10:s=[60]
 .subst c10
  go_enter func52,ntmps52
  go_wp2_with fail
  go_ret
  exact⟨J,J⟩
 by_cases c11:s=[62]
 .subst c11
  go_enter func52,ntmps52
  go_wp2_with fail
  go_ret
  exact⟨J,J⟩
 by_cases c12:s=[61,60]
 .subst c12
  go_enter func52,ntmps52
  go_wp2_with fail
  go_ret
  exact⟨J,J⟩
 by_cases c13:s=[62,61]
 .subst c13
  go_enter func52,ntmps52
  go_wp2_with fail
  go_ret
  exact⟨J,J⟩
 by_cases c14:s=[61,58,61]
 .subst c14
  go_enter func52,ntmps52
  go_wp2_with fail
  go_ret
  exact⟨J,J⟩
 have e:jx s=-1:=by
  unfold jx;grind
 rw[e];have d0:(s == ([116,114,117,101]:Bs))=false:=zg;have d1:(s == ([102,97,105,108]:Bs))=false:=zg;have d2:(s == ([118,97,114]:Bs))=false:=zg;have d3:(s == ([110,111,110,118,97,114]:Bs))=false:=zg;have d4:(s == ([97,116,111,109]:Bs))=false:=zg;have d5:(s == ([105,110,116,101,103,101,114]:Bs))=false:=zg;have d6:(s == ([61]:Bs))=false:=zg;have d7:(s == ([92,61]:Bs))=false:=zg;have d8:(s == ([61,61]:Bs))=false:=zg;have d9:(s == ([105,115]:Bs))=false:=zg;have d10:(s == ([60]:Bs))=false:=zg;have d11:(s == ([62]:Bs))=false:=zg;have d12:(s == ([61,60]:Bs))=false:=zg;have d13:(s == ([62,61]:Bs))=false:=zg;have d14:(s == ([61,58,61]:Bs))=false:=zg
 go_enter func52,ntmps52
 go_wp2_with fail
 go_ret
 exact⟨J,J⟩
namespace P
def Su:∀ (f:Nat) (r:Bs) (i:Nat),r.length<f->∃ q,oD f r i=O q
 | 0,r,i,h=>absurd h (a1K _)
 | f+1,[],i,_=>⟨_,by rw[oD]⟩
 | f+1,c::r,i,h=>by
  have b:r.length<f:=zg;rw[oD];split
  .exact Su f r (i+1) b
  split
  .dsimp only;split
   .grind
   .rename_i g hw;have a:((c::r).drop ((c::r).takeWhile (fun x=>cls x≠0)).length).length<f:=by
     have:0<((c::r).takeWhile (fun x=>cls x≠0)).length:=by
      simp_all
     grind
    obtain⟨q,d⟩:=Su f ((c::r).drop ((c::r).takeWhile (fun x=>cls x≠0)).length) (i+((c::r).takeWhile (fun x=>cls x≠0)).length) a;grind
  split
  .obtain⟨q,d⟩:=Su f r (i+1) b;grind
  split
  .grind
  .rename_i s e;have hm:=a1v e;have a:((c::r).drop s.length).length<f:=by
    have:0<s.length:=by
     revert hm
     generalize s=t;intro hm;simp only[oC,a0N,a0V,or_false] at hm;grind
    grind
   obtain⟨q,d⟩:=Su f ((c::r).drop s.length) (i+s.length) a;grind
def abV(u:Tok):Prop:=u.kind<=4/\(u.kind=3->u.text≠[]/\u.text.all digit=A/\u.text.length<=9)/\(u.kind=1->∃ c r,u.text=c::r/\cls c=115)/\(u.kind=2->u.text≠[])/\(u.kind=4->u.text=[46]\/u.text∈oC)
def aDd{w:Bs}(hw:se w≠0):abV ⟨se w,w,i⟩/\se w≠4:=by
 cases w with
 | nil=>exact absurd J hw
 | cons c r=>
  unfold se at hw ⊢;dsimp only at hw ⊢;by_cases b:cls c=115
  .rw[zip b] at hw ⊢;split at hw
   .rename_i a;rw[zip a];exact⟨⟨zs,zs,fun _=>⟨c,r,J,b⟩,zs,zs⟩,zo⟩
   omega
  .rw[bO b] at hw ⊢;by_cases d:cls c=99
   .rw[zip d] at hw ⊢;split at hw
    .rename_i a;rw[zip a];exact⟨⟨zs,zs,zs,zs,zs⟩,zo⟩
    omega
   .rw[bO d] at hw ⊢;split at hw
    .rename_i a;rw[zip a];exact⟨⟨zs,fun _=>⟨zs,a.2.1,a.1⟩,zs,zs,zs⟩,zo⟩
    omega
structure Gr(n:Nat)(T:List Tok):Prop where
 len:T.length<=n+1
 last:∃ l t,T=l++[t]/\t.kind=0/\∀ u∈l,u.kind≠0
 tok:∀ u∈T,abV u
def Gr.cons{T:List Tok}(h:Gr n T){u:Tok}(hu:abV u)(b:u.kind≠0)(hm:n<m):Gr m (u::T):=by
 obtain⟨c,⟨l,t,rfl,a,d⟩,e⟩:=h;refine⟨zg,⟨u::l,t,J,a,fun v hv=>?_⟩,fun v hv=>?_⟩<;>grind
theorem Gr.mono{T:List Tok}(h:Gr n T)(hm:n<=m):Gr m T:=⟨by have:=h.len;omega,h.last,h.tok⟩
def Sv:∀ (f:Nat) (r:Bs) (i:Nat) (T:List Tok),oD f r i=O (.inr T)->Gr r.length T
 | 0,r,i,T,h=>by simp_all [oD]
 | f+1,[],i,T,h=>by
  rw[oD] at h;simp only[a0z,a4H] at h;subst h;exact⟨zs,⟨[],_,J,J,zs⟩,fun u hu=>by
   simp only[a0N,a0V,or_false] at hu;subst hu;exact⟨zs,zs,zs,zs,zs⟩⟩
 | f+1,c::r,i,T,h=>by
  rw[oD] at h;split at h
  .exact(Sv f r (i+1) T h).mono zs
  split at h
  .dsimp only at h;split at h
   .grind
   .rename_i e hw;have b:0<((c::r).takeWhile (fun x=>cls x≠0)).length:=by
     simp_all
    cases a:oD f ((c::r).drop ((c::r).takeWhile (fun x=>cls x≠0)).length) (i+((c::r).takeWhile (fun x=>cls x≠0)).length) with
    | none=>grind
    | some q=>
     rw[a] at h;cases q with
     | inl j=>grind
     | inr l=>
      simp only[a0z,a4H] at h;rw[<- h];refine(Sv f _ _ l a).cons (aDd hw).1 hw ?_;grind
  split at h
  .cases a:oD f r (i+1) with
   | none=>grind
   | some q=>
    rw[a] at h;cases q with
    | inl j=>grind
    | inr l=>
     simp only[a0z,a4H] at h;rw[<- h];exact(Sv f _ _ l a).cons ⟨zs,zs,zs,zs,fun _=>.inl J⟩ zs zs
  split at h
  .grind
  .rename_i s d;have hm:=a1v d;have g:0<s.length:=by
    revert hm
    generalize s=t;intro hm;simp only[oC,a0N,a0V,or_false] at hm;grind
   cases a:oD f ((c::r).drop s.length) (i+s.length) with
   | none=>grind
   | some q=>
    rw[a] at h;cases q with
    | inl j=>grind
    | inr l=>
     simp only[a0z,a4H] at h;rw[<- h];refine(Sv f _ _ l a).cons ⟨zs,zs,zs,zs,fun _=>.inr hm⟩ zs ?_;grind
def lex(s:Bs):Sum Nat (List Tok):=(oD (s.length+1) s 0).getD (.inl 0)
def Sw(s:Bs):oD (s.length+1) s 0=O (lex s):=by
 obtain⟨q,a⟩:=Su (s.length+1) s 0 (Nat.lt_succ_self _);simp_all [lex]
end P
open Sx
def ala(c a:Int)(w:Z):Calls bar 47 #[zi c,zi a] w fun e w'=>
  e = .panicked [{ v:=ak 73 (pp w.heap.size),recovered:=false }]/\w'=w.alloc (ah #[zi c,zi a] 77):=by
 refine awN ?_;exact eS
def alb(c:UInt8)(w:Z):Calls bar 111 #[.int .u8 c.toNat] w fun e w'=>e = ai (.int .u8 (P.cls c))/\w'=w:=by
 refine(ak9 c).mono ?_;grind
def aDe(s:Bs)(w:Z)(b:s.length<=100000):Calls bar 99 #[aW s,aW [48,49,50,51,52,53,54,55,56,57]] w fun e w'=>
  e = ai (aW (a6c s [48,49,50,51,52,53,54,55,56,57]))/\Ext w w':=by
 refine(Any.strings_Trim_laid Tryz.lays160 zk (bs s) (bs [48,49,50,51,52,53,54,55,56,57]) w (by grind [ByteArray.size]) zd (ascii_of_all zd)).mono ?_;rintro e w' ⟨rfl,a⟩;exact⟨J,⟨a.os,a.tape,a.output,a.size,(by grind [bn,Below.block])⟩⟩
theorem alc(c:UInt8):([48,49,50,51,52,53,54,55,56,57]:Bs).contains c=P.digit c:=by
 have h:∀ n:Fin 256,([48,49,50,51,52,53,54,55,56,57]:Bs).contains (UInt8.ofNat n.val)=P.digit (UInt8.ofNat n.val):=zd;have:=h ⟨c.toNat,c.toNat_lt⟩;simpa using this
theorem ald(s:Bs):a6c s [48,49,50,51,52,53,54,55,56,57]=[]↔s.all P.digit=true:=by
 have a:∀ l:Bs,l.dropWhile (([48,49,50,51,52,53,54,55,56,57]:Bs).contains ·)=[]↔l.all P.digit=true:=fun l=>by
  simp only[alc];induction l with
  | nil=>simp
  | cons c l ih=>
   rw[List.dropWhile_cons,a1W,Bool.and_eq_true];grind
 unfold a6c Lib.trimLeftS Lib.trimRightS;rw[a];constructor
 .intro h;have b:(s.reverse.dropWhile (([48,49,50,51,52,53,54,55,56,57]:Bs).contains ·))=[]:=by
   cases hx:s.reverse.dropWhile (([48,49,50,51,52,53,54,55,56,57]:Bs).contains ·) with
   | nil=>rfl
   | cons c l=>
    rw[hx,List.all_reverse,a1W,Bool.and_eq_true] at h;have:=List.head?_dropWhile_not (([48,49,50,51,52,53,54,55,56,57]:Bs).contains ·) s.reverse;grind [List.head?_cons,alc]
  grind
 grind
def aDf(c:UInt8)(r:Bs)(n:(c::r).length<=100000)(at_:Nat)(w:Z)(y:P.cls c≠0) :
  Calls bar 112 #[aW (c::r),zi at_,.int .u8 (P.cls c)] w fun e w'=>Ext w w' /\
   ((se (c::r)≠0/\e = ai (.agg #[zi (se (c::r)),aW (c::r),zi at_]))\/(se (c::r)=0/\np 2 at_ w w' e)):=by
 have a:se (c::r)=if P.cls c=115 then(if (c::r).length<=8 then 1 else 0) else if P.cls c=99 then(if (c::r).length<=8 then 2 else 0)
  else if (c::r).length<=9/\(c::r).all P.digit=A/\(c≠48\/r=[]) then 3 else 0:=rfl
 have f:(c::r).getD 0 0=c:=rfl;have z:0<(c::r).length:=zs;have o:r=[]↔(c::r).length=1:=zg;have g:c=48↔c.toNat=48:=by rw[<- a1t];rfl
 have i:P.cls c=115\/P.cls c=99\/P.cls c=100:=by
  unfold P.cls at y ⊢;grind
 obtain⟨s,B⟩:=ck (c::r);rw[<- B] at n f z o a ⊢;have C:Ext w (w.alloc (ah #[zi 0,aW [],zi 0] 142)):=yF;have I:∀ (kd:Nat),se s=kd->kd≠0->Ext w (bT (w.alloc (ah #[zi 0,aW [],zi 0] 142)) w.heap.size (ah #[zi kd,aW s,zi at_] 142)):=yF;refine awK ?_;refine bF ?_;refine⟨fun _ w'=>Ext w w'/\se s=0,?_,?_⟩
 .rcases i with h | h | h
  .rw[h] at a ⊢;rw[zip rfl] at a;by_cases b:s.length<=8
   .rw[zip b] at a;refine bF ?_;exact yH
   .rw[bO b] at a;refine bF ?_;exact yF
  .rw[h] at a ⊢;rw[bO zd,zip rfl] at a;by_cases b:s.length<=8
   .rw[zip b] at a;refine bF ?_;exact yH
   .rw[bO b] at a;refine bF ?_;exact yF
  .rw[h] at a ⊢;rw[bO zd,bO zd] at a;refine bF ?_;refine⟨fun t w'=>Ext w w'/\w'.heap[w.heap.size]?=aP #[zi 0,aW [],zi 0] 142/\t 25 = .bool (decide (se s≠0)),?_,?_⟩
   .have j:(w.alloc (ah #[zi 0,aW [],zi 0] 142)).heap[w.heap.size]?=aP #[zi 0,aW [],zi 0] 142:=yH;by_cases p:s.length<=9
    .refine bF ?_;refine(aDe s _ n).mono ?_;rintro e w2 ⟨rfl,k⟩;have q:=C.trans k;have d:=k.ext _ _ j;by_cases l:s.all P.digit=A
     .have u:=(ald s).2 l;rw[u];by_cases D:c.toNat=48
      .have E:(c.toNat:Int)=48:=zo;refine cM f ?_;refine⟨q,d,?_⟩;rw[a];by_cases F:s.length=1
       .have G:(s.length:Int)=1:=zo;rw[zip ⟨p,l,.inr (o.2 F)⟩];grind
       .have G:¬ (s.length:Int)=1:=zo;grind
      .have E:¬ (c.toNat:Int)=48:=zo;refine cM f ?_;refine⟨q,d,?_⟩;rw[a,zip ⟨p,l,.inl (fun e=>D (g.1 e))⟩];grind
     .have u:¬ a6c s [48,49,50,51,52,53,54,55,56,57]=[]:=(by grind [ald]);refine bF ?_;exact yH
    .refine bF ?_;exact yF
   .rintro t w2 ⟨k,d,m⟩ d2;have H:=bn d;rw[m];by_cases hk:se s≠0
    .rw[F4 _ _ hk];have K:se s=3:=by
      grind
     refine cM d ?_;exact yF
    .rw[F5 _ _ hk];exact yF
 .rintro t w' ⟨x,hk⟩ L;refine(ala _ _ _).mono ?_;rintro e w2 ⟨rfl,rfl⟩;refine bF ?_;exact⟨x.alloc _,.inr ⟨hk,_,J,yH,x.size⟩⟩
def alf(p:UInt8->Bool):∀ (l:Bs),(∀ m,m<(l.takeWhile p).length->p (l.getD m 0)=A)/\((l.takeWhile p).length<l.length->p (l.getD (l.takeWhile p).length 0)=ae)/\(l.takeWhile p).length<=l.length/\l.take (l.takeWhile p).length=l.takeWhile p
 | []=>⟨fun m h=>absurd h (a1K _),fun h=>absurd h (a1K _),a0D _,J⟩
 | c::l=>by
  obtain⟨b,d,e,f⟩:=alf p l;by_cases a:p c=A
  .rw[List.takeWhile_cons,zip a];refine⟨fun m hm=>?_,fun h=>?_,zg,zg⟩
   .cases m with
    | zero=>grind
    | succ m=>simp_all
   grind
  simp_all
def alg(s:Bs)(j m:Nat):(s.drop j).getD m 0=s.getD (j+m) 0:=by
 grind
theorem abX{x:Bs}(h:x∈oC):x≠[]/\x.length<=3:=by
 simp only[oC,a0N,a0V,or_false] at h;rcases h with rfl | rfl | rfl | rfl | rfl | rfl | rfl | rfl | rfl | rfl | rfl | rfl | rfl | rfl | rfl | rfl | rfl | rfl | rfl | rfl | rfl | rfl | rfl<;>decide
def Gs(p:Bs->Bool)(k:Nat):Bs:=((oC.take k).find? p).getD []
def aDj{p:Bs->Bool}(hk:k<23)(h:Gs p k=[]):Gs p (k+1)=if p (oC.getD k [])=A then oC.getD k [] else []:=by
 have b:k<oC.length:=hk;have c:(oC.take k).find? p=none:=by
  cases a:(oC.take k).find? p with
  | none=>rfl
  | some x=>
   rw[Gs,a] at h;exact absurd h (abX (List.mem_of_mem_take (a1v a))).1
 grind [oC,Gs,List.take_add_one,a0F]
theorem abY(p:Bs->Bool):Gs p 23=(oC.find? p).getD []:=rfl
def aDk{p:Bs->Bool}(h:Gs p k≠[]):Gs p 23=Gs p k:=by
 have e:oC=oC.take k++oC.drop k:=(List.take_append_drop k _).symm;rw[abY];unfold Gs at h ⊢;cases a:(oC.take k).find? p with
 | none=>grind
 | some x=>grind
def ML(acc:List P.Tok):Sum Nat (List P.Tok)->Sum Nat (List P.Tok)
 | .inl i=>.inl i
 | .inr l=>.inr (acc++l)
def Wm(T:List P.Tok)(f:Nat)(nm:Bs)(l:List Ex)(bd:Bd)(k:Nat)(vs:List Bs):Option (cg Cl):=
 if eD T k [58,45]=A then cg.bind (lM T f (k+1) vs 0) fun b k' vars'=>mw T [46] ⟨nm,l,b,vars'⟩ k' vars'
 else mw T [46] ⟨nm,l,bd,vs⟩ k vs
def abZ(T:List P.Tok)(f:Nat)(nm:Bs)(at_:Nat)(l:List Ex)(bd:Bd)(k:Nat)(vs:List Bs):Option (cg Cl):=
 if 0<=jx nm\/nm=[109,111,100] then O (.err 3 at_) else Wm T f nm l bd k vs
def Cb:List P.Tok->List Y
 | []=>[]
 | t::l=>.int .i64 t.kind::.string (bs t.text)::.int .i64 t.pos::Cb l
theorem alh:∀ (l:List P.Tok) (t:P.Tok),Cb (l++[t])=Cb l++[zi t.kind,aW t.text,zi t.pos]
 | [],t=>rfl
 | u::l,t=>by
  show _::_::_::Cb (l++[t])=_;rw[alh l t];rfl
theorem ali:∀ (l:List P.Tok) (j:Nat),j<l.length->(Cb l)[j*3]?=O (zi (tk l j).kind)/\(Cb l)[j*3+1]?=O (aW ((tk l j).text))/\(Cb l)[j*3+2]?=O (zi (tk l j).pos)
 | [],j,h=>zg
 | u::l,0,_=>⟨J,J,J⟩
 | u::l,j+1,h=>by
  have:=ali l j zg;have e:(j+1)*3=j*3+3:=zo;rw[e];exact this
def aDl:(Tryz.prog.info? 142).map (fun i=>(i.zero,i.size,i.bytes))=O (O (.agg #[zi 0,aW [],zi 0]),3,32):=zk
def Wn{acc:List P.Tok}(c:w.ownsRow base 142 3 v acc.length (Cb acc)){kd:Nat}{tx:Bs}{ps:Nat}
  (d:w.heap[b]?=aP #[vv,tv,av] 142) (hk:vv=zi kd) (ht:tv = aW tx) (f:av=zi ps)
  (p:acc.length<=100000) (g:base<=w.heap.size) {K:Y->Z->Prop}
  (h:∀ v' w',w'.ownsRow base 142 3 v' (acc++([⟨kd,tx,ps⟩]:List P.Tok)).length (Cb (acc++([⟨kd,tx,ps⟩]:List P.Tok)))->w.grownBy w' v.ownBlock->(v'.ownBlock=v.ownBlock\/∀ k,v'.ownBlock=O k->w.heap.size<=k)->K v' w') :
  WR bar (Builtin.append_ #[143,143] 143 #[v,cU b 1 m]) w K X:=by
 subst hk ht f;obtain⟨i,j,a⟩:=Option.map_eq_some_iff.1 aDl;simp only[Prod.mk.injEq] at a;obtain⟨l,n,o⟩:=a;refine ajX (m:=1) (t:=143) (e:=142) zk j l n o J zo c d J (fun u hu=>?_) zo zo g ?_
 .simp only[a0N,a0V,or_false] at hu;rcases hu with rfl | rfl | rfl<;>rfl
 grind [alh,List.length_append]
def MM(w:Z):Prop:=∃ cs T z,w.heap[1]?=O (ah cs T z)/\23<=cs.size/\cs.toList.take 23=oC.map fun s=>aW s
theorem MM.ext{w w':Z}(h:MM w)(a:Ext w w'):MM w':=by
 obtain⟨cs,T,z,b,c⟩:=h;exact⟨cs,T,z,a.ext _ _ b,c⟩
def aDm(w:Z)(s:Bs)(e:Ending)(w':Z):Prop:=
 Ext w w'/\if 2000<s.length then np 1 0 w w' e else match P.lex s with
 | .inl i=>np 2 i w w' e
 | .inr T=>∃ v,e = ai v/\w'.ownsRow w.heap.size 142 3 v T.length (Cb T)
def MN{c a:Int}{e:Ending}(h:np c a w1 w2 e)(hw:w.heap.size<=w1.heap.size):np c a w w2 e:=by
 obtain⟨b,d,f,g⟩:=h;exact⟨b,d,f,zo⟩
def alj(c a:Int)(w:Z):Calls bar 47 #[zi c,zi a] w fun e w'=>np c a w w' e/\Ext w w':=by
 refine(ala c a w).mono ?_;rintro e w' ⟨rfl,rfl⟩;exact⟨⟨_,J,yH,a0D _⟩,yF⟩
def alk(s:Bs)(w:Z)(hl:s.length<=100000)(hT:MM w):Calls bar 84 #[aW s] w (aDm w s):=by
 refine awJ ?_;refine⟨fun _ w'=>w'=w/\s.length<=2000,?_,?_⟩
 .by_cases h2:2000<s.length
  .refine JO ?_;refine(alj _ _ _).mono ?_;rintro e w1 ⟨hf,y⟩;obtain⟨b,rfl,h1,L⟩:=hf;refine JO ?_;refine⟨y,?_⟩;rw[zip h2];exact⟨b,J,h1,L⟩
  .refine JO ?_;omega
 .rintro _ w1 ⟨rfl,qu⟩ _;refine⟨fun n t w2=>Ext w1 w2/\∃ j acc f q,n=s.length-j/\j<=s.length/\acc.length<=j/\t 3=zi j/\w2.ownsRow w1.heap.size 142 3 (t 2) acc.length (Cb acc) /\
   oD f (s.drop j) j=O q/\ML acc q=P.lex s,⟨s.length,yF,0,[],_,_,J,Nat.zero_le _,a0D _,J,World.ownsRow_nil _ _ _ _,Sw s,?_⟩,?_⟩
  .cases P.lex s<;>rfl
  intro n t dd w2 M;refine toPr ?_;obtain⟨y,j,acc,f,q,rfl,hj,haj,L,dU,a,N⟩:=M;have dY:=y.size;by_cases hlt:j<s.length
  .obtain⟨c,r,J7⟩:∃ c r,s.drop j=c::r:=⟨s[j],s.drop (j+1),a0I hlt⟩;have K:s.getD j 0=c:=by
    grind [a0I,a0F]
   have hr:s.drop (j+1)=r:=by
    grind [a0I]
   have aUN:=c.toNat_lt;cases f with
   | zero=>rw[oD] at a;cases a
   | succ f=>
   rw[J7,oD] at a;have o9:(P.blank c=A)↔((c.toNat:Int)=32\/(c.toNat:Int)=10):=by
    have e1:c=32↔c.toNat=32:=by rw[<- a1t];rfl
    have e2:c=10↔c.toNat=10:=by rw[<- a1t];rfl
    simp only[P.blank,Bool.or_eq_true,beq_iff_eq,e1,e2];omega
   simp (disch:=first|assumption|omega|simp only[zS]<;>omega|decide) only[Pr,PX,PC,NX,ends,EI,oV,jk,Nat.reduceAdd,Nat.reduceMul,Nat.reduceLeDiff,Nat.reduceEqDiff,Int.reduceToNat,Int.reduceAdd,Int.reduceLT,Int.reduceLE,↓reduceIte,forall_const,eq_self,aaA,jF,aaa,aab,OP,OQ,F4,F5,aad,aae,aaf,aag,aah,aai,aaj,aak,aal,aao,aap,aam,aan,aau,aav,aaw,aax,VV,aar,aaB,aaC,aa9,aaD,aaE,aaF,aaG,Mi,tz,qo,jh,RM,BU,uY,size_alloc,RR,aaM,aaH,aaI,aaJ,aaK,aaL,aaN,aaO,aaP,aaQ,aaR,aaS,aaT,aaU,aaV,aaW,aaX,aaY,aaZ,aa0,aa1,aa2,aa3,aa4,VW,u8w,VQ,Z7,Z8,Int.toNat_natCast,Option.isNone_none,Option.isNone_some,List.getElem?_toArray,List.getElem?_cons_zero,List.getElem?_cons_succ,List.setIfInBounds_toArray,List.set_cons_zero,List.set_cons_succ,List.size_toArray,List.length_cons,List.length_nil,List.drop_zero,List.drop_succ_cons,List.take_succ_cons,List.take_zero,List.take_nil,List.drop_nil,a1W,List.all_nil,Bool.and_true,Bool.true_and,Nat.zero_add,Nat.add_zero,Nat.mul_one,and_self,and_true,true_and,decide_true,decide_false,Bool.not_true,Bool.not_false,not_true_eq_false,not_false_eq_true,ajq,ajt,ajv,ajI,ajN,ajP,ajQ,ajW,L,K];refine⟨fun t2 w3=>w3=w2/\t2 3=zi j/\P.blank c=ae,?_,?_⟩
   .refine⟨fun t2 w3=>w3=w2/\t2 25 = .bool (P.blank c),?_,?_⟩
    .refine yE (zA @aac K) ?_;grind
    .rintro t2 w3 ⟨rfl,z⟩ d2;rw[z];cases hb:P.blank c with
     | true=>
      rw[OP,L];refine JO ?_;refine⟨s.length-(j+1),zo,y,j+1,acc,f,q,J,zo,zo,?_,?_,?_,N⟩<;>grind
     | false=>
      rw[OQ];grind
   .rintro t2 w3 ⟨rfl,z,oZ⟩ d2;rw[bO (by simp [oZ])] at a;rw[K];refine(alb c _).mono ?_;rintro e w4 ⟨rfl,rfl⟩;by_cases pI:P.cls c≠0
    .rw[zip pI] at a;have aDn:¬ ((P.cls c:Nat):Int)=0:=zo;refine JO ?_;obtain⟨W,Q⟩:=ck (((c::r).takeWhile (fun x=>P.cls x≠0)).length);have Sy:=alf (fun x=>P.cls x≠0) (c::r);rw[<- Q] at Sy;dsimp only at a;rw[<- Q] at a;obtain⟨Gt,Cd,EX,wT⟩:=Sy;have hlen:(c::r).length=s.length-j:=zg;rw[hlen] at Cd EX;rw[<- J7] at Gt Cd;simp only[alg,decide_eq_true_eq,decide_eq_false_iff_not,ne_eq,Decidable.not_not] at Gt Cd;have hWp:0<W:=by
      grind
     refine⟨fun t3 g=>g=w4/\t3 6=zi ((j+W:Nat):Int),?_,?_⟩
     .refine⟨fun n t3 g=>g=w4/\∃ m,n=W-m/\m<=W/\t3 6=zi ((j+m:Nat):Int),⟨W,J,0,J,Nat.zero_le _,?_⟩,?_⟩
      .grind
      .intro n t3 d3 g M;refine toPr ?_;obtain⟨rfl,m,rfl,hm,C⟩:=M;by_cases hjm:j+m<s.length
       .refine yE C ?_;refine(alb _ _).mono ?_;rintro e D ⟨rfl,rfl⟩;by_cases R:m<W
        .have Dg:¬ ((P.cls (s.getD (j+m) 0):Nat):Int)=0:=zg;refine yE C ?_;exact⟨W-(m+1),zo,m+1,J,zo,zg⟩
        .have aDo:m=W:=zo;subst aDo;have Dg:((P.cls (s.getD (j+m) 0):Nat):Int)=0:=zo;exact abi C
       .have R:m=W:=by
         omega
        subst R;exact abi C
     .rintro t3 g ⟨rfl,C⟩ d3;refine yE (zA C z) ?_;have hdt:List.drop j (List.take (j+W) s)=c::r.takeWhile (fun x=>P.cls x≠0):=by
       rw[List.drop_take,J7,show j+W-j=W by omega,wT,List.takeWhile_cons,zip (by simpa using pI)]
      have Gu:(c::r).takeWhile (fun x=>P.cls x≠0)=c::r.takeWhile (fun x=>P.cls x≠0):=zg;rw[hdt];rw[Gu] at a Q;obtain⟨wd,MO⟩:=ck (c::r.takeWhile (fun x=>P.cls x≠0));refine(aDf c _ zo j g pI).mono ?_;rw[<- MO] at a Q ⊢;rintro e D ⟨gn,(⟨Bb,rfl⟩| ⟨Bb,iV⟩)⟩
      .have s4:=gn.size;rw[bO Bb] at a;refine yE (zA z C) ?_;have o:Ext D (D.alloc (ah #[zi (se wd),aW wd,zi j] 142)):=yF;have u:=jQ (gn.trans o).ext dU;refine Wn (acc:=acc) (base:=w1.heap.size) (kd:=se wd) (tx:=wd) (ps:=j) u yH J J J zo (yH) ?_;intro v' E Sz F A5;have S:Ext w1 E:=((y.trans gn).trans o).grow F (fun k hk=>(u.lt k hk).1);cases G:oD f (List.drop wd.length (c::r)) (j+wd.length) with
       | none=>exact yH
       | some q2=>
       rw[Q,G] at a;refine⟨s.length-(j+W),zo,S,j+W,acc++[⟨se wd,wd,j⟩],f,q2,J,zo,zg,zg,yH,?_,?_⟩
       .grind [List.drop_drop]
       .rw[<- N];cases q2 with
        | inl i=>simp only[a0z] at a;rw[<- a];rfl
        | inr l=>grind [a0z,ML]
      .rw[zip Bb] at a;cases a;simp only[ML] at N;have O9:=MN iV dY;obtain⟨b,rfl,g1,g2⟩:=iV;refine JO ?_;refine⟨yF,?_⟩;exact yH
    .rw[bO pI] at a;have aDn:((P.cls c:Nat):Int)=0:=zo;refine JO ?_;have H:(c=46/\Hv r=A)↔((c.toNat:Int)=46/\(j+1=s.length\/(j+1<s.length/\((s.getD (j+1) 0).toNat=32\/(s.getD (j+1) 0).toNat=10)))):=by
      have e1:c=46↔c.toNat=46:=by rw[<- a1t];rfl
      have hrl:r.length=s.length-(j+1):=zg;rw[e1];cases r with
      | nil=>
       grind [Hv]
      | cons d r'=>
       have hd:s.getD (j+1) 0=d:=by rw[show j+1=j+1+0 from J,<- alg,hr];rfl
       rw[hd];have e2:d=32↔d.toNat=32:=by rw[<- a1t];rfl
       have e3:d=10↔d.toNat=10:=by rw[<- a1t];rfl
       simp only[Hv,P.blank,Bool.or_eq_true,beq_iff_eq,e2,e3];grind
     refine⟨fun t4 g=>g=w4/\t4 2=t 2/\t4 3=zi j/\¬ (c=46/\Hv r=A),?_,?_⟩
     .refine⟨fun t4 g=>g=w4/\t4 79 = .bool (decide (c=46/\Hv r=A)),?_,?_⟩
      .by_cases DI:(c.toNat:Int)=46
       .by_cases hje:j+1=s.length
        .have aDr:((j:Int)+1)=(s.length:Int):=zo;refine yE (zA z K) ?_;grind
        .have aDr:¬ ((j:Int)+1)=(s.length:Int):=zo;have Wl:((j:Int)+1).toNat=j+1:=zo;refine yE (zA @aac (zA z (zA K Wl))) ?_;generalize hd:(s.getD (j+1) 0).toNat=d at *;by_cases g1:d=32
         .have Wp:=H.2 ⟨DI,.inr ⟨zo,.inl g1⟩⟩;simp [jk,Wp,g1]
         .have Wq:¬ (d:Int)=32:=zo;by_cases g2:d=10
          .have Wp:=H.2 ⟨DI,.inr ⟨zo,.inr g2⟩⟩;simp [jk,Wp,g2]
          .have lT:¬ (c=46/\Hv r=A):=fun h=>by
            rcases(H.1 h).2 with h | ⟨_,h | h⟩
            .exact hje h
            .exact g1 h
            .exact g2 h
           have Wr:¬ (d:Int)=10:=zo;rw[decide_eq_false lT];simp [jk,Wq,Wr];try omega
       .have lT:¬ (c=46/\Hv r=A):=zg;rw[decide_eq_false lT];exact abi (zA z K)
      .rintro t4 g ⟨rfl,h83⟩ d4;rw[h83];by_cases T:c=46/\Hv r=A
       .rw[F4 _ _ T];rw[zip T] at a;refine yE z ?_;have o:Ext g (g.alloc (ah #[zi 4,aW [46],zi j] 142)):=yF;have u:=jQ o.ext dU;refine Wn (acc:=acc) (base:=w1.heap.size) (kd:=4) (tx:=[46]) (ps:=j) u yH J J J zo (yH) ?_;intro v' E Sz F A5;have S:Ext w1 E:=(y.trans o).grow F (fun k hk=>(u.lt k hk).1);cases G:oD f r (j+1) with
        | none=>rw[G] at a;cases a
        | some q2=>
        rw[G] at a;refine yE z ?_;refine⟨s.length-(j+1),zo,S,j+1,acc++[⟨4,[46],j⟩],f,q2,J,zo,zg,zs,yH,?_,?_⟩
        .grind
        grind [a0z,ML]
       .rw[F5 _ _ T];grind
     .rintro t4 g ⟨rfl,Bc,Sj,T⟩ d4;rw[bO T] at a;obtain⟨cs,TT,zz,vi,jR,xN⟩:=hT.ext y;have hlen:(c::r).length=s.length-j:=zg;refine yE (zA vi xN) ?_;obtain⟨B,qY⟩:∃ B:Bs->Bool,B=fun x=>x.isPrefixOf (c::r):=⟨_,J⟩;refine⟨fun n t5 D=>D=g/\∃ k,n=23-k/\k<=23/\t5 88=zi ((k:Nat):Int)/\t5 2=t 2/\t5 3=zi j/\Gs B k=[],⟨23,J,0,J,Nat.zero_le _,J,?_,?_,J⟩,?_⟩
      .grind
      .grind
      intro n t5 d5 D M;refine toPr ?_;obtain⟨rfl,k,rfl,hk,J9,I,U,kq⟩:=M;by_cases X:k<23
      .obtain⟨x,hx⟩:=ck (oC.getD k []);have Ce:x∈oC:=by
        rw[hx,List.getD_eq_getElem?_getD,a0F (show k<oC.length from X)];grind
       obtain⟨MA,JJ⟩:=abX Ce;have Ka:(List.take 23 cs.toList).toArray[k]?=O (aW x):=by
        grind
       have hkn:((k:Nat):Int).toNat=k:=zo;have aUQ:(List.take 23 cs.toList).toArray[((k:Nat):Int).toNat]?=O (aW x):=zg;have aDt:((j:Nat):Int).toNat=j:=zo;refine yE (zA J9 (zA U aDt)) ?_;rw[J7];refine(Tryz.strings_HasPrefix (bs (c::r)) (bs x) _).mono ?_;rintro e E ⟨rfl,rfl⟩;have Gw:Lib.hasPrefix (bs (c::r)).data.toList (bs x).data.toList=B x:=by rw[qY];rfl
       rw[Gw];have SC:=aDj X kq;rw[<- hx] at SC;by_cases hp:B x=A
       .rw[hp];rw[zip hp] at SC;have tn:oC.find? B=O x:=by
         have h1:=aDk (p:=B) (k:=k+1) (by rw[SC];exact MA);rw[SC,abY] at h1;grind
        rw[qY] at tn;rw[tn] at a;dsimp only at a;have hle:=(List.isPrefixOf_iff_prefix.1 (by rw[qY] at hp;exact hp)).length_le;rw[hlen] at hle;have oX:0<x.length:=List.length_pos_iff.2 MA;refine yE (zA I U) ?_;have o:Ext E (E.alloc (ah #[zi 4,aW x,zi j] 142)):=yF;have u:=jQ o.ext dU;refine Wn (acc:=acc) (base:=w1.heap.size) (kd:=4) (tx:=x) (ps:=j) u yH J J J zo (yH) ?_;intro v' w8 Sz F A5;have S:Ext w1 w8:=(y.trans o).grow F (fun k hk=>(u.lt k hk).1);cases G:oD f ((c::r).drop x.length) (j+x.length) with
        | none=>rw[G] at a;cases a
        | some q2=>
        rw[G] at a;refine yE (zA I U) ?_;refine⟨s.length-(j+x.length),zo,S,j+x.length,acc++[⟨4,x,j⟩],f,q2,J,zo,zg,zs,yH,?_,?_⟩
        .grind [List.drop_drop]
        grind [a0z,ML]
       .have HT:B x=false:=zg;rw[HT];rw[bO hp] at SC;refine yE (zA J9 (zA I U)) ?_;grind
      .have Aa:k=23:=zo;subst Aa;have xO:oC.find? (fun s=>s.isPrefixOf (c::r))=none:=by
        grind [abY,absurd,abX,a1v]
       rw[xO] at a;cases a;simp only[ML] at N;refine yE (zA J9 U) ?_;refine(alj _ _ _).mono ?_;rintro e E ⟨hf,Gx⟩;have fa:=MN hf dY;obtain⟨b,rfl,g1,g2⟩:=hf;refine JO ?_;refine⟨yF,?_⟩;exact yH
  .have Gq:j=s.length:=zo;subst Gq;have Ii:List.drop s.length s=[]:=List.drop_length;cases f with
   | zero=>rw[oD] at a;cases a
   | succ f=>
   rw[Ii,oD] at a;cases a;simp only[ML] at N;refine yE L ?_;have o:Ext w2 (w2.alloc (ah #[zi 0,aW [],zi (s.length)] 142)):=yF;have u:=jQ o.ext dU;refine Wn (acc:=acc) (base:=w1.heap.size) (kd:=0) (tx:=[]) (ps:=s.length) u yH J J J zo (yH) ?_;intro v' D Sz F A5;refine⟨(y.trans o).grow F (fun k hk=>(u.lt k hk).1),?_⟩;exact yH
namespace P
structure aDu(T:List Tok)(f:Nat):Prop where
 lit:∀ k v d x k' v',mL T f k v d=O (.ok x k' v')->k<k'
 lits:∀ k v d acc x k' v',oF T f k v d acc=O (.ok x k' v')->k<k'
 row:∀ k v d x k' v',ng T f k v d=O (.ok x k' v')->k<k'
 rest:∀ k v d x k' v',oG T f k v d=O (.ok x k' v')->k<k'
 body:∀ k v d x k' v',lM T f k v d=O (.ok x k' v')->k<k'
def SD(T:List Tok):∀ f,aDu T f
 | 0=>⟨by simp_all [mL],by simp_all [oF],by simp_all [ng],by simp_all [oG],by simp_all [lM]⟩
 | f+1=>by
  have ih:=SD T f;have hm:=mono T f;refine⟨?_,?_,?_,?_,?_⟩
  .intro k v d x k' v' h;rw[mL] at h;split at h
   .grind
   split at h
   .grind
   split at h
   .obtain⟨a,i,v1,g,e⟩:=ek h;have:=ih.lit _ _ _ _ _ _ g;grind
   split at h
   .obtain⟨a,i,v1,g,e⟩:=ek h;have:=ih.body _ _ _ _ _ _ g;grind [od]
   obtain⟨a,i,v1,g,e⟩:=ek h;have:=hm.oper _ _ _ _ _ _ _ g;split at e
   .obtain⟨b,n,v2,j,l⟩:=ek e;have:=hm.oper _ _ _ _ _ _ _ j;grind
   grind
  .intro k v d acc x k' v' h;rw[oF] at h;obtain⟨y,i,v1,g,e⟩:=ek h;have:=ih.lit _ _ _ _ _ _ g;split at e
   .have:=ih.lits _ _ _ _ _ _ _ e;omega
   grind
  .intro k v d x k' v' h;rw[ng] at h;obtain⟨y,i,v1,g,e⟩:=ek h;have:=ih.lits _ _ _ _ _ _ _ g;grind
  .intro k v d x k' v' h;rw[oG] at h;split at h
   .grind
   .exact ih.body _ _ _ _ _ _ h
  .intro k v d x k' v' h;rw[lM] at h;obtain⟨a,i,v1,g,e⟩:=ek h;have:=ih.row _ _ _ _ _ _ g;split at e
   .obtain⟨b,n,v2,j,l⟩:=ek e;have:=ih.row _ _ _ _ _ _ j;split at l
    .obtain⟨c,o,v3,m,p⟩:=ek l;have:=ih.rest _ _ _ _ _ _ m;grind
    grind
   .split at e
    .obtain⟨c,o,v3,m,p⟩:=ek e;have:=ih.rest _ _ _ _ _ _ m;grind
    grind
def whole:Bd->Prop
 | .mk kind _ _ parts=>kind=63->parts.length=3
structure aDv(T:List Tok)(f:Nat):Prop where
 lit:∀ k v d x k' v',mL T f k v d=O (.ok x k' v')->whole x
 lits:∀ k v d acc x k' v',(∀ b∈acc,whole b)->oF T f k v d acc=O (.ok x k' v')->(∀ b∈x,whole b)/\acc.length<x.length
 row:∀ k v d x k' v',ng T f k v d=O (.ok x k' v')->whole x
 rest:∀ k v d x k' v',oG T f k v d=O (.ok x k' v')->whole x
 body:∀ k v d x k' v',lM T f k v d=O (.ok x k' v')->whole x
def ab5(T:List Tok):∀ f,aDv T f
 | 0=>⟨by simp_all [mL],by simp_all [oF],by simp_all [ng],by simp_all [oG],by simp_all [lM]⟩
 | f+1=>by
  have ih:=ab5 T f;refine⟨?_,?_,?_,?_,?_⟩
  .intro k v d x k' v' h;rw[mL] at h;split at h
   .grind
   split at h
   .grind [a0z,cg.ok.injEq,whole]
   split at h
   .obtain⟨a,i,v1,g,e⟩:=ek h;grind [a0z,cg.ok.injEq,whole]
   split at h
   .obtain⟨a,i,v1,g,e⟩:=ek h;rw[(od e).2.1];exact ih.body _ _ _ _ _ _ g
   obtain⟨a,i,v1,g,e⟩:=ek h;split at e
   .obtain⟨b,m,v2,j,l⟩:=ek e;grind [a0z,cg.ok.injEq,whole]
   grind [a0z,cg.ok.injEq,whole]
  .intro k v d acc x k' v' r h;rw[oF] at h;obtain⟨y,i,v1,g,e⟩:=ek h;have s:=ih.lit _ _ _ _ _ _ g;have n:∀ b∈acc++[y],whole b:=by
    grind
   split at e
   .have j:=ih.lits _ _ _ _ _ _ _ n e;grind
   grind
  .intro k v d x k' v' h;rw[ng] at h;obtain⟨y,i,v1,g,e⟩:=ek h;have j:=(ih.lits _ _ _ _ _ _ _ zs g).1;grind [a0z,cg.ok.injEq,whole]
  .intro k v d x k' v' h;rw[oG] at h;split at h
   .grind
   .exact ih.body _ _ _ _ _ _ h
  .intro k v d x k' v' h;rw[lM] at h;obtain⟨a,i,v1,g,e⟩:=ek h;split at e
   .obtain⟨b,m,v2,j,l⟩:=ek e;split at l
    .obtain⟨c,o,v3,p,q⟩:=ek l;grind [a0z,cg.ok.injEq,whole]
    grind [a0z,cg.ok.injEq,whole]
   .split at e
    .obtain⟨c,o,v3,p,q⟩:=ek e;grind [a0z,cg.ok.injEq,whole]
    .simp only[a0z,cg.ok.injEq] at e;rw[<- e.1];exact ih.row _ _ _ _ _ _ g
end P
structure mP(w:Z)(B:Nat):Prop where
 lt:3<B
 cell:∀ j,j<9->w.cell? ⟨3,j,V⟩=O (aW (LX.getD j []))
theorem mP.ext(h:mP w B)(hw:∀ (b:Nat) (o:Obj),b<B->w.heap[b]?=O o->w'.heap[b]?=O o):mP w' B:=
 ⟨h.lt,fun j a=>Mo (h.cell j a) (by grind [lt])⟩
theorem mP.fr(a:mP w tb)(h:dc pb w w')(d:tb<pb):mP w' tb:=
 a.ext fun b o e c=>h.block _ _ c (by rintro (h | ⟨h,_⟩)<;>omega)
structure Pa(f:Nat):Prop where
 go:∀ {pb tb:Nat} {T:List P.Tok} {k:Nat} {vars:List Bs} {d:Nat} {w:Z} {r:cg Bd},SP w pb tb T k vars d->mP w tb->d<=8 ->
  mL T f k vars d=O r->Calls bar 115 #[pp pb] w (jX dM pb tb T d w r)
structure Pb(f:Nat):Prop where
 go:∀ {pb tb:Nat} {T:List P.Tok} {k:Nat} {vars:List Bs} {d:Nat} {w:Z} {r:cg Bd},SP w pb tb T k vars d->mP w tb->d<=8 ->
  ng T f k vars d=O r->Calls bar 114 #[pp pb,.int .u8 44,aW [44],.func (.func 115) #[pp pb] #[]] w (jX dM pb tb T d w r)
structure Kb(f:Nat):Prop where
 go:∀ {pb tb:Nat} {T:List P.Tok} {k:Nat} {vars:List Bs} {d:Nat} {w:Z} {r:cg Bd},SP w pb tb T k vars d->mP w tb->d<=8 ->
  lM T f k vars d=O r->Calls bar 53 #[pp pb] w (jX dM pb tb T d w r)
theorem dM.shape{x:Bd}(h:dM F w v x):∃ b,v=pp b/\F b:=by
 cases x with
 | mk kind name args parts=>
  unfold dM at h;obtain⟨b,_,_,_,_,a,c,_⟩:=h;exact⟨b,a,c⟩
def gF.snoc{F:Nat->Prop}{w:Z}{v:Y}{x:Bd}(hv:dM F w v x):∀ {l:List Bd} {vs:List Y},gF F w vs l->gF F w (vs++[v]) (l++[x])
 | [],vs,h=>by
  unfold gF at h;subst h;simp only[List.nil_append];unfold gF;exact⟨v,[],J,hv,by unfold gF;rfl⟩
 | y::l,vs,h=>by
  unfold gF at h;obtain⟨u,r,rfl,a,b⟩:=h;simp only[List.cons_append];unfold gF;exact⟨u,r++[v],J,a,gF.snoc hv b⟩
def gF.length{F:Nat->Prop}{w:Z}:∀ {l:List Bd} {vs:List Y},gF F w vs l->vs.length=l.length
 | [],vs,h=>by unfold gF at h;rw[h];rfl
 | x::xs,vs,h=>by
  unfold gF at h;obtain⟨v,r,rfl,_,a⟩:=h;simp [gF.length a]
def Ij:lE F w b9 []:=⟨[],.inl ⟨J,J⟩,by unfold eT;rfl⟩
def Kc:JR F w b9 []:=⟨[],.inl ⟨J,J⟩,by unfold gF;rfl⟩
def aDw{x:Bd}(a:F b)(h:w.heap[b]?=aP #[u] 84)(hx:dM F w u x) :
  JR F w (cU b 1 1) [x]:=by
 refine⟨[u],.inr ⟨b,#[u],J,a,h,a0D _,J⟩,?_⟩;unfold gF;exact⟨u,[],J,hx,by unfold gF;rfl⟩
def aDx{x y:Bd}(a:F b)(h:w.heap[b]?=aP #[u,v] 84)(hx:dM F w u x)(c:dM F w v y) :
  JR F w (cU b 2 2) [x,y]:=by
 refine⟨[u,v],.inr ⟨b,#[u,v],J,a,h,a0D _,J⟩,?_⟩;unfold gF;refine⟨u,[v],J,hx,?_⟩;unfold gF;exact⟨v,[],J,c,by unfold gF;rfl⟩
def DJ{name:Bs}{args:List Ex}(d:F b)
  (h:w.heap[b]?=aP #[.int .u8 pb,aW name,av,tv] 149) (a:lE F w av args) (c:JR F w tv gI) :
  dM F w (pp b) (.mk pb name args gI):=by
 obtain⟨vs,e,f⟩:=a;obtain⟨us,g,i⟩:=c;unfold dM;grind
theorem JR.mono{F F':Nat->Prop}{w w':Z}{v:Y}{l:List Bd}(a:∀ b,F b->F' b)(hw:∀ b o,F b->Dt o->w.heap[b]?=O o->w'.heap[b]?=O o)
  (h:JR F w v l):JR F' w' v l:=by
 obtain⟨vs,c,f⟩:=h;exact⟨vs,c.mono a fun b cs d e=>hw b _ d ⟨zg,J⟩ e,(by grind [gF.mono])⟩
def alo:(Tryz.prog.info? 84).map (fun i=>(i.zero,i.size,i.bytes))=O (O (au V),1,8):=zk
abbrev alp(pb:Nat):Y:=.func (.func 115) #[pp pb] #[]
def RJ(pb tb:Nat)(T:List P.Tok)(d:Nat)(w0:Z)(c:cg (List Bd))(n:Nat)(a:Act)(w:Z):Prop:=
 ∃ (acc:List Bd) (k:Nat) (vs:List Bs) (xs:List Y) (sl e f g h u8 i j l m o p u16 q r s t u x y z B C D E F G:Y),a={ tmps:=#[pp pb,.int .u8 44,aW [44],alp pb,e,f,g,h,u8,sl,i,j,l,m,o,p,u16,q,r,s,t,u,x,y,z,B,C,D,E,F,G],defers:=[] } /\
  w.ownsRow w0.heap.size 84 1 sl acc.length xs/\gF (fun b=>Nu w0 w b/\sl.ownBlock≠O b) w xs acc/\SP w pb tb T k vs d/\dc pb w0 w/\0<acc.length/\acc.length<=k /\
  (if eD T k [44] then oF T n (k+1) vs d acc else O (.ok acc k vs))=O c
def aDz(MP:∀ m,m<f->Pa m){r:cg Bd}(oY:SP w0 pb tb T k vars d)(pI:mP w0 tb)(hd:d<=8)
  (h:ng T (f+1) k vars d=O r):Calls bar 114 #[pp pb,.int .u8 44,aW [44],alp pb] w0 (jX dM pb tb T d w0 r):=by
 rw[ng] at h;cases Af:oF T f k vars d [] with
 | none=>rw[Af] at h;simp [cg.bind] at h
 | some re=>
 rw[Af] at h;cases f with
 | zero=>simp [oF] at Af
 | succ f=>
 rw[oF] at Af;have SE:=a0A oY;have Ik:=a0A pI;have HR:=a0A h;have Mz:=a0A Af;have xJ:=oY.d2.2.2;have wO:=oY.lt;have hT:=oY.tw.len;obtain⟨i0,hi,JZ,J0,J1⟩:=info_parts alo;clear oY h Af pI
 go_enter func114,ntmps114
 go_wp2_with fail
 cases hq:mL T f k vars d with
 | none=>have e:=Mz.out;rw[hq] at e;simp [cg.bind] at e
 | some q=>
 have e:=Mz.out;rw[hq] at e;refine((MP f zo).go SE.out Ik.out hd hq).mono ?_;cases q with
 | err c0 a0=>
  rintro e2 w4 ⟨⟨b,rfl,eQ,gH⟩,dV,gQ⟩;simp only[cg.bind,a0z] at e;subst e;have hr:=HR.out;simp only[cg.bind,a0z] at hr;subst hr;exact⟨J,⟨b,J,eQ,gH⟩,dV,gQ⟩
 | ok x k' wK=>
 rintro e2 w1 ⟨v,rfl,hv,ff,fa⟩;simp only[cg.bind] at e;obtain⟨bx,rfl,jJ⟩:=hv.shape;have nA:=(SD T f).lit _ _ _ _ _ _ hq;have pH:=fa.size;have eU:(w1.alloc (ah #[pp bx] 84)).ownsRow w0.heap.size 84 1 (cU w1.heap.size 1 1) 1 [pp bx]:=
  ⟨J,.inr ⟨w1.heap.size,1,_,J,zo,blk_alloc_new _ _,a0D _,zd,J,J⟩⟩
 have je:gF (fun b=>Nu w0 (w1.alloc (ah #[pp bx] 84)) b/\(a0M (O ⟨w1.heap.size,0,V⟩) 1 1).ownBlock≠O b) (w1.alloc (ah #[pp bx] 84)) [pp bx] [x]:=by
  have:=gF.snoc (l:=[]) (vs:=[]) (F:=fun b=>Nu w0 (w1.alloc (ah #[pp bx] 84)) b/\(a0M (O ⟨w1.heap.size,0,V⟩) 1 1).ownBlock≠O b) (w:=w1.alloc (ah #[pp bx] 84)) (v:=pp bx) (x:=x)
   (dM.mono (fun b hb=>⟨(by grind [size_alloc]),fun e=>by injection e with e;grind⟩) (by grind [dS]) _ _ hv) (by unfold gF;rfl)
  grind
 have Se:=a0A eU;have lZ:=a0A je;have iT:=a0A (ff.ext (w':=w1.alloc (ah #[pp bx] 84)) fun b o h=>dS h);have fQ:Hid (dc pb w0 (w1.alloc (ah #[pp bx] 84))):=a0A (fa.alloc _);have HE:=a0A e;have HK:=a0A nA;clear hv ff fa eU je e hq jJ Mz nA
 go_wp2_with fail
 refine wp_loop_ghost (fun n a w=>n<=f/\RJ pb tb T d w0 re n a w) ⟨f,a0D _,[x],k',wK,_,_,_,_,_,_,_,_,_,_,_,_,_,_,_,_,_,_,_,_,_,_,_,_,_,_,_,_,J,Se.out,lZ.out,iT.out,fQ.out,Nat.zero_lt_one,by have:=HK.out;simp;omega,by simpa using HE.out⟩ ?_;clear Se lZ iT fQ HK HE pH;rintro n a w ⟨ZO,acc,k2,vs,xs,sl,u4,u5,u6,u7,u8,yO,yP,yQ,wI,wJ,yR,u16,yS,yT,BY,BZ,B0,B1,B2,B3,B4,B5,B6,Dz,DA,DB,rfl,dU,lY,hp,hf,h0a,We,hr⟩;have H5:=hp.kt;have hz:=hf.size;have B8:=hp.d2.2.2;obtain⟨g',rC,rfl⟩:∃ g cap,sl = cU g acc.length cap:=by
  obtain⟨g1,g2 | ⟨g,cp,cur,e1,e2,e3,e4⟩⟩:=dU<;>grind
 have HO:=a0A dU;have HX:=a0A lY;have HP:=a0A hp;have HF:=a0A hf;by_cases hc:eD T k2 [44]=A
 .rw[zip hc] at hr;cases n with
  | zero=>grind [oF]
  | succ n=>
  rw[oF] at hr;have Ae:=a0A hr;clear dU lY hp hf hr
  go_wp2_with fail
  refine(vd HP.out [44] hc).mono ?_;rintro e w2 ⟨rfl,ff,fa⟩;have iT:=a0A ff;have fQ:=a0A fa;clear ff fa hc
  go_wp2_with fail
  cases hq:mL T n (k2+1) vs d with
  | none=>have e:=Ae.out;rw[hq] at e;simp [cg.bind] at e
  | some q=>
  have e:=Ae.out;rw[hq] at e;refine((MP n zo).go iT.out (Ik.out.fr (HF.out.trans fQ.out) wO) hd hq).mono ?_;cases q with
  | err c0 a0=>
   rintro e2 w4 ⟨⟨b,rfl,eQ,gH⟩,dV,gQ⟩;simp only[cg.bind,a0z] at e;subst e;have hr:=HR.out;simp only[cg.bind,a0z] at hr;subst hr;have:=fQ.out.size;exact⟨J,⟨b,J,eQ,zo⟩,(HF.out.trans fQ.out).trans dV,gQ⟩
  | ok x k' wK=>
  rintro e2 w3 ⟨v,rfl,hv,fZ,dV⟩;simp only[cg.bind] at e;obtain⟨bx,rfl,jJ⟩:=hv.shape;have nA:=(SD T n).lit _ _ _ _ _ _ hq;have qV:=fQ.out.size;have ET:=dV.size;have jZ:=fZ.kt;have abA:=iT.out.d2.2.2;have sI:=fZ.d2.2.2;have xK:w3.ownsRow w0.heap.size 84 1 (cU g' acc.length rC) acc.length xs:=by
   obtain⟨g1,g2 | ⟨g,cp,cur,e1,e2,e3,e4⟩⟩:=HO.out
   .omega
   .exact⟨g1,.inr ⟨g,cp,cur,e1,e2,dc.lx dV ⟨zg,J⟩ (dc.lx fQ.out ⟨zg,J⟩ e3 zo) zo,e4⟩⟩
  have J2:gF (fun b=>Nu w0 w3 b/\(a0M (O ⟨g',0,V⟩) acc.length rC).ownBlock≠O b) w3 xs acc:=
   gF.mono zg (by grind [dc.lx,Hid.out]) _ _ HX.out
  have vh:=a0A xK;have lZ:=a0A J2;have HV:=a0A hv;have kA:=a0A fZ;have iA:=a0A ((HF.out.trans fQ.out).trans dV);have HE:=a0A e;have Ad:=a0A jJ;have HK:=a0A nA;clear hv fZ dV xK J2 e hq jJ nA
  go_wp2_with (at_builtin;go_must (refine Ry J _ _ 147 J w0.heap.size 84 i0 _ 1 8 underlying147 hi JZ J0 J1 J zo _ _ _ J (vh.out.alloc _) ⟨w3.heap.size,0,V⟩ 1 1 [pp bx] J J (OK J) (by simp [Value.oneCell']) (by grind [maxLen]) zo (by simp;omega) ?_;intro v' w4 sH yU AY;obtain⟨g2,Gn,rfl⟩:=Ma sH;have Gj:=a0A sH;have ui:=a0A yU;have Sb:=a0A AY;clear sH yU AY))
  have jd:SP w4 pb tb T k' wK d:=(kA.out.ext fun b o h=>dS (o:=Obj.cells #[Value.pointer (O ⟨bx,0,V⟩)] 84) h).OZ (vh.out.alloc _) zg zo ui.out;have eF:dc pb w0 w4:=(iA.out.alloc _).O0 ui.out fun k hk=>(vh.out.lt k hk).1;have O5:=ui.out.size;rw[size_alloc] at O5;have O4:∀ (b:Nat) (o:Obj),w3.heap[b]?=O o->(a0M (O ⟨g',0,V⟩) acc.length rC).ownBlock≠O b->w4.heap[b]?=O o:=fun b o h eh=>by
   have h':=dS (o:=Obj.cells #[Value.pointer (O ⟨bx,0,V⟩)] 84) h;rw[ui.out.block b (bn h') (fun e=>eh e.symm)];omega
  have oZ:∀ b,b<w3.heap.size->(a0M (O ⟨g',0,V⟩) acc.length rC).ownBlock≠O b->(a0M (O ⟨g2,0,V⟩) (acc.length+1) Gn).ownBlock≠O b:=fun b hb eh=>by
   rcases Sb.out with h | h
   .rw[h];exact eh
   grind [size_alloc]
  have hbn:∀ b,Nu w2 w3 b->(a0M (O ⟨g',0,V⟩) acc.length rC).ownBlock≠O b:=fun b hb e=>by
   have:=(HO.out.lt b e).2;omega
  have abB:gF (fun b=>Nu w0 w4 b/\(a0M (O ⟨g2,0,V⟩) (acc.length+1) Gn).ownBlock≠O b) w4 (xs++[pp bx]) (acc++[x]):=
   gF.snoc (dM.mono zg zg _ _ HV.out)
    (gF.mono zg zg _ _ lZ.out)
  have nA:=HK.out;exact⟨n,Nat.lt_succ_self n,zo,acc++[x],k',wK,_,_,_,_,_,_,_,_,_,_,_,_,_,_,_,_,_,_,_,_,_,_,_,_,_,_,_,_,J,by rw[List.length_append];exact Gj.out,abB,jd,eF,zs,zg,HE.out⟩
 .rw[bO hc,a0z] at hr;subst hr;clear dU lY hp hf;have hr:=HR.out;simp only[cg.bind,a0z] at hr;subst hr;clear HR;have A2:=(HO.out.lt g' J);have iW:=EO HO.out (F:=Nu w0 w) (fun b hb=>⟨(HO.out.lt b hb).1,(HO.out.lt b hb).2⟩);have MA:gF (Nu w0 w) w xs acc:=gF.mono zg zg _ _ HX.out;have HSL:=a0A iW;have HXN:=a0A MA;clear iW MA;by_cases h1:acc.length=1
  .obtain⟨b1,rfl⟩:∃ b1,acc=[b1]:=List.length_eq_one_iff.1 h1;have rD:=HXN.out;unfold gF at rD;obtain⟨v1,r1,e1,kJ,qn⟩:=rD;unfold gF at qn;subst qn;subst e1;have nH:w.cell? ⟨g',0,V⟩=O v1:=by
    obtain⟨g1,g2 | ⟨g,cp,cur,e1,e2,e3,e4,e5,e6,e7⟩⟩:=HO.out
    .omega
    .cases e1;refine cellOf e3 ?_;have h1:(cur.toList.take 1)[0]?=O v1:=zg;grind
   have Wt:=a0A kJ;have DE:=A2.2;clear kJ h1
   go_wp2_with fail
   refine(qs HP.out [44] zg zd).mono ?_;rintro e w2 ⟨rfl,rfl⟩;clear hc
   go_wp2_with fail
   go_ret
   exact⟨_,J,Wt.out,HP.out,HF.out⟩
  .have Be:((acc.length:Int) == 1)=false:=zg;have qu:¬ (acc.length:Int)=1:=zo
   go_wp2_with fail
   refine(qs HP.out [44] zg zd).mono ?_;rintro e w2 ⟨rfl,rfl⟩;clear hc
   go_wp2_with fail
   go_ret
   refine⟨_,J,?_,HP.out.ext (by grind [dS]),HF.out.alloc _⟩;have key:=(show dM (Nu w0 (w.alloc (ah #[.int .u8 44,aW [],b9,cU g' acc.length rC] 149))) (w.alloc (ah #[.int .u8 44,aW [],b9,cU g' acc.length rC] 149)) (pp w.heap.size) (.mk 44 [] [] acc) from DJ (by grind [size_alloc]) (blk_alloc_new _ _) Ij (JR.mono (by grind [size_alloc]) (by grind [dS]) ⟨xs,HSL.out,HXN.out⟩));rcases acc with _ | ⟨x1,_ | ⟨x2,l⟩⟩
   .grind
   .grind
   .exact key
def alr:Pb 0:=⟨fun _ _ _ h=>by simp [ng] at h⟩
theorem aDB(d:∀ m,m<f->Pa m):Pb f:=by
 cases f with
 | zero=>exact alr
 | succ f=>exact⟨fun a b c h=>aDz zg a b c h⟩
def P.SF(T:List P.Tok)(f k:Nat)(vars:List Bs)(d:Nat):Option (cg Bd):=
 cg.bind (ng T f k vars d) fun a c v1=>
  if eD T c [45,62] then cg.bind (ng T f (c+1) v1 d) fun b e v2=>O (.ok (.mk 63 [] [] [a,b]) e v2) else O (.ok a c v1)
def aDC(F:Nat->Prop)(w:Z)(v:Y)(x:Bd):Prop:=
 (P.whole x/\dM F w v x) \/
 ∃ (a b:Bd) (n g:Nat) (c vb:Y),x = .mk 63 [] [] [a,b]/\v=pp n/\F n/\F g/\n≠g /\
  w.heap[n]?=aP #[.int .u8 63,aW [],b9,cU g 2 2] 149/\w.heap[g]?=aP #[c,vb] 84 /\
  dM (fun m=>F m/\m≠n/\m≠g) w c a/\dM (fun m=>F m/\m≠n/\m≠g) w vb b
def aDD(eU:Pb f){r:cg Bd}(oY:SP w0 pb tb T k vars d)(pI:mP w0 tb)(hd:d<=8)
  (h:P.SF T f k vars d=O r):Calls bar 85 #[pp pb] w0 (jX aDC pb tb T d w0 r):=by
 unfold P.SF at h;have SE:=a0A oY;have Ik:=a0A pI;have HR:=a0A h;have xJ:=oY.d2.2.2;have wO:=oY.lt;clear oY h pI
 go_enter func85,ntmps85
 go_wp2_with fail
 cases hq:ng T f k vars d with
 | none=>have e:=HR.out;rw[hq] at e;simp [cg.bind] at e
 | some q=>
 have e:=HR.out;rw[hq] at e;refine(eU.go SE.out Ik.out hd hq).mono ?_;cases q with
 | err c0 a0=>
  rintro e2 w4 ⟨⟨b,rfl,eQ,gH⟩,dV,gQ⟩;simp only[cg.bind,a0z] at e;subst e;exact⟨J,⟨b,J,eQ,gH⟩,dV,gQ⟩
 | ok x k1 v1=>
 rintro e2 w1 ⟨v,rfl,hv,dF,gm⟩;simp only[cg.bind] at e;obtain⟨bx,rfl,jJ⟩:=hv.shape;have Il:=(ab5 T f).row _ _ _ _ _ _ hq;have pH:=gm.size;have Wt:=a0A hv;have kA:=a0A dF;have iA:=a0A gm;have Ad:=a0A jJ;have HWH:=a0A Il;have HE:=a0A e;clear hv dF gm jJ Il e hq HR;by_cases hc:eD T k1 [45,62]=A
 .go_wp2_with fail
  refine(vd kA.out [45,62] hc).mono ?_;rintro e w2 ⟨rfl,ff,fa⟩;have iT:=a0A ff;have fQ:=a0A fa;have qV:=fa.size;clear ff fa
  go_wp2_with fail
  have e:=HE.out;rw[zip hc] at e;cases hq:ng T f (k1+1) v1 d with
  | none=>rw[hq] at e;simp [cg.bind] at e
  | some q=>
  rw[hq] at e;refine(eU.go iT.out (Ik.out.fr (iA.out.trans fQ.out) wO) hd hq).mono ?_;cases q with
  | err c0 a0=>
   rintro e2 w4 ⟨⟨b,rfl,eQ,gH⟩,dV,gQ⟩;simp only[cg.bind,a0z] at e;subst e;exact⟨J,⟨b,J,eQ,zo⟩,(iA.out.trans fQ.out).trans dV,gQ⟩
  | ok y k2 v2=>
  rintro e2 w3 ⟨v,rfl,hv,fZ,dV⟩;simp only[cg.bind,a0z] at e;subst e;obtain⟨Gy,rfl,nX⟩:=hv.shape;have ET:=dV.size;have Wu:=a0A hv;have uk:=a0A fZ;have og:=a0A dV;have sI:=fZ.d2.2.2;have aUR:=kA.out.d2.2.2;clear hv fZ dV nX hq HE hc
  go_wp2_with fail
  go_ret
  have gR:∀ o o',((w3.alloc o).alloc o').heap.size=w3.heap.size+2:=(by grind [size_alloc]);refine⟨_,J,.inr ⟨x,y,w3.heap.size+1,w3.heap.size,_,_,J,J,zg,zg,zo,EN (by rw[size_alloc]),dS (blk_alloc_new _ _),?_,?_⟩,
   (by grind [dS,SP.ext,Hid.out]),(by grind [trans,bD.alloc,bD.trans,Hid.out])⟩
  .exact dM.mono zg
    (by grind [dS,dc.lx,Hid.out]) _ _ Wt.out
  .exact dM.mono zg
    (by grind [dS]) _ _ Wu.out
 .go_wp2_with fail
  refine(qs kA.out [45,62] zg zd).mono ?_;rintro e w2 ⟨rfl,rfl⟩
  go_wp2_with fail
  go_ret
  have e:=HE.out;rw[bO hc,a0z] at e;subst e;exact⟨_,J,.inl ⟨HWH.out,Wt.out⟩,kA.out,iA.out⟩
