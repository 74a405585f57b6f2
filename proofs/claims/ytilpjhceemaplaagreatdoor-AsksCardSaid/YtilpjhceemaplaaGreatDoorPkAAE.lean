/- A part of one proof (SSmall, PureL, SX1, PureL2, ShR1, RW1, RBase2, SX2, SCon2, SRow, SCond). -/
import Derived.Test.YtilpjhceemaplaaGreatDoorPkAAD
import Derived.Shelf.Strings.SlTrimAscii
set_option linter.all false
set_option linter.unusedVariables false
set_option linter.unusedSimpArgs false
set_option maxRecDepth 100000
set_option maxHeartbeats 4000000
namespace Go.Proofs.YtilpjhceemaplaaGreatDoor
open Go.RowKit
set_option linter.unusedVariables false
theorem sClass(c:UInt8){w:World}:Calls Tryz.prog 122 #[.int .u8 c.toNat] w fun e w'=>e = .returned (.int .u8 (P.cls c))/\w'=w:=by
 have hc:c.toNat<256:=c.toNat_lt
 unfold P.cls
 obtain⟨n,hn⟩:∃ n,n=c.toNat:=⟨_,rfl⟩
 rw[<- hn] at hc ⊢
 clear hn
 by_cases a1:97≤n
 ·by_cases a2:n≤122
  ·have b1:(97:Int)≤n:=by omega
   have b2:(n:Int)≤122:=by omega
   rw[if_pos ⟨a1,a2⟩]
   go_enter Tryz.func122,Tryz.ntmps122
   go_wp2_with fail
   go_ret
   exact⟨rfl,rfl⟩
  ·have b1:(97:Int)≤n:=by omega
   have b2:¬ (n:Int)≤122:=by omega
   have b3:(65:Int)≤n:=by omega
   have b4:¬ (n:Int)≤90:=by omega
   have b5:((n:Int) == 95)=false:=by simp;omega
   have b6:(48:Int)≤n:=by omega
   have b7:¬ (n:Int)≤57:=by omega
   have b8:¬ (n:Int)=95:=by omega
   rw[if_neg (by omega),if_neg (by omega),if_neg (by omega)]
   go_enter Tryz.func122,Tryz.ntmps122
   go_wp2_with fail
   go_ret
   exact⟨rfl,rfl⟩
 ·have b1:¬ (97:Int)≤n:=by omega
  rw[if_neg (by omega)]
  by_cases a3:n=95
  ·subst a3
   go_enter Tryz.func122,Tryz.ntmps122
   go_wp2_with fail
   go_ret
   exact⟨rfl,rfl⟩
  have b5:((n:Int) == 95)=false:=by simp;omega
  have b8:¬ (n:Int)=95:=by omega
  by_cases a4:65≤n
  ·have b3:(65:Int)≤n:=by omega
   by_cases a5:n≤90
   ·have b4:(n:Int)≤90:=by omega
    rw[if_pos (by omega)]
    go_enter Tryz.func122,Tryz.ntmps122
    go_wp2_with fail
    go_ret
    exact⟨rfl,rfl⟩
   ·have b4:¬ (n:Int)≤90:=by omega
    have b6:(48:Int)≤n:=by omega
    have b7:¬ (n:Int)≤57:=by omega
    rw[if_neg (by omega),if_neg (by omega)]
    go_enter Tryz.func122,Tryz.ntmps122
    go_wp2_with fail
    go_ret
    exact⟨rfl,rfl⟩
  ·have b3:¬ (65:Int)≤n:=by omega
   rw[if_neg (by omega)]
   by_cases a6:48≤n
   ·have b6:(48:Int)≤n:=by omega
    by_cases a7:n≤57
    ·have b7:(n:Int)≤57:=by omega
     rw[if_pos (by omega)]
     go_enter Tryz.func122,Tryz.ntmps122
     go_wp2_with fail
     go_ret
     exact⟨rfl,rfl⟩
    ·have b7:¬ (n:Int)≤57:=by omega
     rw[if_neg (by omega)]
     go_enter Tryz.func122,Tryz.ntmps122
     go_wp2_with fail
     go_ret
     exact⟨rfl,rfl⟩
   ·have b6:¬ (48:Int)≤n:=by omega
    rw[if_neg (by omega)]
    go_enter Tryz.func122,Tryz.ntmps122
    go_wp2_with fail
    go_ret
    exact⟨rfl,rfl⟩
theorem sTests(s:P.Bs){w:World}:Calls Tryz.prog 58 #[.string (bs s)] w fun e w'=>e = .returned (zi (P.tests s))/\w'=w:=by
 by_cases c0:s=[116,114,117,101]
 ·subst c0
  go_enter Tryz.func58,Tryz.ntmps58
  go_wp2_with fail
  go_ret
  exact⟨rfl,rfl⟩
 by_cases c1:s=[102,97,105,108]
 ·subst c1
  go_enter Tryz.func58,Tryz.ntmps58
  go_wp2_with fail
  go_ret
  exact⟨rfl,rfl⟩
 by_cases c2:s=[118,97,114]
 ·subst c2
  go_enter Tryz.func58,Tryz.ntmps58
  go_wp2_with fail
  go_ret
  exact⟨rfl,rfl⟩
 by_cases c3:s=[110,111,110,118,97,114]
 ·subst c3
  go_enter Tryz.func58,Tryz.ntmps58
  go_wp2_with fail
  go_ret
  exact⟨rfl,rfl⟩
 by_cases c4:s=[97,116,111,109]
 ·subst c4
  go_enter Tryz.func58,Tryz.ntmps58
  go_wp2_with fail
  go_ret
  exact⟨rfl,rfl⟩
 by_cases c5:s=[105,110,116,101,103,101,114]
 ·subst c5
  go_enter Tryz.func58,Tryz.ntmps58
  go_wp2_with fail
  go_ret
  exact⟨rfl,rfl⟩
 by_cases c6:s=[61]
 ·subst c6
  go_enter Tryz.func58,Tryz.ntmps58
  go_wp2_with fail
  go_ret
  exact⟨rfl,rfl⟩
 by_cases c7:s=[92,61]
 ·subst c7
  go_enter Tryz.func58,Tryz.ntmps58
  go_wp2_with fail
  go_ret
  exact⟨rfl,rfl⟩
 by_cases c8:s=[61,61]
 ·subst c8
  go_enter Tryz.func58,Tryz.ntmps58
  go_wp2_with fail
  go_ret
  exact⟨rfl,rfl⟩
 by_cases c9:s=[105,115]
 ·subst c9
  go_enter Tryz.func58,Tryz.ntmps58
  go_wp2_with fail
  go_ret
  exact⟨rfl,rfl⟩
 by_cases c10:s=[60]
 ·subst c10
  go_enter Tryz.func58,Tryz.ntmps58
  go_wp2_with fail
  go_ret
  exact⟨rfl,rfl⟩
 by_cases c11:s=[62]
 ·subst c11
  go_enter Tryz.func58,Tryz.ntmps58
  go_wp2_with fail
  go_ret
  exact⟨rfl,rfl⟩
 by_cases c12:s=[61,60]
 ·subst c12
  go_enter Tryz.func58,Tryz.ntmps58
  go_wp2_with fail
  go_ret
  exact⟨rfl,rfl⟩
 by_cases c13:s=[62,61]
 ·subst c13
  go_enter Tryz.func58,Tryz.ntmps58
  go_wp2_with fail
  go_ret
  exact⟨rfl,rfl⟩
 by_cases c14:s=[61,58,61]
 ·subst c14
  go_enter Tryz.func58,Tryz.ntmps58
  go_wp2_with fail
  go_ret
  exact⟨rfl,rfl⟩
 have e:P.tests s=-1:=by
  unfold P.tests
  rw[if_neg,if_neg,if_neg]<;>simp [c0,c1,c2,c3,c4,c5,c6,c7,c8,c9,c10,c11,c12,c13,c14]
 rw[e]
 have d0:(s == ([116,114,117,101]:P.Bs))=false:=by simpa using c0
 have d1:(s == ([102,97,105,108]:P.Bs))=false:=by simpa using c1
 have d2:(s == ([118,97,114]:P.Bs))=false:=by simpa using c2
 have d3:(s == ([110,111,110,118,97,114]:P.Bs))=false:=by simpa using c3
 have d4:(s == ([97,116,111,109]:P.Bs))=false:=by simpa using c4
 have d5:(s == ([105,110,116,101,103,101,114]:P.Bs))=false:=by simpa using c5
 have d6:(s == ([61]:P.Bs))=false:=by simpa using c6
 have d7:(s == ([92,61]:P.Bs))=false:=by simpa using c7
 have d8:(s == ([61,61]:P.Bs))=false:=by simpa using c8
 have d9:(s == ([105,115]:P.Bs))=false:=by simpa using c9
 have d10:(s == ([60]:P.Bs))=false:=by simpa using c10
 have d11:(s == ([62]:P.Bs))=false:=by simpa using c11
 have d12:(s == ([61,60]:P.Bs))=false:=by simpa using c12
 have d13:(s == ([62,61]:P.Bs))=false:=by simpa using c13
 have d14:(s == ([61,58,61]:P.Bs))=false:=by simpa using c14
 go_enter Tryz.func58,Tryz.ntmps58
 go_wp2_with fail
 go_ret
 exact⟨rfl,rfl⟩
end Go.Proofs.YtilpjhceemaplaaGreatDoor
namespace Go.Proofs.YtilpjhceemaplaaGreatDoor.P
theorem lexGo_some:∀ (f:Nat) (r:Bs) (i:Nat),r.length<f->∃ q,lexGo f r i=some q
 | 0,r,i,h=>absurd h (Nat.not_lt_zero _)
 | f+1,[],i,_=>⟨_,by rw[lexGo]⟩
 | f+1,c::r,i,h=>by
  have h1:r.length<f:=by simpa using h
  rw[lexGo]
  split
  ·exact lexGo_some f r (i+1) h1
  split
  ·dsimp only
   split
   ·exact⟨_,rfl⟩
   ·rename_i hc hw
    have hl:((c::r).drop ((c::r).takeWhile (fun x=>cls x≠0)).length).length<f:=by
     have:0<((c::r).takeWhile (fun x=>cls x≠0)).length:=by
      rw[List.takeWhile_cons,if_pos (by simpa using hc)]
      simp
     rw[List.length_drop]
     simp only[List.length_cons] at h ⊢
     omega
    obtain⟨q,hq⟩:=lexGo_some f ((c::r).drop ((c::r).takeWhile (fun x=>cls x≠0)).length) (i+((c::r).takeWhile (fun x=>cls x≠0)).length) hl
    rw[hq]
    cases q<;>exact⟨_,rfl⟩
  split
  ·obtain⟨q,hq⟩:=lexGo_some f r (i+1) h1
   rw[hq]
   cases q<;>exact⟨_,rfl⟩
  split
  ·exact⟨_,rfl⟩
  ·rename_i s hs
   have hm:=List.mem_of_find?_eq_some hs
   have hl:((c::r).drop s.length).length<f:=by
    have:0<s.length:=by
     revert hm
     generalize s=t
     intro hm
     simp only[signs,List.mem_cons,List.not_mem_nil,or_false] at hm
     rcases hm with rfl | rfl | rfl | rfl | rfl | rfl | rfl | rfl | rfl | rfl | rfl | rfl | rfl | rfl | rfl | rfl | rfl | rfl | rfl | rfl | rfl | rfl | rfl<;>decide
    rw[List.length_drop]
    simp only[List.length_cons] at h ⊢
    omega
   obtain⟨q,hq⟩:=lexGo_some f ((c::r).drop s.length) (i+s.length) hl
   rw[hq]
   cases q<;>exact⟨_,rfl⟩
def tokOk(u:Tok):Prop:=u.kind≤4/\(u.kind=3->u.text≠[]/\u.text.all digit=true/\u.text.length≤9)/\(u.kind=1->∃ c r,u.text=c::r/\cls c=115)/\(u.kind=2->u.text≠[])/\(u.kind=4->u.text=[46]\/u.text∈signs)
theorem wordKind_ok{w:Bs}{i:Nat}(hw:wordKind w≠0):tokOk ⟨wordKind w,w,i⟩/\wordKind w≠4:=by
 cases w with
 | nil=>exact absurd rfl hw
 | cons c r=>
  unfold wordKind at hw ⊢
  dsimp only at hw ⊢
  by_cases h1:cls c=115
  ·rw[if_pos h1] at hw ⊢
   split at hw
   ·rename_i h2
    rw[if_pos h2]
    exact⟨⟨by simp,by simp,fun _=>⟨c,r,rfl,h1⟩,by simp,by simp⟩,by decide⟩
   ·exact absurd rfl hw
  ·rw[if_neg h1] at hw ⊢
   by_cases h3:cls c=99
   ·rw[if_pos h3] at hw ⊢
    split at hw
    ·rename_i h2
     rw[if_pos h2]
     exact⟨⟨by simp,by simp,by simp,by simp,by simp⟩,by decide⟩
    ·exact absurd rfl hw
   ·rw[if_neg h3] at hw ⊢
    split at hw
    ·rename_i h2
     rw[if_pos h2]
     exact⟨⟨by simp,fun _=>⟨by simp,h2.2.1,h2.1⟩,by simp,by simp,by simp⟩,by decide⟩
    ·exact absurd rfl hw
structure LexOk(n:Nat)(T:List Tok):Prop where
 len:T.length≤n+1
 last:∃ l t,T=l++[t]/\t.kind=0/\∀ u∈l,u.kind≠0
 tok:∀ u∈T,tokOk u
theorem LexOk.cons{n m:Nat}{T:List Tok}(h:LexOk n T){u:Tok}(hu:tokOk u)(h0:u.kind≠0)(hm:n<m):LexOk m (u::T):=by
 obtain⟨h1,⟨l,t,rfl,h2,h3⟩,h4⟩:=h
 refine⟨by simp at h1 ⊢;omega,⟨u::l,t,rfl,h2,fun v hv=>?_⟩,fun v hv=>?_⟩
 ·rcases List.mem_cons.1 hv with rfl | hv
  ·exact h0
  ·exact h3 v hv
 ·rcases List.mem_cons.1 hv with rfl | hv
  ·exact hu
  ·exact h4 v hv
theorem LexOk.mono{n m:Nat}{T:List Tok}(h:LexOk n T)(hm:n≤m):LexOk m T:=⟨by have:=h.len;omega,h.last,h.tok⟩
theorem lexGo_ok:∀ (f:Nat) (r:Bs) (i:Nat) (T:List Tok),lexGo f r i=some (.inr T)->LexOk r.length T
 | 0,r,i,T,h=>by rw[lexGo] at h;cases h
 | f+1,[],i,T,h=>by
  rw[lexGo] at h
  simp only[Option.some.injEq,Sum.inr.injEq] at h
  subst h
  exact⟨by simp,⟨[],_,rfl,rfl,by simp⟩,fun u hu=>by
   simp only[List.mem_cons,List.not_mem_nil,or_false] at hu
   subst hu
   exact⟨by simp,by simp,by simp,by simp,by simp⟩⟩
 | f+1,c::r,i,T,h=>by
  rw[lexGo] at h
  split at h
  ·exact(lexGo_ok f r (i+1) T h).mono (by simp)
  split at h
  ·dsimp only at h
   split at h
   ·cases h
   ·rename_i hc hw
    have hpos:0<((c::r).takeWhile (fun x=>cls x≠0)).length:=by
     rw[List.takeWhile_cons,if_pos (by simpa using hc)]
     simp
    cases hq:lexGo f ((c::r).drop ((c::r).takeWhile (fun x=>cls x≠0)).length) (i+((c::r).takeWhile (fun x=>cls x≠0)).length) with
    | none=>rw[hq] at h;cases h
    | some q=>
     rw[hq] at h
     cases q with
     | inl j=>cases h
     | inr l=>
      simp only[Option.some.injEq,Sum.inr.injEq] at h
      rw[<- h]
      refine(lexGo_ok f _ _ l hq).cons (wordKind_ok hw).1 hw ?_
      rw[List.length_drop]
      simp only[List.length_cons]
      omega
  split at h
  ·cases hq:lexGo f r (i+1) with
   | none=>rw[hq] at h;cases h
   | some q=>
    rw[hq] at h
    cases q with
    | inl j=>cases h
    | inr l=>
     simp only[Option.some.injEq,Sum.inr.injEq] at h
     rw[<- h]
     exact(lexGo_ok f _ _ l hq).cons ⟨by simp,by simp,by simp,by simp,fun _=>.inl rfl⟩ (by simp) (by simp)
  split at h
  ·cases h
  ·rename_i s hs
   have hm:=List.mem_of_find?_eq_some hs
   have hl:0<s.length:=by
    revert hm
    generalize s=t
    intro hm
    simp only[signs,List.mem_cons,List.not_mem_nil,or_false] at hm
    rcases hm with rfl | rfl | rfl | rfl | rfl | rfl | rfl | rfl | rfl | rfl | rfl | rfl | rfl | rfl | rfl | rfl | rfl | rfl | rfl | rfl | rfl | rfl | rfl<;>decide
   cases hq:lexGo f ((c::r).drop s.length) (i+s.length) with
   | none=>rw[hq] at h;cases h
   | some q=>
    rw[hq] at h
    cases q with
    | inl j=>cases h
    | inr l=>
     simp only[Option.some.injEq,Sum.inr.injEq] at h
     rw[<- h]
     refine(lexGo_ok f _ _ l hq).cons ⟨by simp,by simp,by simp,by simp,fun _=>.inr hm⟩ (by simp) ?_
     rw[List.length_drop]
     simp only[List.length_cons]
     omega
def lex(s:Bs):Sum Nat (List Tok):=(lexGo (s.length+1) s 0).getD (.inl 0)
theorem lex_eq(s:Bs):lexGo (s.length+1) s 0=some (lex s):=by
 obtain⟨q,hq⟩:=lexGo_some (s.length+1) s 0 (Nat.lt_succ_self _)
 rw[lex,hq];rfl
end Go.Proofs.YtilpjhceemaplaaGreatDoor.P
namespace Go.Proofs.YtilpjhceemaplaaGreatDoor
open Go.RowKit Sx
def zb0:=(zA zG0 (zA @sh_s_fail.eq_1 (zA @bd_104 @mi_100)))
theorem sFail0 (c a:Int) (w:World):Calls Tryz.prog 53 #[zi c,zi a] w fun e w'=>
  e = .panicked [{ v:=.iface 100 (pp w.heap.size),recovered:=false }]/\w'=w.alloc (.cells #[zi c,zi a] 104):=by
 refine sh_s_fail_ok ?_
 simp (disch:=first|assumption|omega|simp only[zS]<;>omega|decide) only[zb0,simprocAttr]
theorem sClassX(c:UInt8)(w:World):Calls Tryz.prog 122 #[.int .u8 c.toNat] w fun e w'=>e = .returned (.int .u8 (P.cls c))/\w'=w:=by
 refine(sClass c).mono ?_
 rintro e w' ⟨rfl,rfl⟩
 exact⟨rfl,rfl⟩
theorem sTrim(s:P.Bs)(w:World)(hs:s.length≤100000):Calls Tryz.prog 140 #[.string (bs s),.string (bs [48,49,50,51,52,53,54,55,56,57])] w fun e w'=>
  e = .returned (.string (bs (Lib.trimS s [48,49,50,51,52,53,54,55,56,57])))/\Ext w w':=by
 refine(Any.strings_Trim_laid Tryz.lays160 (by kernel_rfl) (bs s) (bs [48,49,50,51,52,53,54,55,56,57]) w (by simp [ByteArray.size];omega) (by decide) (ascii_of_all (by decide))).mono ?_
 rintro e w' ⟨rfl,hB⟩
 exact⟨rfl,⟨hB.os,hB.tape,hB.output,hB.size,fun b o hb _=>by rw[hB.block b (ltOf hb)];exact hb⟩⟩
theorem contains_digit(c:UInt8):([48,49,50,51,52,53,54,55,56,57]:P.Bs).contains c=P.digit c:=by
 have h:∀ n:Fin 256,([48,49,50,51,52,53,54,55,56,57]:P.Bs).contains (UInt8.ofNat n.val)=P.digit (UInt8.ofNat n.val):=by decide
 have:=h ⟨c.toNat,c.toNat_lt⟩
 simpa using this
theorem trimS_nil(s:P.Bs):Lib.trimS s [48,49,50,51,52,53,54,55,56,57]=[]↔s.all P.digit=true:=by
 have hd:∀ l:P.Bs,l.dropWhile (([48,49,50,51,52,53,54,55,56,57]:P.Bs).contains ·)=[]↔l.all P.digit=true:=fun l=>by
  simp only[contains_digit]
  induction l with
  | nil=>simp
  | cons c l ih=>
   rw[List.dropWhile_cons,List.all_cons,Bool.and_eq_true]
   split
   ·rename_i h;rw[ih];simp [h]
   ·rename_i h;simp [h]
 unfold Lib.trimS Lib.trimLeftS Lib.trimRightS
 rw[hd]
 constructor
 ·intro h
  have h2:(s.reverse.dropWhile (([48,49,50,51,52,53,54,55,56,57]:P.Bs).contains ·))=[]:=by
   cases hx:s.reverse.dropWhile (([48,49,50,51,52,53,54,55,56,57]:P.Bs).contains ·) with
   | nil=>rfl
   | cons c l=>
    rw[hx,List.all_reverse,List.all_cons,Bool.and_eq_true] at h
    have:=List.head?_dropWhile_not (([48,49,50,51,52,53,54,55,56,57]:P.Bs).contains ·) s.reverse
    rw[hx] at this
    simp only[List.head?_cons,contains_digit] at this
    rw[h.1] at this
    cases this
  have:=(hd s.reverse).1 h2
  rwa [List.all_reverse] at this
 ·intro h
  have h2:=(hd s.reverse).2 (by rw[List.all_reverse];exact h)
  rw[h2]
  rfl
def zb1:=(zA zG0 (zA @sh_s_word.eq_1 (zA @al_157 (zA @bd_157 (zA @ch_9 (zA @ld_157 (zA @ln_9 @st_157)))))))
theorem sWord (c:UInt8) (r:P.Bs) (hl:(c::r).length≤100000) (at_:Nat) (w:World) (hc0:P.cls c≠0) :
  Calls Tryz.prog 123 #[.string (bs (c::r)),zi at_,.int .u8 (P.cls c)] w fun e w'=>Ext w w' /\
   ((P.wordKind (c::r)≠0/\e = .returned (.agg #[zi (P.wordKind (c::r)),.string (bs (c::r)),zi at_]))\/(P.wordKind (c::r)=0/\faulted 2 at_ w w' e)):=by
 have hwk:P.wordKind (c::r)=if P.cls c=115 then(if (c::r).length≤8 then 1 else 0) else if P.cls c=99 then(if (c::r).length≤8 then 2 else 0)
  else if (c::r).length≤9/\(c::r).all P.digit=true/\(c≠48\/r=[]) then 3 else 0:=rfl
 have hg0:(c::r).getD 0 0=c:=rfl
 have hn:0<(c::r).length:=by simp
 have hr0:r=[]↔(c::r).length=1:=by cases r<;>simp
 have h48:c=48↔c.toNat=48:=by rw[<- UInt8.toNat_inj];rfl
 have hcls:P.cls c=115\/P.cls c=99\/P.cls c=100:=by
  unfold P.cls at hc0 ⊢
  split at hc0
  ·rename_i h;rw[if_pos h];exact .inl rfl
  ·rename_i h
   rw[if_neg h]
   split at hc0
   ·rename_i h2;rw[if_pos h2];exact .inr (.inl rfl)
   ·rename_i h2
    rw[if_neg h2]
    split at hc0
    ·rename_i h3;rw[if_pos h3];exact .inr (.inr rfl)
    ·exact absurd rfl hc0
 obtain⟨s,hs⟩:∃ s,s=c::r:=⟨_,rfl⟩
 rw[<- hs] at hl hg0 hn hr0 hwk ⊢
 have hX:Ext w (w.alloc (.cells #[zi 0,.string (bs []),zi 0] 157)):=by(repeat (first | assumption | exact FrM.refl _ _ | (refine FrM.upd ?_ (.inr (by(try simp only[zS])<;>omega))) | refine FrM.alloc ?_ _ | refine FrM.drew ?_))
 have hend:∀ (kd:Nat),P.wordKind s=kd->kd≠0->Ext w (upd (w.alloc (.cells #[zi 0,.string (bs []),zi 0] 157)) w.heap.size (.cells #[zi kd,.string (bs s),zi at_] 157)):=fun kd _ _=>by(repeat (first | assumption | exact FrM.refl _ _ | (refine FrM.upd ?_ (.inr (by(try simp only[zS])<;>omega))) | refine FrM.alloc ?_ _ | refine FrM.drew ?_))
 refine sh_s_word_ok ?_
 simp (disch:=first|assumption|omega|simp only[zS]<;>omega|decide) only[zb1,simprocAttr]
 refine⟨fun _ w'=>Ext w w'/\P.wordKind s=0,?_,?_⟩
 ·rcases hcls with h | h | h
  ·rw[h] at hwk ⊢
   rw[if_pos rfl] at hwk
   by_cases h8:s.length≤8
   ·rw[if_pos h8] at hwk
    simp (disch:=first|assumption|omega|simp only[zS]<;>omega|decide) only[zb1,simprocAttr]
    rw[hwk]
    exact⟨hend 1 hwk (by decide),.inl ⟨by decide,rfl⟩⟩
   ·rw[if_neg h8] at hwk
    simp (disch:=first|assumption|omega|simp only[zS]<;>omega|decide) only[zb1,simprocAttr]
    exact⟨hX,hwk⟩
  ·rw[h] at hwk ⊢
   rw[if_neg (by decide),if_pos rfl] at hwk
   by_cases h8:s.length≤8
   ·rw[if_pos h8] at hwk
    simp (disch:=first|assumption|omega|simp only[zS]<;>omega|decide) only[zb1,simprocAttr]
    rw[hwk]
    exact⟨hend 2 hwk (by decide),.inl ⟨by decide,rfl⟩⟩
   ·rw[if_neg h8] at hwk
    simp (disch:=first|assumption|omega|simp only[zS]<;>omega|decide) only[zb1,simprocAttr]
    exact⟨hX,hwk⟩
  ·rw[h] at hwk ⊢
   rw[if_neg (by decide),if_neg (by decide)] at hwk
   simp (disch:=first|assumption|omega|simp only[zS]<;>omega|decide) only[zb1,simprocAttr]
   refine⟨fun t w'=>Ext w w'/\w'.heap[w.heap.size]?=some (.cells #[zi 0,.string (bs []),zi 0] 157 (0,0))/\t 25 = .bool (decide (P.wordKind s≠0)),?_,?_⟩
   ·have hb0:(w.alloc (.cells #[zi 0,.string (bs []),zi 0] 157)).heap[w.heap.size]?=some (.cells #[zi 0,.string (bs []),zi 0] 157 (0,0)):=blk_alloc_new w _
    by_cases h9:s.length≤9
    ·simp (disch:=first|assumption|omega|simp only[zS]<;>omega|decide) only[zb1,simprocAttr]
     refine(sTrim s _ hl).mono ?_
     rintro e w2 ⟨rfl,hE2⟩
     have hw2:=hX.trans hE2
     have hb2:=hE2.ext _ _ hb0
     by_cases hd:s.all P.digit=true
     ·have htn:=(trimS_nil s).2 hd
      rw[htn]
      by_cases hz:c.toNat=48
      ·have hz':(c.toNat:Int)=48:=by omega
       simp (disch:=first|assumption|omega|simp only[zS]<;>omega|decide) only[zb1,simprocAttr,hg0]
       refine⟨hw2,hb2,?_⟩
       rw[hwk]
       by_cases h1:s.length=1
       ·have h1':(s.length:Int)=1:=by omega
        rw[if_pos ⟨h9,hd,.inr (hr0.2 h1)⟩]
        simp [sOf,h1']
       ·have h1':¬ (s.length:Int)=1:=by omega
        rw[if_neg (fun h=>h.2.2.elim (fun e=>e (h48.2 hz)) (fun e=>h1 (hr0.1 e)))]
        simp [sOf,h1']
      ·have hz':¬ (c.toNat:Int)=48:=by omega
       simp (disch:=first|assumption|omega|simp only[zS]<;>omega|decide) only[zb1,simprocAttr,hg0]
       refine⟨hw2,hb2,?_⟩
       rw[hwk,if_pos ⟨h9,hd,.inl (fun e=>hz (h48.1 e))⟩]
       simp [sOf]
     ·have htn:¬ Lib.trimS s [48,49,50,51,52,53,54,55,56,57]=[]:=fun h=>hd ((trimS_nil s).1 h)
      simp (disch:=first|assumption|omega|simp only[zS]<;>omega|decide) only[zb1,simprocAttr]
      refine⟨hw2,hb2,?_⟩
      rw[hwk,if_neg (fun h=>hd h.2.1)]
      simp [sOf]
    ·simp (disch:=first|assumption|omega|simp only[zS]<;>omega|decide) only[zb1,simprocAttr]
     refine⟨hX,?_⟩
     rw[hwk,if_neg (fun h=>h9 h.1)]
     simp [sOf]
   ·rintro t w2 ⟨hE2,hb2,h25⟩ d2
    have lb2:=ltOf hb2
    rw[h25]
    by_cases hk:P.wordKind s≠0
    ·rw[bs_pos _ _ hk]
     have hk3:P.wordKind s=3:=by
      rw[hwk] at hk ⊢
      split at hk
      ·rename_i h';rw[if_pos h']
      ·exact absurd rfl hk
     simp (disch:=first|assumption|omega|simp only[zS]<;>omega|decide) only[zb1,simprocAttr,hb2]
     rw[hk3]
     exact⟨hE2.upd (.inr (Nat.le_refl _)),.inl ⟨by decide,rfl⟩⟩
    ·rw[bs_neg _ _ hk]
     exact⟨hE2,by simpa using hk⟩
 ·rintro t w' ⟨hE,hk⟩ dd
  refine(sFail0 _ _ _).mono ?_
  rintro e w2 ⟨rfl,rfl⟩
  simp (disch:=first|assumption|omega|simp only[zS]<;>omega|decide) only[zb1,simprocAttr]
  exact⟨hE.alloc _,.inr ⟨hk,_,rfl,hp_alloc_new rfl,hE.size⟩⟩
end Go.Proofs.YtilpjhceemaplaaGreatDoor
namespace Go.Proofs.YtilpjhceemaplaaGreatDoor
theorem twhile(p:UInt8->Bool):∀ (l:P.Bs),(∀ m,m<(l.takeWhile p).length->p (l.getD m 0)=true)/\((l.takeWhile p).length<l.length->p (l.getD (l.takeWhile p).length 0)=false)/\(l.takeWhile p).length≤l.length/\l.take (l.takeWhile p).length=l.takeWhile p
 | []=>⟨fun m h=>absurd h (Nat.not_lt_zero _),fun h=>absurd h (Nat.not_lt_zero _),Nat.le_refl _,rfl⟩
 | c::l=>by
  obtain⟨h1,h2,h3,h4⟩:=twhile p l
  by_cases hc:p c=true
  ·rw[List.takeWhile_cons,if_pos hc]
   refine⟨fun m hm=>?_,fun h=>?_,by simpa using h3,by simp [h4]⟩
   ·cases m with
    | zero=>exact hc
    | succ m=>exact h1 m (by simpa using hm)
   ·exact h2 (by simpa using h)
  ·rw[List.takeWhile_cons,if_neg hc]
   exact⟨fun m h=>absurd h (Nat.not_lt_zero _),fun _=>by simpa using hc,by simp,rfl⟩
theorem getD_drop0(s:P.Bs)(j m:Nat):(s.drop j).getD m 0=s.getD (j+m) 0:=by
 simp [List.getD_eq_getElem?_getD,List.getElem?_drop]
theorem isPrefix_iff(x s:P.Bs)(j:Nat):x.isPrefixOf (s.drop j)=true↔(j+x.length≤s.length\/x=[])/\(s.take (j+x.length)).drop j=x:=by
 rw[List.isPrefixOf_iff_prefix,List.prefix_iff_eq_take,List.drop_take,show j+x.length-j=x.length by omega]
 constructor
 ·intro h
  refine⟨?_,h.symm⟩
  have:=congrArg List.length h
  simp at this
  rcases Nat.lt_or_ge 0 x.length with h0 | h0
  ·left;omega
  ·right;exact List.eq_nil_of_length_eq_zero (by omega)
 ·rintro ⟨-,h⟩
  exact h.symm
theorem signs_ne{x:P.Bs}(h:x∈P.signs):x≠[]/\x.length≤3:=by
 simp only[P.signs,List.mem_cons,List.not_mem_nil,or_false] at h
 rcases h with rfl | rfl | rfl | rfl | rfl | rfl | rfl | rfl | rfl | rfl | rfl | rfl | rfl | rfl | rfl | rfl | rfl | rfl | rfl | rfl | rfl | rfl | rfl<;>decide
def signK(p:P.Bs->Bool)(k:Nat):P.Bs:=((P.signs.take k).find? p).getD []
theorem signK_succ{p:P.Bs->Bool}{k:Nat}(hk:k<23)(h:signK p k=[]):signK p (k+1)=if p (P.signs.getD k [])=true then P.signs.getD k [] else []:=by
 have hl:k<P.signs.length:=hk
 have hn:(P.signs.take k).find? p=none:=by
  cases hf:(P.signs.take k).find? p with
  | none=>rfl
  | some x=>
   rw[signK,hf] at h
   exact absurd h (signs_ne (List.mem_of_mem_take (List.mem_of_find?_eq_some hf))).1
 have hg:P.signs.getD k []=P.signs[k]:=by rw[List.getD_eq_getElem?_getD,List.getElem?_eq_getElem hl];rfl
 rw[signK,List.take_add_one,List.find?_append,hn,List.getElem?_eq_getElem hl,hg]
 simp only[Option.toList,Option.none_or,List.find?_cons,List.find?_nil]
 split<;>rename_i hp
 ·rw[if_pos hp];rfl
 ·rw[if_neg (by simp [hp])];rfl
theorem signK_all(p:P.Bs->Bool):signK p 23=(P.signs.find? p).getD []:=rfl
theorem signK_ne{p:P.Bs->Bool}{k:Nat}(h:signK p k≠[]):signK p 23=signK p k:=by
 have e:P.signs=P.signs.take k++P.signs.drop k:=(List.take_append_drop k _).symm
 rw[signK_all]
 unfold signK at h ⊢
 cases hf:(P.signs.take k).find? p with
 | none=>rw[hf] at h;exact absurd rfl h
 | some x=>rw[e,List.find?_append,hf];rfl
def lexFin(acc:List P.Tok):Sum Nat (List P.Tok)->Sum Nat (List P.Tok)
 | .inl i=>.inl i
 | .inr l=>.inr (acc++l)
def pTail2(T:List P.Tok)(f:Nat)(nm:P.Bs)(l:List P.Ex)(bd:P.Bd)(k:Nat)(vs:List P.Bs):Option (P.Res P.Cl):=
 if P.isT T k [58,45]=true then P.Res.bind (P.pBody T f (k+1) vs 0) fun b k' vars'=>P.musT T [46] ⟨nm,l,b,vars'⟩ k' vars'
 else P.musT T [46] ⟨nm,l,bd,vs⟩ k vs
def pTail1(T:List P.Tok)(f:Nat)(nm:P.Bs)(at_:Nat)(l:List P.Ex)(bd:P.Bd)(k:Nat)(vs:List P.Bs):Option (P.Res P.Cl):=
 if 0≤P.tests nm\/nm=[109,111,100] then some (.err 3 at_) else pTail2 T f nm l bd k vs
end Go.Proofs.YtilpjhceemaplaaGreatDoor
namespace Go.Proofs.YtilpjhceemaplaaGreatDoor
open Go.Proofs.YtilpjhceemaplaaGreatDoor.Sx
section
variable{p0 p1 p2 p3 p4 p5 p6 p7:Value}{w:World}{R:Ending->World->Prop}
def sh_Pr_parser_next(p0:Value)(w:World)(R:Ending->World->Prop):Prop:=
 xwA 69 w R fun x2 w1=>
 nH 67 0 65 p0 w1.drew fun x6=>
 nH 67 1 3 p0 w1.drew fun x10=>
 nrI 65 x6 x10 w1.drew fun x11=>
 nrL 69 x11 w1.drew fun x12=>
 xuS 69 x2 x12 w1.drew R fun v1=>
 nrL 69 x2 v1 fun r=>R (.returned r) v1
theorem sh_Pr_parser_next_ok(h:sh_Pr_parser_next p0 w R):Calls Tryz.prog 16 #[p0] w R:=
 cq (args:=[p0]) (good (fun _=>[]) (fun _=>none) (zN [(1,10)]) (fun _=>none) (fun _=>[]) (fun _=>[]) (fun _=>false) (fun _=>false)) Tryz.func16 rfl (by kernel_rfl) (by kernel_rfl) h
def sh_Pr_parser_fault(p0 p1 p2:Value)(w:World)(R:Ending->World->Prop):Prop:=
 xH 67 4 32 p0 w R fun x9=>
 xrO .eql 32 9 x9 (.int .i64 0) w R fun x10=>
 BS x10 (NC p0 fun x13=>
 xrF 67 x13 4 w R fun x14=>
 xuS 32 x14 p1 w R fun w1=>
 NC p0 fun x17=>
 xrF 67 x17 5 w1 R fun x18=>
 xuS 3 x18 p2 w1 R fun v1=>
 R (.returned (.tuple #[])) v1) (R (.returned (.tuple #[])) w)
theorem sh_Pr_parser_fault_ok(h:sh_Pr_parser_fault p0 p1 p2 w R):Calls Tryz.prog 17 #[p0,p1,p2] w R:=
 cq (args:=[p0,p1,p2]) (good (fun _=>[]) (fun _=>none) (fun _=>0) (fun _=>none) (fun _=>[]) (fun _=>[]) (fun _=>false) (zT [10])) Tryz.func17 rfl (by kernel_rfl) (by kernel_rfl) h
def sh_Pr_parser_is(p0 p1:Value)(w:World)(R:Ending->World->Prop):Prop:=
 xC 16 #[p0] w R fun x7 w1=>
 xwA 69 w1 R fun x5 v1=>
 xuS 69 x5 x7 v1 R fun v2=>
 JN (fun j=>
 xH 67 4 32 p0 v2 R fun x11=>
 xrO .neq 32 11 x11 (.int .i64 0) v2 R fun x12=>BS x12 (
 j (sOf [(28,(.bool true))]) v2) (
 xG 69 0 5 x5 v2 R fun x15=>
 xrO .neq 5 15 x15 (.int .u8 115) v2 R fun x16=>BS x16 (
 xG 69 0 5 x5 v2 R fun x19=>
 xrO .neq 5 19 x19 (.int .u8 97) v2 R fun x20=>BS x20 (
 j (sOf [(28,(.bool true))]) v2) (
 xG 69 1 9 x5 v2 R fun x25=>
 xrT .neq 9 25 26 x25 p1 v2 R fun x27=>
 j (sOf [(28,x27)]) v2)) (
 xG 69 1 9 x5 v2 R fun x25_1=>
 xrT .neq 9 25 26 x25_1 p1 v2 R fun x27_1=>
 j (sOf [(28,x27_1)]) v2)))
 (fun s d v3=>
 BS (s 28) (R (.returned (.bool false)) v3) (xH 67 1 3 p0 v3 R fun x32=>
 xrO .add 3 32 x32 (.int .i64 1) v3 R fun x33=>
 NC p0 fun x34=>
 xrF 67 x34 1 v3 R fun x35=>
 xuS 3 x35 x33 v3 R fun v4=>
 R (.returned (.bool true)) v4))
theorem sh_Pr_parser_is_ok(h:sh_Pr_parser_is p0 p1 w R):Calls Tryz.prog 34 #[p0,p1] w R:=
 cq (args:=[p0,p1]) (good (fun _=>[]) (zO [(2000,[28])]) (fun _=>0) (fun _=>none) (fun _=>[]) (zL [(2000,[])]) (fun _=>false) (zT [4,27,28])) Tryz.func34 rfl (by kernel_rfl) (by kernel_rfl) h
def sh_Pr_parser_must(p0 p1:Value)(w:World)(R:Ending->World->Prop):Prop:=
 xC 34 #[p0,p1] w R fun x7 w1=>
 RD Tryz.prog (Op.unary .not x7) w1 (fun x9=>
 BS x9 (xC 33 #[p0] w1 R fun x11 v1=>
 R (.returned (.tuple #[])) v1) (R (.returned (.tuple #[])) w1)) (PX R)
theorem sh_Pr_parser_must_ok(h:sh_Pr_parser_must p0 p1 w R):Calls Tryz.prog 23 #[p0,p1] w R:=
 cq (args:=[p0,p1]) (good (fun _=>[]) (fun _=>none) (fun _=>0) (fun _=>none) (fun _=>[]) (fun _=>[]) (fun _=>false) (zT [4,7,8,9])) Tryz.func23 rfl (by kernel_rfl) (by kernel_rfl) h
def sh_Pr_parser_enter(p0:Value)(w:World)(R:Ending->World->Prop):Prop:=
 xH 67 3 3 p0 w R fun x7=>
 xrO .add 3 7 x7 (.int .i64 1) w R fun x8=>
 NC p0 fun x9=>
 xrF 67 x9 3 w R fun x10=>
 xuS 3 x10 x8 w R fun w1=>
 xC 16 #[p0] w1 R fun x12 v1=>
 xwA 69 v1 R fun x3 v2=>
 xuS 69 x3 x12 v2 R fun v3=>
 JN (fun j=>
 xH 67 3 3 p0 v3 R fun x16=>
 xrO .gtr 3 16 x16 (.int .i64 8) v3 R fun x17=>
 BS x17 (xG 69 2 3 x3 v3 R fun x20=>
 xC 17 #[p0,(.int .i64 4),x20] v3 R fun x21 v5=>
 j (sOf []) v5) (j (sOf []) v3))
 (fun s d v4=>
 xH 67 4 32 p0 v4 R fun x25=>
 xrO .eql 32 25 x25 (.int .i64 0) v4 R fun x26=>
 R (.returned x26) v4)
theorem sh_Pr_parser_enter_ok(h:sh_Pr_parser_enter p0 w R):Calls Tryz.prog 80 #[p0] w R:=
 cq (args:=[p0]) (good (fun _=>[]) (zO [(4001,[])]) (fun _=>0) (fun _=>none) (fun _=>[]) (zL [(4001,[])]) (fun _=>false) (zT [2,17,26])) Tryz.func80 rfl (by kernel_rfl) (by kernel_rfl) h
def sh_Pr_parser_none(p0:Value)(w:World)(R:Ending->World->Prop):Prop:=
 xC 16 #[p0] w R fun x4 w1=>
 xwA 69 w1 R fun x2 v1=>
 xuS 69 x2 x4 v1 R fun v2=>
 xG 69 2 3 x2 v2 R fun x7=>
 xC 17 #[p0,(.int .i64 2),x7] v2 R fun x8 v3=>
 R (.returned (.tuple #[])) v3
theorem sh_Pr_parser_none_ok(h:sh_Pr_parser_none p0 w R):Calls Tryz.prog 33 #[p0] w R:=
 cq (args:=[p0]) (good (fun _=>[]) (fun _=>none) (fun _=>0) (fun _=>none) (fun _=>[]) (fun _=>[]) (fun _=>false) (fun _=>false)) Tryz.func33 rfl (by kernel_rfl) (by kernel_rfl) h
def sh_Pr_parser_prim(p0:Value)(w:World)(R:Ending->World->Prop):Prop:=
 xwA 111 w R fun x2 w1=>
 xrD 111 #[] w1 R fun x5=>
 xwA 111 w1 R fun x3 v1=>
 xuS 111 x3 x5 v1 R fun v2=>
 xC 80 #[p0] v2 R fun x7 v3=>
 JN (fun j=>
 BS x7 (xC 149 #[p0] v3 R fun x10 v5=>
 xuS 111 x3 x10 v5 R fun v6=>
 j (sOf []) v6) (j (sOf []) v3))
 (fun s d v4=>
 xH 67 3 3 p0 v4 R fun x14=>
 xrO .sub 3 14 x14 (.int .i64 1) v4 R fun x15=>
 NC p0 fun x16=>
 xrF 67 x16 3 v4 R fun x17=>
 xuS 3 x17 x15 v4 R fun v7=>
 xrL 111 x3 v7 R fun x18=>
 xuS 111 x2 x18 v7 R fun v8=>
 nrL 111 x2 v8 fun r=>R (.returned r) v8)
theorem sh_Pr_parser_prim_ok(h:sh_Pr_parser_prim p0 w R):Calls Tryz.prog 129 #[p0] w R:=
 cq (args:=[p0]) (good (fun _=>[]) (zO [(4001,[])]) (fun _=>0) (fun _=>none) (fun _=>[]) (zL [(4001,[])]) (fun _=>false) (zT [4,7,8])) Tryz.func129 rfl (by kernel_rfl) (by kernel_rfl) h
def sh_Pr_parser_list(p0:Value)(w:World)(R:Ending->World->Prop):Prop:=
 xwA 111 w R fun x2 w1=>
 xrD 111 #[(0,(.int .u8 97)),(1,(.string (bs [91,93])))] w1 R fun x10=>
 xwA 111 w1 R fun x3 v1=>
 xuS 111 x3 x10 v1 R fun v2=>
 xC 34 #[p0,(.string (bs [93]))] v2 R fun x12 v3=>
 BS x12 (xrL 111 x3 v3 R fun x14=>
 xuS 111 x2 x14 v3 R fun v4=>
 nrL 111 x2 v4 fun r=>R (.returned r) v4) (LoopW (fun rec s d v5=>
 BS (s 6) (xC 67 #[p0] v5 R fun x17 v6=>
 xwA 111 v6 R fun x7 v7=>
 xuS 111 x7 x17 v7 R fun v8=>
 xrL 111 x7 v8 R fun x19=>
 WR Tryz.prog (Instr.buildSlice 37 1 #[(0,x19)]) v8 (fun x20 v9=>
 WR Tryz.prog (Builtin.append_ #[37,37] 37 #[(s 5),x20]) v9 (fun x21 v10=>
 xC 34 #[p0,(.string (bs [44]))] v10 R fun x23 v11=>
 rec (sOf [(5,x21),(6,x23)]) v11) (PX R)) (PX R)) (xC 34 #[p0,(.string (bs [124]))] v5 R fun x25 v12=>
 JN (fun j=>
 BS x25 (xC 67 #[p0] v12 R fun x28 v14=>
 xuS 111 x3 x28 v14 R fun v15=>
 j (sOf []) v15) (j (sOf []) v12))
 (fun s_1 d_1 v13=>
 xC 23 #[p0,(.string (bs [93]))] v13 R fun x30 v16=>
 xrN 37 ((s 5)) v16 R fun x32=>
 xrO .sub 3 32 x32 (.int .i64 1) v16 R fun x33=>
 LoopW (fun rec_1 s_2 d_2 v17=>
 xrO .geq 3 34 (s_2 9) (.int .i64 0) v17 R fun x35=>
 BS x35 (nrI 37 (s 5) (s_2 9) v17.drew fun x40=>
 nrL 111 x40 v17.drew fun x41=>
 nrL 111 x3 v17.drew fun x42=>
 WR Tryz.prog (Instr.buildSlice 37 2 #[(0,x41),(1,x42)]) v17.drew (fun x43 v18=>
 xrD 111 #[(0,(.int .u8 99)),(1,(.string (bs [46]))),(4,x43)] v18 R fun x44=>
 xuS 111 x3 x44 v18 R fun v19=>
 xrO .sub 3 36 (s_2 9) (.int .i64 1) v19 R fun x37=>
 rec_1 (sOf [(9,x37)]) v19) (PX R)) (xrL 111 x3 v17 R fun x45=>
 xuS 111 x2 x45 v17 R fun v20=>
 nrL 111 x2 v20 fun r_1=>R (.returned r_1) v20))
 (sOf [(9,x33)]) v16)))
 (sOf [(5,(.slice none 0 0)),(6,(.bool true))]) v3)
theorem sh_Pr_parser_list_ok(h:sh_Pr_parser_list p0 w R):Calls Tryz.prog 176 #[p0] w R:=
 cq (args:=[p0]) (good (zL [(7,[5,6]),(16,[9])]) (zO [(13001,[])]) (zN [(18,5)]) (fun _=>none) (zL [(7,[]),(16,[])]) (zL [(13001,[])]) (fun _=>false) (zT [4,6,8,12,13,15,23,25,26,35])) Tryz.func176 rfl (by kernel_rfl) (by kernel_rfl) h
end
end Go.Proofs.YtilpjhceemaplaaGreatDoor
namespace Go.Proofs.YtilpjhceemaplaaGreatDoor
open Go.RowKit Sx
section
variable{pb tb:Nat}{T:List P.Tok}{k:Nat}{vars:List P.Bs}{d:Int}{er at_:Nat}{w:World}
def zb2:=(zA zG0 (zA @sh_Pr_parser_next.eq_1 (zA @al_69 (zA @fa_67_0 (zA @fa_67_1 (zA @ix_65 (zA @ld_3 (zA @ld_65 (zA @ld_69 @st_69)))))))))
theorem rNext (h:RP w pb tb T k vars d er at_) :
  Calls Tryz.prog 16 #[pp pb] w fun e w'=>
   e = .returned (.agg #[.int .u8 (rk (P.tk T k).kind),.string (bs (P.tk T k).text),zi ((P.tk T k).pos)])/\Ext w w':=by
 obtain⟨lc,vv,h⟩:=h
 obtain⟨cs,c1,c3,c4⟩:=h.cs
 have h3:=h.cell
 have l1:=ltOf h3
 have l2:=ltOf c1
 have l3:=h.kt
 refine sh_Pr_parser_next_ok ?_
 simp (disch:=first|assumption|omega|simp only[zS]<;>omega|decide) only[zb2,simprocAttr,h3,c1,c4]
 exact(((FrM.refl _ _).alloc _).drew).upd (.inr (Nat.le_refl _))
def zb3:=(zA zG0 (zA @sh_Pr_parser_fault.eq_1 (zA @fa_67_4 (zA @fa_67_5 (zA @ld_32 (zA @st_3 @st_32))))))
theorem rFault (h:RP w pb tb T k vars d er at_) (c a:Nat) :
  Calls Tryz.prog 17 #[pp pb,zi c,zi a] w fun e w'=>
   e = .returned (.tuple #[])/\RP w' pb tb T k vars d (if er=0 then c else er) (if er=0 then a else at_)/\RFr pb w w':=by
 obtain⟨lc,vv,h⟩:=h
 have h3:=h.cell
 have l1:=ltOf h3
 by_cases he:er=0
 ·subst he
  refine sh_Pr_parser_fault_ok ?_
  simp (disch:=first|assumption|omega|simp only[zS]<;>omega|decide) only[zb3,simprocAttr,h3]
  exact⟨RP.of (h.set h.kt h.dp rfl fun _=>rfl),(FrM.refl _ _).upd (.inl fun _=>.inl rfl)⟩
 ·refine sh_Pr_parser_fault_ok ?_
  simp (disch:=first|assumption|omega|simp only[zS]<;>omega|decide) only[zb3,simprocAttr,h3,if_neg he]
  exact⟨RP.of h,FrM.refl _ _⟩
def zb4:=(zA zG0 (zA @sh_Pr_parser_none.eq_1 (zA @al_69 (zA @fa_69_2 (zA @ld_3 @st_69)))))
theorem rNone (h:RP w pb tb T k vars d er at_) :
  Calls Tryz.prog 33 #[pp pb] w fun e w'=>
   e = .returned (.tuple #[])/\RP w' pb tb T k vars d (if er=0 then 2 else er) (if er=0 then(P.tk T k).pos else at_)/\RFr pb w w':=by
 refine sh_Pr_parser_none_ok ?_
 refine(rNext h).mono ?_
 rintro e w1 ⟨rfl,hf⟩
 have hz:=hf.size
 simp (disch:=first|assumption|omega|simp only[zS]<;>omega|decide) only[zb4,simprocAttr]
 refine(rFault (h.ext ((hf.alloc _).upd (.inr hz))) 2 _).mono ?_
 rintro e w2 ⟨rfl,h2,hf3⟩
 simp only[ends]
 exact⟨h2,((hf.alloc _).upd (.inr hz)).toM.trans hf3⟩
def zb5:=(zA zG0 (zA @sh_Pr_parser_is.eq_1 (zA @al_69 (zA @fa_67_1 (zA @fa_67_4 (zA @fa_69_0 (zA @fa_69_1 (zA @ld_3 (zA @ld_32 (zA @ld_5 (zA @ld_9 (zA @st_3 @st_69))))))))))))
theorem rIs_yes (h:RP w pb tb T k vars d 0 at_) (s:P.Bs) (hs:P.isT T k s=true) :
  Calls Tryz.prog 34 #[pp pb,.string (bs s)] w fun e w'=>
   e = .returned (.bool true)/\RP w' pb tb T (k+1) vars d 0 at_/\RFr pb w w':=by
 obtain⟨lc,vv,hx⟩:=id h
 simp only[P.isT,Bool.and_eq_true,Bool.or_eq_true,beq_iff_eq] at hs
 obtain⟨hk,ht⟩:=hs
 have hkn:k+1<T.length:=hx.tw.next hx.kt (by omega)
 have hl:T.length≤2001:=hx.tw.len
 have l1:=ltOf hx.cell
 refine sh_Pr_parser_is_ok ?_
 refine(rNext h).mono ?_
 rintro e w1 ⟨rfl,hf⟩
 have hz:=hf.size
 have h3:=(hx.ext hf).cell
 have hfin:∀ {w2:World} {kz:Int},Ext w w2->kz=(k+1:Nat)->RP (upd w2 pb (.cells #[.slice (some ⟨tb,0,none⟩) T.length lc,zi kz,vv,zi d,zi (0:Nat),zi at_] 67)) pb tb T (k+1) vars d 0 at_ /\
   RFr pb w (upd w2 pb (.cells #[.slice (some ⟨tb,0,none⟩) T.length lc,zi kz,vv,zi d,zi (0:Nat),zi at_] 67)):=
  fun hf hk=>⟨RP.of ((hx.ext hf).set hkn hx.dp hk fun _=>rfl),hf.toM.upd (.inl fun _=>.inl rfl)⟩
 rcases hk with hk | hk
 ·rw[hk,ht,show rk 4=115 from rfl]
  simp (disch:=first|assumption|omega|simp only[zS]<;>omega|decide) only[zb5,simprocAttr,h3]
  exact hfin ((hf.alloc _).upd (.inr hz)) rfl
 ·rw[hk,ht,show rk 1=97 from rfl]
  simp (disch:=first|assumption|omega|simp only[zS]<;>omega|decide) only[zb5,simprocAttr,h3]
  exact hfin ((hf.alloc _).upd (.inr hz)) rfl
theorem rIs_no(h:RP w pb tb T k vars d er at_)(s:P.Bs)(hs:er≠0\/P.isT T k s=false) :
  Calls Tryz.prog 34 #[pp pb,.string (bs s)] w fun e w'=>e = .returned (.bool false)/\RP w' pb tb T k vars d er at_/\RFr pb w w':=by
 obtain⟨lc,vv,hx⟩:=id h
 have h4:=hx.kind4
 have l1:=ltOf hx.cell
 have hfin:∀ {w2:World},Ext w w2->RP w2 pb tb T k vars d er at_/\RFr pb w w2:=fun hf=>⟨h.ext hf,hf.toM⟩
 refine sh_Pr_parser_is_ok ?_
 refine(rNext h).mono ?_
 rintro e w1 ⟨rfl,hf⟩
 have hz:=hf.size
 have h3:=(hx.ext hf).cell
 have s1:=rk_sign h4
 have s2:=rk_atom h4
 by_cases he:er=0
 ·subst he
  have hs:=hs.resolve_left (by simp)
  by_cases hk:(P.tk T k).kind=4\/(P.tk T k).kind=1
  ·have ht:¬ (P.tk T k).text=s:=by
    intro ht
    simp only[P.isT,ht,beq_self_eq_true,Bool.and_true,Bool.or_eq_false_iff,beq_eq_false_iff_ne] at hs
    omega
   rcases hk with hk | hk
   ·rw[hk,show rk 4=115 from rfl]
    simp (disch:=first|assumption|omega|simp only[zS]<;>omega|decide) only[zb5,simprocAttr,h3]
    exact hfin ((hf.alloc _).upd (.inr hz))
   ·rw[hk,show rk 1=97 from rfl]
    simp (disch:=first|assumption|omega|simp only[zS]<;>omega|decide) only[zb5,simprocAttr,h3]
    exact hfin ((hf.alloc _).upd (.inr hz))
  ·generalize rk (P.tk T k).kind=q at *
   have q1:¬ (q:Int)=115:=by omega
   have q2:¬ (q:Int)=97:=by omega
   simp (disch:=first|assumption|omega|simp only[zS]<;>omega|decide) only[zb5,simprocAttr,h3]
   exact hfin ((hf.alloc _).upd (.inr hz))
 ·simp (disch:=first|assumption|omega|simp only[zS]<;>omega|decide) only[zb5,simprocAttr,h3]
  exact hfin ((hf.alloc _).upd (.inr hz))
def zb6:=(zA zG0 @sh_Pr_parser_must.eq_1)
theorem rMust_yes (h:RP w pb tb T k vars d 0 at_) (s:P.Bs) (hs:P.isT T k s=true) :
  Calls Tryz.prog 23 #[pp pb,.string (bs s)] w fun e w'=>
   e = .returned (.tuple #[])/\RP w' pb tb T (k+1) vars d 0 at_/\RFr pb w w':=by
 refine sh_Pr_parser_must_ok ?_
 refine(rIs_yes h s hs).mono ?_
 rintro e w1 ⟨rfl,h1⟩
 simp (disch:=first|assumption|omega|simp only[zS]<;>omega|decide) only[zb6,simprocAttr]
 exact h1
theorem rMust_no(h:RP w pb tb T k vars d er at_)(s:P.Bs)(hs:er≠0\/P.isT T k s=false) :
  Calls Tryz.prog 23 #[pp pb,.string (bs s)] w fun e w'=>
   e = .returned (.tuple #[])/\RP w' pb tb T k vars d (if er=0 then 2 else er) (if er=0 then(P.tk T k).pos else at_)/\RFr pb w w':=by
 refine sh_Pr_parser_must_ok ?_
 refine(rIs_no h s hs).mono ?_
 rintro e w1 ⟨rfl,h1,hf1⟩
 simp (disch:=first|assumption|omega|simp only[zS]<;>omega|decide) only[zb6,simprocAttr]
 refine(rNone h1).mono ?_
 rintro e w2 ⟨rfl,h2,hf2⟩
 simp only[ends]
 exact⟨h2,hf1.trans hf2⟩
def zb7:=(zA zG0 (zA @sh_Pr_parser_enter.eq_1 (zA @al_69 (zA @fa_67_3 (zA @fa_67_4 (zA @fa_69_2 (zA @ld_3 (zA @ld_32 (zA @st_3 @st_69)))))))))
theorem rEnter_ok (h:RP w pb tb T k vars d 0 0) (hd:0≤d) (hd8:d+1≤8) :
  Calls Tryz.prog 80 #[pp pb] w fun e w'=>
   e = .returned (.bool true)/\RP w' pb tb T k vars (d+1) 0 0/\RFr pb w w':=by
 obtain⟨lc,vv,hx⟩:=id h
 have l1:=ltOf hx.cell
 have h3:=hx.cell
 refine sh_Pr_parser_enter_ok ?_
 simp (disch:=first|assumption|omega|simp only[zS]<;>omega|decide) only[zb7,Nat.reduceAdd,Nat.reduceMul,Nat.reduceLeDiff,Nat.reduceEqDiff,Int.reduceToNat,Int.reduceAdd,Int.reduceLT,Int.reduceLE,↓reduceIte,h3]
 have hx1:=hx.set (k':=k) (kz:=k) (d':=d+1) (er':=0) (at':=0) hx.kt (by omega) rfl fun _=>rfl
 have hf1:RFr pb w (upd w pb (.cells #[.slice (some ⟨tb,0,none⟩) T.length lc,zi k,vv,zi (d+1),zi (0:Nat),zi (0:Nat)] 67)):=(FrM.refl _ _).upd (.inl fun _=>.inl rfl)
 refine(rNext (RP.of hx1)).mono ?_
 rintro e w1 ⟨rfl,hf⟩
 have hz:=hf.size
 rw[size_upd] at hz
 have h4:=(hx1.ext hf).cell
 simp (disch:=first|assumption|omega|simp only[zS]<;>omega|decide) only[zb7,Nat.reduceAdd,Nat.reduceMul,Nat.reduceLeDiff,Nat.reduceEqDiff,Int.reduceToNat,Int.reduceAdd,Int.reduceLT,Int.reduceLE,↓reduceIte,h4]
 exact⟨rfl,(RP.of hx1).ext ((hf.alloc _).upd (.inr (by rw[size_upd];exact hz))),hf1.trans ((hf.alloc _).upd (.inr (by rw[size_upd];exact hz))).toM⟩
theorem rEnter_deep(h:RP w pb tb T k vars d 0 0)(hd:0≤d/\d≤100)(hd8:¬ d+1≤8) :
  Calls Tryz.prog 80 #[pp pb] w fun e w'=>
   e = .returned (.bool false)/\RP w' pb tb T k vars (d+1) 4 (P.tk T k).pos/\RFr pb w w':=by
 obtain⟨lc,vv,hx⟩:=id h
 have l1:=ltOf hx.cell
 have h3:=hx.cell
 refine sh_Pr_parser_enter_ok ?_
 simp (disch:=first|assumption|omega|simp only[zS]<;>omega|decide) only[zb7,Nat.reduceAdd,Nat.reduceMul,Nat.reduceLeDiff,Nat.reduceEqDiff,Int.reduceToNat,Int.reduceAdd,Int.reduceLT,Int.reduceLE,↓reduceIte,h3]
 have hx1:=hx.set (k':=k) (kz:=k) (d':=d+1) (er':=0) (at':=0) hx.kt (by omega) rfl fun _=>rfl
 have hf1:RFr pb w (upd w pb (.cells #[.slice (some ⟨tb,0,none⟩) T.length lc,zi k,vv,zi (d+1),zi (0:Nat),zi (0:Nat)] 67)):=(FrM.refl _ _).upd (.inl fun _=>.inl rfl)
 refine(rNext (RP.of hx1)).mono ?_
 rintro e w1 ⟨rfl,hf⟩
 have hz:=hf.size
 rw[size_upd] at hz
 have h4:=(hx1.ext hf).cell
 simp (disch:=first|assumption|omega|simp only[zS]<;>omega|decide) only[zb7,Nat.reduceAdd,Nat.reduceMul,Nat.reduceLeDiff,Nat.reduceEqDiff,Int.reduceToNat,Int.reduceAdd,Int.reduceLT,Int.reduceLE,↓reduceIte,h4]
 refine(rFault ((RP.of hx1).ext ((hf.alloc _).upd (.inr (by rw[size_upd];exact hz)))) 4 _).mono ?_
 rintro e w2 ⟨rfl,h2,hf2⟩
 rw[if_pos rfl,if_pos rfl] at h2
 obtain⟨lc',vv',hx2⟩:=id h2
 have h5:=hx2.cell
 simp (disch:=first|assumption|omega|simp only[zS]<;>omega|decide) only[zb7,Nat.reduceAdd,Nat.reduceMul,Nat.reduceLeDiff,Nat.reduceEqDiff,Int.reduceToNat,Int.reduceAdd,Int.reduceLT,Int.reduceLE,↓reduceIte,h5]
 exact⟨rfl,h2,(hf1.trans ((hf.alloc _).upd (.inr (by rw[size_upd];exact hz))).toM).trans hf2⟩
end
def IsRw(F:Nat->Prop)(w:World)(et m:Nat)(v:Value)(n:Nat)(vs:List Value):Prop:=
 (n=0/\vs=[]/\v = .slice none 0 0) \/
 ∃ b cap cs,v = .slice (some ⟨b,0,none⟩) n cap/\F b/\w.heap[b]?=some (.cells cs et (0,0))/\m*n≤cs.size/\cs.toList.take (m*n)=vs/\n≤9223372036854775807
theorem IsRw.mono{F F':Nat->Prop}{w w':World}{et m:Nat}{v:Value}{n:Nat}{vs:List Value}(h:IsRw F w et m v n vs)(hf:∀ b,F b->F' b)
  (hw:∀ b cs,F b->w.heap[b]?=some (.cells cs et (0,0))->w'.heap[b]?=some (.cells cs et (0,0))):IsRw F' w' et m v n vs:=by
 rcases h with h | ⟨b,cap,cs,h1,h2,h3,h4,h5⟩
 ·exact .inl h
 ·exact .inr ⟨b,cap,cs,h1,hf b h2,hw b cs h2 h3,h4,h5⟩
theorem IsRw.shape{F:Nat->Prop}{w:World}{et m:Nat}{v:Value}{n:Nat}{vs:List Value}(h:IsRw F w et m v n vs):∃ a c,v = .slice a n c:=by
 rcases h with⟨rfl,_,h⟩| ⟨b,cap,cs,h,_⟩
 ·exact⟨_,_,h⟩
 ·exact⟨_,_,h⟩
mutual
def IsRx (F:Nat->Prop) (w:World) (l:List Value):P.Ex->Prop
 | .mk kind name n k args=>∃ av vs,l=[.int .u8 kind,.string (bs name),.int .i64 n,.int .i64 k,av]/\IsRw F w 111 5 av args.length vs/\IsRxs F w vs args
 termination_by structural x=>x
def IsRxs (F:Nat->Prop) (w:World) (vs:List Value):List P.Ex->Prop
 | []=>vs=[]
 | x::xs=>∃ l r,vs=l++r/\IsRx F w l x/\IsRxs F w r xs
 termination_by structural x=>x
end
abbrev Keeps(F:Nat->Prop)(et:Nat)(w w':World):Prop:=∀ b cs,F b->w.heap[b]?=some (.cells cs et (0,0))->w'.heap[b]?=some (.cells cs et (0,0))
mutual
theorem IsRx.mono {F F':Nat->Prop} {w w':World} (hf:∀ b,F b->F' b) (hw:Keeps F 111 w w'):∀ (x:P.Ex) (l:List Value),IsRx F w l x->IsRx F' w' l x
 | .mk kind name n k args,l,h=>by
  unfold IsRx at h ⊢
  obtain⟨av,vs,h1,h2,h3⟩:=h
  exact⟨av,vs,h1,h2.mono hf hw,IsRxs.mono hf hw args vs h3⟩
 termination_by structural x=>x
theorem IsRxs.mono {F F':Nat->Prop} {w w':World} (hf:∀ b,F b->F' b) (hw:Keeps F 111 w w'):∀ (xs:List P.Ex) (vs:List Value),IsRxs F w vs xs->IsRxs F' w' vs xs
 | [],vs,h=>by unfold IsRxs at h ⊢;exact h
 | x::xs,vs,h=>by
  unfold IsRxs at h ⊢
  obtain⟨l,r,h1,h2,h3⟩:=h
  exact⟨l,r,h1,IsRx.mono hf hw x l h2,IsRxs.mono hf hw xs r h3⟩
 termination_by structural x=>x
end
theorem IsRx.len{F:Nat->Prop}{w:World}{l:List Value}{x:P.Ex}(h:IsRx F w l x):∃ a b c d e,l=[a,b,c,d,e]/\a.oneCell'=true/\b.oneCell'=true/\c.oneCell'=true/\d.oneCell'=true/\e.oneCell'=true:=by
 cases x
 unfold IsRx at h
 obtain⟨av,vs,rfl,h2,-⟩:=h
 obtain⟨a,c,rfl⟩:=h2.shape
 exact⟨_,_,_,_,_,rfl,rfl,rfl,rfl,rfl,rfl⟩
theorem IsRxs.snoc{F:Nat->Prop}{w:World}{l:List Value}{x:P.Ex}:∀ {xs:List P.Ex} {vs:List Value},IsRxs F w vs xs->IsRx F w l x->IsRxs F w (vs++l) (xs++[x])
 | [],vs,h,hx=>by
  unfold IsRxs at h
  subst h
  show IsRxs F w ([]++l) (x::[])
  unfold IsRxs
  exact⟨l,[],by simp,hx,by unfold IsRxs;rfl⟩
 | y::ys,vs,h,hx=>by
  unfold IsRxs at h
  obtain⟨m,r,rfl,h2,h3⟩:=h
  show IsRxs F w (m++r++l) (y::(ys++[x]))
  unfold IsRxs
  exact⟨m,r++l,by simp,h2,IsRxs.snoc h3 hx⟩
theorem IsRxs.length{F:Nat->Prop}{w:World}:∀ {xs:List P.Ex} {vs:List Value},IsRxs F w vs xs->vs.length=5*xs.length
 | [],vs,h=>by unfold IsRxs at h;subst h;rfl
 | x::xs,vs,h=>by
  unfold IsRxs at h
  obtain⟨l,r,rfl,h2,h3⟩:=h
  obtain⟨a,b,c,d,e,rfl,-⟩:=h2.len
  have:=IsRxs.length h3
  simp
  omega
theorem IsRxs.at{F:Nat->Prop}{w:World}:∀ {xs:List P.Ex} {vs:List Value} (j:Nat) (hj:j<xs.length),IsRxs F w vs xs->IsRx F w ((vs.drop (5*j)).take 5) xs[j]
 | x::xs,vs,0,_,h=>by
  unfold IsRxs at h
  obtain⟨l,r,rfl,h2,h3⟩:=h
  obtain⟨a,b,c,d,e,rfl,-⟩:=h2.len
  exact h2
 | x::xs,vs,j+1,hj,h=>by
  unfold IsRxs at h
  obtain⟨l,r,rfl,h2,h3⟩:=h
  obtain⟨a,b,c,d,e,rfl,-⟩:=h2.len
  have:=IsRxs.at (w:=w) (F:=F) j (by simpa using hj) h3
  have e1:5*(j+1)=5+5*j:=by omega
  rw[e1,<- List.drop_drop]
  exact this
mutual
def IsRb (F:Nat->Prop) (w:World) (l:List Value):P.Bd->Prop
 | .mk kind name args parts=>∃ av pv vs us,l=[.int .u8 kind,.string (bs name),av,pv]/\IsRw F w 111 5 av args.length vs/\IsRxs F w vs args /\
  IsRw F w 40 4 pv parts.length us/\IsRbs F w us parts
 termination_by structural x=>x
def IsRbs (F:Nat->Prop) (w:World) (vs:List Value):List P.Bd->Prop
 | []=>vs=[]
 | x::xs=>∃ l r,vs=l++r/\IsRb F w l x/\IsRbs F w r xs
 termination_by structural x=>x
end
mutual
theorem IsRb.mono {F F':Nat->Prop} {w w':World} (hf:∀ b,F b->F' b) (hw:Keeps F 111 w w') (hb:Keeps F 40 w w'):∀ (x:P.Bd) (l:List Value),IsRb F w l x->IsRb F' w' l x
 | .mk kind name args parts,l,h=>by
  unfold IsRb at h ⊢
  obtain⟨av,pv,vs,us,h1,h2,h3,h4,h5⟩:=h
  exact⟨av,pv,vs,us,h1,h2.mono hf hw,IsRxs.mono hf hw args vs h3,h4.mono hf hb,IsRbs.mono hf hw hb parts us h5⟩
 termination_by structural x=>x
theorem IsRbs.mono {F F':Nat->Prop} {w w':World} (hf:∀ b,F b->F' b) (hw:Keeps F 111 w w') (hb:Keeps F 40 w w'):∀ (xs:List P.Bd) (vs:List Value),IsRbs F w vs xs->IsRbs F' w' vs xs
 | [],vs,h=>by unfold IsRbs at h ⊢;exact h
 | x::xs,vs,h=>by
  unfold IsRbs at h ⊢
  obtain⟨l,r,h1,h2,h3⟩:=h
  exact⟨l,r,h1,IsRb.mono hf hw hb x l h2,IsRbs.mono hf hw hb xs r h3⟩
 termination_by structural x=>x
end
theorem IsRb.len{F:Nat->Prop}{w:World}{l:List Value}{x:P.Bd}(h:IsRb F w l x):∃ a b c d,l=[a,b,c,d]/\a.oneCell'=true/\b.oneCell'=true/\c.oneCell'=true/\d.oneCell'=true:=by
 cases x
 unfold IsRb at h
 obtain⟨av,pv,vs,us,rfl,h2,-,h4,-⟩:=h
 obtain⟨a,c,rfl⟩:=h2.shape
 obtain⟨a,c,rfl⟩:=h4.shape
 exact⟨_,_,_,_,rfl,rfl,rfl,rfl,rfl⟩
theorem IsRbs.snoc{F:Nat->Prop}{w:World}{l:List Value}{x:P.Bd}:∀ {xs:List P.Bd} {vs:List Value},IsRbs F w vs xs->IsRb F w l x->IsRbs F w (vs++l) (xs++[x])
 | [],vs,h,hx=>by
  unfold IsRbs at h
  subst h
  show IsRbs F w ([]++l) (x::[])
  unfold IsRbs
  exact⟨l,[],by simp,hx,by unfold IsRbs;rfl⟩
 | y::ys,vs,h,hx=>by
  unfold IsRbs at h
  obtain⟨m,r,rfl,h2,h3⟩:=h
  show IsRbs F w (m++r++l) (y::(ys++[x]))
  unfold IsRbs
  exact⟨m,r++l,by simp,h2,IsRbs.snoc h3 hx⟩
theorem IsRbs.length{F:Nat->Prop}{w:World}:∀ {xs:List P.Bd} {vs:List Value},IsRbs F w vs xs->vs.length=4*xs.length
 | [],vs,h=>by unfold IsRbs at h;subst h;rfl
 | x::xs,vs,h=>by
  unfold IsRbs at h
  obtain⟨l,r,rfl,h2,h3⟩:=h
  obtain⟨a,b,c,d,rfl,-⟩:=h2.len
  have:=IsRbs.length h3
  simp
  omega
theorem wr_append{P:Program}{t ty e:TypeId}{i:TypeInfo}{z:Value}{size bytes:Nat}(ht:P.underlying t=some (.slice e))(hi:P.info? e=some i)(hz:i.zero=some z)
  (hsize:i.size=size) (hby:i.bytes=bytes) (hzs:z.cells.size=size) (hsz:0<size) {w:World} {base:Nat}
  {v:Value} {n:Nat} {xs:List Value} (hown:w.ownsRow base e size v n xs) {b m c:Nat} {cs:Array Value} {T:TypeId} {zz:Nat×Nat} (hb:w.heap[b]?=some (.cells cs T zz)) (hl:cs.toList.length=m*size) (h1:∀ u∈cs.toList,u.oneCell'=true)
  (hn:n+m≤1000000) (hby2:bytes≤1000) (hbase:base≤w.heap.size) {K:Value->World->Prop} {X:Value->World->Prop}
  (h:∀ v' w',w'.ownsRow base e size v' (n+m) (xs++cs.toList)->w.grownBy w' v.ownBlock->(v'.ownBlock=v.ownBlock\/∀ k,v'.ownBlock=some k->w.heap.size≤k)->K v' w') :
  WR P (Builtin.append_ #[t,t] ty #[v,.slice (some ⟨b,0,none⟩) m c]) w K X:=by
 have hb2:(n+m)*bytes≤1000000*1000:=Nat.mul_le_mul hn hby2
 obtain⟨v',w',r1,r2,r3,r4⟩:=run_append_own2 (P:=P) w base t ty e i z size bytes ht hi hz hsize hby hzs hsz v n xs hown ⟨b,0,none⟩ m c cs.toList hl (fun j u hu=>by
  rw[addr_add,Nat.zero_add];exact cellOf hb (by simpa using hu)) h1 (by unfold maxLen;omega) (by omega) hbase
 rw[wr_ok r1]
 exact h v' w' r2 r3 r4
theorem FrM.grow{M:Nat->Obj->Prop}{a b c:World}(h:FrM M a b){r:Option Nat}(hg:b.grownBy c r)(hr:∀ k,r=some k->a.heap.size≤k):FrM M a c:=
 ⟨hg.os.trans h.os,hg.tape.trans h.tape,hg.output.trans h.output,Nat.le_trans h.size hg.size,fun i o hi hm=>by
  have:=ltOf hi
  have h1:=h.block i o hi hm
  rw[hg.block i (ltOf h1) (fun e=>by have:=hr i e.symm;omega)];exact h1⟩
theorem own_slice{w:World}{base e size n:Nat}{v:Value}{xs:List Value}(h:w.ownsRow base e size v n xs):∃ a c,v = .slice a n c:=by
 rcases h.2 with⟨rfl,rfl⟩| ⟨g,cap,cur,rfl,_⟩
 ·exact⟨_,_,rfl⟩
 ·exact⟨_,_,rfl⟩
theorem own_rw{w:World}{base e size n:Nat}{v:Value}{xs:List Value}{F:Nat->Prop}(h:w.ownsRow base e size v n xs)(hF:∀ k,base≤k->k<w.heap.size->F k):IsRw F w e size v n xs:=by
 obtain⟨h0,h⟩:=h
 rcases h with⟨rfl,rfl⟩| ⟨g,cap,cur,rfl,h1,h2,h3,h4,h5,h6⟩
 ·exact .inl ⟨rfl,List.eq_nil_of_length_eq_zero (by simpa using h0),rfl⟩
 ·refine .inr ⟨g,cap,cur,rfl,hF g h1 (ltOf h2),h2,?_,by rw[Nat.mul_comm];exact h6,by unfold maxLen at h4;omega⟩
  rw[h5,Nat.mul_comm]
  exact Nat.mul_le_mul_right _ h3
theorem own_grow{w w':World}{base base' e e' size size' n n':Nat}{v u:Value}{xs xs':List Value}(h:w.ownsRow base e size v n xs)(hu:w.ownsRow base' e' size' u n' xs')(hne:e≠e')
  (hg:w.grownBy w' u.ownBlock):w'.ownsRow base e size v n xs:=by
 obtain⟨h0,h⟩:=h
 refine⟨h0,?_⟩
 rcases h with h | ⟨g,cap,cur,rfl,h1,h2,h3⟩
 ·exact .inl h
 ·refine .inr ⟨g,cap,cur,rfl,h1,?_,h3⟩
  rw[hg.block g (ltOf h2) (fun e1=>?_)]
  ·exact h2
  ·rcases hu.2 with⟨rfl,_⟩| ⟨g',cap',cur',rfl,_,h4,_⟩
   ·cases e1
   ·simp only[Value.ownBlock,Option.some.injEq] at e1
    subst e1
    rw[h2] at h4
    injection h4 with h4
    injection h4 with _ h4
    exact hne h4
theorem RP.grow{w w':World}{pb tb:Nat}{T:List P.Tok}{k:Nat}{vars:List P.Bs}{d:Int}{er at_:Nat}(h:RP w pb tb T k vars d er at_){base' e' size' n':Nat}{u:Value}{xs':List Value}
  (hu:w.ownsRow base' e' size' u n' xs') (hne:9≠e') (hb:pb<base') (hg:w.grownBy w' u.ownBlock):RP w' pb tb T k vars d er at_:=by
 obtain⟨lc,vv,tw,lt,kt,nv,dp,⟨cs,c1,c2⟩,h1,h2,h3,g⟩:=h
 have hk:∀ b,b≤pb->b<w.heap.size->w'.heap[b]?=w.heap[b]?:=fun b hb1 hb2=>hg.block b hb2 (fun e1=>by
  have:=(hu.lt b e1.symm).1
  omega)
 exact⟨lc,vv,tw,lt,kt,nv,dp,⟨cs,by rw[hk tb (by omega) (ltOf c1)];exact c1,c2⟩,h1,h2,by rw[hk pb (Nat.le_refl _) (ltOf h3)];exact h3,own_grow g hu hne hg⟩
def scells:List P.Tok->List Value
 | []=>[]
 | t::l=>.int .i64 t.kind::.string (bs t.text)::.int .i64 t.pos::scells l
theorem scells_snoc:∀ (l:List P.Tok) (t:P.Tok),scells (l++[t])=scells l++[zi t.kind,.string (bs t.text),zi t.pos]
 | [],t=>rfl
 | u::l,t=>by
  show _::_::_::scells (l++[t])=_
  rw[scells_snoc l t]
  rfl
theorem scells_at:∀ (l:List P.Tok) (j:Nat),j<l.length->(scells l)[j*3]?=some (zi (P.tk l j).kind)/\(scells l)[j*3+1]?=some (.string (bs (P.tk l j).text))/\(scells l)[j*3+2]?=some (zi (P.tk l j).pos)
 | [],j,h=>absurd h (Nat.not_lt_zero _)
 | u::l,0,_=>⟨rfl,rfl,rfl⟩
 | u::l,j+1,h=>by
  have:=scells_at l j (by simpa using h)
  have e:(j+1)*3=j*3+3:=by omega
  rw[e]
  exact this
theorem Tryz.infoSTok:(Tryz.prog.info? 157).map (fun i=>(i.zero,i.size,i.bytes))=some (some (.agg #[zi 0,.string (bs []),zi 0]),3,32):=by kernel_rfl
theorem wr_appendST{w:World}{base:Nat}{v:Value}{acc:List P.Tok}(hown:w.ownsRow base 157 3 v acc.length (scells acc)){b m:Nat}{kd:Nat}{tx:P.Bs}{ps:Nat}{kv tv pv:Value}
  (hb:w.heap[b]?=some (.cells #[kv,tv,pv] 157)) (hk:kv=zi kd) (ht:tv = .string (bs tx)) (hp:pv=zi ps)
  (hn:acc.length≤100000) (hbase:base≤w.heap.size) {K:Value->World->Prop} {X:Value->World->Prop}
  (h:∀ v' w',w'.ownsRow base 157 3 v' (acc++([⟨kd,tx,ps⟩]:List P.Tok)).length (scells (acc++([⟨kd,tx,ps⟩]:List P.Tok)))->w.grownBy w' v.ownBlock->(v'.ownBlock=v.ownBlock\/∀ k,v'.ownBlock=some k->w.heap.size≤k)->K v' w') :
  WR Tryz.prog (Builtin.append_ #[158,158] 158 #[v,.slice (some ⟨b,0,none⟩) 1 m]) w K X:=by
 subst hk ht hp
 obtain⟨i,hi,h0⟩:=Option.map_eq_some_iff.1 Tryz.infoSTok
 simp only[Prod.mk.injEq] at h0
 obtain⟨hz,hs,hbt⟩:=h0
 refine wr_append (m:=1) (t:=158) (e:=157) (by kernel_rfl) hi hz hs hbt rfl (by decide) hown hb rfl (fun u hu=>?_) (by omega) (by decide) hbase ?_
 ·simp only[List.mem_cons,List.not_mem_nil,or_false] at hu
  rcases hu with rfl | rfl | rfl<;>rfl
 ·intro v' w' h1 h2 h3
  refine h v' w' ?_ h2 h3
  rw[scells_snoc,List.length_append]
  exact h1
def STabS(w:World):Prop:=∃ cs T z,w.heap[1]?=some (.cells cs T z)/\23≤cs.size/\cs.toList.take 23=P.signs.map fun s=>.string (bs s)
theorem STabS.ext{w w':World}(h:STabS w)(hE:Ext w w'):STabS w':=by
 obtain⟨cs,T,z,h1,h2⟩:=h
 exact⟨cs,T,z,hE.ext _ _ h1,h2⟩
def SPostL(w:World)(s:P.Bs)(e:Ending)(w':World):Prop:=
 Ext w w'/\if 2000<s.length then faulted 1 0 w w' e else match P.lex s with
 | .inl i=>faulted 2 i w w' e
 | .inr T=>∃ v,e = .returned v/\w'.ownsRow w.heap.size 157 3 v T.length (scells T)
theorem faulted_back{c a:Int}{w w1 w2:World}{e:Ending}(h:faulted c a w1 w2 e)(hw:w.heap.size≤w1.heap.size):faulted c a w w2 e:=by
 obtain⟨b,h1,h2,h3⟩:=h
 exact⟨b,h1,h2,by omega⟩
theorem sFail0F(c a:Int)(w:World):Calls Tryz.prog 53 #[zi c,zi a] w fun e w'=>faulted c a w w' e/\Ext w w':=by
 refine(sFail0 c a w).mono ?_
 rintro e w' ⟨rfl,rfl⟩
 exact⟨⟨_,rfl,hp_alloc_new rfl,Nat.le_refl _⟩,(FrM.refl _ _).alloc _⟩
def zb8:=(zA zG0 (zA @sh_s_lex.eq_1 (zA @bd_157 (zA @br_158_1 (zA @ch_9 (zA @ld_272 (zA @ln_9 (zA @sl_9 (zA @slh_9 @xa_272)))))))))
def zb9:=(zA zG0 (zA @sh_s_lex.eq_1 (zA @bd_157 (zA @br_158_1 (zA @ch_9 (zA @ld_272 (zA @ln_9 (zA @sl_9 (zA @slh_9 (zA @xa_272 @bs_dec))))))))))
set_option maxHeartbeats 1000000 in
theorem sLex (s:P.Bs) (w:World) (hl:s.length≤100000) (hT:STabS w):Calls Tryz.prog 92 #[.string (bs s)] w (SPostL w s):=by
 refine sh_s_lex_ok ?_
 refine⟨fun _ w'=>w'=w/\s.length≤2000,?_,?_⟩
 ·by_cases h2:2000<s.length
  ·simp (disch:=first|assumption|omega|simp only[zS]<;>omega|decide) only[zb8,Nat.reduceAdd,Nat.reduceMul,Nat.reduceLeDiff,Nat.reduceEqDiff,Int.reduceToNat,Int.reduceAdd,Int.reduceLT,Int.reduceLE,↓reduceIte]
   refine(sFail0F _ _ _).mono ?_
   rintro e w1 ⟨hf,hE⟩
   obtain⟨b,rfl,h1,h3⟩:=hf
   simp (disch:=first|assumption|omega|simp only[zS]<;>omega|decide) only[zb8,Nat.reduceAdd,Nat.reduceMul,Nat.reduceLeDiff,Nat.reduceEqDiff,Int.reduceToNat,Int.reduceAdd,Int.reduceLT,Int.reduceLE,↓reduceIte]
   refine⟨hE,?_⟩
   rw[if_pos h2]
   exact⟨b,rfl,h1,h3⟩
  ·simp (disch:=first|assumption|omega|simp only[zS]<;>omega|decide) only[zb8,Nat.reduceAdd,Nat.reduceMul,Nat.reduceLeDiff,Nat.reduceEqDiff,Int.reduceToNat,Int.reduceAdd,Int.reduceLT,Int.reduceLE,↓reduceIte]
   omega
 ·rintro _ w1 ⟨rfl,hl2⟩ _
  refine⟨fun n t w2=>Ext w1 w2/\∃ j acc f q,n=s.length-j/\j≤s.length/\acc.length≤j/\t 3=zi j/\w2.ownsRow w1.heap.size 157 3 (t 2) acc.length (scells acc) /\
   P.lexGo f (s.drop j) j=some q/\lexFin acc q=P.lex s,⟨s.length,FrM.refl _ _,0,[],_,_,rfl,Nat.zero_le _,Nat.le_refl _,rfl,World.ownsRow_nil _ _ _ _,P.lex_eq s,?_⟩,?_⟩
  ·cases P.lex s<;>rfl
  intro n t dd w2 hI
  refine toPr ?_
  obtain⟨hE,j,acc,f,q,rfl,hj,haj,h3,hown,hq,hfin⟩:=hI
  have hs1:=hE.size
  by_cases hlt:j<s.length
  ·obtain⟨c,r,hcr⟩:∃ c r,s.drop j=c::r:=⟨s[j],s.drop (j+1),List.drop_eq_getElem_cons hlt⟩
   have hcg:s.getD j 0=c:=by
    rw[List.drop_eq_getElem_cons hlt] at hcr
    injection hcr with h _
    rw[List.getD_eq_getElem?_getD,List.getElem?_eq_getElem hlt,<- h];rfl
   have hr:s.drop (j+1)=r:=by
    rw[List.drop_eq_getElem_cons hlt] at hcr
    injection hcr
   have hc256:=c.toNat_lt
   cases f with
   | zero=>rw[P.lexGo] at hq;cases hq
   | succ f=>
   rw[hcr,P.lexGo] at hq
   have hbl:(P.blank c=true)↔((c.toNat:Int)=32\/(c.toNat:Int)=10):=by
    have e1:c=32↔c.toNat=32:=by rw[<- UInt8.toNat_inj];rfl
    have e2:c=10↔c.toNat=10:=by rw[<- UInt8.toNat_inj];rfl
    simp only[P.blank,Bool.or_eq_true,beq_iff_eq,e1,e2]
    omega
   simp (disch:=first|assumption|omega|simp only[zS]<;>omega|decide) only[sh_s_lex,Pr,PX,PC,NX,ends,fillL,wrL,sOf,Nat.reduceAdd,Nat.reduceMul,Nat.reduceLeDiff,Nat.reduceEqDiff,Int.reduceToNat,Int.reduceAdd,Int.reduceLT,Int.reduceLE,↓reduceIte,forall_const,eq_self,jn_e,nc_ptr,nc_iface,nc_func,bs_true,bs_false,bs_pos,bs_neg,bo_add,bo_sub,bo_mul,bo_lss,bo_leq,bo_gtr,bo_geq,bo_eql,bo_neq,bo_eqs,bo_nes,un_not,un_neg,rd_extract0,rd_extract1,rd_extract2,rd_panic_iface,wr_func,wr_box,ldK_e,ldV_some,xaK_some,ldN_e,stK_e,blK_some,brK_some,hp_alloc_old,hp_alloc_new,hp_upd_same,hp_upd_other,hp_drew,sz_drew,size_upd,size_alloc,upd_upd,cells_agg,cells_aggA,cells_stringA,cells_intA,cells_sliceA,cells_pointerA,cells_int,cells_bool,cells_string,cells_slice,cells_pointer,cells_iface,cells_nilIface,cells_func,cells_map,one_int,one_bool,one_string,one_slice,one_pointer,one_iface,one_nilIface,one_func,one_map,i64w,u8w,df_func,lv_ret,lv_panic,Int.toNat_natCast,Option.isNone_none,Option.isNone_some,List.getElem?_toArray,List.getElem?_cons_zero,List.getElem?_cons_succ,List.setIfInBounds_toArray,List.set_cons_zero,List.set_cons_succ,List.size_toArray,List.length_cons,List.length_nil,List.drop_zero,List.drop_succ_cons,List.take_succ_cons,List.take_zero,List.take_nil,List.drop_nil,List.all_cons,List.all_nil,Bool.and_true,Bool.true_and,Nat.zero_add,Nat.add_zero,Nat.mul_one,and_self,and_true,true_and,decide_true,decide_false,Bool.not_true,Bool.not_false,not_true_eq_false,not_false_eq_true,bd_157,br_158_1,ch_9,ld_272,ln_9,sl_9,slh_9,xa_272,h3,hcg,zSh]
   refine⟨fun t2 w3=>w3=w2/\t2 3=zi j/\P.blank c=false,?_,?_⟩
   ·refine⟨fun t2 w3=>w3=w2/\t2 25 = .bool (P.blank c),?_,?_⟩
    ·simp (disch:=first|assumption|omega|simp only[zS]<;>omega|decide) only[zb9,Nat.reduceAdd,Nat.reduceMul,Nat.reduceLeDiff,Nat.reduceEqDiff,Int.reduceToNat,Int.reduceAdd,Int.reduceLT,Int.reduceLE,↓reduceIte,hcg]
     by_cases h32:(c.toNat:Int)=32
     ·simp [h32,hbl.2 (.inl h32)]
     ·by_cases h10:(c.toNat:Int)=10
      ·simp [h10,hbl.2 (.inr h10)]
      ·have:P.blank c=false:=by
        cases hb:P.blank c with
        | false=>rfl
        | true=>rcases hbl.1 hb with h | h<;>contradiction
       simp [h32,h10,this]
    ·rintro t2 w3 ⟨rfl,h26⟩ d2
     rw[h26]
     cases hb:P.blank c with
     | true=>
      rw[bs_true,h3]
      simp (disch:=first|assumption|omega|simp only[zS]<;>omega|decide) only[zb8,Nat.reduceAdd,Nat.reduceMul,Nat.reduceLeDiff,Nat.reduceEqDiff,Int.reduceToNat,Int.reduceAdd,Int.reduceLT,Int.reduceLE,↓reduceIte]
      refine⟨s.length-(j+1),by omega,hE,j+1,acc,f,q,rfl,by omega,by omega,?_,?_,?_,hfin⟩
      ·simp
      ·simpa using hown
      ·rw[if_pos hb] at hq
       rw[hr];exact hq
     | false=>
      rw[bs_false]
      refine⟨rfl,?_,rfl⟩
      simp [sOf,h3]
   ·rintro t2 w3 ⟨rfl,h26,hnb⟩ d2
    rw[if_neg (by simp [hnb])] at hq
    rw[hcg]
    refine(sClassX c _).mono ?_
    rintro e w4 ⟨rfl,rfl⟩
    by_cases hc0:P.cls c≠0
    ·rw[if_pos hc0] at hq
     have hc0':¬ ((P.cls c:Nat):Int)=0:=by omega
     simp (disch:=first|assumption|omega|simp only[zS]<;>omega|decide) only[zb8,Nat.reduceAdd,Nat.reduceMul,Nat.reduceLeDiff,Nat.reduceEqDiff,Int.reduceToNat,Int.reduceAdd,Int.reduceLT,Int.reduceLE,↓reduceIte]
     obtain⟨W,hW⟩:∃ W,W=((c::r).takeWhile (fun x=>P.cls x≠0)).length:=⟨_,rfl⟩
     have htw:=twhile (fun x=>P.cls x≠0) (c::r)
     rw[<- hW] at htw
     dsimp only at hq
     rw[<- hW] at hq
     obtain⟨ht1,ht2,ht3,ht4⟩:=htw
     have hlen:(c::r).length=s.length-j:=by rw[<- hcr,List.length_drop]
     rw[hlen] at ht2 ht3
     rw[<- hcr] at ht1 ht2
     simp only[getD_drop0,decide_eq_true_eq,decide_eq_false_iff_not,ne_eq,Decidable.not_not] at ht1 ht2
     have hWp:0<W:=by
      rw[hW,List.takeWhile_cons,if_pos (by simpa using hc0)]
      simp
     refine⟨fun t3 w5=>w5=w4/\t3 6=zi ((j+W:Nat):Int),?_,?_⟩
     ·refine⟨fun n t3 w5=>w5=w4/\∃ m,n=W-m/\m≤W/\t3 6=zi ((j+m:Nat):Int),⟨W,rfl,0,rfl,Nat.zero_le _,?_⟩,?_⟩
      ·simp [sOf,h26]
      ·intro n t3 d3 w5 hI
       refine toPr ?_
       obtain⟨rfl,m,rfl,hm,h8⟩:=hI
       by_cases hjm:j+m<s.length
       ·simp (disch:=first|assumption|omega|simp only[zS]<;>omega|decide) only[zb8,Nat.reduceAdd,Nat.reduceMul,Nat.reduceLeDiff,Nat.reduceEqDiff,Int.reduceToNat,Int.reduceAdd,Int.reduceLT,Int.reduceLE,↓reduceIte,h8]
        refine(sClassX _ _).mono ?_
        rintro e w6 ⟨rfl,rfl⟩
        by_cases hmW:m<W
        ·have hcm:¬ ((P.cls (s.getD (j+m) 0):Nat):Int)=0:=by have:=ht1 m hmW;omega
         simp (disch:=first|assumption|omega|simp only[zS]<;>omega|decide) only[zb8,Nat.reduceAdd,Nat.reduceMul,Nat.reduceLeDiff,Nat.reduceEqDiff,Int.reduceToNat,Int.reduceAdd,Int.reduceLT,Int.reduceLE,↓reduceIte,h8]
         exact⟨W-(m+1),by omega,m+1,rfl,by omega,by simp;omega⟩
        ·have hmW':m=W:=by omega
         subst hmW'
         have hcm:((P.cls (s.getD (j+m) 0):Nat):Int)=0:=by have:=ht2 (by omega);omega
         simp (disch:=first|assumption|omega|simp only[zS]<;>omega|decide) only[zb8,Nat.reduceAdd,Nat.reduceMul,Nat.reduceLeDiff,Nat.reduceEqDiff,Int.reduceToNat,Int.reduceAdd,Int.reduceLT,Int.reduceLE,↓reduceIte,h8]
       ·have hmW:m=W:=by
         rcases Nat.lt_or_ge m W with h | h
         ·omega
         ·omega
        subst hmW
        simp (disch:=first|assumption|omega|simp only[zS]<;>omega|decide) only[zb8,Nat.reduceAdd,Nat.reduceMul,Nat.reduceLeDiff,Nat.reduceEqDiff,Int.reduceToNat,Int.reduceAdd,Int.reduceLT,Int.reduceLE,↓reduceIte,h8]
     ·rintro t3 w5 ⟨rfl,h8⟩ d3
      simp (disch:=first|assumption|omega|simp only[zS]<;>omega|decide) only[zb8,Nat.reduceAdd,Nat.reduceMul,Nat.reduceLeDiff,Nat.reduceEqDiff,Int.reduceToNat,Int.reduceAdd,Int.reduceLT,Int.reduceLE,↓reduceIte,h8,h26]
      have hdt:List.drop j (List.take (j+W) s)=c::r.takeWhile (fun x=>P.cls x≠0):=by
       rw[List.drop_take,hcr,show j+W-j=W by omega,ht4,List.takeWhile_cons,if_pos (by simpa using hc0)]
      have htk:(c::r).takeWhile (fun x=>P.cls x≠0)=c::r.takeWhile (fun x=>P.cls x≠0):=by rw[List.takeWhile_cons,if_pos (by simpa using hc0)]
      rw[hdt]
      rw[htk] at hq hW
      obtain⟨wd,hwd⟩:∃ wd,wd=c::r.takeWhile (fun x=>P.cls x≠0):=⟨_,rfl⟩
      refine(sWord c _ (by rw[<- hW];omega) j w5 hc0).mono ?_
      rw[<- hwd] at hq hW ⊢
      rintro e w6 ⟨hE4,(⟨hk0,rfl⟩| ⟨hk0,hfl⟩)⟩
      ·have s4:=hE4.size
       rw[if_neg hk0] at hq
       simp (disch:=first|assumption|omega|simp only[zS]<;>omega|decide) only[zb8,Nat.reduceAdd,Nat.reduceMul,Nat.reduceLeDiff,Nat.reduceEqDiff,Int.reduceToNat,Int.reduceAdd,Int.reduceLT,Int.reduceLE,↓reduceIte,h26,h8]
       have hx5:Ext w6 (w6.alloc (.cells #[zi (P.wordKind wd),.string (bs wd),zi j] 157)):=by(repeat (first | assumption | exact FrM.refl _ _ | (refine FrM.upd ?_ (.inr (by(try simp only[zS])<;>omega))) | refine FrM.alloc ?_ _ | refine FrM.drew ?_))
       have own4:=own_ext (hE4.trans hx5).ext hown
       refine wr_appendST (acc:=acc) (base:=w1.heap.size) (kd:=P.wordKind wd) (tx:=wd) (ps:=j) own4 (hp_alloc_new rfl) rfl rfl rfl (by omega) (by rw[size_alloc];omega) ?_
       intro v' w7 hown6 hg6 hv6
       have hE6:Ext w1 w7:=((hE.trans hE4).trans hx5).grow hg6 (fun k hk=>(own4.lt k hk).1)
       cases hq2:P.lexGo f (List.drop wd.length (c::r)) (j+wd.length) with
       | none=>rw[hW,hq2] at hq;cases hq
       | some q2=>
       rw[hW,hq2] at hq
       refine⟨s.length-(j+W),by omega,hE6,j+W,acc++[⟨P.wordKind wd,wd,j⟩],f,q2,rfl,by omega,by simp;omega,by simp [sOf,h8],by simpa [sOf] using hown6,?_,?_⟩
       ·rw[<- List.drop_drop,hcr,hW];exact hq2
       ·rw[<- hfin]
        cases q2 with
        | inl i=>simp only[Option.some.injEq] at hq;rw[<- hq];rfl
        | inr l=>simp only[Option.some.injEq] at hq;rw[<- hq];simp [lexFin]
      ·rw[if_pos hk0] at hq
       have hq':=(Option.some.inj hq).symm
       subst hq'
       simp only[lexFin] at hfin
       have hfl2:=faulted_back hfl hs1
       obtain⟨b,rfl,g1,g2⟩:=hfl
       simp (disch:=first|assumption|omega|simp only[zS]<;>omega|decide) only[zb8,Nat.reduceAdd,Nat.reduceMul,Nat.reduceLeDiff,Nat.reduceEqDiff,Int.reduceToNat,Int.reduceAdd,Int.reduceLT,Int.reduceLE,↓reduceIte]
       refine⟨hE.trans hE4,?_⟩
       rw[if_neg (by omega),<- hfin]
       exact hfl2
    ·rw[if_neg hc0] at hq
     have hc0':((P.cls c:Nat):Int)=0:=by omega
     simp (disch:=first|assumption|omega|simp only[zS]<;>omega|decide) only[zb8,Nat.reduceAdd,Nat.reduceMul,Nat.reduceLeDiff,Nat.reduceEqDiff,Int.reduceToNat,Int.reduceAdd,Int.reduceLT,Int.reduceLE,↓reduceIte]
     have hcp:(c=46/\P.endsB r=true)↔((c.toNat:Int)=46/\(j+1=s.length\/(j+1<s.length/\((s.getD (j+1) 0).toNat=32\/(s.getD (j+1) 0).toNat=10)))):=by
      have e1:c=46↔c.toNat=46:=by rw[<- UInt8.toNat_inj];rfl
      have hrl:r.length=s.length-(j+1):=by rw[<- hr,List.length_drop]
      rw[e1]
      cases r with
      | nil=>
       have hl1:s.length=j+1:=by simp at hrl;omega
       simp [P.endsB,hl1]
       omega
      | cons d r'=>
       have hd:s.getD (j+1) 0=d:=by rw[show j+1=j+1+0 from rfl,<- getD_drop0,hr];rfl
       rw[hd]
       have e2:d=32↔d.toNat=32:=by rw[<- UInt8.toNat_inj];rfl
       have e3:d=10↔d.toNat=10:=by rw[<- UInt8.toNat_inj];rfl
       simp only[P.endsB,P.blank,Bool.or_eq_true,beq_iff_eq,e2,e3]
       simp at hrl
       omega
     refine⟨fun t4 w5=>w5=w4/\t4 2=t 2/\t4 3=zi j/\¬ (c=46/\P.endsB r=true),?_,?_⟩
     ·refine⟨fun t4 w5=>w5=w4/\t4 79 = .bool (decide (c=46/\P.endsB r=true)),?_,?_⟩
      ·by_cases h46:(c.toNat:Int)=46
       ·by_cases hje:j+1=s.length
        ·have hje':((j:Int)+1)=(s.length:Int):=by omega
         have hyes:=hcp.2 ⟨h46,.inl hje⟩
         simp (disch:=first|assumption|omega|simp only[zS]<;>omega|decide) only[zb8,Nat.reduceAdd,Nat.reduceMul,Nat.reduceLeDiff,Nat.reduceEqDiff,Int.reduceToNat,Int.reduceAdd,Int.reduceLT,Int.reduceLE,↓reduceIte,h26,hcg]
         simp [sOf,hyes]
        ·have hje':¬ ((j:Int)+1)=(s.length:Int):=by omega
         have htn:((j:Int)+1).toNat=j+1:=by omega
         simp (disch:=first|assumption|omega|simp only[zS]<;>omega|decide) only[zb9,Nat.reduceAdd,Nat.reduceMul,Nat.reduceLeDiff,Nat.reduceEqDiff,Int.reduceToNat,Int.reduceAdd,Int.reduceLT,Int.reduceLE,↓reduceIte,h26,hcg,htn]
         generalize hd:(s.getD (j+1) 0).toNat=d at *
         by_cases g1:d=32
         ·have hyes:=hcp.2 ⟨h46,.inr ⟨by omega,.inl g1⟩⟩
          simp [sOf,hyes,g1]
         ·have g1':¬ (d:Int)=32:=by omega
          by_cases g2:d=10
          ·have hyes:=hcp.2 ⟨h46,.inr ⟨by omega,.inr g2⟩⟩
           simp [sOf,hyes,g2]
          ·have hno:¬ (c=46/\P.endsB r=true):=fun h=>by
            rcases(hcp.1 h).2 with h | ⟨_,h | h⟩
            ·exact hje h
            ·exact g1 h
            ·exact g2 h
           have g2':¬ (d:Int)=10:=by omega
           rw[decide_eq_false hno]
           simp [sOf,g1',g2']
       ·have hno:¬ (c=46/\P.endsB r=true):=fun h=>h46 (hcp.1 h).1
        rw[decide_eq_false hno]
        simp (disch:=first|assumption|omega|simp only[zS]<;>omega|decide) only[zb8,Nat.reduceAdd,Nat.reduceMul,Nat.reduceLeDiff,Nat.reduceEqDiff,Int.reduceToNat,Int.reduceAdd,Int.reduceLT,Int.reduceLE,↓reduceIte,h26,hcg]
      ·rintro t4 w5 ⟨rfl,h83⟩ d4
       rw[h83]
       by_cases hy:c=46/\P.endsB r=true
       ·rw[bs_pos _ _ hy]
        rw[if_pos hy] at hq
        simp (disch:=first|assumption|omega|simp only[zS]<;>omega|decide) only[zb8,Nat.reduceAdd,Nat.reduceMul,Nat.reduceLeDiff,Nat.reduceEqDiff,Int.reduceToNat,Int.reduceAdd,Int.reduceLT,Int.reduceLE,↓reduceIte,h26]
        have hx5:Ext w5 (w5.alloc (.cells #[zi 4,.string (bs [46]),zi j] 157)):=by(repeat (first | assumption | exact FrM.refl _ _ | (refine FrM.upd ?_ (.inr (by(try simp only[zS])<;>omega))) | refine FrM.alloc ?_ _ | refine FrM.drew ?_))
        have own4:=own_ext hx5.ext hown
        refine wr_appendST (acc:=acc) (base:=w1.heap.size) (kd:=4) (tx:=[46]) (ps:=j) own4 (hp_alloc_new rfl) rfl rfl rfl (by omega) (by rw[size_alloc];omega) ?_
        intro v' w7 hown6 hg6 hv6
        have hE6:Ext w1 w7:=(hE.trans hx5).grow hg6 (fun k hk=>(own4.lt k hk).1)
        cases hq2:P.lexGo f r (j+1) with
        | none=>rw[hq2] at hq;cases hq
        | some q2=>
        rw[hq2] at hq
        simp (disch:=first|assumption|omega|simp only[zS]<;>omega|decide) only[zb8,Nat.reduceAdd,Nat.reduceMul,Nat.reduceLeDiff,Nat.reduceEqDiff,Int.reduceToNat,Int.reduceAdd,Int.reduceLT,Int.reduceLE,↓reduceIte,h26]
        refine⟨s.length-(j+1),by omega,hE6,j+1,acc++[⟨4,[46],j⟩],f,q2,rfl,by omega,by simp;omega,by simp,by simpa using hown6,?_,?_⟩
        ·rw[hr];exact hq2
        ·rw[<- hfin]
         cases q2 with
         | inl i=>simp only[Option.some.injEq] at hq;rw[<- hq];rfl
         | inr l=>simp only[Option.some.injEq] at hq;rw[<- hq];simp [lexFin]
       ·rw[bs_neg _ _ hy]
        exact⟨rfl,by simp [sOf],by simp [sOf,h26],hy⟩
     ·rintro t4 w5 ⟨rfl,h2',h3',hy⟩ d4
      rw[if_neg hy] at hq
      obtain⟨cs,TT,zz,hg1,hg2,hg3⟩:=hT.ext hE
      have hlen:(c::r).length=s.length-j:=by rw[<- hcr,List.length_drop]
      simp (disch:=first|assumption|omega|simp only[zS]<;>omega|decide) only[zb8,Nat.reduceAdd,Nat.reduceMul,Nat.reduceLeDiff,Nat.reduceEqDiff,Int.reduceToNat,Int.reduceAdd,Int.reduceLT,Int.reduceLE,↓reduceIte,hg1,hg3]
      obtain⟨pr,hpr⟩:∃ pr:P.Bs->Bool,pr=fun x=>x.isPrefixOf (c::r):=⟨_,rfl⟩
      refine⟨fun n t5 w6=>w6=w5/\∃ k,n=23-k/\k≤23/\t5 88=zi ((k:Nat):Int)/\t5 2=t 2/\t5 3=zi j/\signK pr k=[],⟨23,rfl,0,rfl,Nat.zero_le _,rfl,?_,?_,rfl⟩,?_⟩
      ·simp [sOf,h2']
      ·simp [sOf,h3']
      intro n t5 d5 w6 hI
      refine toPr ?_
      obtain⟨rfl,k,rfl,hk,h88,h2'',h3'',hsk⟩:=hI
      by_cases hk23:k<23
      ·obtain⟨x,hx⟩:∃ x,x=P.signs.getD k []:=⟨_,rfl⟩
       have hxm:x∈P.signs:=by
        rw[hx,List.getD_eq_getElem?_getD,List.getElem?_eq_getElem (show k<P.signs.length from hk23)]
        exact List.getElem_mem _
       obtain⟨hxn,hxl⟩:=signs_ne hxm
       have hld:(List.take 23 cs.toList).toArray[k]?=some (.string (bs x)):=by
        rw[hg3,List.getElem?_toArray,List.getElem?_map,hx,List.getD_eq_getElem?_getD,List.getElem?_eq_getElem (show k<P.signs.length from hk23)]
        rfl
       have hkn:((k:Nat):Int).toNat=k:=by omega
       have hld':(List.take 23 cs.toList).toArray[((k:Nat):Int).toNat]?=some (.string (bs x)):=by rw[hkn];exact hld
       have hjt2:((j:Nat):Int).toNat=j:=by omega
       simp (disch:=first|assumption|omega|simp only[zS]<;>omega|decide) only[zb8,Nat.reduceAdd,Nat.reduceMul,Nat.reduceLeDiff,Nat.reduceEqDiff,Int.reduceToNat,Int.reduceAdd,Int.reduceLT,Int.reduceLE,↓reduceIte,h88,h3'',hjt2]
       rw[hcr]
       refine(Tryz.strings_HasPrefix (bs (c::r)) (bs x) _).mono ?_
       rintro e w7 ⟨rfl,rfl⟩
       have hpf:Lib.hasPrefix (bs (c::r)).data.toList (bs x).data.toList=pr x:=by rw[hpr];rfl
       rw[hpf]
       have hsucc:=signK_succ hk23 hsk
       rw[<- hx] at hsucc
       by_cases hp:pr x=true
       ·rw[hp]
        rw[if_pos hp] at hsucc
        have hall:P.signs.find? pr=some x:=by
         have h1:=signK_ne (p:=pr) (k:=k+1) (by rw[hsucc];exact hxn)
         rw[hsucc,signK_all] at h1
         cases hf:P.signs.find? pr with
         | none=>rw[hf] at h1;exact absurd h1.symm hxn
         | some y=>rw[hf] at h1;exact congrArg some h1
        rw[hpr] at hall
        rw[hall] at hq
        dsimp only at hq
        have hle:=(List.isPrefixOf_iff_prefix.1 (by rw[hpr] at hp;exact hp)).length_le
        rw[hlen] at hle
        have hx0:0<x.length:=List.length_pos_iff.2 hxn
        simp (disch:=first|assumption|omega|simp only[zS]<;>omega|decide) only[zb8,Nat.reduceAdd,Nat.reduceMul,Nat.reduceLeDiff,Nat.reduceEqDiff,Int.reduceToNat,Int.reduceAdd,Int.reduceLT,Int.reduceLE,↓reduceIte,h2'',h3'']
        have hx5:Ext w7 (w7.alloc (.cells #[zi 4,.string (bs x),zi j] 157)):=by(repeat (first | assumption | exact FrM.refl _ _ | (refine FrM.upd ?_ (.inr (by(try simp only[zS])<;>omega))) | refine FrM.alloc ?_ _ | refine FrM.drew ?_))
        have own4:=own_ext hx5.ext hown
        refine wr_appendST (acc:=acc) (base:=w1.heap.size) (kd:=4) (tx:=x) (ps:=j) own4 (hp_alloc_new rfl) rfl rfl rfl (by omega) (by rw[size_alloc];omega) ?_
        intro v' w8 hown6 hg6 hv6
        have hE6:Ext w1 w8:=(hE.trans hx5).grow hg6 (fun k hk=>(own4.lt k hk).1)
        cases hq2:P.lexGo f ((c::r).drop x.length) (j+x.length) with
        | none=>rw[hq2] at hq;cases hq
        | some q2=>
        rw[hq2] at hq
        simp (disch:=first|assumption|omega|simp only[zS]<;>omega|decide) only[zb8,Nat.reduceAdd,Nat.reduceMul,Nat.reduceLeDiff,Nat.reduceEqDiff,Int.reduceToNat,Int.reduceAdd,Int.reduceLT,Int.reduceLE,↓reduceIte,h2'',h3'']
        refine⟨s.length-(j+x.length),by omega,hE6,j+x.length,acc++[⟨4,x,j⟩],f,q2,rfl,by omega,by simp;omega,by simp,by simpa using hown6,?_,?_⟩
        ·rw[<- List.drop_drop,hcr];exact hq2
        ·rw[<- hfin]
         cases q2 with
         | inl i=>simp only[Option.some.injEq] at hq;rw[<- hq];rfl
         | inr l=>simp only[Option.some.injEq] at hq;rw[<- hq];simp [lexFin]
       ·have hp':pr x=false:=by simpa using hp
        rw[hp']
        rw[if_neg hp] at hsucc
        simp (disch:=first|assumption|omega|simp only[zS]<;>omega|decide) only[zb8,Nat.reduceAdd,Nat.reduceMul,Nat.reduceLeDiff,Nat.reduceEqDiff,Int.reduceToNat,Int.reduceAdd,Int.reduceLT,Int.reduceLE,↓reduceIte,h88,h2'',h3'']
        refine⟨23-(k+1),by omega,k+1,rfl,by omega,?_⟩
        simp [hsucc]
      ·have hk':k=23:=by omega
       subst hk'
       have hnone:P.signs.find? (fun s=>s.isPrefixOf (c::r))=none:=by
        rw[signK_all,hpr] at hsk
        cases hf:P.signs.find? (fun s=>s.isPrefixOf (c::r)) with
        | none=>rfl
        | some x=>
         rw[hf] at hsk
         exact absurd hsk (signs_ne (List.mem_of_find?_eq_some hf)).1
       rw[hnone] at hq
       have hq':=(Option.some.inj hq).symm
       subst hq'
       simp only[lexFin] at hfin
       simp (disch:=first|assumption|omega|simp only[zS]<;>omega|decide) only[zb8,Nat.reduceAdd,Nat.reduceMul,Nat.reduceLeDiff,Nat.reduceEqDiff,Int.reduceToNat,Int.reduceAdd,Int.reduceLT,Int.reduceLE,↓reduceIte,h88,h3'']
       refine(sFail0F _ _ _).mono ?_
       rintro e w7 ⟨hf,hE7⟩
       have hf2:=faulted_back hf hs1
       obtain⟨b,rfl,g1,g2⟩:=hf
       simp (disch:=first|assumption|omega|simp only[zS]<;>omega|decide) only[zb8,Nat.reduceAdd,Nat.reduceMul,Nat.reduceLeDiff,Nat.reduceEqDiff,Int.reduceToNat,Int.reduceAdd,Int.reduceLT,Int.reduceLE,↓reduceIte]
       refine⟨hE.trans hE7,?_⟩
       rw[if_neg (by omega),<- hfin]
       exact hf2
  ·have hj2:j=s.length:=by omega
   subst hj2
   have hdn:List.drop s.length s=[]:=List.drop_length
   cases f with
   | zero=>rw[P.lexGo] at hq;cases hq
   | succ f=>
   rw[hdn,P.lexGo] at hq
   have hq':=(Option.some.inj hq).symm
   subst hq'
   simp only[lexFin] at hfin
   simp (disch:=first|assumption|omega|simp only[zS]<;>omega|decide) only[zb8,Nat.reduceAdd,Nat.reduceMul,Nat.reduceLeDiff,Nat.reduceEqDiff,Int.reduceToNat,Int.reduceAdd,Int.reduceLT,Int.reduceLE,↓reduceIte,h3]
   have hx5:Ext w2 (w2.alloc (.cells #[zi 0,.string (bs []),zi (s.length)] 157)):=by(repeat (first | assumption | exact FrM.refl _ _ | (refine FrM.upd ?_ (.inr (by(try simp only[zS])<;>omega))) | refine FrM.alloc ?_ _ | refine FrM.drew ?_))
   have own4:=own_ext hx5.ext hown
   refine wr_appendST (acc:=acc) (base:=w1.heap.size) (kd:=0) (tx:=[]) (ps:=s.length) own4 (hp_alloc_new rfl) rfl rfl rfl (by omega) (by rw[size_alloc];omega) ?_
   intro v' w6 hown6 hg6 hv6
   refine⟨(hE.trans hx5).grow hg6 (fun k hk=>(own4.lt k hk).1),?_⟩
   rw[if_neg (by omega),<- hfin]
   exact⟨v',rfl,hown6⟩
end Go.Proofs.YtilpjhceemaplaaGreatDoor
namespace Go.Proofs.YtilpjhceemaplaaGreatDoor
open Go.RowKit
structure STabC(w:World)(B:Nat):Prop where
 lt:3<B
 cell:∀ j,j<9->w.cell? ⟨3,j,none⟩=some (.string (bs (P.compares.getD j [])))
theorem STabC.ext{w w':World}{B:Nat}(h:STabC w B)(hw:∀ (b:Nat) (o:Obj),b<B->w.heap[b]?=some o->w'.heap[b]?=some o):STabC w' B:=
 ⟨h.lt,fun j hj=>cellKeep (h.cell j hj) fun x hx=>hw _ x h.lt hx⟩
theorem STabC.fr{pb tb:Nat}{w w':World}(hs:STabC w tb)(h:SFr pb w w')(hl:tb<pb):STabC w' tb:=
 hs.ext fun b o hb ho=>h.block _ _ ho (by rintro (h | ⟨h,_⟩)<;>omega)
structure CLit(f:Nat):Prop where
 go:∀ {pb tb:Nat} {T:List P.Tok} {k:Nat} {vars:List P.Bs} {d:Nat} {w:World} {r:P.Res P.Bd},SP w pb tb T k vars d->STabC w tb->d≤8 ->
  P.pLit T f k vars d=some r->Calls Tryz.prog 127 #[pp pb] w (SPost IsBd pb tb T d w r)
structure CRow(f:Nat):Prop where
 go:∀ {pb tb:Nat} {T:List P.Tok} {k:Nat} {vars:List P.Bs} {d:Nat} {w:World} {r:P.Res P.Bd},SP w pb tb T k vars d->STabC w tb->d≤8 ->
  P.pRow T f k vars d=some r->Calls Tryz.prog 126 #[pp pb,.int .u8 44,.string (bs [44]),.func (.func 127) #[pp pb] #[]] w (SPost IsBd pb tb T d w r)
structure CBody(f:Nat):Prop where
 go:∀ {pb tb:Nat} {T:List P.Tok} {k:Nat} {vars:List P.Bs} {d:Nat} {w:World} {r:P.Res P.Bd},SP w pb tb T k vars d->STabC w tb->d≤8 ->
  P.pBody T f k vars d=some r->Calls Tryz.prog 59 #[pp pb] w (SPost IsBd pb tb T d w r)
theorem IsBd.shape{F:Nat->Prop}{w:World}{v:Value}{x:P.Bd}(h:IsBd F w v x):∃ b,v=pp b/\F b:=by
 cases x with
 | mk kind name args parts=>
  unfold IsBd at h
  obtain⟨b,_,_,_,_,h1,h2,_⟩:=h
  exact⟨b,h1,h2⟩
theorem IsBds.snoc{F:Nat->Prop}{w:World}{v:Value}{x:P.Bd}(hv:IsBd F w v x):∀ {l:List P.Bd} {vs:List Value},IsBds F w vs l->IsBds F w (vs++[v]) (l++[x])
 | [],vs,h=>by
  unfold IsBds at h
  subst h
  simp only[List.nil_append]
  unfold IsBds
  exact⟨v,[],rfl,hv,by unfold IsBds;rfl⟩
 | y::l,vs,h=>by
  unfold IsBds at h
  obtain⟨u,r,rfl,h1,h2⟩:=h
  simp only[List.cons_append]
  unfold IsBds
  exact⟨u,r++[v],rfl,h1,IsBds.snoc hv h2⟩
theorem IsBds.length{F:Nat->Prop}{w:World}:∀ {l:List P.Bd} {vs:List Value},IsBds F w vs l->vs.length=l.length
 | [],vs,h=>by unfold IsBds at h;rw[h];rfl
 | x::xs,vs,h=>by
  unfold IsBds at h
  obtain⟨v,r,rfl,_,h3⟩:=h
  simp [IsBds.length h3]
theorem isSlEx_nil{F:Nat->Prop}{w:World}:IsSlEx F w (.slice none 0 0) []:=⟨[],.inl ⟨rfl,rfl⟩,by unfold IsExs;rfl⟩
theorem isSlBd_nil{F:Nat->Prop}{w:World}:IsSlBd F w (.slice none 0 0) []:=⟨[],.inl ⟨rfl,rfl⟩,by unfold IsBds;rfl⟩
theorem isSlBd_one{F:Nat->Prop}{w:World}{b:Nat}{u:Value}{x:P.Bd}(hF:F b)(h:w.heap[b]?=some (.cells #[u] 130))(hx:IsBd F w u x) :
  IsSlBd F w (.slice (some ⟨b,0,none⟩) 1 1) [x]:=by
 refine⟨[u],.inr ⟨b,#[u],rfl,hF,h,Nat.le_refl _,rfl⟩,?_⟩
 unfold IsBds
 exact⟨u,[],rfl,hx,by unfold IsBds;rfl⟩
theorem isSlBd_two{F:Nat->Prop}{w:World}{b:Nat}{u v:Value}{x y:P.Bd}(hF:F b)(h:w.heap[b]?=some (.cells #[u,v] 130))(hx:IsBd F w u x)(hy:IsBd F w v y) :
  IsSlBd F w (.slice (some ⟨b,0,none⟩) 2 2) [x,y]:=by
 refine⟨[u,v],.inr ⟨b,#[u,v],rfl,hF,h,Nat.le_refl _,rfl⟩,?_⟩
 unfold IsBds
 refine⟨u,[v],rfl,hx,?_⟩
 unfold IsBds
 exact⟨v,[],rfl,hy,by unfold IsBds;rfl⟩
theorem isBd_node{F:Nat->Prop}{w:World}{b:Nat}{kind:Nat}{name:P.Bs}{av pv:Value}{args:List P.Ex}{parts:List P.Bd}(hF:F b)
  (h:w.heap[b]?=some (.cells #[.int .u8 kind,.string (bs name),av,pv] 163)) (ha:IsSlEx F w av args) (hp:IsSlBd F w pv parts) :
  IsBd F w (pp b) (.mk kind name args parts):=by
 obtain⟨vs,h1,h2⟩:=ha
 obtain⟨us,h3,h4⟩:=hp
 unfold IsBd
 exact⟨b,_,_,vs,us,rfl,hF,h,h1,h2,h3,h4⟩
theorem IsSlBd.mono{F F':Nat->Prop}{w w':World}{v:Value}{l:List P.Bd}(hf:∀ b,F b->F' b)(hw:∀ b o,F b->astObj o->w.heap[b]?=some o->w'.heap[b]?=some o)
  (h:IsSlBd F w v l):IsSlBd F' w' v l:=by
 obtain⟨vs,h1,h2⟩:=h
 exact⟨vs,h1.mono hf fun b cs hb hc=>hw b _ hb ⟨.inr (.inr (.inr rfl)),rfl⟩ hc,IsBds.mono hf hw l vs h2⟩
theorem sInfoBd:(Tryz.prog.info? 130).map (fun i=>(i.zero,i.size,i.bytes))=some (some (.pointer none),1,8):=by kernel_rfl
abbrev litF(pb:Nat):Value:=.func (.func 127) #[pp pb] #[]
def RJ(pb tb:Nat)(T:List P.Tok)(d:Nat)(w0:World)(re:P.Res (List P.Bd))(n:Nat)(a:Act)(w:World):Prop:=
 ∃ (acc:List P.Bd) (k:Nat) (vs:List P.Bs) (xs:List Value) (sl u4 u5 u6 u7 u8 u10 u11 u12 u13 u14 u15 u16 u17 u18 u19 u20 u21 u22 u23 u24 u25 u26 u27 u28 u29 u30:Value),a={ tmps:=#[pp pb,.int .u8 44,.string (bs [44]),litF pb,u4,u5,u6,u7,u8,sl,u10,u11,u12,u13,u14,u15,u16,u17,u18,u19,u20,u21,u22,u23,u24,u25,u26,u27,u28,u29,u30],defers:=[] } /\
  w.ownsRow w0.heap.size 130 1 sl acc.length xs/\IsBds (fun b=>Nu w0 w b/\sl.ownBlock≠some b) w xs acc/\SP w pb tb T k vs d/\SFr pb w0 w/\0<acc.length/\acc.length≤k /\
  (if P.isT T k [44] then P.pLits T n (k+1) vs d acc else some (.ok acc k vs))=some re
theorem sRow{f:Nat}(hlit:∀ m,m<f->CLit m){pb tb:Nat}{T:List P.Tok}{k:Nat}{vars:List P.Bs}{d:Nat}{w0:World}{r:P.Res P.Bd}(hp0:SP w0 pb tb T k vars d)(hc0:STabC w0 tb)(hd:d≤8)
  (h:P.pRow T (f+1) k vars d=some r):Calls Tryz.prog 126 #[pp pb,.int .u8 44,.string (bs [44]),litF pb] w0 (SPost IsBd pb tb T d w0 r):=by
 rw[P.pRow] at h
 cases hre:P.pLits T f k vars d [] with
 | none=>rw[hre] at h;simp [P.Res.bind] at h
 | some re=>
 rw[hre] at h
 cases f with
 | zero=>simp [P.pLits] at hre
 | succ f=>
 rw[P.pLits] at hre
 have HP0:=Lib.hid hp0
 have HC0:=Lib.hid hc0
 have HR:=Lib.hid h
 have HRE:=Lib.hid hre
 have hpb0:=hp0.d2.2.2
 have htp:=hp0.lt
 have hT:=hp0.tw.len
 obtain⟨i0,hi,iz0,iz1,iz2⟩:=info_parts sInfoBd
 clear hp0 h hre hc0
 go_enter Tryz.func126,Tryz.ntmps126
 go_wp2_with fail
 cases hq:P.pLit T f k vars d with
 | none=>have e:=HRE.out;rw[hq] at e;simp [P.Res.bind] at e
 | some q=>
 have e:=HRE.out
 rw[hq] at e
 refine((hlit f (by omega)).go HP0.out HC0.out hd hq).mono ?_
 cases q with
 | err c0 a0=>
  rintro e2 w4 ⟨⟨b,rfl,hb3,hl3⟩,hf3,hs3⟩
  simp only[P.Res.bind,Option.some.injEq] at e
  subst e
  have hr:=HR.out
  simp only[P.Res.bind,Option.some.injEq] at hr
  subst hr
  exact⟨rfl,⟨b,rfl,hb3,hl3⟩,hf3,hs3⟩
 | ok x k' vs'=>
 rintro e2 w1 ⟨v,rfl,hv,hp2,hf2⟩
 simp only[P.Res.bind] at e
 obtain⟨bx,rfl,hbx⟩:=hv.shape
 have hkk:=(P.monoB T f).lit _ _ _ _ _ _ hq
 have hz1:=hf2.size
 have hrow:(w1.alloc (.cells #[pp bx] 130)).ownsRow w0.heap.size 130 1 (.slice (some ⟨w1.heap.size,0,none⟩) 1 1) 1 [pp bx]:=
  ⟨rfl,.inr ⟨w1.heap.size,1,_,rfl,by omega,blk_alloc_new _ _,Nat.le_refl _,by decide,rfl,rfl⟩⟩
 have hx1:IsBds (fun b=>Nu w0 (w1.alloc (.cells #[pp bx] 130)) b/\(Value.slice (some ⟨w1.heap.size,0,none⟩) 1 1).ownBlock≠some b) (w1.alloc (.cells #[pp bx] 130)) [pp bx] [x]:=by
  have:=IsBds.snoc (l:=[]) (vs:=[]) (F:=fun b=>Nu w0 (w1.alloc (.cells #[pp bx] 130)) b/\(Value.slice (some ⟨w1.heap.size,0,none⟩) 1 1).ownBlock≠some b) (w:=w1.alloc (.cells #[pp bx] 130)) (v:=pp bx) (x:=x)
   (IsBd.mono (fun b hb=>⟨⟨hb.1,by have:=hb.2;rw[size_alloc];omega⟩,fun e=>by injection e with e;have:=hb.2;simp only at e;omega⟩) (fun b o _ _ ho=>blk_alloc_old ho) _ _ hv) (by unfold IsBds;rfl)
  simpa using this
 have HROW:=Lib.hid hrow
 have HX1:=Lib.hid hx1
 have HP2:=Lib.hid (hp2.ext (w':=w1.alloc (.cells #[pp bx] 130)) fun b o h=>blk_alloc_old h)
 have HF2:Hid (SFr pb w0 (w1.alloc (.cells #[pp bx] 130))):=Lib.hid (hf2.alloc _)
 have HE:=Lib.hid e
 have HK:=Lib.hid hkk
 clear hv hp2 hf2 hrow hx1 e hq hbx HRE hkk
 go_wp2_with fail
 refine wp_loop_ghost (fun n a w=>n≤f/\RJ pb tb T d w0 re n a w) ⟨f,Nat.le_refl _,[x],k',vs',_,_,_,_,_,_,_,_,_,_,_,_,_,_,_,_,_,_,_,_,_,_,_,_,_,_,_,_,rfl,HROW.out,HX1.out,HP2.out,HF2.out,Nat.zero_lt_one,by have:=HK.out;simp;omega,by simpa using HE.out⟩ ?_
 clear HROW HX1 HP2 HF2 HK HE hz1
 rintro n a w ⟨hnf,acc,k2,vs,xs,sl,u4,u5,u6,u7,u8,u10,u11,u12,u13,u14,u15,u16,u17,u18,u19,u20,u21,u22,u23,u24,u25,u26,u27,u28,u29,u30,rfl,hown,hxs,hp,hf,h0a,hak,hr⟩
 have hkt:=hp.kt
 have hz:=hf.size
 have hpw:=hp.d2.2.2
 obtain⟨g',cap',rfl⟩:∃ g cap,sl = .slice (some ⟨g,0,none⟩) acc.length cap:=by
  obtain⟨g1,g2 | ⟨g,cp,cur,e1,e2,e3,e4⟩⟩:=hown
  ·omega
  ·exact⟨g,cp,e1⟩
 have HO:=Lib.hid hown
 have HX:=Lib.hid hxs
 have HP:=Lib.hid hp
 have HF:=Lib.hid hf
 by_cases hc:P.isT T k2 [44]=true
 ·rw[if_pos hc] at hr
  cases n with
  | zero=>simp [P.pLits] at hr
  | succ n=>
  rw[P.pLits] at hr
  have HRR:=Lib.hid hr
  clear hown hxs hp hf hr
  go_wp2_with fail
  refine(sIs_yes HP.out [44] hc).mono ?_
  rintro e w2 ⟨rfl,hp2,hf2⟩
  have HP2:=Lib.hid hp2
  have HF2:=Lib.hid hf2
  clear hp2 hf2 hc
  go_wp2_with fail
  cases hq:P.pLit T n (k2+1) vs d with
  | none=>have e:=HRR.out;rw[hq] at e;simp [P.Res.bind] at e
  | some q=>
  have e:=HRR.out
  rw[hq] at e
  refine((hlit n (by omega)).go HP2.out (HC0.out.fr (HF.out.trans HF2.out) htp) hd hq).mono ?_
  cases q with
  | err c0 a0=>
   rintro e2 w4 ⟨⟨b,rfl,hb3,hl3⟩,hf3,hs3⟩
   simp only[P.Res.bind,Option.some.injEq] at e
   subst e
   have hr:=HR.out
   simp only[P.Res.bind,Option.some.injEq] at hr
   subst hr
   have:=HF2.out.size
   exact⟨rfl,⟨b,rfl,hb3,by omega⟩,(HF.out.trans HF2.out).trans hf3,hs3⟩
  | ok x k' vs'=>
  rintro e2 w3 ⟨v,rfl,hv,hp3,hf3⟩
  simp only[P.Res.bind] at e
  obtain⟨bx,rfl,hbx⟩:=hv.shape
  have hkk:=(P.monoB T n).lit _ _ _ _ _ _ hq
  have hz2:=HF2.out.size
  have hz3:=hf3.size
  have hk1:=hp3.kt
  have hpw2:=HP2.out.d2.2.2
  have hw3:=hp3.d2.2.2
  have hown1:w3.ownsRow w0.heap.size 130 1 (.slice (some ⟨g',0,none⟩) acc.length cap') acc.length xs:=by
   obtain⟨g1,g2 | ⟨g,cp,cur,e1,e2,e3,e4⟩⟩:=HO.out
   ·exact⟨g1,.inl g2⟩
   ·exact⟨g1,.inr ⟨g,cp,cur,e1,e2,SFr.ast hf3 ⟨.inr (.inr (.inr rfl)),rfl⟩ (SFr.ast HF2.out ⟨.inr (.inr (.inr rfl)),rfl⟩ e3 (by omega)) (by omega),e4⟩⟩
  have hxs1:IsBds (fun b=>Nu w0 w3 b/\(Value.slice (some ⟨g',0,none⟩) acc.length cap').ownBlock≠some b) w3 xs acc:=
   IsBds.mono (fun b hb=>⟨⟨hb.1.1,by have:=hb.1.2;omega⟩,hb.2⟩) (fun b o hb ha ho=>SFr.ast hf3 ha (SFr.ast HF2.out ha ho (by have:=hb.1.1;omega)) (by have:=hb.1.1;omega)) _ _ HX.out
  have HO1:=Lib.hid hown1
  have HX1:=Lib.hid hxs1
  have HV:=Lib.hid hv
  have HP1:=Lib.hid hp3
  have HF1:=Lib.hid ((HF.out.trans HF2.out).trans hf3)
  have HE:=Lib.hid e
  have HBX:=Lib.hid hbx
  have HK:=Lib.hid hkk
  clear hv hp3 hf3 hown1 hxs1 e hq hbx hkk
  go_wp2_with (at_builtin;go_must (refine wpList_append_own2 rfl _ _ 161 rfl w0.heap.size 130 i0 _ 1 8 Tryz.underlying161 hi iz0 iz1 iz2 rfl (by decide) _ _ _ rfl (HO1.out.alloc _) ⟨w3.heap.size,0,none⟩ 1 1 [pp bx] rfl rfl (one_new rfl) (by simp [Value.oneCell']) (by unfold maxLen;omega) (by omega) (by simp;omega) ?_;intro v' w4 hown2 hgrow2 hfr2;obtain⟨g2,cap2,rfl⟩:=own_succ hown2;have HO2:=Lib.hid hown2;have HG2:=Lib.hid hgrow2;have HFR2:=Lib.hid hfr2;clear hown2 hgrow2 hfr2))
  have hp4:SP w4 pb tb T k' vs' d:=(HP1.out.ext fun b o h=>blk_alloc_old (o:=Obj.cells #[Value.pointer (some ⟨bx,0,none⟩)] 130) h).grownRow (HO1.out.alloc _) (by decide) (by omega) HG2.out
  have hf4:SFr pb w0 w4:=(HF1.out.alloc _).grownNew HG2.out fun k hk=>(HO1.out.lt k hk).1
  have hg4:=HG2.out.size
  rw[size_alloc] at hg4
  have hkeep:∀ (b:Nat) (o:Obj),w3.heap[b]?=some o->(Value.slice (some ⟨g',0,none⟩) acc.length cap').ownBlock≠some b->w4.heap[b]?=some o:=fun b o h hne=>by
   have h':=blk_alloc_old (o:=Obj.cells #[Value.pointer (some ⟨bx,0,none⟩)] 130) h
   rw[HG2.out.block b (ltOf h') (fun e=>hne e.symm)];exact h'
  have hnb:∀ b,b<w3.heap.size->(Value.slice (some ⟨g',0,none⟩) acc.length cap').ownBlock≠some b->(Value.slice (some ⟨g2,0,none⟩) (acc.length+1) cap2).ownBlock≠some b:=fun b hb hne=>by
   rcases HFR2.out with h | h
   ·rw[h];exact hne
   ·intro e
    have:=h b e
    rw[size_alloc] at this
    omega
  have hbn:∀ b,Nu w2 w3 b->(Value.slice (some ⟨g',0,none⟩) acc.length cap').ownBlock≠some b:=fun b hb e=>by
   have:=(HO.out.lt b e).2
   have:=hb.1
   omega
  have hxs4:IsBds (fun b=>Nu w0 w4 b/\(Value.slice (some ⟨g2,0,none⟩) (acc.length+1) cap2).ownBlock≠some b) w4 (xs++[pp bx]) (acc++[x]):=
   IsBds.snoc (IsBd.mono (fun b hb=>⟨⟨by have:=hb.1;omega,by have:=hb.2;omega⟩,hnb b hb.2 (hbn b hb)⟩) (fun b o hb _ ho=>hkeep b o ho (hbn b hb)) _ _ HV.out)
    (IsBds.mono (fun b hb=>⟨⟨hb.1.1,by have:=hb.1.2;omega⟩,hnb b hb.1.2 hb.2⟩) (fun b o hb _ ho=>hkeep b o ho hb.2) _ _ HX1.out)
  have hkk:=HK.out
  exact⟨n,Nat.lt_succ_self n,by omega,acc++[x],k',vs',_,_,_,_,_,_,_,_,_,_,_,_,_,_,_,_,_,_,_,_,_,_,_,_,_,_,_,_,rfl,by rw[List.length_append];exact HO2.out,hxs4,hp4,hf4,by simp,by simp;omega,HE.out⟩
 ·rw[if_neg hc,Option.some.injEq] at hr
  subst hr
  clear hown hxs hp hf
  have hr:=HR.out
  simp only[P.Res.bind,Option.some.injEq] at hr
  subst hr
  clear HR
  have hgl:=(HO.out.lt g' rfl)
  have hsl:=own_IsSl HO.out (F:=Nu w0 w) (fun b hb=>⟨(HO.out.lt b hb).1,(HO.out.lt b hb).2⟩)
  have hxn:IsBds (Nu w0 w) w xs acc:=IsBds.mono (fun b hb=>hb.1) (fun _ _ _ _ h=>h) _ _ HX.out
  have HSL:=Lib.hid hsl
  have HXN:=Lib.hid hxn
  clear hsl hxn
  by_cases h1:acc.length=1
  ·obtain⟨b1,rfl⟩:∃ b1,acc=[b1]:=List.length_eq_one_iff.1 h1
   have hxv:=HXN.out
   unfold IsBds at hxv
   obtain⟨v1,r1,e1,hv1,hr1⟩:=hxv
   unfold IsBds at hr1
   subst hr1
   subst e1
   have hcell:w.cell? ⟨g',0,none⟩=some v1:=by
    obtain⟨g1,g2 | ⟨g,cp,cur,e1,e2,e3,e4,e5,e6,e7⟩⟩:=HO.out
    ·cases g2.1
    ·injection e1 with e1 _ _
     injection e1 with e1
     injection e1 with e1 _ _
     subst e1
     refine cellOf e3 ?_
     have h1:(cur.toList.take 1)[0]?=some v1:=by rw[show cur.toList.take 1=[v1] from e7];rfl
     rw[List.getElem?_take,if_pos (by omega),Array.getElem?_toList] at h1
     exact h1
   have HV1:=Lib.hid hv1
   have hgw:=hgl.2
   clear hv1 h1
   go_wp2_with fail
   refine(sIs_no HP.out [44] (by simpa using hc) (by decide)).mono ?_
   rintro e w2 ⟨rfl,rfl⟩
   clear hc
   go_wp2_with fail
   go_ret
   exact⟨_,rfl,HV1.out,HP.out,HF.out⟩
  ·have hl1:((acc.length:Int) == 1)=false:=by simp;omega
   have hl2:¬ (acc.length:Int)=1:=by omega
   go_wp2_with fail
   refine(sIs_no HP.out [44] (by simpa using hc) (by decide)).mono ?_
   rintro e w2 ⟨rfl,rfl⟩
   clear hc
   go_wp2_with fail
   go_ret
   refine⟨_,rfl,?_,HP.out.ext fun b o h=>blk_alloc_old h,HF.out.alloc _⟩
   have key:=(show IsBd (Nu w0 (w.alloc (.cells #[.int .u8 44,.string (bs []),.slice none 0 0,.slice (some ⟨g',0,none⟩) acc.length cap'] 163))) (w.alloc (.cells #[.int .u8 44,.string (bs []),.slice none 0 0,.slice (some ⟨g',0,none⟩) acc.length cap'] 163)) (pp w.heap.size) (.mk 44 [] [] acc) from isBd_node ⟨hz,by rw[size_alloc];omega⟩ (blk_alloc_new _ _) isSlEx_nil (IsSlBd.mono (fun b hb=>⟨hb.1,by rw[size_alloc];have:=hb.2;omega⟩) (fun b o _ _ ho=>blk_alloc_old ho) ⟨xs,HSL.out,HXN.out⟩))
   rcases acc with _ | ⟨x1,_ | ⟨x2,l⟩⟩
   ·exact key
   ·exact absurd rfl h1
   ·exact key
theorem cRow0:CRow 0:=⟨fun _ _ _ h=>by simp [P.pRow] at h⟩
theorem cRow{f:Nat}(hlit:∀ m,m<f->CLit m):CRow f:=by
 cases f with
 | zero=>exact cRow0
 | succ f=>exact⟨fun hp hc hd h=>sRow (fun m hm=>hlit m (by omega)) hp hc hd h⟩
def P.pCond(T:List P.Tok)(f k:Nat)(vars:List P.Bs)(d:Nat):Option (P.Res P.Bd):=
 P.Res.bind (P.pRow T f k vars d) fun a k1 v1=>
  if P.isT T k1 [45,62] then P.Res.bind (P.pRow T f (k1+1) v1 d) fun b k2 v2=>some (.ok (.mk 63 [] [] [a,b]) k2 v2) else some (.ok a k1 v1)
def IsCd(F:Nat->Prop)(w:World)(v:Value)(x:P.Bd):Prop:=
 (P.whole x/\IsBd F w v x) \/
 ∃ (a b:P.Bd) (n g:Nat) (va vb:Value),x = .mk 63 [] [] [a,b]/\v=pp n/\F n/\F g/\n≠g /\
  w.heap[n]?=some (.cells #[.int .u8 63,.string (bs []),.slice none 0 0,.slice (some ⟨g,0,none⟩) 2 2] 163 (0,0))/\w.heap[g]?=some (.cells #[va,vb] 130) /\
  IsBd (fun m=>F m/\m≠n/\m≠g) w va a/\IsBd (fun m=>F m/\m≠n/\m≠g) w vb b
theorem sCond{f:Nat}(hrow:CRow f){pb tb:Nat}{T:List P.Tok}{k:Nat}{vars:List P.Bs}{d:Nat}{w0:World}{r:P.Res P.Bd}(hp0:SP w0 pb tb T k vars d)(hc0:STabC w0 tb)(hd:d≤8)
  (h:P.pCond T f k vars d=some r):Calls Tryz.prog 94 #[pp pb] w0 (SPost IsCd pb tb T d w0 r):=by
 unfold P.pCond at h
 have HP0:=Lib.hid hp0
 have HC0:=Lib.hid hc0
 have HR:=Lib.hid h
 have hpb0:=hp0.d2.2.2
 have htp:=hp0.lt
 clear hp0 h hc0
 go_enter Tryz.func94,Tryz.ntmps94
 go_wp2_with fail
 cases hq:P.pRow T f k vars d with
 | none=>have e:=HR.out;rw[hq] at e;simp [P.Res.bind] at e
 | some q=>
 have e:=HR.out
 rw[hq] at e
 refine(hrow.go HP0.out HC0.out hd hq).mono ?_
 cases q with
 | err c0 a0=>
  rintro e2 w4 ⟨⟨b,rfl,hb3,hl3⟩,hf3,hs3⟩
  simp only[P.Res.bind,Option.some.injEq] at e
  subst e
  exact⟨rfl,⟨b,rfl,hb3,hl3⟩,hf3,hs3⟩
 | ok x k1 v1=>
 rintro e2 w1 ⟨v,rfl,hv,hp1,hf1⟩
 simp only[P.Res.bind] at e
 obtain⟨bx,rfl,hbx⟩:=hv.shape
 have hwh:=(P.wholeB T f).row _ _ _ _ _ _ hq
 have hz1:=hf1.size
 have HV1:=Lib.hid hv
 have HP1:=Lib.hid hp1
 have HF1:=Lib.hid hf1
 have HBX:=Lib.hid hbx
 have HWH:=Lib.hid hwh
 have HE:=Lib.hid e
 clear hv hp1 hf1 hbx hwh e hq HR
 by_cases hc:P.isT T k1 [45,62]=true
 ·go_wp2_with fail
  refine(sIs_yes HP1.out [45,62] hc).mono ?_
  rintro e w2 ⟨rfl,hp2,hf2⟩
  have HP2:=Lib.hid hp2
  have HF2:=Lib.hid hf2
  have hz2:=hf2.size
  clear hp2 hf2
  go_wp2_with fail
  have e:=HE.out
  rw[if_pos hc] at e
  cases hq:P.pRow T f (k1+1) v1 d with
  | none=>rw[hq] at e;simp [P.Res.bind] at e
  | some q=>
  rw[hq] at e
  refine(hrow.go HP2.out (HC0.out.fr (HF1.out.trans HF2.out) htp) hd hq).mono ?_
  cases q with
  | err c0 a0=>
   rintro e2 w4 ⟨⟨b,rfl,hb3,hl3⟩,hf3,hs3⟩
   simp only[P.Res.bind,Option.some.injEq] at e
   subst e
   exact⟨rfl,⟨b,rfl,hb3,by omega⟩,(HF1.out.trans HF2.out).trans hf3,hs3⟩
  | ok y k2 v2=>
  rintro e2 w3 ⟨v,rfl,hv,hp3,hf3⟩
  simp only[P.Res.bind,Option.some.injEq] at e
  subst e
  obtain⟨by',rfl,hby⟩:=hv.shape
  have hz3:=hf3.size
  have HV3:=Lib.hid hv
  have HP3:=Lib.hid hp3
  have HF3:=Lib.hid hf3
  have hw3:=hp3.d2.2.2
  have hpw1:=HP1.out.d2.2.2
  clear hv hp3 hf3 hby hq HE hc
  go_wp2_with fail
  go_ret
  have hst:∀ o o',((w3.alloc o).alloc o').heap.size=w3.heap.size+2:=fun o o'=>by rw[size_alloc,size_alloc]
  refine⟨_,rfl,.inr ⟨x,y,w3.heap.size+1,w3.heap.size,_,_,rfl,rfl,⟨by omega,by rw[hst];omega⟩,⟨by omega,by rw[hst];omega⟩,by omega,blk_new1 (by rw[size_alloc]),blk_alloc_old (blk_alloc_new _ _),?_,?_⟩,
   HP3.out.ext fun b o h=>blk_alloc_old (blk_alloc_old h),(((HF1.out.trans HF2.out).trans HF3.out).alloc _).alloc _⟩
  ·exact IsBd.mono (fun b hb=>⟨⟨hb.1,by rw[hst];have:=hb.2;omega⟩,by have:=hb.2;omega,by have:=hb.2;omega⟩)
    (fun b o hb ha ho=>blk_alloc_old (blk_alloc_old (SFr.ast HF3.out ha (SFr.ast HF2.out ha ho (by have:=hb.1;omega)) (by have:=hb.1;omega)))) _ _ HV1.out
  ·exact IsBd.mono (fun b hb=>⟨⟨by have:=hb.1;omega,by rw[hst];have:=hb.2;omega⟩,by have:=hb.2;omega,by have:=hb.2;omega⟩)
    (fun b o hb ha ho=>blk_alloc_old (blk_alloc_old ho)) _ _ HV3.out
 ·go_wp2_with fail
  refine(sIs_no HP1.out [45,62] (by simpa using hc) (by decide)).mono ?_
  rintro e w2 ⟨rfl,rfl⟩
  go_wp2_with fail
  go_ret
  have e:=HE.out
  rw[if_neg hc,Option.some.injEq] at e
  subst e
  exact⟨_,rfl,.inl ⟨HWH.out,HV1.out⟩,HP1.out,HF1.out⟩
end Go.Proofs.YtilpjhceemaplaaGreatDoor
