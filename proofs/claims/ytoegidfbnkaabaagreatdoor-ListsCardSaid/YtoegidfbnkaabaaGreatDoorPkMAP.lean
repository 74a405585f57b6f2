/- A part of one proof (PureC2, PureRd, PureLv, PureAe, PureTo, PureKe, ShB1, PureD, PW1, ShP1, ShP2, PW2, PW3, PW4). -/
import Derived.Test.YtoegidfbnkaabaaGreatDoorPkMAO
import Derived.Shelf.Strings.BuilderF
import Derived.Shelf.Strconv.Itoa4
import Derived.Lib.ItoaLen
set_option linter.all false
set_option maxRecDepth 100000
set_option maxHeartbeats 8000000
open Option renaming some → O, none → V
open Go renaming Value → Y, World → Z
open Bool renaming true → G, false → ae
open Go.Obj renaming cells → ah
open Go.Ending renaming returned → ai
open Go.Value renaming nilIface → aj, iface → ak, tuple → aq, pointer → au
open Nat renaming le_trans → a3Q
open List renaming mem_cons_self → a3S, mem_cons → a3T, mem_append → a3Z, not_mem_nil → a30, append_assoc → a36, range → a4g, nil_append → a4u, mem_cons_of_mem → a4A, map_cons → a4K, flatten_cons → a4R, mem_of_getLast? → a48, append_nil → a5B
open Option renaming map_eq_some_iff → a4c
open Go.Result renaming andThen → a4D
open Go.Oper renaming upon_value → a6f
open Go.Lib renaming decDigits → a8H
open Go.Proofs.Tryz renaming prog → bdK
open Go.Proofs.Tryz
namespace Go.Proofs.YtoegidfbnkaabaaGreatDoor
open P
variable{F:Nat->Prop}{K:Y->Prop}{S buf nm tv u v vv:Y}{X:Y->Z->Prop}{b c d f g i k k' n nv pb so told wb:Nat}{cs iF:Array Y}{es:Array MapEntry}{out:Bs}{t:Tm}{tr:Tr}{w w' w1 w2:Z}{xs:List Y}{ρ:Nat->Nat}
namespace P
section
theorem YL(h:n<10):(UInt8.ofNat (48+n)).toNat=48+n:=by
 grind [UInt8.toNat_ofNat']
theorem Lr:∀ (f n:Nat),∀ c∈tz f n,digit c=G
 | 0,n,c,h=>by cases h
 | f+1,n,c,h=>by
  rw[tz] at h;split at h
  .rename_i a;simp only[a3T,a30,or_false] at h;subst h;simp only[digit,decide_eq_true_eq,YL a];omega
  .rw[a3Z] at h;rcases h with h | h
   .exact Lr f _ c h
   .simp only[a3T,a30,or_false] at h;subst h;have:=Nat.mod_lt n (show 10 > 0 by omega);simp only[digit,decide_eq_true_eq,YL this];omega
theorem afe:∀ (f n:Nat),n<f->num (tz f n)=n
 | 0,n,h=>zo
 | f+1,n,h=>by
  rw[tz];split
  .grind [num,YL]
  .have hm:=Nat.mod_lt n (show 10 > 0 by omega);rw[aj3,afe f (n / 10) zo,YL hm];omega
def UA:∀ (f n:Nat),n<f->∃ c r,tz f n=c::r/\(c≠48\/r=[])
 | 0,n,h=>zo
 | f+1,n,h=>by
  rw[tz];split
  .grind
  .rename_i b;obtain⟨c,r,d,a⟩:=UA f (n / 10) zo;refine⟨c,r++[UInt8.ofNat (48+n % 10)],zg,.inl fun e=>?_⟩;rcases a with a | a
   .grind
   .subst e a;grind [afe,num]
theorem UB(n:Nat):num (di n)=n:=afe _ _ zo
theorem aKn{a:Nat}(h:di a=di b):a=b:=by
 grind [UB]
def ao8{c:UInt8}(h:digit c=G):cls c=100:=by
 simp only[digit,decide_eq_true_eq] at h;unfold cls;grind
theorem aKo(h:n<=999999999):mP (di n)=3/\F2 (di n):=by
 have a:=Lr (n+1) n;obtain⟨c,r,d,e⟩:=UA (n+1) n zo;have f:=Hn n 8 zo (n+1) zo;have g:cls c=100:=ao8 (a c zg);have b:mP (di n)=3:=by
  simp_all [di,mP,bU,zip,List.all_eq_true]
 exact⟨b,zo,fun x hx=>by rw[ao8 (a x hx)];omega⟩
def names(n:Nat):List Bs:=(a4g n).map fun i=>95::di (i+1)
mutual
def Ls (S:List Nat):Tm->Tm
 | .atom s=>.atom s
 | .int n=>.int n
 | .var i=>.var (S.idxOf i)
 | .comp name args=>.comp name (UC S args)
 termination_by structural t=>t
def UC (S:List Nat):List Tm->List Tm
 | []=>[]
 | t::r=>Ls S t::UC S r
 termination_by structural t=>t
end
def E4{α:Type}(r:cr α):Prop:=∃ a,r = .err 4 a
section
variable(S:List Nat)
def C2(I:List Item)(s0 s1:List Nat)(t:Tm):Prop:=∀ (T:List Tok) (k d f:Nat) (r:cr Ex),At T k I->ee T (k+I.length) [40]=ae->oU T f k (names s0.length) d=O r ->
 E4 r\/∃ x,r = .ok x (k+I.length) (names s1.length)/\made (a4g S.length) x=Ls S t
def C1(I:List Item)(s0 s1:List Nat)(t:Tm):Prop:=∀ (T:List Tok) (k d f:Nat) (r:cr Ex),At T k I->ee T (k+I.length) [40]=ae->jf T f 1 k (names s0.length) d=O r ->
 E4 r\/∃ x g,pE T g 1 x (k+I.length) (names s1.length) d=O r/\made (a4g S.length) x=Ls S t
def C0(I:List Item)(s0 s1:List Nat)(t:Tm):Prop:=∀ (T:List Tok) (k d f:Nat) (r:cr Ex),At T k I->ee T (k+I.length) [40]=ae->P0 T 1 (k+I.length)=V->jf T f 0 k (names s0.length) d=O r ->
 E4 r\/∃ x g,pE T g 0 x (k+I.length) (names s1.length) d=O r/\made (a4g S.length) x=Ls S t
end
variable{S:List Nat}{I:List Item}{s0 s1 s2:List Nat}{t:Tm}{T:List Tok}
def CR(S:List Nat)(I:List Item)(s0 s1:List Nat)(ts:List Tm):Prop:=(I=[]\/∃ r,I = .sg [44]::r)/\∀ (T:List Tok) (k d at_:Nat) (acc:List Ex) (f:Nat) (r:cr (List Ex)),At T k (I++[.sg [41]]) ->
 (if ee T k [44] then oV T f (k+1) (names s0.length) d at_ acc else if SZ<acc.length then O (.err 4 at_) else O (.ok acc k (names s0.length)))=O r ->
 E4 r\/∃ xs,r = .ok (acc++xs) (k+I.length) (names s1.length)/\n9 (a4g S.length) xs=UC S ts
def aKr:Ex:=.mk 97 [91,93] 0 0 []
def CL(S:List Nat)(I:List Item)(s0 s1:List Nat)(b:Tm):Prop:=(∃ s r,I = .sg s::r/\s∈[[41],[44],[93],[124]])/\∀ (T:List Tok) (k d:Nat) (acc:List Ex) (f g:Nat) (r:cr Ex),At T k I ->
 cr.bind (if ee T k [44] then rj T f (k+1) (names s0.length) d acc else O (.ok acc k (names s0.length))) (fun all k' v'=>
  if ee T k' [124] then cr.bind (jf T g 0 (k'+1) v' d) fun x c a=>mW T [93] (Ar all x) c a else mW T [93] (Ar all aKr) k' v')=O r ->
 E4 r\/∃ x,r = .ok (Ar acc x) (k+I.length) (names s1.length)/\made (a4g S.length) x=Ls S b
end
def zF(c:UInt8)(w:Bs):Prop:=∀ x∈w,x≠c
theorem YM{c:UInt8}:∀ {a:Bs},zF c a->fP c a=[a]
 | [],_=>rfl
 | x::a,h=>by
  rw[ae7,bU (h x a3S),YM fun y b=>h y (a4A _ b)]
def apa:∀ {l:List Bs} {f:Bs},zF 32 f->(∀ w∈l,zF 32 w)->fP 32 (f++(l.map fun w=>32::w).flatten)=f::l
 | [],f,a,_=>by simp_all [List.map_nil,List.flatten_nil,a5B,YM]
 | w::l,f,a,b=>by
  rw[a4K,a4R,List.cons_append,Uy,YM a,apa (b w a3S) zg];rfl
def Lt(w:Bs):Prop:=zF 32 w/\zF 10 w
def apb{c:UInt8}(a:c≠32):∀ {l:List Bs},(∀ w∈l,zF c w)->zF c (l.map fun w=>(32:UInt8)::w).flatten
 | [],_=>fun x hx=>zg
 | w::l,h=>fun x hx=>by
  rw[a4K,a4R] at hx;rcases a3Z.1 hx with hx | hx
  .rcases a3T.1 hx with rfl | hx
   .grind
   .exact h w a3S x hx
  .exact apb a zg x hx
def QU{f:Bs}{l:List Bs}{r:Bs}{k:Nat}{p:Pv}(c:Lt f)(d:∀ w∈l,Lt w):lh (fP 10 (ld f l++r)) k p=match mF (f::l) p with
  | none=>.error k
  | some p=>lh (fP 10 r) (k+1) p:=by
 have h:zF 10 (f++(l.map fun w=>(32:UInt8)::w).flatten):=fun x hx=>by
  rcases a3Z.1 hx with hx | hx
  .exact c.2 x hx
  .exact apb zg (fun w hw=>(d w hw).2) x hx
 have e:fP 10 (ld f l++r)=(f++(l.map fun w=>(32:UInt8)::w).flatten)::fP 10 r:=by
  grind [ld,a36,List.singleton_append,Uy,YM]
 rw[e];have i:=(Ux 10 r).2;cases hr:fP 10 r with
 | nil=>grind
 | cons a b=>
  have g:fP 32 (f++(l.map fun w=>(32:UInt8)::w).flatten)=f::l:=apa c.1 fun w hw=>(d w hw).1;rw[show lh ((f++(l.map fun w=>(32:UInt8)::w).flatten)::a::b) k p=(match mF (fP 32 (f++(l.map fun w=>(32:UInt8)::w).flatten)) p with
   | none=>.error k
   | some p=>lh (a::b) (k+1) p) from J,g]
structure uV(n:Nat)(i:In):Prop where
 wd:Lt i.word
 ws:∀ w∈pM i ((kT i.word).getD []) i.s,Lt w
 rd:qi n (i.word::pM i ((kT i.word).getD []) i.s)=O i
def uV.not{i:In}(h:uV n i):i.word≠[112,114,101,100]/\i.word≠[99,108,97,117,115,101]/\i.word≠[113,117,101,114,121]:=by
 have a:=h.rd;unfold qi at a;simp only at a;refine⟨?_,?_,?_⟩<;>intro e<;>rw[e] at a<;>simp [kT,oe,pL,qR,kZ,mD,rA,kr,jQ] at a
def apd{ws:List Bs}{w:Bs}{p:Pv}(h:w≠[112,114,101,100]/\w≠[99,108,97,117,115,101]/\w≠[113,117,101,114,121]):mF (w::ws) p=match p.ask with
  | some (c,n)=>match qi c.slots (w::ws) with
   | some i=>O { p with ask:=O ({ c with ins:=c.ins++[i] },n) }
   | none=>V
  | none=>if p.open_ then match (mF.Ll p.dJ) with
    | some c=>match qi c.slots (w::ws) with
     | some i=>O { p with dJ:=Hs p.dJ fun q=>{ q with clauses:=FY q.clauses fun c=>{ c with ins:=c.ins++[i] } } }
     | none=>V
    | none=>V
   else none:=by
 unfold mF;grind
def ape{r:Bs}{n:Nat}:∀ {ins:List In} {k:Nat} {p:Pv} {c:Co},p.ask=O (c,n)->(∀ i∈ins,uV c.slots i) ->
  lh (fP 10 ((ins.map BR).flatten++r)) k p=lh (fP 10 r) (k+ins.length) { p with ask:=O ({ c with ins:=c.ins++ins },n) }
 | [],k,p,c,a,_=>by
  simp only[List.map_nil,List.flatten_nil,a4u,a5B,List.length_nil,Nat.add_zero];rw[<- a]
 | i::ins,k,p,c,a,hi=>by
  have h:=hi i a3S;rw[a4K,a4R,a36];show lh (fP 10 (ld i.word (pM i ((kT i.word).getD []) i.s)++_)) k p=_;rw[QU h.wd h.ws,apd h.not,a];simp only;rw[h.rd];simp only;rw[ape (p:={ p with ask:=O ({ c with ins:=c.ins++[i] },n) }) J zg];grind
theorem apf(l:List Co)(c:Co)(f:Co->Co):FY (l++[c]) f=l++[f c]:=by
 simp_all [FY,List.reverse_append]
theorem YN(l:List Pd)(c:Pd)(f:Pd->Pd):Hs (l++[c]) f=l++[f c]:=by
 simp_all [Hs,List.reverse_append]
def apg{r:Bs}{l:List Pd}{name:Bs}{ar:Nat}{cs:List Co}{n:Nat}:∀ {ins:List In} {k:Nat} {done:List In},(∀ i∈ins,uV n i) ->
  lh (fP 10 ((ins.map BR).flatten++r)) k ⟨l++[⟨name,ar,cs++[⟨n,done⟩]⟩],G,V⟩=lh (fP 10 r) (k+ins.length) ⟨l++[⟨name,ar,cs++[⟨n,done++ins⟩]⟩],G,V⟩
 | [],k,done,_=>zg
 | i::ins,k,done,hi=>by
  have h:=hi i a3S;rw[a4K,a4R,a36];show lh (fP 10 (ld i.word (pM i ((kT i.word).getD []) i.s)++_)) k _=_;rw[QU h.wd h.ws,apd h.not];simp only[mF.Ll,List.getLast?_append,List.getLast?_singleton,Option.some_or,if_true];rw[h.rd];simp only[YN,apf];rw[apg zg];grind
theorem aff{z:Int}(h:-9223372036854775808<=z/\z<=9223372036854775807):Ez (jc z)=O z:=by
 have key:∀ a:Int,a=z->(if jc a=jc z/\-9223372036854775808<=a/\a<=9223372036854775807 then O a else V)=O z:=by
  grind
 unfold Ez;simp only;refine key _ ?_;by_cases f:z<0
 .have e:jc z=45::di z.natAbs:=by simp_all [jc,zip]
  grind [UB]
 .have e:jc z=di z.natAbs:=by simp_all [jc,bU]
  rw[e];obtain⟨c,r,d,-⟩:=UA (z.natAbs+1) z.natAbs zo;have g:=Lr (z.natAbs+1) z.natAbs c zg;have b:=UB z.natAbs;unfold di at b ⊢;rw[d] at b ⊢;split
  .simp_all [digit]
  omega
theorem Dg(n:Nat):di n=jc (n:Int):=by simp_all [jc,bU]
theorem QV(h:k<n)(a:n<=100000):jv (di k) n=O k:=by
 grind [jv,Dg,aff]
def afg{n:Nat}(a:n<=100000):∀ {l:List Nat},(∀ k∈l,k<n)->uT n (l.map di)=O l
 | [],_=>rfl
 | k::l,h=>by
  rw[a4K];unfold uT;rw[QV (h k a3S) a,afg a fun x hx=>h x (a4A _ hx)]
structure PdR(p:Pd):Prop where
 wd:Lt p.name
 name:nI p.name=O p.name
 ar:p.arity<64
 cls:∀ c∈p.clauses,c.slots<65/\∀ i∈c.ins,uV c.slots i
theorem F3(n:Nat):Lt (di n):=⟨fun x hx e=>by
 have:=Lr (n+1) n x hx;simp_all [digit],fun x hx e=>by
 have:=Lr (n+1) n x hx;simp_all [digit]⟩
def aph{r:Bs}{l:List Pd}{name:Bs}{ar:Nat}:∀ {cs done:List Co} {k:Nat} {o:Bool},(∀ c∈cs,c.slots<65/\∀ i∈c.ins,uV c.slots i)->∃ k' b,k<=k' /\
  lh (fP 10 ((cs.map fun c=>ld [99,108,97,117,115,101] [di c.slots]++um c).flatten++r)) k ⟨l++[⟨name,ar,done⟩],o,V⟩=lh (fP 10 r) k' ⟨l++[⟨name,ar,done++cs⟩],b,V⟩
 | [],done,k,o,_=>⟨k,o,Nat.le_refl _,zs⟩
 | c::cs,done,k,o,h=>by
  obtain⟨g,d⟩:=h c a3S;obtain⟨k',b,j,ih⟩:=aph (r:=r) (l:=l) (name:=name) (ar:=ar) (cs:=cs) (done:=done++[c]) (k:=k+1+c.ins.length) (o:=true) zg;refine⟨k',b,zo,?_⟩;rw[a4K,a4R,a36,a36];rw[QU (f:=[99,108,97,117,115,101]) (l:=[di c.slots]) (⟨by simp_all [zF],by simp_all [zF]⟩) (by simp_all [List.mem_singleton,F3])];have e:mF [[99,108,97,117,115,101],di c.slots] ⟨l++[⟨name,ar,done⟩],o,V⟩=O ⟨l++[⟨name,ar,done++[⟨c.slots,[]⟩]⟩],G,V⟩:=by
   show(match (V:Option (Co×Nat)),jv (di c.slots) 65 with
    | none,O a=>if (l++[Pd.mk name ar done])=[] then V else O (Pv.mk (Hs (l++[Pd.mk name ar done]) fun q=>{ q with clauses:=q.clauses++[Co.mk a []] }) G V)
    | _,_=>V)=_
   simp_all [QV,YN,bU]
  rw[e];simp only;rw[show um c=(c.ins.map BR).flatten from J,apg d,a4u,ih];simp
def api{r:Bs}:∀ {ps l:List Pd} {k:Nat} {o:Bool},(∀ p∈ps,PdR p)->(l++ps).Pairwise (fun a b=>¬(a.name=b.name/\a.arity=b.arity))->∃ k' j,k<=k' /\
  lh (fP 10 ((ps.map tJ).flatten++r)) k ⟨l,o,V⟩=lh (fP 10 r) k' ⟨l++ps,j,V⟩
 | [],l,k,o,_,_=>⟨k,o,Nat.le_refl _,zs⟩
 | p::ps,l,k,o,h,g=>by
  have d:=h p a3S;obtain⟨m,o1,y,n⟩:=aph (r:=(ps.map tJ).flatten++r) (l:=l) (name:=p.name) (ar:=p.arity) (cs:=p.clauses) (done:=[]) (k:=k+1) (o:=false) d.cls;obtain⟨s,o2,z,t⟩:=api (ps:=ps) (l:=l++[p]) (k:=m) (o:=o1) zg zg;refine⟨s,o2,zo,?_⟩;rw[a4K,a4R,a36];rw[show tJ p=ld [112,114,101,100] [p.name,di p.arity]++(p.clauses.map fun c=>ld [99,108,97,117,115,101] [di c.slots]++um c).flatten from rfl];rw[a36,QU (f:=[112,114,101,100]) (l:=[p.name,di p.arity]) (⟨by unfold zF;decide,by unfold zF;decide⟩) (fun w hw=>by
   simp only[a3T,a30,or_false] at hw;rcases hw with rfl | rfl
   .exact d.wd
   .exact F3 _)]
  have e:mF [[112,114,101,100],p.name,di p.arity] ⟨l,o,V⟩=O ⟨l++[⟨p.name,p.arity,[]⟩],ae,V⟩:=by
   show(match (V:Option (Co×Nat)),nI p.name,jv (di p.arity) 64 with
    | none,O a,O b=>if l.any (fun q=>q.name == a && q.arity == b) then V else O (Pv.mk (l++[Pd.mk a b []]) ae V)
    | _,_,_=>V)=_
   rw[d.name,QV d.ar zo];simp only;rw[bU];intro u;obtain⟨q,x,i⟩:=List.any_eq_true.1 u;simp only[Bool.and_eq_true,beq_iff_eq] at i;rw[List.pairwise_append] at g;exact g.2.2 q x p a3S i
  rw[e];simp only;rw[n,a4u,t];simp
def aKu{l:List Pd}{d:Co}(g:∀ p∈l,PdR p)(h:l.Pairwise (fun a b=>¬(a.name=b.name/\a.arity=b.arity)))(m:d.slots<65)(hi:∀ i∈d.ins,uV d.slots i)(ht:told<=d.slots)(q:(rB l d told).length<=65536) :
  rC (rB l d told) = .ok (l,d,told):=by
 unfold rC;rw[bU zo];obtain⟨k,o,hk,j⟩:=api (r:=ld [113,117,101,114,121] [di d.slots,di told]++um d) (ps:=l) (l:=[]) (k:=1) (o:=false) g h;have s:lh (fP 10 (rB l d told)) 1 ⟨[],ae,V⟩ = .ok ⟨l,G,O (d,told)⟩:=by
  unfold rB;rw[a36,j,a4u];rw[QU (f:=[113,117,101,114,121]) (l:=[di d.slots,di told]) (⟨by grind [zF],by grind [zF]⟩) (fun w hw=>by
   simp only[a3T,a30,or_false] at hw;rcases hw with rfl | rfl<;>exact F3 _)]
  have e:mF [[113,117,101,114,121],di d.slots,di told] ⟨l,o,V⟩=O ⟨l,G,O (⟨d.slots,[]⟩,told)⟩:=by
   show(match (V:Option (Co×Nat)),jv (di d.slots) 65 with
    | none,O a=>(match jv (di told) (a+1) with
     | some b=>O (Pv.mk l G (O (Co.mk a [],b)))
     | none=>V)
    | _,_=>V)=_
   grind [QV]
  rw[e];simp only;have:=ape (r:=[]) (n:=told) (ins:=d.ins) (k:=k+1) (p:=⟨l,G,O (⟨d.slots,[]⟩,told)⟩) (c:=⟨d.slots,[]⟩) J hi;rw[a5B] at this;unfold um;rw[this];simp only[a4u];show lh [[]] _ _=_;unfold lh;rw[zip ⟨J,zo⟩]
 grind
def Pv.cur(p:Pv):Option Co:=match p.ask with
 | some (c,_)=>O c
 | none=>if p.open_ then mF.Ll p.dJ else V
def Pv.add(p:Pv)(i:In):Pv:=match p.ask with
 | some (c,n)=>{ p with ask:=O ({ c with ins:=c.ins++[i] },n) }
 | none=>{ p with dJ:=Hs p.dJ fun q=>{ q with clauses:=FY q.clauses fun c=>{ c with ins:=c.ins++[i] } } }
abbrev Dh:Bs:=[112,114,101,100]
abbrev BW:Bs:=[99,108,97,117,115,101]
abbrev EF:Bs:=[113,117,101,114,121]
theorem YO{w0:Bs}{r:List Bs}{p:Pv}(a:p.ask≠V)(hw:w0=Dh\/w0=BW\/w0=EF):mF (w0::r) p=none:=by
 obtain⟨dJ,o,ask⟩:=p;cases ask with
 | none=>grind
 | some cn=>
  unfold mF;grind
def aKv{a b:Bs}{p:Pv}(c:p.ask=V):mF [Dh,a,b] p=match nI a,jv b 64 with
  | some a,O b=>if p.dJ.any (fun q=>q.name == a && q.arity == b) then V else O { p with dJ:=p.dJ++[⟨a,b,[]⟩],open_:=false }
  | _,_=>none:=by
 grind [mF,nI,jv]
def aKw{a:Bs}{p:Pv}(b:p.ask=V)(c:p.dJ≠[]):mF [BW,a] p=match jv a 65 with
  | some a=>O { p with dJ:=Hs p.dJ fun q=>{ q with clauses:=q.clauses++[⟨a,[]⟩] },open_:=true }
  | none=>none:=by
 grind [mF]
theorem apj{a b:Bs}{p:Pv}(c:p.ask=V):mF [EF,a,b] p=match jv a 65 with
  | some a=>match jv b (a+1) with
   | some b=>O { p with ask:=O (⟨a,[]⟩,b),open_:=true }
   | none=>V
  | none=>none:=by
 grind [mF,jv]
def aKx{w0:Bs}{r:List Bs}{p:Pv}(b:¬ (p.ask≠V/\(w0=Dh\/w0=BW\/w0=EF)))(d:¬ (w0=Dh/\r.length=2))(f:¬ (w0=BW/\r.length=1/\p.dJ≠[]))(g:¬ (w0=EF/\r.length=2)) :
  mF (w0::r) p=match p.cur with
   | some c=>match qi c.slots (w0::r) with
    | some i=>O (p.add i)
    | none=>V
   | none=>none:=by
 unfold mF;split
 .grind
 .rename_i e;injection e with h j;have a:p.dJ=[]:=zg;obtain⟨dJ,o,ask⟩:=p;have a:dJ=[]:=a;subst a;cases ask with
  | some c=>grind
  | none=>
   have k:(Pv.mk [] o V).cur=none:=by
    unfold Pv.cur;cases o<;>rfl
   grind
 .grind
 .obtain⟨dJ,o,ask⟩:=p;cases ask with
  | none=>
   rw[bU zs];grind [Pv.cur,Pv.add]
  | some c=>
   rw[bU]
   .grind [Pv.cur,Pv.add]
   grind
def Pv.Bd(k:Nat)(p:Pv):Prop:=(∀ q∈p.dJ,q.clauses.length<=k/\∀ c∈q.clauses,c.ins.length<=k/\c.slots<=64)/\∀ c n,p.ask=O (c,n)->c.ins.length<=k/\c.slots<=64
theorem Pv.Bd.cur{k:Nat}{p:Pv}{c:Co}(h:p.Bd k)(a:p.cur=O c):c.ins.length<=k/\c.slots<=64:=by
 unfold Pv.cur at a;split at a
 .rename_i e n b;injection a with a;subst a;exact h.2 _ _ b
 .split at a
  .unfold mF.Ll at a;split at a
   .rename_i q d;exact(h.1 q (a48 d)).2 c (a48 a)
   grind
  grind
theorem Pv.Bd.add{k:Nat}{p:Pv}(h:p.Bd k)(i:In):(p.add i).Bd (k+1):=by
 unfold Pv.add;split
 .rename_i c n f;refine⟨fun q a=>⟨by have:=(h.1 q a).1;omega,fun c b=>⟨by have:=((h.1 q a).2 c b).1;omega,((h.1 q a).2 c b).2⟩⟩,fun l m he=>?_⟩;injection he with he;injection he with d g;subst d;have:=h.2 _ _ f;grind
 .rename_i f;refine⟨fun q a=>?_,fun c n he=>?_⟩
  .rcases aeZ a with a | ⟨q0,e,rfl⟩
   rotate_left
   .have a:=a48 e;refine⟨?_,fun c b=>?_⟩
    .show(FY _ _).length<=_;rw[aoJ];have:=(h.1 q0 a).1;omega
    .rcases aoI b with b | ⟨c0,j,rfl⟩
     .exact⟨by have:=((h.1 q0 a).2 c b).1;omega,((h.1 q0 a).2 c b).2⟩
     .have:=(h.1 q0 a).2 c0 (a48 j);grind
   .exact⟨by have:=(h.1 q a).1;omega,fun c b=>⟨by have:=((h.1 q a).2 c b).1;omega,((h.1 q a).2 c b).2⟩⟩
  grind
theorem Pv.Bd.mono{p:Pv}(h:p.Bd k)(hk:k<=k'):p.Bd k':=
 ⟨fun q a=>⟨a3Q (h.1 q a).1 hk,fun c b=>⟨a3Q ((h.1 q a).2 c b).1 hk,((h.1 q a).2 c b).2⟩⟩,fun c n he=>⟨a3Q (h.2 c n he).1 hk,(h.2 c n he).2⟩⟩
theorem afj(c:UInt8):∀ (s:Bs),∀ l∈fP c s,c ∉ l/\l.length<=s.length
 | [],l,h=>by
  simp_all [fP]
 | x::r,l,h=>by
  have ih:=afj c r;unfold fP at h;grind
def Wk.new(b:Bd)(n:Nat):Wk:=⟨n,⟨[],0⟩,[⟨O b,a4g n,0⟩],[]⟩
def BX(c:Co):Vm:=⟨0,⟨[],0⟩,[⟨c,List.replicate c.slots .nil,0,V,0,G⟩],0,0,[]⟩
def Om(dJ:List Pd)(told:Nat):En where
 St:=Vm
 sr m:=m.sr
 nv m:=m.n
 fu m f:={ m with sr:={ m.sr with fuel:=f } }
 nx d f m:=Od dJ d f m
 told m:=m.iO (a4g told)
def A4(cs:List Cl)(b:Bd)(nv:Nat):Option Bs:=match vN cs [] with
 | none=>V
 | some l=>match xt [] b nv G with
  | none=>V
  | some a=>O (rB l a nv)
inductive afk where
 | err (e:Nat) (at_:Int)
 | ok (E:En) (st:E.St) (names:List Bs)
def runT(t:Bs)(names:List Bs):afk:=match rC t with
 | .error (e,k)=>.err e k
 | .ok (ps,c,n)=>.ok (Om ps n) (BX c) names
def Lu(cs:List Cl)(q:Bs)(machine:Bool):afk:=match ry qg q with
 | .err e a=>.err e a
 | .ok b _ vs=>if machine then match A4 cs b vs.length with
   | none=>.err 4 (-1)
   | some t=>runT t vs
  else .ok (Lj cs vs.length) (Wk.new b vs.length) vs
def Lv(d f n:Nat):afk->Option (List (Bs×Nat))
 | .err _ _=>V
 | .ok E st names=>(Oe E names d f n (V,st)).map Prod.fst
def apk:∀ (d c:List Bs) (k:Nat) (p q:Pv),c≠[]->lh (d++c) k p = .ok q->∃ p1,lh c (k+d.length) p1 = .ok q
 | [],c,k,p,q,_,h=>⟨p,h⟩
 | l::d,c,k,p,q,e,h=>by
  have f:d++c≠[]:=(by simp_all);obtain⟨x,r,hx⟩:∃ x r,d++c=x::r:=by
   cases g:d++c with
   | nil=>grind
   | cons a b=>grind
  rw[List.cons_append,hx,lh] at h
  .split at h
   .grind
   .rename_i p1 _;rw[<- hx] at h;obtain⟨p2,i⟩:=apk d c (k+1) p1 q e h;grind
  grind
def aKz{ws:List Bs}{p a:Pv}(h:mF ws p=O a)(b:p.ask.map (·.2)=O n):a.ask.map (·.2)=O n:=by
 obtain⟨dJ,o,ask⟩:=p;cases ask with
 | none=>grind
 | some cn=>
  obtain⟨c,d⟩:=cn;simp only[Option.map_some,Option.some.injEq] at b;subst b;unfold mF at h;grind
theorem apl:∀ (L:List Bs) (k:Nat) (p q:Pv) (n:Nat),lh L k p = .ok q->p.ask.map (·.2)=O n->q.ask.map (·.2)=O n
 | [],k,p,q,n,h,a=>by
  simp_all [lh]
 | [r],k,p,q,n,h,a=>by
  grind [lh]
 | r::s::rs,k,p,q,n,h,a=>by
  rw[lh] at h
  .split at h
   .grind
   .rename_i p1 b;exact apl (s::rs) _ _ _ _ h (aKz b a)
  grind
theorem aKA(h:jv (di nv) n=O b):b=nv:=by
 unfold jv at h;split at h
 .rename_i z a;split at h
  .rename_i c;injection h with h;have d:=(YC a).1;grind [jc,aKn]
  grind
 grind
def Nl(s:Bs):Prop:=s=[]\/∃ a,s=a++[10]
def Nl.app{a b:Bs}(d:Nl a)(c:Nl b):Nl (a++b):=by
 rcases c with rfl | ⟨x,rfl⟩
 .grind
 .exact .inr ⟨a++x,zg⟩
theorem Nl.flat:∀ {L:List Bs},(∀ x∈L,Nl x)->Nl L.flatten
 | [],_=>.inl J
 | x::r,h=>by rw[a4R];exact(h x a3S).app (Nl.flat zg)
def Nl.words(f:Bs)(l:List Bs):Nl (ld f l):=.inr ⟨_,J⟩
theorem Nl.map{α:Type}{g:α->Bs}(a:∀ x,Nl (g x))(L:List α):Nl (L.map g).flatten:=Nl.flat fun x hx=>by
 grind
def Nl.pd(p:Pd):Nl (tJ p):=(Nl.words _ _).app (Nl.map (fun _=>(Nl.words _ _).app (Nl.map (fun _=>Nl.words _ _) _)) _)
def aKB(A r:Bs)(b:Nl A):∃ L,fP 10 (A++r)=L++fP 10 r:=by
 rcases b with rfl | ⟨a,rfl⟩
 .simp_all
 simp_all [fP,a36,Uy]
def aKC(c:UInt8):∀ (s:Bs),fP c s≠[]
 | []=>by simp [fP]
 | x::r=>by
  grind [ae7]
theorem aKD{l:List Pd}{a:Co}{ps:List Pd}{c:Co}(h:rC (rB l a nv) = .ok (ps,c,n)):n=nv:=by
 unfold rC at h;split at h
 .grind
 split at h
 .grind
 rename_i q b;split at h
 .rename_i k m o;injection h with h;injection h with d h;injection h with e g;subst d e g;have i:Nl (l.map tJ).flatten:=Nl.map Nl.pd l;unfold rB at b;rw[a36] at b;obtain⟨L,j⟩:=aKB _ (ld [113,117,101,114,121] [di a.slots,di nv]++um a) i;rw[j] at b;obtain⟨p1,d⟩:=apk L _ _ _ _ (aKC _ _) b;rw[QU (f:=[113,117,101,114,121]) (l:=[di a.slots,di nv]) (⟨by grind [zF],by grind [zF]⟩) (fun w hw=>by
   simp only[a3T,a30,or_false] at hw;rcases hw with rfl | rfl<;>exact F3 _)] at d
  grind [YO,apl,aKA,apj]
 grind
def aKE{cs:List Cl}{x:Bd}{t:Bs}{ps:List Pd}{c:Co}(a:A4 cs x nv=O t)(b:rC t = .ok (ps,c,n)):n=nv:=by
 grind [A4,aKD]
def UE{E:En}{v':List Bs}{q q':Qs E}{a:Bs×Nat}{l:List (Bs×Nat)}(h:Oe E v' d f (n+1) q=O (a::l,q')):∃ q1,Hr E v' d f q=O (a,q1)/\Oe E v' d f n q1=O (l,q'):=by
 grind [Oe]
def pA:Bs:=[97,46]
end P
open Go.Proofs.YtoegidfbnkaabaaGreatDoor.Sx
section
variable{p0 p1 p2 p3 p4 p5 p6 p7:Y}{w:Z}{R:Ending->Z->Prop}
def apm:=cz w R [p0,p1] (gc [] [] []) func44
def Hy(p0 p1:Y)(w:Z)(R:Ending->Z->Prop):Prop:=
 CA bdK 82 #[p0] w (fun k w1=>
 NC p0 fun g=>
 RD bdK (Instr.fieldAt 100 g 1) w1 (fun h=>
 RD bdK (Instr.loadAt 98 h) w1 (fun a=>
 WR bdK (Instr.buildSlice 98 1 #[(0,p1)]) w1 (fun b c=>
 WR bdK (Builtin.append_ #[98,98] 98 #[a,b]) c (fun d f=>
 NC p0 fun e=>
 RD bdK (Instr.fieldAt 100 e 1) f (fun i=>
 WU bdK (Instr.storeAt 98 i d) f (fun j=>
 R (ai aj) j) (PX R)) (PX R)) (PX R)) (PX R)) (PX R)) (PX R)) (PC R)
def apn(h:Hy p0 p1 w R):Calls bdK 95 #[p0,p1] w R:=
 cq (args:=[p0,p1]) (Fu (fun _=>[]) (fun _=>V) (fun _=>0) (fun _=>V) (fun _=>[]) (fun _=>[]) (fun _=>ae) (fun _=>ae)) func95 J zk zk h
def aKI{u:FrameMode}{w:Z}{R:Ending->Z->Prop}(h:Hy tv vv w R):CallsD bdK 95 #[tv,vv] u w fun e a w'=>a=u/\R e w':=
 avL (args:=[tv,vv]) (Fu (fun _=>[]) (fun _=>V) (fun _=>0) (fun _=>V) (fun _=>[]) (fun _=>[]) (fun _=>ae) (fun _=>ae)) func95 J zk zk (Nat.le_of_ble_eq_true zk) [] zk h
end
namespace P
structure Nd where
 kind:Nat
 name:Bs
 n:Int
 args:List Nat
deriving Inhabited
structure Hp where
 nodes:List Nd
 to:List Int
 aX8:List Nat
 cost:Nat
 apo:Nat
 err:Nat
def Hp.nd(H:Hp)(t:Nat):Nd:=H.nodes.getD t ⟨0,[],0,[]⟩
def Hp.afp(H:Hp)(t:Nat):Int:=H.to.getD t (-1)
def Hp.Em(H:Hp):Bool:=decide (H.apo<H.cost) || decide (H.err≠0)
def Hp.add(H:Hp)(d:Nd):Hp:={ H with nodes:=H.nodes++[d],to:=H.to++[-1] }
def Hp.walk(H:Hp):Nat->Nat->Option Nat
 | 0,t=>if (H.nd t).kind=118/\0<=H.afp t then V else O t
 | f+1,t=>if (H.nd t).kind=118/\0<=H.afp t then H.walk f (H.afp t).toNat else O t
def Hp.fresh(H:Hp):Nat->Hp×List Nat
 | 0=>(H,[])
 | n+1=>let (a,l):=(H.add ⟨118,[],0,[]⟩).fresh n;(a,H.nodes.length::l)
mutual
def Hp.made (H:Hp) (vs:List Nat):Ex->Hp×Nat
 | .mk kind name n k args=>if kind=118 then(H,vs.getD k 0) else
  let (a,l):=H.n9 vs args
  (a.add ⟨kind,name,n,l⟩,a.nodes.length)
 termination_by structural x=>x
def Hp.n9 (H:Hp) (vs:List Nat):List Ex->Hp×List Nat
 | []=>(H,[])
 | x::xs=>let (a,t):=H.made vs x;let (b,l):=a.n9 vs xs;(b,t::l)
 termination_by structural x=>x
end
def Hp.lz(H:Hp)(t:Nat):Nat:=if (H.nd t).kind≠99 then 0 else P.lz (H.nd t).name (H.nd t).args.length
abbrev Xr:=Bs×Nat×List Nat
def Xb(x:Option Xr)(k:Bs->Nat->List Nat->Option Xr):Option Xr:=
 match x with
 | none=>V
 | some (s,c,l)=>k s c l
def Hp.over(H:Hp)(c:Nat):Bool:=decide (H.apo<c) || decide (H.err≠0)
mutual
def Hp.text (H:Hp):Nat->Nat->Nat->Nat->List Nat->Option Xr
 | 0,_,_,_,_=>V
 | f+1,t,least,c,seen=>
  if H.over (c+1) then O ([],c+1,seen)
  else match H.walk f t with
   | none=>V
   | some t=>
    if (H.nd t).kind=97 then O ((H.nd t).name,c+1,seen)
    else if (H.nd t).kind=110 then O (jc (H.nd t).n,c+1,seen)
    else if (H.nd t).kind=118 then match seen.idxOf? t with
     | some k=>O (95::di (k+1),c+1,seen)
     | none=>O (95::di (seen.length+1),c+1,seen++[t])
    else if H.lz t≠0 then
     Xb (H.text f ((H.nd t).args.getD 0 0) (H.lz t) (c+1) seen) fun a c seen=>Xb (H.text f ((H.nd t).args.getD 1 0) (H.lz t+1) c seen) fun b c seen=>
      let op:=if (H.nd t).name=[109,111,100] then [32,109,111,100,32] else(H.nd t).name
      O (if H.lz t<least then 40::(a++op++b++[41]) else a++op++b,c,seen)
    else if (H.nd t).name=[46]/\(H.nd t).args.length=2 then H.list f t [91] (c+1) seen
    else H.targs f (H.nd t).args G ((H.nd t).name++[40]) (c+1) seen
 termination_by structural f=>f
def Hp.targs (H:Hp):Nat->List Nat->Bool->Bs->Nat->List Nat->Option Xr
 | 0,_,_,_,_,_=>V
 | _+1,[],_,out,c,seen=>O (out++[41],c,seen)
 | f+1,a::r,first,out,c,seen=>Xb (H.text f a 0 c seen) fun s c seen=>H.targs f r ae ((if first then out else out++[44])++s) c seen
 termination_by structural f=>f
def Hp.list (H:Hp):Nat->Nat->Bs->Nat->List Nat->Option Xr
 | 0,_,_,_,_=>V
 | f+1,t,out,c,seen=>
  Xb (H.text f ((H.nd t).args.getD 0 0) 0 c seen) fun a c seen=>
   match H.walk f ((H.nd t).args.getD 1 0) with
   | none=>V
   | some r=>
    if H.over c then O (out++a,c,seen)
    else if (H.nd r).kind=97/\(H.nd r).name=[91,93] then O (out++a++[93],c,seen)
    else if (H.nd r).kind=99/\(H.nd r).name=[46]/\(H.nd r).args.length=2 then H.list f r (out++a++[44]) c seen
    else Xb (H.text f r 0 c seen) fun b c seen=>O (out++a++[124]++b++[93],c,seen)
 termination_by structural f=>f
end
end P
open Go.RowKit Sx
abbrev uW(l:Bs):List Y:=l.map fun c=>.int .u8 c.toNat
def tN(w:Z)(wb:Nat)(S nm:Y)(out:Bs):Prop:=
 ∃ a buf,(a = au V\/a=pp wb)/\w.heap[wb]?=aO #[a,buf,S,nm] 103/\w.ownsRow (wb+1) 5 1 buf out.length (uW out)
def MB(wb b:Nat)(o:Obj):Prop:=b=wb\/(wb<b/\∃ cs z,o = ah cs 5 z)
abbrev jT(wb:Nat)(w w':Z):Prop:=bD (MB wb) w w'
def YQ:(Tryz.prog.info? 100).map (·.size)=O 2:=zk
def aKL:liesAt bdK Tryz.prog.depth 103 (4 / Tryz.prog.cellsOf 103) 0 100 1=true:=zk
def aKM(h:w.heap[b]?=aO #[pp b,buf,S,nm] 103) :
  Calls bdK 82 #[pp b] w fun e w'=>e = ai (aq #[])/\w'=w:=by
 obtain⟨j,hj,_⟩:=a4c.1 YQ;have h0:w.cell? ⟨b,0,V⟩=O (pp b):=by grind [World.cell?]
 go_enter func82,ntmps82
 go_wp2
 rw[Lib.run_neq_ptr_same w _ underlying97 hj]
 go_wp2
 go_end0
 grind
def aKN(h:w.heap[b]?=aO #[au V,buf,S,nm] 103) :
  Calls bdK 82 #[pp b] w fun e w'=>e = ai (aq #[])/\w'=w.setCell ⟨b,0,V⟩ (pp b):=by
 obtain⟨j,hj,QZ⟩:=a4c.1 YQ;have h0:w.cell? ⟨b,0,V⟩=O (au V):=by grind [World.cell?]
 have I5:w.frozen? ⟨b,0,V⟩=false:=jV h 0;have tL:w.shape? b=O (103,4):=by grind [World.shape?]
 go_enter func82,ntmps82
 go_wp2
 rw[Lib.run_to_unsafe w ⟨b,0,V⟩ underlying97 underlying155 hj zo tL (Nat.zero_lt_succ 3)];simp only[a4D];rw[a6f]
 go_wp2
 rw[run_callFunc_extern func110 zk zk zk (e:=Extern.AbiNoEscape.same) zk];rw[Lib.run_noEscape];simp only[a4D];rw[a6f]
 go_wp2
 rw[Lib.run_from_unsafe w ⟨b,0,V⟩ underlying155 underlying97 hj tL aKL];simp only[a4D];rw[a6f]
 go_wp2
 go_end0
 grind
def apq(h:tN w wb S nm out) :
  Calls bdK 82 #[pp wb] w fun e w'=>e = ai (aq #[])/\jT wb w w'/\w'.heap.size=w.heap.size/\∃ buf,
   w'.heap[wb]?=aO #[pp wb,buf,S,nm] 103/\w'.ownsRow (wb+1) 5 1 buf out.length (uW out):=by
 obtain⟨d,buf,b,a,c⟩:=h;rcases b with rfl | rfl
 .refine(aKN a).mono ?_;rintro e w' ⟨rfl,rfl⟩;rw[vz a];refine⟨J,(bD.refl _ _).bR (.inl fun _=>.inl J),yH,buf,yH,(by grind [KD])⟩
 .refine(aKM a).mono ?_;rintro e w' ⟨rfl,rfl⟩;exact⟨J,bD.refl _ _,J,buf,a,c⟩
def jT.YR(d:w1.ownsRow (wb+1) 5 1 buf n xs)(a:w1.grownBy w2 buf.ownBlock):jT wb w1 w2:=⟨a.os,a.tape,a.output,a.size,fun b o c hm=>by
 rw[a.block b (bn c) (fun e=>?_)]
 .exact yH
 .rcases d.2 with⟨rfl,_⟩| ⟨g,cap,cur,rfl,h,f,_⟩
  .cases e
  .simp only[Value.ownBlock,Option.some.injEq] at e;subst e;rw[f] at c;injection c with c;exact hm (.inr zg)⟩
def aKO(h:tN w wb S nm out)(s:Bs)(f:out.length+s.length<=1000000000) :
  Calls bdK 44 #[pp wb,aW s] w fun e w'=>(∃ v,e = ai v)/\tN w' wb S nm (out++s)/\jT wb w w':=by
 refine apm ?_;refine(apq h).mono ?_;rintro e w1 ⟨rfl,g,s1,buf,b,a⟩;have i:=bn b;refine cJ b ?_;refine akS (e:=5) zk a s f zo ?_;intro v' w2 o2 c hv;have d:w2.heap[wb]?=aO #[pp wb,buf,S,nm] 103:=by
  rw[c.block wb i (fun e=>by have:=(a.lt wb e.symm).1;omega)];omega
 have j:=bn d;obtain⟨l,rc,rfl⟩:=gZ o2;refine cJ d ?_;have k:jT wb w1 w2:=jT.YR a c;refine⟨⟨_,J⟩,⟨_,_,.inr J,qI J j,KD ?_ zo⟩,(g.trans k).bR (.inl fun _=>.inl J)⟩;grind
def apr:(Tryz.prog.info? 5).map (fun i=>(i.zero,i.size,i.bytes))=O (O (.int .u8 0),1,1):=zk
def aps(h:tN w wb S nm out)(c:UInt8)(j:out.length+1<=1000000000) :
  Hy (pp wb) (.int .u8 c.toNat) w fun e w'=>(∃ v,e = ai v)/\tN w' wb S nm (out++[c])/\jT wb w w':=by
 obtain⟨i,hi,d⟩:=a4c.1 apr;simp only[Prod.mk.injEq] at d;obtain⟨k,l,n⟩:=d;unfold Hy;refine Calls.mono (apq h) ?_;rintro e w1 ⟨rfl,o,s1,buf,f,a⟩;have r:=bn f;refine dA @Hy.eq_1 f ?_;refine Sx.DY (m:=1) (t:=98) (e:=5) zk hi k l n J zd (a.alloc _) (blk_alloc_new _ _) J (fun u hu=>?_) j zd (by rw[size_alloc];omega) ?_
 .simp only[a3T,a30,or_false] at hu;subst hu;rfl
 intro v' w2 o2 b hv;have s2:=b.size;rw[size_alloc] at s2;have g:w2.heap[wb]?=aO #[pp wb,buf,S,nm] 103:=by
  rw[b.block wb (yH) (fun e=>by have:=(a.lt wb e.symm).1;omega)];exact yH
 have p:=bn g;obtain⟨s,rc,rfl⟩:=gZ o2;refine dA @Hy.eq_1 g ?_;have q:jT wb w1 w2:=((bD.refl _ _).alloc _).trans (jT.YR (a.alloc _) b);refine⟨⟨_,J⟩,⟨_,_,.inr J,qI J p,KD ?_ zo⟩,(o.trans q).bR (.inl fun _=>.inl J)⟩;grind
def aKP(h:tN w wb S nm out)(c:UInt8)(a:out.length+1<=1000000000) :
  Calls bdK 95 #[pp wb,.int .u8 c.toNat] w fun e w'=>(∃ v,e = ai v)/\tN w' wb S nm (out++[c])/\jT wb w w':=
 apn (aps h c a)
def apu(h:tN w wb S nm out)(c:UInt8)(a:out.length+1<=1000000000){u:FrameMode} :
  CallsD bdK 95 #[pp wb,.int .u8 c.toNat] u w fun e b w'=>b=u/\(∃ v,e = ai v)/\tN w' wb S nm (out++[c])/\jT wb w w':=
 aKI (aps h c a)
def apv:Tryz.prog.cellsOf 5=1:=zk
def apw{z:Nat×Nat}(d:wb<g)(c:w.heap[g]?=O (ah iF 5 z)):jT wb w (w.freeze ⟨g,0,V⟩ n):=by
 unfold World.freeze;split
 .grind [bD.refl]
 .exact⟨J,J,J,zs,fun b o a hm=>by
   simp only[Array.getElem?_modify];rw[bU]
   .omega
   .rintro rfl;rw[c] at a;injection a with a;exact hm (.inr zg)⟩
def apx(h:tN w wb S nm out)(h0:out≠[]) :
  Calls bdK 33 #[pp wb] w fun e w'=>e = ai (aW out)/\jT wb w w':=by
 obtain⟨ad,buf,Hz,hb,ho⟩:=h;have rm:out.length≠0:=zg;obtain⟨g,cap,cur,rfl,Xg,hg,tV,Cn,jr,Xh⟩:∃ g cap cur,buf = cS g out.length cap/\wb+1<=g/\w.heap[g]?=aO cur 5/\out.length<=cap/\cap<=maxLen/\cur.size=cap*1/\cur.toList.take (out.length*1)=uW out:=by
  rcases ho.2 with⟨_,hz⟩| ⟨g,cap,cur,hv,r⟩
  .exact yH
  .exact⟨g,cap,cur,hv,r⟩
 have nZ:w.drew.heap[wb]?=aO #[ad,cS g out.length cap,S,nm] 103:=hb;have c1:w.drew.cell? ⟨wb,1,V⟩=O (cS g out.length cap):=by grind [World.cell?]
 have hSD:(Builtin.unsafeSliceData_ #[98] 181 #[cS g out.length cap]).run bdK w.drew = .ok (pp g) w.drew:=
  (by grind [Lib.run_unsafeSliceData_row])
 have hUS:(Builtin.unsafeString_ #[181,3] 9 #[pp g,zi out.length]).run bdK w.drew = .ok (aW out) (w.drew.freeze ⟨g,0,V⟩ out.length):=by
  refine Lib.run_unsafeString_row w.drew 181 3 9 5 underlying181 apv g cur.size (by have jL:w.drew.heap[g]?=aO cur 5:=hg;grind [World.shape?]) out h0 zo (by grind [maxLen]) ?_;intro j x hx;have:=ho.cells (g:=g) J j (.int .u8 x.toNat) zg;exact this
 go_enter func33,ntmps33
 go_wp2
 go_region
 all_goals (go_wp2;go_ret;exact⟨J,(bD.drew (bD.refl _ _)).trans (apw zo hg)⟩)
section
variable{p0 p1 p2 p3 p4 p5 p6 p7:Y}{w:Z}{R:Ending->Z->Prop}
def aKS:=cz w R [p0] (gc [] [] [13]) func61
def aKT:=cz w R [p0] (gc [(1,[0])] [(2000,[18]),(3001,[])] [4,9,10,17,18]) func62
def aKU:=cz w R [p0,p1] (gc [] [(3000,[8]),(5000,[15])] [5,7,8,13,14,15,24,25]) func94
def aKV:=cz w R [p0,p1] (gd [(10,[46])] [] [] [(12,[13,0,1,2,3,4,5,6,7,8,9,10,11,12])] [] [] [12,13,19,20,26,27,47]) func32
end
section
variable{p0 p1 p2 p3 p4 p5 p6 p7:Y}{w:Z}{R:Ending->Z->Prop}
def aKW:=cz w R [p0,p1,p2] (gd [] [(13001,[]),(15004,[9])] [] [(7,[6,0,1,2,3,4,5]),(16,[7,0,1,2,3,4,5,6])] [] [] [10,20,28,37,47,48,49,54,79]) func31
def aKX:=cz w R [p0,p1] (gc [(1,[1,4])] [(7000,[42]),(12008,[1])] [28,41,42,45,48]) func96
def aKY:=cy w R [p0,p1,p2] (gd [(3,[32])] [(16002,[]),(18000,[101])] [(0,9),(1,7),(5,6),(16,7)] [] [] [] [33,52,54,57,78,101,113,114]) func65
end
mutual
def dK (F:Nat->Prop) (ρ:Nat->Nat) (n:Nat) (w:Z) (v:Y):Tm->Prop
 | .atom s=>v = ak 171 (.string (bs s))
 | .int k=>v = ak 172 (.int .i64 k)
 | .var i=>i<n/\v = ak 87 (au (O ⟨ρ i,0,V⟩))
 | .comp name args=>∃ b av vs,v = ak 175 (au (O ⟨b,0,V⟩))/\F b/\w.heap[b]?=O (ah #[.string (bs name),av] 180 (0,0)) /\
  fO F w 89 av vs/\iJ F ρ n w vs args
 termination_by structural t=>t
def iJ (F:Nat->Prop) (ρ:Nat->Nat) (n:Nat) (w:Z) (vs:List Y):List Tm->Prop
 | []=>vs=[]
 | t::ts=>∃ v r,vs=v::r/\dK F ρ n w v t/\iJ F ρ n w r ts
 termination_by structural t=>t
end
abbrev dO(ρ:Nat->Nat)(n:Nat)(w:Z)(v:Y)(t:Tm):Prop:=dK (fun _=>True) ρ n w v t
abbrev ql(ρ:Nat->Nat)(n:Nat)(w:Z)(vs:List Y)(ts:List Tm):Prop:=iJ (fun _=>True) ρ n w vs ts
def rF(F:Nat->Prop)(w w':Z):Prop:=∀ b cs t,F b->t=180\/t=89->w.heap[b]?=aO cs t->w'.heap[b]?=aO cs t
abbrev YS(w w':Z):Prop:=rF (fun _=>True) w w'
theorem rF.ea(h:Ext w w'):rF F w w':=fun b cs t _ _ a=>h.ext b _ a
mutual
theorem dK.mono {F F':Nat->Prop} {ρ eP:Nat->Nat} {n c:Nat} {w w':Z} (a:∀ b,F b->F' b) (d:n<=c) (e:∀ i,i<n->eP i=ρ i) (hw:rF F w w'):∀ (t:Tm) (v:Y),dK F ρ n w v t->dK F' eP c w' v t
 | .atom s,v,h=>by grind [dK]
 | .int k,v,h=>by grind [dK]
 | .var i,v,h=>by
  grind [dK]
 | .comp name args,v,h=>by
  unfold dK at h ⊢;obtain⟨b,av,vs,g,f,j,l,m⟩:=h;exact⟨b,av,vs,g,a b f,hw b _ _ f (.inl J) j,l.mono a fun b cs o p=>hw b _ _ o (.inr J) p,iJ.mono a d e hw args vs m⟩
 termination_by structural t=>t
theorem iJ.mono {F F':Nat->Prop} {ρ eP:Nat->Nat} {n c:Nat} {w w':Z} (a:∀ b,F b->F' b) (d:n<=c) (e:∀ i,i<n->eP i=ρ i) (hw:rF F w w'):∀ (ts:List Tm) (vs:List Y),iJ F ρ n w vs ts->iJ F' eP c w' vs ts
 | [],vs,h=>by grind [iJ]
 | t::ts,vs,h=>by
  unfold iJ at h ⊢;obtain⟨v,r,g,f,j⟩:=h;exact⟨v,r,g,dK.mono a d e hw t v f,iJ.mono a d e hw ts r j⟩
 termination_by structural t=>t
end
theorem dK.bL(h:dK F ρ n w v t)(hw:rF F w w'):dK F ρ n w' v t:=dK.mono zg zo zg hw t v h
theorem iJ.bL{t:List Tm}{v:List Y}(h:iJ F ρ n w v t)(hw:rF F w w'):iJ F ρ n w' v t:=iJ.mono zg zo zg hw t v h
theorem dK.toT(h:dK F ρ n w v t):dO ρ n w v t:=dK.mono zg zo zg (fun _ _ _ _ _ h=>h) t v h
theorem iJ.toT{t:List Tm}{v:List Y}(h:iJ F ρ n w v t):ql ρ n w v t:=iJ.mono zg zo zg (fun _ _ _ _ _ h=>h) t v h
def iJ.snoc{F:Nat->Prop}{ρ:Nat->Nat}{n:Nat}{w:Z}{v:Y}{x:Tm}(hx:dK F ρ n w v x):∀ {xs:List Tm} {vs:List Y},iJ F ρ n w vs xs->iJ F ρ n w (vs++[v]) (xs++[x])
 | [],vs,h=>by
  unfold iJ at h;subst h;show iJ F ρ n w [v] [x];unfold iJ;exact⟨v,[],J,hx,by unfold iJ;rfl⟩
 | y::a,vs,h=>by
  unfold iJ at h;obtain⟨u,r,rfl,b,c⟩:=h;show iJ F ρ n w (u::(r++[v])) (y::(a++[x]));unfold iJ;exact⟨u,r++[v],J,b,iJ.snoc hx c⟩
def iJ.length{F:Nat->Prop}{ρ:Nat->Nat}{n:Nat}{w:Z}:∀ {xs:List Tm} {vs:List Y},iJ F ρ n w vs xs->vs.length=xs.length
 | [],vs,h=>by unfold iJ at h;subst h;rfl
 | y::b,vs,h=>by
  unfold iJ at h;obtain⟨u,r,rfl,c,a⟩:=h;simp [iJ.length a]
theorem iJ.at{F:Nat->Prop}{ρ:Nat->Nat}{n:Nat}{w:Z}:∀ {xs:List Tm} {vs:List Y} (j:Nat) (a:j<xs.length),iJ F ρ n w vs xs->∃ v,vs[j]?=O v/\dK F ρ n w v xs[j]
 | x::xs,vs,0,_,h=>by
  unfold iJ at h;grind
 | x::xs,vs,j+1,a,h=>by
  unfold iJ at h;obtain⟨u,r,rfl,c,b⟩:=h;simpa using iJ.at j zg b
def dK.iface{F:Nat->Prop}{ρ:Nat->Nat}{n:Nat}{w:Z}{v:Y}:∀ {t:Tm},dK F ρ n w v t->∃ u x,v = ak u x
 | .atom s,h=>by unfold dK at h;exact⟨_,_,h⟩
 | .int s,h=>by unfold dK at h;exact⟨_,_,h⟩
 | .var s,h=>by unfold dK at h;exact⟨_,_,h.2⟩
 | .comp s l,h=>by unfold dK at h;obtain⟨b,av,vs,h,-⟩:=h;exact⟨_,_,h⟩
structure EH(ρ:Nat->Nat)(n:Nat)(tr:Tr)(w:Z):Prop where
 inj:∀ i j,i<n->j<n->ρ i=ρ j->i=j
 var:∀ i,i<n->∃ ref,w.heap[ρ i]?=O (ah #[ref] 91)/\(match P.look i tr with | none=>ref = aj | some t=>dO ρ n w ref t)
def HH(w w':Z):Prop:=∀ (b:Nat) (cs:Array Y) (t:Nat),t=180\/t=89\/t=91->w.heap[b]?=aO cs t->w'.heap[b]?=aO cs t
theorem HH.toT(h:HH w w'):YS w w':=fun b cs t _ ht=>h b cs t zg
theorem HH.ea(h:Ext w w'):HH w w':=fun b cs t _ a=>h.ext b _ a
theorem EH.bL{ρ:Nat->Nat}{n:Nat}{tr:Tr}{w w':Z}(h:EH ρ n tr w)(hk:HH w w'):EH ρ n tr w':=
 ⟨h.inj,fun i hi=>by
  obtain⟨ref,a,b⟩:=h.var i hi;refine⟨ref,hk _ _ _ zg a,?_⟩;grind [dK.bL,HH.toT]⟩
def HT{j:Tm}(h:EH ρ n tr w)(hv:dO ρ n w v t)(hw:fI tr f t=O j) :
  Calls bdK 62 #[v] w fun e w'=>w'=w/\∃ u,e = ai u/\dO ρ n w u j:=by
 refine aKT ?_;refine⟨fun m s w1=>w1=w/\∃ t1,dO ρ n w (s 0) t1/\fI tr m t1=O j,⟨f,J,t,hv,hw⟩,?_⟩;intro m s d w1 q;refine toPr ?_;obtain⟨rfl,t1,c,k⟩:=q;by_cases r:∃ i,t1 = .var i
 .obtain⟨i,rfl⟩:=r;unfold dK at c;obtain⟨hi,g⟩:=c;obtain⟨ref,g1,g2⟩:=h.var i hi;cases o:P.look i tr with
  | none=>
   rw[o] at g2;have g2:ref = aj:=g2;subst g2;have ht:j = .var i:=by
    grind [fI]
   refine cJ g ?_;refine⟨fun _ _=>False,?_,by rintro _ _ h;exact h.elim⟩;refine⟨fun x w'=>w'=w1/\x 18 = .bool G,?_,?_⟩
   .simp (disch:=first|assumption|omega|simp only[zS]<;>omega|decide) only[zB,simprocAttr,kN,g1,jo]
   .rintro x w' ⟨rfl,hx⟩ d2;refine cJ hx ?_;rw[ht];unfold dK;grind
  | some t2=>
   rw[o] at g2;have g2:dO ρ n w1 ref t2:=g2;obtain⟨u,x,p⟩:=g2.iface;cases m with
   | zero=>simp [fI,o] at k
   | succ m=>
   simp [fI,o] at k;subst p;refine cJ g ?_;refine⟨fun _ w'=>w'=w1,?_,?_⟩
   .refine⟨fun x w'=>w'=w1/\x 18 = .bool ae,?_,?_⟩
    .simp (disch:=first|assumption|omega|simp only[zS]<;>omega|decide) only[zB,simprocAttr,kN,g1,jo]
    .rintro x w' ⟨rfl,hx⟩ d2;exact eV hx
   .rintro x w' rfl d2;refine cJ @g1 ?_;grind
 .have ht:t1=j:=by
   cases m<;>cases t1<;>simp [fI] at k<;>first | exact k | exact zg
  have g:∃ u x,s 0 = ak u x/\¬ u=87:=by
   cases t1 with
   | atom a=>unfold dK at c;exact⟨_,_,c,zd⟩
   | int a=>unfold dK at c;exact⟨_,_,c,zd⟩
   | var a=>grind
   | comp a l=>unfold dK at c;obtain⟨b,av,vs,c,-⟩:=c;exact⟨_,_,c,zd⟩
  obtain⟨u,x,g,hu⟩:=g;refine dA g hu ?_;refine⟨fun _ _=>False,?_,by rintro _ _ h;exact h.elim⟩;refine⟨fun x w'=>w'=w1/\x 18 = .bool G,?_,?_⟩
  .simp (disch:=first|assumption|omega|simp only[zS]<;>omega|decide) only[zB,simprocAttr,kN,jo]
  .rintro y w' ⟨rfl,hx⟩ d2;refine cJ hx ?_;grind
def gsi{cs:Array Y}{i:Nat}{v:Y}(h:i<cs.size):(cs.setIfInBounds i v)[i]?=O v:=zg
def ssz:(cs.setIfInBounds i v).size=cs.size:=zs
def sss:(cs.setIfInBounds i v).setIfInBounds i u=cs.setIfInBounds i u:=zs
abbrev Oo:Ending:=.panicked [{ v:=ak 134 (.agg #[]),recovered:=false }]
abbrev kB(cs:Array Y)(so:Nat)(z:Int):Array Y:=cs.setIfInBounds (so+1) (zi z)
def apA{T:Nat}{z:Int}(a:w.heap[pb]?=aO (kB cs so z) T)(d:so+2<=cs.size)(f:0<=z/\z<=1000000000) :
  Calls bdK 61 #[pq pb so] w fun e w'=>
   e=(if z=0 then Oo else ai (aq #[]))/\w'=bR w pb (ah (kB cs so (z-1)) T (0,0)):=by
 have l:=bn a;have b:(kB cs so z)[so+1]?=O (zi z):=zg;have g:(kB cs so z).size=cs.size:=ssz;refine aKS ?_;by_cases h:z=0
 .have c:z-1<0:=zo;refine dG a b @gsi (zA @ssz @sss) ?_;grind
 .have c:¬ z-1<0:=zo;refine dG a b @gsi (zA @ssz @sss) ?_;grind
def apB(name:Bs)(n:Nat)(w:Z):Calls bdK 94 #[aW name,zi n] w fun e w'=>e = ai (zi (lz name n))/\w'=w:=by
 refine aKU ?_;unfold lz;by_cases h:n=2
 .subst h;have e0:((2:Nat):Int)=2:=rfl;refine cJ @e0 ?_;refine⟨fun x w'=>w'=w/\x 8 = .bool (decide (name=[43]\/name=[45])),?_,?_⟩
  .by_cases b:name=[43]
   .refine cJ b ?_;grind
   .refine cJ b ?_;grind
  .rintro x w' ⟨rfl,hx⟩ d;rw[hx];by_cases b:name=[43]\/name=[45]
   .rw[GS _ _ b];grind
   .rw[GU _ _ b];refine⟨fun x c=>c=w'/\x 15 = .bool (decide (name=[42]\/name=[47,47]\/name=[109,111,100])),?_,?_⟩
    .by_cases a:name=[42]
     .refine cJ a ?_;grind
     .by_cases f:name=[47,47]
      .refine dA a f ?_;grind
      .refine dA a f ?_;grind
    .rintro x c ⟨rfl,hx⟩ d;rw[hx];by_cases a:name=[42]\/name=[47,47]\/name=[109,111,100]
     .rw[GS _ _ a];grind
     .rw[GU _ _ a];grind
 .have g:¬ (n:Int)=2:=zo;refine bG ?_;grind
def mj(w:Z):Prop:=Lib.TabIs bdK w "internal/strconv.uint64pow10" .u64 Lib.pow10Tab
def afr:Tryz.prog.globalNamed "internal/strconv.uint64pow10" = O 4:=zk
theorem mj.bL(h:mj w)(hw:∀ o,w.heap[4]?=O o->w'.heap[4]?=O o):mj w':=by
 unfold mj Lib.TabIs World.var? at h ⊢;rw[afr] at h ⊢;simp only[Option.bind_some] at h ⊢;cases a:w.heap[4]? with
 | none=>rw[a] at h;cases h
 | some o=>rw[hw o a];rw[a] at h;exact h
theorem mj.ext{w w':Z}(h:mj w)(a:Ext w w'):mj w':=(by grind [bL,bD.ext])
def apC:∀ (f n:Nat),n<f->tz f n=a8H n
 | 0,n,h=>zo
 | f+1,n,h=>by
  rw[tz,a8H];split
  .rfl
  .rw[apC f (n / 10) zo]
theorem Dg(n:Nat):di n=a8H n:=apC _ _ zo
theorem afs(n:Int):jc n=Lib.itoa n:=by
 grind [jc,Lib.itoa,Dg]
def apD{os:Array Obj}(h:w'=Go.Sort.grow (w.drewN k) os):Ext w w':=by
 subst h;refine⟨J,J,J,?_,fun b o a _=>?_⟩
 .simp [Go.Sort.grow,World.drewN]
 .have:=bn a;show(w.heap++os)[b]?=O o;exact yH
def apE(n:Int)(a:-9223372036854775808<=n)(b:n<=9223372036854775807)(w:Z)(ht:mj w) :
  Calls bdK 63 #[zi n,zi 10] w fun e w'=>e = ai (aW (jc n))/\Ext w w':=by
 refine(Tryz.strconv_FormatInt_10 n a b w ht).mono ?_;rintro e w' ⟨rfl,k,os,h⟩;rw[afs];exact⟨J,apD h⟩
def Lw(n:Int)(a:-9223372036854775808<=n)(b:n<=9223372036854775807)(w:Z)(ht:mj w) :
  Calls bdK 64 #[zi n] w fun e w'=>e = ai (aW (jc n))/\Ext w w':=by
 refine(Tryz.strconv_Itoa n a b w ht).mono ?_;rintro e w' ⟨rfl,k,os,h⟩;rw[afs];exact⟨J,apD h⟩
def apF(n:Int)(a:-9223372036854775808<=n)(b:n<=9223372036854775807):(jc n).length<=21:=by
 grind [afs,Lib.itoa_length_le]
def A5(ρ:Nat->Nat)(seen:List Nat)(k:Nat):List (Nat×Y):=match seen with
 | []=>[]
 | i::r=>(ρ i,.int .i64 ((k+1:Nat)))::A5 ρ r (k+1)
def NmA(ρ:Nat->Nat)(w:Z)(wb:Nat)(nm:Y)(seen:List Nat):Prop:=
 (seen=[]/\nm = .map V)\/∃ r c es,nm = .map (O r)/\wb<r/\w.heap[r]?=O (.map es c)/\Fw (A5 ρ seen 0) es.toList
structure ml(ρ:Nat->Nat)(n:Nat)(tr:Tr)(wb sb so T:Nat)(cs:Array Y)(nm:Y)(w:Z)(s:Ws):Prop where
 st:EH ρ n tr w
 bu:tN w wb (pq sb so) nm s.out
 na:NmA ρ w wb nm s.seen
 fu:w.heap[sb]?=aO (kB cs so s.fuel) T
 YT:mj w
 sn:∀ i∈s.seen,i<n
def HU(ρ:Nat->Nat)(n:Nat)(tr:Tr)(wb sb so T:Nat)(cs:Array Y)(w:Z)(s:Ws):Prop:=∃ nm,ml ρ n tr wb sb so T cs nm w s
structure yo(tr:Tr)(wb sb so T:Nat)(cs:Array Y):Prop where
 tok:nG tr
 sz:so+2<=cs.size
 ne:sb≠wb
 g1:4<wb
 g2:sb≠4
 T1:T≠5
 T2:T≠180/\T≠89/\T≠91
def MW(wb sb b:Nat)(o:Obj):Prop:=b=wb\/b=sb\/(wb<b/\((∃ cs z,o = ah cs 5 z)\/∃ es c,o = .map es c))
abbrev nu(wb sb:Nat)(w w':Z):Prop:=bD (MW wb sb) w w'
theorem jT.toW(h:jT wb w w')(sb:Nat):nu wb sb w w':=h.mono fun b o _ hm=>by
 rcases hm with h | ⟨h,a⟩
 .exact .inl h
 .exact .inr zg
section
variable{ρ:Nat->Nat}{n:Nat}{tr:Tr}{wb sb so T:Nat}{cs:Array Y}{nm:Y}{w w':Z}{s:Ws}
theorem ml.kv(h:ml ρ n tr wb sb so T cs nm w s)(hx:yo tr wb sb so T cs)(d:nu wb sb w w'):HH w w':=fun b c t ht a=>by
 refine d.block b _ a ?_;obtain⟨e,buf,-,hw,-⟩:=h.bu;rintro (rfl | rfl | ⟨_,⟨_,_,h⟩| ⟨_,_,h⟩⟩)
 .grind
 .rw[h.fu] at a;cases a;rcases ht with ht | ht | ht
  .exact hx.T2.1 ht
  .exact hx.T2.2.1 ht
  .exact hx.T2.2.2 ht
 .grind
 grind
def ml.YV(h:ml ρ n tr wb sb so T cs nm w s)(hx:yo tr wb sb so T cs)(a:nu wb sb w w'):mj w':=h.YT.bL fun o b=>by
 refine a.block _ _ b ?_;have:=hx.g1;rintro (h | h | ⟨h,_⟩)
 .omega
 .exact hx.g2 h.symm
 omega
theorem ml.wr(h:ml ρ n tr wb sb so T cs nm w s)(hx:yo tr wb sb so T cs){x:Bs}(b:tN w' wb (pq sb so) nm (s.out++x))(a:jT wb w w'):ml ρ n tr wb sb so T cs nm w' (s.add x):=by
 refine⟨h.st.bL (by grind [kv,jT.toW]),b,?_,?_,h.YV hx (a.toW sb),h.sn⟩
 .rcases h.na with h | ⟨r,c,es,d,e,f,g⟩
  .exact .inl h
  .exact .inr ⟨r,c,es,d,e,a.block _ _ f (by
    rintro (h | ⟨_,_,_,h⟩)<;>grind),g⟩
 .refine a.block _ _ h.fu ?_;rintro (h | ⟨_,_,_,h⟩)
  .exact hx.ne h
  .injection h with _ h _;exact hx.T1 h
def HW(h:ml ρ n tr wb sb so T cs nm w s)(hx:yo tr wb sb so T cs)(x:Bs)(a:s.out.length+x.length<=1000000000) :
  Calls bdK 44 #[pp wb,aW x] w fun e w'=>(∃ v,e = ai v)/\ml ρ n tr wb sb so T cs nm w' (s.add x)/\nu wb sb w w':=by
 refine(aKO h.bu x a).mono ?_;grind [ml.wr,jT.toW]
def Oq(h:ml ρ n tr wb sb so T cs nm w s)(hx:yo tr wb sb so T cs)(c:UInt8)(a:s.out.length+1<=1000000000){z:Int}(b:z=c.toNat) :
  Calls bdK 95 #[pp wb,.int .u8 z] w fun e w'=>(∃ v,e = ai v)/\ml ρ n tr wb sb so T cs nm w' (s.add [c])/\nu wb sb w w':=by
 subst b;refine(aKP h.bu c a).mono ?_;grind [ml.wr,jT.toW]
theorem ml.ext(h:ml ρ n tr wb sb so T cs nm w s)(a:Ext w w'):ml ρ n tr wb sb so T cs nm w' s:=by
 refine⟨h.st.bL (HH.ea a),?_,?_,a.ext _ _ h.fu,h.YT.ext a,h.sn⟩
 .obtain⟨f,buf,b,d,e⟩:=h.bu;exact⟨f,buf,b,a.ext _ _ d,jK a.ext e⟩
 .rcases h.na with h | ⟨r,c,es,b,d,e,g⟩
  .exact .inl h
  .exact .inr ⟨r,c,es,b,d,a.ext _ _ e,g⟩
theorem tN.other{c:Array Y}(h:tN w wb S nm out)(j:sb≠wb)(k:w.heap[sb]?=aO c T)(l:T≠5)(o:Obj):tN (bR w sb o) wb S nm out:=by
 obtain⟨b,buf,d,m,a⟩:=h;refine⟨b,buf,d,yH,a.1,?_⟩;rcases a.2 with a | ⟨g,cap,cur,e,f,n,i⟩
 .exact yH
 .refine .inr ⟨g,cap,cur,e,f,?_,i⟩;exact yH
def ml.fuel(h:ml ρ n tr wb sb so T cs nm w s)(hx:yo tr wb sb so T cs)(f:Nat):ml ρ n tr wb sb so T cs nm (bR w sb (ah (kB cs so f) T (0,0))) { s with fuel:=f }:=by
 have b:nu wb sb w (bR w sb (ah (kB cs so f) T (0,0))):=(bD.refl _ _).bR (.inl fun _=>.inr (.inl J));refine⟨h.st.bL (h.kv hx b),?_,?_,qI J (bn h.fu),h.YV hx b,h.sn⟩
 .exact h.bu.other hx.ne h.fu hx.T1 _
 .rcases h.na with a | ⟨r,c,es,a,d,e,g⟩
  .exact .inl a
  .refine .inr ⟨r,c,es,a,d,?_,g⟩;rw[jg]
   .omega
   .rintro rfl;rw[h.fu] at e;grind
def BY(ρ:Nat->Nat)(n:Nat)(tr:Tr)(wb sb so T:Nat)(cs:Array Y)(w:Z)(B:Nat)(r:Option Ws)(e:Ending)(w':Z):Prop:=
 nu wb sb w w'/\match r with
 | some s'=>e = ai (aq #[])/\HU ρ n tr wb sb so T cs w' s'
 | none=>e=Oo/\w'.heap[sb]?=O (ah (kB cs so (-1)) T (0,0))/\∃ nm out,tN w' wb (au (O ⟨sb,so,V⟩)) nm out/\out.length<=B
theorem apH(ρ:Nat->Nat):∀ (l:List Nat) (k:Nat),(A5 ρ l k).length=l.length
 | [],_=>rfl
 | i::r,k=>by simp [A5,apH ρ r]
def apI:∀ {es:List MapEntry} {l:List (Nat×Y)},Fw l es->es.length=l.length
 | [],l,h=>by have h:l=[]:=h;grind
 | e::r,l,h=>by
  obtain⟨b,v,l',rfl,c,d,a⟩:=h;simp [apI a]
theorem apJ:∀ {es:List MapEntry} {l:List (Nat×Y)} {e:MapEntry} {b:Nat} {v:Y},Fw l es->e.key=pp b->e.val=v->Fw (l++[(b,v)]) (es++[e])
 | [],l,e,b,v,h,hk,hv=>by
  have h:l=[]:=h;subst h;exact⟨b,v,[],J,hk,hv,J⟩
 | e'::r,l,e,b,v,h,hk,hv=>by
  obtain⟨a,v',l',rfl,c,d,f⟩:=h;exact⟨a,v',l'++[(b,v)],J,c,d,apJ f hk hv⟩
theorem apK(ρ:Nat->Nat)(i:Nat):∀ (l:List Nat) (k:Nat),A5 ρ (l++[i]) k=A5 ρ l k++[(ρ i,zi ((k+l.length+1:Nat)))]
 | [],k=>rfl
 | j::r,k=>by
  show(_,_)::A5 ρ (r++[i]) (k+1)=_;rw[apK ρ i r (k+1)];grind [A5,List.length_cons]
def afu{ρ:Nat->Nat}:∀ {l:List Nat} {k:Nat} {b:Nat} {v:Y},(b,v)∈A5 ρ l k->∃ i∈l,b=ρ i
 | [],_,_,_,h=>by cases h
 | j::r,k,b,v,h=>by
  simp only[A5,a3T,Prod.mk.injEq] at h;rcases h with⟨rfl,-⟩| h
  .grind
  .obtain⟨i,a,c⟩:=afu h;grind
def afv{ρ:Nat->Nat}{n i:Nat}(inj:∀ a b,a<n->b<n->ρ a=ρ b->a=b)(hi:i<n):∀ (l:List Nat) (k j:Nat),(∀ a∈l,a<n) ->
  IQ (ρ i) (A5 ρ l k) j=(l.idxOf? i).map fun m=>(j+m,zi ((k+m+1:Nat)))
 | [],_,_,_=>rfl
 | a::r,k,j,h=>by
  have g:=h a (a3S ..);unfold A5 IQ;rw[List.idxOf?_cons];by_cases e:a=i
  .grind
  .have c:¬ ρ i=ρ a:=zg;rw[bU c,afv inj hi r (k+1) (j+1) fun a d=>h a (a4A _ d)];have f:(a == i)=false:=zg;rw[f];cases r.idxOf? i with
   | none=>rfl
   | some m=>
    grind
end
def aK0{P:Program}{t T:TypeId}{k e:TypeId}(ht:Bt P t=O (k,e)){r:Nat}(a:w.heap[r]?=O (.map es c)) :
  RD P (Builtin.len_ #[t] T #[.map (O r)]) w K X=K (zi es.size):=by
 refine gR ?_;simp [Builtin.len_,run_underlying (GY ht),GZ a,goInt]
