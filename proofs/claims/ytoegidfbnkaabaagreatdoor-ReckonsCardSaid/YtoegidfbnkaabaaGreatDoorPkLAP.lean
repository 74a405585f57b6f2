/- A part of one proof (PureC2, PureRd, PureLv, PureAe, PureTo, PureKe, ShB1, PureD, PW1, ShP1, ShP2, PW2, PW3, PW4). -/
import Derived.Test.YtoegidfbnkaabaaGreatDoorPkLAO
import Derived.Shelf.Strings.BuilderF
import Derived.Shelf.Strconv.Itoa4
import Derived.Lib.ItoaLen
set_option linter.all false
set_option maxRecDepth 100000
set_option maxHeartbeats 8000000
open Option renaming some → O, none → V
open Go renaming Value → Y, World → Z
open Bool renaming true → A, false → G
open Go.Obj renaming cells → ae
open Go.Ending renaming returned → ah
open Go.Value renaming nilIface → ai, iface → aj, tuple → ak, pointer → aq
open Nat renaming le_trans → a1t
open List renaming mem_cons → a1z, mem_cons_self → a1A, not_mem_nil → a1E, mem_append → a1F, append_assoc → a1M, range → a1U, nil_append → a2d, mem_cons_of_mem → a2k, map_cons → a2x, flatten_cons → a2y, mem_of_getLast? → a2P, append_nil → a3A
open Option renaming map_eq_some_iff → a1R
open Go.Result renaming andThen → a2n
open Go.Oper renaming upon_value → a3R
open Go.Lib renaming decDigits → a6t
open Go.Proofs.Tryz renaming prog → bbx
open Go.Proofs.Tryz
namespace Go.Proofs.YtoegidfbnkaabaaGreatDoor
open P
variable{F:Nat->Prop}{K:Y->Prop}{S buf nm tv u v vv:Y}{X:Y->Z->Prop}{b c f g i k k' n nv pb so told wb:Nat}{cs iB:Array Y}{es:Array MapEntry}{out:Bs}{t:Tm}{tr:Tr}{w w' w1 w2:Z}{xs:List Y}{ρ:Nat->Nat}
namespace P
section
theorem XV(h:n<10):(UInt8.ofNat (48+n)).toNat=48+n:=by
 grind [UInt8.toNat_ofNat']
theorem KU:∀ (f n:Nat),∀ c∈sY f n,digit c=A
 | 0,n,c,h=>by cases h
 | f+1,n,c,h=>by
  rw[sY] at h;split at h
  .rename_i a;simp only[a1z,a1E,or_false] at h;subst h;simp only[digit,decide_eq_true_eq,XV a];omega
  .rw[a1F] at h;rcases h with h | h
   .exact KU f _ c h
   .simp only[a1z,a1E,or_false] at h;subst h;have:=Nat.mod_lt n (show 10 > 0 by omega);simp only[digit,decide_eq_true_eq,XV this];omega
theorem ad6:∀ (f n:Nat),n<f->num (sY f n)=n
 | 0,n,h=>zo
 | f+1,n,h=>by
  rw[sY];split
  .grind [num,XV]
  .have hm:=Nat.mod_lt n (show 10 > 0 by omega);rw[aiI,ad6 f (n / 10) zo,XV hm];omega
def TI:∀ (f n:Nat),n<f->∃ c r,sY f n=c::r/\(c≠48\/r=[])
 | 0,n,h=>zo
 | f+1,n,h=>by
  rw[sY];split
  .grind
  .rename_i b;obtain⟨c,r,d,a⟩:=TI f (n / 10) zo;refine⟨c,r++[UInt8.ofNat (48+n % 10)],zg,.inl fun e=>?_⟩;rcases a with a | a
   .grind
   .subst e a;grind [ad6,num]
theorem NI(n:Nat):num (dL n)=n:=ad6 _ _ zo
theorem aIR{a:Nat}(h:dL a=dL b):a=b:=by
 grind [NI]
def anL{c:UInt8}(h:digit c=A):cls c=100:=by
 simp only[digit,decide_eq_true_eq] at h;unfold cls;grind
def I0(h:n<=999999999):lK (dL n)=3/\G2 (dL n):=by
 have a:=KU (n+1) n;obtain⟨c,r,d,e⟩:=TI (n+1) n zo;have f:=Nq n 8 zo (n+1) zo;have g:cls c=100:=anL (a c zg);have b:lK (dL n)=3:=by
  simp_all [dL,lK,bM,zip,List.all_eq_true]
 exact⟨b,zo,fun x hx=>by rw[anL (a x hx)];omega⟩
def names(n:Nat):List Bs:=(a1U n).map fun i=>95::dL (i+1)
mutual
def KV (S:List Nat):Tm->Tm
 | .atom s=>.atom s
 | .int n=>.int n
 | .var i=>.var (S.idxOf i)
 | .comp name args=>.comp name (TJ S args)
 termination_by structural t=>t
def TJ (S:List Nat):List Tm->List Tm
 | []=>[]
 | t::r=>KV S t::TJ S r
 termination_by structural t=>t
end
def E4{α:Type}(r:cj α):Prop:=∃ a,r = .err 4 a
section
variable(S:List Nat)
def C2(I:List Item)(s0 s1:List Nat)(t:Tm):Prop:=∀ (T:List Tok) (k d f:Nat) (r:cj Ex),At T k I->dZ T (k+I.length) [40]=G->oP T f k (names s0.length) d=O r ->
 E4 r\/∃ x,r = .ok x (k+I.length) (names s1.length)/\made (a1U S.length) x=KV S t
def C1(I:List Item)(s0 s1:List Nat)(t:Tm):Prop:=∀ (T:List Tok) (k d f:Nat) (r:cj Ex),At T k I->dZ T (k+I.length) [40]=G->iZ T f 1 k (names s0.length) d=O r ->
 E4 r\/∃ x g,pj T g 1 x (k+I.length) (names s1.length) d=O r/\made (a1U S.length) x=KV S t
def C0(I:List Item)(s0 s1:List Nat)(t:Tm):Prop:=∀ (T:List Tok) (k d f:Nat) (r:cj Ex),At T k I->dZ T (k+I.length) [40]=G->O5 T 1 (k+I.length)=V->iZ T f 0 k (names s0.length) d=O r ->
 E4 r\/∃ x g,pj T g 0 x (k+I.length) (names s1.length) d=O r/\made (a1U S.length) x=KV S t
end
variable{S:List Nat}{I:List Item}{s0 s1 s2:List Nat}{t:Tm}{T:List Tok}
def CR(S:List Nat)(I:List Item)(s0 s1:List Nat)(ts:List Tm):Prop:=(I=[]\/∃ r,I = .sg [44]::r)/\∀ (T:List Tok) (k d at_:Nat) (acc:List Ex) (f:Nat) (r:cj (List Ex)),At T k (I++[.sg [41]]) ->
 (if dZ T k [44] then oQ T f (k+1) (names s0.length) d at_ acc else if R1<acc.length then O (.err 4 at_) else O (.ok acc k (names s0.length)))=O r ->
 E4 r\/∃ xs,r = .ok (acc++xs) (k+I.length) (names s1.length)/\nY (a1U S.length) xs=TJ S ts
def aIU:Ex:=.mk 97 [91,93] 0 0 []
def CL(S:List Nat)(I:List Item)(s0 s1:List Nat)(b:Tm):Prop:=(∃ s r,I = .sg s::r/\s∈[[41],[44],[93],[124]])/\∀ (T:List Tok) (k d:Nat) (acc:List Ex) (f g:Nat) (r:cj Ex),At T k I ->
 cj.bind (if dZ T k [44] then q8 T f (k+1) (names s0.length) d acc else O (.ok acc k (names s0.length))) (fun all k' v'=>
  if dZ T k' [124] then cj.bind (iZ T g 0 (k'+1) v' d) fun x c a=>mR T [93] (Ab all x) c a else mR T [93] (Ab all aIU) k' v')=O r ->
 E4 r\/∃ x,r = .ok (Ab acc x) (k+I.length) (names s1.length)/\made (a1U S.length) x=KV S b
end
def ze(c:UInt8)(w:Bs):Prop:=∀ x∈w,x≠c
theorem XW{c:UInt8}:∀ {a:Bs},ze c a->fK c a=[a]
 | [],_=>rfl
 | x::a,h=>by
  rw[adU,bM (h x a1A),XW fun y b=>h y (a2k _ b)]
def anN:∀ {l:List Bs} {f:Bs},ze 32 f->(∀ w∈l,ze 32 w)->fK 32 (f++(l.map fun w=>32::w).flatten)=f::l
 | [],f,a,_=>by simp_all [List.map_nil,List.flatten_nil,a3A,XW]
 | w::l,f,a,b=>by
  rw[a2x,a2y,List.cons_append,TG,XW a,anN (b w a1A) zg];rfl
def KW(w:Bs):Prop:=ze 32 w/\ze 10 w
def anO{c:UInt8}(a:c≠32):∀ {l:List Bs},(∀ w∈l,ze c w)->ze c (l.map fun w=>(32:UInt8)::w).flatten
 | [],_=>fun x hx=>zg
 | w::l,h=>fun x hx=>by
  rw[a2x,a2y] at hx;rcases a1F.1 hx with hx | hx
  .rcases a1z.1 hx with rfl | hx
   .grind
   .exact h w a1A x hx
  .exact anO a zg x hx
def P7{f:Bs}{l:List Bs}{r:Bs}{k:Nat}{p:Pv}(c:KW f)(d:∀ w∈l,KW w):kT (fK 10 (kM f l++r)) k p=match mv (f::l) p with
  | none=>.error k
  | some p=>kT (fK 10 r) (k+1) p:=by
 have h:ze 10 (f++(l.map fun w=>(32:UInt8)::w).flatten):=fun x hx=>by
  rcases a1F.1 hx with hx | hx
  .exact c.2 x hx
  .exact anO zg (fun w hw=>(d w hw).2) x hx
 have e:fK 10 (kM f l++r)=(f++(l.map fun w=>(32:UInt8)::w).flatten)::fK 10 r:=by
  grind [kM,a1M,List.singleton_append,TG,XW]
 rw[e];have i:=(TF 10 r).2;cases hr:fK 10 r with
 | nil=>grind
 | cons a b=>
  have g:fK 32 (f++(l.map fun w=>(32:UInt8)::w).flatten)=f::l:=anN c.1 fun w hw=>(d w hw).1;rw[show kT ((f++(l.map fun w=>(32:UInt8)::w).flatten)::a::b) k p=(match mv (fK 32 (f++(l.map fun w=>(32:UInt8)::w).flatten)) p with
   | none=>.error k
   | some p=>kT (a::b) (k+1) p) from J,g]
structure Fy(n:Nat)(i:In):Prop where
 wd:KW i.word
 ws:∀ w∈qd i ((kS i.word).getD []) i.s,KW w
 rd:rm n (i.word::qd i ((kS i.word).getD []) i.s)=O i
def Fy.not{i:In}(h:Fy n i):i.word≠[112,114,101,100]/\i.word≠[99,108,97,117,115,101]/\i.word≠[113,117,101,114,121]:=by
 have a:=h.rd;unfold rm at a;simp only at a;refine⟨?_,?_,?_⟩<;>intro e<;>rw[e] at a<;>simp [kS,rS,tj,pF,kE,mr,xf,jR,jm] at a
def anP{ws:List Bs}{w:Bs}{p:Pv}(h:w≠[112,114,101,100]/\w≠[99,108,97,117,115,101]/\w≠[113,117,101,114,121]):mv (w::ws) p=match p.ask with
  | some (c,n)=>match rm c.slots (w::ws) with
   | some i=>O { p with ask:=O ({ c with ins:=c.ins++[i] },n) }
   | none=>V
  | none=>if p.open_ then match (mv.KO p.dG) with
    | some c=>match rm c.slots (w::ws) with
     | some i=>O { p with dG:=GX p.dG fun q=>{ q with clauses:=Fv q.clauses fun c=>{ c with ins:=c.ins++[i] } } }
     | none=>V
    | none=>V
   else none:=by
 unfold mv;grind
def anQ{r:Bs}{n:Nat}:∀ {ins:List In} {k:Nat} {p:Pv} {c:Co},p.ask=O (c,n)->(∀ i∈ins,Fy c.slots i) ->
  kT (fK 10 ((ins.map AI).flatten++r)) k p=kT (fK 10 r) (k+ins.length) { p with ask:=O ({ c with ins:=c.ins++ins },n) }
 | [],k,p,c,a,_=>by
  simp only[List.map_nil,List.flatten_nil,a2d,a3A,List.length_nil,Nat.add_zero];rw[<- a]
 | i::ins,k,p,c,a,hi=>by
  have h:=hi i a1A;rw[a2x,a2y,a1M];show kT (fK 10 (kM i.word (qd i ((kS i.word).getD []) i.s)++_)) k p=_;rw[P7 h.wd h.ws,anP h.not,a];simp only;rw[h.rd];simp only;rw[anQ (p:={ p with ask:=O ({ c with ins:=c.ins++[i] },n) }) J zg];grind
theorem anR(l:List Co)(c:Co)(f:Co->Co):Fv (l++[c]) f=l++[f c]:=by
 simp_all [Fv,List.reverse_append]
theorem XX(l:List Pd)(c:Pd)(f:Pd->Pd):GX (l++[c]) f=l++[f c]:=by
 simp_all [GX,List.reverse_append]
def anS{r:Bs}{l:List Pd}{name:Bs}{ar:Nat}{cs:List Co}{n:Nat}:∀ {ins:List In} {k:Nat} {done:List In},(∀ i∈ins,Fy n i) ->
  kT (fK 10 ((ins.map AI).flatten++r)) k ⟨l++[⟨name,ar,cs++[⟨n,done⟩]⟩],A,V⟩=kT (fK 10 r) (k+ins.length) ⟨l++[⟨name,ar,cs++[⟨n,done++ins⟩]⟩],A,V⟩
 | [],k,done,_=>zg
 | i::ins,k,done,hi=>by
  have h:=hi i a1A;rw[a2x,a2y,a1M];show kT (fK 10 (kM i.word (qd i ((kS i.word).getD []) i.s)++_)) k _=_;rw[P7 h.wd h.ws,anP h.not];simp only[mv.KO,List.getLast?_append,List.getLast?_singleton,Option.some_or,if_true];rw[h.rd];simp only[XX,anR];rw[anS zg];grind
theorem ad7{z:Int}(h:-9223372036854775808<=z/\z<=9223372036854775807):D8 (gX z)=O z:=by
 have key:∀ a:Int,a=z->(if gX a=gX z/\-9223372036854775808<=a/\a<=9223372036854775807 then O a else V)=O z:=by
  grind
 unfold D8;simp only;refine key _ ?_;by_cases f:z<0
 .have e:gX z=45::dL z.natAbs:=by simp_all [gX,zip]
  grind [NI]
 .have e:gX z=dL z.natAbs:=by simp_all [gX,bM]
  rw[e];obtain⟨c,r,d,-⟩:=TI (z.natAbs+1) z.natAbs zo;have g:=KU (z.natAbs+1) z.natAbs c zg;have b:=NI z.natAbs;unfold dL at b ⊢;rw[d] at b ⊢;split
  .simp_all [digit]
  omega
theorem Fz(n:Nat):dL n=gX (n:Int):=by simp_all [gX,bM]
theorem XY(h:k<n)(a:n<=100000):ji (dL k) n=O k:=by
 grind [ji,Fz,ad7]
structure PdR(p:Pd):Prop where
 wd:KW p.name
 name:pG p.name=O p.name
 ar:p.arity<64
 cls:∀ c∈p.clauses,c.slots<65/\∀ i∈c.ins,Fy c.slots i
theorem NJ(n:Nat):KW (dL n):=⟨fun x hx e=>by
 have:=KU (n+1) n x hx;simp_all [digit],fun x hx e=>by
 have:=KU (n+1) n x hx;simp_all [digit]⟩
def anT{r:Bs}{l:List Pd}{name:Bs}{ar:Nat}:∀ {cs done:List Co} {k:Nat} {o:Bool},(∀ c∈cs,c.slots<65/\∀ i∈c.ins,Fy c.slots i)->∃ k' b,k<=k' /\
  kT (fK 10 ((cs.map fun c=>kM [99,108,97,117,115,101] [dL c.slots]++tn c).flatten++r)) k ⟨l++[⟨name,ar,done⟩],o,V⟩=kT (fK 10 r) k' ⟨l++[⟨name,ar,done++cs⟩],b,V⟩
 | [],done,k,o,_=>⟨k,o,Nat.le_refl _,zs⟩
 | c::cs,done,k,o,h=>by
  obtain⟨g,d⟩:=h c a1A;obtain⟨k',b,j,ih⟩:=anT (r:=r) (l:=l) (name:=name) (ar:=ar) (cs:=cs) (done:=done++[c]) (k:=k+1+c.ins.length) (o:=true) zg;refine⟨k',b,zo,?_⟩;rw[a2x,a2y,a1M,a1M];rw[P7 (f:=[99,108,97,117,115,101]) (l:=[dL c.slots]) (⟨by simp_all [ze],by simp_all [ze]⟩) (by simp_all [List.mem_singleton,NJ])];have e:mv [[99,108,97,117,115,101],dL c.slots] ⟨l++[⟨name,ar,done⟩],o,V⟩=O ⟨l++[⟨name,ar,done++[⟨c.slots,[]⟩]⟩],A,V⟩:=by
   show(match (V:Option (Co×Nat)),ji (dL c.slots) 65 with
    | none,O a=>if (l++[Pd.mk name ar done])=[] then V else O (Pv.mk (GX (l++[Pd.mk name ar done]) fun q=>{ q with clauses:=q.clauses++[Co.mk a []] }) A V)
    | _,_=>V)=_
   simp_all [XY,XX,bM]
  rw[e];simp only;rw[show tn c=(c.ins.map AI).flatten from J,anS d,a2d,ih];simp
def anU{r:Bs}:∀ {ps l:List Pd} {k:Nat} {o:Bool},(∀ p∈ps,PdR p)->(l++ps).Pairwise (fun a b=>¬(a.name=b.name/\a.arity=b.arity))->∃ k' j,k<=k' /\
  kT (fK 10 ((ps.map rU).flatten++r)) k ⟨l,o,V⟩=kT (fK 10 r) k' ⟨l++ps,j,V⟩
 | [],l,k,o,_,_=>⟨k,o,Nat.le_refl _,zs⟩
 | p::ps,l,k,o,h,g=>by
  have d:=h p a1A;obtain⟨m,o1,y,n⟩:=anT (r:=(ps.map rU).flatten++r) (l:=l) (name:=p.name) (ar:=p.arity) (cs:=p.clauses) (done:=[]) (k:=k+1) (o:=false) d.cls;obtain⟨s,o2,z,t⟩:=anU (ps:=ps) (l:=l++[p]) (k:=m) (o:=o1) zg zg;refine⟨s,o2,zo,?_⟩;rw[a2x,a2y,a1M];rw[show rU p=kM [112,114,101,100] [p.name,dL p.arity]++(p.clauses.map fun c=>kM [99,108,97,117,115,101] [dL c.slots]++tn c).flatten from rfl];rw[a1M,P7 (f:=[112,114,101,100]) (l:=[p.name,dL p.arity]) (⟨by unfold ze;decide,by unfold ze;decide⟩) (fun w hw=>by
   simp only[a1z,a1E,or_false] at hw;rcases hw with rfl | rfl
   .exact d.wd
   .exact NJ _)]
  have e:mv [[112,114,101,100],p.name,dL p.arity] ⟨l,o,V⟩=O ⟨l++[⟨p.name,p.arity,[]⟩],G,V⟩:=by
   show(match (V:Option (Co×Nat)),pG p.name,ji (dL p.arity) 64 with
    | none,O a,O b=>if l.any (fun q=>q.name == a && q.arity == b) then V else O (Pv.mk (l++[Pd.mk a b []]) G V)
    | _,_,_=>V)=_
   rw[d.name,XY d.ar zo];simp only;rw[bM];intro u;obtain⟨q,x,i⟩:=List.any_eq_true.1 u;simp only[Bool.and_eq_true,beq_iff_eq] at i;rw[List.pairwise_append] at g;exact g.2.2 q x p a1A i
  rw[e];simp only;rw[n,a2d,t];simp
def anV{l:List Pd}{ask:Co}(d:∀ p∈l,PdR p)(g:l.Pairwise (fun a b=>¬(a.name=b.name/\a.arity=b.arity)))(j:ask.slots<65)(hi:∀ i∈ask.ins,Fy ask.slots i)(ht:told<=ask.slots)(m:(oW l ask told).length<=65536) :
  rp (oW l ask told) = .ok (l,ask,told):=by
 unfold rp;rw[bM zo];obtain⟨k,o,hk,h⟩:=anU (r:=kM [113,117,101,114,121] [dL ask.slots,dL told]++tn ask) (ps:=l) (l:=[]) (k:=1) (o:=false) d g;have q:kT (fK 10 (oW l ask told)) 1 ⟨[],G,V⟩ = .ok ⟨l,A,O (ask,told)⟩:=by
  unfold oW;rw[a1M,h,a2d];rw[P7 (f:=[113,117,101,114,121]) (l:=[dL ask.slots,dL told]) (⟨by grind [ze],by grind [ze]⟩) (fun w hw=>by
   simp only[a1z,a1E,or_false] at hw;rcases hw with rfl | rfl<;>exact NJ _)]
  have e:mv [[113,117,101,114,121],dL ask.slots,dL told] ⟨l,o,V⟩=O ⟨l,A,O (⟨ask.slots,[]⟩,told)⟩:=by
   show(match (V:Option (Co×Nat)),ji (dL ask.slots) 65 with
    | none,O a=>(match ji (dL told) (a+1) with
     | some b=>O (Pv.mk l A (O (Co.mk a [],b)))
     | none=>V)
    | _,_=>V)=_
   grind [XY]
  rw[e];simp only;have:=anQ (r:=[]) (n:=told) (ins:=ask.ins) (k:=k+1) (p:=⟨l,A,O (⟨ask.slots,[]⟩,told)⟩) (c:=⟨ask.slots,[]⟩) J hi;rw[a3A] at this;unfold tn;rw[this];simp only[a2d];show kT [[]] _ _=_;unfold kT;rw[zip ⟨J,zo⟩]
 grind
def Pv.cur(p:Pv):Option Co:=match p.ask with
 | some (c,_)=>O c
 | none=>if p.open_ then mv.KO p.dG else V
def Pv.add(p:Pv)(i:In):Pv:=match p.ask with
 | some (c,n)=>{ p with ask:=O ({ c with ins:=c.ins++[i] },n) }
 | none=>{ p with dG:=GX p.dG fun q=>{ q with clauses:=Fv q.clauses fun c=>{ c with ins:=c.ins++[i] } } }
abbrev CT:Bs:=[112,114,101,100]
abbrev BH:Bs:=[99,108,97,117,115,101]
abbrev Ef:Bs:=[113,117,101,114,121]
theorem XZ{w0:Bs}{r:List Bs}{p:Pv}(a:p.ask≠V)(hw:w0=CT\/w0=BH\/w0=Ef):mv (w0::r) p=none:=by
 obtain⟨dG,o,ask⟩:=p;cases ask with
 | none=>grind
 | some cn=>
  unfold mv;grind
def aIX{a b:Bs}{p:Pv}(c:p.ask=V):mv [CT,a,b] p=match pG a,ji b 64 with
  | some a,O b=>if p.dG.any (fun q=>q.name == a && q.arity == b) then V else O { p with dG:=p.dG++[⟨a,b,[]⟩],open_:=false }
  | _,_=>none:=by
 grind [mv,pG,ji]
def aIY{a:Bs}{p:Pv}(b:p.ask=V)(c:p.dG≠[]):mv [BH,a] p=match ji a 65 with
  | some a=>O { p with dG:=GX p.dG fun q=>{ q with clauses:=q.clauses++[⟨a,[]⟩] },open_:=true }
  | none=>none:=by
 grind [mv]
theorem anW{a b:Bs}{p:Pv}(c:p.ask=V):mv [Ef,a,b] p=match ji a 65 with
  | some a=>match ji b (a+1) with
   | some b=>O { p with ask:=O (⟨a,[]⟩,b),open_:=true }
   | none=>V
  | none=>none:=by
 grind [mv,ji]
def aIZ{w0:Bs}{r:List Bs}{p:Pv}(b:¬ (p.ask≠V/\(w0=CT\/w0=BH\/w0=Ef)))(d:¬ (w0=CT/\r.length=2))(f:¬ (w0=BH/\r.length=1/\p.dG≠[]))(g:¬ (w0=Ef/\r.length=2)) :
  mv (w0::r) p=match p.cur with
   | some c=>match rm c.slots (w0::r) with
    | some i=>O (p.add i)
    | none=>V
   | none=>none:=by
 unfold mv;split
 .grind
 .rename_i e;injection e with h j;have a:p.dG=[]:=zg;obtain⟨dG,o,ask⟩:=p;have a:dG=[]:=a;subst a;cases ask with
  | some c=>grind
  | none=>
   have k:(Pv.mk [] o V).cur=none:=by
    unfold Pv.cur;cases o<;>rfl
   grind
 .grind
 .obtain⟨dG,o,ask⟩:=p;cases ask with
  | none=>
   rw[bM zs];grind [Pv.cur,Pv.add]
  | some c=>
   rw[bM]
   .grind [Pv.cur,Pv.add]
   grind
def Pv.Bd(k:Nat)(p:Pv):Prop:=(∀ q∈p.dG,q.clauses.length<=k/\∀ c∈q.clauses,c.ins.length<=k/\c.slots<=64)/\∀ c n,p.ask=O (c,n)->c.ins.length<=k/\c.slots<=64
theorem Pv.Bd.cur{k:Nat}{p:Pv}{c:Co}(h:p.Bd k)(a:p.cur=O c):c.ins.length<=k/\c.slots<=64:=by
 unfold Pv.cur at a;split at a
 .rename_i e n b;injection a with a;subst a;exact h.2 _ _ b
 .split at a
  .unfold mv.KO at a;split at a
   .rename_i q d;exact(h.1 q (a2P d)).2 c (a2P a)
   grind
  grind
theorem Pv.Bd.add{k:Nat}{p:Pv}(h:p.Bd k)(i:In):(p.add i).Bd (k+1):=by
 unfold Pv.add;split
 .rename_i c n f;refine⟨fun q a=>⟨by have:=(h.1 q a).1;omega,fun c b=>⟨by have:=((h.1 q a).2 c b).1;omega,((h.1 q a).2 c b).2⟩⟩,fun l m he=>?_⟩;injection he with he;injection he with d g;subst d;have:=h.2 _ _ f;grind
 .rename_i f;refine⟨fun q a=>?_,fun c n he=>?_⟩
  .rcases adM a with a | ⟨q0,e,rfl⟩
   rotate_left
   .have a:=a2P e;refine⟨?_,fun c b=>?_⟩
    .show(Fv _ _).length<=_;rw[anm];have:=(h.1 q0 a).1;omega
    .rcases anl b with b | ⟨c0,j,rfl⟩
     .exact⟨by have:=((h.1 q0 a).2 c b).1;omega,((h.1 q0 a).2 c b).2⟩
     .have:=(h.1 q0 a).2 c0 (a2P j);grind
   .exact⟨by have:=(h.1 q a).1;omega,fun c b=>⟨by have:=((h.1 q a).2 c b).1;omega,((h.1 q a).2 c b).2⟩⟩
  grind
theorem Pv.Bd.mono{p:Pv}(h:p.Bd k)(hk:k<=k'):p.Bd k':=
 ⟨fun q a=>⟨a1t (h.1 q a).1 hk,fun c b=>⟨a1t ((h.1 q a).2 c b).1 hk,((h.1 q a).2 c b).2⟩⟩,fun c n he=>⟨a1t (h.2 c n he).1 hk,(h.2 c n he).2⟩⟩
theorem aeb(c:UInt8):∀ (s:Bs),∀ l∈fK c s,c ∉ l/\l.length<=s.length
 | [],l,h=>by
  simp_all [fK]
 | x::r,l,h=>by
  have ih:=aeb c r;unfold fK at h;grind
def Wk.new(b:Bd)(n:Nat):Wk:=⟨n,⟨[],0⟩,[⟨O b,a1U n,0⟩],[]⟩
def zf(c:Co):Vm:=⟨0,⟨[],0⟩,[⟨c,List.replicate c.slots .nil,0,V,0,A⟩],0,0,[]⟩
def KX(dG:List Pd)(told:Nat):En where
 St:=Vm
 sr m:=m.sr
 nv m:=m.n
 fu m f:={ m with sr:={ m.sr with fuel:=f } }
 nx d f m:=IT dG d f m
 told m:=m.iK (a1U told)
def x8(cs:List Cl)(b:Bd)(nv:Nat):Option Bs:=match xg cs [] with
 | none=>V
 | some l=>match zb [] b nv A with
  | none=>V
  | some a=>O (oW l a nv)
inductive anX where
 | err (e:Nat) (at_:Int)
 | ok (E:En) (st:E.St) (names:List Bs)
def runT(t:Bs)(names:List Bs):anX:=match rp t with
 | .error (e,k)=>.err e k
 | .ok (ps,c,n)=>.ok (KX ps n) (zf c) names
def KY(cs:List Cl)(q:Bs)(machine:Bool):anX:=match tU rP q with
 | .err e a=>.err e a
 | .ok b _ vs=>if machine then match x8 cs b vs.length with
   | none=>.err 4 (-1)
   | some t=>runT t vs
  else .ok (KM cs vs.length) (Wk.new b vs.length) vs
def firstT(d f:Nat)(s q:Bs)(machine:Bool):Option (Bs×Nat):=match program s with
 | .err e _=>O ([],e)
 | .ok cs _ _=>match KY cs q machine with
  | .err e _=>O ([],e)
  | .ok E st names=>(AK E names d f (V,st)).map Prod.fst
def anY:∀ (d c:List Bs) (k:Nat) (p q:Pv),c≠[]->kT (d++c) k p = .ok q->∃ p1,kT c (k+d.length) p1 = .ok q
 | [],c,k,p,q,_,h=>⟨p,h⟩
 | l::d,c,k,p,q,e,h=>by
  have f:d++c≠[]:=(by simp_all);obtain⟨x,r,hx⟩:∃ x r,d++c=x::r:=by
   cases g:d++c with
   | nil=>grind
   | cons a b=>grind
  rw[List.cons_append,hx,kT] at h
  .split at h
   .grind
   .rename_i p1 _;rw[<- hx] at h;obtain⟨p2,i⟩:=anY d c (k+1) p1 q e h;grind
  grind
def aI1{ws:List Bs}{p a:Pv}(h:mv ws p=O a)(b:p.ask.map (·.2)=O n):a.ask.map (·.2)=O n:=by
 obtain⟨dG,o,ask⟩:=p;cases ask with
 | none=>grind
 | some cn=>
  obtain⟨c,d⟩:=cn;simp only[Option.map_some,Option.some.injEq] at b;subst b;unfold mv at h;grind
theorem anZ:∀ (L:List Bs) (k:Nat) (p q:Pv) (n:Nat),kT L k p = .ok q->p.ask.map (·.2)=O n->q.ask.map (·.2)=O n
 | [],k,p,q,n,h,a=>by
  simp_all [kT]
 | [r],k,p,q,n,h,a=>by
  grind [kT]
 | r::s::rs,k,p,q,n,h,a=>by
  rw[kT] at h
  .split at h
   .grind
   .rename_i p1 b;exact anZ (s::rs) _ _ _ _ h (aI1 b a)
  grind
theorem aI2(h:ji (dL nv) n=O b):b=nv:=by
 unfold ji at h;split at h
 .rename_i z a;split at h
  .rename_i c;injection h with h;have d:=(XN a).1;grind [gX,aIR]
  grind
 grind
def Nl(s:Bs):Prop:=s=[]\/∃ a,s=a++[10]
def Nl.app{a b:Bs}(d:Nl a)(c:Nl b):Nl (a++b):=by
 rcases c with rfl | ⟨x,rfl⟩
 .grind
 .exact .inr ⟨a++x,zg⟩
theorem Nl.flat:∀ {L:List Bs},(∀ x∈L,Nl x)->Nl L.flatten
 | [],_=>.inl J
 | x::r,h=>by rw[a2y];exact(h x a1A).app (Nl.flat zg)
def Nl.words(f:Bs)(l:List Bs):Nl (kM f l):=.inr ⟨_,J⟩
theorem Nl.map{α:Type}{g:α->Bs}(a:∀ x,Nl (g x))(L:List α):Nl (L.map g).flatten:=Nl.flat fun x hx=>by
 grind
def Nl.pd(p:Pd):Nl (rU p):=(Nl.words _ _).app (Nl.map (fun _=>(Nl.words _ _).app (Nl.map (fun _=>Nl.words _ _) _)) _)
def aI3(b r:Bs)(c:Nl b):∃ L,fK 10 (b++r)=L++fK 10 r:=by
 rcases c with rfl | ⟨a,rfl⟩
 .simp_all
 simp_all [fK,a1M,TG]
def aI4(c:UInt8):∀ (s:Bs),fK c s≠[]
 | []=>by simp [fK]
 | x::r=>by
  grind [adU]
theorem aI5{l:List Pd}{ask:Co}{ps:List Pd}{c:Co}(h:rp (oW l ask nv) = .ok (ps,c,n)):n=nv:=by
 unfold rp at h;split at h
 .grind
 split at h
 .grind
 rename_i q a;split at h
 .rename_i j k m;injection h with h;injection h with b h;injection h with d e;subst b d e;have g:Nl (l.map rU).flatten:=Nl.map Nl.pd l;unfold oW at a;rw[a1M] at a;obtain⟨L,i⟩:=aI3 _ (kM [113,117,101,114,121] [dL ask.slots,dL nv]++tn ask) g;rw[i] at a;obtain⟨p1,b⟩:=anY L _ _ _ _ (aI4 _ _) a;rw[P7 (f:=[113,117,101,114,121]) (l:=[dL ask.slots,dL nv]) (⟨by grind [ze],by grind [ze]⟩) (fun w hw=>by
   simp only[a1z,a1E,or_false] at hw;rcases hw with rfl | rfl<;>exact NJ _)] at b
  grind [XZ,anZ,aI2,anW]
 grind
def aI6{cs:List Cl}{x:Bd}{t:Bs}{ps:List Pd}{c:Co}(a:x8 cs x nv=O t)(b:rp t = .ok (ps,c,n)):n=nv:=by
 grind [x8,aI5]
def pA:Bs:=[97,46]
end P
open Go.Proofs.YtoegidfbnkaabaaGreatDoor.Sx
section
variable{p0 p1 p2 p3 p4 p5 p6 p7:Y}{w:Z}{R:Ending->Z->Prop}
def an0:=cz w R [p0,p1] (gc [] [] []) func44
def G3(p0 p1:Y)(w:Z)(R:Ending->Z->Prop):Prop:=
 CA bbx 82 #[p0] w (fun k w1=>
 NC p0 fun g=>
 RD bbx (Instr.fieldAt 100 g 1) w1 (fun h=>
 RD bbx (Instr.loadAt 98 h) w1 (fun a=>
 WR bbx (Instr.buildSlice 98 1 #[(0,p1)]) w1 (fun b c=>
 WR bbx (Builtin.append_ #[98,98] 98 #[a,b]) c (fun d f=>
 NC p0 fun e=>
 RD bbx (Instr.fieldAt 100 e 1) f (fun i=>
 WU bbx (Instr.storeAt 98 i d) f (fun j=>
 R (ah ai) j) (PX R)) (PX R)) (PX R)) (PX R)) (PX R)) (PX R)) (PC R)
def an1(h:G3 p0 p1 w R):Calls bbx 95 #[p0,p1] w R:=
 cq (args:=[p0,p1]) (EV (fun _=>[]) (fun _=>V) (fun _=>0) (fun _=>V) (fun _=>[]) (fun _=>[]) (fun _=>G) (fun _=>G)) func95 J zk zk h
def aJa{u:FrameMode}{w:Z}{R:Ending->Z->Prop}(h:G3 tv vv w R):CallsD bbx 95 #[tv,vv] u w fun e a w'=>a=u/\R e w':=
 aub (args:=[tv,vv]) (EV (fun _=>[]) (fun _=>V) (fun _=>0) (fun _=>V) (fun _=>[]) (fun _=>[]) (fun _=>G) (fun _=>G)) func95 J zk zk (Nat.le_of_ble_eq_true zk) [] zk h
end
namespace P
structure Nd where
 kind:Nat
 name:Bs
 n:Int
 args:List Nat
deriving Inhabited
structure Hp where
 nodes:List Nd
 to:List Int
 aV7:List Nat
 cost:Nat
 an2:Nat
 err:Nat
def Hp.nd(H:Hp)(t:Nat):Nd:=H.nodes.getD t ⟨0,[],0,[]⟩
def Hp.aeg(H:Hp)(t:Nat):Int:=H.to.getD t (-1)
def Hp.DZ(H:Hp):Bool:=decide (H.an2<H.cost) || decide (H.err≠0)
def Hp.add(H:Hp)(d:Nd):Hp:={ H with nodes:=H.nodes++[d],to:=H.to++[-1] }
def Hp.walk(H:Hp):Nat->Nat->Option Nat
 | 0,t=>if (H.nd t).kind=118/\0<=H.aeg t then V else O t
 | f+1,t=>if (H.nd t).kind=118/\0<=H.aeg t then H.walk f (H.aeg t).toNat else O t
def Hp.fresh(H:Hp):Nat->Hp×List Nat
 | 0=>(H,[])
 | n+1=>let (a,l):=(H.add ⟨118,[],0,[]⟩).fresh n;(a,H.nodes.length::l)
mutual
def Hp.made (H:Hp) (vs:List Nat):Ex->Hp×Nat
 | .mk kind name n k args=>if kind=118 then(H,vs.getD k 0) else
  let (a,l):=H.nY vs args
  (a.add ⟨kind,name,n,l⟩,a.nodes.length)
 termination_by structural x=>x
def Hp.nY (H:Hp) (vs:List Nat):List Ex->Hp×List Nat
 | []=>(H,[])
 | x::xs=>let (a,t):=H.made vs x;let (b,l):=a.nY vs xs;(b,t::l)
 termination_by structural x=>x
end
def Hp.lu(H:Hp)(t:Nat):Nat:=if (H.nd t).kind≠99 then 0 else P.lu (H.nd t).name (H.nd t).args.length
abbrev Xr:=Bs×Nat×List Nat
def Xb(x:Option Xr)(k:Bs->Nat->List Nat->Option Xr):Option Xr:=
 match x with
 | none=>V
 | some (s,c,l)=>k s c l
def Hp.over(H:Hp)(c:Nat):Bool:=decide (H.an2<c) || decide (H.err≠0)
mutual
def Hp.text (H:Hp):Nat->Nat->Nat->Nat->List Nat->Option Xr
 | 0,_,_,_,_=>V
 | f+1,t,least,c,seen=>
  if H.over (c+1) then O ([],c+1,seen)
  else match H.walk f t with
   | none=>V
   | some t=>
    if (H.nd t).kind=97 then O ((H.nd t).name,c+1,seen)
    else if (H.nd t).kind=110 then O (gX (H.nd t).n,c+1,seen)
    else if (H.nd t).kind=118 then match seen.idxOf? t with
     | some k=>O (95::dL (k+1),c+1,seen)
     | none=>O (95::dL (seen.length+1),c+1,seen++[t])
    else if H.lu t≠0 then
     Xb (H.text f ((H.nd t).args.getD 0 0) (H.lu t) (c+1) seen) fun a c seen=>Xb (H.text f ((H.nd t).args.getD 1 0) (H.lu t+1) c seen) fun b c seen=>
      let op:=if (H.nd t).name=[109,111,100] then [32,109,111,100,32] else(H.nd t).name
      O (if H.lu t<least then 40::(a++op++b++[41]) else a++op++b,c,seen)
    else if (H.nd t).name=[46]/\(H.nd t).args.length=2 then H.list f t [91] (c+1) seen
    else H.targs f (H.nd t).args A ((H.nd t).name++[40]) (c+1) seen
 termination_by structural f=>f
def Hp.targs (H:Hp):Nat->List Nat->Bool->Bs->Nat->List Nat->Option Xr
 | 0,_,_,_,_,_=>V
 | _+1,[],_,out,c,seen=>O (out++[41],c,seen)
 | f+1,a::r,first,out,c,seen=>Xb (H.text f a 0 c seen) fun s c seen=>H.targs f r G ((if first then out else out++[44])++s) c seen
 termination_by structural f=>f
def Hp.list (H:Hp):Nat->Nat->Bs->Nat->List Nat->Option Xr
 | 0,_,_,_,_=>V
 | f+1,t,out,c,seen=>
  Xb (H.text f ((H.nd t).args.getD 0 0) 0 c seen) fun a c seen=>
   match H.walk f ((H.nd t).args.getD 1 0) with
   | none=>V
   | some r=>
    if H.over c then O (out++a,c,seen)
    else if (H.nd r).kind=97/\(H.nd r).name=[91,93] then O (out++a++[93],c,seen)
    else if (H.nd r).kind=99/\(H.nd r).name=[46]/\(H.nd r).args.length=2 then H.list f r (out++a++[44]) c seen
    else Xb (H.text f r 0 c seen) fun b c seen=>O (out++a++[124]++b++[93],c,seen)
 termination_by structural f=>f
end
end P
open Go.RowKit Sx
abbrev uJ(l:Bs):List Y:=l.map fun c=>.int .u8 c.toNat
def tG(w:Z)(wb:Nat)(S nm:Y)(out:Bs):Prop:=
 ∃ a buf,(a = aq V\/a=pp wb)/\w.heap[wb]?=aO #[a,buf,S,nm] 103/\w.ownsRow (wb+1) 5 1 buf out.length (uJ out)
def MB(wb b:Nat)(o:Obj):Prop:=b=wb\/(wb<b/\∃ cs z,o = ae cs 5 z)
abbrev jH(wb:Nat)(w w':Z):Prop:=bB (MB wb) w w'
def X1:(Tryz.prog.info? 100).map (·.size)=O 2:=zk
def aJd:liesAt bbx Tryz.prog.depth 103 (4 / Tryz.prog.cellsOf 103) 0 100 1=true:=zk
def aJe(h:w.heap[b]?=aO #[pp b,buf,S,nm] 103) :
  Calls bbx 82 #[pp b] w fun e w'=>e = ah (ak #[])/\w'=w:=by
 obtain⟨j,hj,_⟩:=a1R.1 X1;have h0:w.cell? ⟨b,0,V⟩=O (pp b):=by grind [World.cell?]
 go_enter func82,ntmps82
 go_wp2
 rw[Lib.run_neq_ptr_same w _ underlying97 hj]
 go_wp2
 go_end0
 grind
def aJf(h:w.heap[b]?=aO #[aq V,buf,S,nm] 103) :
  Calls bbx 82 #[pp b] w fun e w'=>e = ah (ak #[])/\w'=w.setCell ⟨b,0,V⟩ (pp b):=by
 obtain⟨j,hj,Qb⟩:=a1R.1 X1;have h0:w.cell? ⟨b,0,V⟩=O (aq V):=by grind [World.cell?]
 have It:w.frozen? ⟨b,0,V⟩=false:=jJ h 0;have tE:w.shape? b=O (103,4):=by grind [World.shape?]
 go_enter func82,ntmps82
 go_wp2
 rw[Lib.run_to_unsafe w ⟨b,0,V⟩ underlying97 underlying155 hj zo tE (Nat.zero_lt_succ 3)];simp only[a2n];rw[a3R]
 go_wp2
 rw[run_callFunc_extern func110 zk zk zk (e:=Extern.AbiNoEscape.same) zk];rw[Lib.run_noEscape];simp only[a2n];rw[a3R]
 go_wp2
 rw[Lib.run_from_unsafe w ⟨b,0,V⟩ underlying155 underlying97 hj tE aJd];simp only[a2n];rw[a3R]
 go_wp2
 go_end0
 grind
def an3(h:tG w wb S nm out) :
  Calls bbx 82 #[pp wb] w fun e w'=>e = ah (ak #[])/\jH wb w w'/\w'.heap.size=w.heap.size/\∃ buf,
   w'.heap[wb]?=aO #[pp wb,buf,S,nm] 103/\w'.ownsRow (wb+1) 5 1 buf out.length (uJ out):=by
 obtain⟨d,buf,b,a,c⟩:=h;rcases b with rfl | rfl
 .refine(aJf a).mono ?_;rintro e w' ⟨rfl,rfl⟩;rw[vg a];refine⟨J,(bB.refl _ _).bQ (.inl fun _=>.inl J),yH,buf,yH,(by grind [J8])⟩
 .refine(aJe a).mono ?_;rintro e w' ⟨rfl,rfl⟩;exact⟨J,bB.refl _ _,J,buf,a,c⟩
def jH.X2(d:w1.ownsRow (wb+1) 5 1 buf n xs)(a:w1.grownBy w2 buf.ownBlock):jH wb w1 w2:=⟨a.os,a.tape,a.output,a.size,fun b o c hm=>by
 rw[a.block b (bg c) (fun e=>?_)]
 .exact yH
 .rcases d.2 with⟨rfl,_⟩| ⟨g,cap,cur,rfl,h,f,_⟩
  .cases e
  .simp only[Value.ownBlock,Option.some.injEq] at e;subst e;rw[f] at c;injection c with c;exact hm (.inr zg)⟩
def aJg(h:tG w wb S nm out)(s:Bs)(f:out.length+s.length<=1000000000) :
  Calls bbx 44 #[pp wb,aT s] w fun e w'=>(∃ v,e = ah v)/\tG w' wb S nm (out++s)/\jH wb w w':=by
 refine an0 ?_;refine(an3 h).mono ?_;rintro e w1 ⟨rfl,g,s1,buf,b,a⟩;have i:=bg b;refine cJ b ?_;refine ajy (e:=5) zk a s f zo ?_;intro v' w2 o2 c hv;have d:w2.heap[wb]?=aO #[pp wb,buf,S,nm] 103:=by
  rw[c.block wb i (fun e=>by have:=(a.lt wb e.symm).1;omega)];omega
 have j:=bg d;obtain⟨l,rc,rfl⟩:=gV o2;refine cJ d ?_;have k:jH wb w1 w2:=jH.X2 a c;refine⟨⟨_,J⟩,⟨_,_,.inr J,qz J j,J8 ?_ zo⟩,(g.trans k).bQ (.inl fun _=>.inl J)⟩;grind
def an4:(Tryz.prog.info? 5).map (fun i=>(i.zero,i.size,i.bytes))=O (O (.int .u8 0),1,1):=zk
def an5(h:tG w wb S nm out)(c:UInt8)(j:out.length+1<=1000000000) :
  G3 (pp wb) (.int .u8 c.toNat) w fun e w'=>(∃ v,e = ah v)/\tG w' wb S nm (out++[c])/\jH wb w w':=by
 obtain⟨i,hi,d⟩:=a1R.1 an4;simp only[Prod.mk.injEq] at d;obtain⟨k,l,n⟩:=d;unfold G3;refine Calls.mono (an3 h) ?_;rintro e w1 ⟨rfl,o,s1,buf,f,a⟩;have r:=bg f;refine dj @G3.eq_1 f ?_;refine Sx.DC (m:=1) (t:=98) (e:=5) zk hi k l n J zd (a.alloc _) (blk_alloc_new _ _) J (fun u hu=>?_) j zd (by rw[size_alloc];omega) ?_
 .simp only[a1z,a1E,or_false] at hu;subst hu;rfl
 intro v' w2 o2 b hv;have s2:=b.size;rw[size_alloc] at s2;have g:w2.heap[wb]?=aO #[pp wb,buf,S,nm] 103:=by
  rw[b.block wb (yH) (fun e=>by have:=(a.lt wb e.symm).1;omega)];exact yH
 have p:=bg g;obtain⟨s,rc,rfl⟩:=gV o2;refine dj @G3.eq_1 g ?_;have q:jH wb w1 w2:=((bB.refl _ _).alloc _).trans (jH.X2 (a.alloc _) b);refine⟨⟨_,J⟩,⟨_,_,.inr J,qz J p,J8 ?_ zo⟩,(o.trans q).bQ (.inl fun _=>.inl J)⟩;grind
def aJh(h:tG w wb S nm out)(c:UInt8)(a:out.length+1<=1000000000) :
  Calls bbx 95 #[pp wb,.int .u8 c.toNat] w fun e w'=>(∃ v,e = ah v)/\tG w' wb S nm (out++[c])/\jH wb w w':=
 an1 (an5 h c a)
def an6(h:tG w wb S nm out)(c:UInt8)(a:out.length+1<=1000000000){u:FrameMode} :
  CallsD bbx 95 #[pp wb,.int .u8 c.toNat] u w fun e b w'=>b=u/\(∃ v,e = ah v)/\tG w' wb S nm (out++[c])/\jH wb w w':=
 aJa (an5 h c a)
def an7:Tryz.prog.cellsOf 5=1:=zk
def an8{z:Nat×Nat}(d:wb<g)(c:w.heap[g]?=O (ae iB 5 z)):jH wb w (w.freeze ⟨g,0,V⟩ n):=by
 unfold World.freeze;split
 .grind [bB.refl]
 .exact⟨J,J,J,zs,fun b o a hm=>by
   simp only[Array.getElem?_modify];rw[bM]
   .omega
   .rintro rfl;rw[c] at a;injection a with a;exact hm (.inr zg)⟩
def an9(h:tG w wb S nm out)(h0:out≠[]) :
  Calls bbx 33 #[pp wb] w fun e w'=>e = ah (aT out)/\jH wb w w':=by
 obtain⟨ad,buf,G4,hb,ho⟩:=h;have rf:out.length≠0:=zg;obtain⟨g,cap,cur,rfl,hbg,hg,uZ,Dv,jK,aan⟩:∃ g cap cur,buf = cS g out.length cap/\wb+1<=g/\w.heap[g]?=aO cur 5/\out.length<=cap/\cap<=maxLen/\cur.size=cap*1/\cur.toList.take (out.length*1)=uJ out:=by
  rcases ho.2 with⟨_,hz⟩| ⟨g,cap,cur,hv,r⟩
  .exact yH
  .exact⟨g,cap,cur,hv,r⟩
 have nW:w.drew.heap[wb]?=aO #[ad,cS g out.length cap,S,nm] 103:=hb;have c1:w.drew.cell? ⟨wb,1,V⟩=O (cS g out.length cap):=by grind [World.cell?]
 have hSD:(Builtin.unsafeSliceData_ #[98] 181 #[cS g out.length cap]).run bbx w.drew = .ok (pp g) w.drew:=
  (by grind [Lib.run_unsafeSliceData_row])
 have hUS:(Builtin.unsafeString_ #[181,3] 9 #[pp g,zi out.length]).run bbx w.drew = .ok (aT out) (w.drew.freeze ⟨g,0,V⟩ out.length):=by
  refine Lib.run_unsafeString_row w.drew 181 3 9 5 underlying181 an7 g cur.size (by have jA:w.drew.heap[g]?=aO cur 5:=hg;grind [World.shape?]) out h0 zo (by grind [maxLen]) ?_;intro j x hx;have:=ho.cells (g:=g) J j (.int .u8 x.toNat) zg;exact this
 go_enter func33,ntmps33
 go_wp2
 go_region
 all_goals (go_wp2;go_ret;exact⟨J,(bB.drew (bB.refl _ _)).trans (an8 zo hg)⟩)
section
variable{p0 p1 p2 p3 p4 p5 p6 p7:Y}{w:Z}{R:Ending->Z->Prop}
def aJk:=cz w R [p0] (gc [] [] [13]) func61
def aJl:=cz w R [p0] (gc [(1,[0])] [(2000,[18]),(3001,[])] [4,9,10,17,18]) func62
def aJm:=cz w R [p0,p1] (gc [] [(3000,[8]),(5000,[15])] [5,7,8,13,14,15,24,25]) func94
def aJn:=cz w R [p0,p1] (gd [(10,[46])] [] [] [(12,[13,0,1,2,3,4,5,6,7,8,9,10,11,12])] [] [] [12,13,19,20,26,27,47]) func32
end
section
variable{p0 p1 p2 p3 p4 p5 p6 p7:Y}{w:Z}{R:Ending->Z->Prop}
def aJo:=cz w R [p0,p1,p2] (gd [] [(13001,[]),(15004,[9])] [] [(7,[6,0,1,2,3,4,5]),(16,[7,0,1,2,3,4,5,6])] [] [] [10,20,28,37,47,48,49,54,79]) func31
def aJp:=cz w R [p0,p1] (gc [(1,[1,4])] [(7000,[42]),(12008,[1])] [28,41,42,45,48]) func96
def aJq:=cy w R [p0,p1,p2] (gd [(3,[32])] [(16002,[]),(18000,[101])] [(0,9),(1,7),(5,6),(16,7)] [] [] [] [33,52,54,57,78,101,113,114]) func65
end
mutual
def dI (F:Nat->Prop) (ρ:Nat->Nat) (n:Nat) (w:Z) (v:Y):Tm->Prop
 | .atom s=>v = aj 171 (.string (bs s))
 | .int k=>v = aj 172 (.int .i64 k)
 | .var i=>i<n/\v = aj 87 (aq (O ⟨ρ i,0,V⟩))
 | .comp name args=>∃ b av vs,v = aj 175 (aq (O ⟨b,0,V⟩))/\F b/\w.heap[b]?=O (ae #[.string (bs name),av] 180 (0,0)) /\
  fJ F w 89 av vs/\iG F ρ n w vs args
 termination_by structural t=>t
def iG (F:Nat->Prop) (ρ:Nat->Nat) (n:Nat) (w:Z) (vs:List Y):List Tm->Prop
 | []=>vs=[]
 | t::ts=>∃ v r,vs=v::r/\dI F ρ n w v t/\iG F ρ n w r ts
 termination_by structural t=>t
end
abbrev dK(ρ:Nat->Nat)(n:Nat)(w:Z)(v:Y)(t:Tm):Prop:=dI (fun _=>True) ρ n w v t
abbrev qe(ρ:Nat->Nat)(n:Nat)(w:Z)(vs:List Y)(ts:List Tm):Prop:=iG (fun _=>True) ρ n w vs ts
def ry(F:Nat->Prop)(w w':Z):Prop:=∀ b cs t,F b->t=180\/t=89->w.heap[b]?=aO cs t->w'.heap[b]?=aO cs t
abbrev X3(w w':Z):Prop:=ry (fun _=>True) w w'
theorem ry.ed(h:Ext w w'):ry F w w':=fun b cs t _ _ a=>h.ext b _ a
mutual
theorem dI.mono {F F':Nat->Prop} {ρ eM:Nat->Nat} {n c:Nat} {w w':Z} (a:∀ b,F b->F' b) (d:n<=c) (e:∀ i,i<n->eM i=ρ i) (hw:ry F w w'):∀ (t:Tm) (v:Y),dI F ρ n w v t->dI F' eM c w' v t
 | .atom s,v,h=>by grind [dI]
 | .int k,v,h=>by grind [dI]
 | .var i,v,h=>by
  grind [dI]
 | .comp name args,v,h=>by
  unfold dI at h ⊢;obtain⟨b,av,vs,g,f,j,l,m⟩:=h;exact⟨b,av,vs,g,a b f,hw b _ _ f (.inl J) j,l.mono a fun b cs o p=>hw b _ _ o (.inr J) p,iG.mono a d e hw args vs m⟩
 termination_by structural t=>t
theorem iG.mono {F F':Nat->Prop} {ρ eM:Nat->Nat} {n c:Nat} {w w':Z} (a:∀ b,F b->F' b) (d:n<=c) (e:∀ i,i<n->eM i=ρ i) (hw:ry F w w'):∀ (ts:List Tm) (vs:List Y),iG F ρ n w vs ts->iG F' eM c w' vs ts
 | [],vs,h=>by grind [iG]
 | t::ts,vs,h=>by
  unfold iG at h ⊢;obtain⟨v,r,g,f,j⟩:=h;exact⟨v,r,g,dI.mono a d e hw t v f,iG.mono a d e hw ts r j⟩
 termination_by structural t=>t
end
theorem dI.bJ(h:dI F ρ n w v t)(hw:ry F w w'):dI F ρ n w' v t:=dI.mono zg zo zg hw t v h
theorem iG.bJ{t:List Tm}{v:List Y}(h:iG F ρ n w v t)(hw:ry F w w'):iG F ρ n w' v t:=iG.mono zg zo zg hw t v h
theorem dI.toT(h:dI F ρ n w v t):dK ρ n w v t:=dI.mono zg zo zg (fun _ _ _ _ _ h=>h) t v h
theorem iG.toT{t:List Tm}{v:List Y}(h:iG F ρ n w v t):qe ρ n w v t:=iG.mono zg zo zg (fun _ _ _ _ _ h=>h) t v h
def iG.snoc{F:Nat->Prop}{ρ:Nat->Nat}{n:Nat}{w:Z}{v:Y}{x:Tm}(hx:dI F ρ n w v x):∀ {xs:List Tm} {vs:List Y},iG F ρ n w vs xs->iG F ρ n w (vs++[v]) (xs++[x])
 | [],vs,h=>by
  unfold iG at h;subst h;show iG F ρ n w [v] [x];unfold iG;exact⟨v,[],J,hx,by unfold iG;rfl⟩
 | y::a,vs,h=>by
  unfold iG at h;obtain⟨u,r,rfl,b,c⟩:=h;show iG F ρ n w (u::(r++[v])) (y::(a++[x]));unfold iG;exact⟨u,r++[v],J,b,iG.snoc hx c⟩
def iG.length{F:Nat->Prop}{ρ:Nat->Nat}{n:Nat}{w:Z}:∀ {xs:List Tm} {vs:List Y},iG F ρ n w vs xs->vs.length=xs.length
 | [],vs,h=>by unfold iG at h;subst h;rfl
 | y::b,vs,h=>by
  unfold iG at h;obtain⟨u,r,rfl,c,a⟩:=h;simp [iG.length a]
theorem iG.at{F:Nat->Prop}{ρ:Nat->Nat}{n:Nat}{w:Z}:∀ {xs:List Tm} {vs:List Y} (j:Nat) (a:j<xs.length),iG F ρ n w vs xs->∃ v,vs[j]?=O v/\dI F ρ n w v xs[j]
 | x::xs,vs,0,_,h=>by
  unfold iG at h;grind
 | x::xs,vs,j+1,a,h=>by
  unfold iG at h;obtain⟨u,r,rfl,c,b⟩:=h;simpa using iG.at j zg b
def dI.iface{F:Nat->Prop}{ρ:Nat->Nat}{n:Nat}{w:Z}{v:Y}:∀ {t:Tm},dI F ρ n w v t->∃ u x,v = aj u x
 | .atom s,h=>by unfold dI at h;exact⟨_,_,h⟩
 | .int s,h=>by unfold dI at h;exact⟨_,_,h⟩
 | .var s,h=>by unfold dI at h;exact⟨_,_,h.2⟩
 | .comp s l,h=>by unfold dI at h;obtain⟨b,av,vs,h,-⟩:=h;exact⟨_,_,h⟩
structure Eg(ρ:Nat->Nat)(n:Nat)(tr:Tr)(w:Z):Prop where
 inj:∀ i j,i<n->j<n->ρ i=ρ j->i=j
 var:∀ i,i<n->∃ ref,w.heap[ρ i]?=O (ae #[ref] 91)/\(match P.look i tr with | none=>ref = ai | some t=>dK ρ n w ref t)
def G5(w w':Z):Prop:=∀ (b:Nat) (cs:Array Y) (t:Nat),t=180\/t=89\/t=91->w.heap[b]?=aO cs t->w'.heap[b]?=aO cs t
theorem G5.toT(h:G5 w w'):X3 w w':=fun b cs t _ ht=>h b cs t zg
theorem G5.ed(h:Ext w w'):G5 w w':=fun b cs t _ a=>h.ext b _ a
theorem Eg.bJ{ρ:Nat->Nat}{n:Nat}{tr:Tr}{w w':Z}(h:Eg ρ n tr w)(hk:G5 w w'):Eg ρ n tr w':=
 ⟨h.inj,fun i hi=>by
  obtain⟨ref,a,b⟩:=h.var i hi;refine⟨ref,hk _ _ _ zg a,?_⟩;grind [dI.bJ,G5.toT]⟩
def G6{j:Tm}(h:Eg ρ n tr w)(hv:dK ρ n w v t)(hw:fF tr f t=O j) :
  Calls bbx 62 #[v] w fun e w'=>w'=w/\∃ u,e = ah u/\dK ρ n w u j:=by
 refine aJl ?_;refine⟨fun m s w1=>w1=w/\∃ t1,dK ρ n w (s 0) t1/\fF tr m t1=O j,⟨f,J,t,hv,hw⟩,?_⟩;intro m s d w1 q;refine toPr ?_;obtain⟨rfl,t1,c,k⟩:=q;by_cases r:∃ i,t1 = .var i
 .obtain⟨i,rfl⟩:=r;unfold dI at c;obtain⟨hi,g⟩:=c;obtain⟨ref,g1,g2⟩:=h.var i hi;cases o:P.look i tr with
  | none=>
   rw[o] at g2;have g2:ref = ai:=g2;subst g2;have ht:j = .var i:=by
    grind [fF]
   refine cJ g ?_;refine⟨fun _ _=>False,?_,by rintro _ _ h;exact h.elim⟩;refine⟨fun x w'=>w'=w1/\x 18 = .bool A,?_,?_⟩
   .simp (disch:=first|assumption|omega|simp only[zS]<;>omega|decide) only[zB,simprocAttr,kW,g1,jg]
   .rintro x w' ⟨rfl,hx⟩ d2;refine cJ hx ?_;rw[ht];unfold dI;grind
  | some t2=>
   rw[o] at g2;have g2:dK ρ n w1 ref t2:=g2;obtain⟨u,x,p⟩:=g2.iface;cases m with
   | zero=>simp [fF,o] at k
   | succ m=>
   simp [fF,o] at k;subst p;refine cJ g ?_;refine⟨fun _ w'=>w'=w1,?_,?_⟩
   .refine⟨fun x w'=>w'=w1/\x 18 = .bool G,?_,?_⟩
    .simp (disch:=first|assumption|omega|simp only[zS]<;>omega|decide) only[zB,simprocAttr,kW,g1,jg]
    .rintro x w' ⟨rfl,hx⟩ d2;exact fh hx
   .rintro x w' rfl d2;refine cJ @g1 ?_;grind
 .have ht:t1=j:=by
   cases m<;>cases t1<;>simp [fF] at k<;>first | exact k | exact zg
  have g:∃ u x,s 0 = aj u x/\¬ u=87:=by
   cases t1 with
   | atom a=>unfold dI at c;exact⟨_,_,c,zd⟩
   | int a=>unfold dI at c;exact⟨_,_,c,zd⟩
   | var a=>grind
   | comp a l=>unfold dI at c;obtain⟨b,av,vs,c,-⟩:=c;exact⟨_,_,c,zd⟩
  obtain⟨u,x,g,hu⟩:=g;refine dj g hu ?_;refine⟨fun _ _=>False,?_,by rintro _ _ h;exact h.elim⟩;refine⟨fun x w'=>w'=w1/\x 18 = .bool A,?_,?_⟩
  .simp (disch:=first|assumption|omega|simp only[zS]<;>omega|decide) only[zB,simprocAttr,kW,jg]
  .rintro y w' ⟨rfl,hx⟩ d2;refine cJ hx ?_;grind
def gsi{cs:Array Y}{i:Nat}{v:Y}(h:i<cs.size):(cs.setIfInBounds i v)[i]?=O v:=zg
def ssz:(cs.setIfInBounds i v).size=cs.size:=zs
def sss:(cs.setIfInBounds i v).setIfInBounds i u=cs.setIfInBounds i u:=zs
abbrev NL:Ending:=.panicked [{ v:=aj 134 (.agg #[]),recovered:=false }]
abbrev kr(cs:Array Y)(so:Nat)(z:Int):Array Y:=cs.setIfInBounds (so+1) (zi z)
def aoc{T:Nat}{z:Int}(a:w.heap[pb]?=aO (kr cs so z) T)(d:so+2<=cs.size)(f:0<=z/\z<=1000000000) :
  Calls bbx 61 #[pq pb so] w fun e w'=>
   e=(if z=0 then NL else ah (ak #[]))/\w'=bQ w pb (ae (kr cs so (z-1)) T (0,0)):=by
 have l:=bg a;have b:(kr cs so z)[so+1]?=O (zi z):=zg;have g:(kr cs so z).size=cs.size:=ssz;refine aJk ?_;by_cases h:z=0
 .have c:z-1<0:=zo;refine dB a b @gsi (zA @ssz @sss) ?_;grind
 .have c:¬ z-1<0:=zo;refine dB a b @gsi (zA @ssz @sss) ?_;grind
def aod(name:Bs)(n:Nat)(w:Z):Calls bbx 94 #[aT name,zi n] w fun e w'=>e = ah (zi (lu name n))/\w'=w:=by
 refine aJm ?_;unfold lu;by_cases h:n=2
 .subst h;have e0:((2:Nat):Int)=2:=rfl;refine cJ @e0 ?_;refine⟨fun x w'=>w'=w/\x 8 = .bool (decide (name=[43]\/name=[45])),?_,?_⟩
  .by_cases b:name=[43]
   .refine cJ b ?_;grind
   .refine cJ b ?_;grind
  .rintro x w' ⟨rfl,hx⟩ d;rw[hx];by_cases b:name=[43]\/name=[45]
   .rw[Gk _ _ b];grind
   .rw[Gl _ _ b];refine⟨fun x c=>c=w'/\x 15 = .bool (decide (name=[42]\/name=[47,47]\/name=[109,111,100])),?_,?_⟩
    .by_cases a:name=[42]
     .refine cJ a ?_;grind
     .by_cases f:name=[47,47]
      .refine dj a f ?_;grind
      .refine dj a f ?_;grind
    .rintro x c ⟨rfl,hx⟩ d;rw[hx];by_cases a:name=[42]\/name=[47,47]\/name=[109,111,100]
     .rw[Gk _ _ a];grind
     .rw[Gl _ _ a];grind
 .have g:¬ (n:Int)=2:=zo;refine bH ?_;grind
def lZ(w:Z):Prop:=Lib.TabIs bbx w "internal/strconv.uint64pow10" .u64 Lib.pow10Tab
def aei:Tryz.prog.globalNamed "internal/strconv.uint64pow10" = O 4:=zk
theorem lZ.bJ(h:lZ w)(hw:∀ o,w.heap[4]?=O o->w'.heap[4]?=O o):lZ w':=by
 unfold lZ Lib.TabIs World.var? at h ⊢;rw[aei] at h ⊢;simp only[Option.bind_some] at h ⊢;cases a:w.heap[4]? with
 | none=>rw[a] at h;cases h
 | some o=>rw[hw o a];rw[a] at h;exact h
theorem lZ.ext{w w':Z}(h:lZ w)(a:Ext w w'):lZ w':=(by grind [bJ,bB.ext])
def aoe:∀ (f n:Nat),n<f->sY f n=a6t n
 | 0,n,h=>zo
 | f+1,n,h=>by
  rw[sY,a6t];split
  .rfl
  .rw[aoe f (n / 10) zo]
theorem Fz(n:Nat):dL n=a6t n:=aoe _ _ zo
theorem aej(n:Int):gX n=Lib.itoa n:=by
 grind [gX,Lib.itoa,Fz]
def aof{os:Array Obj}(h:w'=Go.Sort.grow (w.drewN k) os):Ext w w':=by
 subst h;refine⟨J,J,J,?_,fun b o a _=>?_⟩
 .simp [Go.Sort.grow,World.drewN]
 .have:=bg a;show(w.heap++os)[b]?=O o;exact yH
def aog(n:Int)(a:-9223372036854775808<=n)(b:n<=9223372036854775807)(w:Z)(ht:lZ w) :
  Calls bbx 63 #[zi n,zi 10] w fun e w'=>e = ah (aT (gX n))/\Ext w w':=by
 refine(Tryz.strconv_FormatInt_10 n a b w ht).mono ?_;rintro e w' ⟨rfl,k,os,h⟩;rw[aej];exact⟨J,aof h⟩
def KZ(n:Int)(a:-9223372036854775808<=n)(b:n<=9223372036854775807)(w:Z)(ht:lZ w) :
  Calls bbx 64 #[zi n] w fun e w'=>e = ah (aT (gX n))/\Ext w w':=by
 refine(Tryz.strconv_Itoa n a b w ht).mono ?_;rintro e w' ⟨rfl,k,os,h⟩;rw[aej];exact⟨J,aof h⟩
def aoh(n:Int)(a:-9223372036854775808<=n)(b:n<=9223372036854775807):(gX n).length<=21:=by
 grind [aej,Lib.itoa_length_le]
def AQ(ρ:Nat->Nat)(seen:List Nat)(k:Nat):List (Nat×Y):=match seen with
 | []=>[]
 | i::r=>(ρ i,.int .i64 ((k+1:Nat)))::AQ ρ r (k+1)
def NmA(ρ:Nat->Nat)(w:Z)(wb:Nat)(nm:Y)(seen:List Nat):Prop:=
 (seen=[]/\nm = .map V)\/∃ r c es,nm = .map (O r)/\wb<r/\w.heap[r]?=O (.map es c)/\EX (AQ ρ seen 0) es.toList
structure ma(ρ:Nat->Nat)(n:Nat)(tr:Tr)(wb sb so T:Nat)(cs:Array Y)(nm:Y)(w:Z)(s:Ws):Prop where
 st:Eg ρ n tr w
 bu:tG w wb (pq sb so) nm s.out
 na:NmA ρ w wb nm s.seen
 fu:w.heap[sb]?=aO (kr cs so s.fuel) T
 X4:lZ w
 sn:∀ i∈s.seen,i<n
def G7(ρ:Nat->Nat)(n:Nat)(tr:Tr)(wb sb so T:Nat)(cs:Array Y)(w:Z)(s:Ws):Prop:=∃ nm,ma ρ n tr wb sb so T cs nm w s
structure ya(tr:Tr)(wb sb so T:Nat)(cs:Array Y):Prop where
 tok:nC tr
 sz:so+2<=cs.size
 ne:sb≠wb
 g1:4<wb
 g2:sb≠4
 T1:T≠5
 T2:T≠180/\T≠89/\T≠91
def MW(wb sb b:Nat)(o:Obj):Prop:=b=wb\/b=sb\/(wb<b/\((∃ cs z,o = ae cs 5 z)\/∃ es c,o = .map es c))
abbrev ng(wb sb:Nat)(w w':Z):Prop:=bB (MW wb sb) w w'
theorem jH.toW(h:jH wb w w')(sb:Nat):ng wb sb w w':=h.mono fun b o _ hm=>by
 rcases hm with h | ⟨h,a⟩
 .exact .inl h
 .exact .inr zg
section
variable{ρ:Nat->Nat}{n:Nat}{tr:Tr}{wb sb so T:Nat}{cs:Array Y}{nm:Y}{w w':Z}{s:Ws}
theorem ma.kv(h:ma ρ n tr wb sb so T cs nm w s)(hx:ya tr wb sb so T cs)(d:ng wb sb w w'):G5 w w':=fun b c t ht a=>by
 refine d.block b _ a ?_;obtain⟨e,buf,-,hw,-⟩:=h.bu;rintro (rfl | rfl | ⟨_,⟨_,_,h⟩| ⟨_,_,h⟩⟩)
 .grind
 .rw[h.fu] at a;cases a;rcases ht with ht | ht | ht
  .exact hx.T2.1 ht
  .exact hx.T2.2.1 ht
  .exact hx.T2.2.2 ht
 .grind
 grind
def ma.X6(h:ma ρ n tr wb sb so T cs nm w s)(hx:ya tr wb sb so T cs)(a:ng wb sb w w'):lZ w':=h.X4.bJ fun o b=>by
 refine a.block _ _ b ?_;have:=hx.g1;rintro (h | h | ⟨h,_⟩)
 .omega
 .exact hx.g2 h.symm
 omega
theorem ma.wr(h:ma ρ n tr wb sb so T cs nm w s)(hx:ya tr wb sb so T cs){x:Bs}(b:tG w' wb (pq sb so) nm (s.out++x))(a:jH wb w w'):ma ρ n tr wb sb so T cs nm w' (s.add x):=by
 refine⟨h.st.bJ (by grind [kv,jH.toW]),b,?_,?_,h.X6 hx (a.toW sb),h.sn⟩
 .rcases h.na with h | ⟨r,c,es,d,e,f,g⟩
  .exact .inl h
  .exact .inr ⟨r,c,es,d,e,a.block _ _ f (by
    rintro (h | ⟨_,_,_,h⟩)<;>grind),g⟩
 .refine a.block _ _ h.fu ?_;rintro (h | ⟨_,_,_,h⟩)
  .exact hx.ne h
  .injection h with _ h _;exact hx.T1 h
def G8(h:ma ρ n tr wb sb so T cs nm w s)(hx:ya tr wb sb so T cs)(x:Bs)(a:s.out.length+x.length<=1000000000) :
  Calls bbx 44 #[pp wb,aT x] w fun e w'=>(∃ v,e = ah v)/\ma ρ n tr wb sb so T cs nm w' (s.add x)/\ng wb sb w w':=by
 refine(aJg h.bu x a).mono ?_;grind [ma.wr,jH.toW]
def NM(h:ma ρ n tr wb sb so T cs nm w s)(hx:ya tr wb sb so T cs)(c:UInt8)(a:s.out.length+1<=1000000000){z:Int}(b:z=c.toNat) :
  Calls bbx 95 #[pp wb,.int .u8 z] w fun e w'=>(∃ v,e = ah v)/\ma ρ n tr wb sb so T cs nm w' (s.add [c])/\ng wb sb w w':=by
 subst b;refine(aJh h.bu c a).mono ?_;grind [ma.wr,jH.toW]
theorem ma.ext(h:ma ρ n tr wb sb so T cs nm w s)(a:Ext w w'):ma ρ n tr wb sb so T cs nm w' s:=by
 refine⟨h.st.bJ (G5.ed a),?_,?_,a.ext _ _ h.fu,h.X4.ext a,h.sn⟩
 .obtain⟨f,buf,b,d,e⟩:=h.bu;exact⟨f,buf,b,a.ext _ _ d,jL a.ext e⟩
 .rcases h.na with h | ⟨r,c,es,b,d,e,g⟩
  .exact .inl h
  .exact .inr ⟨r,c,es,b,d,a.ext _ _ e,g⟩
theorem tG.other{c:Array Y}(h:tG w wb S nm out)(j:sb≠wb)(k:w.heap[sb]?=aO c T)(l:T≠5)(o:Obj):tG (bQ w sb o) wb S nm out:=by
 obtain⟨b,buf,d,m,a⟩:=h;refine⟨b,buf,d,yH,a.1,?_⟩;rcases a.2 with a | ⟨g,cap,cur,e,f,n,i⟩
 .exact yH
 .refine .inr ⟨g,cap,cur,e,f,?_,i⟩;exact yH
def ma.fuel(h:ma ρ n tr wb sb so T cs nm w s)(hx:ya tr wb sb so T cs)(f:Nat):ma ρ n tr wb sb so T cs nm (bQ w sb (ae (kr cs so f) T (0,0))) { s with fuel:=f }:=by
 have b:ng wb sb w (bQ w sb (ae (kr cs so f) T (0,0))):=(bB.refl _ _).bQ (.inl fun _=>.inr (.inl J));refine⟨h.st.bJ (h.kv hx b),?_,?_,qz J (bg h.fu),h.X6 hx b,h.sn⟩
 .exact h.bu.other hx.ne h.fu hx.T1 _
 .rcases h.na with a | ⟨r,c,es,a,d,e,g⟩
  .exact .inl a
  .refine .inr ⟨r,c,es,a,d,?_,g⟩;rw[jb]
   .omega
   .rintro rfl;rw[h.fu] at e;grind
def BI(ρ:Nat->Nat)(n:Nat)(tr:Tr)(wb sb so T:Nat)(cs:Array Y)(w:Z)(B:Nat)(r:Option Ws)(e:Ending)(w':Z):Prop:=
 ng wb sb w w'/\match r with
 | some s'=>e = ah (ak #[])/\G7 ρ n tr wb sb so T cs w' s'
 | none=>e=NL/\w'.heap[sb]?=O (ae (kr cs so (-1)) T (0,0))/\∃ nm out,tG w' wb (aq (O ⟨sb,so,V⟩)) nm out/\out.length<=B
theorem aoj(ρ:Nat->Nat):∀ (l:List Nat) (k:Nat),(AQ ρ l k).length=l.length
 | [],_=>rfl
 | i::r,k=>by simp [AQ,aoj ρ r]
def aok:∀ {es:List MapEntry} {l:List (Nat×Y)},EX l es->es.length=l.length
 | [],l,h=>by have h:l=[]:=h;grind
 | e::r,l,h=>by
  obtain⟨b,v,l',rfl,c,d,a⟩:=h;simp [aok a]
theorem aol:∀ {es:List MapEntry} {l:List (Nat×Y)} {e:MapEntry} {b:Nat} {v:Y},EX l es->e.key=pp b->e.val=v->EX (l++[(b,v)]) (es++[e])
 | [],l,e,b,v,h,hk,hv=>by
  have h:l=[]:=h;subst h;exact⟨b,v,[],J,hk,hv,J⟩
 | e'::r,l,e,b,v,h,hk,hv=>by
  obtain⟨a,v',l',rfl,c,d,f⟩:=h;exact⟨a,v',l'++[(b,v)],J,c,d,aol f hk hv⟩
theorem aom(ρ:Nat->Nat)(i:Nat):∀ (l:List Nat) (k:Nat),AQ ρ (l++[i]) k=AQ ρ l k++[(ρ i,zi ((k+l.length+1:Nat)))]
 | [],k=>rfl
 | j::r,k=>by
  show(_,_)::AQ ρ (r++[i]) (k+1)=_;rw[aom ρ i r (k+1)];grind [AQ,List.length_cons]
def ael{ρ:Nat->Nat}:∀ {l:List Nat} {k:Nat} {b:Nat} {v:Y},(b,v)∈AQ ρ l k->∃ i∈l,b=ρ i
 | [],_,_,_,h=>by cases h
 | j::r,k,b,v,h=>by
  simp only[AQ,a1z,Prod.mk.injEq] at h;rcases h with⟨rfl,-⟩| h
  .grind
  .obtain⟨i,a,c⟩:=ael h;grind
def aem{ρ:Nat->Nat}{n i:Nat}(inj:∀ a b,a<n->b<n->ρ a=ρ b->a=b)(hi:i<n):∀ (l:List Nat) (k j:Nat),(∀ a∈l,a<n) ->
  Ie (ρ i) (AQ ρ l k) j=(l.idxOf? i).map fun m=>(j+m,zi ((k+m+1:Nat)))
 | [],_,_,_=>rfl
 | a::r,k,j,h=>by
  have g:=h a (a1A ..);unfold AQ Ie;rw[List.idxOf?_cons];by_cases e:a=i
  .grind
  .have c:¬ ρ i=ρ a:=zg;rw[bM c,aem inj hi r (k+1) (j+1) fun a d=>h a (a2k _ d)];have f:(a == i)=false:=zg;rw[f];cases r.idxOf? i with
   | none=>rfl
   | some m=>
    grind
end
def aJs{P:Program}{t T:TypeId}{k e:TypeId}(ht:Bh P t=O (k,e)){r:Nat}(a:w.heap[r]?=O (.map es c)) :
  RD P (Builtin.len_ #[t] T #[.map (O r)]) w K X=K (zi es.size):=by
 refine gQ ?_;simp [Builtin.len_,run_underlying (Gr ht),Gs a,goInt]
