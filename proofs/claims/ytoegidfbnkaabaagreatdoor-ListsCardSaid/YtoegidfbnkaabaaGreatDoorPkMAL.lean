/- A part of one proof (PureW, PureW2, PureE, PureG, PureQ, ShL1, SX7, SX8, SX9, ShQ1, PureX, PureO). -/
import Derived.Test.YtoegidfbnkaabaaGreatDoorPkMAK
import Derived.WalkKit
import Derived.LaidEql
import Derived.Stop.Asserts
import Derived.RowKitTokens
set_option linter.all false
set_option maxRecDepth 100000
set_option maxHeartbeats 8000000
open Option renaming some → O, none → V
open Go renaming Value → Y, World → Z
open Bool renaming true → G, false → ae
open Go.Obj renaming cells → ah
open Go.Ending renaming returned → ai
open Go.Value renaming nilIface → aj, iface → ak, tuple → aq, pointer → au
open Option.some renaming injEq → a3I
open List renaming length_cons → a3N, length_nil → a3V, mem_of_find?_eq_some → a4I, idxOf?_eq_some_iff → a6N
open Nat renaming le_refl → a3O
open Go.Sem renaming run_bind → a3X
open Go.World renaming cell?_alloc_lt → a4q, frozen?_alloc_old → a4P
open Go.Result renaming andThen → a4D
open Go renaming method → a9r
open Go.Proofs.Tryz renaming prog → bdJ
open Go.Proofs.Tryz
namespace Go.Proofs.YtoegidfbnkaabaaGreatDoor
variable{M k k' n nv:Nat}
namespace P
inductive Tm where
 | atom (s:Bs)
 | int (n:Int)
 | var (i:Nat)
 | comp (name:Bs) (args:List Tm)
deriving Inhabited
abbrev Tr:=List (Nat×Tm)
def look(i:Nat):Tr->Option Tm
 | []=>V
 | (j,t)::r=>if i=j then O t else look i r
def fI(tr:Tr):Nat->Tm->Option Tm
 | f,.var i=>match look i tr with
  | none=>O (.var i)
  | some t=>match f with
   | 0=>V
   | f+1=>fI tr f t
 | _,t=>O t
def tz:Nat->Nat->Bs
 | 0,_=>[]
 | f+1,n=>if n<10 then [UInt8.ofNat (48+n)] else tz f (n / 10)++[UInt8.ofNat (48+n % 10)]
def di(n:Nat):Bs:=tz (n+1) n
def jc(n:Int):Bs:=if n<0 then 45::di n.natAbs else di n.natAbs
structure Ws where
 fuel:Nat
 out:Bs
 seen:List Nat
def lz(name:Bs)(n:Nat):Nat:=
 if n≠2 then 0 else if name=[43]\/name=[45] then 1 else if name=[42]\/name=[47,47]\/name=[109,111,100] then 2 else 0
def Wb(x:Option (Option Ws))(k:Ws->Option (Option Ws)):Option (Option Ws):=
 match x with
 | none=>V
 | some V=>O V
 | some (O s)=>k s
def Ws.add(s:Ws)(x:Bs):Ws:={ s with out:=s.out++x }
def Yj(s:Ws)(i:Nat):Ws:=
 match s.seen.idxOf? i with
 | some k=>s.add (95::di (k+1))
 | none=>{ s with out:=s.out++95::di (s.seen.length+1),seen:=s.seen++[i] }
mutual
def lF (tr:Tr):Nat->Tm->Nat->Ws->Option (Option Ws)
 | 0,_,_,_=>V
 | f+1,t,least,s=>
  if s.fuel=0 then O V
  else match fI tr f t with
   | none=>V
   | some (.atom a)=>O (O ({ s with fuel:=s.fuel-1 }.add a))
   | some (.int n)=>O (O ({ s with fuel:=s.fuel-1 }.add (jc n)))
   | some (.var i)=>O (O (Yj { s with fuel:=s.fuel-1 } i))
   | some (.comp name args)=>zm tr f name args least { s with fuel:=s.fuel-1 }
 termination_by structural f=>f
def zm (tr:Tr):Nat->Bs->List Tm->Nat->Ws->Option (Option Ws)
 | 0,_,_,_,_=>V
 | f+1,name,args,least,s=>
  match args with
  | [a,b]=>
   if lz name 2≠0 then
    if lz name 2<least then
     Wb (lF tr f a (lz name 2) (s.add [40])) fun s=>Wb (lF tr f b (lz name 2+1) (s.add (if name=[109,111,100] then [32,109,111,100,32] else name))) fun s=>O (O (s.add [41]))
    else Wb (lF tr f a (lz name 2) s) fun s=>lF tr f b (lz name 2+1) (s.add (if name=[109,111,100] then [32,109,111,100,32] else name))
   else if name=[46] then vL tr f 91 a b s
   else Wb (tE tr f 40 [a,b] (s.add name)) fun s=>O (O (s.add [41]))
  | _=>Wb (tE tr f 40 args (s.add name)) fun s=>O (O (s.add [41]))
 termination_by structural f=>f
def tE (tr:Tr):Nat->UInt8->List Tm->Ws->Option (Option Ws)
 | 0,_,_,_=>V
 | _+1,_,[],s=>O (O s)
 | f+1,sep,a::r,s=>Wb (lF tr f a 0 (s.add [sep])) fun s=>tE tr f 44 r s
 termination_by structural f=>f
def vL (tr:Tr):Nat->UInt8->Tm->Tm->Ws->Option (Option Ws)
 | 0,_,_,_,_=>V
 | f+1,sep,a,b,s=>
  Wb (lF tr f a 0 (s.add [sep])) fun s=>
   match fI tr f b with
   | none=>V
   | some (.comp name args)=>match args with
    | [c,d]=>if name=[46] then vL tr f 44 c d s else Wb (lF tr f b 0 (s.add [124])) fun s=>O (O (s.add [93]))
    | _=>Wb (lF tr f b 0 (s.add [124])) fun s=>O (O (s.add [93]))
   | some (.atom x)=>if x=[91,93] then O (O (s.add [93])) else Wb (lF tr f b 0 (s.add [124])) fun s=>O (O (s.add [93]))
   | some _=>Wb (lF tr f b 0 (s.add [124])) fun s=>O (O (s.add [93]))
 termination_by structural f=>f
end
mutual
def made (vs:List Nat):Ex->Tm
 | .mk kind name n k args=>if kind=97 then .atom name else if kind=110 then .int n else if kind=118 then .var (vs.getD k 0) else .comp name (n9 vs args)
 termination_by structural x=>x
def n9 (vs:List Nat):List Ex->List Tm
 | []=>[]
 | x::xs=>made vs x::n9 vs xs
 termination_by structural x=>x
end
mutual
def eB:Tm->Prop
 | .atom s=>s.length<=20/\s≠[]
 | .int n=>-9223372036854775808<=n/\n<=9223372036854775807
 | .var _=>True
 | .comp name args=>name.length<=20/\args.length<=100000/\jF args
 termination_by structural t=>t
def jF:List Tm->Prop
 | []=>True
 | t::ts=>eB t/\jF ts
 termination_by structural t=>t
end
def nG:Tr->Prop
 | []=>True
 | (_,t)::r=>eB t/\nG r
def look_ok:∀ {tr:Tr} {i:Nat} {t:Tm},nG tr->look i tr=O t->eB t
 | [],_,_,_,h=>by cases h
 | (j,u)::r,i,t,h,a=>by
  unfold look at a;split at a
  .injection a with a;subst a;exact h.1
  .exact look_ok h.2 a
def xn{tr:Tr}(h:nG tr):∀ {f:Nat} {t a:Tm},eB t->fI tr f t=O a->eB a
 | f,.atom s,a,ht,hw=>by simp_all [fI]
 | f,.int s,a,ht,hw=>by simp_all [fI]
 | f,.comp s l,a,ht,hw=>by simp_all [fI]
 | 0,.var i,a,ht,hw=>by
  grind [fI]
 | f+1,.var i,a,ht,hw=>by
  simp only[fI] at hw;split at hw
  .grind
  .rename_i t b;exact xn h (look_ok h b) hw
def Hn(n:Nat):∀ k,n<10 ^ (k+1)->∀ f,n<f->(tz f n).length<=k+1:=by
 intro k;induction k generalizing n with
 | zero=>
  intro h f a;cases f with
  | zero=>omega
  | succ f=>simp_all [tz,zip]
 | succ k ih=>
  intro h f a;cases f with
  | zero=>omega
  | succ f=>
   grind [tz,List.length_append,Nat.pow_succ,a3N,a3V]
theorem aeu(h:n<10000000000000000000):(di n).length<=19:=Hn n 18 zo _ zo
theorem aII{n:Int}(a:-9223372036854775808<=n)(b:n<=9223372036854775807):(jc n).length<=20:=by
 grind [di,aeu,jc]
def Ws.cV(s:Ws):Nat:=s.out.length+60*s.fuel
structure Ws.Ok(s:Ws):Prop where
 big:s.cV<=900000000
 seen:s.seen.length<=s.out.length
theorem Ws.pK(s:Ws)(x:Bs):(s.add x).cV=s.cV+x.length:=by grind [Ws.cV,Ws.add]
def N6{x:Option (Option Ws)}{k:Ws->Option (Option Ws)}{r:Ws}(h:Wb x k=O (O r)):∃ s,x=O (O s)/\k s=O (O r):=by
 unfold Wb at h;grind
structure aIJ(tr:Tr)(f:Nat):Prop where
 tm:∀ t least s r,eB t->s.cV<=900000100->s.seen.length<=s.out.length->lF tr f t least s=O (O r)->r.cV+30<=s.cV/\r.seen.length<=r.out.length
 comp:∀ name args least s r,eB (.comp name args)->s.cV<=900000100-60->s.seen.length<=s.out.length->zm tr f name args least s=O (O r)->r.cV<=s.cV+21/\r.seen.length<=r.out.length
 args:∀ c l s r,jF l->s.cV<=900000100-30->s.seen.length<=s.out.length->tE tr f c l s=O (O r)->r.cV<=s.cV/\r.seen.length<=r.out.length
 list:∀ c a b s r,eB a->eB b->s.cV<=900000100-30->s.seen.length<=s.out.length->vL tr f c a b s=O (O r)->r.cV<=s.cV/\r.seen.length<=r.out.length
theorem N7{a b:Tm}(h:jF [a,b]):eB a/\eB b:=by
 simp_all [jF]
theorem pj{s:Ws}{x:Bs}(h:s.seen.length<=s.out.length):(s.add x).seen.length<=(s.add x).out.length:=by grind [Ws.add]
def K8{tr:Tr}(ht:nG tr):∀ f,aIJ tr f
 | 0=>⟨fun _ _ _ _ _ _ _ h=>by simp_all [lF],fun _ _ _ _ _ _ _ _ h=>by simp_all [zm],fun _ _ _ _ _ _ _ h=>by simp_all [tE],fun _ _ _ _ _ _ _ _ _ h=>by simp_all [vL]⟩
 | f+1=>by
  have ih:=K8 ht f;refine⟨?_,?_,?_,?_⟩
  .intro t least s r i m j h;rw[lF] at h;split at h
   .grind
   rename_i B;have C:({ s with fuel:=s.fuel-1 }:Ws).cV+60=s.cV:=by grind [Ws.cV]
   split at h
   .grind
   .rename_i a hw;have:=xn ht i hw;grind [a3I,eB,pj,Ws.pK]
   .rename_i a hw;have:=xn ht i hw;grind [a3I,eB,aII,pj,Ws.pK]
   .grind [a3I,Ws.cV,Yj,a6N,aeu,pj,Ws.pK,a3N,di,List.length_append,a3V]
   .rename_i name args hw;have g:=xn ht i hw;obtain⟨e,k⟩:=ih.comp name args least { s with fuel:=s.fuel-1 } r g zo j h;omega
  .intro name args least s r i m j h;rw[zm.eq_def] at h;dsimp only at h;unfold eB at i;obtain⟨D,q,n⟩:=i;have E:∀ l,jF l->Wb (tE tr f 40 l (s.add name)) (fun s=>O (O (s.add [41])))=O (O r)->r.cV<=s.cV+21/\r.seen.length<=r.out.length:=by
    intro l q h;obtain⟨s1,g,e⟩:=N6 h;obtain⟨k,u⟩:=ih.args 40 l _ s1 q (by grind [Ws.pK]) (pj j) g;grind [a3I,Ws.pK,pj]
   split at h
   .rename_i a b;obtain⟨o,p⟩:=N7 n;have F:(if name=[109,111,100] then([32,109,111,100,32]:Bs) else name).length<=20:=zg;split at h
    .split at h
     .obtain⟨s1,g,e⟩:=N6 h;obtain⟨s2,k,u⟩:=N6 e;obtain⟨g1,g2⟩:=ih.tm a _ _ s1 o (by grind [Ws.pK]) (pj j) g;rw[Ws.pK] at g1;simp only[a3N,a3V] at g1;obtain⟨g3,g4⟩:=ih.tm b _ _ s2 p (by grind [Ws.pK]) (pj g2) k;grind [Ws.pK,a3I,pj]
     .obtain⟨s1,g,e⟩:=N6 h;obtain⟨g1,g2⟩:=ih.tm a _ _ s1 o zo j g;obtain⟨g3,g4⟩:=ih.tm b _ _ r p (by grind [Ws.pK]) (pj g2) e;grind [Ws.pK]
    .split at h
     .obtain⟨g1,g2⟩:=ih.list 91 a b s r o p zo j h;omega
     grind
   grind
  .intro c l s r i m j h;cases l with
   | nil=>
    simp_all [tE,a3I,a3O]
   | cons a l=>
    rw[tE] at h;unfold jF at i;obtain⟨s1,g,e⟩:=N6 h;obtain⟨g1,g2⟩:=ih.tm a _ _ s1 i.1 (by grind [Ws.pK]) (pj j) g;rw[Ws.pK] at g1;simp only[a3N,a3V] at g1;obtain⟨g3,g4⟩:=ih.args 44 l s1 r i.2 zo g2 e;omega
  .intro c a b s r n w m j h;rw[vL] at h;obtain⟨s1,g,e⟩:=N6 h;obtain⟨g1,g2⟩:=ih.tm a _ _ s1 n (by grind [Ws.pK]) (pj j) g;rw[Ws.pK] at g1;simp only[a3N,a3V] at g1;have y:Wb (lF tr f b 0 (s1.add [124])) (fun s=>O (O (s.add [93])))=O (O r)->r.cV<=s.cV/\r.seen.length<=r.out.length:=by
    intro h;obtain⟨s2,k,u⟩:=N6 h;obtain⟨g3,g4⟩:=ih.tm b _ _ s2 w (by grind [Ws.pK]) (pj g2) k;grind [Ws.pK,a3N,a3V,a3I,pj]
   split at e
   .grind
   .rename_i name args hw;have x:=xn ht w hw;unfold eB at x;split at e
    .rename_i c d;obtain⟨z,A⟩:=N7 x.2.2;split at e
     .obtain⟨g3,g4⟩:=ih.list 44 c d s1 r z A zo g2 e;omega
     grind
    grind
   .grind [a3I,Ws.pK,pj]
   grind
def aIK{w:Bs}(h:mP w≠0):w.length<=9:=by
 unfold mP at h;grind
def aIL{s:Bs}(hm:s∈nL):s.length<=9:=by
 simp only[nL,List.mem_cons,List.not_mem_nil,or_false] at hm;rcases hm with rfl | rfl | rfl | rfl | rfl | rfl | rfl | rfl | rfl | rfl | rfl | rfl | rfl | rfl | rfl | rfl | rfl | rfl | rfl | rfl | rfl | rfl | rfl<;>decide
def N8:∀ (f:Nat) (r:Bs) (i:Nat) (T:List Tok),jw f r i=O (.inr T)->∀ u∈T,u.text.length<=9
 | 0,r,i,T,h=>by simp_all [jw]
 | f+1,[],i,T,h=>by
  rw[jw] at h;grind
 | f+1,c::r,i,T,h=>by
  have key:∀ (x:Option (Sum Nat (List Tok))) (t:Tok),(∀ l,x=O (.inr l)->∀ u∈l,u.text.length<=9)->t.text.length<=9 ->
    (match x with | some (.inr l)=>O (.inr (t::l)) | y=>y)=O (.inr T)->∀ u∈T,u.text.length<=9:=by
   grind
  rw[jw] at h;split at h
  .exact N8 f r (i+1) T h
  split at h
  .dsimp only at h;split at h
   .grind
   .rename_i d hw;exact key _ _ (fun l a=>N8 f _ _ l a) (aIK hw) h
  split at h
  .exact key _ _ (fun l a=>N8 f _ _ l a) zs h
  split at h
  .grind
  .rename_i s b;exact key _ _ (fun l a=>N8 f _ _ l a) (aIL (a4I b)) h
mutual
def iG:Ex->Nat
 | .mk _ _ _ _ args=>fJ args+1
 termination_by structural x=>x
def fJ:List Ex->Nat
 | []=>0
 | x::xs=>iG x+fJ xs
 termination_by structural x=>x
end
def aev:∀ (a b:List Ex),fJ (a++b)=fJ a+fJ b
 | [],b=>by simp [fJ]
 | x::a,b=>by simp [fJ,aev a b];omega
mutual
def ij (nv:Nat):Ex->Prop
 | .mk kind name n k args=>name.length<=9/\(-999999999<=n/\n<=999999999)/\(kind=97\/kind=110\/kind=118\/kind=99)/\(kind=118->k<nv)/\(args.length<=4/\(kind=99->args≠[]))/\(kind=97->name≠[])/\(kind≠99->args=[])/\fj nv args
 termination_by structural x=>x
def fj (nv:Nat):List Ex->Prop
 | []=>True
 | x::xs=>ij nv x/\fj nv xs
 termination_by structural x=>x
end
mutual
theorem ij.mono {n m:Nat} (h:n<=m):∀ (x:Ex),ij n x->ij m x
 | .mk kind name k v args,hx=>by
  unfold ij at hx ⊢;obtain⟨a,b,c,d,f,g,i,j⟩:=hx;exact⟨a,b,c,fun e=>Nat.lt_of_lt_of_le (d e) h,f,g,i,fj.mono h args j⟩
 termination_by structural x=>x
theorem fj.mono {n m:Nat} (h:n<=m):∀ (l:List Ex),fj n l->fj m l
 | [],hx=>by simp_all [fj]
 | x::xs,hx=>by
  unfold fj at hx ⊢;exact⟨ij.mono h x hx.1,fj.mono h xs hx.2⟩
 termination_by structural x=>x
end
def fj.append{n:Nat}:∀ {a b:List Ex},fj n a->fj n b->fj n (a++b)
 | [],b,_,c=>c
 | x::a,b,d,c=>by
  show fj n (x::(a++b));unfold fj at d ⊢;exact⟨d.1,fj.append d.2 c⟩
def fj.snoc{a:List Ex}{x:Ex}(b:fj n a)(hx:ij n x):fj n (a++[x]):=b.append (by simp_all [fj])
theorem fj.nil:fj n []:=by simp_all [fj]
theorem fj.at{n:Nat}:∀ {l:List Ex} {j:Nat},fj n l->(a:j<l.length)->ij n l[j]
 | x::xs,0,h,_=>by simp_all [fj]
 | x::xs,j+1,h,a=>by unfold fj at h;exact fj.at h.2 zg
theorem ij.two{name:Bs}{a b:Ex}(c:name.length<=9)(d:ij nv a)(e:ij nv b):ij nv (.mk 99 name 0 0 [a,b]):=by
 simp_all [ij,fj,fj.nil]
theorem anG{name:Bs}{a b:Ex}:iG (.mk k name 0 0 [a,b])=iG a+iG b+1:=by simp [iG,fJ]
def aIM{l:Nat}{T:List Tok}{o:Bs}(h:P0 T l k=O o):o.length<=9:=by
 have hm:=a4I h;grind [ops]
structure C7(T:List Tok):Prop where
 len:∀ u∈T,u.text.length<=9
 word:∀ u∈T,u.kind=1->u.text≠[]
 digits:∀ u∈T,u.kind=3->u.text.all digit=G
def Yk{T:List Tok}(h:(tk T k).kind≠0):tk T k∈T:=by
 grind [Nat.lt_or_ge,absurd,tk,List.getElem?_eq_none,List.getElem?_eq_getElem,List.getElem_mem]
def aIN{t:Tok}{v v':List Bs}{x:Ex}(h:Aq t k v = .ok x k' v'):ij v'.length x/\v.length<=v'.length/\k'=k/\iG x=1:=by
 unfold Aq at h;split at h
 .rename_i j e;injection h with a b c;subst a b c;have d:j<v.length:=by
   grind [a6N]
  refine⟨?_,a3O _,J,by simp [iG,fJ]⟩;unfold ij;exact⟨zs,zo,zs,fun _=>d,zs,zs,zs,fj.nil⟩
 .split at h
  .grind
  .injection h with a b c;subst a b c;refine⟨?_,zs,J,by simp [iG,fJ]⟩;unfold ij;exact⟨zs,zo,zs,fun _=>zs,zs,zs,zs,fj.nil⟩
theorem aew{nv:Nat}{x:Ex}(hx:ij nv x):∀ {all:List Ex},fj nv all->ij nv (Ar all x)/\iG (Ar all x)=fJ all+all.length+iG x
 | [],_=>⟨hx,by simp [Ar,fJ]⟩
 | a::l,h=>by
  unfold fj at h;obtain⟨b,c⟩:=aew hx h.2;grind [ij.two,iG,Ar,anG,fJ]
theorem anH:ij nv (.mk 97 [91,93] 0 0 []):=by
 simp_all [ij,fj.nil]
structure EOk(T:List Tok)(f:Nat):Prop where
 CF:∀ k v d x k' v',oU T f k v d=O (.ok x k' v')->ij v'.length x/\v.length<=v'.length/\k+iG x<=k'
 args:∀ k v d a acc x k' v',fj v.length acc->oV T f k v d a acc=O (.ok x k' v')->fj v'.length x/\v.length<=v'.length/\k+fJ x<=k'+fJ acc/\x.length<=4/\x≠[]
 list:∀ k v d x k' v',qD T f k v d=O (.ok x k' v')->ij v'.length x/\v.length<=v'.length/\k+iG x<=k'+1
 elems:∀ k v d acc x k' v',fj v.length acc->rj T f k v d acc=O (.ok x k' v')->fj v'.length x/\v.length<=v'.length/\k+fJ x+x.length<=k'+fJ acc+acc.length+1
 oper:∀ l k v d x k' v',jf T f l k v d=O (.ok x k' v')->ij v'.length x/\v.length<=v'.length/\k+iG x<=k'
 more:∀ l y k v d x k' v',ij v.length y->pE T f l y k v d=O (.ok x k' v')->ij v'.length x/\v.length<=v'.length/\k+iG x<=k'+iG y
def QF{T:List Tok}(g:C7 T):∀ f,EOk T f
 | 0=>⟨by simp_all [oU],by simp_all [oV],by simp_all [qD],by simp_all [rj],by simp_all [jf],by simp_all [pE]⟩
 | f+1=>by
  have ih:=QF g f;refine⟨?_,?_,?_,?_,?_,?_⟩
  .intro k v d x k' v' h;rw[oU] at h;split at h
   .grind
   split at h
   .rename_i hk;simp only[a3I,cr.ok.injEq] at h;obtain⟨rfl,rfl,rfl⟩:=h;have hm:=Yk (T:=T) (k:=k) zo;obtain⟨a,b⟩:=abp (g.digits _ hm hk) (g.len _ hm);refine⟨?_,a3O _,by simp [iG,fJ]⟩;grind [ij,fj.nil]
   split at h
   .simp only[a3I] at h;obtain⟨e,c,rfl,n⟩:=aIN h;grind
   split at h
   .rename_i hk;have hm:=Yk (T:=T) (k:=k) zo;split at h
    .obtain⟨a,i,v1,e,c⟩:=eo h;obtain⟨g1,g2,g3,g4⟩:=ih.args _ _ _ _ _ _ _ _ fj.nil e;obtain⟨rfl,rfl,rfl⟩:=oC c;refine⟨?_,g2,by grind [iG,fJ]⟩;unfold ij;exact⟨g.len _ hm,zo,zs,zs,⟨g4.1,fun _=>g4.2⟩,zs,zs,g1⟩
    .simp only[a3I,cr.ok.injEq] at h;obtain⟨rfl,rfl,rfl⟩:=h;refine⟨?_,a3O _,by simp [iG,fJ]⟩;unfold ij;exact⟨g.len _ hm,zo,zs,zs,zs,fun _=>g.word _ hm hk,zs,fj.nil⟩
   split at h
   .split at h
    .rename_i hk;simp only[a3I,cr.ok.injEq] at h;obtain⟨rfl,rfl,rfl⟩:=h;have hm:=Yk (T:=T) (k:=k+1) zo;obtain⟨a,b⟩:=abp (g.digits _ hm hk) (g.len _ hm);refine⟨?_,a3O _,by simp [iG,fJ]⟩;grind [ij,fj.nil]
    grind
   split at h
   .obtain⟨a,i,v1,e,c⟩:=eo h;obtain⟨g1,g2,g3⟩:=ih.oper _ _ _ _ _ _ _ e;obtain⟨rfl,rfl,rfl⟩:=oC c;grind
   split at h
   .obtain⟨g1,g2,g3⟩:=ih.list _ _ _ _ _ _ h;grind
   grind
  .intro k v d a acc x k' v' j h;rw[oV] at h;obtain⟨y,i,v1,e,c⟩:=eo h;obtain⟨g1,g2,g3⟩:=ih.oper _ _ _ _ _ _ _ e;have m:=(fj.mono g2 _ j).snoc g1;have p:fJ (acc++[y])=fJ acc+iG y:=by simp_all [aev,fJ]
   split at c
   .obtain⟨q1,q2,q3,q4⟩:=ih.args _ _ _ _ _ _ _ _ m c;grind
   .split at c
    .grind
    .rename_i q;simp only[a3I,cr.ok.injEq] at c;obtain⟨rfl,rfl,rfl⟩:=c;grind [SZ]
  .intro k v d x k' v' h;rw[qD] at h;split at h
   .simp only[a3I,cr.ok.injEq] at h;obtain⟨rfl,rfl,rfl⟩:=h;simp_all [anH,a3O,iG,fJ]
   .obtain⟨all,i,v1,e,c⟩:=eo h;obtain⟨g1,g2,g3⟩:=ih.elems _ _ _ _ _ _ _ fj.nil e;simp [fJ] at g3;split at c
    .obtain⟨y,u,v2,r,n⟩:=eo c;obtain⟨q1,q2,q3⟩:=ih.oper _ _ _ _ _ _ _ r;obtain⟨rfl,rfl,rfl⟩:=oC n;grind [aew,fj.mono]
    .obtain⟨rfl,rfl,rfl⟩:=oC c;grind [aew,anH,iG,fJ]
  .intro k v d acc x k' v' j h;rw[rj] at h;obtain⟨y,i,v1,e,c⟩:=eo h;obtain⟨g1,g2,g3⟩:=ih.oper _ _ _ _ _ _ _ e;have m:=(fj.mono g2 _ j).snoc g1;have p:fJ (acc++[y])=fJ acc+iG y:=by simp_all [aev,fJ]
   have q:(acc++[y]).length=acc.length+1:=zs;split at c
   .obtain⟨q1,q2,q3⟩:=ih.elems _ _ _ _ _ _ _ m c;grind
   grind
  .intro l k v d x k' v' h;rw[jf] at h;split at h
   .exact ih.CF _ _ _ _ _ _ h
   .obtain⟨y,i,v1,e,c⟩:=eo h;obtain⟨g1,g2,g3⟩:=ih.oper _ _ _ _ _ _ _ e;obtain⟨q1,q2,q3⟩:=ih.more _ _ _ _ _ _ _ _ g1 c;grind
  .intro l y k v d x k' v' s h;rw[pE] at h;split at h
   .grind
   .rename_i o t;obtain⟨z,i,v1,e,c⟩:=eo h;obtain⟨g1,g2,g3⟩:=ih.oper _ _ _ _ _ _ _ e;obtain⟨q1,q2,q3⟩:=ih.more _ _ _ _ _ _ _ _ (ij.two (aIM t) (ij.mono g2 _ s) g1) c;grind [anG]
mutual
theorem aex {nv:Nat} (vs:List Nat):∀ (x:Ex),ij nv x->eB (made vs x)
 | .mk kind name n k args,h=>by
  unfold ij at h;obtain⟨a,b,d,e,f,g,i,c⟩:=h;unfold made;split
  .grind [eB]
  .split
   .grind [eB]
   .split
    .simp_all [eB]
    .unfold eB;have:=K9 vs args c;grind
 termination_by structural x=>x
theorem K9 {nv:Nat} (vs:List Nat):∀ (l:List Ex),fj nv l->jF (n9 vs l)/\(n9 vs l).length=l.length
 | [],_=>by unfold n9 jF;exact⟨trivial,J⟩
 | x::xs,h=>by
  unfold fj at h;have a:=aex vs x h.1;have b:=K9 vs xs h.2;simp_all [n9,jF]
 termination_by structural x=>x
end
structure LeT(T:List Tok)(f:Nat):Prop where
 CF:∀ k v d x k' v',oU T f k v d=O (.ok x k' v')->k'<=T.length
 args:∀ k v d a acc x k' v',oV T f k v d a acc=O (.ok x k' v')->k'<=T.length
 list:∀ k v d x k' v',qD T f k v d=O (.ok x k' v')->k'<=T.length
 elems:∀ k v d acc x k' v',rj T f k v d acc=O (.ok x k' v')->k'<=T.length
 oper:∀ l k v d x k' v',jf T f l k v d=O (.ok x k' v')->k'<=T.length
 more:∀ l y k v d x k' v',k<=T.length->pE T f l y k v d=O (.ok x k' v')->k'<=T.length
def Un{α:Type}{T:List Tok}{s:Bs}{x y:α}{v v':List Bs}(h:mW T s x k v=O (.ok y k' v')):k'<=T.length:=by
 unfold mW at h;split at h
 .rename_i hi;have:=yg hi;grind
 grind
def Yl(T:List Tok):∀ f,LeT T f
 | 0=>⟨by simp_all [oU],by simp_all [oV],by simp_all [qD],by simp_all [rj],by simp_all [jf],by simp_all [pE]⟩
 | f+1=>by
  have ih:=Yl T f;refine⟨?_,?_,?_,?_,?_,?_⟩
  .intro k v d x k' v' h;rw[oU] at h;split at h
   .grind
   split at h
   .rename_i hk;have:=N1 (T:=T) (k:=k) zo;grind
   split at h
   .rename_i hk;have:=N1 (T:=T) (k:=k) zo;grind [a3I,alP]
   split at h
   .rename_i hk;have:=N1 (T:=T) (k:=k) zo;split at h
    .obtain⟨a,e,v1,c,b⟩:=eo h;exact Un b
    grind
   split at h
   .split at h
    .rename_i hk;have:=N1 (T:=T) (k:=k+1) zo;grind
    grind
   split at h
   .obtain⟨a,e,v1,c,b⟩:=eo h;exact Un b
   split at h
   .exact ih.list _ _ _ _ _ _ h
   grind
  .intro k v d a acc x k' v' h;rw[oV] at h;obtain⟨y,e,v1,c,b⟩:=eo h;split at b
   .exact ih.args _ _ _ _ _ _ _ _ b
   .split at b
    .grind
    .simp only[a3I,cr.ok.injEq] at b;have:=ih.oper _ _ _ _ _ _ _ c;omega
  .intro k v d x k' v' h;rw[qD] at h;split at h
   .rename_i hi;have:=yg hi;grind
   .obtain⟨all,e,v1,c,b⟩:=eo h;split at b
    .obtain⟨y,i,v2,j,g⟩:=eo b;exact Un g
    .exact Un b
  .intro k v d acc x k' v' h;rw[rj] at h;obtain⟨y,e,v1,c,b⟩:=eo h;split at b
   .exact ih.elems _ _ _ _ _ _ _ b
   .simp only[a3I,cr.ok.injEq] at b;have:=ih.oper _ _ _ _ _ _ _ c;omega
  .intro l k v d x k' v' h;rw[jf] at h;split at h
   .exact ih.CF _ _ _ _ _ _ h
   .obtain⟨y,e,v1,c,b⟩:=eo h;exact ih.more _ _ _ _ _ _ _ _ (ih.oper _ _ _ _ _ _ _ c) b
  .intro l y k v d x k' v' hk h;rw[pE] at h;split at h
   .grind
   .obtain⟨z,e,v1,c,b⟩:=eo h;exact ih.more _ _ _ _ _ _ _ _ (ih.oper _ _ _ _ _ _ _ c) b
mutual
def eZ (nv M:Nat):Bd->Prop
 | .mk kind name args parts=>name.length<=9/\(kind=33\/kind=44\/kind=59\/kind=63\/kind=126\/kind=103)/\((kind=59->parts.length=2)/\(kind=63->parts.length=3)/\(kind=126->parts.length=1)) /\
  args.length<=4/\fj nv args/\fJ args<=M/\parts.length<=M/\fa nv M parts
 termination_by structural x=>x
def fa (nv M:Nat):List Bd->Prop
 | []=>True
 | x::xs=>eZ nv M x/\fa nv M xs
 termination_by structural x=>x
end
mutual
theorem eZ.mono {n m M:Nat} (h:n<=m):∀ (x:Bd),eZ n M x->eZ m M x
 | .mk kind name args parts,hx=>by
  unfold eZ at hx ⊢;obtain⟨a,b,c,d,e,f,g,i⟩:=hx;exact⟨a,b,c,d,fj.mono h args e,f,g,fa.mono h parts i⟩
 termination_by structural x=>x
theorem fa.mono {n m M:Nat} (h:n<=m):∀ (l:List Bd),fa n M l->fa m M l
 | [],hx=>by simp_all [fa]
 | x::xs,hx=>by
  unfold fa at hx ⊢;exact⟨eZ.mono h x hx.1,fa.mono h xs hx.2⟩
 termination_by structural x=>x
end
theorem fa.nil:fa n M []:=by simp_all [fa]
def fa.snoc{n M:Nat}{x:Bd}(hx:eZ n M x):∀ {a:List Bd},fa n M a->fa n M (a++[x])
 | [],_=>by simp_all [fa,fa.nil]
 | y::a,h=>by
  show fa n M (y::(a++[x]));unfold fa at h ⊢;exact⟨h.1,fa.snoc hx h.2⟩
theorem fa.at{n M:Nat}:∀ {l:List Bd} {j:Nat},fa n M l->(a:j<l.length)->eZ n M l[j]
 | x::xs,0,h,_=>by simp_all [fa]
 | x::xs,j+1,h,a=>by unfold fa at h;exact fa.at h.2 zg
theorem aey:eZ n M As:=by simp_all [As,eZ,fj.nil,fJ,fa.nil]
def aIQ:eZ n M P1:=by simp_all [P1,eZ,fj.nil,fJ,fa.nil]
def fa.one{a:Bd}(h:eZ n M a):fa n M [a]:=by simp_all [fa,fa.nil]
def fa.cons{a:Bd}{l:List Bd}(h:eZ n M a)(b:fa n M l):fa n M (a::l):=by simp_all [fa]
def anI:∀ (x:Ex),1<=iG x
 | .mk ..=>by simp [iG]
def aIR{T:List Tok}{c:Bs}(h:M8 T k=O c):c.length<=9/\k<T.length:=by
 unfold M8 at h;have hm:=a4I h;refine⟨?_,yg (List.find?_some h)⟩;simp only[M7,List.mem_cons,List.not_mem_nil,or_false] at hm;grind
structure BOk(T:List Tok)(f:Nat):Prop where
 lit:∀ k v d x k' v',nU T f k v d=O (.ok x k' v')->eZ v'.length T.length x/\v.length<=v'.length/\k+1<=k'/\k'<=T.length
 lits:∀ k v d acc x k' v',fa v.length T.length acc->qE T f k v d acc=O (.ok x k' v')->fa v'.length T.length x/\v.length<=v'.length/\k+x.length<=k'+acc.length/\k'<=T.length/\k+1<=k'
 row:∀ k v d x k' v',ow T f k v d=O (.ok x k' v')->eZ v'.length T.length x/\v.length<=v'.length/\k+1<=k'/\k'<=T.length
 rest:∀ k v d x k' v',qF T f k v d=O (.ok x k' v')->eZ v'.length T.length x/\v.length<=v'.length/\k+1<=k'/\k'<=T.length
 body:∀ k v d x k' v',mX T f k v d=O (.ok x k' v')->eZ v'.length T.length x/\v.length<=v'.length/\k+1<=k'/\k'<=T.length
theorem aIT{a b:Bd}(e:3<=M)(c:eZ nv M a)(d:eZ nv M b):eZ nv M (.mk 59 [] [] [a,b]):=by
 unfold eZ;exact⟨zs,zs,zs,zs,fj.nil,by simp [fJ],zg,.cons c (.one d)⟩
theorem anJ{a b c:Bd}(g:3<=M)(d:eZ nv M a)(e:eZ nv M b)(f:eZ nv M c):eZ nv M (.mk 63 [] [] [a,b,c]):=by
 unfold eZ;exact⟨zs,zs,zs,zs,fj.nil,by simp [fJ],zo,.cons d (.cons e (.one f))⟩
def Ym{T:List Tok}(o:C7 T):∀ f,BOk T f
 | 0=>⟨by simp_all [nU],by simp_all [qE],by simp_all [ow],by simp_all [qF],by simp_all [mX]⟩
 | f+1=>by
  have ih:=Ym o f;refine⟨?_,?_,?_,?_,?_⟩
  .intro k v d x k' v' h;rw[nU] at h;split at h
   .grind
   split at h
   .rename_i hi;have hlt:=yg hi;simp only[a3I,cr.ok.injEq] at h;obtain⟨rfl,rfl,rfl⟩:=h;refine⟨?_,a3O _,zo,zo⟩;simp_all [eZ,fj.nil,fJ,fa.nil]
   split at h
   .obtain⟨b,m,v1,g,e⟩:=eo h;obtain⟨g1,g2,g3,g4⟩:=ih.lit _ _ _ _ _ _ g;simp only[a3I,cr.ok.injEq] at e;obtain⟨rfl,rfl,rfl⟩:=e;refine⟨?_,g2,zo,g4⟩;unfold eZ;exact⟨zs,zs,zs,zs,fj.nil,by simp [fJ],zg,.one g1⟩
   split at h
   .obtain⟨b,m,v1,g,e⟩:=eo h;obtain⟨g1,g2,g3,g4⟩:=ih.body _ _ _ _ _ _ g;have hm:=Un e;obtain⟨rfl,rfl,rfl⟩:=oC e;grind
   .obtain⟨y,m,v1,g,e⟩:=eo h;obtain⟨g1,g2,g3⟩:=(QF o f).oper _ _ _ _ _ _ _ g;have A:=anI y;have r:=(Yl T f).oper _ _ _ _ _ _ _ g;split at e
    .rename_i c s;obtain⟨B,c2⟩:=aIR s;obtain⟨z,p,v2,j,i⟩:=eo e;obtain⟨q1,q2,q3⟩:=(QF o f).oper _ _ _ _ _ _ _ j;have C:=(Yl T f).oper _ _ _ _ _ _ _ j;simp only[a3I,cr.ok.injEq] at i;obtain⟨rfl,rfl,rfl⟩:=i;grind [eZ,fJ,fa.nil,fj,ij.mono,fj.nil]
    .split at e
     .grind
     .split at e
      .grind
      .simp only[a3I,cr.ok.injEq] at e;obtain⟨rfl,rfl,rfl⟩:=e;refine⟨?_,g2,zo,r⟩;obtain⟨kind,name,n,D,args⟩:=y;unfold ij at g1;unfold eZ;simp only[iG] at g3;exact⟨g1.1,zs,zs,g1.2.2.2.2.1.1,g1.2.2.2.2.2.2.2,by grind [Ex.args],zs,fa.nil⟩
  .intro k v d acc x k' v' t h;rw[qE] at h;obtain⟨y,m,v1,g,e⟩:=eo h;obtain⟨g1,g2,g3,g4⟩:=ih.lit _ _ _ _ _ _ g;have u:=fa.snoc g1 (fa.mono g2 _ t);split at e
   .obtain⟨q1,q2,q3,q4,E⟩:=ih.lits _ _ _ _ _ _ _ u e;grind
   grind
  .intro k v d x k' v' h;rw[ow] at h;obtain⟨l,m,v1,g,e⟩:=eo h;obtain⟨g1,g2,g3,g4,g5⟩:=ih.lits _ _ _ _ _ _ _ fa.nil g;simp only[a3I,cr.ok.injEq] at e;obtain⟨rfl,rfl,rfl⟩:=e;grind [a3V,fa,eZ,fj.nil,fJ]
  .intro k v d x k' v' h;rw[qF] at h;split at h
   .grind
   .exact ih.body _ _ _ _ _ _ h
  .intro k v d x k' v' h;rw[mX] at h;obtain⟨a,m,v1,g,e⟩:=eo h;obtain⟨g1,g2,g3,g4⟩:=ih.row _ _ _ _ _ _ g;split at e
   .obtain⟨b,p,v2,j,i⟩:=eo e;obtain⟨q1,q2,q3,q4⟩:=ih.row _ _ _ _ _ _ j;split at i
    .obtain⟨c,F,v3,w,q⟩:=eo i;obtain⟨m1,m2,m3,m4⟩:=ih.rest _ _ _ _ _ _ w;simp only[a3I,cr.ok.injEq] at q;obtain⟨rfl,rfl,rfl⟩:=q;grind [anJ,eZ.mono]
    .simp only[a3I,cr.ok.injEq] at i;obtain⟨rfl,rfl,rfl⟩:=i;grind [anJ,eZ.mono,aey]
   .split at e
    .obtain⟨b,p,v2,j,i⟩:=eo e;obtain⟨q1,q2,q3,q4⟩:=ih.rest _ _ _ _ _ _ j;simp only[a3I,cr.ok.injEq] at i;obtain⟨rfl,rfl,rfl⟩:=i;grind [aIT,eZ.mono]
    grind
def qg(T:List Tok):cr Bd:=
 match mX T (yh T) 0 [] 0 with
 | some (.ok b k vs)=>match mW T [46] b k vs with
  | some (.ok b k vs)=>if (tk T k).kind=0 then .ok b k vs else .err 2 (tk T k).pos
  | some (.err e a)=>.err e a
  | none=>.err 0 0
 | some (.err e a)=>.err e a
 | none=>.err 0 0
end P
open Go.Proofs.YtoegidfbnkaabaaGreatDoor.Sx
section
variable{p0 p1 p2 p3 p4 p5 p6 p7:Y}{w:Z}{R:Ending->Z->Prop}
def aIU:=cz w R [p0] (gc [] [] []) func12
def aIV:=cz w R [p0] (gc [] [] [12]) func22
end
open Go.RowKit Sx
def aIW(s:P.Bs)(w:Z)(g:s.length<=100000)(h:Yf w):Calls bdJ 28 #[aW s] w (Yg w s):=by
 refine ayr ?_;refine(aIC s w g h).mono ?_;rintro e w1 ⟨f,d⟩;cases hr:P.program s with
 | err c a=>
  rw[hr] at d;obtain⟨b,rfl,i⟩:=d;refine bG ?_;refine⟨f,?_⟩;exact yH
 | ok cs k vs=>
  rw[hr] at d;obtain⟨v,vs,rfl,i,j⟩:=d;refine bG ?_;refine⟨f,?_⟩;exact yH
def aIX(w:Z)(s:P.Bs)(e:Ending)(w':Z):Prop:=
 Ext w w'/\match P.program s with
 | .err c a=>∃ b,e = ai (aq #[au V,ak 73 (au (O ⟨b,0,V⟩))])/\w'.heap[b]?=O (ah #[.int .i64 c,.int .i64 a] 77 (0,0))
 | .ok cs _ _=>∃ b v vs,e = ai (aq #[au (O ⟨b,0,V⟩),aj])/\w'.heap[b]?=O (ah #[v] 72 (0,0))/\Nu w w' b /\
  fO (Nu w w') w' 79 v vs/\ky (Nu w w') w' vs cs
def aIY(s:P.Bs)(w:Z)(h:s.length<=100000)(i:Yf w):Calls bdJ 22 #[aW s] w (aIX w s):=by
 refine aIV ?_;refine(aIW s w h i).mono ?_;rintro e w1 ⟨g,d⟩;have s1:=g.size;cases hr:P.program s with
 | err c a=>
  rw[hr] at d;obtain⟨b,rfl,f⟩:=d;refine bG ?_;refine⟨g,?_⟩;exact yH
 | ok cs k vs=>
  rw[hr] at d;obtain⟨v,vs,rfl,f,j⟩:=d;obtain⟨l,sn,m,rfl⟩:∃ a n c,v = .slice a n c:=by rcases f with⟨-,rfl⟩| ⟨b,cs',rfl,-⟩<;>exact zg
  refine bG ?_;refine⟨yF,?_⟩;rw[hr];refine⟨_,_,vs,J,yH,yH,f.mono (by grind [World.size_alloc]) yH,j.mono (by grind [World.size_alloc]) fun b cs t _ _ o=>yH⟩
open Go.Extern.Stop Go.Stop Go.Extern
def anK(t:Addr)(w:Z):(ReflectliteValue.unpack (ak 75 (au (O t)))).run bdJ w
 = .ok (.agg #[pq 12 75,pp w.heap.size,.int .u64 150]) (w.alloc (ah #[au (O t)] 75)):=zk
def anL(a:Addr)(w:Z):(ReflectliteValue.methodAny (ReflectliteValue.valueError "reflectlite.Value.Type" 0) (fun t _ _ _=>ReflectliteType.toType t) #[.agg #[pq 12 75,au (O a),.int .u64 150]]).run bdJ w
 = .ok (ak 219 (.agg #[pq 12 75])) w:=zk
def aez(h:Y)(w:Z):(a9r 476 219 (.agg #[h]) "Kind").run bdJ w = .ok (196,h) w:=zk
def anM(w:Z):((ReflectliteType.abiMethod fun t=>Functor.map (fun a:Nat=>Value.int IntKind.u8 (a:Int)) (Rtype.kind t)) #[pq 12 75]).run bdJ w = .ok (.int .u8 22) w:=zk
def anN(w:Z):((ReflectliteType.abiMethod fun t=>Functor.map (fun a:Nat=>Value.int IntKind.u8 (a:Int)) (Rtype.kind t)) #[pq 12 73]).run bdJ w = .ok (.int .u8 22) w:=zk
def Yn(z:Sem Y)(f:TypeId->Addr->Nat->Nat->Sem Y)(v:Y) :
 ReflectliteValue.method z f #[v]=(do match <- ReflectliteValue.parts v with | none=>z | some (t,a,fl)=>f t a fl (fl % 32)):=rfl
def anO(a:Addr)(w:Z):(ReflectliteValue.parts (.agg #[pq 12 75,au (O a),.int .u64 150])).run bdJ w = .ok (O (75,a,150)) w:=zk
def anP(a p:Addr)(W:Z)(b:W.cell? a=O (au (O p))) :
  (ReflectliteValue.method (ReflectliteValue.valueError "reflectlite.Value.IsNil" 0) ReflectliteValue.isNil #[.agg #[pq 12 75,au (O a),.int .u64 150]]).run bdJ W = .ok (.bool ae) W:=by
 rw[Yn];simp only[a3X,anO,a4D];simp [ReflectliteValue.isNil,loadVar,isAgg,underlying,underlying75,b,a4D]
def aeA(h:Y)(w:Z):(a9r 476 219 (.agg #[h]) "Elem").run bdJ w = .ok (238,.agg #[h]) w:=zk
def aeB(h:Y)(w:Z):(a9r 476 219 (.agg #[h]) "Implements").run bdJ w = .ok (239,.agg #[h]) w:=zk
def aeC(h:Y)(w:Z):(a9r 476 219 (.agg #[h]) "AssignableTo").run bdJ w = .ok (236,.agg #[h]) w:=zk
def anQ(w:Z):(ReflectliteType.method ReflectliteType.elem #[.agg #[pq 12 75]]).run bdJ w = .ok (ak 219 (.agg #[pq 12 73])) w:=zk
def anR(w:Z):(ReflectliteType.relation "Implements" ReflectliteType.implements_ #[.agg #[pq 12 73],ak 219 (.agg #[pq 12 57])]).run bdJ w = .ok (.bool G) w:=zk
def aIZ(v:Y)(w:Z):(ReflectliteType.typeOf #[ak 73 v]).run bdJ w = .ok (ak 219 (.agg #[pq 12 73])) w:=zk
def aI0(w:Z):(ReflectliteType.relation "AssignableTo" ReflectliteType.assignableTo #[.agg #[pq 12 73],ak 219 (.agg #[pq 12 73])]).run bdJ w = .ok (.bool G) w:=zk
def aI1(e:Addr)(w:Z):(ReflectliteValue.unpack (ak 73 (au (O e)))).run bdJ w
 = .ok (.agg #[pq 12 73,pp w.heap.size,.int .u64 150]) (w.alloc (ah #[au (O e)] 73)):=zk
def aI2(w:Z):(Rtype.elem? 75).run bdJ w = .ok (O 73) w:=zk
def aI3(p:Addr)(w:Z):(ReflectliteValue.mk 73 p ReflectliteValue.flagAddr).run bdJ w = .ok (.agg #[pq 12 73,au (O p),.int .u64 406]) w:=zk
def aI4(a p:Addr)(W:Z)(b:W.cell? a=O (au (O p))) :
  (ReflectliteValue.method (ReflectliteValue.valueError "reflectlite.Value.Elem" 0) ReflectliteValue.elem #[.agg #[pq 12 75,au (O a),.int .u64 150]]).run bdJ W
   = .ok (.agg #[pq 12 73,au (O p),.int .u64 406]) W:=by
 rw[Yn];simp only[a3X,anO,a4D];simp [ReflectliteValue.elem,loadVar,isAgg,underlying,underlying75,b,a4D,aI2,aI3]
def anS(v x:Y):ReflectliteValue.set #[v,x]=(do
 let (O (dst,a,fl),O (src,b,_)):=(<- ReflectliteValue.parts v,<- ReflectliteValue.parts x)
  | unsupported (.noEntry "extern/(internal/reflectlite.Value).Set.zeroValue")
 if fl / ReflectliteValue.flagAddr % 2 == 0 then unsupported (.noEntry "extern/(internal/reflectlite.Value).Set.unaddressable")
 let val <- loadVar src b
 if <- Rtype.directlyAssignable dst src then storeVar dst a val
 else if <- Rtype.implements dst src then
  if (<- Rtype.kind src) == 20 then
   match val with
   | aj=>unsupported (.noEntry "extern/reflectlite: a nil value of one interface type handed on as a value of another")
   | _=>storeVar dst a val
  else storeVar dst a (ak src val)
 else panicString ("reflectlite.Set: value of type "++(<- Rtype.spelt src)++ " is not assignable to type "++(<- Rtype.spelt dst))
 pure (aq #[])):=rfl
def aI5(a:Addr)(w:Z):(ReflectliteValue.parts (.agg #[pq 12 73,au (O a),.int .u64 406])).run bdJ w = .ok (O (73,a,406)) w:=zk
def aI6(a:Addr)(w:Z):(ReflectliteValue.parts (.agg #[pq 12 73,au (O a),.int .u64 150])).run bdJ w = .ok (O (73,a,150)) w:=zk
def aI7(w:Z):(Rtype.directlyAssignable 73 73).run bdJ w = .ok G w:=zk
def aI8(a b e:Addr)(c:Y)(W:Z)(d:W.cell? b=O (au (O e)))(ht:W.cell? a=O c)(f:W.frozen? a=ae) :
  (ReflectliteValue.set #[.agg #[pq 12 73,au (O a),.int .u64 406],.agg #[pq 12 73,au (O b),.int .u64 150]]).run bdJ W
   = .ok (aq #[]) (W.setCell a (au (O e))):=by
 rw[anS];simp only[a3X,aI5,aI6,a4D];simp [ReflectliteValue.flagAddr,loadVar,isAgg,underlying,underlying73,d,a4D,aI7,storeVar,Value.cells,storeCells,Addr.add];rw[run_store bdJ W a _ _ (by rfl)];grind
def aI9(e t:Addr)(FL:Y)(w:Z)(hg:w.cell? ⟨0,0,V⟩=O (ak 219 (.agg #[pq 12 57])))(La:w.cell? t=O FL)(G9:w.frozen? t=ae) :
  Calls bdJ 29 #[ak 73 (au (O e)),ak 75 (au (O t))] w fun ev w'=>ev = ai (.bool G)/\w'=((((w.alloc (ah #[au (O t)] 75)).alloc (ah #[pq 12 75,pp w.heap.size,.int .u64 150] 158)).alloc (ah #[pq 12 75,pp w.heap.size,.int .u64 150] 158)).alloc (ah #[au (O e)] 73)).setCell t (au (O e)):=by
 have h6:=@run_callFunc_extern bdJ 54 _ (fun args=>ReflectliteValue.unpack (args.getD 0 (aq #[]))) func54 zk zk zk zk;have h7:=@run_callFunc_extern bdJ 55 _ (ReflectliteValue.methodAny (ReflectliteValue.valueError "reflectlite.Value.Type" 0) (fun t _ _ _=>ReflectliteType.toType t)) func55 zk zk zk zk;have h8:=@run_callFunc_extern bdJ 56 _ (ReflectliteValue.method (ReflectliteValue.valueError "reflectlite.Value.IsNil" 0) ReflectliteValue.isNil) func56 zk zk zk zk;have Ho:=@run_callFunc_extern bdJ 196 _ (ReflectliteType.abiMethod fun t=>do pure (.int .u8 (<- Rtype.kind t))) func196 zk zk zk zk;have h37:=@run_callFunc_extern bdJ 238 _ (ReflectliteType.method ReflectliteType.elem) func238 zk zk zk zk;have h38:=@run_callFunc_extern bdJ 239 _ (ReflectliteType.relation "Implements" ReflectliteType.implements_) func239 zk zk zk zk;have rz:=@run_callFunc_extern bdJ 87 _ ReflectliteType.typeOf func87 zk zk zk zk;have zp:=@run_callFunc_extern bdJ 236 _ (ReflectliteType.relation "AssignableTo" ReflectliteType.assignableTo) func236 zk zk zk zk;have uO:=@run_callFunc_extern bdJ 88 _ (ReflectliteValue.method (ReflectliteValue.valueError "reflectlite.Value.Elem" 0) ReflectliteValue.elem) func88 zk zk zk zk;have vH:=@run_callFunc_extern bdJ 89 _ ReflectliteValue.set func89 zk zk zk zk;have tO:=aIZ;have mA:=aeC;have a25:=aI0;have v25:=aI1;have f6:=anK;have f7:=anL;have mK:=aez;have mE:=aeA;have mI:=aeB;have k27:=anM;have k25:=anN;have e27:=anQ;have i25:=anR;have n8:=anP ⟨w.heap.size,0,V⟩ t ((w.alloc (ah #[au (O t)] 75)).alloc (ah #[pq 12 75,pp w.heap.size,.int .u64 150] 158)) zs;have hlt:0<w.heap.size:=by
  grind [Nat.eq_zero_or_pos,World.cell?]
 have jt:((w.alloc (ah #[au (O t)] 75)).alloc (ah #[pq 12 75,pp w.heap.size,.int .u64 150] 158)).cell? ⟨0,0,V⟩=O (ak 219 (.agg #[pq 12 57])):=by
  rw[a4q _ _ ⟨0,0,V⟩ zs,a4q _ _ ⟨0,0,V⟩ hlt];exact hg
 have tY:t.block<w.heap.size:=by
  grind [Nat.lt_or_ge,World.cell?,Array.getElem?_eq_none]
 have el:=aI4 ⟨w.heap.size,0,V⟩ t (((w.alloc (ah #[au (O t)] 75)).alloc (ah #[pq 12 75,pp w.heap.size,.int .u64 150] 158)).alloc (ah #[pq 12 75,pp w.heap.size,.int .u64 150] 158)) (by rw[a4q _ _ ⟨w.heap.size,0,V⟩ (by simp;omega)];simp);have st:=aI8 t ⟨w.heap.size+1+1+1,0,V⟩ e FL ((((w.alloc (ah #[au (O t)] 75)).alloc (ah #[pq 12 75,pp w.heap.size,.int .u64 150] 158)).alloc (ah #[pq 12 75,pp w.heap.size,.int .u64 150] 158)).alloc (ah #[au (O e)] 73))
  (by rw[World.cell?_alloc_at _ _ _ _ zs];rfl)
  (by rw[a4q _ _ t (by simp;omega),a4q _ _ t (by simp;omega),a4q _ _ t (by simp;omega),a4q _ _ t tY];exact La)
  (by rw[a4P _ _ t (by simp;omega),a4P _ _ t (by simp;omega),a4P _ _ t (by simp;omega),a4P _ _ t (Nat.ne_of_lt tY)];exact G9)
 go_enter func29,ntmps29
 go_wp2
 refine wp_loop_rounds 1 ?_;rw[rounds_succ]
 go_wp2
 go_ret
 exact⟨J,J⟩
end Go.Proofs.YtoegidfbnkaabaaGreatDoor
namespace Go.Proofs.YtoegidfbnkaabaaGreatDoor
open Go.RowKit Sx
variable{f g i:Nat}
def aeD(w:Z):Calls bdJ 23 #[aj] w fun e w'=>Ext w w'/\e = ai (aq #[zi 0,zi (-1)]):=by
 refine acI ?_;refine bG ?_;exact yF
def C8(w:Z):Prop:=w.cell? ⟨0,0,V⟩=O (ak 219 (.agg #[pq 12 57]))
theorem C8.ext{w w':Z}(h:C8 w)(a:Ext w w'):C8 w':=Ns h (by grind [bD.ext])
def an5(b:Nat)(c a:Int)(w:Z)(g:w.heap[b]?=aO #[zi c,zi a] 77)(h:C8 w) :
  Calls bdJ 23 #[ak 73 (pp b)] w fun e w'=>Ext w w'/\e = ai (aq #[zi c,zi a]):=by
 refine acI ?_;refine bG ?_;obtain⟨d,i⟩:=cj ((w.alloc (ah #[au V] 73)).alloc (ah #[zi 0] 27));have j:Ext w d:=yF;have q0:d.heap[w.heap.size]?=aO #[au V] 73:=yH;rw[<- i];refine(aI9 ⟨b,0,V⟩ ⟨w.heap.size,0,V⟩ _ d (h.ext j) (by simp [World.cell?,q0];rfl) (jV q0 0)).mono ?_;rintro e w3 ⟨rfl,f⟩;obtain⟨k,l⟩:=cj ((((d.alloc (ah #[pp w.heap.size] 75)).alloc (ah #[pq 12 75,pp d.heap.size,.int .u64 150] 158)).alloc (ah #[pq 12 75,pp d.heap.size,.int .u64 150] 158)).alloc (ah #[pp b] 73));rw[<- l] at f;have m:Ext d k:=yF;have n:=m.ext _ _ q0;rw[vz n] at f;have o:Ext w w3:=by
  exact yF
 have q3:w3.heap[w.heap.size]?=aO #[pp b] 73:=by
  exact yH
 have q4:=o.ext _ _ g;refine dA @q3 @q4 ?_;exact yF
def aJb(w:Z)(s:P.Bs)(e:Ending)(w':Z):Prop:=
 Ext w w'/\match P.program s with
 | .err c a=>e = ai (aq #[au V,.int .i64 c,.int .i64 a])
 | .ok cs _ _=>∃ b v vs,e = ai (aq #[au (O ⟨b,0,V⟩),.int .i64 0,.int .i64 (-1)])/\w'.heap[b]?=O (ah #[v] 72 (0,0))/\Nu w w' b /\
  fO (Nu w w') w' 79 v vs/\ky (Nu w w') w' vs cs
def aJc(s:P.Bs)(w:Z)(i:s.length<=100000)(j:Yf w)(l:C8 w):Calls bdJ 12 #[aW s] w (aJb w s):=by
 refine aIU ?_;refine(aIY s w i j).mono ?_;rintro e w1 ⟨m,d⟩;cases hr:P.program s with
 | err c a=>
  rw[hr] at d;obtain⟨b,rfl,g⟩:=d;refine bG ?_;refine(an5 b c a w1 g (l.ext m)).mono ?_;rintro e w2 ⟨f,rfl⟩;refine bG ?_;refine⟨yF,?_⟩;grind
 | ok cs k vs=>
  rw[hr] at d;obtain⟨b,v,vs,rfl,g,n,q,o⟩:=d;refine bG ?_;refine(aeD w1).mono ?_;rintro e w2 ⟨f,rfl⟩;have s2:=f.size;refine bG ?_;refine⟨yF,?_⟩;rw[hr];have h:∀ b,Nu w w1 b->Nu w w2 b:=zg;exact⟨b,v,vs,J,f.ext _ _ g,h _ n,(by grind [fO.mono,bD.ext]),o.mono h fun b cs t _ _ p=>f.ext _ _ p⟩
open Go.Proofs.YtoegidfbnkaabaaGreatDoor.Sx
section
variable{p0 p1 p2 p3 p4 p5 p6 p7:Y}{w:Z}{R:Ending->Z->Prop}
def aJd:=cz w R [p0] (gc [] [(4001,[])] [15]) func76
def aJe:=cz w R [p0] (gc [] [] []) func37
end
namespace P
inductive jP where
 | fault (e:Nat)
 | Em
deriving DecidableEq,Inhabited
abbrev Out(α:Type):=Option (Except jP α)
def Out.bind{α β:Type}(x:Out α)(k:α->Out β):Out β:=
 match x with
 | none=>V
 | some (.error e)=>O (.error e)
 | some (.ok a)=>k a
@[simp] theorem Out.eo{α β:Type}(a:α)(k:α->Out β):Out.bind (O (.ok a)) k=k a:=rfl
@[simp] theorem Out.aXY{α β:Type}(e:jP)(k:α->Out β):Out.bind (O (.error e)) k=O (.error e):=rfl
@[simp] theorem Out.bind_none{α β:Type}(k:α->Out β):Out.bind (V:Out α) k=none:=rfl
def Out.bind_some{α β:Type}{x:Out α}{k:α->Out β}{r:Except jP β}(h:Out.bind x k=O r):(∃ a,x=O (.ok a)/\k a=O r)\/(∃ e,x=O (.error e)/\r = .error e):=by
 cases x with
 | none=>simp_all
 | some y=>cases y with
  | error e=>simp_all
  | ok a=>simp_all
structure Sr where
 tr:Tr
 fuel:Nat
def Sr.dec(s:Sr):Sr:={ s with fuel:=s.fuel-1 }
def Sr.bind(s:Sr)(i:Nat)(t:Tm):Sr:={ s with tr:=(i,t)::s.tr }
def Sr.iH(s:Sr)(mark:Nat):Sr:={ s with tr:=s.tr.drop (s.tr.length-mark) }
mutual
def zt:Nat->Nat->Tm->Sr->Out (Bool×Sr)
 | 0,_,_,_=>V
 | f+1,i,t,s=>
  if s.fuel=0 then O (.error .Em)
  else match fI s.tr f t with
   | none=>V
   | some (.var j)=>O (.ok (decide (j=i),s.dec))
   | some (.comp _ args)=>AU f i args s.dec
   | some _=>O (.ok (ae,s.dec))
 termination_by structural f=>f
def AU:Nat->Nat->List Tm->Sr->Out (Bool×Sr)
 | 0,_,_,_=>V
 | _+1,_,[],s=>O (.ok (ae,s))
 | f+1,i,a::r,s=>Out.bind (zt f i a s) fun p=>if p.1 then O (.ok (G,p.2)) else AU f i r p.2
 termination_by structural f=>f
end
def uk(f:Nat)(i:Nat)(t:Tm)(s:Sr):Out (Bool×Sr):=
 Out.bind (zt f i t s) fun p=>if p.1 then O (.ok (ae,p.2)) else O (.ok (G,p.2.bind i t))
def flat:Tm->Tm->Bool
 | .atom a,.atom b=>a == b
 | .int a,.int b=>a == b
 | .var i,.var j=>i == j
 | _,_=>ae
mutual
def lZ:Nat->Tm->Tm->Sr->Out (Bool×Sr)
 | 0,_,_,_=>V
 | f+1,a,b,s=>
  if s.fuel=0 then O (.error .Em)
  else match fI s.tr f a,fI s.tr f b with
   | some (.var i),O (.var j)=>if i=j then O (.ok (G,s.dec)) else uk f i (.var j) s.dec
   | some (.var i),O u=>uk f i u s.dec
   | some u,O (.var j)=>uk f j u s.dec
   | some (.comp n l),O (.comp m r)=>if n=m/\l.length=r.length then nO f l r s.dec else O (.ok (ae,s.dec))
   | some u,O v=>O (.ok (flat u v,s.dec))
   | _,_=>V
 termination_by structural f=>f
def nO:Nat->List Tm->List Tm->Sr->Out (Bool×Sr)
 | 0,_,_,_=>V
 | f+1,a::l,b::r,s=>Out.bind (lZ f a b s) fun p=>if p.1 then nO f l r p.2 else O (.ok (ae,p.2))
 | _+1,_,_,s=>O (.ok (G,s))
 termination_by structural f=>f
end
mutual
def C9:Nat->Tm->Tm->Sr->Out (Bool×Sr)
 | 0,_,_,_=>V
 | f+1,a,b,s=>
  if s.fuel=0 then O (.error .Em)
  else match fI s.tr f a,fI s.tr f b with
   | some (.comp n l),O (.comp m r)=>if n=m/\l.length=r.length then BO f l r s.dec else O (.ok (ae,s.dec))
   | some u,O v=>O (.ok (flat u v,s.dec))
   | _,_=>V
 termination_by structural f=>f
def BO:Nat->List Tm->List Tm->Sr->Out (Bool×Sr)
 | 0,_,_,_=>V
 | f+1,a::l,b::r,s=>Out.bind (C9 f a b s) fun p=>if p.1 then BO f l r p.2 else O (.ok (ae,p.2))
 | _+1,_,_,s=>O (.ok (G,s))
 termination_by structural f=>f
end
def wrap64(z:Int):Int:=(z+9223372036854775808) % 18446744073709551616-9223372036854775808
def reckon(name:Bs)(a b:Int):Except jP Int:=
 if name=[43] then .ok (wrap64 (a+b)) else if name=[45] then .ok (wrap64 (a-b)) else if name=[42] then .ok (wrap64 (a*b))
 else if b=0 then .error (.fault 9)
 else if name=[47,47] then .ok (wrap64 (a.tdiv b))
 else .ok (if a.tmod b≠0/\(decide (a.tmod b<0)≠decide (b<0)) then wrap64 (a.tmod b+b) else a.tmod b)
def uP:Nat->Tm->Sr->Out (Int×Sr)
 | 0,_,_=>V
 | f+1,t,s=>
  if s.fuel=0 then O (.error .Em)
  else match fI s.tr f t with
   | none=>V
   | some (.int n)=>O (.ok (n,s.dec))
   | some (.var _)=>O (.error (.fault 7))
   | some (.comp name [a,b])=>
    if lz name 2≠0 then
     Out.bind (uP f a s.dec) fun p=>Out.bind (uP f b p.2) fun q=>
      match reckon name p.1 q.1 with
      | .error e=>O (.error e)
      | .ok z=>O (.ok (z,q.2))
    else O (.error (.fault 8))
   | some _=>O (.error (.fault 8))
 termination_by structural f=>f
def an6(name:Bs)(a b:Int):Bool:=
 if name=[60] then decide (a<b) else if name=[62] then decide (a > b) else if name=[61,60] then decide (a<=b) else if name=[62,61] then decide (a ≥ b) else decide (a=b)
def QH(name:Bs):Tm->Bool
 | .var _=>name == [118,97,114]
 | .atom _=>name == [110,111,110,118,97,114] || name == [97,116,111,109]
 | .int _=>name == [110,111,110,118,97,114] || name == [105,110,116,101,103,101,114]
 | .comp _ _=>name == [110,111,110,118,97,114]
def yk(f:Nat)(name:Bs)(args:List Tm)(s:Sr):Out (Bool×Sr):=
 if name=[116,114,117,101] then O (.ok (G,s))
 else if name=[61] then lZ f (args.getD 0 default) (args.getD 1 default) s
 else if name=[92,61] then Out.bind (lZ f (args.getD 0 default) (args.getD 1 default) s) fun p=>O (.ok (!p.1,p.2.iH s.tr.length))
 else if name=[61,61] then C9 f (args.getD 0 default) (args.getD 1 default) s
 else if name=[105,115] then Out.bind (uP f (args.getD 1 default) s) fun p=>lZ f (args.getD 0 default) (.int p.1) p.2
 else if name∈[[118,97,114],[110,111,110,118,97,114],[97,116,111,109],[105,110,116,101,103,101,114]] then
  match fI s.tr f (args.getD 0 default) with
  | none=>V
  | some t=>O (.ok (QH name t,s))
 else if name=[102,97,105,108] then O (.ok (ae,s))
 else Out.bind (uP f (args.getD 0 default) s) fun p=>Out.bind (uP f (args.getD 1 default) p.2) fun q=>O (.ok (an6 name p.1 q.1,q.2))
def Le{α:Type}(x y:Option α):Prop:=∀ r,x=O r->y=O r
theorem Le.rfl{α:Type}{x:Option α}:Le x x:=fun _ h=>h
theorem Le.none{α:Type}{y:Option α}:Le (V:Option α) y:=fun _ h=>zg
theorem Le.trans{α:Type}{x y z:Option α}(h:Le x y)(a:Le y z):Le x z:=fun r hr=>a r (h r hr)
theorem Out.zu{α β:Type}{x y:Out α}{k k':α->Out β}(h:Le x y)(hk:∀ a,Le (k a) (k' a)):Le (Out.bind x k) (Out.bind y k'):=by
 intro r hr;obtain⟨a,b,c⟩| ⟨e,b,rfl⟩:=Out.bind_some hr
 .rw[h _ b];exact hk a _ c
 .rw[h _ b];rfl
def Lc{tr:Tr}:∀ {f:Nat} {t:Tm},Le (fI tr f t) (fI tr (f+1) t)
 | f,.atom s=>by intro r h;simp_all [fI]
 | f,.int s=>by intro r h;simp_all [fI]
 | f,.comp s l=>by intro r h;simp_all [fI]
 | 0,.var i=>by
  intro r h;grind [fI]
 | f+1,.var i=>by
  intro r h;rw[fI] at h ⊢;split at h
  .omega
  .exact Lc _ h
def an7:∀ f,(∀ i t s,Le (zt f i t s) (zt (f+1) i t s))/\(∀ i l s,Le (AU f i l s) (AU (f+1) i l s))
 | 0=>⟨fun _ _ _=>Le.none,fun _ _ _=>Le.none⟩
 | f+1=>by
  obtain⟨c,b⟩:=an7 f;constructor
  .intro i t s;rw[zt,zt];split
   .exact Le.rfl
   .intro r hr;cases hw:fI s.tr f t with
    | none=>grind
    | some u=>
     rw[hw] at hr;rw[Lc _ hw];cases u with
     | comp n l=>exact b _ _ _ _ hr
     | _=>exact hr
  .intro i l s;cases l with
   | nil=>exact Le.rfl
   | cons a l=>
    simp_all [AU,Out.zu,Le.rfl]
def an8{t:Tm}{s:Sr}:Le (uk f i t s) (uk (f+1) i t s):=Out.zu ((an7 f).1 _ _ _) fun _=>Le.rfl
def Uo:∀ f,(∀ a b s,Le (lZ f a b s) (lZ (f+1) a b s))/\(∀ l r s,Le (nO f l r s) (nO (f+1) l r s))
 | 0=>⟨fun _ _ _=>Le.none,fun _ _ _=>Le.none⟩
 | f+1=>by
  obtain⟨e,d⟩:=Uo f;constructor
  .intro a b s;rw[lZ,lZ];split
   .exact Le.rfl
   .intro r hr;cases hw:fI s.tr f a with
    | none=>grind
    | some u=>
     rw[hw] at hr;rw[Lc _ hw];cases hv:fI s.tr f b with
     | none=>grind
     | some v=>
      rw[hv] at hr;rw[Lc _ hv];cases u<;>cases v<;>first
       | exact hr
       | exact an8 _ hr
       | (simp only at hr ⊢;split at hr<;>rename_i c;(rw[zip c];exact hr);rw[bU c];exact an8 _ hr)
       | (simp only at hr ⊢;split at hr<;>rename_i c;(rw[zip c];exact d _ _ _ _ hr);grind)
  .intro l r s;cases l with
   | nil=>exact Le.rfl
   | cons a l=>
    cases r with
    | nil=>exact Le.rfl
    | cons b r=>
     simp_all [nO,Out.zu,Le.rfl]
def an9:∀ f,(∀ a b s,Le (C9 f a b s) (C9 (f+1) a b s))/\(∀ l r s,Le (BO f l r s) (BO (f+1) l r s))
 | 0=>⟨fun _ _ _=>Le.none,fun _ _ _=>Le.none⟩
 | f+1=>by
  obtain⟨e,c⟩:=an9 f;constructor
  .intro a b s;rw[C9,C9];split
   .exact Le.rfl
   .intro r hr;cases hw:fI s.tr f a with
    | none=>grind
    | some u=>
     rw[hw] at hr;rw[Lc _ hw];cases hv:fI s.tr f b with
     | none=>grind
     | some v=>
      rw[hv] at hr;rw[Lc _ hv];cases u<;>cases v<;>first
       | exact hr
       | (simp only at hr ⊢;split at hr<;>rename_i d;(rw[zip d];exact c _ _ _ _ hr);grind)
  .intro l r s;cases l with
   | nil=>exact Le.rfl
   | cons a l=>
    cases r with
    | nil=>exact Le.rfl
    | cons b r=>
     simp_all [BO,Out.zu,Le.rfl]
theorem aeF:∀ f,∀ t s,Le (uP f t s) (uP (f+1) t s)
 | 0=>fun _ _=>Le.none
 | f+1=>by
  have ih:=aeF f;intro t s;rw[uP,uP];split
  .exact Le.rfl
  .intro r hr;cases hw:fI s.tr f t with
   | none=>grind
   | some u=>
    rw[hw] at hr;rw[Lc _ hw]
    match u,hr with
    | .atom _,hr=>omega
    | .int _,hr=>omega
    | .var _,hr=>omega
    | .comp _ [],hr=>omega
    | .comp _ [_],hr=>omega
    | .comp _ (_::_::_::_),hr=>omega
    | .comp name [a,b],hr=>
     simp only at hr ⊢;split at hr
     .rename_i c;rw[zip c];exact Out.zu (ih _ _) (fun p=>Out.zu (ih _ _) fun q=>Le.rfl) _ hr
     grind
def aJf{name:Bs}{args:List Tm}{s:Sr}:Le (yk f name args s) (yk (f+1) name args s):=by
 unfold yk;split
 .exact Le.rfl
 split
 .simp_all [Uo]
 split
 .simp_all [Out.zu,Uo,Le.rfl]
 split
 .simp_all [an9]
 split
 .simp_all [Out.zu,aeF,Uo]
 split
 .intro r hr;cases hw:fI s.tr f (args.getD 0 default) with
  | none=>grind
  | some u=>rw[hw] at hr;rw[Lc _ hw];omega
 grind [Le.rfl,Out.zu,aeF]
structure WLe(tr:Tr)(f:Nat):Prop where
 tm:∀ t l s,Le (lF tr f t l s) (lF tr (f+1) t l s)
 comp:∀ n a l s,Le (zm tr f n a l s) (zm tr (f+1) n a l s)
 args:∀ c a s,Le (tE tr f c a s) (tE tr (f+1) c a s)
 list:∀ c a b s,Le (vL tr f c a b s) (vL tr (f+1) c a b s)
def Le.many{α:Type}{F:Nat->Option α}(h:∀ f,Le (F f) (F (f+1)))(a:f<=g):Le (F f) (F g):=by
 obtain⟨k,rfl⟩:=Nat.le.dest a;induction k with
 | zero=>exact Le.rfl
 | succ k ih=>exact(ih (Nat.le_add_right _ _)).trans (h _)
end P
