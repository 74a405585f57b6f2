/- A part of one proof (PureW, PureW2, PureE, PureG, PureQ, ShL1, SX7, SX8, SX9, ShQ1, PureX, PureO). -/
import Derived.Test.YtoegidfbnkaabaaGreatDoorPkLAK
import Derived.WalkKit
import Derived.LaidEql
import Derived.Stop.Asserts
import Derived.RowKitTokens
set_option linter.all false
set_option maxRecDepth 100000
set_option maxHeartbeats 8000000
open Option renaming some → O, none → V
open Go renaming Value → Y, World → Z
open Bool renaming true → A, false → G
open Go.Obj renaming cells → ae
open Go.Ending renaming returned → ah
open Go.Value renaming nilIface → ai, iface → aj, tuple → ak, pointer → aq
open Option.some renaming injEq → a1o
open Nat renaming le_refl → a1s
open List renaming length_cons → a1x, length_nil → a1L, mem_of_find?_eq_some → a2q, idxOf?_eq_some_iff → a4u
open Go.Sem renaming run_bind → a1C
open Go.World renaming cell?_alloc_lt → a18, frozen?_alloc_old → a2w
open Go.Result renaming andThen → a2n
open Go renaming method → a69
open Go.Proofs.Tryz renaming prog → bbw
open Go.Proofs.Tryz
namespace Go.Proofs.YtoegidfbnkaabaaGreatDoor
variable{M k k' n nv:Nat}
namespace P
inductive Tm where
 | atom (s:Bs)
 | int (n:Int)
 | var (i:Nat)
 | comp (name:Bs) (args:List Tm)
deriving Inhabited
abbrev Tr:=List (Nat×Tm)
def look(i:Nat):Tr->Option Tm
 | []=>V
 | (j,t)::r=>if i=j then O t else look i r
def fF(tr:Tr):Nat->Tm->Option Tm
 | f,.var i=>match look i tr with
  | none=>O (.var i)
  | some t=>match f with
   | 0=>V
   | f+1=>fF tr f t
 | _,t=>O t
def sY:Nat->Nat->Bs
 | 0,_=>[]
 | f+1,n=>if n<10 then [UInt8.ofNat (48+n)] else sY f (n / 10)++[UInt8.ofNat (48+n % 10)]
def dL(n:Nat):Bs:=sY (n+1) n
def gX(n:Int):Bs:=if n<0 then 45::dL n.natAbs else dL n.natAbs
structure Ws where
 fuel:Nat
 out:Bs
 seen:List Nat
def lu(name:Bs)(n:Nat):Nat:=
 if n≠2 then 0 else if name=[43]\/name=[45] then 1 else if name=[42]\/name=[47,47]\/name=[109,111,100] then 2 else 0
def Wb(x:Option (Option Ws))(k:Ws->Option (Option Ws)):Option (Option Ws):=
 match x with
 | none=>V
 | some V=>O V
 | some (O s)=>k s
def Ws.add(s:Ws)(x:Bs):Ws:={ s with out:=s.out++x }
def Xu(s:Ws)(i:Nat):Ws:=
 match s.seen.idxOf? i with
 | some k=>s.add (95::dL (k+1))
 | none=>{ s with out:=s.out++95::dL (s.seen.length+1),seen:=s.seen++[i] }
mutual
def lB (tr:Tr):Nat->Tm->Nat->Ws->Option (Option Ws)
 | 0,_,_,_=>V
 | f+1,t,least,s=>
  if s.fuel=0 then O V
  else match fF tr f t with
   | none=>V
   | some (.atom a)=>O (O ({ s with fuel:=s.fuel-1 }.add a))
   | some (.int n)=>O (O ({ s with fuel:=s.fuel-1 }.add (gX n)))
   | some (.var i)=>O (O (Xu { s with fuel:=s.fuel-1 } i))
   | some (.comp name args)=>yZ tr f name args least { s with fuel:=s.fuel-1 }
 termination_by structural f=>f
def yZ (tr:Tr):Nat->Bs->List Tm->Nat->Ws->Option (Option Ws)
 | 0,_,_,_,_=>V
 | f+1,name,args,least,s=>
  match args with
  | [a,b]=>
   if lu name 2≠0 then
    if lu name 2<least then
     Wb (lB tr f a (lu name 2) (s.add [40])) fun s=>Wb (lB tr f b (lu name 2+1) (s.add (if name=[109,111,100] then [32,109,111,100,32] else name))) fun s=>O (O (s.add [41]))
    else Wb (lB tr f a (lu name 2) s) fun s=>lB tr f b (lu name 2+1) (s.add (if name=[109,111,100] then [32,109,111,100,32] else name))
   else if name=[46] then vw tr f 91 a b s
   else Wb (sZ tr f 40 [a,b] (s.add name)) fun s=>O (O (s.add [41]))
  | _=>Wb (sZ tr f 40 args (s.add name)) fun s=>O (O (s.add [41]))
 termination_by structural f=>f
def sZ (tr:Tr):Nat->UInt8->List Tm->Ws->Option (Option Ws)
 | 0,_,_,_=>V
 | _+1,_,[],s=>O (O s)
 | f+1,sep,a::r,s=>Wb (lB tr f a 0 (s.add [sep])) fun s=>sZ tr f 44 r s
 termination_by structural f=>f
def vw (tr:Tr):Nat->UInt8->Tm->Tm->Ws->Option (Option Ws)
 | 0,_,_,_,_=>V
 | f+1,sep,a,b,s=>
  Wb (lB tr f a 0 (s.add [sep])) fun s=>
   match fF tr f b with
   | none=>V
   | some (.comp name args)=>match args with
    | [c,d]=>if name=[46] then vw tr f 44 c d s else Wb (lB tr f b 0 (s.add [124])) fun s=>O (O (s.add [93]))
    | _=>Wb (lB tr f b 0 (s.add [124])) fun s=>O (O (s.add [93]))
   | some (.atom x)=>if x=[91,93] then O (O (s.add [93])) else Wb (lB tr f b 0 (s.add [124])) fun s=>O (O (s.add [93]))
   | some _=>Wb (lB tr f b 0 (s.add [124])) fun s=>O (O (s.add [93]))
 termination_by structural f=>f
end
mutual
def made (vs:List Nat):Ex->Tm
 | .mk kind name n k args=>if kind=97 then .atom name else if kind=110 then .int n else if kind=118 then .var (vs.getD k 0) else .comp name (nY vs args)
 termination_by structural x=>x
def nY (vs:List Nat):List Ex->List Tm
 | []=>[]
 | x::xs=>made vs x::nY vs xs
 termination_by structural x=>x
end
mutual
def eA:Tm->Prop
 | .atom s=>s.length<=20/\s≠[]
 | .int n=>-9223372036854775808<=n/\n<=9223372036854775807
 | .var _=>True
 | .comp name args=>name.length<=20/\args.length<=100000/\jt args
 termination_by structural t=>t
def jt:List Tm->Prop
 | []=>True
 | t::ts=>eA t/\jt ts
 termination_by structural t=>t
end
def nC:Tr->Prop
 | []=>True
 | (_,t)::r=>eA t/\nC r
def look_ok:∀ {tr:Tr} {i:Nat} {t:Tm},nC tr->look i tr=O t->eA t
 | [],_,_,_,h=>by cases h
 | (j,u)::r,i,t,h,a=>by
  unfold look at a;split at a
  .injection a with a;subst a;exact h.1
  .exact look_ok h.2 a
def wY{tr:Tr}(h:nC tr):∀ {f:Nat} {t a:Tm},eA t->fF tr f t=O a->eA a
 | f,.atom s,a,ht,hw=>by simp_all [fF]
 | f,.int s,a,ht,hw=>by simp_all [fF]
 | f,.comp s l,a,ht,hw=>by simp_all [fF]
 | 0,.var i,a,ht,hw=>by
  grind [fF]
 | f+1,.var i,a,ht,hw=>by
  simp only[fF] at hw;split at hw
  .grind
  .rename_i t b;exact wY h (look_ok h b) hw
def Nq(n:Nat):∀ k,n<10 ^ (k+1)->∀ f,n<f->(sY f n).length<=k+1:=by
 intro k;induction k generalizing n with
 | zero=>
  intro h f a;cases f with
  | zero=>omega
  | succ f=>simp_all [sY,zip]
 | succ k ih=>
  intro h f a;cases f with
  | zero=>omega
  | succ f=>
   grind [sY,List.length_append,Nat.pow_succ,a1x,a1L]
theorem Tv(h:n<10000000000000000000):(dL n).length<=19:=Nq n 18 zo _ zo
theorem aHc{n:Int}(a:-9223372036854775808<=n)(b:n<=9223372036854775807):(gX n).length<=20:=by
 grind [dL,Tv,gX]
def Ws.cV(s:Ws):Nat:=s.out.length+60*s.fuel
structure Ws.Ok(s:Ws):Prop where
 big:s.cV<=900000000
 seen:s.seen.length<=s.out.length
theorem Ws.pE(s:Ws)(x:Bs):(s.add x).cV=s.cV+x.length:=by grind [Ws.cV,Ws.add]
def Nr{x:Option (Option Ws)}{k:Ws->Option (Option Ws)}{r:Ws}(h:Wb x k=O (O r)):∃ s,x=O (O s)/\k s=O (O r):=by
 unfold Wb at h;grind
structure aHd(tr:Tr)(f:Nat):Prop where
 tm:∀ t least s r,eA t->s.cV<=900000100->s.seen.length<=s.out.length->lB tr f t least s=O (O r)->r.cV+30<=s.cV/\r.seen.length<=r.out.length
 comp:∀ name args least s r,eA (.comp name args)->s.cV<=900000100-60->s.seen.length<=s.out.length->yZ tr f name args least s=O (O r)->r.cV<=s.cV+21/\r.seen.length<=r.out.length
 args:∀ c l s r,jt l->s.cV<=900000100-30->s.seen.length<=s.out.length->sZ tr f c l s=O (O r)->r.cV<=s.cV/\r.seen.length<=r.out.length
 list:∀ c a b s r,eA a->eA b->s.cV<=900000100-30->s.seen.length<=s.out.length->vw tr f c a b s=O (O r)->r.cV<=s.cV/\r.seen.length<=r.out.length
theorem Ns{a b:Tm}(h:jt [a,b]):eA a/\eA b:=by
 simp_all [jt]
theorem oU{s:Ws}{x:Bs}(h:s.seen.length<=s.out.length):(s.add x).seen.length<=(s.add x).out.length:=by grind [Ws.add]
def KC{tr:Tr}(ht:nC tr):∀ f,aHd tr f
 | 0=>⟨fun _ _ _ _ _ _ _ h=>by simp_all [lB],fun _ _ _ _ _ _ _ _ h=>by simp_all [yZ],fun _ _ _ _ _ _ _ h=>by simp_all [sZ],fun _ _ _ _ _ _ _ _ _ h=>by simp_all [vw]⟩
 | f+1=>by
  have ih:=KC ht f;refine⟨?_,?_,?_,?_⟩
  .intro t least s r i m j h;rw[lB] at h;split at h
   .grind
   rename_i C;have D:({ s with fuel:=s.fuel-1 }:Ws).cV+60=s.cV:=by grind [Ws.cV]
   split at h
   .grind
   .rename_i a hw;have:=wY ht i hw;grind [a1o,eA,oU,Ws.pE]
   .rename_i a hw;have:=wY ht i hw;grind [a1o,eA,aHc,oU,Ws.pE]
   .grind [a1o,Ws.cV,Xu,a4u,Tv,oU,Ws.pE,a1x,dL,List.length_append,a1L]
   .rename_i name args hw;have g:=wY ht i hw;obtain⟨e,k⟩:=ih.comp name args least { s with fuel:=s.fuel-1 } r g zo j h;omega
  .intro name args least s r i m j h;rw[yZ.eq_def] at h;dsimp only at h;unfold eA at i;obtain⟨E,q,n⟩:=i;have F:∀ l,jt l->Wb (sZ tr f 40 l (s.add name)) (fun s=>O (O (s.add [41])))=O (O r)->r.cV<=s.cV+21/\r.seen.length<=r.out.length:=by
    intro l q h;obtain⟨s1,g,e⟩:=Nr h;obtain⟨k,u⟩:=ih.args 40 l _ s1 q (by grind [Ws.pE]) (oU j) g;grind [a1o,Ws.pE,oU]
   split at h
   .rename_i a b;obtain⟨o,p⟩:=Ns n;have H:(if name=[109,111,100] then([32,109,111,100,32]:Bs) else name).length<=20:=zg;split at h
    .split at h
     .obtain⟨s1,g,e⟩:=Nr h;obtain⟨s2,k,u⟩:=Nr e;obtain⟨g1,g2⟩:=ih.tm a _ _ s1 o (by grind [Ws.pE]) (oU j) g;rw[Ws.pE] at g1;simp only[a1x,a1L] at g1;obtain⟨g3,g4⟩:=ih.tm b _ _ s2 p (by grind [Ws.pE]) (oU g2) k;grind [Ws.pE,a1o,oU]
     .obtain⟨s1,g,e⟩:=Nr h;obtain⟨g1,g2⟩:=ih.tm a _ _ s1 o zo j g;obtain⟨g3,g4⟩:=ih.tm b _ _ r p (by grind [Ws.pE]) (oU g2) e;grind [Ws.pE]
    .split at h
     .obtain⟨g1,g2⟩:=ih.list 91 a b s r o p zo j h;omega
     grind
   grind
  .intro c l s r i m j h;cases l with
   | nil=>
    simp_all [sZ,a1o,a1s]
   | cons a l=>
    rw[sZ] at h;unfold jt at i;obtain⟨s1,g,e⟩:=Nr h;obtain⟨g1,g2⟩:=ih.tm a _ _ s1 i.1 (by grind [Ws.pE]) (oU j) g;rw[Ws.pE] at g1;simp only[a1x,a1L] at g1;obtain⟨g3,g4⟩:=ih.args 44 l s1 r i.2 zo g2 e;omega
  .intro c a b s r n w m j h;rw[vw] at h;obtain⟨s1,g,e⟩:=Nr h;obtain⟨g1,g2⟩:=ih.tm a _ _ s1 n (by grind [Ws.pE]) (oU j) g;rw[Ws.pE] at g1;simp only[a1x,a1L] at g1;have y:Wb (lB tr f b 0 (s1.add [124])) (fun s=>O (O (s.add [93])))=O (O r)->r.cV<=s.cV/\r.seen.length<=r.out.length:=by
    intro h;obtain⟨s2,k,u⟩:=Nr h;obtain⟨g3,g4⟩:=ih.tm b _ _ s2 w (by grind [Ws.pE]) (oU g2) k;grind [Ws.pE,a1x,a1L,a1o,oU]
   split at e
   .grind
   .rename_i name args hw;have x:=wY ht w hw;unfold eA at x;split at e
    .rename_i c d;obtain⟨z,B⟩:=Ns x.2.2;split at e
     .obtain⟨g3,g4⟩:=ih.list 44 c d s1 r z B zo g2 e;omega
     grind
    grind
   .grind [a1o,Ws.pE,oU]
   grind
def aHe{w:Bs}(h:lK w≠0):w.length<=9:=by
 unfold lK at h;grind
def aHf{s:Bs}(hm:s∈nH):s.length<=9:=by
 simp only[nH,List.mem_cons,List.not_mem_nil,or_false] at hm;rcases hm with rfl | rfl | rfl | rfl | rfl | rfl | rfl | rfl | rfl | rfl | rfl | rfl | rfl | rfl | rfl | rfl | rfl | rfl | rfl | rfl | rfl | rfl | rfl<;>decide
def Nt:∀ (f:Nat) (r:Bs) (i:Nat) (T:List Tok),jk f r i=O (.inr T)->∀ u∈T,u.text.length<=9
 | 0,r,i,T,h=>by simp_all [jk]
 | f+1,[],i,T,h=>by
  rw[jk] at h;grind
 | f+1,c::r,i,T,h=>by
  have key:∀ (x:Option (Sum Nat (List Tok))) (t:Tok),(∀ l,x=O (.inr l)->∀ u∈l,u.text.length<=9)->t.text.length<=9 ->
    (match x with | some (.inr l)=>O (.inr (t::l)) | y=>y)=O (.inr T)->∀ u∈T,u.text.length<=9:=by
   grind
  rw[jk] at h;split at h
  .exact Nt f r (i+1) T h
  split at h
  .dsimp only at h;split at h
   .grind
   .rename_i d hw;exact key _ _ (fun l a=>Nt f _ _ l a) (aHe hw) h
  split at h
  .exact key _ _ (fun l a=>Nt f _ _ l a) zs h
  split at h
  .grind
  .rename_i s b;exact key _ _ (fun l a=>Nt f _ _ l a) (aHf (a2q b)) h
mutual
def iD:Ex->Nat
 | .mk _ _ _ _ args=>fG args+1
 termination_by structural x=>x
def fG:List Ex->Nat
 | []=>0
 | x::xs=>iD x+fG xs
 termination_by structural x=>x
end
def adi:∀ (a b:List Ex),fG (a++b)=fG a+fG b
 | [],b=>by simp [fG]
 | x::a,b=>by simp [fG,adi a b];omega
mutual
def ie (nv:Nat):Ex->Prop
 | .mk kind name n k args=>name.length<=9/\(-999999999<=n/\n<=999999999)/\(kind=97\/kind=110\/kind=118\/kind=99)/\(kind=118->k<nv)/\(args.length<=4/\(kind=99->args≠[]))/\(kind=97->name≠[])/\(kind≠99->args=[])/\fi nv args
 termination_by structural x=>x
def fi (nv:Nat):List Ex->Prop
 | []=>True
 | x::xs=>ie nv x/\fi nv xs
 termination_by structural x=>x
end
mutual
theorem ie.mono {n m:Nat} (h:n<=m):∀ (x:Ex),ie n x->ie m x
 | .mk kind name k v args,hx=>by
  unfold ie at hx ⊢;obtain⟨a,b,c,d,f,g,i,j⟩:=hx;exact⟨a,b,c,fun e=>Nat.lt_of_lt_of_le (d e) h,f,g,i,fi.mono h args j⟩
 termination_by structural x=>x
theorem fi.mono {n m:Nat} (h:n<=m):∀ (l:List Ex),fi n l->fi m l
 | [],hx=>by simp_all [fi]
 | x::xs,hx=>by
  unfold fi at hx ⊢;exact⟨ie.mono h x hx.1,fi.mono h xs hx.2⟩
 termination_by structural x=>x
end
def fi.append{n:Nat}:∀ {a b:List Ex},fi n a->fi n b->fi n (a++b)
 | [],b,_,c=>c
 | x::a,b,d,c=>by
  show fi n (x::(a++b));unfold fi at d ⊢;exact⟨d.1,fi.append d.2 c⟩
def fi.snoc{a:List Ex}{x:Ex}(b:fi n a)(hx:ie n x):fi n (a++[x]):=b.append (by simp_all [fi])
theorem fi.nil:fi n []:=by simp_all [fi]
theorem fi.at{n:Nat}:∀ {l:List Ex} {j:Nat},fi n l->(a:j<l.length)->ie n l[j]
 | x::xs,0,h,_=>by simp_all [fi]
 | x::xs,j+1,h,a=>by unfold fi at h;exact fi.at h.2 zg
theorem ie.two{name:Bs}{a b:Ex}(c:name.length<=9)(d:ie nv a)(e:ie nv b):ie nv (.mk 99 name 0 0 [a,b]):=by
 simp_all [ie,fi,fi.nil]
theorem ami{name:Bs}{a b:Ex}:iD (.mk k name 0 0 [a,b])=iD a+iD b+1:=by simp [iD,fG]
def aHg{l:Nat}{T:List Tok}{o:Bs}(h:O5 T l k=O o):o.length<=9:=by
 have hm:=a2q h;grind [ops]
structure CH(T:List Tok):Prop where
 len:∀ u∈T,u.text.length<=9
 word:∀ u∈T,u.kind=1->u.text≠[]
 digits:∀ u∈T,u.kind=3->u.text.all digit=A
def Xv{T:List Tok}(h:(tk T k).kind≠0):tk T k∈T:=by
 grind [Nat.lt_or_ge,absurd,tk,List.getElem?_eq_none,List.getElem?_eq_getElem,List.getElem_mem]
def aHh{t:Tok}{v v':List Bs}{x:Ex}(h:Aa t k v = .ok x k' v'):ie v'.length x/\v.length<=v'.length/\k'=k/\iD x=1:=by
 unfold Aa at h;split at h
 .rename_i j e;injection h with a b c;subst a b c;have d:j<v.length:=by
   grind [a4u]
  refine⟨?_,a1s _,J,by simp [iD,fG]⟩;unfold ie;exact⟨zs,zo,zs,fun _=>d,zs,zs,zs,fi.nil⟩
 .split at h
  .grind
  .injection h with a b c;subst a b c;refine⟨?_,zs,J,by simp [iD,fG]⟩;unfold ie;exact⟨zs,zo,zs,fun _=>zs,zs,zs,zs,fi.nil⟩
theorem adj{nv:Nat}{x:Ex}(hx:ie nv x):∀ {all:List Ex},fi nv all->ie nv (Ab all x)/\iD (Ab all x)=fG all+all.length+iD x
 | [],_=>⟨hx,by simp [Ab,fG]⟩
 | a::l,h=>by
  unfold fi at h;obtain⟨b,c⟩:=adj hx h.2;grind [ie.two,iD,Ab,ami,fG]
theorem amj:ie nv (.mk 97 [91,93] 0 0 []):=by
 simp_all [ie,fi.nil]
structure EOk(T:List Tok)(f:Nat):Prop where
 Cp:∀ k v d x k' v',oP T f k v d=O (.ok x k' v')->ie v'.length x/\v.length<=v'.length/\k+iD x<=k'
 args:∀ k v d a acc x k' v',fi v.length acc->oQ T f k v d a acc=O (.ok x k' v')->fi v'.length x/\v.length<=v'.length/\k+fG x<=k'+fG acc/\x.length<=4/\x≠[]
 list:∀ k v d x k' v',qu T f k v d=O (.ok x k' v')->ie v'.length x/\v.length<=v'.length/\k+iD x<=k'+1
 elems:∀ k v d acc x k' v',fi v.length acc->q8 T f k v d acc=O (.ok x k' v')->fi v'.length x/\v.length<=v'.length/\k+fG x+x.length<=k'+fG acc+acc.length+1
 oper:∀ l k v d x k' v',iZ T f l k v d=O (.ok x k' v')->ie v'.length x/\v.length<=v'.length/\k+iD x<=k'
 more:∀ l y k v d x k' v',ie v.length y->pj T f l y k v d=O (.ok x k' v')->ie v'.length x/\v.length<=v'.length/\k+iD x<=k'+iD y
def PQ{T:List Tok}(g:CH T):∀ f,EOk T f
 | 0=>⟨by simp_all [oP],by simp_all [oQ],by simp_all [qu],by simp_all [q8],by simp_all [iZ],by simp_all [pj]⟩
 | f+1=>by
  have ih:=PQ g f;refine⟨?_,?_,?_,?_,?_,?_⟩
  .intro k v d x k' v' h;rw[oP] at h;split at h
   .grind
   split at h
   .rename_i hk;simp only[a1o,cj.ok.injEq] at h;obtain⟨rfl,rfl,rfl⟩:=h;have hm:=Xv (T:=T) (k:=k) zo;obtain⟨a,b⟩:=aaj (g.digits _ hm hk) (g.len _ hm);refine⟨?_,a1s _,by simp [iD,fG]⟩;grind [ie,fi.nil]
   split at h
   .simp only[a1o] at h;obtain⟨e,c,rfl,n⟩:=aHh h;grind
   split at h
   .rename_i hk;have hm:=Xv (T:=T) (k:=k) zo;split at h
    .obtain⟨a,i,v1,e,c⟩:=eh h;obtain⟨g1,g2,g3,g4⟩:=ih.args _ _ _ _ _ _ _ _ fi.nil e;obtain⟨rfl,rfl,rfl⟩:=oz c;refine⟨?_,g2,by grind [iD,fG]⟩;unfold ie;exact⟨g.len _ hm,zo,zs,zs,⟨g4.1,fun _=>g4.2⟩,zs,zs,g1⟩
    .simp only[a1o,cj.ok.injEq] at h;obtain⟨rfl,rfl,rfl⟩:=h;refine⟨?_,a1s _,by simp [iD,fG]⟩;unfold ie;exact⟨g.len _ hm,zo,zs,zs,zs,fun _=>g.word _ hm hk,zs,fi.nil⟩
   split at h
   .split at h
    .rename_i hk;simp only[a1o,cj.ok.injEq] at h;obtain⟨rfl,rfl,rfl⟩:=h;have hm:=Xv (T:=T) (k:=k+1) zo;obtain⟨a,b⟩:=aaj (g.digits _ hm hk) (g.len _ hm);refine⟨?_,a1s _,by simp [iD,fG]⟩;grind [ie,fi.nil]
    grind
   split at h
   .obtain⟨a,i,v1,e,c⟩:=eh h;obtain⟨g1,g2,g3⟩:=ih.oper _ _ _ _ _ _ _ e;obtain⟨rfl,rfl,rfl⟩:=oz c;grind
   split at h
   .obtain⟨g1,g2,g3⟩:=ih.list _ _ _ _ _ _ h;grind
   grind
  .intro k v d a acc x k' v' j h;rw[oQ] at h;obtain⟨y,i,v1,e,c⟩:=eh h;obtain⟨g1,g2,g3⟩:=ih.oper _ _ _ _ _ _ _ e;have m:=(fi.mono g2 _ j).snoc g1;have p:fG (acc++[y])=fG acc+iD y:=by simp_all [adi,fG]
   split at c
   .obtain⟨q1,q2,q3,q4⟩:=ih.args _ _ _ _ _ _ _ _ m c;grind
   .split at c
    .grind
    .rename_i q;simp only[a1o,cj.ok.injEq] at c;obtain⟨rfl,rfl,rfl⟩:=c;grind [R1]
  .intro k v d x k' v' h;rw[qu] at h;split at h
   .simp only[a1o,cj.ok.injEq] at h;obtain⟨rfl,rfl,rfl⟩:=h;simp_all [amj,a1s,iD,fG]
   .obtain⟨all,i,v1,e,c⟩:=eh h;obtain⟨g1,g2,g3⟩:=ih.elems _ _ _ _ _ _ _ fi.nil e;simp [fG] at g3;split at c
    .obtain⟨y,u,v2,r,n⟩:=eh c;obtain⟨q1,q2,q3⟩:=ih.oper _ _ _ _ _ _ _ r;obtain⟨rfl,rfl,rfl⟩:=oz n;grind [adj,fi.mono]
    .obtain⟨rfl,rfl,rfl⟩:=oz c;grind [adj,amj,iD,fG]
  .intro k v d acc x k' v' j h;rw[q8] at h;obtain⟨y,i,v1,e,c⟩:=eh h;obtain⟨g1,g2,g3⟩:=ih.oper _ _ _ _ _ _ _ e;have m:=(fi.mono g2 _ j).snoc g1;have p:fG (acc++[y])=fG acc+iD y:=by simp_all [adi,fG]
   have q:(acc++[y]).length=acc.length+1:=zs;split at c
   .obtain⟨q1,q2,q3⟩:=ih.elems _ _ _ _ _ _ _ m c;grind
   grind
  .intro l k v d x k' v' h;rw[iZ] at h;split at h
   .exact ih.Cp _ _ _ _ _ _ h
   .obtain⟨y,i,v1,e,c⟩:=eh h;obtain⟨g1,g2,g3⟩:=ih.oper _ _ _ _ _ _ _ e;obtain⟨q1,q2,q3⟩:=ih.more _ _ _ _ _ _ _ _ g1 c;grind
  .intro l y k v d x k' v' s h;rw[pj] at h;split at h
   .grind
   .rename_i o t;obtain⟨z,i,v1,e,c⟩:=eh h;obtain⟨g1,g2,g3⟩:=ih.oper _ _ _ _ _ _ _ e;obtain⟨q1,q2,q3⟩:=ih.more _ _ _ _ _ _ _ _ (ie.two (aHg t) (ie.mono g2 _ s) g1) c;grind [ami]
mutual
theorem adk {nv:Nat} (vs:List Nat):∀ (x:Ex),ie nv x->eA (made vs x)
 | .mk kind name n k args,h=>by
  unfold ie at h;obtain⟨a,b,d,e,f,g,i,c⟩:=h;unfold made;split
  .grind [eA]
  .split
   .grind [eA]
   .split
    .simp_all [eA]
    .unfold eA;have:=KD vs args c;grind
 termination_by structural x=>x
theorem KD {nv:Nat} (vs:List Nat):∀ (l:List Ex),fi nv l->jt (nY vs l)/\(nY vs l).length=l.length
 | [],_=>by unfold nY jt;exact⟨trivial,J⟩
 | x::xs,h=>by
  unfold fi at h;have a:=adk vs x h.1;have b:=KD vs xs h.2;simp_all [nY,jt]
 termination_by structural x=>x
end
structure LeT(T:List Tok)(f:Nat):Prop where
 Cp:∀ k v d x k' v',oP T f k v d=O (.ok x k' v')->k'<=T.length
 args:∀ k v d a acc x k' v',oQ T f k v d a acc=O (.ok x k' v')->k'<=T.length
 list:∀ k v d x k' v',qu T f k v d=O (.ok x k' v')->k'<=T.length
 elems:∀ k v d acc x k' v',q8 T f k v d acc=O (.ok x k' v')->k'<=T.length
 oper:∀ l k v d x k' v',iZ T f l k v d=O (.ok x k' v')->k'<=T.length
 more:∀ l y k v d x k' v',k<=T.length->pj T f l y k v d=O (.ok x k' v')->k'<=T.length
def Tw{α:Type}{T:List Tok}{s:Bs}{x y:α}{v v':List Bs}(h:mR T s x k v=O (.ok y k' v')):k'<=T.length:=by
 unfold mR at h;split at h
 .rename_i hi;have:=xR hi;grind
 grind
def Xw(T:List Tok):∀ f,LeT T f
 | 0=>⟨by simp_all [oP],by simp_all [oQ],by simp_all [qu],by simp_all [q8],by simp_all [iZ],by simp_all [pj]⟩
 | f+1=>by
  have ih:=Xw T f;refine⟨?_,?_,?_,?_,?_,?_⟩
  .intro k v d x k' v' h;rw[oP] at h;split at h
   .grind
   split at h
   .rename_i hk;have:=Nh (T:=T) (k:=k) zo;grind
   split at h
   .rename_i hk;have:=Nh (T:=T) (k:=k) zo;grind [a1o,akt]
   split at h
   .rename_i hk;have:=Nh (T:=T) (k:=k) zo;split at h
    .obtain⟨a,e,v1,c,b⟩:=eh h;exact Tw b
    grind
   split at h
   .split at h
    .rename_i hk;have:=Nh (T:=T) (k:=k+1) zo;grind
    grind
   split at h
   .obtain⟨a,e,v1,c,b⟩:=eh h;exact Tw b
   split at h
   .exact ih.list _ _ _ _ _ _ h
   grind
  .intro k v d a acc x k' v' h;rw[oQ] at h;obtain⟨y,e,v1,c,b⟩:=eh h;split at b
   .exact ih.args _ _ _ _ _ _ _ _ b
   .split at b
    .grind
    .simp only[a1o,cj.ok.injEq] at b;have:=ih.oper _ _ _ _ _ _ _ c;omega
  .intro k v d x k' v' h;rw[qu] at h;split at h
   .rename_i hi;have:=xR hi;grind
   .obtain⟨all,e,v1,c,b⟩:=eh h;split at b
    .obtain⟨y,i,v2,j,g⟩:=eh b;exact Tw g
    .exact Tw b
  .intro k v d acc x k' v' h;rw[q8] at h;obtain⟨y,e,v1,c,b⟩:=eh h;split at b
   .exact ih.elems _ _ _ _ _ _ _ b
   .simp only[a1o,cj.ok.injEq] at b;have:=ih.oper _ _ _ _ _ _ _ c;omega
  .intro l k v d x k' v' h;rw[iZ] at h;split at h
   .exact ih.Cp _ _ _ _ _ _ h
   .obtain⟨y,e,v1,c,b⟩:=eh h;exact ih.more _ _ _ _ _ _ _ _ (ih.oper _ _ _ _ _ _ _ c) b
  .intro l y k v d x k' v' hk h;rw[pj] at h;split at h
   .grind
   .obtain⟨z,e,v1,c,b⟩:=eh h;exact ih.more _ _ _ _ _ _ _ _ (ih.oper _ _ _ _ _ _ _ c) b
mutual
def eX (nv M:Nat):Bd->Prop
 | .mk kind name args parts=>name.length<=9/\(kind=33\/kind=44\/kind=59\/kind=63\/kind=126\/kind=103)/\((kind=59->parts.length=2)/\(kind=63->parts.length=3)/\(kind=126->parts.length=1)) /\
  args.length<=4/\fi nv args/\fG args<=M/\parts.length<=M/\eY nv M parts
 termination_by structural x=>x
def eY (nv M:Nat):List Bd->Prop
 | []=>True
 | x::xs=>eX nv M x/\eY nv M xs
 termination_by structural x=>x
end
mutual
theorem eX.mono {n m M:Nat} (h:n<=m):∀ (x:Bd),eX n M x->eX m M x
 | .mk kind name args parts,hx=>by
  unfold eX at hx ⊢;obtain⟨a,b,c,d,e,f,g,i⟩:=hx;exact⟨a,b,c,d,fi.mono h args e,f,g,eY.mono h parts i⟩
 termination_by structural x=>x
theorem eY.mono {n m M:Nat} (h:n<=m):∀ (l:List Bd),eY n M l->eY m M l
 | [],hx=>by simp_all [eY]
 | x::xs,hx=>by
  unfold eY at hx ⊢;exact⟨eX.mono h x hx.1,eY.mono h xs hx.2⟩
 termination_by structural x=>x
end
theorem eY.nil:eY n M []:=by simp_all [eY]
def eY.snoc{n M:Nat}{x:Bd}(hx:eX n M x):∀ {a:List Bd},eY n M a->eY n M (a++[x])
 | [],_=>by simp_all [eY,eY.nil]
 | y::a,h=>by
  show eY n M (y::(a++[x]));unfold eY at h ⊢;exact⟨h.1,eY.snoc hx h.2⟩
theorem eY.at{n M:Nat}:∀ {l:List Bd} {j:Nat},eY n M l->(a:j<l.length)->eX n M l[j]
 | x::xs,0,h,_=>by simp_all [eY]
 | x::xs,j+1,h,a=>by unfold eY at h;exact eY.at h.2 zg
theorem adl:eX n M Ac:=by simp_all [Ac,eX,fi.nil,fG,eY.nil]
def aHk:eX n M O6:=by simp_all [O6,eX,fi.nil,fG,eY.nil]
def eY.one{a:Bd}(h:eX n M a):eY n M [a]:=by simp_all [eY,eY.nil]
def eY.cons{a:Bd}{l:List Bd}(h:eX n M a)(b:eY n M l):eY n M (a::l):=by simp_all [eY]
def amk:∀ (x:Ex),1<=iD x
 | .mk ..=>by simp [iD]
def aHl{T:List Tok}{c:Bs}(h:Ms T k=O c):c.length<=9/\k<T.length:=by
 unfold Ms at h;have hm:=a2q h;refine⟨?_,xR (List.find?_some h)⟩;simp only[Mr,List.mem_cons,List.not_mem_nil,or_false] at hm;grind
structure BOk(T:List Tok)(f:Nat):Prop where
 lit:∀ k v d x k' v',nQ T f k v d=O (.ok x k' v')->eX v'.length T.length x/\v.length<=v'.length/\k+1<=k'/\k'<=T.length
 lits:∀ k v d acc x k' v',eY v.length T.length acc->qw T f k v d acc=O (.ok x k' v')->eY v'.length T.length x/\v.length<=v'.length/\k+x.length<=k'+acc.length/\k'<=T.length/\k+1<=k'
 row:∀ k v d x k' v',oo T f k v d=O (.ok x k' v')->eX v'.length T.length x/\v.length<=v'.length/\k+1<=k'/\k'<=T.length
 rest:∀ k v d x k' v',qx T f k v d=O (.ok x k' v')->eX v'.length T.length x/\v.length<=v'.length/\k+1<=k'/\k'<=T.length
 body:∀ k v d x k' v',mS T f k v d=O (.ok x k' v')->eX v'.length T.length x/\v.length<=v'.length/\k+1<=k'/\k'<=T.length
theorem aHn{a b:Bd}(e:3<=M)(c:eX nv M a)(d:eX nv M b):eX nv M (.mk 59 [] [] [a,b]):=by
 unfold eX;exact⟨zs,zs,zs,zs,fi.nil,by simp [fG],zg,.cons c (.one d)⟩
theorem aml{a b c:Bd}(g:3<=M)(d:eX nv M a)(e:eX nv M b)(f:eX nv M c):eX nv M (.mk 63 [] [] [a,b,c]):=by
 unfold eX;exact⟨zs,zs,zs,zs,fi.nil,by simp [fG],zo,.cons d (.cons e (.one f))⟩
def Xx{T:List Tok}(o:CH T):∀ f,BOk T f
 | 0=>⟨by simp_all [nQ],by simp_all [qw],by simp_all [oo],by simp_all [qx],by simp_all [mS]⟩
 | f+1=>by
  have ih:=Xx o f;refine⟨?_,?_,?_,?_,?_⟩
  .intro k v d x k' v' h;rw[nQ] at h;split at h
   .grind
   split at h
   .rename_i hi;have hlt:=xR hi;simp only[a1o,cj.ok.injEq] at h;obtain⟨rfl,rfl,rfl⟩:=h;refine⟨?_,a1s _,zo,zo⟩;simp_all [eX,fi.nil,fG,eY.nil]
   split at h
   .obtain⟨b,m,v1,g,e⟩:=eh h;obtain⟨g1,g2,g3,g4⟩:=ih.lit _ _ _ _ _ _ g;simp only[a1o,cj.ok.injEq] at e;obtain⟨rfl,rfl,rfl⟩:=e;refine⟨?_,g2,zo,g4⟩;unfold eX;exact⟨zs,zs,zs,zs,fi.nil,by simp [fG],zg,.one g1⟩
   split at h
   .obtain⟨b,m,v1,g,e⟩:=eh h;obtain⟨g1,g2,g3,g4⟩:=ih.body _ _ _ _ _ _ g;have hm:=Tw e;obtain⟨rfl,rfl,rfl⟩:=oz e;grind
   .obtain⟨y,m,v1,g,e⟩:=eh h;obtain⟨g1,g2,g3⟩:=(PQ o f).oper _ _ _ _ _ _ _ g;have B:=amk y;have r:=(Xw T f).oper _ _ _ _ _ _ _ g;split at e
    .rename_i c s;obtain⟨C,c2⟩:=aHl s;obtain⟨z,p,v2,j,i⟩:=eh e;obtain⟨q1,q2,q3⟩:=(PQ o f).oper _ _ _ _ _ _ _ j;have D:=(Xw T f).oper _ _ _ _ _ _ _ j;simp only[a1o,cj.ok.injEq] at i;obtain⟨rfl,rfl,rfl⟩:=i;grind [eX,fG,eY.nil,fi,ie.mono,fi.nil]
    .split at e
     .grind
     .split at e
      .grind
      .simp only[a1o,cj.ok.injEq] at e;obtain⟨rfl,rfl,rfl⟩:=e;refine⟨?_,g2,zo,r⟩;obtain⟨kind,name,n,E,args⟩:=y;unfold ie at g1;unfold eX;simp only[iD] at g3;exact⟨g1.1,zs,zs,g1.2.2.2.2.1.1,g1.2.2.2.2.2.2.2,by grind [Ex.args],zs,eY.nil⟩
  .intro k v d acc x k' v' t h;rw[qw] at h;obtain⟨y,m,v1,g,e⟩:=eh h;obtain⟨g1,g2,g3,g4⟩:=ih.lit _ _ _ _ _ _ g;have u:=eY.snoc g1 (eY.mono g2 _ t);split at e
   .obtain⟨q1,q2,q3,q4,F⟩:=ih.lits _ _ _ _ _ _ _ u e;grind
   grind
  .intro k v d x k' v' h;rw[oo] at h;obtain⟨l,m,v1,g,e⟩:=eh h;obtain⟨g1,g2,g3,g4,g5⟩:=ih.lits _ _ _ _ _ _ _ eY.nil g;simp only[a1o,cj.ok.injEq] at e;obtain⟨rfl,rfl,rfl⟩:=e;grind [a1L,eY,eX,fi.nil,fG]
  .intro k v d x k' v' h;rw[qx] at h;split at h
   .grind
   .exact ih.body _ _ _ _ _ _ h
  .intro k v d x k' v' h;rw[mS] at h;obtain⟨a,m,v1,g,e⟩:=eh h;obtain⟨g1,g2,g3,g4⟩:=ih.row _ _ _ _ _ _ g;split at e
   .obtain⟨b,p,v2,j,i⟩:=eh e;obtain⟨q1,q2,q3,q4⟩:=ih.row _ _ _ _ _ _ j;split at i
    .obtain⟨c,H,v3,w,q⟩:=eh i;obtain⟨m1,m2,m3,m4⟩:=ih.rest _ _ _ _ _ _ w;simp only[a1o,cj.ok.injEq] at q;obtain⟨rfl,rfl,rfl⟩:=q;grind [aml,eX.mono]
    .simp only[a1o,cj.ok.injEq] at i;obtain⟨rfl,rfl,rfl⟩:=i;grind [aml,eX.mono,adl]
   .split at e
    .obtain⟨b,p,v2,j,i⟩:=eh e;obtain⟨q1,q2,q3,q4⟩:=ih.rest _ _ _ _ _ _ j;simp only[a1o,cj.ok.injEq] at i;obtain⟨rfl,rfl,rfl⟩:=i;grind [aHn,eX.mono]
    grind
def rP(T:List Tok):cj Bd:=
 match mS T (xS T) 0 [] 0 with
 | some (.ok b k vs)=>match mR T [46] b k vs with
  | some (.ok b k vs)=>if (tk T k).kind=0 then .ok b k vs else .err 2 (tk T k).pos
  | some (.err e a)=>.err e a
  | none=>.err 0 0
 | some (.err e a)=>.err e a
 | none=>.err 0 0
end P
open Go.Proofs.YtoegidfbnkaabaaGreatDoor.Sx
section
variable{p0 p1 p2 p3 p4 p5 p6 p7:Y}{w:Z}{R:Ending->Z->Prop}
def aHo:=cz w R [p0] (gc [] [] []) func12
def aHp:=cz w R [p0] (gc [] [] [12]) func22
end
open Go.RowKit Sx
def aHq(s:P.Bs)(w:Z)(g:s.length<=100000)(h:Xp w):Calls bbw 28 #[aT s] w (Xq w s):=by
 refine awW ?_;refine(aG6 s w g h).mono ?_;rintro e w1 ⟨f,d⟩;cases hr:P.program s with
 | err c a=>
  rw[hr] at d;obtain⟨b,rfl,i⟩:=d;refine bH ?_;refine⟨f,?_⟩;exact yH
 | ok cs k vs=>
  rw[hr] at d;obtain⟨v,vs,rfl,i,j⟩:=d;refine bH ?_;refine⟨f,?_⟩;exact yH
def aHr(w:Z)(s:P.Bs)(e:Ending)(w':Z):Prop:=
 Ext w w'/\match P.program s with
 | .err c a=>∃ b,e = ah (ak #[aq V,aj 73 (aq (O ⟨b,0,V⟩))])/\w'.heap[b]?=O (ae #[.int .i64 c,.int .i64 a] 77 (0,0))
 | .ok cs _ _=>∃ b v vs,e = ah (ak #[aq (O ⟨b,0,V⟩),ai])/\w'.heap[b]?=O (ae #[v] 72 (0,0))/\Nu w w' b /\
  fJ (Nu w w') w' 79 v vs/\km (Nu w w') w' vs cs
def aHs(s:P.Bs)(w:Z)(h:s.length<=100000)(i:Xp w):Calls bbw 22 #[aT s] w (aHr w s):=by
 refine aHp ?_;refine(aHq s w h i).mono ?_;rintro e w1 ⟨g,d⟩;have s1:=g.size;cases hr:P.program s with
 | err c a=>
  rw[hr] at d;obtain⟨b,rfl,f⟩:=d;refine bH ?_;refine⟨g,?_⟩;exact yH
 | ok cs k vs=>
  rw[hr] at d;obtain⟨v,vs,rfl,f,j⟩:=d;obtain⟨l,sn,m,rfl⟩:∃ a n c,v = .slice a n c:=by rcases f with⟨-,rfl⟩| ⟨b,cs',rfl,-⟩<;>exact zg
  refine bH ?_;refine⟨yF,?_⟩;rw[hr];refine⟨_,_,vs,J,yH,yH,f.mono (by grind [World.size_alloc]) yH,j.mono (by grind [World.size_alloc]) fun b cs t _ _ o=>yH⟩
open Go.Extern.Stop Go.Stop Go.Extern
def amm(t:Addr)(w:Z):(ReflectliteValue.unpack (aj 75 (aq (O t)))).run bbw w
 = .ok (.agg #[pq 12 75,pp w.heap.size,.int .u64 150]) (w.alloc (ae #[aq (O t)] 75)):=zk
def amn(a:Addr)(w:Z):(ReflectliteValue.methodAny (ReflectliteValue.valueError "reflectlite.Value.Type" 0) (fun t _ _ _=>ReflectliteType.toType t) #[.agg #[pq 12 75,aq (O a),.int .u64 150]]).run bbw w
 = .ok (aj 219 (.agg #[pq 12 75])) w:=zk
def adm(h:Y)(w:Z):(a69 476 219 (.agg #[h]) "Kind").run bbw w = .ok (196,h) w:=zk
def amo(w:Z):((ReflectliteType.abiMethod fun t=>Functor.map (fun a:Nat=>Value.int IntKind.u8 (a:Int)) (Rtype.kind t)) #[pq 12 75]).run bbw w = .ok (.int .u8 22) w:=zk
def amp(w:Z):((ReflectliteType.abiMethod fun t=>Functor.map (fun a:Nat=>Value.int IntKind.u8 (a:Int)) (Rtype.kind t)) #[pq 12 73]).run bbw w = .ok (.int .u8 22) w:=zk
def Xy(z:Sem Y)(f:TypeId->Addr->Nat->Nat->Sem Y)(v:Y) :
 ReflectliteValue.method z f #[v]=(do match <- ReflectliteValue.parts v with | none=>z | some (t,a,fl)=>f t a fl (fl % 32)):=rfl
def amq(a:Addr)(w:Z):(ReflectliteValue.parts (.agg #[pq 12 75,aq (O a),.int .u64 150])).run bbw w = .ok (O (75,a,150)) w:=zk
def amr(a p:Addr)(W:Z)(b:W.cell? a=O (aq (O p))) :
  (ReflectliteValue.method (ReflectliteValue.valueError "reflectlite.Value.IsNil" 0) ReflectliteValue.isNil #[.agg #[pq 12 75,aq (O a),.int .u64 150]]).run bbw W = .ok (.bool G) W:=by
 rw[Xy];simp only[a1C,amq,a2n];simp [ReflectliteValue.isNil,loadVar,isAgg,underlying,underlying75,b,a2n]
def adn(h:Y)(w:Z):(a69 476 219 (.agg #[h]) "Elem").run bbw w = .ok (238,.agg #[h]) w:=zk
def ado(h:Y)(w:Z):(a69 476 219 (.agg #[h]) "Implements").run bbw w = .ok (239,.agg #[h]) w:=zk
def adp(h:Y)(w:Z):(a69 476 219 (.agg #[h]) "AssignableTo").run bbw w = .ok (236,.agg #[h]) w:=zk
def ams(w:Z):(ReflectliteType.method ReflectliteType.elem #[.agg #[pq 12 75]]).run bbw w = .ok (aj 219 (.agg #[pq 12 73])) w:=zk
def amt(w:Z):(ReflectliteType.relation "Implements" ReflectliteType.implements_ #[.agg #[pq 12 73],aj 219 (.agg #[pq 12 57])]).run bbw w = .ok (.bool A) w:=zk
def aHt(v:Y)(w:Z):(ReflectliteType.typeOf #[aj 73 v]).run bbw w = .ok (aj 219 (.agg #[pq 12 73])) w:=zk
def aHu(w:Z):(ReflectliteType.relation "AssignableTo" ReflectliteType.assignableTo #[.agg #[pq 12 73],aj 219 (.agg #[pq 12 73])]).run bbw w = .ok (.bool A) w:=zk
def aHv(e:Addr)(w:Z):(ReflectliteValue.unpack (aj 73 (aq (O e)))).run bbw w
 = .ok (.agg #[pq 12 73,pp w.heap.size,.int .u64 150]) (w.alloc (ae #[aq (O e)] 73)):=zk
def aHw(w:Z):(Rtype.elem? 75).run bbw w = .ok (O 73) w:=zk
def aHx(p:Addr)(w:Z):(ReflectliteValue.mk 73 p ReflectliteValue.flagAddr).run bbw w = .ok (.agg #[pq 12 73,aq (O p),.int .u64 406]) w:=zk
def aHy(a p:Addr)(W:Z)(b:W.cell? a=O (aq (O p))) :
  (ReflectliteValue.method (ReflectliteValue.valueError "reflectlite.Value.Elem" 0) ReflectliteValue.elem #[.agg #[pq 12 75,aq (O a),.int .u64 150]]).run bbw W
   = .ok (.agg #[pq 12 73,aq (O p),.int .u64 406]) W:=by
 rw[Xy];simp only[a1C,amq,a2n];simp [ReflectliteValue.elem,loadVar,isAgg,underlying,underlying75,b,a2n,aHw,aHx]
def amu(v x:Y):ReflectliteValue.set #[v,x]=(do
 let (O (dst,a,fl),O (src,b,_)):=(<- ReflectliteValue.parts v,<- ReflectliteValue.parts x)
  | unsupported (.noEntry "extern/(internal/reflectlite.Value).Set.zeroValue")
 if fl / ReflectliteValue.flagAddr % 2 == 0 then unsupported (.noEntry "extern/(internal/reflectlite.Value).Set.unaddressable")
 let val <- loadVar src b
 if <- Rtype.directlyAssignable dst src then storeVar dst a val
 else if <- Rtype.implements dst src then
  if (<- Rtype.kind src) == 20 then
   match val with
   | ai=>unsupported (.noEntry "extern/reflectlite: a nil value of one interface type handed on as a value of another")
   | _=>storeVar dst a val
  else storeVar dst a (aj src val)
 else panicString ("reflectlite.Set: value of type "++(<- Rtype.spelt src)++ " is not assignable to type "++(<- Rtype.spelt dst))
 pure (ak #[])):=rfl
def aHz(a:Addr)(w:Z):(ReflectliteValue.parts (.agg #[pq 12 73,aq (O a),.int .u64 406])).run bbw w = .ok (O (73,a,406)) w:=zk
def aHA(a:Addr)(w:Z):(ReflectliteValue.parts (.agg #[pq 12 73,aq (O a),.int .u64 150])).run bbw w = .ok (O (73,a,150)) w:=zk
def aHB(w:Z):(Rtype.directlyAssignable 73 73).run bbw w = .ok A w:=zk
def aHC(a b e:Addr)(c:Y)(W:Z)(d:W.cell? b=O (aq (O e)))(ht:W.cell? a=O c)(f:W.frozen? a=G) :
  (ReflectliteValue.set #[.agg #[pq 12 73,aq (O a),.int .u64 406],.agg #[pq 12 73,aq (O b),.int .u64 150]]).run bbw W
   = .ok (ak #[]) (W.setCell a (aq (O e))):=by
 rw[amu];simp only[a1C,aHz,aHA,a2n];simp [ReflectliteValue.flagAddr,loadVar,isAgg,underlying,underlying73,d,a2n,aHB,storeVar,Value.cells,storeCells,Addr.add];rw[run_store bbw W a _ _ (by rfl)];grind
def aHD(e t:Addr)(Ff:Y)(w:Z)(hg:w.cell? ⟨0,0,V⟩=O (aj 219 (.agg #[pq 12 57])))(KE:w.cell? t=O Ff)(GC:w.frozen? t=G) :
  Calls bbw 29 #[aj 73 (aq (O e)),aj 75 (aq (O t))] w fun ev w'=>ev = ah (.bool A)/\w'=((((w.alloc (ae #[aq (O t)] 75)).alloc (ae #[pq 12 75,pp w.heap.size,.int .u64 150] 158)).alloc (ae #[pq 12 75,pp w.heap.size,.int .u64 150] 158)).alloc (ae #[aq (O e)] 73)).setCell t (aq (O e)):=by
 have h6:=@run_callFunc_extern bbw 54 _ (fun args=>ReflectliteValue.unpack (args.getD 0 (ak #[]))) func54 zk zk zk zk;have h7:=@run_callFunc_extern bbw 55 _ (ReflectliteValue.methodAny (ReflectliteValue.valueError "reflectlite.Value.Type" 0) (fun t _ _ _=>ReflectliteType.toType t)) func55 zk zk zk zk;have h8:=@run_callFunc_extern bbw 56 _ (ReflectliteValue.method (ReflectliteValue.valueError "reflectlite.Value.IsNil" 0) ReflectliteValue.isNil) func56 zk zk zk zk;have GU:=@run_callFunc_extern bbw 196 _ (ReflectliteType.abiMethod fun t=>do pure (.int .u8 (<- Rtype.kind t))) func196 zk zk zk zk;have h37:=@run_callFunc_extern bbw 238 _ (ReflectliteType.method ReflectliteType.elem) func238 zk zk zk zk;have h38:=@run_callFunc_extern bbw 239 _ (ReflectliteType.relation "Implements" ReflectliteType.implements_) func239 zk zk zk zk;have rQ:=@run_callFunc_extern bbw 87 _ ReflectliteType.typeOf func87 zk zk zk zk;have y3:=@run_callFunc_extern bbw 236 _ (ReflectliteType.relation "AssignableTo" ReflectliteType.assignableTo) func236 zk zk zk zk;have qK:=@run_callFunc_extern bbw 88 _ (ReflectliteValue.method (ReflectliteValue.valueError "reflectlite.Value.Elem" 0) ReflectliteValue.elem) func88 zk zk zk zk;have nX:=@run_callFunc_extern bbw 89 _ ReflectliteValue.set func89 zk zk zk zk;have tO:=aHt;have mA:=adp;have a25:=aHu;have v25:=aHv;have f6:=amm;have f7:=amn;have mK:=adm;have mE:=adn;have mI:=ado;have k27:=amo;have k25:=amp;have e27:=ams;have i25:=amt;have n8:=amr ⟨w.heap.size,0,V⟩ t ((w.alloc (ae #[aq (O t)] 75)).alloc (ae #[pq 12 75,pp w.heap.size,.int .u64 150] 158)) zs;have hlt:0<w.heap.size:=by
  grind [Nat.eq_zero_or_pos,World.cell?]
 have jO:((w.alloc (ae #[aq (O t)] 75)).alloc (ae #[pq 12 75,pp w.heap.size,.int .u64 150] 158)).cell? ⟨0,0,V⟩=O (aj 219 (.agg #[pq 12 57])):=by
  rw[a18 _ _ ⟨0,0,V⟩ zs,a18 _ _ ⟨0,0,V⟩ hlt];exact hg
 have tM:t.block<w.heap.size:=by
  grind [Nat.lt_or_ge,World.cell?,Array.getElem?_eq_none]
 have el:=aHy ⟨w.heap.size,0,V⟩ t (((w.alloc (ae #[aq (O t)] 75)).alloc (ae #[pq 12 75,pp w.heap.size,.int .u64 150] 158)).alloc (ae #[pq 12 75,pp w.heap.size,.int .u64 150] 158)) (by rw[a18 _ _ ⟨w.heap.size,0,V⟩ (by simp;omega)];simp);have st:=aHC t ⟨w.heap.size+1+1+1,0,V⟩ e Ff ((((w.alloc (ae #[aq (O t)] 75)).alloc (ae #[pq 12 75,pp w.heap.size,.int .u64 150] 158)).alloc (ae #[pq 12 75,pp w.heap.size,.int .u64 150] 158)).alloc (ae #[aq (O e)] 73))
  (by rw[World.cell?_alloc_at _ _ _ _ zs];rfl)
  (by rw[a18 _ _ t (by simp;omega),a18 _ _ t (by simp;omega),a18 _ _ t (by simp;omega),a18 _ _ t tM];exact KE)
  (by rw[a2w _ _ t (by simp;omega),a2w _ _ t (by simp;omega),a2w _ _ t (by simp;omega),a2w _ _ t (Nat.ne_of_lt tM)];exact GC)
 go_enter func29,ntmps29
 go_wp2
 refine wp_loop_rounds 1 ?_;rw[rounds_succ]
 go_wp2
 go_ret
 exact⟨J,J⟩
end Go.Proofs.YtoegidfbnkaabaaGreatDoor
namespace Go.Proofs.YtoegidfbnkaabaaGreatDoor
open Go.RowKit Sx
variable{f g i:Nat}
def adq(w:Z):Calls bbw 23 #[ai] w fun e w'=>Ext w w'/\e = ah (ak #[zi 0,zi (-1)]):=by
 refine abx ?_;refine bH ?_;exact yF
def CJ(w:Z):Prop:=w.cell? ⟨0,0,V⟩=O (aj 219 (.agg #[pq 12 57]))
theorem CJ.ext{w w':Z}(h:CJ w)(a:Ext w w'):CJ w':=MI h (by grind [bB.ext])
def amH(b:Nat)(c a:Int)(w:Z)(g:w.heap[b]?=aO #[zi c,zi a] 77)(h:CJ w) :
  Calls bbw 23 #[aj 73 (pp b)] w fun e w'=>Ext w w'/\e = ah (ak #[zi c,zi a]):=by
 refine abx ?_;refine bH ?_;obtain⟨d,i⟩:=cg ((w.alloc (ae #[aq V] 73)).alloc (ae #[zi 0] 27));have j:Ext w d:=yF;have q0:d.heap[w.heap.size]?=aO #[aq V] 73:=yH;rw[<- i];refine(aHD ⟨b,0,V⟩ ⟨w.heap.size,0,V⟩ _ d (h.ext j) (by simp [World.cell?,q0];rfl) (jJ q0 0)).mono ?_;rintro e w3 ⟨rfl,f⟩;obtain⟨k,l⟩:=cg ((((d.alloc (ae #[pp w.heap.size] 75)).alloc (ae #[pq 12 75,pp d.heap.size,.int .u64 150] 158)).alloc (ae #[pq 12 75,pp d.heap.size,.int .u64 150] 158)).alloc (ae #[pp b] 73));rw[<- l] at f;have m:Ext d k:=yF;have n:=m.ext _ _ q0;rw[vg n] at f;have o:Ext w w3:=by
  exact yF
 have q3:w3.heap[w.heap.size]?=aO #[pp b] 73:=by
  exact yH
 have q4:=o.ext _ _ g;refine dj @q3 @q4 ?_;exact yF
def aHF(w:Z)(s:P.Bs)(e:Ending)(w':Z):Prop:=
 Ext w w'/\match P.program s with
 | .err c a=>e = ah (ak #[aq V,.int .i64 c,.int .i64 a])
 | .ok cs _ _=>∃ b v vs,e = ah (ak #[aq (O ⟨b,0,V⟩),.int .i64 0,.int .i64 (-1)])/\w'.heap[b]?=O (ae #[v] 72 (0,0))/\Nu w w' b /\
  fJ (Nu w w') w' 79 v vs/\km (Nu w w') w' vs cs
def aHG(s:P.Bs)(w:Z)(i:s.length<=100000)(j:Xp w)(l:CJ w):Calls bbw 12 #[aT s] w (aHF w s):=by
 refine aHo ?_;refine(aHs s w i j).mono ?_;rintro e w1 ⟨m,d⟩;cases hr:P.program s with
 | err c a=>
  rw[hr] at d;obtain⟨b,rfl,g⟩:=d;refine bH ?_;refine(amH b c a w1 g (l.ext m)).mono ?_;rintro e w2 ⟨f,rfl⟩;refine bH ?_;refine⟨yF,?_⟩;grind
 | ok cs k vs=>
  rw[hr] at d;obtain⟨b,v,vs,rfl,g,n,q,o⟩:=d;refine bH ?_;refine(adq w1).mono ?_;rintro e w2 ⟨f,rfl⟩;have s2:=f.size;refine bH ?_;refine⟨yF,?_⟩;rw[hr];have h:∀ b,Nu w w1 b->Nu w w2 b:=zg;exact⟨b,v,vs,J,f.ext _ _ g,h _ n,(by grind [fJ.mono,bB.ext]),o.mono h fun b cs t _ _ p=>f.ext _ _ p⟩
open Go.Proofs.YtoegidfbnkaabaaGreatDoor.Sx
section
variable{p0 p1 p2 p3 p4 p5 p6 p7:Y}{w:Z}{R:Ending->Z->Prop}
def aHH:=cz w R [p0] (gc [] [(4001,[])] [15]) func76
def aHI:=cz w R [p0] (gc [] [] []) func37
end
namespace P
inductive jE where
 | fault (e:Nat)
 | DZ
deriving DecidableEq,Inhabited
abbrev Out(α:Type):=Option (Except jE α)
def Out.bind{α β:Type}(x:Out α)(k:α->Out β):Out β:=
 match x with
 | none=>V
 | some (.error e)=>O (.error e)
 | some (.ok a)=>k a
@[simp] theorem Out.eh{α β:Type}(a:α)(k:α->Out β):Out.bind (O (.ok a)) k=k a:=rfl
@[simp] theorem Out.aVX{α β:Type}(e:jE)(k:α->Out β):Out.bind (O (.error e)) k=O (.error e):=rfl
@[simp] theorem Out.bind_none{α β:Type}(k:α->Out β):Out.bind (V:Out α) k=none:=rfl
def Out.bind_some{α β:Type}{x:Out α}{k:α->Out β}{r:Except jE β}(h:Out.bind x k=O r):(∃ a,x=O (.ok a)/\k a=O r)\/(∃ e,x=O (.error e)/\r = .error e):=by
 cases x with
 | none=>simp_all
 | some y=>cases y with
  | error e=>simp_all
  | ok a=>simp_all
structure Sr where
 tr:Tr
 fuel:Nat
def Sr.dec(s:Sr):Sr:={ s with fuel:=s.fuel-1 }
def Sr.bind(s:Sr)(i:Nat)(t:Tm):Sr:={ s with tr:=(i,t)::s.tr }
def Sr.iE(s:Sr)(mark:Nat):Sr:={ s with tr:=s.tr.drop (s.tr.length-mark) }
mutual
def y5:Nat->Nat->Tm->Sr->Out (Bool×Sr)
 | 0,_,_,_=>V
 | f+1,i,t,s=>
  if s.fuel=0 then O (.error .DZ)
  else match fF s.tr f t with
   | none=>V
   | some (.var j)=>O (.ok (decide (j=i),s.dec))
   | some (.comp _ args)=>AF f i args s.dec
   | some _=>O (.ok (G,s.dec))
 termination_by structural f=>f
def AF:Nat->Nat->List Tm->Sr->Out (Bool×Sr)
 | 0,_,_,_=>V
 | _+1,_,[],s=>O (.ok (G,s))
 | f+1,i,a::r,s=>Out.bind (y5 f i a s) fun p=>if p.1 then O (.ok (A,p.2)) else AF f i r p.2
 termination_by structural f=>f
end
def tX(f:Nat)(i:Nat)(t:Tm)(s:Sr):Out (Bool×Sr):=
 Out.bind (y5 f i t s) fun p=>if p.1 then O (.ok (G,p.2)) else O (.ok (A,p.2.bind i t))
def flat:Tm->Tm->Bool
 | .atom a,.atom b=>a == b
 | .int a,.int b=>a == b
 | .var i,.var j=>i == j
 | _,_=>G
mutual
def lS:Nat->Tm->Tm->Sr->Out (Bool×Sr)
 | 0,_,_,_=>V
 | f+1,a,b,s=>
  if s.fuel=0 then O (.error .DZ)
  else match fF s.tr f a,fF s.tr f b with
   | some (.var i),O (.var j)=>if i=j then O (.ok (A,s.dec)) else tX f i (.var j) s.dec
   | some (.var i),O u=>tX f i u s.dec
   | some u,O (.var j)=>tX f j u s.dec
   | some (.comp n l),O (.comp m r)=>if n=m/\l.length=r.length then nL f l r s.dec else O (.ok (G,s.dec))
   | some u,O v=>O (.ok (flat u v,s.dec))
   | _,_=>V
 termination_by structural f=>f
def nL:Nat->List Tm->List Tm->Sr->Out (Bool×Sr)
 | 0,_,_,_=>V
 | f+1,a::l,b::r,s=>Out.bind (lS f a b s) fun p=>if p.1 then nL f l r p.2 else O (.ok (G,p.2))
 | _+1,_,_,s=>O (.ok (A,s))
 termination_by structural f=>f
end
mutual
def CK:Nat->Tm->Tm->Sr->Out (Bool×Sr)
 | 0,_,_,_=>V
 | f+1,a,b,s=>
  if s.fuel=0 then O (.error .DZ)
  else match fF s.tr f a,fF s.tr f b with
   | some (.comp n l),O (.comp m r)=>if n=m/\l.length=r.length then BD f l r s.dec else O (.ok (G,s.dec))
   | some u,O v=>O (.ok (flat u v,s.dec))
   | _,_=>V
 termination_by structural f=>f
def BD:Nat->List Tm->List Tm->Sr->Out (Bool×Sr)
 | 0,_,_,_=>V
 | f+1,a::l,b::r,s=>Out.bind (CK f a b s) fun p=>if p.1 then BD f l r p.2 else O (.ok (G,p.2))
 | _+1,_,_,s=>O (.ok (A,s))
 termination_by structural f=>f
end
def wrap64(z:Int):Int:=(z+9223372036854775808) % 18446744073709551616-9223372036854775808
def reckon(name:Bs)(a b:Int):Except jE Int:=
 if name=[43] then .ok (wrap64 (a+b)) else if name=[45] then .ok (wrap64 (a-b)) else if name=[42] then .ok (wrap64 (a*b))
 else if b=0 then .error (.fault 9)
 else if name=[47,47] then .ok (wrap64 (a.tdiv b))
 else .ok (if a.tmod b≠0/\(decide (a.tmod b<0)≠decide (b<0)) then wrap64 (a.tmod b+b) else a.tmod b)
def uE:Nat->Tm->Sr->Out (Int×Sr)
 | 0,_,_=>V
 | f+1,t,s=>
  if s.fuel=0 then O (.error .DZ)
  else match fF s.tr f t with
   | none=>V
   | some (.int n)=>O (.ok (n,s.dec))
   | some (.var _)=>O (.error (.fault 7))
   | some (.comp name [a,b])=>
    if lu name 2≠0 then
     Out.bind (uE f a s.dec) fun p=>Out.bind (uE f b p.2) fun q=>
      match reckon name p.1 q.1 with
      | .error e=>O (.error e)
      | .ok z=>O (.ok (z,q.2))
    else O (.error (.fault 8))
   | some _=>O (.error (.fault 8))
 termination_by structural f=>f
def Fg(name:Bs)(a b:Int):Bool:=
 if name=[60] then decide (a<b) else if name=[62] then decide (a > b) else if name=[61,60] then decide (a<=b) else if name=[62,61] then decide (a ≥ b) else decide (a=b)
def PS(name:Bs):Tm->Bool
 | .var _=>name == [118,97,114]
 | .atom _=>name == [110,111,110,118,97,114] || name == [97,116,111,109]
 | .int _=>name == [110,111,110,118,97,114] || name == [105,110,116,101,103,101,114]
 | .comp _ _=>name == [110,111,110,118,97,114]
def xW(f:Nat)(name:Bs)(args:List Tm)(s:Sr):Out (Bool×Sr):=
 if name=[116,114,117,101] then O (.ok (A,s))
 else if name=[61] then lS f (args.getD 0 default) (args.getD 1 default) s
 else if name=[92,61] then Out.bind (lS f (args.getD 0 default) (args.getD 1 default) s) fun p=>O (.ok (!p.1,p.2.iE s.tr.length))
 else if name=[61,61] then CK f (args.getD 0 default) (args.getD 1 default) s
 else if name=[105,115] then Out.bind (uE f (args.getD 1 default) s) fun p=>lS f (args.getD 0 default) (.int p.1) p.2
 else if name∈[[118,97,114],[110,111,110,118,97,114],[97,116,111,109],[105,110,116,101,103,101,114]] then
  match fF s.tr f (args.getD 0 default) with
  | none=>V
  | some t=>O (.ok (PS name t,s))
 else if name=[102,97,105,108] then O (.ok (G,s))
 else Out.bind (uE f (args.getD 0 default) s) fun p=>Out.bind (uE f (args.getD 1 default) p.2) fun q=>O (.ok (Fg name p.1 q.1,q.2))
def Le{α:Type}(x y:Option α):Prop:=∀ r,x=O r->y=O r
theorem Le.rfl{α:Type}{x:Option α}:Le x x:=fun _ h=>h
theorem Le.none{α:Type}{y:Option α}:Le (V:Option α) y:=fun _ h=>zg
theorem Le.trans{α:Type}{x y z:Option α}(h:Le x y)(a:Le y z):Le x z:=fun r hr=>a r (h r hr)
theorem Out.y6{α β:Type}{x y:Out α}{k k':α->Out β}(h:Le x y)(hk:∀ a,Le (k a) (k' a)):Le (Out.bind x k) (Out.bind y k'):=by
 intro r hr;obtain⟨a,b,c⟩| ⟨e,b,rfl⟩:=Out.bind_some hr
 .rw[h _ b];exact hk a _ c
 .rw[h _ b];rfl
def KG{tr:Tr}:∀ {f:Nat} {t:Tm},Le (fF tr f t) (fF tr (f+1) t)
 | f,.atom s=>by intro r h;simp_all [fF]
 | f,.int s=>by intro r h;simp_all [fF]
 | f,.comp s l=>by intro r h;simp_all [fF]
 | 0,.var i=>by
  intro r h;grind [fF]
 | f+1,.var i=>by
  intro r h;rw[fF] at h ⊢;split at h
  .omega
  .exact KG _ h
def amI:∀ f,(∀ i t s,Le (y5 f i t s) (y5 (f+1) i t s))/\(∀ i l s,Le (AF f i l s) (AF (f+1) i l s))
 | 0=>⟨fun _ _ _=>Le.none,fun _ _ _=>Le.none⟩
 | f+1=>by
  obtain⟨c,b⟩:=amI f;constructor
  .intro i t s;rw[y5,y5];split
   .exact Le.rfl
   .intro r hr;cases hw:fF s.tr f t with
    | none=>grind
    | some u=>
     rw[hw] at hr;rw[KG _ hw];cases u with
     | comp n l=>exact b _ _ _ _ hr
     | _=>exact hr
  .intro i l s;cases l with
   | nil=>exact Le.rfl
   | cons a l=>
    simp_all [AF,Out.y6,Le.rfl]
def amJ{t:Tm}{s:Sr}:Le (tX f i t s) (tX (f+1) i t s):=Out.y6 ((amI f).1 _ _ _) fun _=>Le.rfl
def Tx:∀ f,(∀ a b s,Le (lS f a b s) (lS (f+1) a b s))/\(∀ l r s,Le (nL f l r s) (nL (f+1) l r s))
 | 0=>⟨fun _ _ _=>Le.none,fun _ _ _=>Le.none⟩
 | f+1=>by
  obtain⟨e,d⟩:=Tx f;constructor
  .intro a b s;rw[lS,lS];split
   .exact Le.rfl
   .intro r hr;cases hw:fF s.tr f a with
    | none=>grind
    | some u=>
     rw[hw] at hr;rw[KG _ hw];cases hv:fF s.tr f b with
     | none=>grind
     | some v=>
      rw[hv] at hr;rw[KG _ hv];cases u<;>cases v<;>first
       | exact hr
       | exact amJ _ hr
       | (simp only at hr ⊢;split at hr<;>rename_i c;(rw[zip c];exact hr);rw[bM c];exact amJ _ hr)
       | (simp only at hr ⊢;split at hr<;>rename_i c;(rw[zip c];exact d _ _ _ _ hr);grind)
  .intro l r s;cases l with
   | nil=>exact Le.rfl
   | cons a l=>
    cases r with
    | nil=>exact Le.rfl
    | cons b r=>
     simp_all [nL,Out.y6,Le.rfl]
def amK:∀ f,(∀ a b s,Le (CK f a b s) (CK (f+1) a b s))/\(∀ l r s,Le (BD f l r s) (BD (f+1) l r s))
 | 0=>⟨fun _ _ _=>Le.none,fun _ _ _=>Le.none⟩
 | f+1=>by
  obtain⟨e,c⟩:=amK f;constructor
  .intro a b s;rw[CK,CK];split
   .exact Le.rfl
   .intro r hr;cases hw:fF s.tr f a with
    | none=>grind
    | some u=>
     rw[hw] at hr;rw[KG _ hw];cases hv:fF s.tr f b with
     | none=>grind
     | some v=>
      rw[hv] at hr;rw[KG _ hv];cases u<;>cases v<;>first
       | exact hr
       | (simp only at hr ⊢;split at hr<;>rename_i d;(rw[zip d];exact c _ _ _ _ hr);grind)
  .intro l r s;cases l with
   | nil=>exact Le.rfl
   | cons a l=>
    cases r with
    | nil=>exact Le.rfl
    | cons b r=>
     simp_all [BD,Out.y6,Le.rfl]
theorem ads:∀ f,∀ t s,Le (uE f t s) (uE (f+1) t s)
 | 0=>fun _ _=>Le.none
 | f+1=>by
  have ih:=ads f;intro t s;rw[uE,uE];split
  .exact Le.rfl
  .intro r hr;cases hw:fF s.tr f t with
   | none=>grind
   | some u=>
    rw[hw] at hr;rw[KG _ hw]
    match u,hr with
    | .atom _,hr=>omega
    | .int _,hr=>omega
    | .var _,hr=>omega
    | .comp _ [],hr=>omega
    | .comp _ [_],hr=>omega
    | .comp _ (_::_::_::_),hr=>omega
    | .comp name [a,b],hr=>
     simp only at hr ⊢;split at hr
     .rename_i c;rw[zip c];exact Out.y6 (ih _ _) (fun p=>Out.y6 (ih _ _) fun q=>Le.rfl) _ hr
     grind
def aHJ{name:Bs}{args:List Tm}{s:Sr}:Le (xW f name args s) (xW (f+1) name args s):=by
 unfold xW;split
 .exact Le.rfl
 split
 .simp_all [Tx]
 split
 .simp_all [Out.y6,Tx,Le.rfl]
 split
 .simp_all [amK]
 split
 .simp_all [Out.y6,ads,Tx]
 split
 .intro r hr;cases hw:fF s.tr f (args.getD 0 default) with
  | none=>grind
  | some u=>rw[hw] at hr;rw[KG _ hw];omega
 grind [Le.rfl,Out.y6,ads]
structure WLe(tr:Tr)(f:Nat):Prop where
 tm:∀ t l s,Le (lB tr f t l s) (lB tr (f+1) t l s)
 comp:∀ n a l s,Le (yZ tr f n a l s) (yZ tr (f+1) n a l s)
 args:∀ c a s,Le (sZ tr f c a s) (sZ tr (f+1) c a s)
 list:∀ c a b s,Le (vw tr f c a b s) (vw tr (f+1) c a b s)
def Le.many{α:Type}{F:Nat->Option α}(h:∀ f,Le (F f) (F (f+1)))(a:f<=g):Le (F f) (F g):=by
 obtain⟨k,rfl⟩:=Nat.le.dest a;induction k with
 | zero=>exact Le.rfl
 | succ k ih=>exact(ih (Nat.le_add_right _ _)).trans (h _)
end P
