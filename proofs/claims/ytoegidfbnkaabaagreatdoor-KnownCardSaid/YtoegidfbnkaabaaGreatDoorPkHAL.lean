/- A part of one proof (PureW, PureW2, PureE, PureG, PureQ, ShL1, SX7, SX8, SX9, ShQ1, PureX, PureO). -/
import Derived.Test.YtoegidfbnkaabaaGreatDoorPkHAK
import Derived.WalkKit
import Derived.LaidEql
import Derived.Stop.Asserts
import Derived.RowKitTokens
set_option linter.all false
set_option maxRecDepth 100000
set_option maxHeartbeats 8000000
open Option renaming some → O, none → V
open Go renaming Value → Y, World → Z
open Bool renaming true → A, false → G
open Go.Obj renaming cells → ae
open Go.Ending renaming returned → ah
open Go.Value renaming nilIface → ai, iface → aj, tuple → ak, pointer → aq
open Option.some renaming injEq → aZ9
open Nat renaming le_refl → a0d
open List renaming length_cons → a0j, length_nil → a0A, mem_of_find?_eq_some → a04, idxOf?_eq_some_iff → a3f
open Go.Sem renaming run_bind → a0l
open Go.World renaming cell?_alloc_lt → a0N, frozen?_alloc_old → a1b
open Go.Result renaming andThen → a00
open Go renaming method → a5M
open Go.Proofs.Tryz renaming prog → a90
open Go.Proofs.Tryz
namespace Go.Proofs.YtoegidfbnkaabaaGreatDoor
variable{M k k' n nv:Nat}
namespace P
inductive Tm where
 | atom (s:Bs)
 | int (n:Int)
 | var (i:Nat)
 | comp (name:Bs) (args:List Tm)
deriving Inhabited
abbrev Tr:=List (Nat×Tm)
def look(i:Nat):Tr->Option Tm
 | []=>V
 | (j,t)::r=>if i=j then O t else look i r
def fA(tr:Tr):Nat->Tm->Option Tm
 | f,.var i=>match look i tr with
  | none=>O (.var i)
  | some t=>match f with
   | 0=>V
   | f+1=>fA tr f t
 | _,t=>O t
def A9:Nat->Nat->Bs
 | 0,_=>[]
 | f+1,n=>if n<10 then [UInt8.ofNat (48+n)] else A9 f (n / 10)++[UInt8.ofNat (48+n % 10)]
def gj(n:Nat):Bs:=A9 (n+1) n
def kV(n:Int):Bs:=if n<0 then 45::gj n.natAbs else gj n.natAbs
structure Ws where
 fuel:Nat
 out:Bs
 seen:List Nat
def kr(name:Bs)(n:Nat):Nat:=
 if n≠2 then 0 else if name=[43]\/name=[45] then 1 else if name=[42]\/name=[47,47]\/name=[109,111,100] then 2 else 0
def Wb(x:Option (Option Ws))(k:Ws->Option (Option Ws)):Option (Option Ws):=
 match x with
 | none=>V
 | some V=>O V
 | some (O s)=>k s
def Ws.add(s:Ws)(x:Bs):Ws:={ s with out:=s.out++x }
def MK(s:Ws)(i:Nat):Ws:=
 match s.seen.idxOf? i with
 | some k=>s.add (95::gj (k+1))
 | none=>{ s with out:=s.out++95::gj (s.seen.length+1),seen:=s.seen++[i] }
mutual
def ku (tr:Tr):Nat->Tm->Nat->Ws->Option (Option Ws)
 | 0,_,_,_=>V
 | f+1,t,least,s=>
  if s.fuel=0 then O V
  else match fA tr f t with
   | none=>V
   | some (.atom a)=>O (O ({ s with fuel:=s.fuel-1 }.add a))
   | some (.int n)=>O (O ({ s with fuel:=s.fuel-1 }.add (kV n)))
   | some (.var i)=>O (O (MK { s with fuel:=s.fuel-1 } i))
   | some (.comp name args)=>yR tr f name args least { s with fuel:=s.fuel-1 }
 termination_by structural f=>f
def yR (tr:Tr):Nat->Bs->List Tm->Nat->Ws->Option (Option Ws)
 | 0,_,_,_,_=>V
 | f+1,name,args,least,s=>
  match args with
  | [a,b]=>
   if kr name 2≠0 then
    if kr name 2<least then
     Wb (ku tr f a (kr name 2) (s.add [40])) fun s=>Wb (ku tr f b (kr name 2+1) (s.add (if name=[109,111,100] then [32,109,111,100,32] else name))) fun s=>O (O (s.add [41]))
    else Wb (ku tr f a (kr name 2) s) fun s=>ku tr f b (kr name 2+1) (s.add (if name=[109,111,100] then [32,109,111,100,32] else name))
   else if name=[46] then vf tr f 91 a b s
   else Wb (py tr f 40 [a,b] (s.add name)) fun s=>O (O (s.add [41]))
  | _=>Wb (py tr f 40 args (s.add name)) fun s=>O (O (s.add [41]))
 termination_by structural f=>f
def py (tr:Tr):Nat->UInt8->List Tm->Ws->Option (Option Ws)
 | 0,_,_,_=>V
 | _+1,_,[],s=>O (O s)
 | f+1,sep,a::r,s=>Wb (ku tr f a 0 (s.add [sep])) fun s=>py tr f 44 r s
 termination_by structural f=>f
def vf (tr:Tr):Nat->UInt8->Tm->Tm->Ws->Option (Option Ws)
 | 0,_,_,_,_=>V
 | f+1,sep,a,b,s=>
  Wb (ku tr f a 0 (s.add [sep])) fun s=>
   match fA tr f b with
   | none=>V
   | some (.comp name args)=>match args with
    | [c,d]=>if name=[46] then vf tr f 44 c d s else Wb (ku tr f b 0 (s.add [124])) fun s=>O (O (s.add [93]))
    | _=>Wb (ku tr f b 0 (s.add [124])) fun s=>O (O (s.add [93]))
   | some (.atom x)=>if x=[91,93] then O (O (s.add [93])) else Wb (ku tr f b 0 (s.add [124])) fun s=>O (O (s.add [93]))
   | some _=>Wb (ku tr f b 0 (s.add [124])) fun s=>O (O (s.add [93]))
 termination_by structural f=>f
end
mutual
def made (vs:List Nat):Ex->Tm
 | .mk kind name n k args=>if kind=97 then .atom name else if kind=110 then .int n else if kind=118 then .var (vs.getD k 0) else .comp name (mS vs args)
 termination_by structural x=>x
def mS (vs:List Nat):List Ex->List Tm
 | []=>[]
 | x::xs=>made vs x::mS vs xs
 termination_by structural x=>x
end
mutual
def ef:Tm->Prop
 | .atom s=>s.length<=20/\s≠[]
 | .int n=>-9223372036854775808<=n/\n<=9223372036854775807
 | .var _=>True
 | .comp name args=>name.length<=20/\args.length<=100000/\ji args
 termination_by structural t=>t
def ji:List Tm->Prop
 | []=>True
 | t::a=>ef t/\ji a
 termination_by structural t=>t
end
def mH:Tr->Prop
 | []=>True
 | (_,t)::r=>ef t/\mH r
def look_ok:∀ {tr:Tr} {i:Nat} {t:Tm},mH tr->look i tr=O t->ef t
 | [],_,_,_,h=>by cases h
 | (j,u)::r,i,t,h,a=>by
  unfold look at a;split at a
  .injection a with a;subst a;exact h.1
  .exact look_ok h.2 a
def tj{tr:Tr}(h:mH tr):∀ {f:Nat} {t a:Tm},ef t->fA tr f t=O a->ef a
 | f,.atom s,a,ht,hw=>by simp_all [fA]
 | f,.int s,a,ht,hw=>by simp_all [fA]
 | f,.comp s l,a,ht,hw=>by simp_all [fA]
 | 0,.var i,a,ht,hw=>by
  grind [fA]
 | f+1,.var i,a,ht,hw=>by
  simp only[fA] at hw;split at hw
  .grind
  .rename_i t b;exact tj h (look_ok h b) hw
def aco(n:Nat):∀ k,n<10 ^ (k+1)->∀ f,n<f->(A9 f n).length<=k+1:=by
 intro k;induction k generalizing n with
 | zero=>
  intro h f a;cases f with
  | zero=>omega
  | succ f=>simp_all [A9,zip]
 | succ k ih=>
  intro h f a;cases f with
  | zero=>omega
  | succ f=>
   grind [A9,List.length_append,Nat.pow_succ,a0j,a0A]
theorem alm(h:n<10000000000000000000):(gj n).length<=19:=aco n 18 zo _ zo
theorem aGz{n:Int}(a:-9223372036854775808<=n)(b:n<=9223372036854775807):(kV n).length<=20:=by
 grind [gj,alm,kV]
def Ws.cS(s:Ws):Nat:=s.out.length+60*s.fuel
structure Ws.Ok(s:Ws):Prop where
 big:s.cS<=900000000
 seen:s.seen.length<=s.out.length
theorem Ws.oO(s:Ws)(x:Bs):(s.add x).cS=s.cS+x.length:=by grind [Ws.cS,Ws.add]
def Ba{x:Option (Option Ws)}{k:Ws->Option (Option Ws)}{r:Ws}(h:Wb x k=O (O r)):∃ s,x=O (O s)/\k s=O (O r):=by
 unfold Wb at h;grind
structure aGA(tr:Tr)(f:Nat):Prop where
 tm:∀ t least s r,ef t->s.cS<=900000100->s.seen.length<=s.out.length->ku tr f t least s=O (O r)->r.cS+30<=s.cS/\r.seen.length<=r.out.length
 comp:∀ name args least s r,ef (.comp name args)->s.cS<=900000100-60->s.seen.length<=s.out.length->yR tr f name args least s=O (O r)->r.cS<=s.cS+21/\r.seen.length<=r.out.length
 args:∀ c l s r,ji l->s.cS<=900000100-30->s.seen.length<=s.out.length->py tr f c l s=O (O r)->r.cS<=s.cS/\r.seen.length<=r.out.length
 list:∀ c a b s r,ef a->ef b->s.cS<=900000100-30->s.seen.length<=s.out.length->vf tr f c a b s=O (O r)->r.cS<=s.cS/\r.seen.length<=r.out.length
theorem Im{a b:Tm}(h:ji [a,b]):ef a/\ef b:=by
 simp_all [ji]
theorem oA{s:Ws}{x:Bs}(h:s.seen.length<=s.out.length):(s.add x).seen.length<=(s.add x).out.length:=by grind [Ws.add]
def Kc{tr:Tr}(ht:mH tr):∀ f,aGA tr f
 | 0=>⟨fun _ _ _ _ _ _ _ h=>by simp_all [ku],fun _ _ _ _ _ _ _ _ h=>by simp_all [yR],fun _ _ _ _ _ _ _ h=>by simp_all [py],fun _ _ _ _ _ _ _ _ _ h=>by simp_all [vf]⟩
 | f+1=>by
  have ih:=Kc ht f;refine⟨?_,?_,?_,?_⟩
  .intro t least s r i m j h;rw[ku] at h;split at h
   .grind
   rename_i C;have D:({ s with fuel:=s.fuel-1 }:Ws).cS+60=s.cS:=by grind [Ws.cS]
   split at h
   .grind
   .rename_i a hw;have:=tj ht i hw;grind [aZ9,ef,oA,Ws.oO]
   .rename_i a hw;have:=tj ht i hw;grind [aZ9,ef,aGz,oA,Ws.oO]
   .grind [aZ9,Ws.cS,MK,a3f,alm,oA,Ws.oO,a0j,gj,List.length_append,a0A]
   .rename_i name args hw;have g:=tj ht i hw;obtain⟨e,k⟩:=ih.comp name args least { s with fuel:=s.fuel-1 } r g zo j h;omega
  .intro name args least s r i m j h;rw[yR.eq_def] at h;dsimp only at h;unfold ef at i;obtain⟨E,q,n⟩:=i;have F:∀ l,ji l->Wb (py tr f 40 l (s.add name)) (fun s=>O (O (s.add [41])))=O (O r)->r.cS<=s.cS+21/\r.seen.length<=r.out.length:=by
    intro l q h;obtain⟨s1,g,e⟩:=Ba h;obtain⟨k,u⟩:=ih.args 40 l _ s1 q (by grind [Ws.oO]) (oA j) g;grind [aZ9,Ws.oO,oA]
   split at h
   .rename_i a b;obtain⟨o,p⟩:=Im n;have H:(if name=[109,111,100] then([32,109,111,100,32]:Bs) else name).length<=20:=zg;split at h
    .split at h
     .obtain⟨s1,g,e⟩:=Ba h;obtain⟨s2,k,u⟩:=Ba e;obtain⟨g1,g2⟩:=ih.tm a _ _ s1 o (by grind [Ws.oO]) (oA j) g;rw[Ws.oO] at g1;simp only[a0j,a0A] at g1;obtain⟨g3,g4⟩:=ih.tm b _ _ s2 p (by grind [Ws.oO]) (oA g2) k;grind [Ws.oO,aZ9,oA]
     .obtain⟨s1,g,e⟩:=Ba h;obtain⟨g1,g2⟩:=ih.tm a _ _ s1 o zo j g;obtain⟨g3,g4⟩:=ih.tm b _ _ r p (by grind [Ws.oO]) (oA g2) e;grind [Ws.oO]
    .split at h
     .obtain⟨g1,g2⟩:=ih.list 91 a b s r o p zo j h;omega
     grind
   grind
  .intro c l s r i m j h;cases l with
   | nil=>
    simp_all [py,aZ9,a0d]
   | cons a l=>
    rw[py] at h;unfold ji at i;obtain⟨s1,g,e⟩:=Ba h;obtain⟨g1,g2⟩:=ih.tm a _ _ s1 i.1 (by grind [Ws.oO]) (oA j) g;rw[Ws.oO] at g1;simp only[a0j,a0A] at g1;obtain⟨g3,g4⟩:=ih.args 44 l s1 r i.2 zo g2 e;omega
  .intro c a b s r n w m j h;rw[vf] at h;obtain⟨s1,g,e⟩:=Ba h;obtain⟨g1,g2⟩:=ih.tm a _ _ s1 n (by grind [Ws.oO]) (oA j) g;rw[Ws.oO] at g1;simp only[a0j,a0A] at g1;have y:Wb (ku tr f b 0 (s1.add [124])) (fun s=>O (O (s.add [93])))=O (O r)->r.cS<=s.cS/\r.seen.length<=r.out.length:=by
    intro h;obtain⟨s2,k,u⟩:=Ba h;obtain⟨g3,g4⟩:=ih.tm b _ _ s2 w (by grind [Ws.oO]) (oA g2) k;grind [Ws.oO,a0j,a0A,aZ9,oA]
   split at e
   .grind
   .rename_i name args hw;have x:=tj ht w hw;unfold ef at x;split at e
    .rename_i c d;obtain⟨z,B⟩:=Im x.2.2;split at e
     .obtain⟨g3,g4⟩:=ih.list 44 c d s1 r z B zo g2 e;omega
     grind
    grind
   .grind [aZ9,Ws.oO,oA]
   grind
def aGB{w:Bs}(h:rR w≠0):w.length<=9:=by
 unfold rR at h;grind
def aGC{s:Bs}(hm:s∈oo):s.length<=9:=by
 simp only[oo,List.mem_cons,List.not_mem_nil,or_false] at hm;rcases hm with rfl | rfl | rfl | rfl | rfl | rfl | rfl | rfl | rfl | rfl | rfl | rfl | rfl | rfl | rfl | rfl | rfl | rfl | rfl | rfl | rfl | rfl | rfl<;>decide
def Kd:∀ (f:Nat) (r:Bs) (i:Nat) (T:List Tok),oq f r i=O (.inr T)->∀ u∈T,u.text.length<=9
 | 0,r,i,T,h=>by simp_all [oq]
 | f+1,[],i,T,h=>by
  rw[oq] at h;grind
 | f+1,c::r,i,T,h=>by
  have key:∀ (x:Option (Sum Nat (List Tok))) (t:Tok),(∀ l,x=O (.inr l)->∀ u∈l,u.text.length<=9)->t.text.length<=9 ->
    (match x with | some (.inr l)=>O (.inr (t::l)) | y=>y)=O (.inr T)->∀ u∈T,u.text.length<=9:=by
   grind
  rw[oq] at h;split at h
  .exact Kd f r (i+1) T h
  split at h
  .dsimp only at h;split at h
   .grind
   .rename_i d hw;exact key _ _ (fun l a=>Kd f _ _ l a) (aGB hw) h
  split at h
  .exact key _ _ (fun l a=>Kd f _ _ l a) zs h
  split at h
  .grind
  .rename_i s b;exact key _ _ (fun l a=>Kd f _ _ l a) (aGC (a04 b)) h
mutual
def gH:Ex->Nat
 | .mk _ _ _ _ args=>ft args+1
 termination_by structural x=>x
def ft:List Ex->Nat
 | []=>0
 | x::xs=>gH x+ft xs
 termination_by structural x=>x
end
def acp:∀ (a b:List Ex),ft (a++b)=ft a+ft b
 | [],b=>by simp [ft]
 | x::a,b=>by simp [ft,acp a b];omega
mutual
def gO (nv:Nat):Ex->Prop
 | .mk kind name n k args=>name.length<=9/\(-999999999<=n/\n<=999999999)/\(kind=97\/kind=110\/kind=118\/kind=99)/\(kind=118->k<nv)/\(args.length<=4/\(kind=99->args≠[]))/\(kind=97->name≠[])/\(kind≠99->args=[])/\eZ nv args
 termination_by structural x=>x
def eZ (nv:Nat):List Ex->Prop
 | []=>True
 | x::xs=>gO nv x/\eZ nv xs
 termination_by structural x=>x
end
mutual
theorem gO.mono {n m:Nat} (h:n<=m):∀ (x:Ex),gO n x->gO m x
 | .mk kind name k v args,hx=>by
  unfold gO at hx ⊢;obtain⟨a,b,c,d,f,g,i,j⟩:=hx;exact⟨a,b,c,fun e=>Nat.lt_of_lt_of_le (d e) h,f,g,i,eZ.mono h args j⟩
 termination_by structural x=>x
theorem eZ.mono {n m:Nat} (h:n<=m):∀ (l:List Ex),eZ n l->eZ m l
 | [],hx=>by simp_all [eZ]
 | x::xs,hx=>by
  unfold eZ at hx ⊢;exact⟨gO.mono h x hx.1,eZ.mono h xs hx.2⟩
 termination_by structural x=>x
end
def eZ.append{n:Nat}:∀ {a b:List Ex},eZ n a->eZ n b->eZ n (a++b)
 | [],b,_,c=>c
 | x::a,b,d,c=>by
  show eZ n (x::(a++b));unfold eZ at d ⊢;exact⟨d.1,eZ.append d.2 c⟩
def eZ.snoc{a:List Ex}{x:Ex}(b:eZ n a)(hx:gO n x):eZ n (a++[x]):=b.append (by simp_all [eZ])
theorem eZ.nil:eZ n []:=by simp_all [eZ]
theorem eZ.at{n:Nat}:∀ {l:List Ex} {j:Nat},eZ n l->(a:j<l.length)->gO n l[j]
 | x::xs,0,h,_=>by simp_all [eZ]
 | x::xs,j+1,h,a=>by unfold eZ at h;exact eZ.at h.2 zg
theorem gO.two{name:Bs}{a b:Ex}(c:name.length<=9)(d:gO nv a)(e:gO nv b):gO nv (.mk 99 name 0 0 [a,b]):=by
 simp_all [gO,eZ,eZ.nil]
theorem alo{name:Bs}{a b:Ex}:gH (.mk k name 0 0 [a,b])=gH a+gH b+1:=by simp [gH,ft]
def aGD{l:Nat}{T:List Tok}{o:Bs}(h:Rb T l k=O o):o.length<=9:=by
 have hm:=a04 h;grind [ops]
structure Bb(T:List Tok):Prop where
 len:∀ u∈T,u.text.length<=9
 word:∀ u∈T,u.kind=1->u.text≠[]
 digits:∀ u∈T,u.kind=3->u.text.all digit=A
def Wv{T:List Tok}(h:(tk T k).kind≠0):tk T k∈T:=by
 grind [Nat.lt_or_ge,absurd,tk,List.getElem?_eq_none,List.getElem?_eq_getElem,List.getElem_mem]
def aGE{t:Tok}{v v':List Bs}{x:Ex}(h:zI t k v = .ok x k' v'):gO v'.length x/\v.length<=v'.length/\k'=k/\gH x=1:=by
 unfold zI at h;split at h
 .rename_i j e;injection h with a b c;subst a b c;have d:j<v.length:=by
   grind [a3f]
  refine⟨?_,a0d _,J,by simp [gH,ft]⟩;unfold gO;exact⟨zs,zo,zs,fun _=>d,zs,zs,zs,eZ.nil⟩
 .split at h
  .grind
  .injection h with a b c;subst a b c;refine⟨?_,zs,J,by simp [gH,ft]⟩;unfold gO;exact⟨zs,zo,zs,fun _=>zs,zs,zs,zs,eZ.nil⟩
theorem acq{nv:Nat}{x:Ex}(hx:gO nv x):∀ {all:List Ex},eZ nv all->gO nv (CZ all x)/\gH (CZ all x)=ft all+all.length+gH x
 | [],_=>⟨hx,by simp [CZ,ft]⟩
 | a::l,h=>by
  unfold eZ at h;obtain⟨b,c⟩:=acq hx h.2;grind [gO.two,gH,CZ,alo,ft]
theorem alp:gO nv (.mk 97 [91,93] 0 0 []):=by
 simp_all [gO,eZ.nil]
structure EOk(T:List Tok)(f:Nat):Prop where
 EG:∀ k v d x k' v',pR T f k v d=O (.ok x k' v')->gO v'.length x/\v.length<=v'.length/\k+gH x<=k'
 args:∀ k v d a acc x k' v',eZ v.length acc->oX T f k v d a acc=O (.ok x k' v')->eZ v'.length x/\v.length<=v'.length/\k+ft x<=k'+ft acc/\x.length<=4/\x≠[]
 list:∀ k v d x k' v',rf T f k v d=O (.ok x k' v')->gO v'.length x/\v.length<=v'.length/\k+gH x<=k'+1
 elems:∀ k v d acc x k' v',eZ v.length acc->rS T f k v d acc=O (.ok x k' v')->eZ v'.length x/\v.length<=v'.length/\k+ft x+x.length<=k'+ft acc+acc.length+1
 oper:∀ l k v d x k' v',jo T f l k v d=O (.ok x k' v')->gO v'.length x/\v.length<=v'.length/\k+gH x<=k'
 more:∀ l y k v d x k' v',gO v.length y->qD T f l y k v d=O (.ok x k' v')->gO v'.length x/\v.length<=v'.length/\k+gH x<=k'+gH y
def ML{T:List Tok}(g:Bb T):∀ f,EOk T f
 | 0=>⟨by simp_all [pR],by simp_all [oX],by simp_all [rf],by simp_all [rS],by simp_all [jo],by simp_all [qD]⟩
 | f+1=>by
  have ih:=ML g f;refine⟨?_,?_,?_,?_,?_,?_⟩
  .intro k v d x k' v' h;rw[pR] at h;split at h
   .grind
   split at h
   .rename_i hk;simp only[aZ9,cg.ok.injEq] at h;obtain⟨rfl,rfl,rfl⟩:=h;have hm:=Wv (T:=T) (k:=k) zo;obtain⟨a,b⟩:=Zr (g.digits _ hm hk) (g.len _ hm);refine⟨?_,a0d _,by simp [gH,ft]⟩;grind [gO,eZ.nil]
   split at h
   .simp only[aZ9] at h;obtain⟨e,c,rfl,n⟩:=aGE h;grind
   split at h
   .rename_i hk;have hm:=Wv (T:=T) (k:=k) zo;split at h
    .obtain⟨a,i,v1,e,c⟩:=eh h;obtain⟨g1,g2,g3,g4⟩:=ih.args _ _ _ _ _ _ _ _ eZ.nil e;obtain⟨rfl,rfl,rfl⟩:=nR c;refine⟨?_,g2,by grind [gH,ft]⟩;unfold gO;exact⟨g.len _ hm,zo,zs,zs,⟨g4.1,fun _=>g4.2⟩,zs,zs,g1⟩
    .simp only[aZ9,cg.ok.injEq] at h;obtain⟨rfl,rfl,rfl⟩:=h;refine⟨?_,a0d _,by simp [gH,ft]⟩;unfold gO;exact⟨g.len _ hm,zo,zs,zs,zs,fun _=>g.word _ hm hk,zs,eZ.nil⟩
   split at h
   .split at h
    .rename_i hk;simp only[aZ9,cg.ok.injEq] at h;obtain⟨rfl,rfl,rfl⟩:=h;have hm:=Wv (T:=T) (k:=k+1) zo;obtain⟨a,b⟩:=Zr (g.digits _ hm hk) (g.len _ hm);refine⟨?_,a0d _,by simp [gH,ft]⟩;grind [gO,eZ.nil]
    grind
   split at h
   .obtain⟨a,i,v1,e,c⟩:=eh h;obtain⟨g1,g2,g3⟩:=ih.oper _ _ _ _ _ _ _ e;obtain⟨rfl,rfl,rfl⟩:=nR c;grind
   split at h
   .obtain⟨g1,g2,g3⟩:=ih.list _ _ _ _ _ _ h;grind
   grind
  .intro k v d a acc x k' v' j h;rw[oX] at h;obtain⟨y,i,v1,e,c⟩:=eh h;obtain⟨g1,g2,g3⟩:=ih.oper _ _ _ _ _ _ _ e;have m:=(eZ.mono g2 _ j).snoc g1;have p:ft (acc++[y])=ft acc+gH y:=by simp_all [acp,ft]
   split at c
   .obtain⟨q1,q2,q3,q4⟩:=ih.args _ _ _ _ _ _ _ _ m c;grind
   .split at c
    .grind
    .rename_i q;simp only[aZ9,cg.ok.injEq] at c;obtain⟨rfl,rfl,rfl⟩:=c;grind [Vl]
  .intro k v d x k' v' h;rw[rf] at h;split at h
   .simp only[aZ9,cg.ok.injEq] at h;obtain⟨rfl,rfl,rfl⟩:=h;simp_all [alp,a0d,gH,ft]
   .obtain⟨all,i,v1,e,c⟩:=eh h;obtain⟨g1,g2,g3⟩:=ih.elems _ _ _ _ _ _ _ eZ.nil e;simp [ft] at g3;split at c
    .obtain⟨y,u,v2,r,n⟩:=eh c;obtain⟨q1,q2,q3⟩:=ih.oper _ _ _ _ _ _ _ r;obtain⟨rfl,rfl,rfl⟩:=nR n;grind [acq,eZ.mono]
    .obtain⟨rfl,rfl,rfl⟩:=nR c;grind [acq,alp,gH,ft]
  .intro k v d acc x k' v' j h;rw[rS] at h;obtain⟨y,i,v1,e,c⟩:=eh h;obtain⟨g1,g2,g3⟩:=ih.oper _ _ _ _ _ _ _ e;have m:=(eZ.mono g2 _ j).snoc g1;have p:ft (acc++[y])=ft acc+gH y:=by simp_all [acp,ft]
   have q:(acc++[y]).length=acc.length+1:=zs;split at c
   .obtain⟨q1,q2,q3⟩:=ih.elems _ _ _ _ _ _ _ m c;grind
   grind
  .intro l k v d x k' v' h;rw[jo] at h;split at h
   .exact ih.EG _ _ _ _ _ _ h
   .obtain⟨y,i,v1,e,c⟩:=eh h;obtain⟨g1,g2,g3⟩:=ih.oper _ _ _ _ _ _ _ e;obtain⟨q1,q2,q3⟩:=ih.more _ _ _ _ _ _ _ _ g1 c;grind
  .intro l y k v d x k' v' s h;rw[qD] at h;split at h
   .grind
   .rename_i o t;obtain⟨z,i,v1,e,c⟩:=eh h;obtain⟨g1,g2,g3⟩:=ih.oper _ _ _ _ _ _ _ e;obtain⟨q1,q2,q3⟩:=ih.more _ _ _ _ _ _ _ _ (gO.two (aGD t) (gO.mono g2 _ s) g1) c;grind [alo]
mutual
theorem SA {nv:Nat} (vs:List Nat):∀ (x:Ex),gO nv x->ef (made vs x)
 | .mk kind name n k args,h=>by
  unfold gO at h;obtain⟨a,b,d,e,f,g,i,c⟩:=h;unfold made;split
  .grind [ef]
  .split
   .grind [ef]
   .split
    .simp_all [ef]
    .unfold ef;have:=Ke vs args c;grind
 termination_by structural x=>x
theorem Ke {nv:Nat} (vs:List Nat):∀ (l:List Ex),eZ nv l->ji (mS vs l)/\(mS vs l).length=l.length
 | [],_=>by unfold mS ji;exact⟨trivial,J⟩
 | x::xs,h=>by
  unfold eZ at h;have a:=SA vs x h.1;have b:=Ke vs xs h.2;simp_all [mS,ji]
 termination_by structural x=>x
end
structure LeT(T:List Tok)(f:Nat):Prop where
 EG:∀ k v d x k' v',pR T f k v d=O (.ok x k' v')->k'<=T.length
 args:∀ k v d a acc x k' v',oX T f k v d a acc=O (.ok x k' v')->k'<=T.length
 list:∀ k v d x k' v',rf T f k v d=O (.ok x k' v')->k'<=T.length
 elems:∀ k v d acc x k' v',rS T f k v d acc=O (.ok x k' v')->k'<=T.length
 oper:∀ l k v d x k' v',jo T f l k v d=O (.ok x k' v')->k'<=T.length
 more:∀ l y k v d x k' v',k<=T.length->qD T f l y k v d=O (.ok x k' v')->k'<=T.length
def SC{α:Type}{T:List Tok}{s:Bs}{x y:α}{v v':List Bs}(h:mZ T s x k v=O (.ok y k' v')):k'<=T.length:=by
 unfold mZ at h;split at h
 .rename_i a;have:=xF a;grind
 grind
def SD(T:List Tok):∀ f,LeT T f
 | 0=>⟨by simp_all [pR],by simp_all [oX],by simp_all [rf],by simp_all [rS],by simp_all [jo],by simp_all [qD]⟩
 | f+1=>by
  have ih:=SD T f;refine⟨?_,?_,?_,?_,?_,?_⟩
  .intro k v d x k' v' h;rw[pR] at h;split at h
   .grind
   split at h
   .rename_i hk;have:=MF (T:=T) (k:=k) zo;grind
   split at h
   .rename_i hk;have:=MF (T:=T) (k:=k) zo;grind [aZ9,ajy]
   split at h
   .rename_i hk;have:=MF (T:=T) (k:=k) zo;split at h
    .obtain⟨a,e,v1,c,b⟩:=eh h;exact SC b
    grind
   split at h
   .split at h
    .rename_i hk;have:=MF (T:=T) (k:=k+1) zo;grind
    grind
   split at h
   .obtain⟨a,e,v1,c,b⟩:=eh h;exact SC b
   split at h
   .exact ih.list _ _ _ _ _ _ h
   grind
  .intro k v d a acc x k' v' h;rw[oX] at h;obtain⟨y,e,v1,c,b⟩:=eh h;split at b
   .exact ih.args _ _ _ _ _ _ _ _ b
   .split at b
    .grind
    .simp only[aZ9,cg.ok.injEq] at b;have:=ih.oper _ _ _ _ _ _ _ c;omega
  .intro k v d x k' v' h;rw[rf] at h;split at h
   .rename_i g;have:=xF g;grind
   .obtain⟨all,e,v1,c,b⟩:=eh h;split at b
    .obtain⟨y,j,v2,m,i⟩:=eh b;exact SC i
    .exact SC b
  .intro k v d acc x k' v' h;rw[rS] at h;obtain⟨y,e,v1,c,b⟩:=eh h;split at b
   .exact ih.elems _ _ _ _ _ _ _ b
   .simp only[aZ9,cg.ok.injEq] at b;have:=ih.oper _ _ _ _ _ _ _ c;omega
  .intro l k v d x k' v' h;rw[jo] at h;split at h
   .exact ih.EG _ _ _ _ _ _ h
   .obtain⟨y,e,v1,c,b⟩:=eh h;exact ih.more _ _ _ _ _ _ _ _ (ih.oper _ _ _ _ _ _ _ c) b
  .intro l y k v d x k' v' hk h;rw[qD] at h;split at h
   .grind
   .obtain⟨z,e,v1,c,b⟩:=eh h;exact ih.more _ _ _ _ _ _ _ _ (ih.oper _ _ _ _ _ _ _ c) b
mutual
def eV (nv M:Nat):Bd->Prop
 | .mk kind name args parts=>name.length<=9/\(kind=33\/kind=44\/kind=59\/kind=63\/kind=126\/kind=103)/\((kind=59->parts.length=2)/\(kind=63->parts.length=3)/\(kind=126->parts.length=1)) /\
  args.length<=4/\eZ nv args/\ft args<=M/\parts.length<=M/\eW nv M parts
 termination_by structural x=>x
def eW (nv M:Nat):List Bd->Prop
 | []=>True
 | x::xs=>eV nv M x/\eW nv M xs
 termination_by structural x=>x
end
mutual
theorem eV.mono {n m M:Nat} (h:n<=m):∀ (x:Bd),eV n M x->eV m M x
 | .mk kind name args parts,hx=>by
  unfold eV at hx ⊢;obtain⟨a,b,c,d,e,f,g,i⟩:=hx;exact⟨a,b,c,d,eZ.mono h args e,f,g,eW.mono h parts i⟩
 termination_by structural x=>x
theorem eW.mono {n m M:Nat} (h:n<=m):∀ (l:List Bd),eW n M l->eW m M l
 | [],hx=>by simp_all [eW]
 | x::xs,hx=>by
  unfold eW at hx ⊢;exact⟨eV.mono h x hx.1,eW.mono h xs hx.2⟩
 termination_by structural x=>x
end
theorem eW.nil:eW n M []:=by simp_all [eW]
def eW.snoc{n M:Nat}{x:Bd}(hx:eV n M x):∀ {a:List Bd},eW n M a->eW n M (a++[x])
 | [],_=>by simp_all [eW,eW.nil]
 | y::a,h=>by
  show eW n M (y::(a++[x]));unfold eW at h ⊢;exact⟨h.1,eW.snoc hx h.2⟩
theorem eW.at{n M:Nat}:∀ {l:List Bd} {j:Nat},eW n M l->(a:j<l.length)->eV n M l[j]
 | x::xs,0,h,_=>by simp_all [eW]
 | x::xs,j+1,h,a=>by unfold eW at h;exact eW.at h.2 zg
theorem acr:eV n M zJ:=by simp_all [zJ,eV,eZ.nil,ft,eW.nil]
def aGH:eV n M Oo:=by simp_all [Oo,eV,eZ.nil,ft,eW.nil]
def eW.one{a:Bd}(h:eV n M a):eW n M [a]:=by simp_all [eW,eW.nil]
def eW.cons{a:Bd}{l:List Bd}(h:eV n M a)(b:eW n M l):eW n M (a::l):=by simp_all [eW]
def alq:∀ (x:Ex),1<=gH x
 | .mk ..=>by simp [gH]
def aGI{T:List Tok}{c:Bs}(h:LK T k=O c):c.length<=9/\k<T.length:=by
 unfold LK at h;have hm:=a04 h;refine⟨?_,xF (List.find?_some h)⟩;simp only[LH,List.mem_cons,List.not_mem_nil,or_false] at hm;grind
structure BOk(T:List Tok)(f:Nat):Prop where
 lit:∀ k v d x k' v',nt T f k v d=O (.ok x k' v')->eV v'.length T.length x/\v.length<=v'.length/\k+1<=k'/\k'<=T.length
 lits:∀ k v d acc x k' v',eW v.length T.length acc->pS T f k v d acc=O (.ok x k' v')->eW v'.length T.length x/\v.length<=v'.length/\k+x.length<=k'+acc.length/\k'<=T.length/\k+1<=k'
 row:∀ k v d x k' v',nN T f k v d=O (.ok x k' v')->eV v'.length T.length x/\v.length<=v'.length/\k+1<=k'/\k'<=T.length
 rest:∀ k v d x k' v',pU T f k v d=O (.ok x k' v')->eV v'.length T.length x/\v.length<=v'.length/\k+1<=k'/\k'<=T.length
 body:∀ k v d x k' v',mw T f k v d=O (.ok x k' v')->eV v'.length T.length x/\v.length<=v'.length/\k+1<=k'/\k'<=T.length
theorem aGK{a b:Bd}(e:3<=M)(c:eV nv M a)(d:eV nv M b):eV nv M (.mk 59 [] [] [a,b]):=by
 unfold eV;exact⟨zs,zs,zs,zs,eZ.nil,by simp [ft],zg,.cons c (.one d)⟩
theorem alr{a b c:Bd}(g:3<=M)(d:eV nv M a)(e:eV nv M b)(f:eV nv M c):eV nv M (.mk 63 [] [] [a,b,c]):=by
 unfold eV;exact⟨zs,zs,zs,zs,eZ.nil,by simp [ft],zo,.cons d (.cons e (.one f))⟩
def Ww{T:List Tok}(o:Bb T):∀ f,BOk T f
 | 0=>⟨by simp_all [nt],by simp_all [pS],by simp_all [nN],by simp_all [pU],by simp_all [mw]⟩
 | f+1=>by
  have ih:=Ww o f;refine⟨?_,?_,?_,?_,?_⟩
  .intro k v d x k' v' h;rw[nt] at h;split at h
   .grind
   split at h
   .rename_i r;have hlt:=xF r;simp only[aZ9,cg.ok.injEq] at h;obtain⟨rfl,rfl,rfl⟩:=h;refine⟨?_,a0d _,zo,zo⟩;simp_all [eV,eZ.nil,ft,eW.nil]
   split at h
   .obtain⟨b,m,v1,g,e⟩:=eh h;obtain⟨g1,g2,g3,g4⟩:=ih.lit _ _ _ _ _ _ g;simp only[aZ9,cg.ok.injEq] at e;obtain⟨rfl,rfl,rfl⟩:=e;refine⟨?_,g2,zo,g4⟩;unfold eV;exact⟨zs,zs,zs,zs,eZ.nil,by simp [ft],zg,.one g1⟩
   split at h
   .obtain⟨b,m,v1,g,e⟩:=eh h;obtain⟨g1,g2,g3,g4⟩:=ih.body _ _ _ _ _ _ g;have hm:=SC e;obtain⟨rfl,rfl,rfl⟩:=nR e;grind
   .obtain⟨y,m,v1,g,e⟩:=eh h;obtain⟨g1,g2,g3⟩:=(ML o f).oper _ _ _ _ _ _ _ g;have C:=alq y;have s:=(SD T f).oper _ _ _ _ _ _ _ g;split at e
    .rename_i c t;obtain⟨D,c2⟩:=aGI t;obtain⟨z,p,v2,j,i⟩:=eh e;obtain⟨q1,q2,q3⟩:=(ML o f).oper _ _ _ _ _ _ _ j;have E:=(SD T f).oper _ _ _ _ _ _ _ j;simp only[aZ9,cg.ok.injEq] at i;obtain⟨rfl,rfl,rfl⟩:=i;grind [eV,ft,eW.nil,eZ,gO.mono,eZ.nil]
    .split at e
     .grind
     .split at e
      .grind
      .simp only[aZ9,cg.ok.injEq] at e;obtain⟨rfl,rfl,rfl⟩:=e;refine⟨?_,g2,zo,s⟩;obtain⟨kind,name,n,F,args⟩:=y;unfold gO at g1;unfold eV;simp only[gH] at g3;exact⟨g1.1,zs,zs,g1.2.2.2.2.1.1,g1.2.2.2.2.2.2.2,by grind [Ex.args],zs,eW.nil⟩
  .intro k v d acc x k' v' u h;rw[pS] at h;obtain⟨y,m,v1,g,e⟩:=eh h;obtain⟨g1,g2,g3,g4⟩:=ih.lit _ _ _ _ _ _ g;have w:=eW.snoc g1 (eW.mono g2 _ u);split at e
   .obtain⟨q1,q2,q3,q4,H⟩:=ih.lits _ _ _ _ _ _ _ w e;grind
   grind
  .intro k v d x k' v' h;rw[nN] at h;obtain⟨l,m,v1,g,e⟩:=eh h;obtain⟨g1,g2,g3,g4,g5⟩:=ih.lits _ _ _ _ _ _ _ eW.nil g;simp only[aZ9,cg.ok.injEq] at e;obtain⟨rfl,rfl,rfl⟩:=e;grind [a0A,eW,eV,eZ.nil,ft]
  .intro k v d x k' v' h;rw[pU] at h;split at h
   .grind
   .exact ih.body _ _ _ _ _ _ h
  .intro k v d x k' v' h;rw[mw] at h;obtain⟨a,m,v1,g,e⟩:=eh h;obtain⟨g1,g2,g3,g4⟩:=ih.row _ _ _ _ _ _ g;split at e
   .obtain⟨b,p,v2,j,i⟩:=eh e;obtain⟨q1,q2,q3,q4⟩:=ih.row _ _ _ _ _ _ j;split at i
    .obtain⟨c,I,v3,B,q⟩:=eh i;obtain⟨m1,m2,m3,m4⟩:=ih.rest _ _ _ _ _ _ B;simp only[aZ9,cg.ok.injEq] at q;obtain⟨rfl,rfl,rfl⟩:=q;grind [alr,eV.mono]
    .simp only[aZ9,cg.ok.injEq] at i;obtain⟨rfl,rfl,rfl⟩:=i;grind [alr,eV.mono,acr]
   .split at e
    .obtain⟨b,p,v2,j,i⟩:=eh e;obtain⟨q1,q2,q3,q4⟩:=ih.rest _ _ _ _ _ _ j;simp only[aZ9,cg.ok.injEq] at i;obtain⟨rfl,rfl,rfl⟩:=i;grind [aGK,eV.mono]
    grind
def tl(T:List Tok):cg Bd:=
 match mw T (tg T) 0 [] 0 with
 | some (.ok b k vs)=>match mZ T [46] b k vs with
  | some (.ok b k vs)=>if (tk T k).kind=0 then .ok b k vs else .err 2 (tk T k).pos
  | some (.err e a)=>.err e a
  | none=>.err 0 0
 | some (.err e a)=>.err e a
 | none=>.err 0 0
end P
open Go.Proofs.YtoegidfbnkaabaaGreatDoor.Sx
section
variable{p0 p1 p2 p3 p4 p5 p6 p7:Y}{w:Z}{R:Ending->Z->Prop}
def aGL:=cz w R [p0] (gc [] [] []) func12
def aGM:=cz w R [p0] (gc [] [] [12]) func22
end
open Go.RowKit Sx
def aGN(s:P.Bs)(w:Z)(g:s.length<=100000)(h:Wr w):Calls a90 28 #[aM s] w (Wt w s):=by
 refine avX ?_;refine(aGu s w g h).mono ?_;rintro e w1 ⟨f,d⟩;cases hr:P.program s with
 | err c a=>
  rw[hr] at d;obtain⟨b,rfl,i⟩:=d;refine bD ?_;refine⟨f,?_⟩;exact yH
 | ok cs k vs=>
  rw[hr] at d;obtain⟨v,vs,rfl,i,j⟩:=d;refine bD ?_;refine⟨f,?_⟩;exact yH
def aGO(w:Z)(s:P.Bs)(e:Ending)(w':Z):Prop:=
 Ext w w'/\match P.program s with
 | .err c a=>∃ b,e = ah (ak #[aq V,aj 73 (aq (O ⟨b,0,V⟩))])/\w'.heap[b]?=O (ae #[.int .i64 c,.int .i64 a] 77 (0,0))
 | .ok cs _ _=>∃ b v vs,e = ah (ak #[aq (O ⟨b,0,V⟩),ai])/\w'.heap[b]?=O (ae #[v] 72 (0,0))/\Nu w w' b /\
  fD (Nu w w') w' 79 v vs/\ko (Nu w w') w' vs cs
def aGP(s:P.Bs)(w:Z)(h:s.length<=100000)(i:Wr w):Calls a90 22 #[aM s] w (aGO w s):=by
 refine aGM ?_;refine(aGN s w h i).mono ?_;rintro e w1 ⟨g,d⟩;have s1:=g.size;cases hr:P.program s with
 | err c a=>
  rw[hr] at d;obtain⟨b,rfl,f⟩:=d;refine bD ?_;refine⟨g,?_⟩;exact yH
 | ok cs k vs=>
  rw[hr] at d;obtain⟨v,vs,rfl,f,j⟩:=d;obtain⟨l,sn,m,rfl⟩:∃ a n c,v = .slice a n c:=by rcases f with⟨-,rfl⟩| ⟨b,cs',rfl,-⟩<;>exact zg
  refine bD ?_;refine⟨yF,?_⟩;rw[hr];refine⟨_,_,vs,J,yH,yH,f.mono (by grind [World.size_alloc]) yH,j.mono (by grind [World.size_alloc]) fun b cs t _ _ o=>yH⟩
open Go.Extern.Stop Go.Stop Go.Extern
def als(t:Addr)(w:Z):(ReflectliteValue.unpack (aj 75 (aq (O t)))).run a90 w
 = .ok (.agg #[pq 12 75,pp w.heap.size,.int .u64 150]) (w.alloc (ae #[aq (O t)] 75)):=zk
def alu(a:Addr)(w:Z):(ReflectliteValue.methodAny (ReflectliteValue.valueError "reflectlite.Value.Type" 0) (fun t _ _ _=>ReflectliteType.toType t) #[.agg #[pq 12 75,aq (O a),.int .u64 150]]).run a90 w
 = .ok (aj 219 (.agg #[pq 12 75])) w:=zk
def acu(h:Y)(w:Z):(a5M 476 219 (.agg #[h]) "Kind").run a90 w = .ok (196,h) w:=zk
def alv(w:Z):((ReflectliteType.abiMethod fun t=>Functor.map (fun a:Nat=>Value.int IntKind.u8 (a:Int)) (Rtype.kind t)) #[pq 12 75]).run a90 w = .ok (.int .u8 22) w:=zk
def alw(w:Z):((ReflectliteType.abiMethod fun t=>Functor.map (fun a:Nat=>Value.int IntKind.u8 (a:Int)) (Rtype.kind t)) #[pq 12 73]).run a90 w = .ok (.int .u8 22) w:=zk
def Wx(z:Sem Y)(f:TypeId->Addr->Nat->Nat->Sem Y)(v:Y) :
 ReflectliteValue.method z f #[v]=(do match <- ReflectliteValue.parts v with | none=>z | some (t,a,fl)=>f t a fl (fl % 32)):=rfl
def alx(a:Addr)(w:Z):(ReflectliteValue.parts (.agg #[pq 12 75,aq (O a),.int .u64 150])).run a90 w = .ok (O (75,a,150)) w:=zk
def aly(a p:Addr)(W:Z)(b:W.cell? a=O (aq (O p))) :
  (ReflectliteValue.method (ReflectliteValue.valueError "reflectlite.Value.IsNil" 0) ReflectliteValue.isNil #[.agg #[pq 12 75,aq (O a),.int .u64 150]]).run a90 W = .ok (.bool G) W:=by
 rw[Wx];simp only[a0l,alx,a00];simp [ReflectliteValue.isNil,loadVar,isAgg,underlying,underlying75,b,a00]
def acv(h:Y)(w:Z):(a5M 476 219 (.agg #[h]) "Elem").run a90 w = .ok (238,.agg #[h]) w:=zk
def acw(h:Y)(w:Z):(a5M 476 219 (.agg #[h]) "Implements").run a90 w = .ok (239,.agg #[h]) w:=zk
def acx(h:Y)(w:Z):(a5M 476 219 (.agg #[h]) "AssignableTo").run a90 w = .ok (236,.agg #[h]) w:=zk
def alz(w:Z):(ReflectliteType.method ReflectliteType.elem #[.agg #[pq 12 75]]).run a90 w = .ok (aj 219 (.agg #[pq 12 73])) w:=zk
def alA(w:Z):(ReflectliteType.relation "Implements" ReflectliteType.implements_ #[.agg #[pq 12 73],aj 219 (.agg #[pq 12 57])]).run a90 w = .ok (.bool A) w:=zk
def aGQ(v:Y)(w:Z):(ReflectliteType.typeOf #[aj 73 v]).run a90 w = .ok (aj 219 (.agg #[pq 12 73])) w:=zk
def aGR(w:Z):(ReflectliteType.relation "AssignableTo" ReflectliteType.assignableTo #[.agg #[pq 12 73],aj 219 (.agg #[pq 12 73])]).run a90 w = .ok (.bool A) w:=zk
def aGS(e:Addr)(w:Z):(ReflectliteValue.unpack (aj 73 (aq (O e)))).run a90 w
 = .ok (.agg #[pq 12 73,pp w.heap.size,.int .u64 150]) (w.alloc (ae #[aq (O e)] 73)):=zk
def aGT(w:Z):(Rtype.elem? 75).run a90 w = .ok (O 73) w:=zk
def aGU(p:Addr)(w:Z):(ReflectliteValue.mk 73 p ReflectliteValue.flagAddr).run a90 w = .ok (.agg #[pq 12 73,aq (O p),.int .u64 406]) w:=zk
def aGV(a p:Addr)(W:Z)(b:W.cell? a=O (aq (O p))) :
  (ReflectliteValue.method (ReflectliteValue.valueError "reflectlite.Value.Elem" 0) ReflectliteValue.elem #[.agg #[pq 12 75,aq (O a),.int .u64 150]]).run a90 W
   = .ok (.agg #[pq 12 73,aq (O p),.int .u64 406]) W:=by
 rw[Wx];simp only[a0l,alx,a00];simp [ReflectliteValue.elem,loadVar,isAgg,underlying,underlying75,b,a00,aGT,aGU]
def alB(v x:Y):ReflectliteValue.set #[v,x]=(do
 let (O (dst,a,fl),O (src,b,_)):=(<- ReflectliteValue.parts v,<- ReflectliteValue.parts x)
  | unsupported (.noEntry "extern/(internal/reflectlite.Value).Set.zeroValue")
 if fl / ReflectliteValue.flagAddr % 2 == 0 then unsupported (.noEntry "extern/(internal/reflectlite.Value).Set.unaddressable")
 let val <- loadVar src b
 if <- Rtype.directlyAssignable dst src then storeVar dst a val
 else if <- Rtype.implements dst src then
  if (<- Rtype.kind src) == 20 then
   match val with
   | ai=>unsupported (.noEntry "extern/reflectlite: a nil value of one interface type handed on as a value of another")
   | _=>storeVar dst a val
  else storeVar dst a (aj src val)
 else panicString ("reflectlite.Set: value of type "++(<- Rtype.spelt src)++ " is not assignable to type "++(<- Rtype.spelt dst))
 pure (ak #[])):=rfl
def aGW(a:Addr)(w:Z):(ReflectliteValue.parts (.agg #[pq 12 73,aq (O a),.int .u64 406])).run a90 w = .ok (O (73,a,406)) w:=zk
def aGX(a:Addr)(w:Z):(ReflectliteValue.parts (.agg #[pq 12 73,aq (O a),.int .u64 150])).run a90 w = .ok (O (73,a,150)) w:=zk
def aGY(w:Z):(Rtype.directlyAssignable 73 73).run a90 w = .ok A w:=zk
def aGZ(a b e:Addr)(c:Y)(W:Z)(d:W.cell? b=O (aq (O e)))(ht:W.cell? a=O c)(f:W.frozen? a=G) :
  (ReflectliteValue.set #[.agg #[pq 12 73,aq (O a),.int .u64 406],.agg #[pq 12 73,aq (O b),.int .u64 150]]).run a90 W
   = .ok (ak #[]) (W.setCell a (aq (O e))):=by
 rw[alB];simp only[a0l,aGW,aGX,a00];simp [ReflectliteValue.flagAddr,loadVar,isAgg,underlying,underlying73,d,a00,aGY,storeVar,Value.cells,storeCells,Addr.add];rw[run_store a90 W a _ _ (by rfl)];grind
def aG0(e t:Addr)(ET:Y)(w:Z)(hg:w.cell? ⟨0,0,V⟩=O (aj 219 (.agg #[pq 12 57])))(Kf:w.cell? t=O ET)(Gc:w.frozen? t=G) :
  Calls a90 29 #[aj 73 (aq (O e)),aj 75 (aq (O t))] w fun ev w'=>ev = ah (.bool A)/\w'=((((w.alloc (ae #[aq (O t)] 75)).alloc (ae #[pq 12 75,pp w.heap.size,.int .u64 150] 158)).alloc (ae #[pq 12 75,pp w.heap.size,.int .u64 150] 158)).alloc (ae #[aq (O e)] 73)).setCell t (aq (O e)):=by
 have h6:=@run_callFunc_extern a90 54 _ (fun args=>ReflectliteValue.unpack (args.getD 0 (ak #[]))) func54 zk zk zk zk;have h7:=@run_callFunc_extern a90 55 _ (ReflectliteValue.methodAny (ReflectliteValue.valueError "reflectlite.Value.Type" 0) (fun t _ _ _=>ReflectliteType.toType t)) func55 zk zk zk zk;have h8:=@run_callFunc_extern a90 56 _ (ReflectliteValue.method (ReflectliteValue.valueError "reflectlite.Value.IsNil" 0) ReflectliteValue.isNil) func56 zk zk zk zk;have Gs:=@run_callFunc_extern a90 196 _ (ReflectliteType.abiMethod fun t=>do pure (.int .u8 (<- Rtype.kind t))) func196 zk zk zk zk;have h37:=@run_callFunc_extern a90 238 _ (ReflectliteType.method ReflectliteType.elem) func238 zk zk zk zk;have h38:=@run_callFunc_extern a90 239 _ (ReflectliteType.relation "Implements" ReflectliteType.implements_) func239 zk zk zk zk;have tn:=@run_callFunc_extern a90 87 _ ReflectliteType.typeOf func87 zk zk zk zk;have yS:=@run_callFunc_extern a90 236 _ (ReflectliteType.relation "AssignableTo" ReflectliteType.assignableTo) func236 zk zk zk zk;have Gt:=@run_callFunc_extern a90 88 _ (ReflectliteValue.method (ReflectliteValue.valueError "reflectlite.Value.Elem" 0) ReflectliteValue.elem) func88 zk zk zk zk;have B5:=@run_callFunc_extern a90 89 _ ReflectliteValue.set func89 zk zk zk zk;have tO:=aGQ;have mA:=acx;have a25:=aGR;have v25:=aGS;have f6:=als;have f7:=alu;have mK:=acu;have mE:=acv;have mI:=acw;have k27:=alv;have k25:=alw;have e27:=alz;have i25:=alA;have n8:=aly ⟨w.heap.size,0,V⟩ t ((w.alloc (ae #[aq (O t)] 75)).alloc (ae #[pq 12 75,pp w.heap.size,.int .u64 150] 158)) zs;have hlt:0<w.heap.size:=by
  grind [Nat.eq_zero_or_pos,World.cell?]
 have jv:((w.alloc (ae #[aq (O t)] 75)).alloc (ae #[pq 12 75,pp w.heap.size,.int .u64 150] 158)).cell? ⟨0,0,V⟩=O (aj 219 (.agg #[pq 12 57])):=by
  rw[a0N _ _ ⟨0,0,V⟩ zs,a0N _ _ ⟨0,0,V⟩ hlt];exact hg
 have sQ:t.block<w.heap.size:=by
  grind [Nat.lt_or_ge,World.cell?,Array.getElem?_eq_none]
 have el:=aGV ⟨w.heap.size,0,V⟩ t (((w.alloc (ae #[aq (O t)] 75)).alloc (ae #[pq 12 75,pp w.heap.size,.int .u64 150] 158)).alloc (ae #[pq 12 75,pp w.heap.size,.int .u64 150] 158)) (by rw[a0N _ _ ⟨w.heap.size,0,V⟩ (by simp;omega)];simp);have st:=aGZ t ⟨w.heap.size+1+1+1,0,V⟩ e ET ((((w.alloc (ae #[aq (O t)] 75)).alloc (ae #[pq 12 75,pp w.heap.size,.int .u64 150] 158)).alloc (ae #[pq 12 75,pp w.heap.size,.int .u64 150] 158)).alloc (ae #[aq (O e)] 73))
  (by rw[World.cell?_alloc_at _ _ _ _ zs];rfl)
  (by rw[a0N _ _ t (by simp;omega),a0N _ _ t (by simp;omega),a0N _ _ t (by simp;omega),a0N _ _ t sQ];exact Kf)
  (by rw[a1b _ _ t (by simp;omega),a1b _ _ t (by simp;omega),a1b _ _ t (by simp;omega),a1b _ _ t (Nat.ne_of_lt sQ)];exact Gc)
 go_enter func29,ntmps29
 go_wp2
 refine wp_loop_rounds 1 ?_;rw[rounds_succ]
 go_wp2
 go_ret
 exact⟨J,J⟩
end Go.Proofs.YtoegidfbnkaabaaGreatDoor
namespace Go.Proofs.YtoegidfbnkaabaaGreatDoor
open Go.RowKit Sx
variable{f g i:Nat}
def Wy(w:Z):Calls a90 23 #[ai] w fun e w'=>Ext w w'/\e = ah (ak #[zi 0,zi (-1)]):=by
 refine aaE ?_;refine bD ?_;exact yF
def Al(w:Z):Prop:=w.cell? ⟨0,0,V⟩=O (aj 219 (.agg #[pq 12 57]))
theorem Al.ext{w w':Z}(h:Al w)(a:Ext w w'):Al w':=Mb h (by grind [bz.ext])
def Wz(b:Nat)(c a:Int)(w:Z)(g:w.heap[b]?=aN #[zi c,zi a] 77)(h:Al w) :
  Calls a90 23 #[aj 73 (pp b)] w fun e w'=>Ext w w'/\e = ah (ak #[zi c,zi a]):=by
 refine aaE ?_;refine bD ?_;obtain⟨d,i⟩:=b9 ((w.alloc (ae #[aq V] 73)).alloc (ae #[zi 0] 27));have j:Ext w d:=yF;have q0:d.heap[w.heap.size]?=aN #[aq V] 73:=yH;rw[<- i];refine(aG0 ⟨b,0,V⟩ ⟨w.heap.size,0,V⟩ _ d (h.ext j) (by simp [World.cell?,q0];rfl) (jL q0 0)).mono ?_;rintro e w3 ⟨rfl,f⟩;obtain⟨k,l⟩:=b9 ((((d.alloc (ae #[pp w.heap.size] 75)).alloc (ae #[pq 12 75,pp d.heap.size,.int .u64 150] 158)).alloc (ae #[pq 12 75,pp d.heap.size,.int .u64 150] 158)).alloc (ae #[pp b] 73));rw[<- l] at f;have m:Ext d k:=yF;have n:=m.ext _ _ q0;rw[uO n] at f;have o:Ext w w3:=by
  exact yF
 have q3:w3.heap[w.heap.size]?=aN #[pp b] 73:=by
  exact yH
 have q4:=o.ext _ _ g;refine dy @q3 @q4 ?_;exact yF
def aG2(w:Z)(s:P.Bs)(e:Ending)(w':Z):Prop:=
 Ext w w'/\match P.program s with
 | .err c a=>e = ah (ak #[aq V,.int .i64 c,.int .i64 a])
 | .ok cs _ _=>∃ b v vs,e = ah (ak #[aq (O ⟨b,0,V⟩),.int .i64 0,.int .i64 (-1)])/\w'.heap[b]?=O (ae #[v] 72 (0,0))/\Nu w w' b /\
  fD (Nu w w') w' 79 v vs/\ko (Nu w w') w' vs cs
def acz(s:P.Bs)(w:Z)(i:s.length<=100000)(j:Wr w)(l:Al w):Calls a90 12 #[aM s] w (aG2 w s):=by
 refine aGL ?_;refine(aGP s w i j).mono ?_;rintro e w1 ⟨m,d⟩;cases hr:P.program s with
 | err c a=>
  rw[hr] at d;obtain⟨b,rfl,g⟩:=d;refine bD ?_;refine(Wz b c a w1 g (l.ext m)).mono ?_;rintro e w2 ⟨f,rfl⟩;refine bD ?_;refine⟨yF,?_⟩;grind
 | ok cs k vs=>
  rw[hr] at d;obtain⟨b,v,vs,rfl,g,n,q,o⟩:=d;refine bD ?_;refine(Wy w1).mono ?_;rintro e w2 ⟨f,rfl⟩;have s2:=f.size;refine bD ?_;refine⟨yF,?_⟩;rw[hr];have h:∀ b,Nu w w1 b->Nu w w2 b:=zg;exact⟨b,v,vs,J,f.ext _ _ g,h _ n,(by grind [fD.mono,bz.ext]),o.mono h fun b cs t _ _ p=>f.ext _ _ p⟩
open Go.Proofs.YtoegidfbnkaabaaGreatDoor.Sx
section
variable{p0 p1 p2 p3 p4 p5 p6 p7:Y}{w:Z}{R:Ending->Z->Prop}
def aG3:=cz w R [p0] (gc [] [(4001,[])] [15]) func76
def aG4:=cz w R [p0] (gc [] [] []) func37
end
namespace P
inductive jE where
 | fault (e:Nat)
 | DB
deriving DecidableEq,Inhabited
abbrev Out(α:Type):=Option (Except jE α)
def Out.bind{α β:Type}(x:Out α)(k:α->Out β):Out β:=
 match x with
 | none=>V
 | some (.error e)=>O (.error e)
 | some (.ok a)=>k a
@[simp] theorem Out.eh{α β:Type}(a:α)(k:α->Out β):Out.bind (O (.ok a)) k=k a:=rfl
@[simp] theorem Out.aU8{α β:Type}(e:jE)(k:α->Out β):Out.bind (O (.error e)) k=O (.error e):=rfl
@[simp] theorem Out.bind_none{α β:Type}(k:α->Out β):Out.bind (V:Out α) k=none:=rfl
def Out.bind_some{α β:Type}{x:Out α}{k:α->Out β}{r:Except jE β}(h:Out.bind x k=O r):(∃ a,x=O (.ok a)/\k a=O r)\/(∃ e,x=O (.error e)/\r = .error e):=by
 cases x with
 | none=>simp_all
 | some y=>cases y with
  | error e=>simp_all
  | ok a=>simp_all
structure Sr where
 tr:Tr
 fuel:Nat
def Sr.dec(s:Sr):Sr:={ s with fuel:=s.fuel-1 }
def Sr.bind(s:Sr)(i:Nat)(t:Tm):Sr:={ s with tr:=(i,t)::s.tr }
def Sr.iF(s:Sr)(mark:Nat):Sr:={ s with tr:=s.tr.drop (s.tr.length-mark) }
mutual
def yT:Nat->Nat->Tm->Sr->Out (Bool×Sr)
 | 0,_,_,_=>V
 | f+1,i,t,s=>
  if s.fuel=0 then O (.error .DB)
  else match fA s.tr f t with
   | none=>V
   | some (.var j)=>O (.ok (decide (j=i),s.dec))
   | some (.comp _ args)=>Am f i args s.dec
   | some _=>O (.ok (G,s.dec))
 termination_by structural f=>f
def Am:Nat->Nat->List Tm->Sr->Out (Bool×Sr)
 | 0,_,_,_=>V
 | _+1,_,[],s=>O (.ok (G,s))
 | f+1,i,a::r,s=>Out.bind (yT f i a s) fun p=>if p.1 then O (.ok (A,p.2)) else Am f i r p.2
 termination_by structural f=>f
end
def tz(f:Nat)(i:Nat)(t:Tm)(s:Sr):Out (Bool×Sr):=
 Out.bind (yT f i t s) fun p=>if p.1 then O (.ok (G,p.2)) else O (.ok (A,p.2.bind i t))
def flat:Tm->Tm->Bool
 | .atom a,.atom b=>a == b
 | .int a,.int b=>a == b
 | .var i,.var j=>i == j
 | _,_=>G
mutual
def lH:Nat->Tm->Tm->Sr->Out (Bool×Sr)
 | 0,_,_,_=>V
 | f+1,a,b,s=>
  if s.fuel=0 then O (.error .DB)
  else match fA s.tr f a,fA s.tr f b with
   | some (.var i),O (.var j)=>if i=j then O (.ok (A,s.dec)) else tz f i (.var j) s.dec
   | some (.var i),O u=>tz f i u s.dec
   | some u,O (.var j)=>tz f j u s.dec
   | some (.comp n l),O (.comp m r)=>if n=m/\l.length=r.length then nh f l r s.dec else O (.ok (G,s.dec))
   | some u,O v=>O (.ok (flat u v,s.dec))
   | _,_=>V
 termination_by structural f=>f
def nh:Nat->List Tm->List Tm->Sr->Out (Bool×Sr)
 | 0,_,_,_=>V
 | f+1,a::l,b::r,s=>Out.bind (lH f a b s) fun p=>if p.1 then nh f l r p.2 else O (.ok (G,p.2))
 | _+1,_,_,s=>O (.ok (A,s))
 termination_by structural f=>f
end
mutual
def Cb:Nat->Tm->Tm->Sr->Out (Bool×Sr)
 | 0,_,_,_=>V
 | f+1,a,b,s=>
  if s.fuel=0 then O (.error .DB)
  else match fA s.tr f a,fA s.tr f b with
   | some (.comp n l),O (.comp m r)=>if n=m/\l.length=r.length then Bc f l r s.dec else O (.ok (G,s.dec))
   | some u,O v=>O (.ok (flat u v,s.dec))
   | _,_=>V
 termination_by structural f=>f
def Bc:Nat->List Tm->List Tm->Sr->Out (Bool×Sr)
 | 0,_,_,_=>V
 | f+1,a::l,b::r,s=>Out.bind (Cb f a b s) fun p=>if p.1 then Bc f l r p.2 else O (.ok (G,p.2))
 | _+1,_,_,s=>O (.ok (A,s))
 termination_by structural f=>f
end
def wrap64(z:Int):Int:=(z+9223372036854775808) % 18446744073709551616-9223372036854775808
def reckon(name:Bs)(a b:Int):Except jE Int:=
 if name=[43] then .ok (wrap64 (a+b)) else if name=[45] then .ok (wrap64 (a-b)) else if name=[42] then .ok (wrap64 (a*b))
 else if b=0 then .error (.fault 9)
 else if name=[47,47] then .ok (wrap64 (a.tdiv b))
 else .ok (if a.tmod b≠0/\(decide (a.tmod b<0)≠decide (b<0)) then wrap64 (a.tmod b+b) else a.tmod b)
def ue:Nat->Tm->Sr->Out (Int×Sr)
 | 0,_,_=>V
 | f+1,t,s=>
  if s.fuel=0 then O (.error .DB)
  else match fA s.tr f t with
   | none=>V
   | some (.int n)=>O (.ok (n,s.dec))
   | some (.var _)=>O (.error (.fault 7))
   | some (.comp name [a,b])=>
    if kr name 2≠0 then
     Out.bind (ue f a s.dec) fun p=>Out.bind (ue f b p.2) fun q=>
      match reckon name p.1 q.1 with
      | .error e=>O (.error e)
      | .ok z=>O (.ok (z,q.2))
    else O (.error (.fault 8))
   | some _=>O (.error (.fault 8))
 termination_by structural f=>f
def alO(name:Bs)(a b:Int):Bool:=
 if name=[60] then decide (a<b) else if name=[62] then decide (a > b) else if name=[61,60] then decide (a<=b) else if name=[62,61] then decide (a ≥ b) else decide (a=b)
def O3(name:Bs):Tm->Bool
 | .var _=>name == [118,97,114]
 | .atom _=>name == [110,111,110,118,97,114] || name == [97,116,111,109]
 | .int _=>name == [110,111,110,118,97,114] || name == [105,110,116,101,103,101,114]
 | .comp _ _=>name == [110,111,110,118,97,114]
def xI(f:Nat)(name:Bs)(args:List Tm)(s:Sr):Out (Bool×Sr):=
 if name=[116,114,117,101] then O (.ok (A,s))
 else if name=[61] then lH f (args.getD 0 default) (args.getD 1 default) s
 else if name=[92,61] then Out.bind (lH f (args.getD 0 default) (args.getD 1 default) s) fun p=>O (.ok (!p.1,p.2.iF s.tr.length))
 else if name=[61,61] then Cb f (args.getD 0 default) (args.getD 1 default) s
 else if name=[105,115] then Out.bind (ue f (args.getD 1 default) s) fun p=>lH f (args.getD 0 default) (.int p.1) p.2
 else if name∈[[118,97,114],[110,111,110,118,97,114],[97,116,111,109],[105,110,116,101,103,101,114]] then
  match fA s.tr f (args.getD 0 default) with
  | none=>V
  | some t=>O (.ok (O3 name t,s))
 else if name=[102,97,105,108] then O (.ok (G,s))
 else Out.bind (ue f (args.getD 0 default) s) fun p=>Out.bind (ue f (args.getD 1 default) p.2) fun q=>O (.ok (alO name p.1 q.1,q.2))
def Le{α:Type}(x y:Option α):Prop:=∀ r,x=O r->y=O r
theorem Le.rfl{α:Type}{x:Option α}:Le x x:=fun _ h=>h
theorem Le.none{α:Type}{y:Option α}:Le (V:Option α) y:=fun _ h=>zg
theorem Le.trans{α:Type}{x y z:Option α}(h:Le x y)(a:Le y z):Le x z:=fun r hr=>a r (h r hr)
theorem Out.yU{α β:Type}{x y:Out α}{k k':α->Out β}(h:Le x y)(hk:∀ a,Le (k a) (k' a)):Le (Out.bind x k) (Out.bind y k'):=by
 intro r hr;obtain⟨a,b,c⟩| ⟨e,b,rfl⟩:=Out.bind_some hr
 .rw[h _ b];exact hk a _ c
 .rw[h _ b];rfl
def Kh{tr:Tr}:∀ {f:Nat} {t:Tm},Le (fA tr f t) (fA tr (f+1) t)
 | f,.atom s=>by intro r h;simp_all [fA]
 | f,.int s=>by intro r h;simp_all [fA]
 | f,.comp s l=>by intro r h;simp_all [fA]
 | 0,.var i=>by
  intro r h;grind [fA]
 | f+1,.var i=>by
  intro r h;rw[fA] at h ⊢;split at h
  .omega
  .exact Kh _ h
def alP:∀ f,(∀ i t s,Le (yT f i t s) (yT (f+1) i t s))/\(∀ i l s,Le (Am f i l s) (Am (f+1) i l s))
 | 0=>⟨fun _ _ _=>Le.none,fun _ _ _=>Le.none⟩
 | f+1=>by
  obtain⟨c,b⟩:=alP f;constructor
  .intro i t s;rw[yT,yT];split
   .exact Le.rfl
   .intro r hr;cases hw:fA s.tr f t with
    | none=>grind
    | some u=>
     rw[hw] at hr;rw[Kh _ hw];cases u with
     | comp n l=>exact b _ _ _ _ hr
     | _=>exact hr
  .intro i l s;cases l with
   | nil=>exact Le.rfl
   | cons a l=>
    simp_all [Am,Out.yU,Le.rfl]
def alQ{t:Tm}{s:Sr}:Le (tz f i t s) (tz (f+1) i t s):=Out.yU ((alP f).1 _ _ _) fun _=>Le.rfl
def SE:∀ f,(∀ a b s,Le (lH f a b s) (lH (f+1) a b s))/\(∀ l r s,Le (nh f l r s) (nh (f+1) l r s))
 | 0=>⟨fun _ _ _=>Le.none,fun _ _ _=>Le.none⟩
 | f+1=>by
  obtain⟨e,d⟩:=SE f;constructor
  .intro a b s;rw[lH,lH];split
   .exact Le.rfl
   .intro r hr;cases hw:fA s.tr f a with
    | none=>grind
    | some u=>
     rw[hw] at hr;rw[Kh _ hw];cases hv:fA s.tr f b with
     | none=>grind
     | some v=>
      rw[hv] at hr;rw[Kh _ hv];cases u<;>cases v<;>first
       | exact hr
       | exact alQ _ hr
       | (simp only at hr ⊢;split at hr<;>rename_i c;(rw[zip c];exact hr);rw[bX c];exact alQ _ hr)
       | (simp only at hr ⊢;split at hr<;>rename_i c;(rw[zip c];exact d _ _ _ _ hr);grind)
  .intro l r s;cases l with
   | nil=>exact Le.rfl
   | cons a l=>
    cases r with
    | nil=>exact Le.rfl
    | cons b r=>
     simp_all [nh,Out.yU,Le.rfl]
def alR:∀ f,(∀ a b s,Le (Cb f a b s) (Cb (f+1) a b s))/\(∀ l r s,Le (Bc f l r s) (Bc (f+1) l r s))
 | 0=>⟨fun _ _ _=>Le.none,fun _ _ _=>Le.none⟩
 | f+1=>by
  obtain⟨e,c⟩:=alR f;constructor
  .intro a b s;rw[Cb,Cb];split
   .exact Le.rfl
   .intro r hr;cases hw:fA s.tr f a with
    | none=>grind
    | some u=>
     rw[hw] at hr;rw[Kh _ hw];cases hv:fA s.tr f b with
     | none=>grind
     | some v=>
      rw[hv] at hr;rw[Kh _ hv];cases u<;>cases v<;>first
       | exact hr
       | (simp only at hr ⊢;split at hr<;>rename_i d;(rw[zip d];exact c _ _ _ _ hr);grind)
  .intro l r s;cases l with
   | nil=>exact Le.rfl
   | cons a l=>
    cases r with
    | nil=>exact Le.rfl
    | cons b r=>
     simp_all [Bc,Out.yU,Le.rfl]
theorem acA:∀ f,∀ t s,Le (ue f t s) (ue (f+1) t s)
 | 0=>fun _ _=>Le.none
 | f+1=>by
  have ih:=acA f;intro t s;rw[ue,ue];split
  .exact Le.rfl
  .intro r hr;cases hw:fA s.tr f t with
   | none=>grind
   | some u=>
    rw[hw] at hr;rw[Kh _ hw]
    match u,hr with
    | .atom _,hr=>omega
    | .int _,hr=>omega
    | .var _,hr=>omega
    | .comp _ [],hr=>omega
    | .comp _ [_],hr=>omega
    | .comp _ (_::_::_::_),hr=>omega
    | .comp name [a,b],hr=>
     simp only at hr ⊢;split at hr
     .rename_i c;rw[zip c];exact Out.yU (ih _ _) (fun p=>Out.yU (ih _ _) fun q=>Le.rfl) _ hr
     grind
def aG5{name:Bs}{args:List Tm}{s:Sr}:Le (xI f name args s) (xI (f+1) name args s):=by
 unfold xI;split
 .exact Le.rfl
 split
 .simp_all [SE]
 split
 .simp_all [Out.yU,SE,Le.rfl]
 split
 .simp_all [alR]
 split
 .simp_all [Out.yU,acA,SE]
 split
 .intro r hr;cases hw:fA s.tr f (args.getD 0 default) with
  | none=>grind
  | some u=>rw[hw] at hr;rw[Kh _ hw];omega
 grind [Le.rfl,Out.yU,acA]
structure WLe(tr:Tr)(f:Nat):Prop where
 tm:∀ t l s,Le (ku tr f t l s) (ku tr (f+1) t l s)
 comp:∀ n a l s,Le (yR tr f n a l s) (yR tr (f+1) n a l s)
 args:∀ c a s,Le (py tr f c a s) (py tr (f+1) c a s)
 list:∀ c a b s,Le (vf tr f c a b s) (vf tr (f+1) c a b s)
def Le.many{α:Type}{F:Nat->Option α}(h:∀ f,Le (F f) (F (f+1)))(a:f<=g):Le (F f) (F g):=by
 obtain⟨k,rfl⟩:=Nat.le.dest a;induction k with
 | zero=>exact Le.rfl
 | succ k ih=>exact(ih (Nat.le_add_right _ _)).trans (h _)
end P
