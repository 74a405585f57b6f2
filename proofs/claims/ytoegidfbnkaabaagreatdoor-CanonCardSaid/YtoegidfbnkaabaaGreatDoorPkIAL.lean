/- A part of one proof (PureW, PureW2, PureE, PureG, PureQ, ShL1, SX7, SX8, SX9, ShQ1, PureX, PureO). -/
import Derived.Test.YtoegidfbnkaabaaGreatDoorPkIAK
import Derived.WalkKit
import Derived.LaidEql
import Derived.Stop.Asserts
import Derived.RowKitTokens
set_option linter.all false
set_option maxRecDepth 100000
set_option maxHeartbeats 8000000
open Option renaming some → O, none → V
open Go renaming Value → Y, World → Z
open Bool renaming true → A, false → G
open Go.Obj renaming cells → ae
open Go.Ending renaming returned → ah
open Go.Value renaming nilIface → ai, iface → aj, tuple → ak, pointer → aq
open Option.some renaming injEq → a07
open Nat renaming le_refl → a1c
open List renaming length_cons → a1i, length_nil → a1v, mem_of_find?_eq_some → a1Z, idxOf?_eq_some_iff → a3r
open Go.Sem renaming run_bind → a1m
open Go.World renaming cell?_alloc_lt → a1L, frozen?_alloc_old → a2g
open Go.Result renaming andThen → a16
open Go renaming method → a60
open Go.Proofs.Tryz renaming prog → bbi
open Go.Proofs.Tryz
namespace Go.Proofs.YtoegidfbnkaabaaGreatDoor
variable{M k k' n nv:Nat}
namespace P
inductive Tm where
 | atom (s:Bs)
 | int (n:Int)
 | var (i:Nat)
 | comp (name:Bs) (args:List Tm)
deriving Inhabited
abbrev Tr:=List (Nat×Tm)
def look(i:Nat):Tr->Option Tm
 | []=>V
 | (j,t)::r=>if i=j then O t else look i r
def fE(tr:Tr):Nat->Tm->Option Tm
 | f,.var i=>match look i tr with
  | none=>O (.var i)
  | some t=>match f with
   | 0=>V
   | f+1=>fE tr f t
 | _,t=>O t
def BM:Nat->Nat->Bs
 | 0,_=>[]
 | f+1,n=>if n<10 then [UInt8.ofNat (48+n)] else BM f (n / 10)++[UInt8.ofNat (48+n % 10)]
def fc(n:Nat):Bs:=BM (n+1) n
def kN(n:Int):Bs:=if n<0 then 45::fc n.natAbs else fc n.natAbs
structure Ws where
 fuel:Nat
 out:Bs
 seen:List Nat
def iK(name:Bs)(n:Nat):Nat:=
 if n≠2 then 0 else if name=[43]\/name=[45] then 1 else if name=[42]\/name=[47,47]\/name=[109,111,100] then 2 else 0
def Wb(x:Option (Option Ws))(k:Ws->Option (Option Ws)):Option (Option Ws):=
 match x with
 | none=>V
 | some V=>O V
 | some (O s)=>k s
def Ws.add(s:Ws)(x:Bs):Ws:={ s with out:=s.out++x }
def AO(s:Ws)(i:Nat):Ws:=
 match s.seen.idxOf? i with
 | some k=>s.add (95::fc (k+1))
 | none=>{ s with out:=s.out++95::fc (s.seen.length+1),seen:=s.seen++[i] }
mutual
def ix (tr:Tr):Nat->Tm->Nat->Ws->Option (Option Ws)
 | 0,_,_,_=>V
 | f+1,t,least,s=>
  if s.fuel=0 then O V
  else match fE tr f t with
   | none=>V
   | some (.atom a)=>O (O ({ s with fuel:=s.fuel-1 }.add a))
   | some (.int n)=>O (O ({ s with fuel:=s.fuel-1 }.add (kN n)))
   | some (.var i)=>O (O (AO { s with fuel:=s.fuel-1 } i))
   | some (.comp name args)=>rB tr f name args least { s with fuel:=s.fuel-1 }
 termination_by structural f=>f
def rB (tr:Tr):Nat->Bs->List Tm->Nat->Ws->Option (Option Ws)
 | 0,_,_,_,_=>V
 | f+1,name,args,least,s=>
  match args with
  | [a,b]=>
   if iK name 2≠0 then
    if iK name 2<least then
     Wb (ix tr f a (iK name 2) (s.add [40])) fun s=>Wb (ix tr f b (iK name 2+1) (s.add (if name=[109,111,100] then [32,109,111,100,32] else name))) fun s=>O (O (s.add [41]))
    else Wb (ix tr f a (iK name 2) s) fun s=>ix tr f b (iK name 2+1) (s.add (if name=[109,111,100] then [32,109,111,100,32] else name))
   else if name=[46] then oZ tr f 91 a b s
   else Wb (kX tr f 40 [a,b] (s.add name)) fun s=>O (O (s.add [41]))
  | _=>Wb (kX tr f 40 args (s.add name)) fun s=>O (O (s.add [41]))
 termination_by structural f=>f
def kX (tr:Tr):Nat->UInt8->List Tm->Ws->Option (Option Ws)
 | 0,_,_,_=>V
 | _+1,_,[],s=>O (O s)
 | f+1,sep,a::r,s=>Wb (ix tr f a 0 (s.add [sep])) fun s=>kX tr f 44 r s
 termination_by structural f=>f
def oZ (tr:Tr):Nat->UInt8->Tm->Tm->Ws->Option (Option Ws)
 | 0,_,_,_,_=>V
 | f+1,sep,a,b,s=>
  Wb (ix tr f a 0 (s.add [sep])) fun s=>
   match fE tr f b with
   | none=>V
   | some (.comp name args)=>match args with
    | [c,d]=>if name=[46] then oZ tr f 44 c d s else Wb (ix tr f b 0 (s.add [124])) fun s=>O (O (s.add [93]))
    | _=>Wb (ix tr f b 0 (s.add [124])) fun s=>O (O (s.add [93]))
   | some (.atom x)=>if x=[91,93] then O (O (s.add [93])) else Wb (ix tr f b 0 (s.add [124])) fun s=>O (O (s.add [93]))
   | some _=>Wb (ix tr f b 0 (s.add [124])) fun s=>O (O (s.add [93]))
 termination_by structural f=>f
end
mutual
def made (vs:List Nat):Ex->Tm
 | .mk kind name n k args=>if kind=97 then .atom name else if kind=110 then .int n else if kind=118 then .var (vs.getD k 0) else .comp name (km vs args)
 termination_by structural x=>x
def km (vs:List Nat):List Ex->List Tm
 | []=>[]
 | x::xs=>made vs x::km vs xs
 termination_by structural x=>x
end
mutual
def eu:Tm->Prop
 | .atom s=>s.length<=20/\s≠[]
 | .int n=>-9223372036854775808<=n/\n<=9223372036854775807
 | .var _=>True
 | .comp name args=>name.length<=20/\args.length<=100000/\jy args
 termination_by structural t=>t
def jy:List Tm->Prop
 | []=>True
 | t::ts=>eu t/\jy ts
 termination_by structural t=>t
end
def ng:Tr->Prop
 | []=>True
 | (_,t)::r=>eu t/\ng r
def look_ok:∀ {tr:Tr} {i:Nat} {t:Tm},ng tr->look i tr=O t->eu t
 | [],_,_,_,h=>by cases h
 | (j,u)::r,i,t,h,a=>by
  unfold look at a;split at a
  .injection a with a;subst a;exact h.1
  .exact look_ok h.2 a
def tY{tr:Tr}(h:ng tr):∀ {f:Nat} {t a:Tm},eu t->fE tr f t=O a->eu a
 | f,.atom s,a,ht,hw=>by simp_all [fE]
 | f,.int s,a,ht,hw=>by simp_all [fE]
 | f,.comp s l,a,ht,hw=>by simp_all [fE]
 | 0,.var i,a,ht,hw=>by
  grind [fE]
 | f+1,.var i,a,ht,hw=>by
  simp only[fE] at hw;split at hw
  .grind
  .rename_i t b;exact tY h (look_ok h b) hw
def Ty(n:Nat):∀ k,n<10 ^ (k+1)->∀ f,n<f->(BM f n).length<=k+1:=by
 intro k;induction k generalizing n with
 | zero=>
  intro h f a;cases f with
  | zero=>omega
  | succ f=>simp_all [BM,zip]
 | succ k ih=>
  intro h f a;cases f with
  | zero=>omega
  | succ f=>
   grind [BM,List.length_append,Nat.pow_succ,a1i,a1v]
theorem amq(h:n<10000000000000000000):(fc n).length<=19:=Ty n 18 zo _ zo
theorem aHk{n:Int}(a:-9223372036854775808<=n)(b:n<=9223372036854775807):(kN n).length<=20:=by
 grind [fc,amq,kN]
def Ws.cW(s:Ws):Nat:=s.out.length+60*s.fuel
structure Ws.Ok(s:Ws):Prop where
 big:s.cW<=900000000
 seen:s.seen.length<=s.out.length
theorem Ws.pO(s:Ws)(x:Bs):(s.add x).cW=s.cW+x.length:=by grind [Ws.cW,Ws.add]
def oI{x:Option (Option Ws)}{k:Ws->Option (Option Ws)}{r:Ws}(h:Wb x k=O (O r)):∃ s,x=O (O s)/\k s=O (O r):=by
 unfold Wb at h;grind
structure aHl(tr:Tr)(f:Nat):Prop where
 tm:∀ t least s r,eu t->s.cW<=900000100->s.seen.length<=s.out.length->ix tr f t least s=O (O r)->r.cW+30<=s.cW/\r.seen.length<=r.out.length
 comp:∀ name args least s r,eu (.comp name args)->s.cW<=900000100-60->s.seen.length<=s.out.length->rB tr f name args least s=O (O r)->r.cW<=s.cW+21/\r.seen.length<=r.out.length
 args:∀ c l s r,jy l->s.cW<=900000100-30->s.seen.length<=s.out.length->kX tr f c l s=O (O r)->r.cW<=s.cW/\r.seen.length<=r.out.length
 list:∀ c a b s r,eu a->eu b->s.cW<=900000100-30->s.seen.length<=s.out.length->oZ tr f c a b s=O (O r)->r.cW<=s.cW/\r.seen.length<=r.out.length
theorem Jb{a b:Tm}(h:jy [a,b]):eu a/\eu b:=by
 simp_all [jy]
theorem o9{s:Ws}{x:Bs}(h:s.seen.length<=s.out.length):(s.add x).seen.length<=(s.add x).out.length:=by grind [Ws.add]
def K5{tr:Tr}(ht:ng tr):∀ f,aHl tr f
 | 0=>⟨fun _ _ _ _ _ _ _ h=>by simp_all [ix],fun _ _ _ _ _ _ _ _ h=>by simp_all [rB],fun _ _ _ _ _ _ _ h=>by simp_all [kX],fun _ _ _ _ _ _ _ _ _ h=>by simp_all [oZ]⟩
 | f+1=>by
  have ih:=K5 ht f;refine⟨?_,?_,?_,?_⟩
  .intro t least s r i m j h;rw[ix] at h;split at h
   .grind
   rename_i B;have C:({ s with fuel:=s.fuel-1 }:Ws).cW+60=s.cW:=by grind [Ws.cW]
   split at h
   .grind
   .rename_i a hw;have:=tY ht i hw;grind [a07,eu,o9,Ws.pO]
   .rename_i a hw;have:=tY ht i hw;grind [a07,eu,aHk,o9,Ws.pO]
   .grind [a07,Ws.cW,AO,a3r,amq,o9,Ws.pO,a1i,fc,List.length_append,a1v]
   .rename_i name args hw;have g:=tY ht i hw;obtain⟨e,k⟩:=ih.comp name args least { s with fuel:=s.fuel-1 } r g zo j h;omega
  .intro name args least s r i m j h;rw[rB.eq_def] at h;dsimp only at h;unfold eu at i;obtain⟨D,q,n⟩:=i;have E:∀ l,jy l->Wb (kX tr f 40 l (s.add name)) (fun s=>O (O (s.add [41])))=O (O r)->r.cW<=s.cW+21/\r.seen.length<=r.out.length:=by
    intro l q h;obtain⟨s1,g,e⟩:=oI h;obtain⟨k,u⟩:=ih.args 40 l _ s1 q (by grind [Ws.pO]) (o9 j) g;grind [a07,Ws.pO,o9]
   split at h
   .rename_i a b;obtain⟨o,p⟩:=Jb n;have F:(if name=[109,111,100] then([32,109,111,100,32]:Bs) else name).length<=20:=zg;split at h
    .split at h
     .obtain⟨s1,g,e⟩:=oI h;obtain⟨s2,k,u⟩:=oI e;obtain⟨g1,g2⟩:=ih.tm a _ _ s1 o (by grind [Ws.pO]) (o9 j) g;rw[Ws.pO] at g1;simp only[a1i,a1v] at g1;obtain⟨g3,g4⟩:=ih.tm b _ _ s2 p (by grind [Ws.pO]) (o9 g2) k;grind [Ws.pO,a07,o9]
     .obtain⟨s1,g,e⟩:=oI h;obtain⟨g1,g2⟩:=ih.tm a _ _ s1 o zo j g;obtain⟨g3,g4⟩:=ih.tm b _ _ r p (by grind [Ws.pO]) (o9 g2) e;grind [Ws.pO]
    .split at h
     .obtain⟨g1,g2⟩:=ih.list 91 a b s r o p zo j h;omega
     grind
   grind
  .intro c l s r i m j h;cases l with
   | nil=>
    simp_all [kX,a07,a1c]
   | cons a l=>
    rw[kX] at h;unfold jy at i;obtain⟨s1,g,e⟩:=oI h;obtain⟨g1,g2⟩:=ih.tm a _ _ s1 i.1 (by grind [Ws.pO]) (o9 j) g;rw[Ws.pO] at g1;simp only[a1i,a1v] at g1;obtain⟨g3,g4⟩:=ih.args 44 l s1 r i.2 zo g2 e;omega
  .intro c a b s r n w m j h;rw[oZ] at h;obtain⟨s1,g,e⟩:=oI h;obtain⟨g1,g2⟩:=ih.tm a _ _ s1 n (by grind [Ws.pO]) (o9 j) g;rw[Ws.pO] at g1;simp only[a1i,a1v] at g1;have H:Wb (ix tr f b 0 (s1.add [124])) (fun s=>O (O (s.add [93])))=O (O r)->r.cW<=s.cW/\r.seen.length<=r.out.length:=by
    intro h;obtain⟨s2,k,u⟩:=oI h;obtain⟨g3,g4⟩:=ih.tm b _ _ s2 w (by grind [Ws.pO]) (o9 g2) k;grind [Ws.pO,a1i,a1v,a07,o9]
   split at e
   .grind
   .rename_i name args hw;have x:=tY ht w hw;unfold eu at x;split at e
    .rename_i c d;obtain⟨y,z⟩:=Jb x.2.2;split at e
     .obtain⟨g3,g4⟩:=ih.list 44 c d s1 r y z zo g2 e;omega
     grind
    grind
   .grind [a07,Ws.pO,o9]
   grind
def aHm{w:Bs}(h:jH w≠0):w.length<=9:=by
 unfold jH at h;grind
def aHn{s:Bs}(hm:s∈nP):s.length<=9:=by
 simp only[nP,List.mem_cons,List.not_mem_nil,or_false] at hm;rcases hm with rfl | rfl | rfl | rfl | rfl | rfl | rfl | rfl | rfl | rfl | rfl | rfl | rfl | rfl | rfl | rfl | rfl | rfl | rfl | rfl | rfl | rfl | rfl<;>decide
def Jc:∀ (f:Nat) (r:Bs) (i:Nat) (T:List Tok),lB f r i=O (.inr T)->∀ u∈T,u.text.length<=9
 | 0,r,i,T,h=>by simp_all [lB]
 | f+1,[],i,T,h=>by
  rw[lB] at h;grind
 | f+1,c::r,i,T,h=>by
  have key:∀ (x:Option (Sum Nat (List Tok))) (t:Tok),(∀ l,x=O (.inr l)->∀ u∈l,u.text.length<=9)->t.text.length<=9 ->
    (match x with | some (.inr l)=>O (.inr (t::l)) | y=>y)=O (.inr T)->∀ u∈T,u.text.length<=9:=by
   grind
  rw[lB] at h;split at h
  .exact Jc f r (i+1) T h
  split at h
  .dsimp only at h;split at h
   .grind
   .rename_i d hw;exact key _ _ (fun l a=>Jc f _ _ l a) (aHm hw) h
  split at h
  .exact key _ _ (fun l a=>Jc f _ _ l a) zs h
  split at h
  .grind
  .rename_i s b;exact key _ _ (fun l a=>Jc f _ _ l a) (aHn (a1Z b)) h
mutual
def gy:Ex->Nat
 | .mk _ _ _ _ args=>fB args+1
 termination_by structural x=>x
def fB:List Ex->Nat
 | []=>0
 | x::xs=>gy x+fB xs
 termination_by structural x=>x
end
def ads:∀ (a b:List Ex),fB (a++b)=fB a+fB b
 | [],b=>by simp [fB]
 | x::a,b=>by simp [fB,ads a b];omega
mutual
def gR (nv:Nat):Ex->Prop
 | .mk kind name n k args=>name.length<=9/\(-999999999<=n/\n<=999999999)/\(kind=97\/kind=110\/kind=118\/kind=99)/\(kind=118->k<nv)/\(args.length<=4/\(kind=99->args≠[]))/\(kind=97->name≠[])/\(kind≠99->args=[])/\fi nv args
 termination_by structural x=>x
def fi (nv:Nat):List Ex->Prop
 | []=>True
 | x::xs=>gR nv x/\fi nv xs
 termination_by structural x=>x
end
mutual
theorem gR.mono {n m:Nat} (h:n<=m):∀ (x:Ex),gR n x->gR m x
 | .mk kind name k v args,hx=>by
  unfold gR at hx ⊢;obtain⟨a,b,c,d,f,g,i,j⟩:=hx;exact⟨a,b,c,fun e=>Nat.lt_of_lt_of_le (d e) h,f,g,i,fi.mono h args j⟩
 termination_by structural x=>x
theorem fi.mono {n m:Nat} (h:n<=m):∀ (l:List Ex),fi n l->fi m l
 | [],hx=>by simp_all [fi]
 | x::xs,hx=>by
  unfold fi at hx ⊢;exact⟨gR.mono h x hx.1,fi.mono h xs hx.2⟩
 termination_by structural x=>x
end
def fi.append{n:Nat}:∀ {a b:List Ex},fi n a->fi n b->fi n (a++b)
 | [],b,_,c=>c
 | x::a,b,d,c=>by
  show fi n (x::(a++b));unfold fi at d ⊢;exact⟨d.1,fi.append d.2 c⟩
def fi.snoc{a:List Ex}{x:Ex}(b:fi n a)(hx:gR n x):fi n (a++[x]):=b.append (by simp_all [fi])
theorem fi.nil:fi n []:=by simp_all [fi]
theorem fi.at{n:Nat}:∀ {l:List Ex} {j:Nat},fi n l->(a:j<l.length)->gR n l[j]
 | x::xs,0,h,_=>by simp_all [fi]
 | x::xs,j+1,h,a=>by unfold fi at h;exact fi.at h.2 zg
theorem gR.two{name:Bs}{a b:Ex}(c:name.length<=9)(d:gR nv a)(e:gR nv b):gR nv (.mk 99 name 0 0 [a,b]):=by
 simp_all [gR,fi,fi.nil]
theorem amr{name:Bs}{a b:Ex}:gy (.mk k name 0 0 [a,b])=gy a+gy b+1:=by simp [gy,fB]
def aHo{l:Nat}{T:List Tok}{o:Bs}(h:pz T l k=O o):o.length<=9:=by
 have hm:=a1Z h;grind [ops]
structure AP(T:List Tok):Prop where
 len:∀ u∈T,u.text.length<=9
 word:∀ u∈T,u.kind=1->u.text≠[]
 digits:∀ u∈T,u.kind=3->u.text.all digit=A
def N0{T:List Tok}(h:(tk T k).kind≠0):tk T k∈T:=by
 grind [Nat.lt_or_ge,absurd,tk,List.getElem?_eq_none,List.getElem?_eq_getElem,List.getElem_mem]
def aHp{t:Tok}{v v':List Bs}{x:Ex}(h:wN t k v = .ok x k' v'):gR v'.length x/\v.length<=v'.length/\k'=k/\gy x=1:=by
 unfold wN at h;split at h
 .rename_i j e;injection h with a b c;subst a b c;have d:j<v.length:=by
   grind [a3r]
  refine⟨?_,a1c _,J,by simp [gy,fB]⟩;unfold gR;exact⟨zs,zo,zs,fun _=>d,zs,zs,zs,fi.nil⟩
 .split at h
  .grind
  .injection h with a b c;subst a b c;refine⟨?_,zs,J,by simp [gy,fB]⟩;unfold gR;exact⟨zs,zo,zs,fun _=>zs,zs,zs,zs,fi.nil⟩
theorem adt{nv:Nat}{x:Ex}(hx:gR nv x):∀ {all:List Ex},fi nv all->gR nv (vj all x)/\gy (vj all x)=fB all+all.length+gy x
 | [],_=>⟨hx,by simp [vj,fB]⟩
 | a::l,h=>by
  unfold fi at h;obtain⟨b,c⟩:=adt hx h.2;grind [gR.two,gy,vj,amr,fB]
theorem ams:gR nv (.mk 97 [91,93] 0 0 []):=by
 simp_all [gR,fi.nil]
structure EOk(T:List Tok)(f:Nat):Prop where
 Bx:∀ k v d x k' v',lC T f k v d=O (.ok x k' v')->gR v'.length x/\v.length<=v'.length/\k+gy x<=k'
 args:∀ k v d a acc x k' v',fi v.length acc->mR T f k v d a acc=O (.ok x k' v')->fi v'.length x/\v.length<=v'.length/\k+fB x<=k'+fB acc/\x.length<=4/\x≠[]
 list:∀ k v d x k' v',oq T f k v d=O (.ok x k' v')->gR v'.length x/\v.length<=v'.length/\k+gy x<=k'+1
 elems:∀ k v d acc x k' v',fi v.length acc->oT T f k v d acc=O (.ok x k' v')->fi v'.length x/\v.length<=v'.length/\k+fB x+x.length<=k'+fB acc+acc.length+1
 oper:∀ l k v d x k' v',gW T f l k v d=O (.ok x k' v')->gR v'.length x/\v.length<=v'.length/\k+gy x<=k'
 more:∀ l y k v d x k' v',gR v.length y->mS T f l y k v d=O (.ok x k' v')->gR v'.length x/\v.length<=v'.length/\k+gy x<=k'+gy y
def N1{T:List Tok}(g:AP T):∀ f,EOk T f
 | 0=>⟨by simp_all [lC],by simp_all [mR],by simp_all [oq],by simp_all [oT],by simp_all [gW],by simp_all [mS]⟩
 | f+1=>by
  have ih:=N1 g f;refine⟨?_,?_,?_,?_,?_,?_⟩
  .intro k v d x k' v' h;rw[lC] at h;split at h
   .grind
   split at h
   .rename_i hk;simp only[a07,cd.ok.injEq] at h;obtain⟨rfl,rfl,rfl⟩:=h;have hm:=N0 (T:=T) (k:=k) zo;obtain⟨a,b⟩:=Sb (g.digits _ hm hk) (g.len _ hm);refine⟨?_,a1c _,by simp [gy,fB]⟩;grind [gR,fi.nil]
   split at h
   .simp only[a07] at h;obtain⟨e,c,rfl,n⟩:=aHp h;grind
   split at h
   .rename_i hk;have hm:=N0 (T:=T) (k:=k) zo;split at h
    .obtain⟨a,i,v1,e,c⟩:=ee h;obtain⟨g1,g2,g3,g4⟩:=ih.args _ _ _ _ _ _ _ _ fi.nil e;obtain⟨rfl,rfl,rfl⟩:=mV c;refine⟨?_,g2,by grind [gy,fB]⟩;unfold gR;exact⟨g.len _ hm,zo,zs,zs,⟨g4.1,fun _=>g4.2⟩,zs,zs,g1⟩
    .simp only[a07,cd.ok.injEq] at h;obtain⟨rfl,rfl,rfl⟩:=h;refine⟨?_,a1c _,by simp [gy,fB]⟩;unfold gR;exact⟨g.len _ hm,zo,zs,zs,zs,fun _=>g.word _ hm hk,zs,fi.nil⟩
   split at h
   .split at h
    .rename_i hk;simp only[a07,cd.ok.injEq] at h;obtain⟨rfl,rfl,rfl⟩:=h;have hm:=N0 (T:=T) (k:=k+1) zo;obtain⟨a,b⟩:=Sb (g.digits _ hm hk) (g.len _ hm);refine⟨?_,a1c _,by simp [gy,fB]⟩;grind [gR,fi.nil]
    grind
   split at h
   .obtain⟨a,i,v1,e,c⟩:=ee h;obtain⟨g1,g2,g3⟩:=ih.oper _ _ _ _ _ _ _ e;obtain⟨rfl,rfl,rfl⟩:=mV c;grind
   split at h
   .obtain⟨g1,g2,g3⟩:=ih.list _ _ _ _ _ _ h;grind
   grind
  .intro k v d a acc x k' v' j h;rw[mR] at h;obtain⟨y,i,v1,e,c⟩:=ee h;obtain⟨g1,g2,g3⟩:=ih.oper _ _ _ _ _ _ _ e;have m:=(fi.mono g2 _ j).snoc g1;have p:fB (acc++[y])=fB acc+gy y:=by simp_all [ads,fB]
   split at c
   .obtain⟨q1,q2,q3,q4⟩:=ih.args _ _ _ _ _ _ _ _ m c;grind
   .split at c
    .grind
    .rename_i q;simp only[a07,cd.ok.injEq] at c;obtain⟨rfl,rfl,rfl⟩:=c;grind [Sa]
  .intro k v d x k' v' h;rw[oq] at h;split at h
   .simp only[a07,cd.ok.injEq] at h;obtain⟨rfl,rfl,rfl⟩:=h;simp_all [ams,a1c,gy,fB]
   .obtain⟨all,i,v1,e,c⟩:=ee h;obtain⟨g1,g2,g3⟩:=ih.elems _ _ _ _ _ _ _ fi.nil e;simp [fB] at g3;split at c
    .obtain⟨y,u,v2,r,n⟩:=ee c;obtain⟨q1,q2,q3⟩:=ih.oper _ _ _ _ _ _ _ r;obtain⟨rfl,rfl,rfl⟩:=mV n;grind [adt,fi.mono]
    .obtain⟨rfl,rfl,rfl⟩:=mV c;grind [adt,ams,gy,fB]
  .intro k v d acc x k' v' j h;rw[oT] at h;obtain⟨y,i,v1,e,c⟩:=ee h;obtain⟨g1,g2,g3⟩:=ih.oper _ _ _ _ _ _ _ e;have m:=(fi.mono g2 _ j).snoc g1;have p:fB (acc++[y])=fB acc+gy y:=by simp_all [ads,fB]
   have q:(acc++[y]).length=acc.length+1:=zs;split at c
   .obtain⟨q1,q2,q3⟩:=ih.elems _ _ _ _ _ _ _ m c;grind
   grind
  .intro l k v d x k' v' h;rw[gW] at h;split at h
   .exact ih.Bx _ _ _ _ _ _ h
   .obtain⟨y,i,v1,e,c⟩:=ee h;obtain⟨g1,g2,g3⟩:=ih.oper _ _ _ _ _ _ _ e;obtain⟨q1,q2,q3⟩:=ih.more _ _ _ _ _ _ _ _ g1 c;grind
  .intro l y k v d x k' v' s h;rw[mS] at h;split at h
   .grind
   .rename_i o t;obtain⟨z,i,v1,e,c⟩:=ee h;obtain⟨g1,g2,g3⟩:=ih.oper _ _ _ _ _ _ _ e;obtain⟨q1,q2,q3⟩:=ih.more _ _ _ _ _ _ _ _ (gR.two (aHo t) (gR.mono g2 _ s) g1) c;grind [amr]
mutual
theorem Tz {nv:Nat} (vs:List Nat):∀ (x:Ex),gR nv x->eu (made vs x)
 | .mk kind name n k args,h=>by
  unfold gR at h;obtain⟨a,b,d,e,f,g,i,c⟩:=h;unfold made;split
  .grind [eu]
  .split
   .grind [eu]
   .split
    .simp_all [eu]
    .unfold eu;have:=K6 vs args c;grind
 termination_by structural x=>x
theorem K6 {nv:Nat} (vs:List Nat):∀ (l:List Ex),fi nv l->jy (km vs l)/\(km vs l).length=l.length
 | [],_=>by unfold km jy;exact⟨trivial,J⟩
 | x::xs,h=>by
  unfold fi at h;have a:=Tz vs x h.1;have b:=K6 vs xs h.2;simp_all [km,jy]
 termination_by structural x=>x
end
structure LeT(T:List Tok)(f:Nat):Prop where
 Bx:∀ k v d x k' v',lC T f k v d=O (.ok x k' v')->k'<=T.length
 args:∀ k v d a acc x k' v',mR T f k v d a acc=O (.ok x k' v')->k'<=T.length
 list:∀ k v d x k' v',oq T f k v d=O (.ok x k' v')->k'<=T.length
 elems:∀ k v d acc x k' v',oT T f k v d acc=O (.ok x k' v')->k'<=T.length
 oper:∀ l k v d x k' v',gW T f l k v d=O (.ok x k' v')->k'<=T.length
 more:∀ l y k v d x k' v',k<=T.length->mS T f l y k v d=O (.ok x k' v')->k'<=T.length
def TA{α:Type}{T:List Tok}{s:Bs}{x y:α}{v v':List Bs}(h:mj T s x k v=O (.ok y k' v')):k'<=T.length:=by
 unfold mj at h;split at h
 .rename_i a;have:=yh a;grind
 grind
def TB(T:List Tok):∀ f,LeT T f
 | 0=>⟨by simp_all [lC],by simp_all [mR],by simp_all [oq],by simp_all [oT],by simp_all [gW],by simp_all [mS]⟩
 | f+1=>by
  have ih:=TB T f;refine⟨?_,?_,?_,?_,?_,?_⟩
  .intro k v d x k' v' h;rw[lC] at h;split at h
   .grind
   split at h
   .rename_i hk;have:=NT (T:=T) (k:=k) zo;grind
   split at h
   .rename_i hk;have:=NT (T:=T) (k:=k) zo;grind [a07,akD]
   split at h
   .rename_i hk;have:=NT (T:=T) (k:=k) zo;split at h
    .obtain⟨a,e,v1,c,b⟩:=ee h;exact TA b
    grind
   split at h
   .split at h
    .rename_i hk;have:=NT (T:=T) (k:=k+1) zo;grind
    grind
   split at h
   .obtain⟨a,e,v1,c,b⟩:=ee h;exact TA b
   split at h
   .exact ih.list _ _ _ _ _ _ h
   grind
  .intro k v d a acc x k' v' h;rw[mR] at h;obtain⟨y,e,v1,c,b⟩:=ee h;split at b
   .exact ih.args _ _ _ _ _ _ _ _ b
   .split at b
    .grind
    .simp only[a07,cd.ok.injEq] at b;have:=ih.oper _ _ _ _ _ _ _ c;omega
  .intro k v d x k' v' h;rw[oq] at h;split at h
   .rename_i g;have:=yh g;grind
   .obtain⟨all,e,v1,c,b⟩:=ee h;split at b
    .obtain⟨y,j,v2,m,i⟩:=ee b;exact TA i
    .exact TA b
  .intro k v d acc x k' v' h;rw[oT] at h;obtain⟨y,e,v1,c,b⟩:=ee h;split at b
   .exact ih.elems _ _ _ _ _ _ _ b
   .simp only[a07,cd.ok.injEq] at b;have:=ih.oper _ _ _ _ _ _ _ c;omega
  .intro l k v d x k' v' h;rw[gW] at h;split at h
   .exact ih.Bx _ _ _ _ _ _ h
   .obtain⟨y,e,v1,c,b⟩:=ee h;exact ih.more _ _ _ _ _ _ _ _ (ih.oper _ _ _ _ _ _ _ c) b
  .intro l y k v d x k' v' hk h;rw[mS] at h;split at h
   .grind
   .obtain⟨z,e,v1,c,b⟩:=ee h;exact ih.more _ _ _ _ _ _ _ _ (ih.oper _ _ _ _ _ _ _ c) b
mutual
def fe (nv M:Nat):Bd->Prop
 | .mk kind name args parts=>name.length<=9/\(kind=33\/kind=44\/kind=59\/kind=63\/kind=126\/kind=103)/\((kind=59->parts.length=2)/\(kind=63->parts.length=3)/\(kind=126->parts.length=1)) /\
  args.length<=4/\fi nv args/\fB args<=M/\parts.length<=M/\ff nv M parts
 termination_by structural x=>x
def ff (nv M:Nat):List Bd->Prop
 | []=>True
 | x::xs=>fe nv M x/\ff nv M xs
 termination_by structural x=>x
end
mutual
theorem fe.mono {n m M:Nat} (h:n<=m):∀ (x:Bd),fe n M x->fe m M x
 | .mk kind name args parts,hx=>by
  unfold fe at hx ⊢;obtain⟨a,b,c,d,e,f,g,i⟩:=hx;exact⟨a,b,c,d,fi.mono h args e,f,g,ff.mono h parts i⟩
 termination_by structural x=>x
theorem ff.mono {n m M:Nat} (h:n<=m):∀ (l:List Bd),ff n M l->ff m M l
 | [],hx=>by simp_all [ff]
 | x::xs,hx=>by
  unfold ff at hx ⊢;exact⟨fe.mono h x hx.1,ff.mono h xs hx.2⟩
 termination_by structural x=>x
end
theorem ff.nil:ff n M []:=by simp_all [ff]
def ff.snoc{n M:Nat}{x:Bd}(hx:fe n M x):∀ {a:List Bd},ff n M a->ff n M (a++[x])
 | [],_=>by simp_all [ff,ff.nil]
 | y::a,h=>by
  show ff n M (y::(a++[x]));unfold ff at h ⊢;exact⟨h.1,ff.snoc hx h.2⟩
theorem ff.at{n M:Nat}:∀ {l:List Bd} {j:Nat},ff n M l->(a:j<l.length)->fe n M l[j]
 | x::xs,0,h,_=>by simp_all [ff]
 | x::xs,j+1,h,a=>by unfold ff at h;exact ff.at h.2 zg
theorem adu:fe n M An:=by simp_all [An,fe,fi.nil,fB,ff.nil]
def aHs:fe n M Pt:=by simp_all [Pt,fe,fi.nil,fB,ff.nil]
def ff.one{a:Bd}(h:fe n M a):ff n M [a]:=by simp_all [ff,ff.nil]
def ff.cons{a:Bd}{l:List Bd}(h:fe n M a)(b:ff n M l):ff n M (a::l):=by simp_all [ff]
def amt:∀ (x:Ex),1<=gy x
 | .mk ..=>by simp [gy]
def aHt{T:List Tok}{c:Bs}(h:MV T k=O c):c.length<=9/\k<T.length:=by
 unfold MV at h;have hm:=a1Z h;refine⟨?_,yh (List.find?_some h)⟩;simp only[MU,List.mem_cons,List.not_mem_nil,or_false] at hm;grind
structure BOk(T:List Tok)(f:Nat):Prop where
 lit:∀ k v d x k' v',nQ T f k v d=O (.ok x k' v')->fe v'.length T.length x/\v.length<=v'.length/\k+1<=k'/\k'<=T.length
 lits:∀ k v d acc x k' v',ff v.length T.length acc->qF T f k v d acc=O (.ok x k' v')->ff v'.length T.length x/\v.length<=v'.length/\k+x.length<=k'+acc.length/\k'<=T.length/\k+1<=k'
 row:∀ k v d x k' v',ot T f k v d=O (.ok x k' v')->fe v'.length T.length x/\v.length<=v'.length/\k+1<=k'/\k'<=T.length
 rest:∀ k v d x k' v',qG T f k v d=O (.ok x k' v')->fe v'.length T.length x/\v.length<=v'.length/\k+1<=k'/\k'<=T.length
 body:∀ k v d x k' v',mT T f k v d=O (.ok x k' v')->fe v'.length T.length x/\v.length<=v'.length/\k+1<=k'/\k'<=T.length
theorem aHv{a b:Bd}(e:3<=M)(c:fe nv M a)(d:fe nv M b):fe nv M (.mk 59 [] [] [a,b]):=by
 unfold fe;exact⟨zs,zs,zs,zs,fi.nil,by simp [fB],zg,.cons c (.one d)⟩
theorem amu{a b c:Bd}(g:3<=M)(d:fe nv M a)(e:fe nv M b)(f:fe nv M c):fe nv M (.mk 63 [] [] [a,b,c]):=by
 unfold fe;exact⟨zs,zs,zs,zs,fi.nil,by simp [fB],zo,.cons d (.cons e (.one f))⟩
def Xz{T:List Tok}(o:AP T):∀ f,BOk T f
 | 0=>⟨by simp_all [nQ],by simp_all [qF],by simp_all [ot],by simp_all [qG],by simp_all [mT]⟩
 | f+1=>by
  have ih:=Xz o f;refine⟨?_,?_,?_,?_,?_⟩
  .intro k v d x k' v' h;rw[nQ] at h;split at h
   .grind
   split at h
   .rename_i r;have hlt:=yh r;simp only[a07,cd.ok.injEq] at h;obtain⟨rfl,rfl,rfl⟩:=h;refine⟨?_,a1c _,zo,zo⟩;simp_all [fe,fi.nil,fB,ff.nil]
   split at h
   .obtain⟨b,m,v1,g,e⟩:=ee h;obtain⟨g1,g2,g3,g4⟩:=ih.lit _ _ _ _ _ _ g;simp only[a07,cd.ok.injEq] at e;obtain⟨rfl,rfl,rfl⟩:=e;refine⟨?_,g2,zo,g4⟩;unfold fe;exact⟨zs,zs,zs,zs,fi.nil,by simp [fB],zg,.one g1⟩
   split at h
   .obtain⟨b,m,v1,g,e⟩:=ee h;obtain⟨g1,g2,g3,g4⟩:=ih.body _ _ _ _ _ _ g;have hm:=TA e;obtain⟨rfl,rfl,rfl⟩:=mV e;grind
   .obtain⟨y,m,v1,g,e⟩:=ee h;obtain⟨g1,g2,g3⟩:=(N1 o f).oper _ _ _ _ _ _ _ g;have C:=amt y;have s:=(TB T f).oper _ _ _ _ _ _ _ g;split at e
    .rename_i c t;obtain⟨D,c2⟩:=aHt t;obtain⟨z,p,v2,j,i⟩:=ee e;obtain⟨q1,q2,q3⟩:=(N1 o f).oper _ _ _ _ _ _ _ j;have E:=(TB T f).oper _ _ _ _ _ _ _ j;simp only[a07,cd.ok.injEq] at i;obtain⟨rfl,rfl,rfl⟩:=i;grind [fe,fB,ff.nil,fi,gR.mono,fi.nil]
    .split at e
     .grind
     .split at e
      .grind
      .simp only[a07,cd.ok.injEq] at e;obtain⟨rfl,rfl,rfl⟩:=e;refine⟨?_,g2,zo,s⟩;obtain⟨kind,name,n,F,args⟩:=y;unfold gR at g1;unfold fe;simp only[gy] at g3;exact⟨g1.1,zs,zs,g1.2.2.2.2.1.1,g1.2.2.2.2.2.2.2,by grind [Ex.args],zs,ff.nil⟩
  .intro k v d acc x k' v' u h;rw[qF] at h;obtain⟨y,m,v1,g,e⟩:=ee h;obtain⟨g1,g2,g3,g4⟩:=ih.lit _ _ _ _ _ _ g;have w:=ff.snoc g1 (ff.mono g2 _ u);split at e
   .obtain⟨q1,q2,q3,q4,H⟩:=ih.lits _ _ _ _ _ _ _ w e;grind
   grind
  .intro k v d x k' v' h;rw[ot] at h;obtain⟨l,m,v1,g,e⟩:=ee h;obtain⟨g1,g2,g3,g4,g5⟩:=ih.lits _ _ _ _ _ _ _ ff.nil g;simp only[a07,cd.ok.injEq] at e;obtain⟨rfl,rfl,rfl⟩:=e;grind [a1v,ff,fe,fi.nil,fB]
  .intro k v d x k' v' h;rw[qG] at h;split at h
   .grind
   .exact ih.body _ _ _ _ _ _ h
  .intro k v d x k' v' h;rw[mT] at h;obtain⟨a,m,v1,g,e⟩:=ee h;obtain⟨g1,g2,g3,g4⟩:=ih.row _ _ _ _ _ _ g;split at e
   .obtain⟨b,p,v2,j,i⟩:=ee e;obtain⟨q1,q2,q3,q4⟩:=ih.row _ _ _ _ _ _ j;split at i
    .obtain⟨c,I,v3,B,q⟩:=ee i;obtain⟨m1,m2,m3,m4⟩:=ih.rest _ _ _ _ _ _ B;simp only[a07,cd.ok.injEq] at q;obtain⟨rfl,rfl,rfl⟩:=q;grind [amu,fe.mono]
    .simp only[a07,cd.ok.injEq] at i;obtain⟨rfl,rfl,rfl⟩:=i;grind [amu,fe.mono,adu]
   .split at e
    .obtain⟨b,p,v2,j,i⟩:=ee e;obtain⟨q1,q2,q3,q4⟩:=ih.rest _ _ _ _ _ _ j;simp only[a07,cd.ok.injEq] at i;obtain⟨rfl,rfl,rfl⟩:=i;grind [aHv,fe.mono]
    grind
def vH(T:List Tok):cd Bd:=
 match mT T (rY T) 0 [] 0 with
 | some (.ok b k vs)=>match mj T [46] b k vs with
  | some (.ok b k vs)=>if (tk T k).kind=0 then .ok b k vs else .err 2 (tk T k).pos
  | some (.err e a)=>.err e a
  | none=>.err 0 0
 | some (.err e a)=>.err e a
 | none=>.err 0 0
end P
open Go.Proofs.YtoegidfbnkaabaaGreatDoor.Sx
section
variable{p0 p1 p2 p3 p4 p5 p6 p7:Y}{w:Z}{R:Ending->Z->Prop}
def aHw:=cz w R [p0] (gc [] [] []) func12
def aHx:=cz w R [p0] (gc [] [] [12]) func22
end
open Go.RowKit Sx
def aHy(s:P.Bs)(w:Z)(g:s.length<=100000)(h:Xw w):Calls bbi 28 #[aT s] w (Xx w s):=by
 refine aw5 ?_;refine(aHf s w g h).mono ?_;rintro e w1 ⟨f,d⟩;cases hr:P.program s with
 | err c a=>
  rw[hr] at d;obtain⟨b,rfl,i⟩:=d;refine bG ?_;refine⟨f,?_⟩;exact yH
 | ok cs k vs=>
  rw[hr] at d;obtain⟨v,vs,rfl,i,j⟩:=d;refine bG ?_;refine⟨f,?_⟩;exact yH
def aHz(w:Z)(s:P.Bs)(e:Ending)(w':Z):Prop:=
 Ext w w'/\match P.program s with
 | .err c a=>∃ b,e = ah (ak #[aq V,aj 73 (aq (O ⟨b,0,V⟩))])/\w'.heap[b]?=O (ae #[.int .i64 c,.int .i64 a] 77 (0,0))
 | .ok cs _ _=>∃ b v vs,e = ah (ak #[aq (O ⟨b,0,V⟩),ai])/\w'.heap[b]?=O (ae #[v] 72 (0,0))/\Nu w w' b /\
  fJ (Nu w w') w' 79 v vs/\kE (Nu w w') w' vs cs
def aHA(s:P.Bs)(w:Z)(h:s.length<=100000)(i:Xw w):Calls bbi 22 #[aT s] w (aHz w s):=by
 refine aHx ?_;refine(aHy s w h i).mono ?_;rintro e w1 ⟨g,d⟩;have s1:=g.size;cases hr:P.program s with
 | err c a=>
  rw[hr] at d;obtain⟨b,rfl,f⟩:=d;refine bG ?_;refine⟨g,?_⟩;exact yH
 | ok cs k vs=>
  rw[hr] at d;obtain⟨v,vs,rfl,f,j⟩:=d;obtain⟨l,sn,m,rfl⟩:∃ a n c,v = .slice a n c:=by rcases f with⟨-,rfl⟩| ⟨b,cs',rfl,-⟩<;>exact zg
  refine bG ?_;refine⟨yF,?_⟩;rw[hr];refine⟨_,_,vs,J,yH,yH,f.mono (by grind [World.size_alloc]) yH,j.mono (by grind [World.size_alloc]) fun b cs t _ _ o=>yH⟩
open Go.Extern.Stop Go.Stop Go.Extern
def amv(t:Addr)(w:Z):(ReflectliteValue.unpack (aj 75 (aq (O t)))).run bbi w
 = .ok (.agg #[pq 12 75,pp w.heap.size,.int .u64 150]) (w.alloc (ae #[aq (O t)] 75)):=zk
def amw(a:Addr)(w:Z):(ReflectliteValue.methodAny (ReflectliteValue.valueError "reflectlite.Value.Type" 0) (fun t _ _ _=>ReflectliteType.toType t) #[.agg #[pq 12 75,aq (O a),.int .u64 150]]).run bbi w
 = .ok (aj 219 (.agg #[pq 12 75])) w:=zk
def adv(h:Y)(w:Z):(a60 476 219 (.agg #[h]) "Kind").run bbi w = .ok (196,h) w:=zk
def amx(w:Z):((ReflectliteType.abiMethod fun t=>Functor.map (fun a:Nat=>Value.int IntKind.u8 (a:Int)) (Rtype.kind t)) #[pq 12 75]).run bbi w = .ok (.int .u8 22) w:=zk
def amy(w:Z):((ReflectliteType.abiMethod fun t=>Functor.map (fun a:Nat=>Value.int IntKind.u8 (a:Int)) (Rtype.kind t)) #[pq 12 73]).run bbi w = .ok (.int .u8 22) w:=zk
def XA(z:Sem Y)(f:TypeId->Addr->Nat->Nat->Sem Y)(v:Y) :
 ReflectliteValue.method z f #[v]=(do match <- ReflectliteValue.parts v with | none=>z | some (t,a,fl)=>f t a fl (fl % 32)):=rfl
def amz(a:Addr)(w:Z):(ReflectliteValue.parts (.agg #[pq 12 75,aq (O a),.int .u64 150])).run bbi w = .ok (O (75,a,150)) w:=zk
def amA(a p:Addr)(W:Z)(b:W.cell? a=O (aq (O p))) :
  (ReflectliteValue.method (ReflectliteValue.valueError "reflectlite.Value.IsNil" 0) ReflectliteValue.isNil #[.agg #[pq 12 75,aq (O a),.int .u64 150]]).run bbi W = .ok (.bool G) W:=by
 rw[XA];simp only[a1m,amz,a16];simp [ReflectliteValue.isNil,loadVar,isAgg,underlying,underlying75,b,a16]
def adw(h:Y)(w:Z):(a60 476 219 (.agg #[h]) "Elem").run bbi w = .ok (238,.agg #[h]) w:=zk
def adx(h:Y)(w:Z):(a60 476 219 (.agg #[h]) "Implements").run bbi w = .ok (239,.agg #[h]) w:=zk
def ady(h:Y)(w:Z):(a60 476 219 (.agg #[h]) "AssignableTo").run bbi w = .ok (236,.agg #[h]) w:=zk
def amB(w:Z):(ReflectliteType.method ReflectliteType.elem #[.agg #[pq 12 75]]).run bbi w = .ok (aj 219 (.agg #[pq 12 73])) w:=zk
def amC(w:Z):(ReflectliteType.relation "Implements" ReflectliteType.implements_ #[.agg #[pq 12 73],aj 219 (.agg #[pq 12 57])]).run bbi w = .ok (.bool A) w:=zk
def aHB(v:Y)(w:Z):(ReflectliteType.typeOf #[aj 73 v]).run bbi w = .ok (aj 219 (.agg #[pq 12 73])) w:=zk
def aHC(w:Z):(ReflectliteType.relation "AssignableTo" ReflectliteType.assignableTo #[.agg #[pq 12 73],aj 219 (.agg #[pq 12 73])]).run bbi w = .ok (.bool A) w:=zk
def aHD(e:Addr)(w:Z):(ReflectliteValue.unpack (aj 73 (aq (O e)))).run bbi w
 = .ok (.agg #[pq 12 73,pp w.heap.size,.int .u64 150]) (w.alloc (ae #[aq (O e)] 73)):=zk
def aHE(w:Z):(Rtype.elem? 75).run bbi w = .ok (O 73) w:=zk
def aHF(p:Addr)(w:Z):(ReflectliteValue.mk 73 p ReflectliteValue.flagAddr).run bbi w = .ok (.agg #[pq 12 73,aq (O p),.int .u64 406]) w:=zk
def aHG(a p:Addr)(W:Z)(b:W.cell? a=O (aq (O p))) :
  (ReflectliteValue.method (ReflectliteValue.valueError "reflectlite.Value.Elem" 0) ReflectliteValue.elem #[.agg #[pq 12 75,aq (O a),.int .u64 150]]).run bbi W
   = .ok (.agg #[pq 12 73,aq (O p),.int .u64 406]) W:=by
 rw[XA];simp only[a1m,amz,a16];simp [ReflectliteValue.elem,loadVar,isAgg,underlying,underlying75,b,a16,aHE,aHF]
def amD(v x:Y):ReflectliteValue.set #[v,x]=(do
 let (O (dst,a,fl),O (src,b,_)):=(<- ReflectliteValue.parts v,<- ReflectliteValue.parts x)
  | unsupported (.noEntry "extern/(internal/reflectlite.Value).Set.zeroValue")
 if fl / ReflectliteValue.flagAddr % 2 == 0 then unsupported (.noEntry "extern/(internal/reflectlite.Value).Set.unaddressable")
 let val <- loadVar src b
 if <- Rtype.directlyAssignable dst src then storeVar dst a val
 else if <- Rtype.implements dst src then
  if (<- Rtype.kind src) == 20 then
   match val with
   | ai=>unsupported (.noEntry "extern/reflectlite: a nil value of one interface type handed on as a value of another")
   | _=>storeVar dst a val
  else storeVar dst a (aj src val)
 else panicString ("reflectlite.Set: value of type "++(<- Rtype.spelt src)++ " is not assignable to type "++(<- Rtype.spelt dst))
 pure (ak #[])):=rfl
def aHH(a:Addr)(w:Z):(ReflectliteValue.parts (.agg #[pq 12 73,aq (O a),.int .u64 406])).run bbi w = .ok (O (73,a,406)) w:=zk
def aHI(a:Addr)(w:Z):(ReflectliteValue.parts (.agg #[pq 12 73,aq (O a),.int .u64 150])).run bbi w = .ok (O (73,a,150)) w:=zk
def aHJ(w:Z):(Rtype.directlyAssignable 73 73).run bbi w = .ok A w:=zk
def aHK(a b e:Addr)(c:Y)(W:Z)(d:W.cell? b=O (aq (O e)))(ht:W.cell? a=O c)(f:W.frozen? a=G) :
  (ReflectliteValue.set #[.agg #[pq 12 73,aq (O a),.int .u64 406],.agg #[pq 12 73,aq (O b),.int .u64 150]]).run bbi W
   = .ok (ak #[]) (W.setCell a (aq (O e))):=by
 rw[amD];simp only[a1m,aHH,aHI,a16];simp [ReflectliteValue.flagAddr,loadVar,isAgg,underlying,underlying73,d,a16,aHJ,storeVar,Value.cells,storeCells,Addr.add];rw[run_store bbi W a _ _ (by rfl)];grind
def aHL(e t:Addr)(Fz:Y)(w:Z)(hg:w.cell? ⟨0,0,V⟩=O (aj 219 (.agg #[pq 12 57])))(K7:w.cell? t=O Fz)(GX:w.frozen? t=G) :
  Calls bbi 29 #[aj 73 (aq (O e)),aj 75 (aq (O t))] w fun ev w'=>ev = ah (.bool A)/\w'=((((w.alloc (ae #[aq (O t)] 75)).alloc (ae #[pq 12 75,pp w.heap.size,.int .u64 150] 158)).alloc (ae #[pq 12 75,pp w.heap.size,.int .u64 150] 158)).alloc (ae #[aq (O e)] 73)).setCell t (aq (O e)):=by
 have h6:=@run_callFunc_extern bbi 54 _ (fun args=>ReflectliteValue.unpack (args.getD 0 (ak #[]))) func54 zk zk zk zk;have h7:=@run_callFunc_extern bbi 55 _ (ReflectliteValue.methodAny (ReflectliteValue.valueError "reflectlite.Value.Type" 0) (fun t _ _ _=>ReflectliteType.toType t)) func55 zk zk zk zk;have h8:=@run_callFunc_extern bbi 56 _ (ReflectliteValue.method (ReflectliteValue.valueError "reflectlite.Value.IsNil" 0) ReflectliteValue.isNil) func56 zk zk zk zk;have Hc:=@run_callFunc_extern bbi 196 _ (ReflectliteType.abiMethod fun t=>do pure (.int .u8 (<- Rtype.kind t))) func196 zk zk zk zk;have h37:=@run_callFunc_extern bbi 238 _ (ReflectliteType.method ReflectliteType.elem) func238 zk zk zk zk;have h38:=@run_callFunc_extern bbi 239 _ (ReflectliteType.relation "Implements" ReflectliteType.implements_) func239 zk zk zk zk;have tZ:=@run_callFunc_extern bbi 87 _ ReflectliteType.typeOf func87 zk zk zk zk;have zt:=@run_callFunc_extern bbi 236 _ (ReflectliteType.relation "AssignableTo" ReflectliteType.assignableTo) func236 zk zk zk zk;have Hd:=@run_callFunc_extern bbi 88 _ (ReflectliteValue.method (ReflectliteValue.valueError "reflectlite.Value.Elem" 0) ReflectliteValue.elem) func88 zk zk zk zk;have vD:=@run_callFunc_extern bbi 89 _ ReflectliteValue.set func89 zk zk zk zk;have tO:=aHB;have mA:=ady;have a25:=aHC;have v25:=aHD;have f6:=amv;have f7:=amw;have mK:=adv;have mE:=adw;have mI:=adx;have k27:=amx;have k25:=amy;have e27:=amB;have i25:=amC;have n8:=amA ⟨w.heap.size,0,V⟩ t ((w.alloc (ae #[aq (O t)] 75)).alloc (ae #[pq 12 75,pp w.heap.size,.int .u64 150] 158)) zs;have hlt:0<w.heap.size:=by
  grind [Nat.eq_zero_or_pos,World.cell?]
 have jZ:((w.alloc (ae #[aq (O t)] 75)).alloc (ae #[pq 12 75,pp w.heap.size,.int .u64 150] 158)).cell? ⟨0,0,V⟩=O (aj 219 (.agg #[pq 12 57])):=by
  rw[a1L _ _ ⟨0,0,V⟩ zs,a1L _ _ ⟨0,0,V⟩ hlt];exact hg
 have tP:t.block<w.heap.size:=by
  grind [Nat.lt_or_ge,World.cell?,Array.getElem?_eq_none]
 have el:=aHG ⟨w.heap.size,0,V⟩ t (((w.alloc (ae #[aq (O t)] 75)).alloc (ae #[pq 12 75,pp w.heap.size,.int .u64 150] 158)).alloc (ae #[pq 12 75,pp w.heap.size,.int .u64 150] 158)) (by rw[a1L _ _ ⟨w.heap.size,0,V⟩ (by simp;omega)];simp);have st:=aHK t ⟨w.heap.size+1+1+1,0,V⟩ e Fz ((((w.alloc (ae #[aq (O t)] 75)).alloc (ae #[pq 12 75,pp w.heap.size,.int .u64 150] 158)).alloc (ae #[pq 12 75,pp w.heap.size,.int .u64 150] 158)).alloc (ae #[aq (O e)] 73))
  (by rw[World.cell?_alloc_at _ _ _ _ zs];rfl)
  (by rw[a1L _ _ t (by simp;omega),a1L _ _ t (by simp;omega),a1L _ _ t (by simp;omega),a1L _ _ t tP];exact K7)
  (by rw[a2g _ _ t (by simp;omega),a2g _ _ t (by simp;omega),a2g _ _ t (by simp;omega),a2g _ _ t (Nat.ne_of_lt tP)];exact GX)
 go_enter func29,ntmps29
 go_wp2
 refine wp_loop_rounds 1 ?_;rw[rounds_succ]
 go_wp2
 go_ret
 exact⟨J,J⟩
end Go.Proofs.YtoegidfbnkaabaaGreatDoor
namespace Go.Proofs.YtoegidfbnkaabaaGreatDoor
open Go.RowKit Sx
variable{f g i:Nat}
def XB(w:Z):Calls bbi 23 #[ai] w fun e w'=>Ext w w'/\e = ah (ak #[zi 0,zi (-1)]):=by
 refine abG ?_;refine bG ?_;exact yF
def BN(w:Z):Prop:=w.cell? ⟨0,0,V⟩=O (aj 219 (.agg #[pq 12 57]))
theorem BN.ext{w w':Z}(h:BN w)(a:Ext w w'):BN w':=Ng h (by grind [bB.ext])
def adz(b:Nat)(c a:Int)(w:Z)(g:w.heap[b]?=aN #[zi c,zi a] 77)(h:BN w) :
  Calls bbi 23 #[aj 73 (pp b)] w fun e w'=>Ext w w'/\e = ah (ak #[zi c,zi a]):=by
 refine abG ?_;refine bG ?_;obtain⟨d,i⟩:=cg ((w.alloc (ae #[aq V] 73)).alloc (ae #[zi 0] 27));have j:Ext w d:=yF;have q0:d.heap[w.heap.size]?=aN #[aq V] 73:=yH;rw[<- i];refine(aHL ⟨b,0,V⟩ ⟨w.heap.size,0,V⟩ _ d (h.ext j) (by simp [World.cell?,q0];rfl) (jX q0 0)).mono ?_;rintro e w3 ⟨rfl,f⟩;obtain⟨k,l⟩:=cg ((((d.alloc (ae #[pp w.heap.size] 75)).alloc (ae #[pq 12 75,pp d.heap.size,.int .u64 150] 158)).alloc (ae #[pq 12 75,pp d.heap.size,.int .u64 150] 158)).alloc (ae #[pp b] 73));rw[<- l] at f;have m:Ext d k:=yF;have n:=m.ext _ _ q0;rw[vq n] at f;have o:Ext w w3:=by
  exact yF
 have q3:w3.heap[w.heap.size]?=aN #[pp b] 73:=by
  exact yH
 have q4:=o.ext _ _ g;refine dF @q3 @q4 ?_;exact yF
def aHN(w:Z)(s:P.Bs)(e:Ending)(w':Z):Prop:=
 Ext w w'/\match P.program s with
 | .err c a=>e = ah (ak #[aq V,.int .i64 c,.int .i64 a])
 | .ok cs _ _=>∃ b v vs,e = ah (ak #[aq (O ⟨b,0,V⟩),.int .i64 0,.int .i64 (-1)])/\w'.heap[b]?=O (ae #[v] 72 (0,0))/\Nu w w' b /\
  fJ (Nu w w') w' 79 v vs/\kE (Nu w w') w' vs cs
def aHO(s:P.Bs)(w:Z)(i:s.length<=100000)(j:Xw w)(l:BN w):Calls bbi 12 #[aT s] w (aHN w s):=by
 refine aHw ?_;refine(aHA s w i j).mono ?_;rintro e w1 ⟨m,d⟩;cases hr:P.program s with
 | err c a=>
  rw[hr] at d;obtain⟨b,rfl,g⟩:=d;refine bG ?_;refine(adz b c a w1 g (l.ext m)).mono ?_;rintro e w2 ⟨f,rfl⟩;refine bG ?_;refine⟨yF,?_⟩;grind
 | ok cs k vs=>
  rw[hr] at d;obtain⟨b,v,vs,rfl,g,n,q,o⟩:=d;refine bG ?_;refine(XB w1).mono ?_;rintro e w2 ⟨f,rfl⟩;have s2:=f.size;refine bG ?_;refine⟨yF,?_⟩;rw[hr];have h:∀ b,Nu w w1 b->Nu w w2 b:=zg;exact⟨b,v,vs,J,f.ext _ _ g,h _ n,(by grind [fJ.mono,bB.ext]),o.mono h fun b cs t _ _ p=>f.ext _ _ p⟩
open Go.Proofs.YtoegidfbnkaabaaGreatDoor.Sx
section
variable{p0 p1 p2 p3 p4 p5 p6 p7:Y}{w:Z}{R:Ending->Z->Prop}
def aHP:=cz w R [p0] (gc [] [(4001,[])] [15]) func76
def aHQ:=cz w R [p0] (gc [] [] []) func37
end
namespace P
inductive jQ where
 | fault (e:Nat)
 | Eg
deriving DecidableEq,Inhabited
abbrev Out(α:Type):=Option (Except jQ α)
def Out.bind{α β:Type}(x:Out α)(k:α->Out β):Out β:=
 match x with
 | none=>V
 | some (.error e)=>O (.error e)
 | some (.ok a)=>k a
@[simp] theorem Out.ee{α β:Type}(a:α)(k:α->Out β):Out.bind (O (.ok a)) k=k a:=rfl
@[simp] theorem Out.aV3{α β:Type}(e:jQ)(k:α->Out β):Out.bind (O (.error e)) k=O (.error e):=rfl
@[simp] theorem Out.bind_none{α β:Type}(k:α->Out β):Out.bind (V:Out α) k=none:=rfl
def Out.bind_some{α β:Type}{x:Out α}{k:α->Out β}{r:Except jQ β}(h:Out.bind x k=O r):(∃ a,x=O (.ok a)/\k a=O r)\/(∃ e,x=O (.error e)/\r = .error e):=by
 cases x with
 | none=>simp_all
 | some y=>cases y with
  | error e=>simp_all
  | ok a=>simp_all
structure Sr where
 tr:Tr
 fuel:Nat
def Sr.dec(s:Sr):Sr:={ s with fuel:=s.fuel-1 }
def Sr.bind(s:Sr)(i:Nat)(t:Tm):Sr:={ s with tr:=(i,t)::s.tr }
def Sr.iS(s:Sr)(mark:Nat):Sr:={ s with tr:=s.tr.drop (s.tr.length-mark) }
mutual
def zu:Nat->Nat->Tm->Sr->Out (Bool×Sr)
 | 0,_,_,_=>V
 | f+1,i,t,s=>
  if s.fuel=0 then O (.error .Eg)
  else match fE s.tr f t with
   | none=>V
   | some (.var j)=>O (.ok (decide (j=i),s.dec))
   | some (.comp _ args)=>AQ f i args s.dec
   | some _=>O (.ok (G,s.dec))
 termination_by structural f=>f
def AQ:Nat->Nat->List Tm->Sr->Out (Bool×Sr)
 | 0,_,_,_=>V
 | _+1,_,[],s=>O (.ok (G,s))
 | f+1,i,a::r,s=>Out.bind (zu f i a s) fun p=>if p.1 then O (.ok (A,p.2)) else AQ f i r p.2
 termination_by structural f=>f
end
def ud(f:Nat)(i:Nat)(t:Tm)(s:Sr):Out (Bool×Sr):=
 Out.bind (zu f i t s) fun p=>if p.1 then O (.ok (G,p.2)) else O (.ok (A,p.2.bind i t))
def flat:Tm->Tm->Bool
 | .atom a,.atom b=>a == b
 | .int a,.int b=>a == b
 | .var i,.var j=>i == j
 | _,_=>G
mutual
def lS:Nat->Tm->Tm->Sr->Out (Bool×Sr)
 | 0,_,_,_=>V
 | f+1,a,b,s=>
  if s.fuel=0 then O (.error .Eg)
  else match fE s.tr f a,fE s.tr f b with
   | some (.var i),O (.var j)=>if i=j then O (.ok (A,s.dec)) else ud f i (.var j) s.dec
   | some (.var i),O u=>ud f i u s.dec
   | some u,O (.var j)=>ud f j u s.dec
   | some (.comp n l),O (.comp m r)=>if n=m/\l.length=r.length then nJ f l r s.dec else O (.ok (G,s.dec))
   | some u,O v=>O (.ok (flat u v,s.dec))
   | _,_=>V
 termination_by structural f=>f
def nJ:Nat->List Tm->List Tm->Sr->Out (Bool×Sr)
 | 0,_,_,_=>V
 | f+1,a::l,b::r,s=>Out.bind (lS f a b s) fun p=>if p.1 then nJ f l r p.2 else O (.ok (G,p.2))
 | _+1,_,_,s=>O (.ok (A,s))
 termination_by structural f=>f
end
mutual
def CS:Nat->Tm->Tm->Sr->Out (Bool×Sr)
 | 0,_,_,_=>V
 | f+1,a,b,s=>
  if s.fuel=0 then O (.error .Eg)
  else match fE s.tr f a,fE s.tr f b with
   | some (.comp n l),O (.comp m r)=>if n=m/\l.length=r.length then BO f l r s.dec else O (.ok (G,s.dec))
   | some u,O v=>O (.ok (flat u v,s.dec))
   | _,_=>V
 termination_by structural f=>f
def BO:Nat->List Tm->List Tm->Sr->Out (Bool×Sr)
 | 0,_,_,_=>V
 | f+1,a::l,b::r,s=>Out.bind (CS f a b s) fun p=>if p.1 then BO f l r p.2 else O (.ok (G,p.2))
 | _+1,_,_,s=>O (.ok (A,s))
 termination_by structural f=>f
end
def wrap64(z:Int):Int:=(z+9223372036854775808) % 18446744073709551616-9223372036854775808
def reckon(name:Bs)(a b:Int):Except jQ Int:=
 if name=[43] then .ok (wrap64 (a+b)) else if name=[45] then .ok (wrap64 (a-b)) else if name=[42] then .ok (wrap64 (a*b))
 else if b=0 then .error (.fault 9)
 else if name=[47,47] then .ok (wrap64 (a.tdiv b))
 else .ok (if a.tmod b≠0/\(decide (a.tmod b<0)≠decide (b<0)) then wrap64 (a.tmod b+b) else a.tmod b)
def uI:Nat->Tm->Sr->Out (Int×Sr)
 | 0,_,_=>V
 | f+1,t,s=>
  if s.fuel=0 then O (.error .Eg)
  else match fE s.tr f t with
   | none=>V
   | some (.int n)=>O (.ok (n,s.dec))
   | some (.var _)=>O (.error (.fault 7))
   | some (.comp name [a,b])=>
    if iK name 2≠0 then
     Out.bind (uI f a s.dec) fun p=>Out.bind (uI f b p.2) fun q=>
      match reckon name p.1 q.1 with
      | .error e=>O (.error e)
      | .ok z=>O (.ok (z,q.2))
    else O (.error (.fault 8))
   | some _=>O (.error (.fault 8))
 termination_by structural f=>f
def amQ(name:Bs)(a b:Int):Bool:=
 if name=[60] then decide (a<b) else if name=[62] then decide (a > b) else if name=[61,60] then decide (a<=b) else if name=[62,61] then decide (a ≥ b) else decide (a=b)
def P9(name:Bs):Tm->Bool
 | .var _=>name == [118,97,114]
 | .atom _=>name == [110,111,110,118,97,114] || name == [97,116,111,109]
 | .int _=>name == [110,111,110,118,97,114] || name == [105,110,116,101,103,101,114]
 | .comp _ _=>name == [110,111,110,118,97,114]
def yk(f:Nat)(name:Bs)(args:List Tm)(s:Sr):Out (Bool×Sr):=
 if name=[116,114,117,101] then O (.ok (A,s))
 else if name=[61] then lS f (args.getD 0 default) (args.getD 1 default) s
 else if name=[92,61] then Out.bind (lS f (args.getD 0 default) (args.getD 1 default) s) fun p=>O (.ok (!p.1,p.2.iS s.tr.length))
 else if name=[61,61] then CS f (args.getD 0 default) (args.getD 1 default) s
 else if name=[105,115] then Out.bind (uI f (args.getD 1 default) s) fun p=>lS f (args.getD 0 default) (.int p.1) p.2
 else if name∈[[118,97,114],[110,111,110,118,97,114],[97,116,111,109],[105,110,116,101,103,101,114]] then
  match fE s.tr f (args.getD 0 default) with
  | none=>V
  | some t=>O (.ok (P9 name t,s))
 else if name=[102,97,105,108] then O (.ok (G,s))
 else Out.bind (uI f (args.getD 0 default) s) fun p=>Out.bind (uI f (args.getD 1 default) p.2) fun q=>O (.ok (amQ name p.1 q.1,q.2))
def Le{α:Type}(x y:Option α):Prop:=∀ r,x=O r->y=O r
theorem Le.rfl{α:Type}{x:Option α}:Le x x:=fun _ h=>h
theorem Le.none{α:Type}{y:Option α}:Le (V:Option α) y:=fun _ h=>zg
theorem Le.trans{α:Type}{x y z:Option α}(h:Le x y)(a:Le y z):Le x z:=fun r hr=>a r (h r hr)
theorem Out.zv{α β:Type}{x y:Out α}{k k':α->Out β}(h:Le x y)(hk:∀ a,Le (k a) (k' a)):Le (Out.bind x k) (Out.bind y k'):=by
 intro r hr;obtain⟨a,b,c⟩| ⟨e,b,rfl⟩:=Out.bind_some hr
 .rw[h _ b];exact hk a _ c
 .rw[h _ b];rfl
def K9{tr:Tr}:∀ {f:Nat} {t:Tm},Le (fE tr f t) (fE tr (f+1) t)
 | f,.atom s=>by intro r h;simp_all [fE]
 | f,.int s=>by intro r h;simp_all [fE]
 | f,.comp s l=>by intro r h;simp_all [fE]
 | 0,.var i=>by
  intro r h;grind [fE]
 | f+1,.var i=>by
  intro r h;rw[fE] at h ⊢;split at h
  .omega
  .exact K9 _ h
def amR:∀ f,(∀ i t s,Le (zu f i t s) (zu (f+1) i t s))/\(∀ i l s,Le (AQ f i l s) (AQ (f+1) i l s))
 | 0=>⟨fun _ _ _=>Le.none,fun _ _ _=>Le.none⟩
 | f+1=>by
  obtain⟨c,b⟩:=amR f;constructor
  .intro i t s;rw[zu,zu];split
   .exact Le.rfl
   .intro r hr;cases hw:fE s.tr f t with
    | none=>grind
    | some u=>
     rw[hw] at hr;rw[K9 _ hw];cases u with
     | comp n l=>exact b _ _ _ _ hr
     | _=>exact hr
  .intro i l s;cases l with
   | nil=>exact Le.rfl
   | cons a l=>
    simp_all [AQ,Out.zv,Le.rfl]
def amS{t:Tm}{s:Sr}:Le (ud f i t s) (ud (f+1) i t s):=Out.zv ((amR f).1 _ _ _) fun _=>Le.rfl
def TC:∀ f,(∀ a b s,Le (lS f a b s) (lS (f+1) a b s))/\(∀ l r s,Le (nJ f l r s) (nJ (f+1) l r s))
 | 0=>⟨fun _ _ _=>Le.none,fun _ _ _=>Le.none⟩
 | f+1=>by
  obtain⟨e,d⟩:=TC f;constructor
  .intro a b s;rw[lS,lS];split
   .exact Le.rfl
   .intro r hr;cases hw:fE s.tr f a with
    | none=>grind
    | some u=>
     rw[hw] at hr;rw[K9 _ hw];cases hv:fE s.tr f b with
     | none=>grind
     | some v=>
      rw[hv] at hr;rw[K9 _ hv];cases u<;>cases v<;>first
       | exact hr
       | exact amS _ hr
       | (simp only at hr ⊢;split at hr<;>rename_i c;(rw[zip c];exact hr);rw[bI c];exact amS _ hr)
       | (simp only at hr ⊢;split at hr<;>rename_i c;(rw[zip c];exact d _ _ _ _ hr);grind)
  .intro l r s;cases l with
   | nil=>exact Le.rfl
   | cons a l=>
    cases r with
    | nil=>exact Le.rfl
    | cons b r=>
     simp_all [nJ,Out.zv,Le.rfl]
def amT:∀ f,(∀ a b s,Le (CS f a b s) (CS (f+1) a b s))/\(∀ l r s,Le (BO f l r s) (BO (f+1) l r s))
 | 0=>⟨fun _ _ _=>Le.none,fun _ _ _=>Le.none⟩
 | f+1=>by
  obtain⟨e,c⟩:=amT f;constructor
  .intro a b s;rw[CS,CS];split
   .exact Le.rfl
   .intro r hr;cases hw:fE s.tr f a with
    | none=>grind
    | some u=>
     rw[hw] at hr;rw[K9 _ hw];cases hv:fE s.tr f b with
     | none=>grind
     | some v=>
      rw[hv] at hr;rw[K9 _ hv];cases u<;>cases v<;>first
       | exact hr
       | (simp only at hr ⊢;split at hr<;>rename_i d;(rw[zip d];exact c _ _ _ _ hr);grind)
  .intro l r s;cases l with
   | nil=>exact Le.rfl
   | cons a l=>
    cases r with
    | nil=>exact Le.rfl
    | cons b r=>
     simp_all [BO,Out.zv,Le.rfl]
theorem adB:∀ f,∀ t s,Le (uI f t s) (uI (f+1) t s)
 | 0=>fun _ _=>Le.none
 | f+1=>by
  have ih:=adB f;intro t s;rw[uI,uI];split
  .exact Le.rfl
  .intro r hr;cases hw:fE s.tr f t with
   | none=>grind
   | some u=>
    rw[hw] at hr;rw[K9 _ hw]
    match u,hr with
    | .atom _,hr=>omega
    | .int _,hr=>omega
    | .var _,hr=>omega
    | .comp _ [],hr=>omega
    | .comp _ [_],hr=>omega
    | .comp _ (_::_::_::_),hr=>omega
    | .comp name [a,b],hr=>
     simp only at hr ⊢;split at hr
     .rename_i c;rw[zip c];exact Out.zv (ih _ _) (fun p=>Out.zv (ih _ _) fun q=>Le.rfl) _ hr
     grind
def aHR{name:Bs}{args:List Tm}{s:Sr}:Le (yk f name args s) (yk (f+1) name args s):=by
 unfold yk;split
 .exact Le.rfl
 split
 .simp_all [TC]
 split
 .simp_all [Out.zv,TC,Le.rfl]
 split
 .simp_all [amT]
 split
 .simp_all [Out.zv,adB,TC]
 split
 .intro r hr;cases hw:fE s.tr f (args.getD 0 default) with
  | none=>grind
  | some u=>rw[hw] at hr;rw[K9 _ hw];omega
 grind [Le.rfl,Out.zv,adB]
structure WLe(tr:Tr)(f:Nat):Prop where
 tm:∀ t l s,Le (ix tr f t l s) (ix tr (f+1) t l s)
 comp:∀ n a l s,Le (rB tr f n a l s) (rB tr (f+1) n a l s)
 args:∀ c a s,Le (kX tr f c a s) (kX tr (f+1) c a s)
 list:∀ c a b s,Le (oZ tr f c a b s) (oZ tr (f+1) c a b s)
def Le.many{α:Type}{F:Nat->Option α}(h:∀ f,Le (F f) (F (f+1)))(a:f<=g):Le (F f) (F g):=by
 obtain⟨k,rfl⟩:=Nat.le.dest a;induction k with
 | zero=>exact Le.rfl
 | succ k ih=>exact(ih (Nat.le_add_right _ _)).trans (h _)
end P
