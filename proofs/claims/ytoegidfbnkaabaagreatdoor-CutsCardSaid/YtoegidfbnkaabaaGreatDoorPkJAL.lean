/- A part of one proof (PureW, PureW2, PureE, PureG, PureQ, ShL1, SX7, SX8, SX9, ShQ1, PureX, PureO). -/
import Derived.Test.YtoegidfbnkaabaaGreatDoorPkJAK
import Derived.WalkKit
import Derived.LaidEql
import Derived.Stop.Asserts
import Derived.RowKitTokens
set_option linter.all false
set_option maxRecDepth 100000
set_option maxHeartbeats 8000000
open Option renaming some → O, none → V
open Go renaming Value → Y, World → Z
open Bool renaming true → A, false → G
open Go.Obj renaming cells → ae
open Go.Ending renaming returned → ah
open Go.Value renaming nilIface → ai, iface → aj, tuple → ak, pointer → aq
open Option.some renaming injEq → aZG
open Nat renaming le_refl → aZK
open List renaming length_cons → aZQ, length_nil → aZ5, mem_of_find?_eq_some → a0B, idxOf?_eq_some_iff → a2D
open Go.Sem renaming run_bind → aZS
open Go.World renaming cell?_alloc_lt → a0k, frozen?_alloc_old → a0H
open Go.Result renaming andThen → a0x
open Go renaming method → a5l
open Go.Proofs.Tryz renaming prog → a9z
open Go.Proofs.Tryz
namespace Go.Proofs.YtoegidfbnkaabaaGreatDoor
variable{M k k' n nv:Nat}
namespace P
inductive Tm where
 | atom (s:Bs)
 | int (n:Int)
 | var (i:Nat)
 | comp (name:Bs) (args:List Tm)
deriving Inhabited
abbrev Tr:=List (Nat×Tm)
def look(i:Nat):Tr->Option Tm
 | []=>V
 | (j,t)::r=>if i=j then O t else look i r
def fG(tr:Tr):Nat->Tm->Option Tm
 | f,.var i=>match look i tr with
  | none=>O (.var i)
  | some t=>match f with
   | 0=>V
   | f+1=>fG tr f t
 | _,t=>O t
def rS:Nat->Nat->Bs
 | 0,_=>[]
 | f+1,n=>if n<10 then [UInt8.ofNat (48+n)] else rS f (n / 10)++[UInt8.ofNat (48+n % 10)]
def ff(n:Nat):Bs:=rS (n+1) n
def kO(n:Int):Bs:=if n<0 then 45::ff n.natAbs else ff n.natAbs
structure Ws where
 fuel:Nat
 out:Bs
 seen:List Nat
def kP(name:Bs)(n:Nat):Nat:=
 if n≠2 then 0 else if name=[43]\/name=[45] then 1 else if name=[42]\/name=[47,47]\/name=[109,111,100] then 2 else 0
def Wb(x:Option (Option Ws))(k:Ws->Option (Option Ws)):Option (Option Ws):=
 match x with
 | none=>V
 | some V=>O V
 | some (O s)=>k s
def Ws.add(s:Ws)(x:Bs):Ws:={ s with out:=s.out++x }
def Wr(s:Ws)(i:Nat):Ws:=
 match s.seen.idxOf? i with
 | some k=>s.add (95::ff (k+1))
 | none=>{ s with out:=s.out++95::ff (s.seen.length+1),seen:=s.seen++[i] }
mutual
def lE (tr:Tr):Nat->Tm->Nat->Ws->Option (Option Ws)
 | 0,_,_,_=>V
 | f+1,t,least,s=>
  if s.fuel=0 then O V
  else match fG tr f t with
   | none=>V
   | some (.atom a)=>O (O ({ s with fuel:=s.fuel-1 }.add a))
   | some (.int n)=>O (O ({ s with fuel:=s.fuel-1 }.add (kO n)))
   | some (.var i)=>O (O (Wr { s with fuel:=s.fuel-1 } i))
   | some (.comp name args)=>B8 tr f name args least { s with fuel:=s.fuel-1 }
 termination_by structural f=>f
def B8 (tr:Tr):Nat->Bs->List Tm->Nat->Ws->Option (Option Ws)
 | 0,_,_,_,_=>V
 | f+1,name,args,least,s=>
  match args with
  | [a,b]=>
   if kP name 2≠0 then
    if kP name 2<least then
     Wb (lE tr f a (kP name 2) (s.add [40])) fun s=>Wb (lE tr f b (kP name 2+1) (s.add (if name=[109,111,100] then [32,109,111,100,32] else name))) fun s=>O (O (s.add [41]))
    else Wb (lE tr f a (kP name 2) s) fun s=>lE tr f b (kP name 2+1) (s.add (if name=[109,111,100] then [32,109,111,100,32] else name))
   else if name=[46] then yy tr f 91 a b s
   else Wb (uN tr f 40 [a,b] (s.add name)) fun s=>O (O (s.add [41]))
  | _=>Wb (uN tr f 40 args (s.add name)) fun s=>O (O (s.add [41]))
 termination_by structural f=>f
def uN (tr:Tr):Nat->UInt8->List Tm->Ws->Option (Option Ws)
 | 0,_,_,_=>V
 | _+1,_,[],s=>O (O s)
 | f+1,sep,a::r,s=>Wb (lE tr f a 0 (s.add [sep])) fun s=>uN tr f 44 r s
 termination_by structural f=>f
def yy (tr:Tr):Nat->UInt8->Tm->Tm->Ws->Option (Option Ws)
 | 0,_,_,_,_=>V
 | f+1,sep,a,b,s=>
  Wb (lE tr f a 0 (s.add [sep])) fun s=>
   match fG tr f b with
   | none=>V
   | some (.comp name args)=>match args with
    | [c,d]=>if name=[46] then yy tr f 44 c d s else Wb (lE tr f b 0 (s.add [124])) fun s=>O (O (s.add [93]))
    | _=>Wb (lE tr f b 0 (s.add [124])) fun s=>O (O (s.add [93]))
   | some (.atom x)=>if x=[91,93] then O (O (s.add [93])) else Wb (lE tr f b 0 (s.add [124])) fun s=>O (O (s.add [93]))
   | some _=>Wb (lE tr f b 0 (s.add [124])) fun s=>O (O (s.add [93]))
 termination_by structural f=>f
end
mutual
def made (vs:List Nat):Ex->Tm
 | .mk kind name n k args=>if kind=97 then .atom name else if kind=110 then .int n else if kind=118 then .var (vs.getD k 0) else .comp name (nV vs args)
 termination_by structural x=>x
def nV (vs:List Nat):List Ex->List Tm
 | []=>[]
 | x::xs=>made vs x::nV vs xs
 termination_by structural x=>x
end
mutual
def er:Tm->Prop
 | .atom s=>s.length<=20/\s≠[]
 | .int n=>-9223372036854775808<=n/\n<=9223372036854775807
 | .var _=>True
 | .comp name args=>name.length<=20/\args.length<=100000/\jr args
 termination_by structural t=>t
def jr:List Tm->Prop
 | []=>True
 | t::a=>er t/\jr a
 termination_by structural t=>t
end
def mR:Tr->Prop
 | []=>True
 | (_,t)::r=>er t/\mR r
def look_ok:∀ {tr:Tr} {i:Nat} {t:Tm},mR tr->look i tr=O t->er t
 | [],_,_,_,h=>by cases h
 | (j,u)::r,i,t,h,a=>by
  unfold look at a;split at a
  .injection a with a;subst a;exact h.1
  .exact look_ok h.2 a
def vR{tr:Tr}(h:mR tr):∀ {f:Nat} {t a:Tm},er t->fG tr f t=O a->er a
 | f,.atom s,a,ht,hw=>by simp_all [fG]
 | f,.int s,a,ht,hw=>by simp_all [fG]
 | f,.comp s l,a,ht,hw=>by simp_all [fG]
 | 0,.var i,a,ht,hw=>by
  grind [fG]
 | f+1,.var i,a,ht,hw=>by
  simp only[fG] at hw;split at hw
  .grind
  .rename_i t b;exact vR h (look_ok h b) hw
def aco(n:Nat):∀ k,n<10 ^ (k+1)->∀ f,n<f->(rS f n).length<=k+1:=by
 intro k;induction k generalizing n with
 | zero=>
  intro h f a;cases f with
  | zero=>omega
  | succ f=>simp_all [rS,zip]
 | succ k ih=>
  intro h f a;cases f with
  | zero=>omega
  | succ f=>
   grind [rS,List.length_append,Nat.pow_succ,aZQ,aZ5]
theorem MD(h:n<10000000000000000000):(ff n).length<=19:=aco n 18 zo _ zo
theorem aF9{n:Int}(a:-9223372036854775808<=n)(b:n<=9223372036854775807):(kO n).length<=20:=by
 grind [ff,MD,kO]
def Ws.cU(s:Ws):Nat:=s.out.length+60*s.fuel
structure Ws.Ok(s:Ws):Prop where
 big:s.cU<=900000000
 seen:s.seen.length<=s.out.length
theorem Ws.oM(s:Ws)(x:Bs):(s.add x).cU=s.cU+x.length:=by grind [Ws.cU,Ws.add]
def ME{x:Option (Option Ws)}{k:Ws->Option (Option Ws)}{r:Ws}(h:Wb x k=O (O r)):∃ s,x=O (O s)/\k s=O (O r):=by
 unfold Wb at h;grind
structure aGa(tr:Tr)(f:Nat):Prop where
 tm:∀ t least s r,er t->s.cU<=900000100->s.seen.length<=s.out.length->lE tr f t least s=O (O r)->r.cU+30<=s.cU/\r.seen.length<=r.out.length
 comp:∀ name args least s r,er (.comp name args)->s.cU<=900000100-60->s.seen.length<=s.out.length->B8 tr f name args least s=O (O r)->r.cU<=s.cU+21/\r.seen.length<=r.out.length
 args:∀ c l s r,jr l->s.cU<=900000100-30->s.seen.length<=s.out.length->uN tr f c l s=O (O r)->r.cU<=s.cU/\r.seen.length<=r.out.length
 list:∀ c a b s r,er a->er b->s.cU<=900000100-30->s.seen.length<=s.out.length->yy tr f c a b s=O (O r)->r.cU<=s.cU/\r.seen.length<=r.out.length
theorem MF{a b:Tm}(h:jr [a,b]):er a/\er b:=by
 simp_all [jr]
theorem ow{s:Ws}{x:Bs}(h:s.seen.length<=s.out.length):(s.add x).seen.length<=(s.add x).out.length:=by grind [Ws.add]
def J8{tr:Tr}(ht:mR tr):∀ f,aGa tr f
 | 0=>⟨fun _ _ _ _ _ _ _ h=>by simp_all [lE],fun _ _ _ _ _ _ _ _ h=>by simp_all [B8],fun _ _ _ _ _ _ _ h=>by simp_all [uN],fun _ _ _ _ _ _ _ _ _ h=>by simp_all [yy]⟩
 | f+1=>by
  have ih:=J8 ht f;refine⟨?_,?_,?_,?_⟩
  .intro t least s r i m j h;rw[lE] at h;split at h
   .grind
   rename_i C;have D:({ s with fuel:=s.fuel-1 }:Ws).cU+60=s.cU:=by grind [Ws.cU]
   split at h
   .grind
   .rename_i a hw;have:=vR ht i hw;grind [aZG,er,ow,Ws.oM]
   .rename_i a hw;have:=vR ht i hw;grind [aZG,er,aF9,ow,Ws.oM]
   .grind [aZG,Ws.cU,Wr,a2D,MD,ow,Ws.oM,aZQ,ff,List.length_append,aZ5]
   .rename_i name args hw;have g:=vR ht i hw;obtain⟨e,k⟩:=ih.comp name args least { s with fuel:=s.fuel-1 } r g zo j h;omega
  .intro name args least s r i m j h;rw[B8.eq_def] at h;dsimp only at h;unfold er at i;obtain⟨E,q,n⟩:=i;have F:∀ l,jr l->Wb (uN tr f 40 l (s.add name)) (fun s=>O (O (s.add [41])))=O (O r)->r.cU<=s.cU+21/\r.seen.length<=r.out.length:=by
    intro l q h;obtain⟨s1,g,e⟩:=ME h;obtain⟨k,u⟩:=ih.args 40 l _ s1 q (by grind [Ws.oM]) (ow j) g;grind [aZG,Ws.oM,ow]
   split at h
   .rename_i a b;obtain⟨o,p⟩:=MF n;have H:(if name=[109,111,100] then([32,109,111,100,32]:Bs) else name).length<=20:=zg;split at h
    .split at h
     .obtain⟨s1,g,e⟩:=ME h;obtain⟨s2,k,u⟩:=ME e;obtain⟨g1,g2⟩:=ih.tm a _ _ s1 o (by grind [Ws.oM]) (ow j) g;rw[Ws.oM] at g1;simp only[aZQ,aZ5] at g1;obtain⟨g3,g4⟩:=ih.tm b _ _ s2 p (by grind [Ws.oM]) (ow g2) k;grind [Ws.oM,aZG,ow]
     .obtain⟨s1,g,e⟩:=ME h;obtain⟨g1,g2⟩:=ih.tm a _ _ s1 o zo j g;obtain⟨g3,g4⟩:=ih.tm b _ _ r p (by grind [Ws.oM]) (ow g2) e;grind [Ws.oM]
    .split at h
     .obtain⟨g1,g2⟩:=ih.list 91 a b s r o p zo j h;omega
     grind
   grind
  .intro c l s r i m j h;cases l with
   | nil=>
    simp_all [uN,aZG,aZK]
   | cons a l=>
    rw[uN] at h;unfold jr at i;obtain⟨s1,g,e⟩:=ME h;obtain⟨g1,g2⟩:=ih.tm a _ _ s1 i.1 (by grind [Ws.oM]) (ow j) g;rw[Ws.oM] at g1;simp only[aZQ,aZ5] at g1;obtain⟨g3,g4⟩:=ih.args 44 l s1 r i.2 zo g2 e;omega
  .intro c a b s r n w m j h;rw[yy] at h;obtain⟨s1,g,e⟩:=ME h;obtain⟨g1,g2⟩:=ih.tm a _ _ s1 n (by grind [Ws.oM]) (ow j) g;rw[Ws.oM] at g1;simp only[aZQ,aZ5] at g1;have y:Wb (lE tr f b 0 (s1.add [124])) (fun s=>O (O (s.add [93])))=O (O r)->r.cU<=s.cU/\r.seen.length<=r.out.length:=by
    intro h;obtain⟨s2,k,u⟩:=ME h;obtain⟨g3,g4⟩:=ih.tm b _ _ s2 w (by grind [Ws.oM]) (ow g2) k;grind [Ws.oM,aZQ,aZ5,aZG,ow]
   split at e
   .grind
   .rename_i name args hw;have x:=vR ht w hw;unfold er at x;split at e
    .rename_i c d;obtain⟨z,B⟩:=MF x.2.2;split at e
     .obtain⟨g3,g4⟩:=ih.list 44 c d s1 r z B zo g2 e;omega
     grind
    grind
   .grind [aZG,Ws.oM,ow]
   grind
def aGb{w:Bs}(h:rJ w≠0):w.length<=9:=by
 unfold rJ at h;grind
def aGc{s:Bs}(hm:s∈og):s.length<=9:=by
 simp only[og,List.mem_cons,List.not_mem_nil,or_false] at hm;rcases hm with rfl | rfl | rfl | rfl | rfl | rfl | rfl | rfl | rfl | rfl | rfl | rfl | rfl | rfl | rfl | rfl | rfl | rfl | rfl | rfl | rfl | rfl | rfl<;>decide
def MG:∀ (f:Nat) (r:Bs) (i:Nat) (T:List Tok),oh f r i=O (.inr T)->∀ u∈T,u.text.length<=9
 | 0,r,i,T,h=>by simp_all [oh]
 | f+1,[],i,T,h=>by
  rw[oh] at h;grind
 | f+1,c::r,i,T,h=>by
  have key:∀ (x:Option (Sum Nat (List Tok))) (t:Tok),(∀ l,x=O (.inr l)->∀ u∈l,u.text.length<=9)->t.text.length<=9 ->
    (match x with | some (.inr l)=>O (.inr (t::l)) | y=>y)=O (.inr T)->∀ u∈T,u.text.length<=9:=by
   grind
  rw[oh] at h;split at h
  .exact MG f r (i+1) T h
  split at h
  .dsimp only at h;split at h
   .grind
   .rename_i d hw;exact key _ _ (fun l a=>MG f _ _ l a) (aGb hw) h
  split at h
  .exact key _ _ (fun l a=>MG f _ _ l a) zs h
  split at h
  .grind
  .rename_i s b;exact key _ _ (fun l a=>MG f _ _ l a) (aGc (a0B b)) h
mutual
def iA:Ex->Nat
 | .mk _ _ _ _ args=>fH args+1
 termination_by structural x=>x
def fH:List Ex->Nat
 | []=>0
 | x::xs=>iA x+fH xs
 termination_by structural x=>x
end
def acp:∀ (a b:List Ex),fH (a++b)=fH a+fH b
 | [],b=>by simp [fH]
 | x::a,b=>by simp [fH,acp a b];omega
mutual
def gZ (nv:Nat):Ex->Prop
 | .mk kind name n k args=>name.length<=9/\(-999999999<=n/\n<=999999999)/\(kind=97\/kind=110\/kind=118\/kind=99)/\(kind=118->k<nv)/\(args.length<=4/\(kind=99->args≠[]))/\(kind=97->name≠[])/\(kind≠99->args=[])/\fi nv args
 termination_by structural x=>x
def fi (nv:Nat):List Ex->Prop
 | []=>True
 | x::xs=>gZ nv x/\fi nv xs
 termination_by structural x=>x
end
mutual
theorem gZ.mono {n m:Nat} (h:n<=m):∀ (x:Ex),gZ n x->gZ m x
 | .mk kind name k v args,hx=>by
  unfold gZ at hx ⊢;obtain⟨a,b,c,d,f,g,i,j⟩:=hx;exact⟨a,b,c,fun e=>Nat.lt_of_lt_of_le (d e) h,f,g,i,fi.mono h args j⟩
 termination_by structural x=>x
theorem fi.mono {n m:Nat} (h:n<=m):∀ (l:List Ex),fi n l->fi m l
 | [],hx=>by simp_all [fi]
 | x::xs,hx=>by
  unfold fi at hx ⊢;exact⟨gZ.mono h x hx.1,fi.mono h xs hx.2⟩
 termination_by structural x=>x
end
def fi.append{n:Nat}:∀ {a b:List Ex},fi n a->fi n b->fi n (a++b)
 | [],b,_,c=>c
 | x::a,b,d,c=>by
  show fi n (x::(a++b));unfold fi at d ⊢;exact⟨d.1,fi.append d.2 c⟩
def fi.snoc{a:List Ex}{x:Ex}(b:fi n a)(hx:gZ n x):fi n (a++[x]):=b.append (by simp_all [fi])
theorem fi.nil:fi n []:=by simp_all [fi]
theorem fi.at{n:Nat}:∀ {l:List Ex} {j:Nat},fi n l->(a:j<l.length)->gZ n l[j]
 | x::xs,0,h,_=>by simp_all [fi]
 | x::xs,j+1,h,a=>by unfold fi at h;exact fi.at h.2 zg
theorem gZ.two{name:Bs}{a b:Ex}(c:name.length<=9)(d:gZ nv a)(e:gZ nv b):gZ nv (.mk 99 name 0 0 [a,b]):=by
 simp_all [gZ,fi,fi.nil]
theorem alm{name:Bs}{a b:Ex}:iA (.mk k name 0 0 [a,b])=iA a+iA b+1:=by simp [iA,fH]
def aGd{l:Nat}{T:List Tok}{o:Bs}(h:Ra T l k=O o):o.length<=9:=by
 have hm:=a0B h;grind [ops]
structure B9(T:List Tok):Prop where
 len:∀ u∈T,u.text.length<=9
 word:∀ u∈T,u.kind=1->u.text≠[]
 digits:∀ u∈T,u.kind=3->u.text.all digit=A
def Wt{T:List Tok}(h:(tk T k).kind≠0):tk T k∈T:=by
 grind [Nat.lt_or_ge,absurd,tk,List.getElem?_eq_none,List.getElem?_eq_getElem,List.getElem_mem]
def aGe{t:Tok}{v v':List Bs}{x:Ex}(h:zj t k v = .ok x k' v'):gZ v'.length x/\v.length<=v'.length/\k'=k/\iA x=1:=by
 unfold zj at h;split at h
 .rename_i j e;injection h with a b c;subst a b c;have d:j<v.length:=by
   grind [a2D]
  refine⟨?_,aZK _,J,by simp [iA,fH]⟩;unfold gZ;exact⟨zs,zo,zs,fun _=>d,zs,zs,zs,fi.nil⟩
 .split at h
  .grind
  .injection h with a b c;subst a b c;refine⟨?_,zs,J,by simp [iA,fH]⟩;unfold gZ;exact⟨zs,zo,zs,fun _=>zs,zs,zs,zs,fi.nil⟩
theorem acq{nv:Nat}{x:Ex}(hx:gZ nv x):∀ {all:List Ex},fi nv all->gZ nv (CU all x)/\iA (CU all x)=fH all+all.length+iA x
 | [],_=>⟨hx,by simp [CU,fH]⟩
 | a::l,h=>by
  unfold fi at h;obtain⟨b,c⟩:=acq hx h.2;grind [gZ.two,iA,CU,alm,fH]
theorem aln:gZ nv (.mk 97 [91,93] 0 0 []):=by
 simp_all [gZ,fi.nil]
structure EOk(T:List Tok)(f:Nat):Prop where
 Ez:∀ k v d x k' v',pN T f k v d=O (.ok x k' v')->gZ v'.length x/\v.length<=v'.length/\k+iA x<=k'
 args:∀ k v d a acc x k' v',fi v.length acc->oW T f k v d a acc=O (.ok x k' v')->fi v'.length x/\v.length<=v'.length/\k+fH x<=k'+fH acc/\x.length<=4/\x≠[]
 list:∀ k v d x k' v',qV T f k v d=O (.ok x k' v')->gZ v'.length x/\v.length<=v'.length/\k+iA x<=k'+1
 elems:∀ k v d acc x k' v',fi v.length acc->rK T f k v d acc=O (.ok x k' v')->fi v'.length x/\v.length<=v'.length/\k+fH x+x.length<=k'+fH acc+acc.length+1
 oper:∀ l k v d x k' v',jt T f l k v d=O (.ok x k' v')->gZ v'.length x/\v.length<=v'.length/\k+iA x<=k'
 more:∀ l y k v d x k' v',gZ v.length y->qx T f l y k v d=O (.ok x k' v')->gZ v'.length x/\v.length<=v'.length/\k+iA x<=k'+iA y
def OY{T:List Tok}(g:B9 T):∀ f,EOk T f
 | 0=>⟨by simp_all [pN],by simp_all [oW],by simp_all [qV],by simp_all [rK],by simp_all [jt],by simp_all [qx]⟩
 | f+1=>by
  have ih:=OY g f;refine⟨?_,?_,?_,?_,?_,?_⟩
  .intro k v d x k' v' h;rw[pN] at h;split at h
   .grind
   split at h
   .rename_i hk;simp only[aZG,cj.ok.injEq] at h;obtain⟨rfl,rfl,rfl⟩:=h;have hm:=Wt (T:=T) (k:=k) zo;obtain⟨a,b⟩:=Zs (g.digits _ hm hk) (g.len _ hm);refine⟨?_,aZK _,by simp [iA,fH]⟩;grind [gZ,fi.nil]
   split at h
   .simp only[aZG] at h;obtain⟨e,c,rfl,n⟩:=aGe h;grind
   split at h
   .rename_i hk;have hm:=Wt (T:=T) (k:=k) zo;split at h
    .obtain⟨a,i,v1,e,c⟩:=ee h;obtain⟨g1,g2,g3,g4⟩:=ih.args _ _ _ _ _ _ _ _ fi.nil e;obtain⟨rfl,rfl,rfl⟩:=nP c;refine⟨?_,g2,by grind [iA,fH]⟩;unfold gZ;exact⟨g.len _ hm,zo,zs,zs,⟨g4.1,fun _=>g4.2⟩,zs,zs,g1⟩
    .simp only[aZG,cj.ok.injEq] at h;obtain⟨rfl,rfl,rfl⟩:=h;refine⟨?_,aZK _,by simp [iA,fH]⟩;unfold gZ;exact⟨g.len _ hm,zo,zs,zs,zs,fun _=>g.word _ hm hk,zs,fi.nil⟩
   split at h
   .split at h
    .rename_i hk;simp only[aZG,cj.ok.injEq] at h;obtain⟨rfl,rfl,rfl⟩:=h;have hm:=Wt (T:=T) (k:=k+1) zo;obtain⟨a,b⟩:=Zs (g.digits _ hm hk) (g.len _ hm);refine⟨?_,aZK _,by simp [iA,fH]⟩;grind [gZ,fi.nil]
    grind
   split at h
   .obtain⟨a,i,v1,e,c⟩:=ee h;obtain⟨g1,g2,g3⟩:=ih.oper _ _ _ _ _ _ _ e;obtain⟨rfl,rfl,rfl⟩:=nP c;grind
   split at h
   .obtain⟨g1,g2,g3⟩:=ih.list _ _ _ _ _ _ h;grind
   grind
  .intro k v d a acc x k' v' j h;rw[oW] at h;obtain⟨y,i,v1,e,c⟩:=ee h;obtain⟨g1,g2,g3⟩:=ih.oper _ _ _ _ _ _ _ e;have m:=(fi.mono g2 _ j).snoc g1;have p:fH (acc++[y])=fH acc+iA y:=by simp_all [acp,fH]
   split at c
   .obtain⟨q1,q2,q3,q4⟩:=ih.args _ _ _ _ _ _ _ _ m c;grind
   .split at c
    .grind
    .rename_i q;simp only[aZG,cj.ok.injEq] at c;obtain⟨rfl,rfl,rfl⟩:=c;grind [Vj]
  .intro k v d x k' v' h;rw[qV] at h;split at h
   .simp only[aZG,cj.ok.injEq] at h;obtain⟨rfl,rfl,rfl⟩:=h;simp_all [aln,aZK,iA,fH]
   .obtain⟨all,i,v1,e,c⟩:=ee h;obtain⟨g1,g2,g3⟩:=ih.elems _ _ _ _ _ _ _ fi.nil e;simp [fH] at g3;split at c
    .obtain⟨y,u,v2,r,n⟩:=ee c;obtain⟨q1,q2,q3⟩:=ih.oper _ _ _ _ _ _ _ r;obtain⟨rfl,rfl,rfl⟩:=nP n;grind [acq,fi.mono]
    .obtain⟨rfl,rfl,rfl⟩:=nP c;grind [acq,aln,iA,fH]
  .intro k v d acc x k' v' j h;rw[rK] at h;obtain⟨y,i,v1,e,c⟩:=ee h;obtain⟨g1,g2,g3⟩:=ih.oper _ _ _ _ _ _ _ e;have m:=(fi.mono g2 _ j).snoc g1;have p:fH (acc++[y])=fH acc+iA y:=by simp_all [acp,fH]
   have q:(acc++[y]).length=acc.length+1:=zs;split at c
   .obtain⟨q1,q2,q3⟩:=ih.elems _ _ _ _ _ _ _ m c;grind
   grind
  .intro l k v d x k' v' h;rw[jt] at h;split at h
   .exact ih.Ez _ _ _ _ _ _ h
   .obtain⟨y,i,v1,e,c⟩:=ee h;obtain⟨g1,g2,g3⟩:=ih.oper _ _ _ _ _ _ _ e;obtain⟨q1,q2,q3⟩:=ih.more _ _ _ _ _ _ _ _ g1 c;grind
  .intro l y k v d x k' v' s h;rw[qx] at h;split at h
   .grind
   .rename_i o t;obtain⟨z,i,v1,e,c⟩:=ee h;obtain⟨g1,g2,g3⟩:=ih.oper _ _ _ _ _ _ _ e;obtain⟨q1,q2,q3⟩:=ih.more _ _ _ _ _ _ _ _ (gZ.two (aGd t) (gZ.mono g2 _ s) g1) c;grind [alm]
mutual
theorem acr {nv:Nat} (vs:List Nat):∀ (x:Ex),gZ nv x->er (made vs x)
 | .mk kind name n k args,h=>by
  unfold gZ at h;obtain⟨a,b,d,e,f,g,i,c⟩:=h;unfold made;split
  .grind [er]
  .split
   .grind [er]
   .split
    .simp_all [er]
    .unfold er;have:=J9 vs args c;grind
 termination_by structural x=>x
theorem J9 {nv:Nat} (vs:List Nat):∀ (l:List Ex),fi nv l->jr (nV vs l)/\(nV vs l).length=l.length
 | [],_=>by unfold nV jr;exact⟨trivial,J⟩
 | x::xs,h=>by
  unfold fi at h;have a:=acr vs x h.1;have b:=J9 vs xs h.2;simp_all [nV,jr]
 termination_by structural x=>x
end
structure LeT(T:List Tok)(f:Nat):Prop where
 Ez:∀ k v d x k' v',pN T f k v d=O (.ok x k' v')->k'<=T.length
 args:∀ k v d a acc x k' v',oW T f k v d a acc=O (.ok x k' v')->k'<=T.length
 list:∀ k v d x k' v',qV T f k v d=O (.ok x k' v')->k'<=T.length
 elems:∀ k v d acc x k' v',rK T f k v d acc=O (.ok x k' v')->k'<=T.length
 oper:∀ l k v d x k' v',jt T f l k v d=O (.ok x k' v')->k'<=T.length
 more:∀ l y k v d x k' v',k<=T.length->qx T f l y k v d=O (.ok x k' v')->k'<=T.length
def SC{α:Type}{T:List Tok}{s:Bs}{x y:α}{v v':List Bs}(h:mW T s x k v=O (.ok y k' v')):k'<=T.length:=by
 unfold mW at h;split at h
 .rename_i a;have:=xo a;grind
 grind
def Wu(T:List Tok):∀ f,LeT T f
 | 0=>⟨by simp_all [pN],by simp_all [oW],by simp_all [qV],by simp_all [rK],by simp_all [jt],by simp_all [qx]⟩
 | f+1=>by
  have ih:=Wu T f;refine⟨?_,?_,?_,?_,?_,?_⟩
  .intro k v d x k' v' h;rw[pN] at h;split at h
   .grind
   split at h
   .rename_i hk;have:=Mx (T:=T) (k:=k) zo;grind
   split at h
   .rename_i hk;have:=Mx (T:=T) (k:=k) zo;grind [aZG,ajy]
   split at h
   .rename_i hk;have:=Mx (T:=T) (k:=k) zo;split at h
    .obtain⟨a,e,v1,c,b⟩:=ee h;exact SC b
    grind
   split at h
   .split at h
    .rename_i hk;have:=Mx (T:=T) (k:=k+1) zo;grind
    grind
   split at h
   .obtain⟨a,e,v1,c,b⟩:=ee h;exact SC b
   split at h
   .exact ih.list _ _ _ _ _ _ h
   grind
  .intro k v d a acc x k' v' h;rw[oW] at h;obtain⟨y,e,v1,c,b⟩:=ee h;split at b
   .exact ih.args _ _ _ _ _ _ _ _ b
   .split at b
    .grind
    .simp only[aZG,cj.ok.injEq] at b;have:=ih.oper _ _ _ _ _ _ _ c;omega
  .intro k v d x k' v' h;rw[qV] at h;split at h
   .rename_i g;have:=xo g;grind
   .obtain⟨all,e,v1,c,b⟩:=ee h;split at b
    .obtain⟨y,j,v2,m,i⟩:=ee b;exact SC i
    .exact SC b
  .intro k v d acc x k' v' h;rw[rK] at h;obtain⟨y,e,v1,c,b⟩:=ee h;split at b
   .exact ih.elems _ _ _ _ _ _ _ b
   .simp only[aZG,cj.ok.injEq] at b;have:=ih.oper _ _ _ _ _ _ _ c;omega
  .intro l k v d x k' v' h;rw[jt] at h;split at h
   .exact ih.Ez _ _ _ _ _ _ h
   .obtain⟨y,e,v1,c,b⟩:=ee h;exact ih.more _ _ _ _ _ _ _ _ (ih.oper _ _ _ _ _ _ _ c) b
  .intro l y k v d x k' v' hk h;rw[qx] at h;split at h
   .grind
   .obtain⟨z,e,v1,c,b⟩:=ee h;exact ih.more _ _ _ _ _ _ _ _ (ih.oper _ _ _ _ _ _ _ c) b
mutual
def eW (nv M:Nat):Bd->Prop
 | .mk kind name args parts=>name.length<=9/\(kind=33\/kind=44\/kind=59\/kind=63\/kind=126\/kind=103)/\((kind=59->parts.length=2)/\(kind=63->parts.length=3)/\(kind=126->parts.length=1)) /\
  args.length<=4/\fi nv args/\fH args<=M/\parts.length<=M/\eX nv M parts
 termination_by structural x=>x
def eX (nv M:Nat):List Bd->Prop
 | []=>True
 | x::xs=>eW nv M x/\eX nv M xs
 termination_by structural x=>x
end
mutual
theorem eW.mono {n m M:Nat} (h:n<=m):∀ (x:Bd),eW n M x->eW m M x
 | .mk kind name args parts,hx=>by
  unfold eW at hx ⊢;obtain⟨a,b,c,d,e,f,g,i⟩:=hx;exact⟨a,b,c,d,fi.mono h args e,f,g,eX.mono h parts i⟩
 termination_by structural x=>x
theorem eX.mono {n m M:Nat} (h:n<=m):∀ (l:List Bd),eX n M l->eX m M l
 | [],hx=>by simp_all [eX]
 | x::xs,hx=>by
  unfold eX at hx ⊢;exact⟨eW.mono h x hx.1,eX.mono h xs hx.2⟩
 termination_by structural x=>x
end
theorem eX.nil:eX n M []:=by simp_all [eX]
def eX.snoc{n M:Nat}{x:Bd}(hx:eW n M x):∀ {a:List Bd},eX n M a->eX n M (a++[x])
 | [],_=>by simp_all [eX,eX.nil]
 | y::a,h=>by
  show eX n M (y::(a++[x]));unfold eX at h ⊢;exact⟨h.1,eX.snoc hx h.2⟩
theorem eX.at{n M:Nat}:∀ {l:List Bd} {j:Nat},eX n M l->(a:j<l.length)->eW n M l[j]
 | x::xs,0,h,_=>by simp_all [eX]
 | x::xs,j+1,h,a=>by unfold eX at h;exact eX.at h.2 zg
theorem acu:eW n M zl:=by simp_all [zl,eW,fi.nil,fH,eX.nil]
def aGh:eW n M Oh:=by simp_all [Oh,eW,fi.nil,fH,eX.nil]
def eX.one{a:Bd}(h:eW n M a):eX n M [a]:=by simp_all [eX,eX.nil]
def eX.cons{a:Bd}{l:List Bd}(h:eW n M a)(b:eX n M l):eX n M (a::l):=by simp_all [eX]
def alo:∀ (x:Ex),1<=iA x
 | .mk ..=>by simp [iA]
def aGi{T:List Tok}{c:Bs}(h:LB T k=O c):c.length<=9/\k<T.length:=by
 unfold LB at h;have hm:=a0B h;refine⟨?_,xo (List.find?_some h)⟩;simp only[LA,List.mem_cons,List.not_mem_nil,or_false] at hm;grind
structure BOk(T:List Tok)(f:Nat):Prop where
 lit:∀ k v d x k' v',np T f k v d=O (.ok x k' v')->eW v'.length T.length x/\v.length<=v'.length/\k+1<=k'/\k'<=T.length
 lits:∀ k v d acc x k' v',eX v.length T.length acc->pO T f k v d acc=O (.ok x k' v')->eX v'.length T.length x/\v.length<=v'.length/\k+x.length<=k'+acc.length/\k'<=T.length/\k+1<=k'
 row:∀ k v d x k' v',nJ T f k v d=O (.ok x k' v')->eW v'.length T.length x/\v.length<=v'.length/\k+1<=k'/\k'<=T.length
 rest:∀ k v d x k' v',pP T f k v d=O (.ok x k' v')->eW v'.length T.length x/\v.length<=v'.length/\k+1<=k'/\k'<=T.length
 body:∀ k v d x k' v',ml T f k v d=O (.ok x k' v')->eW v'.length T.length x/\v.length<=v'.length/\k+1<=k'/\k'<=T.length
theorem aGk{a b:Bd}(e:3<=M)(c:eW nv M a)(d:eW nv M b):eW nv M (.mk 59 [] [] [a,b]):=by
 unfold eW;exact⟨zs,zs,zs,zs,fi.nil,by simp [fH],zg,.cons c (.one d)⟩
theorem alp{a b c:Bd}(g:3<=M)(d:eW nv M a)(e:eW nv M b)(f:eW nv M c):eW nv M (.mk 63 [] [] [a,b,c]):=by
 unfold eW;exact⟨zs,zs,zs,zs,fi.nil,by simp [fH],zo,.cons d (.cons e (.one f))⟩
def Wv{T:List Tok}(o:B9 T):∀ f,BOk T f
 | 0=>⟨by simp_all [np],by simp_all [pO],by simp_all [nJ],by simp_all [pP],by simp_all [ml]⟩
 | f+1=>by
  have ih:=Wv o f;refine⟨?_,?_,?_,?_,?_⟩
  .intro k v d x k' v' h;rw[np] at h;split at h
   .grind
   split at h
   .rename_i r;have hlt:=xo r;simp only[aZG,cj.ok.injEq] at h;obtain⟨rfl,rfl,rfl⟩:=h;refine⟨?_,aZK _,zo,zo⟩;simp_all [eW,fi.nil,fH,eX.nil]
   split at h
   .obtain⟨b,m,v1,g,e⟩:=ee h;obtain⟨g1,g2,g3,g4⟩:=ih.lit _ _ _ _ _ _ g;simp only[aZG,cj.ok.injEq] at e;obtain⟨rfl,rfl,rfl⟩:=e;refine⟨?_,g2,zo,g4⟩;unfold eW;exact⟨zs,zs,zs,zs,fi.nil,by simp [fH],zg,.one g1⟩
   split at h
   .obtain⟨b,m,v1,g,e⟩:=ee h;obtain⟨g1,g2,g3,g4⟩:=ih.body _ _ _ _ _ _ g;have hm:=SC e;obtain⟨rfl,rfl,rfl⟩:=nP e;grind
   .obtain⟨y,m,v1,g,e⟩:=ee h;obtain⟨g1,g2,g3⟩:=(OY o f).oper _ _ _ _ _ _ _ g;have C:=alo y;have s:=(Wu T f).oper _ _ _ _ _ _ _ g;split at e
    .rename_i c t;obtain⟨D,c2⟩:=aGi t;obtain⟨z,p,v2,j,i⟩:=ee e;obtain⟨q1,q2,q3⟩:=(OY o f).oper _ _ _ _ _ _ _ j;have E:=(Wu T f).oper _ _ _ _ _ _ _ j;simp only[aZG,cj.ok.injEq] at i;obtain⟨rfl,rfl,rfl⟩:=i;grind [eW,fH,eX.nil,fi,gZ.mono,fi.nil]
    .split at e
     .grind
     .split at e
      .grind
      .simp only[aZG,cj.ok.injEq] at e;obtain⟨rfl,rfl,rfl⟩:=e;refine⟨?_,g2,zo,s⟩;obtain⟨kind,name,n,F,args⟩:=y;unfold gZ at g1;unfold eW;simp only[iA] at g3;exact⟨g1.1,zs,zs,g1.2.2.2.2.1.1,g1.2.2.2.2.2.2.2,by grind [Ex.args],zs,eX.nil⟩
  .intro k v d acc x k' v' u h;rw[pO] at h;obtain⟨y,m,v1,g,e⟩:=ee h;obtain⟨g1,g2,g3,g4⟩:=ih.lit _ _ _ _ _ _ g;have w:=eX.snoc g1 (eX.mono g2 _ u);split at e
   .obtain⟨q1,q2,q3,q4,H⟩:=ih.lits _ _ _ _ _ _ _ w e;grind
   grind
  .intro k v d x k' v' h;rw[nJ] at h;obtain⟨l,m,v1,g,e⟩:=ee h;obtain⟨g1,g2,g3,g4,g5⟩:=ih.lits _ _ _ _ _ _ _ eX.nil g;simp only[aZG,cj.ok.injEq] at e;obtain⟨rfl,rfl,rfl⟩:=e;grind [aZ5,eX,eW,fi.nil,fH]
  .intro k v d x k' v' h;rw[pP] at h;split at h
   .grind
   .exact ih.body _ _ _ _ _ _ h
  .intro k v d x k' v' h;rw[ml] at h;obtain⟨a,m,v1,g,e⟩:=ee h;obtain⟨g1,g2,g3,g4⟩:=ih.row _ _ _ _ _ _ g;split at e
   .obtain⟨b,p,v2,j,i⟩:=ee e;obtain⟨q1,q2,q3,q4⟩:=ih.row _ _ _ _ _ _ j;split at i
    .obtain⟨c,I,v3,B,q⟩:=ee i;obtain⟨m1,m2,m3,m4⟩:=ih.rest _ _ _ _ _ _ B;simp only[aZG,cj.ok.injEq] at q;obtain⟨rfl,rfl,rfl⟩:=q;grind [alp,eW.mono]
    .simp only[aZG,cj.ok.injEq] at i;obtain⟨rfl,rfl,rfl⟩:=i;grind [alp,eW.mono,acu]
   .split at e
    .obtain⟨b,p,v2,j,i⟩:=ee e;obtain⟨q1,q2,q3,q4⟩:=ih.rest _ _ _ _ _ _ j;simp only[aZG,cj.ok.injEq] at i;obtain⟨rfl,rfl,rfl⟩:=i;grind [aGk,eW.mono]
    grind
def uO(T:List Tok):cj Bd:=
 match ml T (xp T) 0 [] 0 with
 | some (.ok b k vs)=>match mW T [46] b k vs with
  | some (.ok b k vs)=>if (tk T k).kind=0 then .ok b k vs else .err 2 (tk T k).pos
  | some (.err e a)=>.err e a
  | none=>.err 0 0
 | some (.err e a)=>.err e a
 | none=>.err 0 0
end P
open Go.Proofs.YtoegidfbnkaabaaGreatDoor.Sx
section
variable{p0 p1 p2 p3 p4 p5 p6 p7:Y}{w:Z}{R:Ending->Z->Prop}
def aGl:=cz w R [p0] (gc [] [] []) func12
def aGm:=cz w R [p0] (gc [] [] [12]) func22
end
open Go.RowKit Sx
def aGn(s:P.Bs)(w:Z)(g:s.length<=100000)(h:Wn w):Calls a9z 28 #[aT s] w (Wo w s):=by
 refine avP ?_;refine(aF3 s w g h).mono ?_;rintro e w1 ⟨f,d⟩;cases hr:P.program s with
 | err c a=>
  rw[hr] at d;obtain⟨b,rfl,i⟩:=d;refine bE ?_;refine⟨f,?_⟩;exact yH
 | ok cs k vs=>
  rw[hr] at d;obtain⟨v,vs,rfl,i,j⟩:=d;refine bE ?_;refine⟨f,?_⟩;exact yH
def aGo(w:Z)(s:P.Bs)(e:Ending)(w':Z):Prop:=
 Ext w w'/\match P.program s with
 | .err c a=>∃ b,e = ah (ak #[aq V,aj 73 (aq (O ⟨b,0,V⟩))])/\w'.heap[b]?=O (ae #[.int .i64 c,.int .i64 a] 77 (0,0))
 | .ok cs _ _=>∃ b v vs,e = ah (ak #[aq (O ⟨b,0,V⟩),ai])/\w'.heap[b]?=O (ae #[v] 72 (0,0))/\Nu w w' b /\
  fK (Nu w w') w' 79 v vs/\j9 (Nu w w') w' vs cs
def aGp(s:P.Bs)(w:Z)(h:s.length<=100000)(i:Wn w):Calls a9z 22 #[aT s] w (aGo w s):=by
 refine aGm ?_;refine(aGn s w h i).mono ?_;rintro e w1 ⟨g,d⟩;have s1:=g.size;cases hr:P.program s with
 | err c a=>
  rw[hr] at d;obtain⟨b,rfl,f⟩:=d;refine bE ?_;refine⟨g,?_⟩;exact yH
 | ok cs k vs=>
  rw[hr] at d;obtain⟨v,vs,rfl,f,j⟩:=d;obtain⟨l,sn,m,rfl⟩:∃ a n c,v = .slice a n c:=by rcases f with⟨-,rfl⟩| ⟨b,cs',rfl,-⟩<;>exact zg
  refine bE ?_;refine⟨yF,?_⟩;rw[hr];refine⟨_,_,vs,J,yH,yH,f.mono (by grind [World.size_alloc]) yH,j.mono (by grind [World.size_alloc]) fun b cs t _ _ o=>yH⟩
open Go.Extern.Stop Go.Stop Go.Extern
def alq(t:Addr)(w:Z):(ReflectliteValue.unpack (aj 75 (aq (O t)))).run a9z w
 = .ok (.agg #[pq 12 75,pp w.heap.size,.int .u64 150]) (w.alloc (ae #[aq (O t)] 75)):=zk
def alr(a:Addr)(w:Z):(ReflectliteValue.methodAny (ReflectliteValue.valueError "reflectlite.Value.Type" 0) (fun t _ _ _=>ReflectliteType.toType t) #[.agg #[pq 12 75,aq (O a),.int .u64 150]]).run a9z w
 = .ok (aj 219 (.agg #[pq 12 75])) w:=zk
def acv(h:Y)(w:Z):(a5l 476 219 (.agg #[h]) "Kind").run a9z w = .ok (196,h) w:=zk
def als(w:Z):((ReflectliteType.abiMethod fun t=>Functor.map (fun a:Nat=>Value.int IntKind.u8 (a:Int)) (Rtype.kind t)) #[pq 12 75]).run a9z w = .ok (.int .u8 22) w:=zk
def alu(w:Z):((ReflectliteType.abiMethod fun t=>Functor.map (fun a:Nat=>Value.int IntKind.u8 (a:Int)) (Rtype.kind t)) #[pq 12 73]).run a9z w = .ok (.int .u8 22) w:=zk
def Ww(z:Sem Y)(f:TypeId->Addr->Nat->Nat->Sem Y)(v:Y) :
 ReflectliteValue.method z f #[v]=(do match <- ReflectliteValue.parts v with | none=>z | some (t,a,fl)=>f t a fl (fl % 32)):=rfl
def alv(a:Addr)(w:Z):(ReflectliteValue.parts (.agg #[pq 12 75,aq (O a),.int .u64 150])).run a9z w = .ok (O (75,a,150)) w:=zk
def alw(a p:Addr)(W:Z)(b:W.cell? a=O (aq (O p))) :
  (ReflectliteValue.method (ReflectliteValue.valueError "reflectlite.Value.IsNil" 0) ReflectliteValue.isNil #[.agg #[pq 12 75,aq (O a),.int .u64 150]]).run a9z W = .ok (.bool G) W:=by
 rw[Ww];simp only[aZS,alv,a0x];simp [ReflectliteValue.isNil,loadVar,isAgg,underlying,underlying75,b,a0x]
def acw(h:Y)(w:Z):(a5l 476 219 (.agg #[h]) "Elem").run a9z w = .ok (238,.agg #[h]) w:=zk
def acx(h:Y)(w:Z):(a5l 476 219 (.agg #[h]) "Implements").run a9z w = .ok (239,.agg #[h]) w:=zk
def acy(h:Y)(w:Z):(a5l 476 219 (.agg #[h]) "AssignableTo").run a9z w = .ok (236,.agg #[h]) w:=zk
def alx(w:Z):(ReflectliteType.method ReflectliteType.elem #[.agg #[pq 12 75]]).run a9z w = .ok (aj 219 (.agg #[pq 12 73])) w:=zk
def aly(w:Z):(ReflectliteType.relation "Implements" ReflectliteType.implements_ #[.agg #[pq 12 73],aj 219 (.agg #[pq 12 57])]).run a9z w = .ok (.bool A) w:=zk
def aGq(v:Y)(w:Z):(ReflectliteType.typeOf #[aj 73 v]).run a9z w = .ok (aj 219 (.agg #[pq 12 73])) w:=zk
def aGr(w:Z):(ReflectliteType.relation "AssignableTo" ReflectliteType.assignableTo #[.agg #[pq 12 73],aj 219 (.agg #[pq 12 73])]).run a9z w = .ok (.bool A) w:=zk
def aGs(e:Addr)(w:Z):(ReflectliteValue.unpack (aj 73 (aq (O e)))).run a9z w
 = .ok (.agg #[pq 12 73,pp w.heap.size,.int .u64 150]) (w.alloc (ae #[aq (O e)] 73)):=zk
def aGt(w:Z):(Rtype.elem? 75).run a9z w = .ok (O 73) w:=zk
def aGu(p:Addr)(w:Z):(ReflectliteValue.mk 73 p ReflectliteValue.flagAddr).run a9z w = .ok (.agg #[pq 12 73,aq (O p),.int .u64 406]) w:=zk
def aGv(a p:Addr)(W:Z)(b:W.cell? a=O (aq (O p))) :
  (ReflectliteValue.method (ReflectliteValue.valueError "reflectlite.Value.Elem" 0) ReflectliteValue.elem #[.agg #[pq 12 75,aq (O a),.int .u64 150]]).run a9z W
   = .ok (.agg #[pq 12 73,aq (O p),.int .u64 406]) W:=by
 rw[Ww];simp only[aZS,alv,a0x];simp [ReflectliteValue.elem,loadVar,isAgg,underlying,underlying75,b,a0x,aGt,aGu]
def alz(v x:Y):ReflectliteValue.set #[v,x]=(do
 let (O (dst,a,fl),O (src,b,_)):=(<- ReflectliteValue.parts v,<- ReflectliteValue.parts x)
  | unsupported (.noEntry "extern/(internal/reflectlite.Value).Set.zeroValue")
 if fl / ReflectliteValue.flagAddr % 2 == 0 then unsupported (.noEntry "extern/(internal/reflectlite.Value).Set.unaddressable")
 let val <- loadVar src b
 if <- Rtype.directlyAssignable dst src then storeVar dst a val
 else if <- Rtype.implements dst src then
  if (<- Rtype.kind src) == 20 then
   match val with
   | ai=>unsupported (.noEntry "extern/reflectlite: a nil value of one interface type handed on as a value of another")
   | _=>storeVar dst a val
  else storeVar dst a (aj src val)
 else panicString ("reflectlite.Set: value of type "++(<- Rtype.spelt src)++ " is not assignable to type "++(<- Rtype.spelt dst))
 pure (ak #[])):=rfl
def aGw(a:Addr)(w:Z):(ReflectliteValue.parts (.agg #[pq 12 73,aq (O a),.int .u64 406])).run a9z w = .ok (O (73,a,406)) w:=zk
def aGx(a:Addr)(w:Z):(ReflectliteValue.parts (.agg #[pq 12 73,aq (O a),.int .u64 150])).run a9z w = .ok (O (73,a,150)) w:=zk
def aGy(w:Z):(Rtype.directlyAssignable 73 73).run a9z w = .ok A w:=zk
def aGz(a b e:Addr)(c:Y)(W:Z)(d:W.cell? b=O (aq (O e)))(ht:W.cell? a=O c)(f:W.frozen? a=G) :
  (ReflectliteValue.set #[.agg #[pq 12 73,aq (O a),.int .u64 406],.agg #[pq 12 73,aq (O b),.int .u64 150]]).run a9z W
   = .ok (ak #[]) (W.setCell a (aq (O e))):=by
 rw[alz];simp only[aZS,aGw,aGx,a0x];simp [ReflectliteValue.flagAddr,loadVar,isAgg,underlying,underlying73,d,a0x,aGy,storeVar,Value.cells,storeCells,Addr.add];rw[run_store a9z W a _ _ (by rfl)];grind
def aGA(e t:Addr)(EK:Y)(w:Z)(hg:w.cell? ⟨0,0,V⟩=O (aj 219 (.agg #[pq 12 57])))(Ka:w.cell? t=O EK)(F4:w.frozen? t=G) :
  Calls a9z 29 #[aj 73 (aq (O e)),aj 75 (aq (O t))] w fun ev w'=>ev = ah (.bool A)/\w'=((((w.alloc (ae #[aq (O t)] 75)).alloc (ae #[pq 12 75,pp w.heap.size,.int .u64 150] 158)).alloc (ae #[pq 12 75,pp w.heap.size,.int .u64 150] 158)).alloc (ae #[aq (O e)] 73)).setCell t (aq (O e)):=by
 have h6:=@run_callFunc_extern a9z 54 _ (fun args=>ReflectliteValue.unpack (args.getD 0 (ak #[]))) func54 zk zk zk zk;have h7:=@run_callFunc_extern a9z 55 _ (ReflectliteValue.methodAny (ReflectliteValue.valueError "reflectlite.Value.Type" 0) (fun t _ _ _=>ReflectliteType.toType t)) func55 zk zk zk zk;have h8:=@run_callFunc_extern a9z 56 _ (ReflectliteValue.method (ReflectliteValue.valueError "reflectlite.Value.IsNil" 0) ReflectliteValue.isNil) func56 zk zk zk zk;have Gj:=@run_callFunc_extern a9z 196 _ (ReflectliteType.abiMethod fun t=>do pure (.int .u8 (<- Rtype.kind t))) func196 zk zk zk zk;have h37:=@run_callFunc_extern a9z 238 _ (ReflectliteType.method ReflectliteType.elem) func238 zk zk zk zk;have h38:=@run_callFunc_extern a9z 239 _ (ReflectliteType.relation "Implements" ReflectliteType.implements_) func239 zk zk zk zk;have oN:=@run_callFunc_extern a9z 87 _ ReflectliteType.typeOf func87 zk zk zk zk;have yz:=@run_callFunc_extern a9z 236 _ (ReflectliteType.relation "AssignableTo" ReflectliteType.assignableTo) func236 zk zk zk zk;have Gk:=@run_callFunc_extern a9z 88 _ (ReflectliteValue.method (ReflectliteValue.valueError "reflectlite.Value.Elem" 0) ReflectliteValue.elem) func88 zk zk zk zk;have B2:=@run_callFunc_extern a9z 89 _ ReflectliteValue.set func89 zk zk zk zk;have tO:=aGq;have mA:=acy;have a25:=aGr;have v25:=aGs;have f6:=alq;have f7:=alr;have mK:=acv;have mE:=acw;have mI:=acx;have k27:=als;have k25:=alu;have e27:=alx;have i25:=aly;have n8:=alw ⟨w.heap.size,0,V⟩ t ((w.alloc (ae #[aq (O t)] 75)).alloc (ae #[pq 12 75,pp w.heap.size,.int .u64 150] 158)) zs;have hlt:0<w.heap.size:=by
  grind [Nat.eq_zero_or_pos,World.cell?]
 have jf:((w.alloc (ae #[aq (O t)] 75)).alloc (ae #[pq 12 75,pp w.heap.size,.int .u64 150] 158)).cell? ⟨0,0,V⟩=O (aj 219 (.agg #[pq 12 57])):=by
  rw[a0k _ _ ⟨0,0,V⟩ zs,a0k _ _ ⟨0,0,V⟩ hlt];exact hg
 have sI:t.block<w.heap.size:=by
  grind [Nat.lt_or_ge,World.cell?,Array.getElem?_eq_none]
 have el:=aGv ⟨w.heap.size,0,V⟩ t (((w.alloc (ae #[aq (O t)] 75)).alloc (ae #[pq 12 75,pp w.heap.size,.int .u64 150] 158)).alloc (ae #[pq 12 75,pp w.heap.size,.int .u64 150] 158)) (by rw[a0k _ _ ⟨w.heap.size,0,V⟩ (by simp;omega)];simp);have st:=aGz t ⟨w.heap.size+1+1+1,0,V⟩ e EK ((((w.alloc (ae #[aq (O t)] 75)).alloc (ae #[pq 12 75,pp w.heap.size,.int .u64 150] 158)).alloc (ae #[pq 12 75,pp w.heap.size,.int .u64 150] 158)).alloc (ae #[aq (O e)] 73))
  (by rw[World.cell?_alloc_at _ _ _ _ zs];rfl)
  (by rw[a0k _ _ t (by simp;omega),a0k _ _ t (by simp;omega),a0k _ _ t (by simp;omega),a0k _ _ t sI];exact Ka)
  (by rw[a0H _ _ t (by simp;omega),a0H _ _ t (by simp;omega),a0H _ _ t (by simp;omega),a0H _ _ t (Nat.ne_of_lt sI)];exact F4)
 go_enter func29,ntmps29
 go_wp2
 refine wp_loop_rounds 1 ?_;rw[rounds_succ]
 go_wp2
 go_ret
 exact⟨J,J⟩
end Go.Proofs.YtoegidfbnkaabaaGreatDoor
namespace Go.Proofs.YtoegidfbnkaabaaGreatDoor
open Go.RowKit Sx
variable{f g i:Nat}
def acz(w:Z):Calls a9z 23 #[ai] w fun e w'=>Ext w w'/\e = ah (ak #[zi 0,zi (-1)]):=by
 refine aaG ?_;refine bE ?_;exact yF
def Ca(w:Z):Prop:=w.cell? ⟨0,0,V⟩=O (aj 219 (.agg #[pq 12 57]))
theorem Ca.ext{w w':Z}(h:Ca w)(a:Ext w w'):Ca w':=LX h (by grind [bB.ext])
def alM(b:Nat)(c a:Int)(w:Z)(g:w.heap[b]?=aM #[zi c,zi a] 77)(h:Ca w) :
  Calls a9z 23 #[aj 73 (pp b)] w fun e w'=>Ext w w'/\e = ah (ak #[zi c,zi a]):=by
 refine aaG ?_;refine bE ?_;obtain⟨d,i⟩:=cd ((w.alloc (ae #[aq V] 73)).alloc (ae #[zi 0] 27));have j:Ext w d:=yF;have q0:d.heap[w.heap.size]?=aM #[aq V] 73:=yH;rw[<- i];refine(aGA ⟨b,0,V⟩ ⟨w.heap.size,0,V⟩ _ d (h.ext j) (by simp [World.cell?,q0];rfl) (jH q0 0)).mono ?_;rintro e w3 ⟨rfl,f⟩;obtain⟨k,l⟩:=cd ((((d.alloc (ae #[pp w.heap.size] 75)).alloc (ae #[pq 12 75,pp d.heap.size,.int .u64 150] 158)).alloc (ae #[pq 12 75,pp d.heap.size,.int .u64 150] 158)).alloc (ae #[pp b] 73));rw[<- l] at f;have m:Ext d k:=yF;have n:=m.ext _ _ q0;rw[uD n] at f;have o:Ext w w3:=by
  exact yF
 have q3:w3.heap[w.heap.size]?=aM #[pp b] 73:=by
  exact yH
 have q4:=o.ext _ _ g;refine du @q3 @q4 ?_;exact yF
def aGC(w:Z)(s:P.Bs)(e:Ending)(w':Z):Prop:=
 Ext w w'/\match P.program s with
 | .err c a=>e = ah (ak #[aq V,.int .i64 c,.int .i64 a])
 | .ok cs _ _=>∃ b v vs,e = ah (ak #[aq (O ⟨b,0,V⟩),.int .i64 0,.int .i64 (-1)])/\w'.heap[b]?=O (ae #[v] 72 (0,0))/\Nu w w' b /\
  fK (Nu w w') w' 79 v vs/\j9 (Nu w w') w' vs cs
def aGD(s:P.Bs)(w:Z)(i:s.length<=100000)(j:Wn w)(l:Ca w):Calls a9z 12 #[aT s] w (aGC w s):=by
 refine aGl ?_;refine(aGp s w i j).mono ?_;rintro e w1 ⟨m,d⟩;cases hr:P.program s with
 | err c a=>
  rw[hr] at d;obtain⟨b,rfl,g⟩:=d;refine bE ?_;refine(alM b c a w1 g (l.ext m)).mono ?_;rintro e w2 ⟨f,rfl⟩;refine bE ?_;refine⟨yF,?_⟩;grind
 | ok cs k vs=>
  rw[hr] at d;obtain⟨b,v,vs,rfl,g,n,q,o⟩:=d;refine bE ?_;refine(acz w1).mono ?_;rintro e w2 ⟨f,rfl⟩;have s2:=f.size;refine bE ?_;refine⟨yF,?_⟩;rw[hr];have h:∀ b,Nu w w1 b->Nu w w2 b:=zg;exact⟨b,v,vs,J,f.ext _ _ g,h _ n,(by grind [fK.mono,bB.ext]),o.mono h fun b cs t _ _ p=>f.ext _ _ p⟩
open Go.Proofs.YtoegidfbnkaabaaGreatDoor.Sx
section
variable{p0 p1 p2 p3 p4 p5 p6 p7:Y}{w:Z}{R:Ending->Z->Prop}
def aGE:=cz w R [p0] (gc [] [(4001,[])] [15]) func76
def aGF:=cz w R [p0] (gc [] [] []) func37
end
namespace P
inductive jB where
 | fault (e:Nat)
 | Du
deriving DecidableEq,Inhabited
abbrev Out(α:Type):=Option (Except jB α)
def Out.bind{α β:Type}(x:Out α)(k:α->Out β):Out β:=
 match x with
 | none=>V
 | some (.error e)=>O (.error e)
 | some (.ok a)=>k a
@[simp] theorem Out.ee{α β:Type}(a:α)(k:α->Out β):Out.bind (O (.ok a)) k=k a:=rfl
@[simp] theorem Out.aUB{α β:Type}(e:jB)(k:α->Out β):Out.bind (O (.error e)) k=O (.error e):=rfl
@[simp] theorem Out.bind_none{α β:Type}(k:α->Out β):Out.bind (V:Out α) k=none:=rfl
def Out.bind_some{α β:Type}{x:Out α}{k:α->Out β}{r:Except jB β}(h:Out.bind x k=O r):(∃ a,x=O (.ok a)/\k a=O r)\/(∃ e,x=O (.error e)/\r = .error e):=by
 cases x with
 | none=>simp_all
 | some y=>cases y with
  | error e=>simp_all
  | ok a=>simp_all
structure Sr where
 tr:Tr
 fuel:Nat
def Sr.dec(s:Sr):Sr:={ s with fuel:=s.fuel-1 }
def Sr.bind(s:Sr)(i:Nat)(t:Tm):Sr:={ s with tr:=(i,t)::s.tr }
def Sr.iD(s:Sr)(mark:Nat):Sr:={ s with tr:=s.tr.drop (s.tr.length-mark) }
mutual
def yA:Nat->Nat->Tm->Sr->Out (Bool×Sr)
 | 0,_,_,_=>V
 | f+1,i,t,s=>
  if s.fuel=0 then O (.error .Du)
  else match fG s.tr f t with
   | none=>V
   | some (.var j)=>O (.ok (decide (j=i),s.dec))
   | some (.comp _ args)=>Ad f i args s.dec
   | some _=>O (.ok (G,s.dec))
 termination_by structural f=>f
def Ad:Nat->Nat->List Tm->Sr->Out (Bool×Sr)
 | 0,_,_,_=>V
 | _+1,_,[],s=>O (.ok (G,s))
 | f+1,i,a::r,s=>Out.bind (yA f i a s) fun p=>if p.1 then O (.ok (A,p.2)) else Ad f i r p.2
 termination_by structural f=>f
end
def sU(f:Nat)(i:Nat)(t:Tm)(s:Sr):Out (Bool×Sr):=
 Out.bind (yA f i t s) fun p=>if p.1 then O (.ok (G,p.2)) else O (.ok (A,p.2.bind i t))
def flat:Tm->Tm->Bool
 | .atom a,.atom b=>a == b
 | .int a,.int b=>a == b
 | .var i,.var j=>i == j
 | _,_=>G
mutual
def lz:Nat->Tm->Tm->Sr->Out (Bool×Sr)
 | 0,_,_,_=>V
 | f+1,a,b,s=>
  if s.fuel=0 then O (.error .Du)
  else match fG s.tr f a,fG s.tr f b with
   | some (.var i),O (.var j)=>if i=j then O (.ok (A,s.dec)) else sU f i (.var j) s.dec
   | some (.var i),O u=>sU f i u s.dec
   | some u,O (.var j)=>sU f j u s.dec
   | some (.comp n l),O (.comp m r)=>if n=m/\l.length=r.length then mZ f l r s.dec else O (.ok (G,s.dec))
   | some u,O v=>O (.ok (flat u v,s.dec))
   | _,_=>V
 termination_by structural f=>f
def mZ:Nat->List Tm->List Tm->Sr->Out (Bool×Sr)
 | 0,_,_,_=>V
 | f+1,a::l,b::r,s=>Out.bind (lz f a b s) fun p=>if p.1 then mZ f l r p.2 else O (.ok (G,p.2))
 | _+1,_,_,s=>O (.ok (A,s))
 termination_by structural f=>f
end
mutual
def Cb:Nat->Tm->Tm->Sr->Out (Bool×Sr)
 | 0,_,_,_=>V
 | f+1,a,b,s=>
  if s.fuel=0 then O (.error .Du)
  else match fG s.tr f a,fG s.tr f b with
   | some (.comp n l),O (.comp m r)=>if n=m/\l.length=r.length then A5 f l r s.dec else O (.ok (G,s.dec))
   | some u,O v=>O (.ok (flat u v,s.dec))
   | _,_=>V
 termination_by structural f=>f
def A5:Nat->List Tm->List Tm->Sr->Out (Bool×Sr)
 | 0,_,_,_=>V
 | f+1,a::l,b::r,s=>Out.bind (Cb f a b s) fun p=>if p.1 then A5 f l r p.2 else O (.ok (G,p.2))
 | _+1,_,_,s=>O (.ok (A,s))
 termination_by structural f=>f
end
def wrap64(z:Int):Int:=(z+9223372036854775808) % 18446744073709551616-9223372036854775808
def reckon(name:Bs)(a b:Int):Except jB Int:=
 if name=[43] then .ok (wrap64 (a+b)) else if name=[45] then .ok (wrap64 (a-b)) else if name=[42] then .ok (wrap64 (a*b))
 else if b=0 then .error (.fault 9)
 else if name=[47,47] then .ok (wrap64 (a.tdiv b))
 else .ok (if a.tmod b≠0/\(decide (a.tmod b<0)≠decide (b<0)) then wrap64 (a.tmod b+b) else a.tmod b)
def tR:Nat->Tm->Sr->Out (Int×Sr)
 | 0,_,_=>V
 | f+1,t,s=>
  if s.fuel=0 then O (.error .Du)
  else match fG s.tr f t with
   | none=>V
   | some (.int n)=>O (.ok (n,s.dec))
   | some (.var _)=>O (.error (.fault 7))
   | some (.comp name [a,b])=>
    if kP name 2≠0 then
     Out.bind (tR f a s.dec) fun p=>Out.bind (tR f b p.2) fun q=>
      match reckon name p.1 q.1 with
      | .error e=>O (.error e)
      | .ok z=>O (.ok (z,q.2))
    else O (.error (.fault 8))
   | some _=>O (.error (.fault 8))
 termination_by structural f=>f
def alN(name:Bs)(a b:Int):Bool:=
 if name=[60] then decide (a<b) else if name=[62] then decide (a > b) else if name=[61,60] then decide (a<=b) else if name=[62,61] then decide (a ≥ b) else decide (a=b)
def O0(name:Bs):Tm->Bool
 | .var _=>name == [118,97,114]
 | .atom _=>name == [110,111,110,118,97,114] || name == [97,116,111,109]
 | .int _=>name == [110,111,110,118,97,114] || name == [105,110,116,101,103,101,114]
 | .comp _ _=>name == [110,111,110,118,97,114]
def xx(f:Nat)(name:Bs)(args:List Tm)(s:Sr):Out (Bool×Sr):=
 if name=[116,114,117,101] then O (.ok (A,s))
 else if name=[61] then lz f (args.getD 0 default) (args.getD 1 default) s
 else if name=[92,61] then Out.bind (lz f (args.getD 0 default) (args.getD 1 default) s) fun p=>O (.ok (!p.1,p.2.iD s.tr.length))
 else if name=[61,61] then Cb f (args.getD 0 default) (args.getD 1 default) s
 else if name=[105,115] then Out.bind (tR f (args.getD 1 default) s) fun p=>lz f (args.getD 0 default) (.int p.1) p.2
 else if name∈[[118,97,114],[110,111,110,118,97,114],[97,116,111,109],[105,110,116,101,103,101,114]] then
  match fG s.tr f (args.getD 0 default) with
  | none=>V
  | some t=>O (.ok (O0 name t,s))
 else if name=[102,97,105,108] then O (.ok (G,s))
 else Out.bind (tR f (args.getD 0 default) s) fun p=>Out.bind (tR f (args.getD 1 default) p.2) fun q=>O (.ok (alN name p.1 q.1,q.2))
def Le{α:Type}(x y:Option α):Prop:=∀ r,x=O r->y=O r
theorem Le.rfl{α:Type}{x:Option α}:Le x x:=fun _ h=>h
theorem Le.none{α:Type}{y:Option α}:Le (V:Option α) y:=fun _ h=>zg
theorem Le.trans{α:Type}{x y z:Option α}(h:Le x y)(a:Le y z):Le x z:=fun r hr=>a r (h r hr)
theorem Out.yB{α β:Type}{x y:Out α}{k k':α->Out β}(h:Le x y)(hk:∀ a,Le (k a) (k' a)):Le (Out.bind x k) (Out.bind y k'):=by
 intro r hr;obtain⟨a,b,c⟩| ⟨e,b,rfl⟩:=Out.bind_some hr
 .rw[h _ b];exact hk a _ c
 .rw[h _ b];rfl
def Kc{tr:Tr}:∀ {f:Nat} {t:Tm},Le (fG tr f t) (fG tr (f+1) t)
 | f,.atom s=>by intro r h;simp_all [fG]
 | f,.int s=>by intro r h;simp_all [fG]
 | f,.comp s l=>by intro r h;simp_all [fG]
 | 0,.var i=>by
  intro r h;grind [fG]
 | f+1,.var i=>by
  intro r h;rw[fG] at h ⊢;split at h
  .omega
  .exact Kc _ h
def alO:∀ f,(∀ i t s,Le (yA f i t s) (yA (f+1) i t s))/\(∀ i l s,Le (Ad f i l s) (Ad (f+1) i l s))
 | 0=>⟨fun _ _ _=>Le.none,fun _ _ _=>Le.none⟩
 | f+1=>by
  obtain⟨c,b⟩:=alO f;constructor
  .intro i t s;rw[yA,yA];split
   .exact Le.rfl
   .intro r hr;cases hw:fG s.tr f t with
    | none=>grind
    | some u=>
     rw[hw] at hr;rw[Kc _ hw];cases u with
     | comp n l=>exact b _ _ _ _ hr
     | _=>exact hr
  .intro i l s;cases l with
   | nil=>exact Le.rfl
   | cons a l=>
    simp_all [Ad,Out.yB,Le.rfl]
def alP{t:Tm}{s:Sr}:Le (sU f i t s) (sU (f+1) i t s):=Out.yB ((alO f).1 _ _ _) fun _=>Le.rfl
def SD:∀ f,(∀ a b s,Le (lz f a b s) (lz (f+1) a b s))/\(∀ l r s,Le (mZ f l r s) (mZ (f+1) l r s))
 | 0=>⟨fun _ _ _=>Le.none,fun _ _ _=>Le.none⟩
 | f+1=>by
  obtain⟨e,d⟩:=SD f;constructor
  .intro a b s;rw[lz,lz];split
   .exact Le.rfl
   .intro r hr;cases hw:fG s.tr f a with
    | none=>grind
    | some u=>
     rw[hw] at hr;rw[Kc _ hw];cases hv:fG s.tr f b with
     | none=>grind
     | some v=>
      rw[hv] at hr;rw[Kc _ hv];cases u<;>cases v<;>first
       | exact hr
       | exact alP _ hr
       | (simp only at hr ⊢;split at hr<;>rename_i c;(rw[zip c];exact hr);rw[bZ c];exact alP _ hr)
       | (simp only at hr ⊢;split at hr<;>rename_i c;(rw[zip c];exact d _ _ _ _ hr);grind)
  .intro l r s;cases l with
   | nil=>exact Le.rfl
   | cons a l=>
    cases r with
    | nil=>exact Le.rfl
    | cons b r=>
     simp_all [mZ,Out.yB,Le.rfl]
def alQ:∀ f,(∀ a b s,Le (Cb f a b s) (Cb (f+1) a b s))/\(∀ l r s,Le (A5 f l r s) (A5 (f+1) l r s))
 | 0=>⟨fun _ _ _=>Le.none,fun _ _ _=>Le.none⟩
 | f+1=>by
  obtain⟨e,c⟩:=alQ f;constructor
  .intro a b s;rw[Cb,Cb];split
   .exact Le.rfl
   .intro r hr;cases hw:fG s.tr f a with
    | none=>grind
    | some u=>
     rw[hw] at hr;rw[Kc _ hw];cases hv:fG s.tr f b with
     | none=>grind
     | some v=>
      rw[hv] at hr;rw[Kc _ hv];cases u<;>cases v<;>first
       | exact hr
       | (simp only at hr ⊢;split at hr<;>rename_i d;(rw[zip d];exact c _ _ _ _ hr);grind)
  .intro l r s;cases l with
   | nil=>exact Le.rfl
   | cons a l=>
    cases r with
    | nil=>exact Le.rfl
    | cons b r=>
     simp_all [A5,Out.yB,Le.rfl]
theorem acB:∀ f,∀ t s,Le (tR f t s) (tR (f+1) t s)
 | 0=>fun _ _=>Le.none
 | f+1=>by
  have ih:=acB f;intro t s;rw[tR,tR];split
  .exact Le.rfl
  .intro r hr;cases hw:fG s.tr f t with
   | none=>grind
   | some u=>
    rw[hw] at hr;rw[Kc _ hw]
    match u,hr with
    | .atom _,hr=>omega
    | .int _,hr=>omega
    | .var _,hr=>omega
    | .comp _ [],hr=>omega
    | .comp _ [_],hr=>omega
    | .comp _ (_::_::_::_),hr=>omega
    | .comp name [a,b],hr=>
     simp only at hr ⊢;split at hr
     .rename_i c;rw[zip c];exact Out.yB (ih _ _) (fun p=>Out.yB (ih _ _) fun q=>Le.rfl) _ hr
     grind
def aGG{name:Bs}{args:List Tm}{s:Sr}:Le (xx f name args s) (xx (f+1) name args s):=by
 unfold xx;split
 .exact Le.rfl
 split
 .simp_all [SD]
 split
 .simp_all [Out.yB,SD,Le.rfl]
 split
 .simp_all [alQ]
 split
 .simp_all [Out.yB,acB,SD]
 split
 .intro r hr;cases hw:fG s.tr f (args.getD 0 default) with
  | none=>grind
  | some u=>rw[hw] at hr;rw[Kc _ hw];omega
 grind [Le.rfl,Out.yB,acB]
structure WLe(tr:Tr)(f:Nat):Prop where
 tm:∀ t l s,Le (lE tr f t l s) (lE tr (f+1) t l s)
 comp:∀ n a l s,Le (B8 tr f n a l s) (B8 tr (f+1) n a l s)
 args:∀ c a s,Le (uN tr f c a s) (uN tr (f+1) c a s)
 list:∀ c a b s,Le (yy tr f c a b s) (yy tr (f+1) c a b s)
def Le.many{α:Type}{F:Nat->Option α}(h:∀ f,Le (F f) (F (f+1)))(a:f<=g):Le (F f) (F g):=by
 obtain⟨k,rfl⟩:=Nat.le.dest a;induction k with
 | zero=>exact Le.rfl
 | succ k ih=>exact(ih (Nat.le_add_right _ _)).trans (h _)
end P
