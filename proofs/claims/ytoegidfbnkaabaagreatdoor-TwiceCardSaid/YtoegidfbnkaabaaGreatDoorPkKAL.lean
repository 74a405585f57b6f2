/- A part of one proof (PureW, PureW2, PureE, PureG, PureQ, ShL1, SX7, SX8, SX9, ShQ1, PureX). -/
import Derived.Test.YtoegidfbnkaabaaGreatDoorPkKAK
import Derived.WalkKit
import Derived.LaidEql
import Derived.Stop.Asserts
import Derived.RowKitTokens
set_option linter.all false
set_option maxRecDepth 100000
set_option maxHeartbeats 8000000
open Option renaming some → O, none → V
open Go renaming Value → Y, World → Z
open Bool renaming true → A, false → ae
open Go.Obj renaming cells → ah
open Go.Ending renaming returned → ai
open Go.Value renaming nilIface → aj, iface → ak, tuple → aq, pointer → au
open Option.some renaming injEq → a0z
open Nat renaming le_refl → a0D
open List renaming length_cons → a0J, length_nil → a0Z, mem_of_find?_eq_some → a1v, idxOf?_eq_some_iff → a3E
open Go.Sem renaming run_bind → a0L
open Go.World renaming cell?_alloc_lt → a1e, frozen?_alloc_old → a1C
open Go.Result renaming andThen → a1r
open Go renaming method → a6g
open Go.Proofs.Tryz renaming prog → bau
open Go.Proofs.Tryz
namespace Go.Proofs.YtoegidfbnkaabaaGreatDoor
variable{M k k' n nv:Nat}
namespace P
inductive Tm where
 | atom (s:Bs)
 | int (n:Int)
 | var (i:Nat)
 | comp (name:Bs) (args:List Tm)
deriving Inhabited
abbrev Tr:=List (Nat×Tm)
def look(i:Nat):Tr->Option Tm
 | []=>V
 | (j,t)::r=>if i=j then O t else look i r
def dR(tr:Tr):Nat->Tm->Option Tm
 | f,.var i=>match look i tr with
  | none=>O (.var i)
  | some t=>match f with
   | 0=>V
   | f+1=>dR tr f t
 | _,t=>O t
def Bi:Nat->Nat->Bs
 | 0,_=>[]
 | f+1,n=>if n<10 then [UInt8.ofNat (48+n)] else Bi f (n / 10)++[UInt8.ofNat (48+n % 10)]
def gw(n:Nat):Bs:=Bi (n+1) n
def kX(n:Int):Bs:=if n<0 then 45::gw n.natAbs else gw n.natAbs
structure Ws where
 fuel:Nat
 out:Bs
 seen:List Nat
def jB(name:Bs)(n:Nat):Nat:=
 if n≠2 then 0 else if name=[43]\/name=[45] then 1 else if name=[42]\/name=[47,47]\/name=[109,111,100] then 2 else 0
def Wb(x:Option (Option Ws))(k:Ws->Option (Option Ws)):Option (Option Ws):=
 match x with
 | none=>V
 | some V=>O V
 | some (O s)=>k s
def Ws.add(s:Ws)(x:Bs):Ws:={ s with out:=s.out++x }
def SZ(s:Ws)(i:Nat):Ws:=
 match s.seen.idxOf? i with
 | some k=>s.add (95::gw (k+1))
 | none=>{ s with out:=s.out++95::gw (s.seen.length+1),seen:=s.seen++[i] }
mutual
def il (tr:Tr):Nat->Tm->Nat->Ws->Option (Option Ws)
 | 0,_,_,_=>V
 | f+1,t,least,s=>
  if s.fuel=0 then O V
  else match dR tr f t with
   | none=>V
   | some (.atom a)=>O (O ({ s with fuel:=s.fuel-1 }.add a))
   | some (.int n)=>O (O ({ s with fuel:=s.fuel-1 }.add (kX n)))
   | some (.var i)=>O (O (SZ { s with fuel:=s.fuel-1 } i))
   | some (.comp name args)=>nM tr f name args least { s with fuel:=s.fuel-1 }
 termination_by structural f=>f
def nM (tr:Tr):Nat->Bs->List Tm->Nat->Ws->Option (Option Ws)
 | 0,_,_,_,_=>V
 | f+1,name,args,least,s=>
  match args with
  | [a,b]=>
   if jB name 2≠0 then
    if jB name 2<least then
     Wb (il tr f a (jB name 2) (s.add [40])) fun s=>Wb (il tr f b (jB name 2+1) (s.add (if name=[109,111,100] then [32,109,111,100,32] else name))) fun s=>O (O (s.add [41]))
    else Wb (il tr f a (jB name 2) s) fun s=>il tr f b (jB name 2+1) (s.add (if name=[109,111,100] then [32,109,111,100,32] else name))
   else if name=[46] then mg tr f 91 a b s
   else Wb (nN tr f 40 [a,b] (s.add name)) fun s=>O (O (s.add [41]))
  | _=>Wb (nN tr f 40 args (s.add name)) fun s=>O (O (s.add [41]))
 termination_by structural f=>f
def nN (tr:Tr):Nat->UInt8->List Tm->Ws->Option (Option Ws)
 | 0,_,_,_=>V
 | _+1,_,[],s=>O (O s)
 | f+1,sep,a::r,s=>Wb (il tr f a 0 (s.add [sep])) fun s=>nN tr f 44 r s
 termination_by structural f=>f
def mg (tr:Tr):Nat->UInt8->Tm->Tm->Ws->Option (Option Ws)
 | 0,_,_,_,_=>V
 | f+1,sep,a,b,s=>
  Wb (il tr f a 0 (s.add [sep])) fun s=>
   match dR tr f b with
   | none=>V
   | some (.comp name args)=>match args with
    | [c,d]=>if name=[46] then mg tr f 44 c d s else Wb (il tr f b 0 (s.add [124])) fun s=>O (O (s.add [93]))
    | _=>Wb (il tr f b 0 (s.add [124])) fun s=>O (O (s.add [93]))
   | some (.atom x)=>if x=[91,93] then O (O (s.add [93])) else Wb (il tr f b 0 (s.add [124])) fun s=>O (O (s.add [93]))
   | some _=>Wb (il tr f b 0 (s.add [124])) fun s=>O (O (s.add [93]))
 termination_by structural f=>f
end
mutual
def made (vs:List Nat):Ex->Tm
 | .mk kind name n k args=>if kind=97 then .atom name else if kind=110 then .int n else if kind=118 then .var (vs.getD k 0) else .comp name (oq vs args)
 termination_by structural x=>x
def oq (vs:List Nat):List Ex->List Tm
 | []=>[]
 | x::xs=>made vs x::oq vs xs
 termination_by structural x=>x
end
mutual
def er:Tm->Prop
 | .atom s=>s.length<=20/\s≠[]
 | .int n=>-9223372036854775808<=n/\n<=9223372036854775807
 | .var _=>True
 | .comp name args=>name.length<=20/\args.length<=100000/\iX args
 termination_by structural t=>t
def iX:List Tm->Prop
 | []=>True
 | t::a=>er t/\iX a
 termination_by structural t=>t
end
def mh:Tr->Prop
 | []=>True
 | (_,t)::r=>er t/\mh r
def look_ok:∀ {tr:Tr} {i:Nat} {t:Tm},mh tr->look i tr=O t->er t
 | [],_,_,_,h=>by cases h
 | (j,u)::r,i,t,h,a=>by
  unfold look at a;split at a
  .injection a with a;subst a;exact h.1
  .exact look_ok h.2 a
def vq{tr:Tr}(h:mh tr):∀ {f:Nat} {t a:Tm},er t->dR tr f t=O a->er a
 | f,.atom s,a,ht,hw=>by simp_all [dR]
 | f,.int s,a,ht,hw=>by simp_all [dR]
 | f,.comp s l,a,ht,hw=>by simp_all [dR]
 | 0,.var i,a,ht,hw=>by
  grind [dR]
 | f+1,.var i,a,ht,hw=>by
  simp only[dR] at hw;split at hw
  .grind
  .rename_i t b;exact vq h (look_ok h b) hw
def acQ(n:Nat):∀ k,n<10 ^ (k+1)->∀ f,n<f->(Bi f n).length<=k+1:=by
 intro k;induction k generalizing n with
 | zero=>
  intro h f a;cases f with
  | zero=>omega
  | succ f=>simp_all [Bi,zip]
 | succ k ih=>
  intro h f a;cases f with
  | zero=>omega
  | succ f=>
   grind [Bi,List.length_append,Nat.pow_succ,a0J,a0Z]
theorem al3(h:n<10000000000000000000):(gw n).length<=19:=acQ n 18 zo _ zo
theorem aG5{n:Int}(a:-9223372036854775808<=n)(b:n<=9223372036854775807):(kX n).length<=20:=by
 grind [gw,al3,kX]
def Ws.cW(s:Ws):Nat:=s.out.length+60*s.fuel
structure Ws.Ok(s:Ws):Prop where
 big:s.cW<=900000000
 seen:s.seen.length<=s.out.length
theorem Ws.pj(s:Ws)(x:Bs):(s.add x).cW=s.cW+x.length:=by grind [Ws.cW,Ws.add]
def Bj{x:Option (Option Ws)}{k:Ws->Option (Option Ws)}{r:Ws}(h:Wb x k=O (O r)):∃ s,x=O (O s)/\k s=O (O r):=by
 unfold Wb at h;grind
structure aG6(tr:Tr)(f:Nat):Prop where
 tm:∀ t least s r,er t->s.cW<=900000100->s.seen.length<=s.out.length->il tr f t least s=O (O r)->r.cW+30<=s.cW/\r.seen.length<=r.out.length
 comp:∀ name args least s r,er (.comp name args)->s.cW<=900000100-60->s.seen.length<=s.out.length->nM tr f name args least s=O (O r)->r.cW<=s.cW+21/\r.seen.length<=r.out.length
 args:∀ c l s r,iX l->s.cW<=900000100-30->s.seen.length<=s.out.length->nN tr f c l s=O (O r)->r.cW<=s.cW/\r.seen.length<=r.out.length
 list:∀ c a b s r,er a->er b->s.cW<=900000100-30->s.seen.length<=s.out.length->mg tr f c a b s=O (O r)->r.cW<=s.cW/\r.seen.length<=r.out.length
theorem MY{a b:Tm}(h:iX [a,b]):er a/\er b:=by
 simp_all [iX]
theorem oL{s:Ws}{x:Bs}(h:s.seen.length<=s.out.length):(s.add x).seen.length<=(s.add x).out.length:=by grind [Ws.add]
def Km{tr:Tr}(ht:mh tr):∀ f,aG6 tr f
 | 0=>⟨fun _ _ _ _ _ _ _ h=>by simp_all [il],fun _ _ _ _ _ _ _ _ h=>by simp_all [nM],fun _ _ _ _ _ _ _ h=>by simp_all [nN],fun _ _ _ _ _ _ _ _ _ h=>by simp_all [mg]⟩
 | f+1=>by
  have ih:=Km ht f;refine⟨?_,?_,?_,?_⟩
  .intro t least s r i m j h;rw[il] at h;split at h
   .grind
   rename_i C;have D:({ s with fuel:=s.fuel-1 }:Ws).cW+60=s.cW:=by grind [Ws.cW]
   split at h
   .grind
   .rename_i a hw;have:=vq ht i hw;grind [a0z,er,oL,Ws.pj]
   .rename_i a hw;have:=vq ht i hw;grind [a0z,er,aG5,oL,Ws.pj]
   .grind [a0z,Ws.cW,SZ,a3E,al3,oL,Ws.pj,a0J,gw,List.length_append,a0Z]
   .rename_i name args hw;have g:=vq ht i hw;obtain⟨e,k⟩:=ih.comp name args least { s with fuel:=s.fuel-1 } r g zo j h;omega
  .intro name args least s r i m j h;rw[nM.eq_def] at h;dsimp only at h;unfold er at i;obtain⟨E,q,n⟩:=i;have F:∀ l,iX l->Wb (nN tr f 40 l (s.add name)) (fun s=>O (O (s.add [41])))=O (O r)->r.cW<=s.cW+21/\r.seen.length<=r.out.length:=by
    intro l q h;obtain⟨s1,g,e⟩:=Bj h;obtain⟨k,u⟩:=ih.args 40 l _ s1 q (by grind [Ws.pj]) (oL j) g;grind [a0z,Ws.pj,oL]
   split at h
   .rename_i a b;obtain⟨o,p⟩:=MY n;have G:(if name=[109,111,100] then([32,109,111,100,32]:Bs) else name).length<=20:=zg;split at h
    .split at h
     .obtain⟨s1,g,e⟩:=Bj h;obtain⟨s2,k,u⟩:=Bj e;obtain⟨g1,g2⟩:=ih.tm a _ _ s1 o (by grind [Ws.pj]) (oL j) g;rw[Ws.pj] at g1;simp only[a0J,a0Z] at g1;obtain⟨g3,g4⟩:=ih.tm b _ _ s2 p (by grind [Ws.pj]) (oL g2) k;grind [Ws.pj,a0z,oL]
     .obtain⟨s1,g,e⟩:=Bj h;obtain⟨g1,g2⟩:=ih.tm a _ _ s1 o zo j g;obtain⟨g3,g4⟩:=ih.tm b _ _ r p (by grind [Ws.pj]) (oL g2) e;grind [Ws.pj]
    .split at h
     .obtain⟨g1,g2⟩:=ih.list 91 a b s r o p zo j h;omega
     grind
   grind
  .intro c l s r i m j h;cases l with
   | nil=>
    simp_all [nN,a0z,a0D]
   | cons a l=>
    rw[nN] at h;unfold iX at i;obtain⟨s1,g,e⟩:=Bj h;obtain⟨g1,g2⟩:=ih.tm a _ _ s1 i.1 (by grind [Ws.pj]) (oL j) g;rw[Ws.pj] at g1;simp only[a0J,a0Z] at g1;obtain⟨g3,g4⟩:=ih.args 44 l s1 r i.2 zo g2 e;omega
  .intro c a b s r n w m j h;rw[mg] at h;obtain⟨s1,g,e⟩:=Bj h;obtain⟨g1,g2⟩:=ih.tm a _ _ s1 n (by grind [Ws.pj]) (oL j) g;rw[Ws.pj] at g1;simp only[a0J,a0Z] at g1;have y:Wb (il tr f b 0 (s1.add [124])) (fun s=>O (O (s.add [93])))=O (O r)->r.cW<=s.cW/\r.seen.length<=r.out.length:=by
    intro h;obtain⟨s2,k,u⟩:=Bj h;obtain⟨g3,g4⟩:=ih.tm b _ _ s2 w (by grind [Ws.pj]) (oL g2) k;grind [Ws.pj,a0J,a0Z,a0z,oL]
   split at e
   .grind
   .rename_i name args hw;have x:=vq ht w hw;unfold er at x;split at e
    .rename_i c d;obtain⟨z,B⟩:=MY x.2.2;split at e
     .obtain⟨g3,g4⟩:=ih.list 44 c d s1 r z B zo g2 e;omega
     grind
    grind
   .grind [a0z,Ws.pj,oL]
   grind
def aG7{w:Bs}(h:se w≠0):w.length<=9:=by
 unfold se at h;grind
def aG8{s:Bs}(hm:s∈oC):s.length<=9:=by
 simp only[oC,List.mem_cons,List.not_mem_nil,or_false] at hm;rcases hm with rfl | rfl | rfl | rfl | rfl | rfl | rfl | rfl | rfl | rfl | rfl | rfl | rfl | rfl | rfl | rfl | rfl | rfl | rfl | rfl | rfl | rfl | rfl<;>decide
def MZ:∀ (f:Nat) (r:Bs) (i:Nat) (T:List Tok),oD f r i=O (.inr T)->∀ u∈T,u.text.length<=9
 | 0,r,i,T,h=>by simp_all [oD]
 | f+1,[],i,T,h=>by
  rw[oD] at h;grind
 | f+1,c::r,i,T,h=>by
  have key:∀ (x:Option (Sum Nat (List Tok))) (t:Tok),(∀ l,x=O (.inr l)->∀ u∈l,u.text.length<=9)->t.text.length<=9 ->
    (match x with | some (.inr l)=>O (.inr (t::l)) | y=>y)=O (.inr T)->∀ u∈T,u.text.length<=9:=by
   grind
  rw[oD] at h;split at h
  .exact MZ f r (i+1) T h
  split at h
  .dsimp only at h;split at h
   .grind
   .rename_i d hw;exact key _ _ (fun l a=>MZ f _ _ l a) (aG7 hw) h
  split at h
  .exact key _ _ (fun l a=>MZ f _ _ l a) zs h
  split at h
  .grind
  .rename_i s b;exact key _ _ (fun l a=>MZ f _ _ l a) (aG8 (a1v b)) h
mutual
def iH:Ex->Nat
 | .mk _ _ _ _ args=>fL args+1
 termination_by structural x=>x
def fL:List Ex->Nat
 | []=>0
 | x::xs=>iH x+fL xs
 termination_by structural x=>x
end
def acR:∀ (a b:List Ex),fL (a++b)=fL a+fL b
 | [],b=>by simp [fL]
 | x::a,b=>by simp [fL,acR a b];omega
mutual
def ir (nv:Nat):Ex->Prop
 | .mk kind name n k args=>name.length<=9/\(-999999999<=n/\n<=999999999)/\(kind=97\/kind=110\/kind=118\/kind=99)/\(kind=118->k<nv)/\(args.length<=4/\(kind=99->args≠[]))/\(kind=97->name≠[])/\(kind≠99->args=[])/\fg nv args
 termination_by structural x=>x
def fg (nv:Nat):List Ex->Prop
 | []=>True
 | x::xs=>ir nv x/\fg nv xs
 termination_by structural x=>x
end
mutual
theorem ir.mono {n m:Nat} (h:n<=m):∀ (x:Ex),ir n x->ir m x
 | .mk kind name k v args,hx=>by
  unfold ir at hx ⊢;obtain⟨a,b,c,d,f,g,i,j⟩:=hx;exact⟨a,b,c,fun e=>Nat.lt_of_lt_of_le (d e) h,f,g,i,fg.mono h args j⟩
 termination_by structural x=>x
theorem fg.mono {n m:Nat} (h:n<=m):∀ (l:List Ex),fg n l->fg m l
 | [],hx=>by simp_all [fg]
 | x::xs,hx=>by
  unfold fg at hx ⊢;exact⟨ir.mono h x hx.1,fg.mono h xs hx.2⟩
 termination_by structural x=>x
end
def fg.append{n:Nat}:∀ {a b:List Ex},fg n a->fg n b->fg n (a++b)
 | [],b,_,c=>c
 | x::a,b,d,c=>by
  show fg n (x::(a++b));unfold fg at d ⊢;exact⟨d.1,fg.append d.2 c⟩
def fg.snoc{a:List Ex}{x:Ex}(b:fg n a)(hx:ir n x):fg n (a++[x]):=b.append (by simp_all [fg])
theorem fg.nil:fg n []:=by simp_all [fg]
theorem fg.at{n:Nat}:∀ {l:List Ex} {j:Nat},fg n l->(a:j<l.length)->ir n l[j]
 | x::xs,0,h,_=>by simp_all [fg]
 | x::xs,j+1,h,a=>by unfold fg at h;exact fg.at h.2 zg
theorem ir.two{name:Bs}{a b:Ex}(c:name.length<=9)(d:ir nv a)(e:ir nv b):ir nv (.mk 99 name 0 0 [a,b]):=by
 simp_all [ir,fg,fg.nil]
theorem al4{name:Bs}{a b:Ex}:iH (.mk k name 0 0 [a,b])=iH a+iH b+1:=by simp [iH,fL]
def aG9{l:Nat}{T:List Tok}{o:Bs}(h:Rw T l k=O o):o.length<=9:=by
 have hm:=a1v h;grind [ops]
structure Cq(T:List Tok):Prop where
 len:∀ u∈T,u.text.length<=9
 word:∀ u∈T,u.kind=1->u.text≠[]
 digits:∀ u∈T,u.kind=3->u.text.all digit=A
def WO{T:List Tok}(h:(tk T k).kind≠0):tk T k∈T:=by
 grind [Nat.lt_or_ge,absurd,tk,List.getElem?_eq_none,List.getElem?_eq_getElem,List.getElem_mem]
def aHa{t:Tok}{v v':List Bs}{x:Ex}(h:xA t k v = .ok x k' v'):ir v'.length x/\v.length<=v'.length/\k'=k/\iH x=1:=by
 unfold xA at h;split at h
 .rename_i j e;injection h with a b c;subst a b c;have d:j<v.length:=by
   grind [a3E]
  refine⟨?_,a0D _,J,by simp [iH,fL]⟩;unfold ir;exact⟨zs,zo,zs,fun _=>d,zs,zs,zs,fg.nil⟩
 .split at h
  .grind
  .injection h with a b c;subst a b c;refine⟨?_,zs,J,by simp [iH,fL]⟩;unfold ir;exact⟨zs,zo,zs,fun _=>zs,zs,zs,zs,fg.nil⟩
theorem acS{nv:Nat}{x:Ex}(hx:ir nv x):∀ {all:List Ex},fg nv all->ir nv (Dh all x)/\iH (Dh all x)=fL all+all.length+iH x
 | [],_=>⟨hx,by simp [Dh,fL]⟩
 | a::l,h=>by
  unfold fg at h;obtain⟨b,c⟩:=acS hx h.2;grind [ir.two,iH,Dh,al4,fL]
theorem al5:ir nv (.mk 97 [91,93] 0 0 []):=by
 simp_all [ir,fg.nil]
structure EOk(T:List Tok)(f:Nat):Prop where
 B7:∀ k v d x k' v',oE T f k v d=O (.ok x k' v')->ir v'.length x/\v.length<=v'.length/\k+iH x<=k'
 args:∀ k v d a acc x k' v',fg v.length acc->nW T f k v d a acc=O (.ok x k' v')->fg v'.length x/\v.length<=v'.length/\k+fL x<=k'+fL acc/\x.length<=4/\x≠[]
 list:∀ k v d x k' v',pE T f k v d=O (.ok x k' v')->ir v'.length x/\v.length<=v'.length/\k+iH x<=k'+1
 elems:∀ k v d acc x k' v',fg v.length acc->qk T f k v d acc=O (.ok x k' v')->fg v'.length x/\v.length<=v'.length/\k+fL x+x.length<=k'+fL acc+acc.length+1
 oper:∀ l k v d x k' v',jl T f l k v d=O (.ok x k' v')->ir v'.length x/\v.length<=v'.length/\k+iH x<=k'
 more:∀ l y k v d x k' v',ir v.length y->oT T f l y k v d=O (.ok x k' v')->ir v'.length x/\v.length<=v'.length/\k+iH x<=k'+iH y
def Pk{T:List Tok}(g:Cq T):∀ f,EOk T f
 | 0=>⟨by simp_all [oE],by simp_all [nW],by simp_all [pE],by simp_all [qk],by simp_all [jl],by simp_all [oT]⟩
 | f+1=>by
  have ih:=Pk g f;refine⟨?_,?_,?_,?_,?_,?_⟩
  .intro k v d x k' v' h;rw[oE] at h;split at h
   .grind
   split at h
   .rename_i hk;simp only[a0z,cg.ok.injEq] at h;obtain⟨rfl,rfl,rfl⟩:=h;have hm:=WO (T:=T) (k:=k) zo;obtain⟨a,b⟩:=ZS (g.digits _ hm hk) (g.len _ hm);refine⟨?_,a0D _,by simp [iH,fL]⟩;grind [ir,fg.nil]
   split at h
   .simp only[a0z] at h;obtain⟨e,c,rfl,n⟩:=aHa h;grind
   split at h
   .rename_i hk;have hm:=WO (T:=T) (k:=k) zo;split at h
    .obtain⟨a,i,v1,e,c⟩:=ek h;obtain⟨g1,g2,g3,g4⟩:=ih.args _ _ _ _ _ _ _ _ fg.nil e;obtain⟨rfl,rfl,rfl⟩:=od c;refine⟨?_,g2,by grind [iH,fL]⟩;unfold ir;exact⟨g.len _ hm,zo,zs,zs,⟨g4.1,fun _=>g4.2⟩,zs,zs,g1⟩
    .simp only[a0z,cg.ok.injEq] at h;obtain⟨rfl,rfl,rfl⟩:=h;refine⟨?_,a0D _,by simp [iH,fL]⟩;unfold ir;exact⟨g.len _ hm,zo,zs,zs,zs,fun _=>g.word _ hm hk,zs,fg.nil⟩
   split at h
   .split at h
    .rename_i hk;simp only[a0z,cg.ok.injEq] at h;obtain⟨rfl,rfl,rfl⟩:=h;have hm:=WO (T:=T) (k:=k+1) zo;obtain⟨a,b⟩:=ZS (g.digits _ hm hk) (g.len _ hm);refine⟨?_,a0D _,by simp [iH,fL]⟩;grind [ir,fg.nil]
    grind
   split at h
   .obtain⟨a,i,v1,e,c⟩:=ek h;obtain⟨g1,g2,g3⟩:=ih.oper _ _ _ _ _ _ _ e;obtain⟨rfl,rfl,rfl⟩:=od c;grind
   split at h
   .obtain⟨g1,g2,g3⟩:=ih.list _ _ _ _ _ _ h;grind
   grind
  .intro k v d a acc x k' v' j h;rw[nW] at h;obtain⟨y,i,v1,e,c⟩:=ek h;obtain⟨g1,g2,g3⟩:=ih.oper _ _ _ _ _ _ _ e;have m:=(fg.mono g2 _ j).snoc g1;have p:fL (acc++[y])=fL acc+iH y:=by simp_all [acR,fL]
   split at c
   .obtain⟨q1,q2,q3,q4⟩:=ih.args _ _ _ _ _ _ _ _ m c;grind
   .split at c
    .grind
    .rename_i q;simp only[a0z,cg.ok.injEq] at c;obtain⟨rfl,rfl,rfl⟩:=c;grind [VG]
  .intro k v d x k' v' h;rw[pE] at h;split at h
   .simp only[a0z,cg.ok.injEq] at h;obtain⟨rfl,rfl,rfl⟩:=h;simp_all [al5,a0D,iH,fL]
   .obtain⟨all,i,v1,e,c⟩:=ek h;obtain⟨g1,g2,g3⟩:=ih.elems _ _ _ _ _ _ _ fg.nil e;simp [fL] at g3;split at c
    .obtain⟨y,u,v2,r,n⟩:=ek c;obtain⟨q1,q2,q3⟩:=ih.oper _ _ _ _ _ _ _ r;obtain⟨rfl,rfl,rfl⟩:=od n;grind [acS,fg.mono]
    .obtain⟨rfl,rfl,rfl⟩:=od c;grind [acS,al5,iH,fL]
  .intro k v d acc x k' v' j h;rw[qk] at h;obtain⟨y,i,v1,e,c⟩:=ek h;obtain⟨g1,g2,g3⟩:=ih.oper _ _ _ _ _ _ _ e;have m:=(fg.mono g2 _ j).snoc g1;have p:fL (acc++[y])=fL acc+iH y:=by simp_all [acR,fL]
   have q:(acc++[y]).length=acc.length+1:=zs;split at c
   .obtain⟨q1,q2,q3⟩:=ih.elems _ _ _ _ _ _ _ m c;grind
   grind
  .intro l k v d x k' v' h;rw[jl] at h;split at h
   .exact ih.B7 _ _ _ _ _ _ h
   .obtain⟨y,i,v1,e,c⟩:=ek h;obtain⟨g1,g2,g3⟩:=ih.oper _ _ _ _ _ _ _ e;obtain⟨q1,q2,q3⟩:=ih.more _ _ _ _ _ _ _ _ g1 c;grind
  .intro l y k v d x k' v' s h;rw[oT] at h;split at h
   .grind
   .rename_i o t;obtain⟨z,i,v1,e,c⟩:=ek h;obtain⟨g1,g2,g3⟩:=ih.oper _ _ _ _ _ _ _ e;obtain⟨q1,q2,q3⟩:=ih.more _ _ _ _ _ _ _ _ (ir.two (aG9 t) (ir.mono g2 _ s) g1) c;grind [al4]
mutual
theorem WQ {nv:Nat} (vs:List Nat):∀ (x:Ex),ir nv x->er (made vs x)
 | .mk kind name n k args,h=>by
  unfold ir at h;obtain⟨a,b,d,e,f,g,i,c⟩:=h;unfold made;split
  .grind [er]
  .split
   .grind [er]
   .split
    .simp_all [er]
    .unfold er;have:=IA vs args c;grind
 termination_by structural x=>x
theorem IA {nv:Nat} (vs:List Nat):∀ (l:List Ex),fg nv l->iX (oq vs l)/\(oq vs l).length=l.length
 | [],_=>by unfold oq iX;exact⟨trivial,J⟩
 | x::xs,h=>by
  unfold fg at h;have a:=WQ vs x h.1;have b:=IA vs xs h.2;simp_all [oq,iX]
 termination_by structural x=>x
end
structure LeT(T:List Tok)(f:Nat):Prop where
 B7:∀ k v d x k' v',oE T f k v d=O (.ok x k' v')->k'<=T.length
 args:∀ k v d a acc x k' v',nW T f k v d a acc=O (.ok x k' v')->k'<=T.length
 list:∀ k v d x k' v',pE T f k v d=O (.ok x k' v')->k'<=T.length
 elems:∀ k v d acc x k' v',qk T f k v d acc=O (.ok x k' v')->k'<=T.length
 oper:∀ l k v d x k' v',jl T f l k v d=O (.ok x k' v')->k'<=T.length
 more:∀ l y k v d x k' v',k<=T.length->oT T f l y k v d=O (.ok x k' v')->k'<=T.length
def S0{α:Type}{T:List Tok}{s:Bs}{x y:α}{v v':List Bs}(h:mw T s x k v=O (.ok y k' v')):k'<=T.length:=by
 unfold mw at h;split at h
 .rename_i a;have:=xR a;grind
 grind
def WS(T:List Tok):∀ f,LeT T f
 | 0=>⟨by simp_all [oE],by simp_all [nW],by simp_all [pE],by simp_all [qk],by simp_all [jl],by simp_all [oT]⟩
 | f+1=>by
  have ih:=WS T f;refine⟨?_,?_,?_,?_,?_,?_⟩
  .intro k v d x k' v' h;rw[oE] at h;split at h
   .grind
   split at h
   .rename_i hk;have:=MR (T:=T) (k:=k) zo;grind
   split at h
   .rename_i hk;have:=MR (T:=T) (k:=k) zo;grind [a0z,ake]
   split at h
   .rename_i hk;have:=MR (T:=T) (k:=k) zo;split at h
    .obtain⟨a,e,v1,c,b⟩:=ek h;exact S0 b
    grind
   split at h
   .split at h
    .rename_i hk;have:=MR (T:=T) (k:=k+1) zo;grind
    grind
   split at h
   .obtain⟨a,e,v1,c,b⟩:=ek h;exact S0 b
   split at h
   .exact ih.list _ _ _ _ _ _ h
   grind
  .intro k v d a acc x k' v' h;rw[nW] at h;obtain⟨y,e,v1,c,b⟩:=ek h;split at b
   .exact ih.args _ _ _ _ _ _ _ _ b
   .split at b
    .grind
    .simp only[a0z,cg.ok.injEq] at b;have:=ih.oper _ _ _ _ _ _ _ c;omega
  .intro k v d x k' v' h;rw[pE] at h;split at h
   .rename_i g;have:=xR g;grind
   .obtain⟨all,e,v1,c,b⟩:=ek h;split at b
    .obtain⟨y,j,v2,m,i⟩:=ek b;exact S0 i
    .exact S0 b
  .intro k v d acc x k' v' h;rw[qk] at h;obtain⟨y,e,v1,c,b⟩:=ek h;split at b
   .exact ih.elems _ _ _ _ _ _ _ b
   .simp only[a0z,cg.ok.injEq] at b;have:=ih.oper _ _ _ _ _ _ _ c;omega
  .intro l k v d x k' v' h;rw[jl] at h;split at h
   .exact ih.B7 _ _ _ _ _ _ h
   .obtain⟨y,e,v1,c,b⟩:=ek h;exact ih.more _ _ _ _ _ _ _ _ (ih.oper _ _ _ _ _ _ _ c) b
  .intro l y k v d x k' v' hk h;rw[oT] at h;split at h
   .grind
   .obtain⟨z,e,v1,c,b⟩:=ek h;exact ih.more _ _ _ _ _ _ _ _ (ih.oper _ _ _ _ _ _ _ c) b
mutual
def eY (nv M:Nat):Bd->Prop
 | .mk kind name args parts=>name.length<=9/\(kind=33\/kind=44\/kind=59\/kind=63\/kind=126\/kind=103)/\((kind=59->parts.length=2)/\(kind=63->parts.length=3)/\(kind=126->parts.length=1)) /\
  args.length<=4/\fg nv args/\fL args<=M/\parts.length<=M/\fc nv M parts
 termination_by structural x=>x
def fc (nv M:Nat):List Bd->Prop
 | []=>True
 | x::xs=>eY nv M x/\fc nv M xs
 termination_by structural x=>x
end
mutual
theorem eY.mono {n m M:Nat} (h:n<=m):∀ (x:Bd),eY n M x->eY m M x
 | .mk kind name args parts,hx=>by
  unfold eY at hx ⊢;obtain⟨a,b,c,d,e,f,g,i⟩:=hx;exact⟨a,b,c,d,fg.mono h args e,f,g,fc.mono h parts i⟩
 termination_by structural x=>x
theorem fc.mono {n m M:Nat} (h:n<=m):∀ (l:List Bd),fc n M l->fc m M l
 | [],hx=>by simp_all [fc]
 | x::xs,hx=>by
  unfold fc at hx ⊢;exact⟨eY.mono h x hx.1,fc.mono h xs hx.2⟩
 termination_by structural x=>x
end
theorem fc.nil:fc n M []:=by simp_all [fc]
def fc.snoc{n M:Nat}{x:Bd}(hx:eY n M x):∀ {a:List Bd},fc n M a->fc n M (a++[x])
 | [],_=>by simp_all [fc,fc.nil]
 | y::a,h=>by
  show fc n M (y::(a++[x]));unfold fc at h ⊢;exact⟨h.1,fc.snoc hx h.2⟩
theorem fc.at{n M:Nat}:∀ {l:List Bd} {j:Nat},fc n M l->(a:j<l.length)->eY n M l[j]
 | x::xs,0,h,_=>by simp_all [fc]
 | x::xs,j+1,h,a=>by unfold fc at h;exact fc.at h.2 zg
theorem acT:eY n M yA:=by simp_all [yA,eY,fg.nil,fL,fc.nil]
def aHd:eY n M OH:=by simp_all [OH,eY,fg.nil,fL,fc.nil]
def fc.one{a:Bd}(h:eY n M a):fc n M [a]:=by simp_all [fc,fc.nil]
def fc.cons{a:Bd}{l:List Bd}(h:eY n M a)(b:fc n M l):fc n M (a::l):=by simp_all [fc]
def al6:∀ (x:Ex),1<=iH x
 | .mk ..=>by simp [iH]
def aHe{T:List Tok}{c:Bs}(h:LY T k=O c):c.length<=9/\k<T.length:=by
 unfold LY at h;have hm:=a1v h;refine⟨?_,xR (List.find?_some h)⟩;simp only[LX,List.mem_cons,List.not_mem_nil,or_false] at hm;grind
structure BOk(T:List Tok)(f:Nat):Prop where
 lit:∀ k v d x k' v',mL T f k v d=O (.ok x k' v')->eY v'.length T.length x/\v.length<=v'.length/\k+1<=k'/\k'<=T.length
 lits:∀ k v d acc x k' v',fc v.length T.length acc->oF T f k v d acc=O (.ok x k' v')->fc v'.length T.length x/\v.length<=v'.length/\k+x.length<=k'+acc.length/\k'<=T.length/\k+1<=k'
 row:∀ k v d x k' v',ng T f k v d=O (.ok x k' v')->eY v'.length T.length x/\v.length<=v'.length/\k+1<=k'/\k'<=T.length
 rest:∀ k v d x k' v',oG T f k v d=O (.ok x k' v')->eY v'.length T.length x/\v.length<=v'.length/\k+1<=k'/\k'<=T.length
 body:∀ k v d x k' v',lM T f k v d=O (.ok x k' v')->eY v'.length T.length x/\v.length<=v'.length/\k+1<=k'/\k'<=T.length
theorem aHg{a b:Bd}(e:3<=M)(c:eY nv M a)(d:eY nv M b):eY nv M (.mk 59 [] [] [a,b]):=by
 unfold eY;exact⟨zs,zs,zs,zs,fg.nil,by simp [fL],zg,.cons c (.one d)⟩
theorem al7{a b c:Bd}(g:3<=M)(d:eY nv M a)(e:eY nv M b)(f:eY nv M c):eY nv M (.mk 63 [] [] [a,b,c]):=by
 unfold eY;exact⟨zs,zs,zs,zs,fg.nil,by simp [fL],zo,.cons d (.cons e (.one f))⟩
def WT{T:List Tok}(o:Cq T):∀ f,BOk T f
 | 0=>⟨by simp_all [mL],by simp_all [oF],by simp_all [ng],by simp_all [oG],by simp_all [lM]⟩
 | f+1=>by
  have ih:=WT o f;refine⟨?_,?_,?_,?_,?_⟩
  .intro k v d x k' v' h;rw[mL] at h;split at h
   .grind
   split at h
   .rename_i r;have hlt:=xR r;simp only[a0z,cg.ok.injEq] at h;obtain⟨rfl,rfl,rfl⟩:=h;refine⟨?_,a0D _,zo,zo⟩;simp_all [eY,fg.nil,fL,fc.nil]
   split at h
   .obtain⟨b,m,v1,g,e⟩:=ek h;obtain⟨g1,g2,g3,g4⟩:=ih.lit _ _ _ _ _ _ g;simp only[a0z,cg.ok.injEq] at e;obtain⟨rfl,rfl,rfl⟩:=e;refine⟨?_,g2,zo,g4⟩;unfold eY;exact⟨zs,zs,zs,zs,fg.nil,by simp [fL],zg,.one g1⟩
   split at h
   .obtain⟨b,m,v1,g,e⟩:=ek h;obtain⟨g1,g2,g3,g4⟩:=ih.body _ _ _ _ _ _ g;have hm:=S0 e;obtain⟨rfl,rfl,rfl⟩:=od e;grind
   .obtain⟨y,m,v1,g,e⟩:=ek h;obtain⟨g1,g2,g3⟩:=(Pk o f).oper _ _ _ _ _ _ _ g;have C:=al6 y;have s:=(WS T f).oper _ _ _ _ _ _ _ g;split at e
    .rename_i c t;obtain⟨D,c2⟩:=aHe t;obtain⟨z,p,v2,j,i⟩:=ek e;obtain⟨q1,q2,q3⟩:=(Pk o f).oper _ _ _ _ _ _ _ j;have E:=(WS T f).oper _ _ _ _ _ _ _ j;simp only[a0z,cg.ok.injEq] at i;obtain⟨rfl,rfl,rfl⟩:=i;grind [eY,fL,fc.nil,fg,ir.mono,fg.nil]
    .split at e
     .grind
     .split at e
      .grind
      .simp only[a0z,cg.ok.injEq] at e;obtain⟨rfl,rfl,rfl⟩:=e;refine⟨?_,g2,zo,s⟩;obtain⟨kind,name,n,F,args⟩:=y;unfold ir at g1;unfold eY;simp only[iH] at g3;exact⟨g1.1,zs,zs,g1.2.2.2.2.1.1,g1.2.2.2.2.2.2.2,by grind [Ex.args],zs,fc.nil⟩
  .intro k v d acc x k' v' u h;rw[oF] at h;obtain⟨y,m,v1,g,e⟩:=ek h;obtain⟨g1,g2,g3,g4⟩:=ih.lit _ _ _ _ _ _ g;have w:=fc.snoc g1 (fc.mono g2 _ u);split at e
   .obtain⟨q1,q2,q3,q4,G⟩:=ih.lits _ _ _ _ _ _ _ w e;grind
   grind
  .intro k v d x k' v' h;rw[ng] at h;obtain⟨l,m,v1,g,e⟩:=ek h;obtain⟨g1,g2,g3,g4,g5⟩:=ih.lits _ _ _ _ _ _ _ fc.nil g;simp only[a0z,cg.ok.injEq] at e;obtain⟨rfl,rfl,rfl⟩:=e;grind [a0Z,fc,eY,fg.nil,fL]
  .intro k v d x k' v' h;rw[oG] at h;split at h
   .grind
   .exact ih.body _ _ _ _ _ _ h
  .intro k v d x k' v' h;rw[lM] at h;obtain⟨a,m,v1,g,e⟩:=ek h;obtain⟨g1,g2,g3,g4⟩:=ih.row _ _ _ _ _ _ g;split at e
   .obtain⟨b,p,v2,j,i⟩:=ek e;obtain⟨q1,q2,q3,q4⟩:=ih.row _ _ _ _ _ _ j;split at i
    .obtain⟨c,H,v3,B,q⟩:=ek i;obtain⟨m1,m2,m3,m4⟩:=ih.rest _ _ _ _ _ _ B;simp only[a0z,cg.ok.injEq] at q;obtain⟨rfl,rfl,rfl⟩:=q;grind [al7,eY.mono]
    .simp only[a0z,cg.ok.injEq] at i;obtain⟨rfl,rfl,rfl⟩:=i;grind [al7,eY.mono,acT]
   .split at e
    .obtain⟨b,p,v2,j,i⟩:=ek e;obtain⟨q1,q2,q3,q4⟩:=ih.rest _ _ _ _ _ _ j;simp only[a0z,cg.ok.injEq] at i;obtain⟨rfl,rfl,rfl⟩:=i;grind [aHg,eY.mono]
    grind
def q8(T:List Tok):cg Bd:=
 match lM T (ur T) 0 [] 0 with
 | some (.ok b k vs)=>match mw T [46] b k vs with
  | some (.ok b k vs)=>if (tk T k).kind=0 then .ok b k vs else .err 2 (tk T k).pos
  | some (.err e a)=>.err e a
  | none=>.err 0 0
 | some (.err e a)=>.err e a
 | none=>.err 0 0
end P
open Go.Proofs.YtoegidfbnkaabaaGreatDoor.Sx
section
variable{p0 p1 p2 p3 p4 p5 p6 p7:Y}{w:Z}{R:Ending->Z->Prop}
def aHh:=cz w R [p0] (gc [] [] []) func12
def aHi:=cz w R [p0] (gc [] [] [12]) func22
end
open Go.RowKit Sx
def aHj(s:P.Bs)(w:Z)(g:s.length<=100000)(h:WJ w):Calls bau 28 #[aW s] w (WL w s):=by
 refine awM ?_;refine(aGZ s w g h).mono ?_;rintro e w1 ⟨f,d⟩;cases hr:P.program s with
 | err c a=>
  rw[hr] at d;obtain⟨b,rfl,i⟩:=d;refine bF ?_;refine⟨f,?_⟩;exact yH
 | ok cs k vs=>
  rw[hr] at d;obtain⟨v,vs,rfl,i,j⟩:=d;refine bF ?_;refine⟨f,?_⟩;exact yH
def aHk(w:Z)(s:P.Bs)(e:Ending)(w':Z):Prop:=
 Ext w w'/\match P.program s with
 | .err c a=>∃ b,e = ai (aq #[au V,ak 73 (au (O ⟨b,0,V⟩))])/\w'.heap[b]?=O (ah #[.int .i64 c,.int .i64 a] 77 (0,0))
 | .ok cs _ _=>∃ b v vs,e = ai (aq #[au (O ⟨b,0,V⟩),aj])/\w'.heap[b]?=O (ah #[v] 72 (0,0))/\Nu w w' b /\
  fO (Nu w w') w' 79 v vs/\kr (Nu w w') w' vs cs
def aHl(s:P.Bs)(w:Z)(h:s.length<=100000)(i:WJ w):Calls bau 22 #[aW s] w (aHk w s):=by
 refine aHi ?_;refine(aHj s w h i).mono ?_;rintro e w1 ⟨g,d⟩;have s1:=g.size;cases hr:P.program s with
 | err c a=>
  rw[hr] at d;obtain⟨b,rfl,f⟩:=d;refine bF ?_;refine⟨g,?_⟩;exact yH
 | ok cs k vs=>
  rw[hr] at d;obtain⟨v,vs,rfl,f,j⟩:=d;obtain⟨l,sn,m,rfl⟩:∃ a n c,v = .slice a n c:=by rcases f with⟨-,rfl⟩| ⟨b,cs',rfl,-⟩<;>exact zg
  refine bF ?_;refine⟨yF,?_⟩;rw[hr];refine⟨_,_,vs,J,yH,yH,f.mono (by grind [World.size_alloc]) yH,j.mono (by grind [World.size_alloc]) fun b cs t _ _ o=>yH⟩
open Go.Extern.Stop Go.Stop Go.Extern
def al8(t:Addr)(w:Z):(ReflectliteValue.unpack (ak 75 (au (O t)))).run bau w
 = .ok (.agg #[pq 12 75,pp w.heap.size,.int .u64 150]) (w.alloc (ah #[au (O t)] 75)):=zk
def al9(a:Addr)(w:Z):(ReflectliteValue.methodAny (ReflectliteValue.valueError "reflectlite.Value.Type" 0) (fun t _ _ _=>ReflectliteType.toType t) #[.agg #[pq 12 75,au (O a),.int .u64 150]]).run bau w
 = .ok (ak 219 (.agg #[pq 12 75])) w:=zk
def acU(h:Y)(w:Z):(a6g 476 219 (.agg #[h]) "Kind").run bau w = .ok (196,h) w:=zk
def ama(w:Z):((ReflectliteType.abiMethod fun t=>Functor.map (fun a:Nat=>Value.int IntKind.u8 (a:Int)) (Rtype.kind t)) #[pq 12 75]).run bau w = .ok (.int .u8 22) w:=zk
def amb(w:Z):((ReflectliteType.abiMethod fun t=>Functor.map (fun a:Nat=>Value.int IntKind.u8 (a:Int)) (Rtype.kind t)) #[pq 12 73]).run bau w = .ok (.int .u8 22) w:=zk
def WV(z:Sem Y)(f:TypeId->Addr->Nat->Nat->Sem Y)(v:Y) :
 ReflectliteValue.method z f #[v]=(do match <- ReflectliteValue.parts v with | none=>z | some (t,a,fl)=>f t a fl (fl % 32)):=rfl
def amc(a:Addr)(w:Z):(ReflectliteValue.parts (.agg #[pq 12 75,au (O a),.int .u64 150])).run bau w = .ok (O (75,a,150)) w:=zk
def amd(a p:Addr)(W:Z)(b:W.cell? a=O (au (O p))) :
  (ReflectliteValue.method (ReflectliteValue.valueError "reflectlite.Value.IsNil" 0) ReflectliteValue.isNil #[.agg #[pq 12 75,au (O a),.int .u64 150]]).run bau W = .ok (.bool ae) W:=by
 rw[WV];simp only[a0L,amc,a1r];simp [ReflectliteValue.isNil,loadVar,isAgg,underlying,underlying75,b,a1r]
def acV(h:Y)(w:Z):(a6g 476 219 (.agg #[h]) "Elem").run bau w = .ok (238,.agg #[h]) w:=zk
def acW(h:Y)(w:Z):(a6g 476 219 (.agg #[h]) "Implements").run bau w = .ok (239,.agg #[h]) w:=zk
def acX(h:Y)(w:Z):(a6g 476 219 (.agg #[h]) "AssignableTo").run bau w = .ok (236,.agg #[h]) w:=zk
def ame(w:Z):(ReflectliteType.method ReflectliteType.elem #[.agg #[pq 12 75]]).run bau w = .ok (ak 219 (.agg #[pq 12 73])) w:=zk
def amf(w:Z):(ReflectliteType.relation "Implements" ReflectliteType.implements_ #[.agg #[pq 12 73],ak 219 (.agg #[pq 12 57])]).run bau w = .ok (.bool A) w:=zk
def aHm(v:Y)(w:Z):(ReflectliteType.typeOf #[ak 73 v]).run bau w = .ok (ak 219 (.agg #[pq 12 73])) w:=zk
def aHn(w:Z):(ReflectliteType.relation "AssignableTo" ReflectliteType.assignableTo #[.agg #[pq 12 73],ak 219 (.agg #[pq 12 73])]).run bau w = .ok (.bool A) w:=zk
def aHo(e:Addr)(w:Z):(ReflectliteValue.unpack (ak 73 (au (O e)))).run bau w
 = .ok (.agg #[pq 12 73,pp w.heap.size,.int .u64 150]) (w.alloc (ah #[au (O e)] 73)):=zk
def aHp(w:Z):(Rtype.elem? 75).run bau w = .ok (O 73) w:=zk
def aHq(p:Addr)(w:Z):(ReflectliteValue.mk 73 p ReflectliteValue.flagAddr).run bau w = .ok (.agg #[pq 12 73,au (O p),.int .u64 406]) w:=zk
def aHr(a p:Addr)(W:Z)(b:W.cell? a=O (au (O p))) :
  (ReflectliteValue.method (ReflectliteValue.valueError "reflectlite.Value.Elem" 0) ReflectliteValue.elem #[.agg #[pq 12 75,au (O a),.int .u64 150]]).run bau W
   = .ok (.agg #[pq 12 73,au (O p),.int .u64 406]) W:=by
 rw[WV];simp only[a0L,amc,a1r];simp [ReflectliteValue.elem,loadVar,isAgg,underlying,underlying75,b,a1r,aHp,aHq]
def amg(v x:Y):ReflectliteValue.set #[v,x]=(do
 let (O (dst,a,fl),O (src,b,_)):=(<- ReflectliteValue.parts v,<- ReflectliteValue.parts x)
  | unsupported (.noEntry "extern/(internal/reflectlite.Value).Set.zeroValue")
 if fl / ReflectliteValue.flagAddr % 2 == 0 then unsupported (.noEntry "extern/(internal/reflectlite.Value).Set.unaddressable")
 let val <- loadVar src b
 if <- Rtype.directlyAssignable dst src then storeVar dst a val
 else if <- Rtype.implements dst src then
  if (<- Rtype.kind src) == 20 then
   match val with
   | aj=>unsupported (.noEntry "extern/reflectlite: a nil value of one interface type handed on as a value of another")
   | _=>storeVar dst a val
  else storeVar dst a (ak src val)
 else panicString ("reflectlite.Set: value of type "++(<- Rtype.spelt src)++ " is not assignable to type "++(<- Rtype.spelt dst))
 pure (aq #[])):=rfl
def aHs(a:Addr)(w:Z):(ReflectliteValue.parts (.agg #[pq 12 73,au (O a),.int .u64 406])).run bau w = .ok (O (73,a,406)) w:=zk
def aHt(a:Addr)(w:Z):(ReflectliteValue.parts (.agg #[pq 12 73,au (O a),.int .u64 150])).run bau w = .ok (O (73,a,150)) w:=zk
def aHu(w:Z):(Rtype.directlyAssignable 73 73).run bau w = .ok A w:=zk
def aHv(a b e:Addr)(c:Y)(W:Z)(d:W.cell? b=O (au (O e)))(ht:W.cell? a=O c)(f:W.frozen? a=ae) :
  (ReflectliteValue.set #[.agg #[pq 12 73,au (O a),.int .u64 406],.agg #[pq 12 73,au (O b),.int .u64 150]]).run bau W
   = .ok (aq #[]) (W.setCell a (au (O e))):=by
 rw[amg];simp only[a0L,aHs,aHt,a1r];simp [ReflectliteValue.flagAddr,loadVar,isAgg,underlying,underlying73,d,a1r,aHu,storeVar,Value.cells,storeCells,Addr.add];rw[run_store bau W a _ _ (by rfl)];grind
def aHw(e t:Addr)(E5:Y)(w:Z)(hg:w.cell? ⟨0,0,V⟩=O (ak 219 (.agg #[pq 12 57])))(Kn:w.cell? t=O E5)(Gm:w.frozen? t=ae) :
  Calls bau 29 #[ak 73 (au (O e)),ak 75 (au (O t))] w fun ev w'=>ev = ai (.bool A)/\w'=((((w.alloc (ah #[au (O t)] 75)).alloc (ah #[pq 12 75,pp w.heap.size,.int .u64 150] 158)).alloc (ah #[pq 12 75,pp w.heap.size,.int .u64 150] 158)).alloc (ah #[au (O e)] 73)).setCell t (au (O e)):=by
 have h6:=@run_callFunc_extern bau 54 _ (fun args=>ReflectliteValue.unpack (args.getD 0 (aq #[]))) func54 zk zk zk zk;have h7:=@run_callFunc_extern bau 55 _ (ReflectliteValue.methodAny (ReflectliteValue.valueError "reflectlite.Value.Type" 0) (fun t _ _ _=>ReflectliteType.toType t)) func55 zk zk zk zk;have h8:=@run_callFunc_extern bau 56 _ (ReflectliteValue.method (ReflectliteValue.valueError "reflectlite.Value.IsNil" 0) ReflectliteValue.isNil) func56 zk zk zk zk;have GC:=@run_callFunc_extern bau 196 _ (ReflectliteType.abiMethod fun t=>do pure (.int .u8 (<- Rtype.kind t))) func196 zk zk zk zk;have h37:=@run_callFunc_extern bau 238 _ (ReflectliteType.method ReflectliteType.elem) func238 zk zk zk zk;have h38:=@run_callFunc_extern bau 239 _ (ReflectliteType.relation "Implements" ReflectliteType.implements_) func239 zk zk zk zk;have tN:=@run_callFunc_extern bau 87 _ ReflectliteType.typeOf func87 zk zk zk zk;have yZ:=@run_callFunc_extern bau 236 _ (ReflectliteType.relation "AssignableTo" ReflectliteType.assignableTo) func236 zk zk zk zk;have GD:=@run_callFunc_extern bau 88 _ (ReflectliteValue.method (ReflectliteValue.valueError "reflectlite.Value.Elem" 0) ReflectliteValue.elem) func88 zk zk zk zk;have Ci:=@run_callFunc_extern bau 89 _ ReflectliteValue.set func89 zk zk zk zk;have tO:=aHm;have mA:=acX;have a25:=aHn;have v25:=aHo;have f6:=al8;have f7:=al9;have mK:=acU;have mE:=acV;have mI:=acW;have k27:=ama;have k25:=amb;have e27:=ame;have i25:=amf;have n8:=amd ⟨w.heap.size,0,V⟩ t ((w.alloc (ah #[au (O t)] 75)).alloc (ah #[pq 12 75,pp w.heap.size,.int .u64 150] 158)) zs;have hlt:0<w.heap.size:=by
  grind [Nat.eq_zero_or_pos,World.cell?]
 have jR:((w.alloc (ah #[au (O t)] 75)).alloc (ah #[pq 12 75,pp w.heap.size,.int .u64 150] 158)).cell? ⟨0,0,V⟩=O (ak 219 (.agg #[pq 12 57])):=by
  rw[a1e _ _ ⟨0,0,V⟩ zs,a1e _ _ ⟨0,0,V⟩ hlt];exact hg
 have tF:t.block<w.heap.size:=by
  grind [Nat.lt_or_ge,World.cell?,Array.getElem?_eq_none]
 have el:=aHr ⟨w.heap.size,0,V⟩ t (((w.alloc (ah #[au (O t)] 75)).alloc (ah #[pq 12 75,pp w.heap.size,.int .u64 150] 158)).alloc (ah #[pq 12 75,pp w.heap.size,.int .u64 150] 158)) (by rw[a1e _ _ ⟨w.heap.size,0,V⟩ (by simp;omega)];simp);have st:=aHv t ⟨w.heap.size+1+1+1,0,V⟩ e E5 ((((w.alloc (ah #[au (O t)] 75)).alloc (ah #[pq 12 75,pp w.heap.size,.int .u64 150] 158)).alloc (ah #[pq 12 75,pp w.heap.size,.int .u64 150] 158)).alloc (ah #[au (O e)] 73))
  (by rw[World.cell?_alloc_at _ _ _ _ zs];rfl)
  (by rw[a1e _ _ t (by simp;omega),a1e _ _ t (by simp;omega),a1e _ _ t (by simp;omega),a1e _ _ t tF];exact Kn)
  (by rw[a1C _ _ t (by simp;omega),a1C _ _ t (by simp;omega),a1C _ _ t (by simp;omega),a1C _ _ t (Nat.ne_of_lt tF)];exact Gm)
 go_enter func29,ntmps29
 go_wp2
 refine wp_loop_rounds 1 ?_;rw[rounds_succ]
 go_wp2
 go_ret
 exact⟨J,J⟩
end Go.Proofs.YtoegidfbnkaabaaGreatDoor
namespace Go.Proofs.YtoegidfbnkaabaaGreatDoor
open Go.RowKit Sx
def acY(w:Z):Calls bau 23 #[aj] w fun e w'=>Ext w w'/\e = ai (aq #[zi 0,zi (-1)]):=by
 refine aa6 ?_;refine bF ?_;exact yF
def Cr(w:Z):Prop:=w.cell? ⟨0,0,V⟩=O (ak 219 (.agg #[pq 12 57]))
theorem Cr.ext{w w':Z}(h:Cr w)(a:Ext w w'):Cr w':=Mo h (by grind [bD.ext])
def amt(b:Nat)(c a:Int)(w:Z)(g:w.heap[b]?=aP #[zi c,zi a] 77)(h:Cr w) :
  Calls bau 23 #[ak 73 (pp b)] w fun e w'=>Ext w w'/\e = ai (aq #[zi c,zi a]):=by
 refine aa6 ?_;refine bF ?_;obtain⟨d,i⟩:=ck ((w.alloc (ah #[au V] 73)).alloc (ah #[zi 0] 27));have j:Ext w d:=yF;have q0:d.heap[w.heap.size]?=aP #[au V] 73:=yH;rw[<- i];refine(aHw ⟨b,0,V⟩ ⟨w.heap.size,0,V⟩ _ d (h.ext j) (by simp [World.cell?,q0];rfl) (jO q0 0)).mono ?_;rintro e w3 ⟨rfl,f⟩;obtain⟨k,l⟩:=ck ((((d.alloc (ah #[pp w.heap.size] 75)).alloc (ah #[pq 12 75,pp d.heap.size,.int .u64 150] 158)).alloc (ah #[pq 12 75,pp d.heap.size,.int .u64 150] 158)).alloc (ah #[pp b] 73));rw[<- l] at f;have m:Ext d k:=yF;have n:=m.ext _ _ q0;rw[uZ n] at f;have o:Ext w w3:=by
  exact yF
 have q3:w3.heap[w.heap.size]?=aP #[pp b] 73:=by
  exact yH
 have q4:=o.ext _ _ g;refine dB @q3 @q4 ?_;exact yF
def aHy(w:Z)(s:P.Bs)(e:Ending)(w':Z):Prop:=
 Ext w w'/\match P.program s with
 | .err c a=>e = ai (aq #[au V,.int .i64 c,.int .i64 a])
 | .ok cs _ _=>∃ b v vs,e = ai (aq #[au (O ⟨b,0,V⟩),.int .i64 0,.int .i64 (-1)])/\w'.heap[b]?=O (ah #[v] 72 (0,0))/\Nu w w' b /\
  fO (Nu w w') w' 79 v vs/\kr (Nu w w') w' vs cs
def aHz(s:P.Bs)(w:Z)(i:s.length<=100000)(j:WJ w)(l:Cr w):Calls bau 12 #[aW s] w (aHy w s):=by
 refine aHh ?_;refine(aHl s w i j).mono ?_;rintro e w1 ⟨m,d⟩;cases hr:P.program s with
 | err c a=>
  rw[hr] at d;obtain⟨b,rfl,g⟩:=d;refine bF ?_;refine(amt b c a w1 g (l.ext m)).mono ?_;rintro e w2 ⟨f,rfl⟩;refine bF ?_;refine⟨yF,?_⟩;grind
 | ok cs k vs=>
  rw[hr] at d;obtain⟨b,v,vs,rfl,g,n,q,o⟩:=d;refine bF ?_;refine(acY w1).mono ?_;rintro e w2 ⟨f,rfl⟩;have s2:=f.size;refine bF ?_;refine⟨yF,?_⟩;rw[hr];have h:∀ b,Nu w w1 b->Nu w w2 b:=zg;exact⟨b,v,vs,J,f.ext _ _ g,h _ n,(by grind [fO.mono,bD.ext]),o.mono h fun b cs t _ _ p=>f.ext _ _ p⟩
open Go.Proofs.YtoegidfbnkaabaaGreatDoor.Sx
section
variable{p0 p1 p2 p3 p4 p5 p6 p7:Y}{w:Z}{R:Ending->Z->Prop}
def aHA:=cz w R [p0] (gc [] [(4001,[])] [15]) func76
def aHB:=cz w R [p0] (gc [] [] []) func37
end
namespace P
inductive iM where
 | fault (e:Nat)
 | y3
deriving DecidableEq,Inhabited
abbrev Out(α:Type):=Option (Except iM α)
def Out.bind{α β:Type}(x:Out α)(k:α->Out β):Out β:=
 match x with
 | none=>V
 | some (.error e)=>O (.error e)
 | some (.ok a)=>k a
@[simp] theorem Out.ek{α β:Type}(a:α)(k:α->Out β):Out.bind (O (.ok a)) k=k a:=rfl
@[simp] theorem Out.aVu{α β:Type}(e:iM)(k:α->Out β):Out.bind (O (.error e)) k=O (.error e):=rfl
@[simp] theorem Out.bind_none{α β:Type}(k:α->Out β):Out.bind (V:Out α) k=none:=rfl
def Out.bind_some{α β:Type}{x:Out α}{k:α->Out β}{r:Except iM β}(h:Out.bind x k=O r):(∃ a,x=O (.ok a)/\k a=O r)\/(∃ e,x=O (.error e)/\r = .error e):=by
 cases x with
 | none=>simp_all
 | some y=>cases y with
  | error e=>simp_all
  | ok a=>simp_all
structure Sr where
 tr:Tr
 fuel:Nat
def Sr.dec(s:Sr):Sr:={ s with fuel:=s.fuel-1 }
def Sr.bind(s:Sr)(i:Nat)(t:Tm):Sr:={ s with tr:=(i,t)::s.tr }
def Sr.gO(s:Sr)(mark:Nat):Sr:={ s with tr:=s.tr.drop (s.tr.length-mark) }
mutual
def tP:Nat->Nat->Tm->Sr->Out (Bool×Sr)
 | 0,_,_,_=>V
 | f+1,i,t,s=>
  if s.fuel=0 then O (.error .y3)
  else match dR s.tr f t with
   | none=>V
   | some (.var j)=>O (.ok (decide (j=i),s.dec))
   | some (.comp _ args)=>vu f i args s.dec
   | some _=>O (.ok (ae,s.dec))
 termination_by structural f=>f
def vu:Nat->Nat->List Tm->Sr->Out (Bool×Sr)
 | 0,_,_,_=>V
 | _+1,_,[],s=>O (.ok (ae,s))
 | f+1,i,a::r,s=>Out.bind (tP f i a s) fun p=>if p.1 then O (.ok (A,p.2)) else vu f i r p.2
 termination_by structural f=>f
end
def q9(f:Nat)(i:Nat)(t:Tm)(s:Sr):Out (Bool×Sr):=
 Out.bind (tP f i t s) fun p=>if p.1 then O (.ok (ae,p.2)) else O (.ok (A,p.2.bind i t))
def flat:Tm->Tm->Bool
 | .atom a,.atom b=>a == b
 | .int a,.int b=>a == b
 | .var i,.var j=>i == j
 | _,_=>ae
mutual
def gY:Nat->Tm->Tm->Sr->Out (Bool×Sr)
 | 0,_,_,_=>V
 | f+1,a,b,s=>
  if s.fuel=0 then O (.error .y3)
  else match dR s.tr f a,dR s.tr f b with
   | some (.var i),O (.var j)=>if i=j then O (.ok (A,s.dec)) else q9 f i (.var j) s.dec
   | some (.var i),O u=>q9 f i u s.dec
   | some u,O (.var j)=>q9 f j u s.dec
   | some (.comp n l),O (.comp m r)=>if n=m/\l.length=r.length then lJ f l r s.dec else O (.ok (ae,s.dec))
   | some u,O v=>O (.ok (flat u v,s.dec))
   | _,_=>V
 termination_by structural f=>f
def lJ:Nat->List Tm->List Tm->Sr->Out (Bool×Sr)
 | 0,_,_,_=>V
 | f+1,a::l,b::r,s=>Out.bind (gY f a b s) fun p=>if p.1 then lJ f l r p.2 else O (.ok (ae,p.2))
 | _+1,_,_,s=>O (.ok (A,s))
 termination_by structural f=>f
end
mutual
def qA:Nat->Tm->Tm->Sr->Out (Bool×Sr)
 | 0,_,_,_=>V
 | f+1,a,b,s=>
  if s.fuel=0 then O (.error .y3)
  else match dR s.tr f a,dR s.tr f b with
   | some (.comp n l),O (.comp m r)=>if n=m/\l.length=r.length then uw f l r s.dec else O (.ok (ae,s.dec))
   | some u,O v=>O (.ok (flat u v,s.dec))
   | _,_=>V
 termination_by structural f=>f
def uw:Nat->List Tm->List Tm->Sr->Out (Bool×Sr)
 | 0,_,_,_=>V
 | f+1,a::l,b::r,s=>Out.bind (qA f a b s) fun p=>if p.1 then uw f l r p.2 else O (.ok (ae,p.2))
 | _+1,_,_,s=>O (.ok (A,s))
 termination_by structural f=>f
end
def wrap64(z:Int):Int:=(z+9223372036854775808) % 18446744073709551616-9223372036854775808
def reckon(name:Bs)(a b:Int):Except iM Int:=
 if name=[43] then .ok (wrap64 (a+b)) else if name=[45] then .ok (wrap64 (a-b)) else if name=[42] then .ok (wrap64 (a*b))
 else if b=0 then .error (.fault 9)
 else if name=[47,47] then .ok (wrap64 (a.tdiv b))
 else .ok (if a.tmod b≠0/\(decide (a.tmod b<0)≠decide (b<0)) then wrap64 (a.tmod b+b) else a.tmod b)
def kO:Nat->Tm->Sr->Out (Int×Sr)
 | 0,_,_=>V
 | f+1,t,s=>
  if s.fuel=0 then O (.error .y3)
  else match dR s.tr f t with
   | none=>V
   | some (.int n)=>O (.ok (n,s.dec))
   | some (.var _)=>O (.error (.fault 7))
   | some (.comp name [a,b])=>
    if jB name 2≠0 then
     Out.bind (kO f a s.dec) fun p=>Out.bind (kO f b p.2) fun q=>
      match reckon name p.1 q.1 with
      | .error e=>O (.error e)
      | .ok z=>O (.ok (z,q.2))
    else O (.error (.fault 8))
   | some _=>O (.error (.fault 8))
 termination_by structural f=>f
def WW(name:Bs)(a b:Int):Bool:=
 if name=[60] then decide (a<b) else if name=[62] then decide (a > b) else if name=[61,60] then decide (a<=b) else if name=[62,61] then decide (a ≥ b) else decide (a=b)
def M0(name:Bs):Tm->Bool
 | .var _=>name == [118,97,114]
 | .atom _=>name == [110,111,110,118,97,114] || name == [97,116,111,109]
 | .int _=>name == [110,111,110,118,97,114] || name == [105,110,116,101,103,101,114]
 | .comp _ _=>name == [110,111,110,118,97,114]
def uy(f:Nat)(name:Bs)(args:List Tm)(s:Sr):Out (Bool×Sr):=
 if name=[116,114,117,101] then O (.ok (A,s))
 else if name=[61] then gY f (args.getD 0 default) (args.getD 1 default) s
 else if name=[92,61] then Out.bind (gY f (args.getD 0 default) (args.getD 1 default) s) fun p=>O (.ok (!p.1,p.2.gO s.tr.length))
 else if name=[61,61] then qA f (args.getD 0 default) (args.getD 1 default) s
 else if name=[105,115] then Out.bind (kO f (args.getD 1 default) s) fun p=>gY f (args.getD 0 default) (.int p.1) p.2
 else if name∈[[118,97,114],[110,111,110,118,97,114],[97,116,111,109],[105,110,116,101,103,101,114]] then
  match dR s.tr f (args.getD 0 default) with
  | none=>V
  | some t=>O (.ok (M0 name t,s))
 else if name=[102,97,105,108] then O (.ok (ae,s))
 else Out.bind (kO f (args.getD 0 default) s) fun p=>Out.bind (kO f (args.getD 1 default) p.2) fun q=>O (.ok (WW name p.1 q.1,q.2))
end P
