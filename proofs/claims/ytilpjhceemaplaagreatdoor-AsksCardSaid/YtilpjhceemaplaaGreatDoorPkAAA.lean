/- A part of one proof (Pure, PureM, PureB, PureF, PureH, Sx, Sx2, SxG, Base). -/
import Derived.WalkKit
import Derived.StillTail
import Derived.OrdersHeld
import Derived.KernelRfl
import Derived.Scope
import Derived.Lib.Hide
import Derived.Deep.QuietTactic
import Derived.BigQuiet
import Derived.Deep.RegionLaw
set_option linter.all false
set_option linter.unusedVariables false
set_option linter.unusedSimpArgs false
set_option maxRecDepth 100000
set_option maxHeartbeats 4000000
namespace Go.Proofs.YtilpjhceemaplaaGreatDoor.P
abbrev Bs:=List UInt8
structure Tok where
 kind:Nat
 text:Bs
 pos:Nat
deriving Repr,DecidableEq,Inhabited
inductive Ex where
 | mk (kind:Nat) (name:Bs) (n:Int) (k:Nat) (args:List Ex)
deriving Inhabited
inductive Bd where
 | mk (kind:Nat) (name:Bs) (args:List Ex) (parts:List Bd)
deriving Inhabited
structure Cl where
 name:Bs
 args:List Ex
 body:Bd
 vars:List Bs
deriving Inhabited
def Ex.kind:Ex->Nat | .mk k _ _ _ _=>k
def Ex.name:Ex->Bs | .mk _ s _ _ _=>s
def Ex.args:Ex->List Ex | .mk _ _ _ _ l=>l
def Bd.kind:Bd->Nat | .mk k _ _ _=>k
def Bd.parts:Bd->List Bd | .mk _ _ _ l=>l
def cls(c:UInt8):Nat:=
 if 97≤c.toNat/\c.toNat≤122 then 115
 else if (65≤c.toNat/\c.toNat≤90)\/c.toNat=95 then 99
 else if 48≤c.toNat/\c.toNat≤57 then 100 else 0
def digit(c:UInt8):Bool:=decide (48≤c.toNat/\c.toNat≤57)
def num(s:Bs):Int:=s.foldl (fun v c=>10*v+((c.toNat:Int)-48)) 0
def wordKind(w:Bs):Nat:=
 match w with
 | []=>0
 | c::r=>
  if cls c=115 then(if w.length≤8 then 1 else 0)
  else if cls c=99 then(if w.length≤8 then 2 else 0)
  else if w.length≤9/\w.all digit=true/\(c≠48\/r=[]) then 3 else 0
def signs:List Bs:=[[61,58,61],[58,45],[45,62],[92,43],[92,61],[61,61],[61,60],[62,61],[47,47],[40],[41],[91],[93],[44],[124],[59],[33],[61],[60],[62],[43],[45],[42]]
def blank(c:UInt8):Bool:=c == 32 || c == 10
def endsB:Bs->Bool
 | []=>true
 | d::_=>blank d
def lexGo:Nat->Bs->Nat->Option (Sum Nat (List Tok))
 | 0,_,_=>none
 | _+1,[],i=>some (.inr [⟨0,[],i⟩])
 | f+1,c::r,i=>
  if blank c then lexGo f r (i+1)
  else if cls c≠0 then
   let w:=(c::r).takeWhile (fun x=>cls x≠0)
   if wordKind w=0 then some (.inl i)
   else match lexGo f ((c::r).drop w.length) (i+w.length) with
    | some (.inr l)=>some (.inr (⟨wordKind w,w,i⟩::l))
    | x=>x
  else if c=46/\endsB r=true then
   match lexGo f r (i+1) with
   | some (.inr l)=>some (.inr (⟨4,[46],i⟩::l))
   | x=>x
  else match signs.find? (fun s=>s.isPrefixOf (c::r)) with
   | none=>some (.inl i)
   | some s=>match lexGo f ((c::r).drop s.length) (i+s.length) with
    | some (.inr l)=>some (.inr (⟨4,s,i⟩::l))
    | x=>x
inductive Res(α:Type) where
 | ok (a:α) (k:Nat) (vars:List Bs)
 | err (e at_:Nat)
deriving Inhabited
def tk(T:List Tok)(k:Nat):Tok:=T.getD k ⟨0,[],0⟩
def isT(T:List Tok)(k:Nat)(s:Bs):Bool:=((tk T k).kind == 4 || (tk T k).kind == 1) && (tk T k).text == s
def Res.bind{α β:Type}(r:Option (Res α))(g:α->Nat->List Bs->Option (Res β)):Option (Res β):=
 match r with
 | none=>none
 | some (.err e a)=>some (.err e a)
 | some (.ok a k v)=>g a k v
def musT{α:Type}(T:List Tok)(s:Bs)(x:α)(k:Nat)(vars:List Bs):Option (Res α):=
 if isT T k s then some (.ok x (k+1) vars) else some (.err 2 (tk T k).pos)
def maxVars:Nat:=12
def maxDepth:Nat:=8
def maxArity:Nat:=4
def pVar(t:Tok)(k:Nat)(vars:List Bs):Res Ex:=
 match (if t.text=[95] then none else vars.idxOf? t.text) with
 | some j=>.ok (.mk 118 [] 0 j []) k vars
 | none=>if vars.length=maxVars then .err 4 t.pos else .ok (.mk 118 [] 0 vars.length []) k (vars++[t.text])
def ops(lvl:Nat):List Bs:=if lvl=0 then [[43],[45]] else [[42],[47,47],[109,111,100]]
def opAt(T:List Tok)(lvl k:Nat):Option Bs:=(ops lvl).find? (isT T k)
def mkList(all:List Ex)(x:Ex):Ex:=all.foldr (fun a x=>.mk 99 [46] 0 0 [a,x]) x
def tests(name:Bs):Int:=
 if name∈[[116,114,117,101],[102,97,105,108]] then 0
 else if name∈[[118,97,114],[110,111,110,118,97,114],[97,116,111,109],[105,110,116,101,103,101,114]] then 1
 else if name∈[[61],[92,61],[61,61],[105,115],[60],[62],[61,60],[62,61],[61,58,61]] then 2 else -1
def compares:List Bs:=[[61],[92,61],[61,61],[105,115],[60],[62],[61,60],[62,61],[61,58,61]]
def cmpAt(T:List Tok)(k:Nat):Option Bs:=compares.find? (isT T k)
def noGoal(x:Ex):Bool:=
 (x.kind != 97 && x.kind != 99) || (x.name == [46] || x.name == [91,93] || (match x.name with | []=>true | c::_=>cls c != 115)) || (x.name == [109,111,100] && x.args.length == 2)
def failB:Bd:=.mk 103 [102,97,105,108] [] []
def trueB:Bd:=.mk 103 [116,114,117,101] [] []
mutual
def pPrim (T:List Tok):Nat->Nat->List Bs->Nat->Option (Res Ex)
 | 0,_,_,_=>none
 | f+1,k,vars,d=>
  if maxDepth<d+1 then some (.err 4 (tk T k).pos)
  else if (tk T k).kind=3 then some (.ok (.mk 110 [] (num (tk T k).text) 0 []) (k+1) vars)
  else if (tk T k).kind=2 then some (pVar (tk T k) (k+1) vars)
  else if (tk T k).kind=1 then
   if isT T (k+1) [40] then
    Res.bind (pArgs T f (k+2) vars (d+1) (tk T k).pos []) fun l k' vars'=>musT T [41] (.mk 99 (tk T k).text 0 0 l) k' vars'
   else some (.ok (.mk 97 (tk T k).text 0 0 []) (k+1) vars)
  else if isT T k [45] then
   if (tk T (k+1)).kind=3 then some (.ok (.mk 110 [] (- num (tk T (k+1)).text) 0 []) (k+2) vars)
   else some (.err 2 (tk T (k+1)).pos)
  else if isT T k [40] then Res.bind (pOper T f 0 (k+1) vars (d+1)) fun x k' vars'=>musT T [41] x k' vars'
  else if isT T k [91] then pList T f (k+1) vars (d+1)
  else some (.err 2 (tk T k).pos)
 termination_by structural f=>f
def pArgs (T:List Tok):Nat->Nat->List Bs->Nat->Nat->List Ex->Option (Res (List Ex))
 | 0,_,_,_,_,_=>none
 | f+1,k,vars,d,at_,acc=>
  Res.bind (pOper T f 0 k vars d) fun x k' vars'=>
   if isT T k' [44] then pArgs T f (k'+1) vars' d at_ (acc++[x])
   else if maxArity<(acc++[x]).length then some (.err 4 at_) else some (.ok (acc++[x]) k' vars')
 termination_by structural f=>f
def pList (T:List Tok):Nat->Nat->List Bs->Nat->Option (Res Ex)
 | 0,_,_,_=>none
 | f+1,k,vars,d=>
  if isT T k [93] then some (.ok (.mk 97 [91,93] 0 0 []) (k+1) vars)
  else Res.bind (pElems T f k vars d []) fun all k' vars'=>
   if isT T k' [124] then Res.bind (pOper T f 0 (k'+1) vars' d) fun x k'' vars''=>musT T [93] (mkList all x) k'' vars''
   else musT T [93] (mkList all (.mk 97 [91,93] 0 0 [])) k' vars'
 termination_by structural f=>f
def pElems (T:List Tok):Nat->Nat->List Bs->Nat->List Ex->Option (Res (List Ex))
 | 0,_,_,_,_=>none
 | f+1,k,vars,d,acc=>
  Res.bind (pOper T f 0 k vars d) fun x k' vars'=>
   if isT T k' [44] then pElems T f (k'+1) vars' d (acc++[x]) else some (.ok (acc++[x]) k' vars')
 termination_by structural f=>f
def pOper (T:List Tok):Nat->Nat->Nat->List Bs->Nat->Option (Res Ex)
 | 0,_,_,_,_=>none
 | f+1,lvl,k,vars,d=>
  if lvl=2 then pPrim T f k vars d
  else Res.bind (pOper T f (lvl+1) k vars d) fun x k' vars'=>pMore T f lvl x k' vars' d
 termination_by structural f=>f
def pMore (T:List Tok):Nat->Nat->Ex->Nat->List Bs->Nat->Option (Res Ex)
 | 0,_,_,_,_,_=>none
 | f+1,lvl,x,k,vars,d=>
  match opAt T lvl k with
  | none=>some (.ok x k vars)
  | some o=>Res.bind (pOper T f (lvl+1) (k+1) vars d) fun y k' vars'=>pMore T f lvl (.mk 99 o 0 0 [x,y]) k' vars' d
 termination_by structural f=>f
end
mutual
def pLit (T:List Tok):Nat->Nat->List Bs->Nat->Option (Res Bd)
 | 0,_,_,_=>none
 | f+1,k,vars,d=>
  if maxDepth<d+1 then some (.err 4 (tk T k).pos)
  else if isT T k [33] then some (.ok (.mk 33 [] [] []) (k+1) vars)
  else if isT T k [92,43] then Res.bind (pLit T f (k+1) vars (d+1)) fun b k' vars'=>some (.ok (.mk 126 [] [] [b]) k' vars')
  else if isT T k [40] then Res.bind (pBody T f (k+1) vars (d+1)) fun b k' vars'=>musT T [41] b k' vars'
  else Res.bind (pOper T f 0 k vars (d+1)) fun x k' vars'=>
   match cmpAt T k' with
   | some c=>Res.bind (pOper T f 0 (k'+1) vars' (d+1)) fun y k'' vars''=>some (.ok (.mk 103 c [x,y] []) k'' vars'')
   | none=>
    if noGoal x then some (.err 2 (tk T k).pos)
    else if 0≤tests x.name/\tests x.name≠x.args.length then some (.err 3 (tk T k).pos)
    else some (.ok (.mk 103 x.name x.args []) k' vars')
 termination_by structural f=>f
def pLits (T:List Tok):Nat->Nat->List Bs->Nat->List Bd->Option (Res (List Bd))
 | 0,_,_,_,_=>none
 | f+1,k,vars,d,acc=>
  Res.bind (pLit T f k vars d) fun b k' vars'=>
   if isT T k' [44] then pLits T f (k'+1) vars' d (acc++[b]) else some (.ok (acc++[b]) k' vars')
 termination_by structural f=>f
def pRow (T:List Tok):Nat->Nat->List Bs->Nat->Option (Res Bd)
 | 0,_,_,_=>none
 | f+1,k,vars,d=>
  Res.bind (pLits T f k vars d []) fun l k' vars'=>some (.ok (match l with | [b]=>b | _=>.mk 44 [] [] l) k' vars')
 termination_by structural f=>f
def pRest (T:List Tok):Nat->Nat->List Bs->Nat->Option (Res Bd)
 | 0,_,_,_=>none
 | f+1,k,vars,d=>if maxDepth<d+1 then some (.err 4 (tk T k).pos) else pBody T f k vars (d+1)
 termination_by structural f=>f
def pBody (T:List Tok):Nat->Nat->List Bs->Nat->Option (Res Bd)
 | 0,_,_,_=>none
 | f+1,k,vars,d=>
  Res.bind (pRow T f k vars d) fun a k1 v1=>
   if isT T k1 [45,62] then
    Res.bind (pRow T f (k1+1) v1 d) fun b k2 v2=>
     if isT T k2 [59] then Res.bind (pRest T f (k2+1) v2 d) fun c k3 v3=>some (.ok (.mk 63 [] [] [a,b,c]) k3 v3)
     else some (.ok (.mk 63 [] [] [a,b,failB]) k2 v2)
   else if isT T k1 [59] then Res.bind (pRest T f (k1+1) v1 d) fun b k2 v2=>some (.ok (.mk 59 [] [] [a,b]) k2 v2)
   else some (.ok a k1 v1)
 termination_by structural f=>f
end
def pTail(T:List Tok)(f:Nat)(name:Bs)(args:List Ex)(at_ k:Nat)(vars:List Bs):Option (Res Cl):=
 if 0≤tests name\/name=[109,111,100] then some (.err 3 at_)
 else if isT T k [58,45] then
  Res.bind (pBody T f (k+1) vars 0) fun b k' vars'=>musT T [46] ⟨name,args,b,vars'⟩ k' vars'
 else musT T [46] ⟨name,args,trueB,vars⟩ k vars
def pClause(T:List Tok)(f k:Nat):Option (Res Cl):=
 if (tk T k).kind=1 then
  if isT T (k+1) [40] then
   Res.bind (pArgs T f (k+2) [] 0 (tk T k).pos []) fun l k' vars'=>
    Res.bind (musT T [41] l k' vars') fun l k'' vars''=>pTail T f (tk T k).text l (tk T k).pos k'' vars''
  else pTail T f (tk T k).text [] (tk T k).pos (k+1) []
 else some (.err 2 (tk T k).pos)
theorem find_none_of{l:List Bs}{q:Bs->Bool}(h:∀ j,j<l.length->q (l.getD j [])=false):l.find? q=none:=by
 rw[List.find?_eq_none]
 intro x hx
 obtain⟨j,hj,e⟩:=List.getElem_of_mem hx
 have:=h j hj
 rw[List.getD_eq_getElem?_getD,List.getElem?_eq_getElem hj,Option.getD_some,e] at this
 rw[this];decide
theorem find_some_of:∀ {l:List Bs} {q:Bs->Bool} {j:Nat},j<l.length->q (l.getD j [])=true->(∀ j',j'<j->q (l.getD j' [])=false)->l.find? q=some (l.getD j [])
 | [],_,_,h,_,_=>absurd h (Nat.not_lt_zero _)
 | x::l,q,0,_,h,_=>by
  simp only[List.getD_cons_zero] at h ⊢
  rw[List.find?_cons_of_pos h]
 | x::l,q,j+1,hj,h,hno=>by
  have h0:=hno 0 (by omega)
  simp only[List.getD_cons_zero] at h0
  simp only[List.getD_cons_succ] at h ⊢
  rw[List.find?_cons_of_neg (by rw[h0];decide)]
  exact find_some_of (by simpa using hj) h fun j' h'=>by
   have:=hno (j'+1) (by omega)
   simpa only[List.getD_cons_succ] using this
theorem num_snoc(s:Bs)(c:UInt8):num (s++[c])=10*num s+((c.toNat:Int)-48):=by
 simp [num,List.foldl_append]
theorem num_bound_pow:∀ (n:Nat) (s:Bs),s.length=n->s.all digit=true->0≤num s/\num s+1≤(10:Int) ^ n
 | 0,s,h,_=>by
  have:s=[]:=List.length_eq_zero_iff.1 h
  subst this
  simp [num]
 | n+1,s,h,hd=>by
  obtain⟨l,c,rfl⟩:∃ l c,s=l++[c]:=⟨s.dropLast,s.getLast (by intro e;subst e;cases h),(List.dropLast_concat_getLast _).symm⟩
  simp only[List.all_append,List.all_cons,List.all_nil,Bool.and_true,Bool.and_eq_true,digit,decide_eq_true_eq] at hd
  have hl:l.length=n:=by simpa using h
  obtain⟨a,b⟩:=num_bound_pow n l hl hd.1
  rw[num_snoc,Int.pow_succ]
  omega
theorem num_bound{s:Bs}(hd:s.all digit=true)(hl:s.length≤9):0≤num s/\num s≤999999999:=by
 obtain⟨a,b⟩:=num_bound_pow s.length s rfl hd
 refine⟨a,?_⟩
 have:(10:Int) ^ s.length≤10 ^ 9:=by
  obtain h | h | h | h | h | h | h | h | h | h:s.length=0\/s.length=1\/s.length=2\/s.length=3\/s.length=4\/s.length=5\/s.length=6\/s.length=7\/s.length=8\/s.length=9:=by omega
  all_goals rw[h];decide
 omega
theorem bind_ok{α β:Type}{r:Option (Res α)}{g:α->Nat->List Bs->Option (Res β)}{b:β}{k:Nat}{v:List Bs}
  (h:Res.bind r g=some (.ok b k v)):∃ a k1 v1,r=some (.ok a k1 v1)/\g a k1 v1=some (.ok b k v):=by
 unfold Res.bind at h
 split at h
 ·cases h
 ·cases h
 ·rename_i a k1 v1
  exact⟨a,k1,v1,rfl,h⟩
theorem musT_ok{α:Type}{T:List Tok}{s:Bs}{x y:α}{k k':Nat}{v v':List Bs}(h:musT T s x k v=some (.ok y k' v')):k'=k+1/\y=x/\v'=v:=by
 unfold musT at h
 split at h
 ·simp only[Option.some.injEq,Res.ok.injEq] at h
  exact⟨h.2.1.symm,h.1.symm,h.2.2.symm⟩
 ·simp at h
theorem pVar_k{t:Tok}{k k':Nat}{v v':List Bs}{x:Ex}(h:pVar t k v = .ok x k' v'):k'=k:=by
 unfold pVar at h
 split at h
 ·injection h with _ h _;exact h.symm
 ·split at h
  ·cases h
  ·injection h with _ h _;exact h.symm
structure Mono(T:List Tok)(f:Nat):Prop where
 prim:∀ k v d x k' v',pPrim T f k v d=some (.ok x k' v')->k<k'
 args:∀ k v d a acc x k' v',pArgs T f k v d a acc=some (.ok x k' v')->k<k'
 list:∀ k v d x k' v',pList T f k v d=some (.ok x k' v')->k<k'
 elems:∀ k v d acc x k' v',pElems T f k v d acc=some (.ok x k' v')->k<k'
 oper:∀ l k v d x k' v',pOper T f l k v d=some (.ok x k' v')->k<k'
 more:∀ l y k v d x k' v',pMore T f l y k v d=some (.ok x k' v')->k≤k'
theorem mono(T:List Tok):∀ f,Mono T f
 | 0=>⟨by intros;simp [pPrim] at *,by intros;simp [pArgs] at *,by intros;simp [pList] at *,by intros;simp [pElems] at *,by intros;simp [pOper] at *,by intros;simp [pMore] at *⟩
 | f+1=>by
  have ih:=mono T f
  refine⟨?_,?_,?_,?_,?_,?_⟩
  ·intro k v d x k' v' h
   rw[pPrim] at h
   split at h
   ·simp at h
   split at h
   ·simp only[Option.some.injEq,Res.ok.injEq] at h;omega
   split at h
   ·simp only[Option.some.injEq] at h;have:=pVar_k h;omega
   split at h
   ·split at h
    ·obtain⟨a,k1,v1,h1,h2⟩:=bind_ok h
     have:=ih.args _ _ _ _ _ _ _ _ h1
     have:=(musT_ok h2).1
     omega
    ·simp only[Option.some.injEq,Res.ok.injEq] at h;omega
   split at h
   ·split at h
    ·simp only[Option.some.injEq,Res.ok.injEq] at h;omega
    ·simp at h
   split at h
   ·obtain⟨a,k1,v1,h1,h2⟩:=bind_ok h
    have:=ih.oper _ _ _ _ _ _ _ h1
    have:=(musT_ok h2).1
    omega
   split at h
   ·have:=ih.list _ _ _ _ _ _ h;omega
   ·simp at h
  ·intro k v d a acc x k' v' h
   rw[pArgs] at h
   obtain⟨y,k1,v1,h1,h2⟩:=bind_ok h
   have:=ih.oper _ _ _ _ _ _ _ h1
   split at h2
   ·have:=ih.args _ _ _ _ _ _ _ _ h2;omega
   ·split at h2
    ·simp at h2
    ·simp only[Option.some.injEq,Res.ok.injEq] at h2;omega
  ·intro k v d x k' v' h
   rw[pList] at h
   split at h
   ·simp only[Option.some.injEq,Res.ok.injEq] at h;omega
   ·obtain⟨y,k1,v1,h1,h2⟩:=bind_ok h
    have:=ih.elems _ _ _ _ _ _ _ h1
    split at h2
    ·obtain⟨z,k2,v2,h3,h4⟩:=bind_ok h2
     have:=ih.oper _ _ _ _ _ _ _ h3
     have:=(musT_ok h4).1
     omega
    ·have:=(musT_ok h2).1;omega
  ·intro k v d acc x k' v' h
   rw[pElems] at h
   obtain⟨y,k1,v1,h1,h2⟩:=bind_ok h
   have:=ih.oper _ _ _ _ _ _ _ h1
   split at h2
   ·have:=ih.elems _ _ _ _ _ _ _ h2;omega
   ·simp only[Option.some.injEq,Res.ok.injEq] at h2;omega
  ·intro l k v d x k' v' h
   rw[pOper] at h
   split at h
   ·exact ih.prim _ _ _ _ _ _ h
   ·obtain⟨y,k1,v1,h1,h2⟩:=bind_ok h
    have:=ih.oper _ _ _ _ _ _ _ h1
    have:=ih.more _ _ _ _ _ _ _ _ h2
    omega
  ·intro l y k v d x k' v' h
   rw[pMore] at h
   split at h
   ·simp only[Option.some.injEq,Res.ok.injEq] at h;omega
   ·obtain⟨z,k1,v1,h1,h2⟩:=bind_ok h
    have:=ih.oper _ _ _ _ _ _ _ h1
    have:=ih.more _ _ _ _ _ _ _ _ h2
    omega
structure MonoB(T:List Tok)(f:Nat):Prop where
 lit:∀ k v d x k' v',pLit T f k v d=some (.ok x k' v')->k<k'
 lits:∀ k v d acc x k' v',pLits T f k v d acc=some (.ok x k' v')->k<k'
 row:∀ k v d x k' v',pRow T f k v d=some (.ok x k' v')->k<k'
 rest:∀ k v d x k' v',pRest T f k v d=some (.ok x k' v')->k<k'
 body:∀ k v d x k' v',pBody T f k v d=some (.ok x k' v')->k<k'
theorem monoB(T:List Tok):∀ f,MonoB T f
 | 0=>⟨by intros;simp [pLit] at *,by intros;simp [pLits] at *,by intros;simp [pRow] at *,by intros;simp [pRest] at *,by intros;simp [pBody] at *⟩
 | f+1=>by
  have ih:=monoB T f
  have hm:=mono T f
  refine⟨?_,?_,?_,?_,?_⟩
  ·intro k v d x k' v' h
   rw[pLit] at h
   split at h
   ·simp at h
   split at h
   ·simp only[Option.some.injEq,Res.ok.injEq] at h;omega
   split at h
   ·obtain⟨a,k1,v1,h1,h2⟩:=bind_ok h
    have:=ih.lit _ _ _ _ _ _ h1
    simp only[Option.some.injEq,Res.ok.injEq] at h2;omega
   split at h
   ·obtain⟨a,k1,v1,h1,h2⟩:=bind_ok h
    have:=ih.body _ _ _ _ _ _ h1
    have:=(musT_ok h2).1
    omega
   obtain⟨a,k1,v1,h1,h2⟩:=bind_ok h
   have:=hm.oper _ _ _ _ _ _ _ h1
   split at h2
   ·obtain⟨b,k2,v2,h3,h4⟩:=bind_ok h2
    have:=hm.oper _ _ _ _ _ _ _ h3
    simp only[Option.some.injEq,Res.ok.injEq] at h4;omega
   ·split at h2
    ·simp at h2
    ·split at h2
     ·simp at h2
     ·simp only[Option.some.injEq,Res.ok.injEq] at h2;omega
  ·intro k v d acc x k' v' h
   rw[pLits] at h
   obtain⟨y,k1,v1,h1,h2⟩:=bind_ok h
   have:=ih.lit _ _ _ _ _ _ h1
   split at h2
   ·have:=ih.lits _ _ _ _ _ _ _ h2;omega
   ·simp only[Option.some.injEq,Res.ok.injEq] at h2;omega
  ·intro k v d x k' v' h
   rw[pRow] at h
   obtain⟨y,k1,v1,h1,h2⟩:=bind_ok h
   have:=ih.lits _ _ _ _ _ _ _ h1
   simp only[Option.some.injEq,Res.ok.injEq] at h2;omega
  ·intro k v d x k' v' h
   rw[pRest] at h
   split at h
   ·simp at h
   ·exact ih.body _ _ _ _ _ _ h
  ·intro k v d x k' v' h
   rw[pBody] at h
   obtain⟨a,k1,v1,h1,h2⟩:=bind_ok h
   have:=ih.row _ _ _ _ _ _ h1
   split at h2
   ·obtain⟨b,k2,v2,h3,h4⟩:=bind_ok h2
    have:=ih.row _ _ _ _ _ _ h3
    split at h4
    ·obtain⟨c,k3,v3,h5,h6⟩:=bind_ok h4
     have:=ih.rest _ _ _ _ _ _ h5
     simp only[Option.some.injEq,Res.ok.injEq] at h6;omega
    ·simp only[Option.some.injEq,Res.ok.injEq] at h4;omega
   ·split at h2
    ·obtain⟨c,k3,v3,h5,h6⟩:=bind_ok h2
     have:=ih.rest _ _ _ _ _ _ h5
     simp only[Option.some.injEq,Res.ok.injEq] at h6;omega
    ·simp only[Option.some.injEq,Res.ok.injEq] at h2;omega
def whole:Bd->Prop
 | .mk kind _ _ parts=>kind=63->parts.length=3
structure WholeB(T:List Tok)(f:Nat):Prop where
 lit:∀ k v d x k' v',pLit T f k v d=some (.ok x k' v')->whole x
 lits:∀ k v d acc x k' v',(∀ b∈acc,whole b)->pLits T f k v d acc=some (.ok x k' v')->(∀ b∈x,whole b)/\acc.length<x.length
 row:∀ k v d x k' v',pRow T f k v d=some (.ok x k' v')->whole x
 rest:∀ k v d x k' v',pRest T f k v d=some (.ok x k' v')->whole x
 body:∀ k v d x k' v',pBody T f k v d=some (.ok x k' v')->whole x
theorem wholeB(T:List Tok):∀ f,WholeB T f
 | 0=>⟨by intros;simp [pLit] at *,by intros;simp [pLits] at *,by intros;simp [pRow] at *,by intros;simp [pRest] at *,by intros;simp [pBody] at *⟩
 | f+1=>by
  have ih:=wholeB T f
  refine⟨?_,?_,?_,?_,?_⟩
  ·intro k v d x k' v' h
   rw[pLit] at h
   split at h
   ·simp at h
   split at h
   ·simp only[Option.some.injEq,Res.ok.injEq] at h;rw[<- h.1];simp [whole]
   split at h
   ·obtain⟨a,k1,v1,h1,h2⟩:=bind_ok h
    simp only[Option.some.injEq,Res.ok.injEq] at h2;rw[<- h2.1];simp [whole]
   split at h
   ·obtain⟨a,k1,v1,h1,h2⟩:=bind_ok h
    rw[(musT_ok h2).2.1]
    exact ih.body _ _ _ _ _ _ h1
   obtain⟨a,k1,v1,h1,h2⟩:=bind_ok h
   split at h2
   ·obtain⟨b,k2,v2,h3,h4⟩:=bind_ok h2
    simp only[Option.some.injEq,Res.ok.injEq] at h4;rw[<- h4.1];simp [whole]
   ·split at h2
    ·simp at h2
    ·split at h2
     ·simp at h2
     ·simp only[Option.some.injEq,Res.ok.injEq] at h2;rw[<- h2.1];simp [whole]
  ·intro k v d acc x k' v' ha h
   rw[pLits] at h
   obtain⟨y,k1,v1,h1,h2⟩:=bind_ok h
   have hy:=ih.lit _ _ _ _ _ _ h1
   have ha':∀ b∈acc++[y],whole b:=by
    intro b hb
    rcases List.mem_append.1 hb with hb | hb
    ·exact ha b hb
    ·simp at hb;subst hb;exact hy
   split at h2
   ·have h3:=ih.lits _ _ _ _ _ _ _ ha' h2
    refine⟨h3.1,?_⟩
    have:=h3.2
    simp at this
    omega
   ·simp only[Option.some.injEq,Res.ok.injEq] at h2
    rw[<- h2.1]
    exact⟨ha',by simp⟩
  ·intro k v d x k' v' h
   rw[pRow] at h
   obtain⟨y,k1,v1,h1,h2⟩:=bind_ok h
   have h3:=(ih.lits _ _ _ _ _ _ _ (by simp) h1).1
   simp only[Option.some.injEq,Res.ok.injEq] at h2
   rw[<- h2.1]
   split
   ·exact h3 _ (by simp)
   ·simp [whole]
  ·intro k v d x k' v' h
   rw[pRest] at h
   split at h
   ·simp at h
   ·exact ih.body _ _ _ _ _ _ h
  ·intro k v d x k' v' h
   rw[pBody] at h
   obtain⟨a,k1,v1,h1,h2⟩:=bind_ok h
   split at h2
   ·obtain⟨b,k2,v2,h3,h4⟩:=bind_ok h2
    split at h4
    ·obtain⟨c,k3,v3,h5,h6⟩:=bind_ok h4
     simp only[Option.some.injEq,Res.ok.injEq] at h6;rw[<- h6.1];simp [whole]
    ·simp only[Option.some.injEq,Res.ok.injEq] at h4;rw[<- h4.1];simp [whole]
   ·split at h2
    ·obtain⟨c,k3,v3,h5,h6⟩:=bind_ok h2
     simp only[Option.some.injEq,Res.ok.injEq] at h6;rw[<- h6.1];simp [whole]
    ·simp only[Option.some.injEq,Res.ok.injEq] at h2
     rw[<- h2.1]
     exact ih.row _ _ _ _ _ _ h1
theorem tk_lt{T:List Tok}{k:Nat}(h:(tk T k).kind≠0):k<T.length:=by
 rcases Nat.lt_or_ge k T.length with h1 | h1
 ·exact h1
 ·exact absurd (by simp [tk,List.getD_eq_getElem?_getD,List.getElem?_eq_none h1]) h
theorem isT_lt{T:List Tok}{k:Nat}{s:Bs}(h:isT T k s=true):k<T.length:=by
 refine tk_lt fun h0=>?_
 simp [isT,h0] at h
theorem bind_some{α β:Type}{r:Option (Res α)}{g:α->Nat->List Bs->Option (Res β)}(h:∃ q,r=some q)(hg:∀ a k v,r=some (.ok a k v)->∃ q,g a k v=some q):∃ q,Res.bind r g=some q:=by
 obtain⟨q,rfl⟩:=h
 cases q with
 | err e a=>exact⟨_,rfl⟩
 | ok a k v=>exact hg a k v rfl
theorem musT_some{α:Type}(T:List Tok)(s:Bs)(x:α)(k:Nat)(v:List Bs):∃ q,musT T s x k v=some q:=by
 unfold musT;split<;>exact⟨_,rfl⟩
theorem prim_lt{T:List Tok}{f k:Nat}{v v':List Bs}{d k':Nat}{x:Ex}(h:pPrim T f k v d=some (.ok x k' v')):k<T.length:=by
 cases f with
 | zero=>simp [pPrim] at h
 | succ f=>
  refine tk_lt fun h0=>?_
  have hi:∀ s,isT T k s=false:=fun s=>by simp [isT,h0]
  rw[pPrim] at h
  simp only[h0,hi] at h
  split at h<;>simp at h
theorem oper_lt{T:List Tok}:∀ {f l k:Nat} {v v':List Bs} {d k':Nat} {x:Ex},pOper T f l k v d=some (.ok x k' v')->k<T.length
 | 0,_,_,_,_,_,_,_,h=>by simp [pOper] at h
 | f+1,l,k,v,v',d,k',x,h=>by
  rw[pOper] at h
  split at h
  ·exact prim_lt h
  ·obtain⟨a,k1,v1,h1,_⟩:=bind_ok h
   exact oper_lt h1
theorem opAt_lt{T:List Tok}{l k:Nat}{o:Bs}(h:opAt T l k=some o):k<T.length:=isT_lt (List.find?_some h)
structure Tot(T:List Tok)(f:Nat):Prop where
 prim:∀ k v d,16*(T.length-k)+1≤f->∃ r,pPrim T f k v d=some r
 args:∀ k v d a acc,16*(T.length-k)+5≤f->∃ r,pArgs T f k v d a acc=some r
 list:∀ k v d,16*(T.length-k)+6≤f->∃ r,pList T f k v d=some r
 elems:∀ k v d acc,16*(T.length-k)+5≤f->∃ r,pElems T f k v d acc=some r
 oper:∀ l k v d,l≤2->16*(T.length-k)+(4-l)≤f->∃ r,pOper T f l k v d=some r
 more:∀ l y k v d,l≤1->16*(T.length-k)+1≤f->∃ r,pMore T f l y k v d=some r
theorem tot(T:List Tok):∀ f,Tot T f
 | 0=>⟨fun _ _ _ h=>by omega,fun _ _ _ _ _ h=>by omega,fun _ _ _ h=>by omega,fun _ _ _ _ h=>by omega,fun _ _ _ _ _ h=>by omega,fun _ _ _ _ _ _ h=>by omega⟩
 | f+1=>by
  have ih:=tot T f
  have mo:=mono T f
  refine⟨?_,?_,?_,?_,?_,?_⟩
  ·intro k v d hf
   rw[pPrim]
   split
   ·exact⟨_,rfl⟩
   split
   ·exact⟨_,rfl⟩
   split
   ·exact⟨_,rfl⟩
   split
   ·split
    ·rename_i h
     have:=isT_lt h
     exact bind_some (ih.args _ _ _ _ _ (by omega)) fun _ _ _ _=>musT_some _ _ _ _ _
    ·exact⟨_,rfl⟩
   split
   ·split<;>exact⟨_,rfl⟩
   split
   ·rename_i h
    have:=isT_lt h
    exact bind_some (ih.oper 0 _ _ _ (by omega) (by omega)) fun _ _ _ _=>musT_some _ _ _ _ _
   split
   ·rename_i h
    have:=isT_lt h
    exact ih.list _ _ _ (by omega)
   ·exact⟨_,rfl⟩
  ·intro k v d a acc hf
   rw[pArgs]
   refine bind_some (ih.oper 0 _ _ _ (by omega) (by omega)) fun x k' v' h=>?_
   have h1:=oper_lt h
   have h2:=mo.oper _ _ _ _ _ _ _ h
   split
   ·exact ih.args _ _ _ _ _ (by omega)
   ·split<;>exact⟨_,rfl⟩
  ·intro k v d hf
   rw[pList]
   split
   ·exact⟨_,rfl⟩
   ·refine bind_some (ih.elems _ _ _ _ (by omega)) fun x k' v' h=>?_
    have h2:=mo.elems _ _ _ _ _ _ _ h
    split
    ·rename_i hb
     have:=isT_lt hb
     exact bind_some (ih.oper 0 _ _ _ (by omega) (by omega)) fun _ _ _ _=>musT_some _ _ _ _ _
    ·exact musT_some _ _ _ _ _
  ·intro k v d acc hf
   rw[pElems]
   refine bind_some (ih.oper 0 _ _ _ (by omega) (by omega)) fun x k' v' h=>?_
   have h1:=oper_lt h
   have h2:=mo.oper _ _ _ _ _ _ _ h
   split
   ·exact ih.elems _ _ _ _ (by omega)
   ·exact⟨_,rfl⟩
  ·intro l k v d hl hf
   rw[pOper]
   split
   ·exact ih.prim _ _ _ (by omega)
   ·refine bind_some (ih.oper _ _ _ _ (by omega) (by omega)) fun x k' v' h=>?_
    have h1:=oper_lt h
    have h2:=mo.oper _ _ _ _ _ _ _ h
    exact ih.more _ _ _ _ _ (by omega) (by omega)
  ·intro l y k v d hl hf
   rw[pMore]
   split
   ·exact⟨_,rfl⟩
   ·rename_i o ho
    have h0:=opAt_lt ho
    refine bind_some (ih.oper _ _ _ _ (by omega) (by omega)) fun x k' v' h=>?_
    have h2:=mo.oper _ _ _ _ _ _ _ h
    exact ih.more _ _ _ _ _ hl (by omega)
theorem lit_lt{T:List Tok}{f k:Nat}{v v':List Bs}{d k':Nat}{x:Bd}(h:pLit T f k v d=some (.ok x k' v')):k<T.length:=by
 cases f with
 | zero=>simp [pLit] at h
 | succ f=>
  rw[pLit] at h
  split at h
  ·simp at h
  split at h
  ·rename_i hb;exact isT_lt hb
  split at h
  ·rename_i hb;exact isT_lt hb
  split at h
  ·rename_i hb;exact isT_lt hb
  ·obtain⟨a,k1,v1,h1,_⟩:=bind_ok h
   exact oper_lt h1
structure TotB(T:List Tok)(f:Nat):Prop where
 lit:∀ k v d,16*(T.length-k)+5≤f->∃ r,pLit T f k v d=some r
 lits:∀ k v d acc,16*(T.length-k)+6≤f->∃ r,pLits T f k v d acc=some r
 row:∀ k v d,16*(T.length-k)+7≤f->∃ r,pRow T f k v d=some r
 rest:∀ k v d,16*(T.length-k)+9≤f->∃ r,pRest T f k v d=some r
 body:∀ k v d,16*(T.length-k)+8≤f->∃ r,pBody T f k v d=some r
theorem totB(T:List Tok):∀ f,TotB T f
 | 0=>⟨fun _ _ _ h=>by omega,fun _ _ _ _ h=>by omega,fun _ _ _ h=>by omega,fun _ _ _ h=>by omega,fun _ _ _ h=>by omega⟩
 | f+1=>by
  have ih:=totB T f
  have it:=tot T f
  have mo:=mono T f
  have mb:=monoB T f
  refine⟨?_,?_,?_,?_,?_⟩
  ·intro k v d hf
   rw[pLit]
   split
   ·exact⟨_,rfl⟩
   split
   ·exact⟨_,rfl⟩
   split
   ·rename_i h
    have:=isT_lt h
    exact bind_some (ih.lit _ _ _ (by omega)) fun _ _ _ _=>⟨_,rfl⟩
   split
   ·rename_i h
    have:=isT_lt h
    exact bind_some (ih.body _ _ _ (by omega)) fun _ _ _ _=>musT_some _ _ _ _ _
   ·refine bind_some (it.oper 0 _ _ _ (by omega) (by omega)) fun x k' v' h=>?_
    have h2:=mo.oper _ _ _ _ _ _ _ h
    have h1:=oper_lt h
    split
    ·exact bind_some (it.oper 0 _ _ _ (by omega) (by omega)) fun _ _ _ _=>⟨_,rfl⟩
    ·repeat' split
     all_goals exact⟨_,rfl⟩
  ·intro k v d acc hf
   rw[pLits]
   refine bind_some (ih.lit _ _ _ (by omega)) fun x k' v' h=>?_
   have h1:=lit_lt h
   have h2:=mb.lit _ _ _ _ _ _ h
   split
   ·exact ih.lits _ _ _ _ (by omega)
   ·exact⟨_,rfl⟩
  ·intro k v d hf
   rw[pRow]
   exact bind_some (ih.lits _ _ _ _ (by omega)) fun _ _ _ _=>⟨_,rfl⟩
  ·intro k v d hf
   rw[pRest]
   split
   ·exact⟨_,rfl⟩
   ·exact ih.body _ _ _ (by omega)
  ·intro k v d hf
   rw[pBody]
   refine bind_some (ih.row _ _ _ (by omega)) fun x k' v' h=>?_
   have h2:=mb.row _ _ _ _ _ _ h
   split
   ·rename_i hb
    have h1:=isT_lt hb
    refine bind_some (ih.row _ _ _ (by omega)) fun x k2 v2 h3=>?_
    have h4:=mb.row _ _ _ _ _ _ h3
    split
    ·rename_i hb2
     have h5:=isT_lt hb2
     exact bind_some (ih.rest _ _ _ (by omega)) fun _ _ _ _=>⟨_,rfl⟩
    ·exact⟨_,rfl⟩
   ·split
    ·rename_i hb2
     have h5:=isT_lt hb2
     exact bind_some (ih.rest _ _ _ (by omega)) fun _ _ _ _=>⟨_,rfl⟩
    ·exact⟨_,rfl⟩
def fuelFor(T:List Tok):Nat:=16*T.length+20
theorem pTail_some(T:List Tok)(name:Bs)(args:List Ex)(a k:Nat)(v:List Bs):∃ r,pTail T (fuelFor T) name args a k v=some r:=by
 unfold pTail fuelFor
 split
 ·exact⟨_,rfl⟩
 split
 ·exact bind_some ((totB T _).body _ _ _ (by omega)) fun _ _ _ _=>musT_some _ _ _ _ _
 ·exact musT_some _ _ _ _ _
theorem pClause_some(T:List Tok)(k:Nat):∃ r,pClause T (fuelFor T) k=some r:=by
 unfold pClause
 split
 ·split
  ·refine bind_some ((tot T _).args _ _ _ _ _ (by unfold fuelFor;omega)) fun l k' v' h=>?_
   exact bind_some (musT_some _ _ _ _ _) fun l k' v' h=>pTail_some _ _ _ _ _ _
  ·exact pTail_some _ _ _ _ _ _
 ·exact⟨_,rfl⟩
theorem pTail_mono{T:List Tok}{f:Nat}{name:Bs}{args:List Ex}{a k:Nat}{v:List Bs}{c:Cl}{k':Nat}{v':List Bs}(h:pTail T f name args a k v=some (.ok c k' v')):k<k'/\c.vars=v':=by
 unfold pTail at h
 split at h
 ·simp at h
 split at h
 ·obtain⟨b,k1,v1,h1,h2⟩:=bind_ok h
  obtain⟨e1,e2,e3⟩:=musT_ok h2
  have:=(monoB T f).body _ _ _ _ _ _ h1
  exact⟨by omega,by rw[e2,e3]⟩
 ·obtain⟨e1,e2,e3⟩:=musT_ok h
  exact⟨by omega,by rw[e2,e3]⟩
theorem pClause_mono{T:List Tok}{f k:Nat}{c:Cl}{k':Nat}{v':List Bs}(h:pClause T f k=some (.ok c k' v')):k<k'/\k<T.length:=by
 unfold pClause at h
 split at h
 ·rename_i hk
  have hl:k<T.length:=tk_lt (by omega)
  split at h
  ·obtain⟨l,k1,v1,h1,h2⟩:=bind_ok h
   obtain⟨l2,k2,v2,h3,h4⟩:=bind_ok h2
   have a1:=(mono T f).args _ _ _ _ _ _ _ _ h1
   obtain⟨e1,_,_⟩:=musT_ok h3
   have:=(pTail_mono h4).1
   omega
  ·have:=(pTail_mono h).1
   omega
 ·simp at h
def pProgG(T:List Tok):Nat->Nat->List Cl->Option (Res (List Cl))
 | 0,_,_=>none
 | f+1,k,acc=>
  if (tk T k).kind=0 then some (.ok acc k [])
  else if acc.length=40 then some (.err 4 (tk T k).pos)
  else Res.bind (pClause T (fuelFor T) k) fun c k' _=>pProgG T f k' (acc++[c])
theorem pProgG_some{T:List Tok}:∀ (f k:Nat) (acc:List Cl),T.length-k<f->∃ r,pProgG T f k acc=some r
 | 0,_,_,h=>by omega
 | f+1,k,acc,h=>by
  rw[pProgG]
  split
  ·exact⟨_,rfl⟩
  split
  ·exact⟨_,rfl⟩
  ·refine bind_some (pClause_some _ _) fun c k' v' h1=>?_
   have h2:=pClause_mono h1
   exact pProgG_some f k' _ (by omega)
def progT(T:List Tok):Res (List Cl):=(pProgG T (T.length+1) 0 []).getD (.err 0 0)
theorem progT_eq(T:List Tok):pProgG T (T.length+1) 0 []=some (progT T):=by
 obtain⟨r,hr⟩:=pProgG_some (T:=T) (T.length+1) 0 [] (by omega)
 rw[progT,hr];rfl
def small(s:Bs):Prop:=∃ c r,s=c::r/\cls c=115
def headOk(x:Ex):Prop:=(x.kind=97->x.args=[]/\(x.name=[91,93]\/small x.name))/\(x.kind=99->x.name∈[[46],[43],[45],[42],[47,47]]\/small x.name)
theorem pVar_headOk{t:Tok}{k k':Nat}{v v':List Bs}{x:Ex}(h:pVar t k v = .ok x k' v'):headOk x:=by
 unfold pVar at h
 split at h
 ·injection h with h _ _;rw[<- h];simp [headOk,Ex.kind]
 ·split at h
  ·cases h
  ·injection h with h _ _;rw[<- h];simp [headOk,Ex.kind]
theorem mkList_headOk{all:List Ex}{x:Ex}(hx:headOk x):headOk (mkList all x):=by
 cases all with
 | nil=>exact hx
 | cons a l=>exact⟨fun e=>absurd e (by simp [mkList,Ex.kind]),fun _=>.inl (by simp [mkList,Ex.name])⟩
structure HeadT(T:List Tok)(f:Nat):Prop where
 prim:∀ k v d x k' v',pPrim T f k v d=some (.ok x k' v')->headOk x
 list:∀ k v d x k' v',pList T f k v d=some (.ok x k' v')->headOk x
 oper:∀ l k v d x k' v',pOper T f l k v d=some (.ok x k' v')->headOk x
 more:∀ l y k v d x k' v',headOk y->pMore T f l y k v d=some (.ok x k' v')->headOk x
theorem headT(T:List Tok)(hT:∀ k,(tk T k).kind=1->small (tk T k).text):∀ f,HeadT T f
 | 0=>⟨by intros;simp [pPrim] at *,by intros;simp [pList] at *,by intros;simp [pOper] at *,by intros;simp [pMore] at *⟩
 | f+1=>by
  have ih:=headT T hT f
  refine⟨?_,?_,?_,?_⟩
  ·intro k v d x k' v' h
   rw[pPrim] at h
   split at h
   ·simp at h
   split at h
   ·simp only[Option.some.injEq,Res.ok.injEq] at h;rw[<- h.1];simp [headOk,Ex.kind]
   split at h
   ·simp only[Option.some.injEq] at h;exact pVar_headOk h
   split at h
   ·rename_i hk
    split at h
    ·obtain⟨a,k1,v1,h1,h2⟩:=bind_ok h
     rw[(musT_ok h2).2.1]
     exact⟨fun e=>absurd e (by simp [Ex.kind]),fun _=>.inr (hT k hk)⟩
    ·simp only[Option.some.injEq,Res.ok.injEq] at h;rw[<- h.1];exact⟨fun _=>⟨rfl,.inr (hT k hk)⟩,fun e=>absurd e (by simp [Ex.kind])⟩
   split at h
   ·split at h
    ·simp only[Option.some.injEq,Res.ok.injEq] at h;rw[<- h.1];simp [headOk,Ex.kind]
    ·simp at h
   split at h
   ·obtain⟨a,k1,v1,h1,h2⟩:=bind_ok h
    rw[(musT_ok h2).2.1]
    exact ih.oper _ _ _ _ _ _ _ h1
   split at h
   ·exact ih.list _ _ _ _ _ _ h
   ·simp at h
  ·intro k v d x k' v' h
   rw[pList] at h
   have hn:headOk (.mk 97 [91,93] 0 0 []):=⟨fun _=>⟨rfl,.inl rfl⟩,fun e=>absurd e (by simp [Ex.kind])⟩
   split at h
   ·simp only[Option.some.injEq,Res.ok.injEq] at h;rw[<- h.1];exact hn
   ·obtain⟨y,k1,v1,h1,h2⟩:=bind_ok h
    split at h2
    ·obtain⟨z,k2,v2,h3,h4⟩:=bind_ok h2
     rw[(musT_ok h4).2.1]
     exact mkList_headOk (ih.oper _ _ _ _ _ _ _ h3)
    ·rw[(musT_ok h2).2.1]
     exact mkList_headOk hn
  ·intro l k v d x k' v' h
   rw[pOper] at h
   split at h
   ·exact ih.prim _ _ _ _ _ _ h
   ·obtain⟨y,k1,v1,h1,h2⟩:=bind_ok h
    exact ih.more _ _ _ _ _ _ _ _ (ih.oper _ _ _ _ _ _ _ h1) h2
  ·intro l y k v d x k' v' hy h
   rw[pMore] at h
   split at h
   ·simp only[Option.some.injEq,Res.ok.injEq] at h;rw[<- h.1];exact hy
   ·rename_i o ho
    obtain⟨z,k1,v1,h1,h2⟩:=bind_ok h
    refine ih.more _ _ _ _ _ _ _ _ ?_ h2
    have hm:=List.mem_of_find?_eq_some ho
    refine⟨fun e=>absurd e (by simp [Ex.kind]),fun _=>?_⟩
    show o∈_\/small o
    unfold ops at hm
    split at hm
    ·simp only[List.mem_cons,List.not_mem_nil,or_false] at hm
     rcases hm with rfl | rfl<;>exact .inl (by decide)
    ·simp only[List.mem_cons,List.not_mem_nil,or_false] at hm
     rcases hm with rfl | rfl | rfl
     ·exact .inl (by decide)
     ·exact .inl (by decide)
     ·exact .inr ⟨109,[111,100],rfl,by decide⟩
theorem noGoal_iff{x:Ex}(h:headOk x):noGoal x=true ↔
  ((x.kind≠97/\x.kind≠99)\/(x.kind=99/\(x.name=[43]\/x.name=[45]\/x.name=[42]\/x.name=[47,47]\/(x.name=[109,111,100]/\x.args.length=2)))\/x.name=[46]\/x.name=[91,93]):=by
 obtain⟨k,s,n,j,args⟩:=x
 unfold noGoal
 simp only[Ex.kind,Ex.name,Ex.args] at h ⊢
 obtain⟨h1,h2⟩:=h
 simp only[Ex.kind,Ex.name,Ex.args] at h1 h2
 simp only[Bool.or_eq_true,Bool.and_eq_true,bne_iff_ne,beq_iff_eq,ne_eq]
 by_cases k1:k=97
 ·obtain⟨rfl,hs⟩:=h1 k1
  subst k1
  clear h1 h2
  rcases hs with rfl | ⟨c,r,rfl,hc⟩
  ·simp
  ·simp [hc]
 ·by_cases k2:k=99
  ·subst k2
   rcases h2 rfl with hm | ⟨c,r,rfl,hc⟩
   ·simp only[List.mem_cons,List.not_mem_nil,or_false] at hm
    rcases hm with rfl | rfl | rfl | rfl | rfl<;>simp<;>decide
   ·have e1:c≠43:=by rintro rfl;revert hc;decide
    have e2:c≠45:=by rintro rfl;revert hc;decide
    have e3:c≠42:=by rintro rfl;revert hc;decide
    have e4:c≠47:=by rintro rfl;revert hc;decide
    simp [hc,e1,e2,e3,e4]
    constructor
    ·rintro (h | h)
     ·exact .inr h
     ·exact .inl h
    ·rintro (h | h)
     ·exact .inr h
     ·exact .inl h
  ·simp [k1,k2]
end Go.Proofs.YtilpjhceemaplaaGreatDoor.P
namespace Go.Proofs.YtilpjhceemaplaaGreatDoor.Sx
open Go
abbrev RT{α:Type}(_:α):Type:=Prop
def RD(P:Program)(s:Sem Value)(w:World)(K:Value->Prop)(X:Value->World->Prop):RT (K,X):=
 match s.run P w with
 | .ok v w'=>w'=w/\K v
 | .halt (.panic v) w'=>X v w'
 | _=>False
def WR(P:Program)(s:Sem Value)(w:World)(K:Value->World->Prop)(X:Value->World->Prop):RT (K,X):=
 match s.run P w with
 | .ok v w'=>K v w'
 | .halt (.panic v) w'=>X v w'
 | _=>False
def WU(P:Program)(s:Sem Unit)(w:World)(K:World->Prop)(X:Value->World->Prop):RT (K,X):=
 match s.run P w with
 | .ok _ w'=>K w'
 | .halt (.panic v) w'=>X v w'
 | _=>False
def ends(K:Value->World->Prop)(X:List PanicEntry->World->Prop):Ending->World->Prop
 | .returned v,w=>K v w
 | .panicked ch,w=>X ch w
 | .outgrown,_=>False
def CA(P:Program)(k:FuncId)(args:Array Value)(w:World)(K:Value->World->Prop)(X:List PanicEntry->World->Prop):RT (K,X):=
 Calls P k args w (ends K X)
def CQ(P:Program)(k:FuncId)(args:Array Value)(w:World)(K:Value->Prop):RT K:=
 ∃ v,Calls P k args w (fun e w''=>e = .returned v/\w''=w)/\K v
def callable(P:Program)(k:FuncId):Bool:=
 match P.funcs[k]? with
 | some fn=>fn.body.isSome && !(fn.name == "runtime.NumGoroutine")
 | none=>false
def CV(P:Program)(f:Value)(args:Array Value)(w:World)(K:Value->World->Prop)(X:List PanicEntry->World->Prop):RT (K,X):=
 match f with
 | .func (.func k) first cap=>callable P k=true/\CA P k (first++args++cap) w K X
 | _=>False
def CI(P:Program)(v:Value)(name:String)(args:Array Value)(w:World)(K:Value->World->Prop)(X:List PanicEntry->World->Prop):RT (K,X):=
 match v with
 | .iface t x=>∃ f r,(method (P.types.size+Made.depth) t x name).run P w = .ok (f,r) w/\callable P f=true/\CA P f (#[r]++args) w K X
 | _=>False
def BS(v:Value)(A B:Prop):RT (A,B):=
 match v with
 | .bool c=>(c=true->A)/\(c=false->B)
 | _=>False
def PX(R:Ending->World->Prop)(v:Value)(w:World):Prop:=R (.panicked [{ v,recovered:=false }]) w
def PC(R:Ending->World->Prop)(ch:List PanicEntry)(w:World):Prop:=R (.panicked ch) w
def DF(v:Value)(K:Fn->Array Value->Array Value->Prop):RT K:=
 match v with
 | .func f x y=>K f x y
 | _=>False
def NC0(_:List PanicEntry)(_:World):Prop:=False
def NX(_:Value)(_:World):Prop:=False
def NC(v:Value)(K:Value->Prop):RT K:=
 match v with
 | .pointer (some a)=>K (.pointer (some a))
 | .iface t x=>K (.iface t x)
 | .func (.func f) x y=>K (.func (.func f) x y)
 | _=>False
def LoopW(F:((Nat->Value)->World->Prop)->(Nat->Value)->(Nat->Value)->World->Prop)(s0:Nat->Value)(w0:World):RT F:=
 ∃ I:Nat->(Nat->Value)->World->Prop,(∃ n,I n s0 w0)/\∀ n s d w,I n s w->F (fun s' w'=>∃ m,m<n/\I m s' w') s d w
def JN(F:((Nat->Value)->World->Prop)->Prop)(R:(Nat->Value)->(Nat->Value)->World->Prop):RT (F,R):=
 F fun s w=>∀ d,R s d w
def JS(F:((Nat->Value)->World->Prop)->Prop)(R:(Nat->Value)->(Nat->Value)->World->Prop):RT (F,R):=
 ∃ J:(Nat->Value)->World->Prop,F J/\∀ s w,J s w->∀ d,R s d w
def sOf:List (Nat×Value)->Nat->Value
 | [],_=>undef
 | (j,v)::r,i=>if j=i then v else sOf r i
def RDS(P:Program)(s:Sem Value)(S:World->Prop)(K:Value->Prop):RT (S,K):=
 ∃ v,(∀ w',S w'->s.run P w' = .ok v w')/\K v
def HD(F:(World->Prop)->Prop):RT F:=∃ S,F S
structure Cfg where
 P:Program
 B:TypeId->Bool
 calls:FuncId->Bool
 live:Nat->List Nat
 join:Nat->Option (List Nat)
 tail:Nat->Nat
 held:Nat->Option (List Nat)
 bl:Nat->List Nat
 bj:Nat->List Nat
 sum:Nat->Bool
 sy:Nat->Bool
structure Env where
 f:Nat->Value
 defers:List Deferred
def Env.eval(e:Env):Operand->Value
 | .tmp t=>e.f t
 | .const v=>v
 | .global g=>.pointer (some ⟨g,0,none⟩)
 | .func f=>.func (.func f) #[] #[]
def setF(f:Nat->Value)(d:Nat)(v:Value)(j:Nat):Value:=cond (Nat.beq j d) v (f j)
def Env.put(e:Env)(d:Option Tmp)(v:Value):Env:=
 match d with
 | some d=>{ e with f:=setF e.f d v }
 | none=>e
def yieldedE(ops:Array Oper)(e:Env)(j:Nat):Option Bool:=
 match (ops[j]?).bind (·.dst) with
 | some d=>match e.f d with
  | .bool b=>some b
  | _=>none
 | none=>none
def evs(a:Env)(l:Array Operand):Array Value:=(l.toList.map a.eval).toArray
def evp(a:Env)(l:Array (Nat×Operand)):Array (Nat×Value):=(l.toList.map fun x=>(x.1,a.eval x.2)).toArray
def evo(a:Env):Option Operand->Option Value
 | none=>none
 | some x=>some (a.eval x)
def early(C:Cfg)(o:Oper):Bool:=
 match o.dst with
 | some d=>!C.sy d
 | none=>true
def bso(C:Cfg)(o:Oper)(K:Value->Prop)(v:Value):Prop:=
 match C.B o.type && early C o with
 | true=>BS v (K (.bool true)) (K (.bool false))
 | false=>K v
def reading(a:Env)(o:Oper):Option (Sem Value):=
 match o.op with
 | .build t parts=>some (Instr.build t (evp a parts))
 | .load t x=>some (Instr.loadAt t (a.eval x))
 | .binOp op t x y _=>some (do eqGuard op t x y (a.eval x) (a.eval y);binOp op t (a.eval x) (a.eval y))
 | .unOp op _ x=>some (Op.unary op (a.eval x))
 | .slice t x lo hi mx=>some (Instr.sliceAt t (a.eval x) (evo a lo) (evo a hi) (evo a mx))
 | .fieldAddr s x f=>some (Instr.fieldAt s (a.eval x) f)
 | .field t x f=>some (Instr.field t (a.eval x) f)
 | .indexAddr t x i=>some (Instr.indexAt t (a.eval x) (a.eval i))
 | .index t x i=>some (Instr.index t (a.eval x) (a.eval i))
 | .lookup t x i ok=>some (Instr.lookup t (a.eval x) (a.eval i) ok)
 | .extract t i=>some (Instr.extract (a.eval t) i)
 | .typeAssert x t u ok=>some (Instr.typeAssert (a.eval x) t u ok)
 | .call { callee:=.builtin .len,args,argTypes }=>some (Builtin.len_ argTypes o.type (evs a args))
 | .call { callee:=.builtin .min,args,argTypes }=>some (Builtin.min_ argTypes o.type (evs a args))
 | .call { callee:=.builtin .max,args,argTypes }=>some (Builtin.max_ argTypes o.type (evs a args))
 | .panic x=>some (Instr.panic (a.eval x))
 | _=>none
def writing(a:Env)(o:Oper):Option (Sem Value):=
 match o.op with
 | .alloc t=>some (Instr.alloc t true (.tuple #[]))
 | .box t x=>some (Instr.box t (a.eval x))
 | .buildSlice t n parts=>some (Instr.buildSlice t n (evp a parts))
 | .convert s d x=>some (convert s d (a.eval x))
 | .makeInterface t x=>some (Instr.makeInterface t (a.eval x))
 | .makeFunc fn x y=>some (Instr.makeFunc fn (evs a x) (evs a y))
 | .makeMap t r=>some (Instr.makeMap t (evo a r))
 | .makeSlice t l c=>some (Instr.makeSlice t (a.eval l) (a.eval c))
 | .range t x=>some (Instr.range t (a.eval x))
 | .next it s=>some (Instr.next (a.eval it) s o.type)
 | .call { callee:=.builtin .append,args,argTypes }=>some (Builtin.append_ argTypes o.type (evs a args))
 | .call { callee:=.builtin .copy,args,argTypes }=>some (Builtin.copy_ argTypes o.type (evs a args))
 | _=>none
def pureW(a:Env)(o:Oper):Option (Sem Value):=
 match o.op with
 | .makeInterface t x=>some (Instr.makeInterface t (a.eval x))
 | .makeFunc fn x y=>some (Instr.makeFunc fn (evs a x) (evs a y))
 | _=>none
def silent(a:Env)(o:Oper):Option (Sem Unit):=
 match o.op with
 | .store t x y=>some (Instr.storeAt t (a.eval x) (a.eval y))
 | .mapUpdate t m k x | .insert t m k x=>some (Instr.mapUpdate t (a.eval m) (a.eval k) (a.eval x))
 | _=>none
def stp(C:Cfg)(o:Oper)(a:Env)(w:World)(next:Env->World->Prop)(Q:Exit->Env->World->Prop):Prop:=
 match o.op with
 | .move x | .assign x=>next (a.put o.dst (a.eval x)) w
 | .pick c x y=>match a.eval c with
  | .bool true=>next (a.put o.dst (a.eval x)) w
  | .bool false=>next (a.put o.dst (a.eval y)) w
  | _=>False
 | .nilCheck x=>NC (a.eval x) fun v=>next (a.put o.dst v) w
 | .defer { callee:=.value (.func k),args,.. }=>next ({ a with defers:={ target:=.fn (.func k) #[],args:=evs a args }::a.defers }.put o.dst undef) w
 | .defer { callee:=.value f,args,.. }=>DF (a.eval f) fun fn x y=>next ({ a with defers:={ target:=.fn fn y,args:=x++evs a args }::a.defers }.put o.dst undef) w
 | .call { callee:=.value (.func k),args,.. }=>match C.calls k with
  | true=>CA C.P k (evs a args) w (fun v w'=>bso C o (fun v=>next (a.put o.dst v) w') v) (fun ch w'=>Q (.panic ch) a w')
  | false=>False
 | .call { callee:=.value f,args,.. }=>CV C.P (a.eval f) (evs a args) w (fun v w'=>bso C o (fun v=>next (a.put o.dst v) w') v) (fun ch w'=>Q (.panic ch) a w')
 | .call { callee:=.invoke f m,args,.. }=>CI C.P (a.eval f) m (evs a args) w (fun v w'=>bso C o (fun v=>next (a.put o.dst v) w') v) (fun ch w'=>Q (.panic ch) a w')
 | _=>match reading a o with
  | some s=>RD C.P s w (bso C o fun v=>next (a.put o.dst v) w) (fun v w'=>Q (.panic [{ v,recovered:=false }]) a w')
  | none=>match writing a o with
   | some s=>WR C.P s w (fun v w'=>next (a.put o.dst v) w') (fun v w'=>Q (.panic [{ v,recovered:=false }]) a w')
   | none=>match silent a o with
    | some s=>WU C.P s w (fun w'=>next (a.put o.dst undef) w') (fun v w'=>Q (.panic [{ v,recovered:=false }]) a w')
    | none=>False
def wpcOps(C:Cfg)(ops:Array Oper)(Q:Exit->Env->World->Prop):List Oper->Env->World->Prop
 | [],a,w=>Q .normal a w
 | o::rest,a,w=>match Region.wanted o (yieldedE ops a) with
  | true=>stp C o a w (wpcOps C ops Q rest) Q
  | false=>wpcOps C ops Q rest (a.put o.dst undef) w
def stpS(C:Cfg)(o:Oper)(a:Env)(w:World)(next:Env->Prop):Prop:=
 match o.op with
 | .move x | .assign x=>next (a.put o.dst (a.eval x))
 | .pick c x y=>match a.eval c with
  | .bool true=>next (a.put o.dst (a.eval x))
  | .bool false=>next (a.put o.dst (a.eval y))
  | _=>False
 | .nilCheck x=>NC (a.eval x) fun v=>next (a.put o.dst v)
 | .call { callee:=.value (.func k),args,.. }=>match C.calls k with
  | true=>CQ C.P k (evs a args) w (bso C o fun v=>next (a.put o.dst v))
  | false=>False
 | _=>match reading a o with
  | some s=>RD C.P s w (bso C o fun v=>next (a.put o.dst v)) (fun _ _=>False)
  | none=>False
def wpcStill(C:Cfg)(ops:Array Oper)(w:World)(Q:Env->Prop):List Oper->Env->Prop
 | [],a=>Q a
 | o::rest,a=>match Region.wanted o (yieldedE ops a) with
  | true=>stpS C o a w (wpcStill C ops w Q rest)
  | false=>wpcStill C ops w Q rest (a.put o.dst undef)
def stpR(C:Cfg)(o:Oper)(a:Env)(S:World->Prop)(next:Env->Prop):Prop:=
 match o.op with
 | .move x | .assign x=>next (a.put o.dst (a.eval x))
 | .pick c x y=>match a.eval c with
  | .bool true=>next (a.put o.dst (a.eval x))
  | .bool false=>next (a.put o.dst (a.eval y))
  | _=>False
 | .nilCheck x=>NC (a.eval x) fun v=>next (a.put o.dst v)
 | _=>match reading a o with
  | some s=>RDS C.P s S (bso C o fun v=>next (a.put o.dst v))
  | none=>match pureW a o with
   | some s=>RDS C.P s S (fun v=>next (a.put o.dst v))
   | none=>False
def stillKind(a:Env)(o:Oper):Bool:=
 match o.op with
 | .move _ | .assign _ | .pick _ _ _ | .nilCheck _=>true
 | _=>(reading a o).isSome
def NP(Q:Exit->Env->World->Prop)(e:Exit)(a:Env)(w:World):Prop:=
 match e with
 | .panic _=>False
 | e=>Q e a w
def liveS(m:Option Nat)(listed:Array Bool):Bool:=
 match m with
 | none=>true
 | some m=>!listed.getD m true
def chainB(md:Region.Mode)(ops:Array Oper)(i m:Nat)(D:List Nat):Bool:=
 D.contains m && !D.contains i && D.all fun c=>match ops[c]? with
  | some o=>o.after.any fun e=>Region.binds md e && (e.on == i || D.contains e.on)
  | none=>false
def openB(listed:Array Bool)(D:List Nat):Bool:=D.all fun c=>!listed.getD c true
def descs(md:Region.Mode)(ops:Array Oper)(i:Nat):List Nat:=
 (List.range ops.size).foldl (fun D c=>match ops[c]? with
  | some o=>match o.after.any fun e=>Region.binds md e && (e.on == i || D.contains e.on) with
   | true=>c::D
   | false=>D
  | none=>D) []
def mayFirst(md:Region.Mode)(ops:Array Oper)(listed:Array Bool)(m:Option Nat)(i:Nat):Bool:=
 match m with
 | none=>true
 | some m=>chainB md ops i m (descs md ops i) && openB listed (descs md ops i)
def syn:Nat->Option Nat
 | 0=>none
 | m+1=>some m
def wpcH(C:Cfg)(ops:Array Oper)(Q:Exit->Env->World->Prop)(S:World->Prop)(m:Option Nat):List Nat->Array Bool->Env->World->Prop
 | [],listed,a,w=>match Region.ready .any ops listed with
  | []=>Q .normal a w
  | _=>False
 | i::r,listed,a,w=>match ops[i]? with
  | none=>False
  | some o=>match Region.ready .any ops listed == [i] with
   | true=>match Region.wanted o (yieldedE ops a) with
    | false=>wpcH C ops Q S m r (listed.setIfInBounds i true) (a.put o.dst undef) w
    | true=>match stillKind a o with
     | true=>stpS C o a w (fun a'=>wpcH C ops Q S m r (listed.setIfInBounds i true) a' w)
     | false=>match liveS m (listed.setIfInBounds i true) with
      | true=>stp C o a w (fun a' w'=>S w'/\wpcH C ops Q S m r (listed.setIfInBounds i true) a' w') (NP Q)
      | false=>stp C o a w (fun a' w'=>wpcH C ops Q S m r (listed.setIfInBounds i true) a' w') (NP Q)
   | false=>match (Region.ready .any ops listed).contains i && Region.free .any ops listed i && mayFirst .any ops listed m i with
    | false=>False
    | true=>match Region.wanted o (yieldedE ops a) with
     | false=>wpcH C ops Q S m r (listed.setIfInBounds i true) (a.put o.dst undef) w
     | true=>stpR C o a S (fun a'=>wpcH C ops Q S m r (listed.setIfInBounds i true) a' w)
def memB(i:Nat):List Nat->Bool
 | []=>false
 | j::r=>cond (Nat.beq i j) true (memB i r)
def frF(f:Nat->Value)(vs live:List Nat)(s d:Nat->Value)(j:Nat):Value:=cond (memB j live) (s j) (cond (memB j vs) (d j) (f j))
def fr(a:Env)(vs live:List Nat)(s d:Nat->Value):Env:={ a with f:=frF a.f vs live s d }
def thenE(next:Env->World->Prop)(Q:Exit->Env->World->Prop):Exit->Env->World->Prop
 | .normal,a,w=>next a w
 | e,a,w=>Q e a w
def inBlockE(id:Nat)(Q:Exit->Env->World->Prop):Exit->Env->World->Prop
 | .exit id',a,w=>cond (Nat.beq id' id) (Q .normal a w) (Q (.exit id') a w)
 | e,a,w=>Q e a w
def dsts(ops:List Oper):List Nat:=
 match ops with
 | []=>[]
 | o::r=>match o.dst with
  | some d=>d::dsts r
  | none=>dsts r
def wr:Code->List Nat
 | .region _ ops _=>dsts ops.toList
 | .seq a b=>wr a++wr b
 | .cond _ a b=>wr a++wr b
 | .block _ c=>wr c
 | .loop c=>wr c
 | .scope c=>wr c
 | _=>[]
def isDefer(o:Oper):Bool:=
 match o.op with
 | .defer _=>true
 | _=>false
def nd:Code->Bool
 | .region _ ops _=>ops.toList.all fun o=>!isDefer o
 | .seq a b=>nd a && nd b
 | .cond _ a b=>nd a && nd b
 | .block _ c=>nd c
 | .loop c=>nd c
 | .scope c=>nd c
 | _=>true
def regs:Code->List Nat
 | .region id _ _=>[id]
 | .seq a b=>regs a++regs b
 | .cond _ a b=>regs a++regs b
 | .block _ c=>regs c
 | .loop c=>regs c
 | .scope c=>regs c
 | _=>[]
def firstReg(c:Code):Nat:=
 match regs c with
 | i::_=>i
 | []=>1000000
def joinKey(x:Code):Nat:=
 match (regs x).reverse with
 | i::r=>i*1000+r.length
 | []=>1000000000
def vals(a:Env)(live:List Nat):List (Nat×Value):=live.map fun i=>(i,a.f i)
def bsl:List Nat->Env->(Env->Prop)->Prop
 | [],a,K=>K a
 | i::r,a,K=>BS (a.f i) (bsl r (a.put (some i) (.bool true)) K) (bsl r (a.put (some i) (.bool false)) K)
def drawOk(ops:Array Oper)(n:Nat):Bool:=
 if n=ops.size then Region.lexB .any ops else Region.lexTailB .any ops n
def noGotoE(Q:Exit->Env->World->Prop):Exit->Env->World->Prop
 | .goto _,_,_=>False
 | e,a,w=>Q e a w
def symO(C:Cfg):Operand->Bool
 | .tmp t=>C.sy t
 | _=>false
def wpc(C:Cfg):Code->(Exit->Env->World->Prop)->Env->World->Prop
 | .skip,Q,a,w=>Q .normal a w
 | .region id ops draw,Q,a,w=>match draw with
  | false=>wpcOps C ops Q ops.toList a w
  | true=>match C.held id with
   | some []=>False
   | some (m::ord)=>match ord.length == ops.size && Region.noSelect ops with
    | true=>HD fun S=>S w.drew/\wpcH C ops Q S (syn m) ord (Array.replicate ops.size false) a w.drew
    | false=>False
   | none=>match drawOk ops (C.tail id) with
    | true=>wpcStill C ops w.drew (fun a'=>wpcOps C ops Q (ops.toList.drop (C.tail id)) a' w.drew) (ops.toList.take (C.tail id)) a
    | false=>False
 | .seq x y,Q,a,w=>match C.join (joinKey x) with
  | none=>wpc C x (thenE (wpc C y Q) Q) a w
  | some live=>match nd x with
    | true=>match C.sum (joinKey x) with
     | false=>JN (fun j=>wpc C x (thenE (fun a' w'=>j (sOf (vals a' live)) w') Q) a w) (fun s d w=>bsl (C.bj (joinKey x)) (fr a (wr x) live s d) fun a=>wpc C y Q a w)
     | true=>JS (fun j=>wpc C x (thenE (fun a' w'=>j (sOf (vals a' live)) w') Q) a w) (fun s d w=>bsl (C.bj (joinKey x)) (fr a (wr x) live s d) fun a=>wpc C y Q a w)
    | false=>False
 | .cond c x y,Q,a,w=>match symO C c with
  | true=>BS (a.eval c) (wpc C x Q a w) (wpc C y Q a w)
  | false=>match a.eval c with
    | .bool true=>wpc C x Q a w
    | .bool false=>wpc C y Q a w
    | _=>False
 | .block id c,Q,a,w=>wpc C c (inBlockE id Q) a w
 | .exit id,Q,a,w=>Q (.exit id) a w
 | .loop c,Q,a,w=>match nd c with
  | true=>LoopW (fun rec s d w=>bsl (C.bl (firstReg c)) (fr a (wr c) (C.live (firstReg c)) s d) fun a=>wpc C c (thenE (fun a' w'=>rec (sOf (vals a' (C.live (firstReg c)))) w') Q) a w)
     (sOf (vals a (C.live (firstReg c)))) w
  | false=>False
 | .ret,Q,a,w=>Q .ret a w
 | .label _,Q,a,w=>Q .normal a w
 | .scope c,Q,a,w=>wpc C c (noGotoE Q) a w
 | _,_,_,_=>False
structure Good(C:Cfg):Prop where
 mixed:C.P.follows .mixedOrders=true
 calls:∀ k,C.calls k=true->callable C.P k=true
structure Agr(vs:List Nat)(n:Bool)(a a':Act):Prop where
 get:∀ i,i ∉ vs->a'.tmps[i]?=a.tmps[i]?
 size:a'.tmps.size=a.tmps.size
 defs:n=true->a'.defers=a.defers
structure Rel(vs:List Nat)(a:Act)(e:Env):Prop where
 get:∀ i,a.tmps.getD i undef=e.f i
 defs:a.defers=e.defers
 lt:∀ i∈vs,i<a.tmps.size
theorem Rel.eval{vs:List Nat}{a:Act}{e:Env}(h:Rel vs a e):a.eval=e.eval:=by
 funext x
 cases x with
 | tmp t=>exact h.get t
 | _=>rfl
theorem Rel.put{vs:List Nat}{a:Act}{e:Env}(h:Rel vs a e){d:Option Nat}(hd:∀ t,d=some t->t∈vs)(v:Value):Rel vs (a.put d v) (e.put d v):=by
 cases d with
 | none=>exact h
 | some d=>
  have hl:=h.lt d (hd d rfl)
  refine⟨fun i=>?_,h.defs,fun i hi=>by simp only[Act.put,Array.size_setIfInBounds];exact h.lt i hi⟩
  have hg:=h.get i
  simp only[Array.getD_eq_getD_getElem?] at hg
  simp only[Act.put,Env.put,setF,Array.getD_eq_getD_getElem?,Array.getElem?_setIfInBounds]
  by_cases e1:d=i
  ·subst e1
   simp [hl]
  ·have e2:Nat.beq i d=false:=by
    cases hb:Nat.beq i d
    ·rfl
    ·exact absurd (Nat.eq_of_beq_eq_true hb).symm e1
   rw[if_neg e1,e2]
   exact hg
theorem Rel.yield{vs:List Nat}{a:Act}{e:Env}(h:Rel vs a e)(ops:Array Oper):yielded ops a.tmps=yieldedE ops e:=by
 funext j
 unfold yielded yieldedE
 cases (ops[j]?).bind (·.dst) with
 | none=>rfl
 | some d=>
  have hg:=h.get d
  simp only[Array.getD_eq_getD_getElem?] at hg
  simp only[Option.bind_some]
  cases hx:a.tmps[d]? with
  | none=>rw[hx] at hg;rw[<- hg];rfl
  | some v=>rw[hx] at hg;rw[<- hg];cases v<;>rfl
theorem evs_eq(a:Env)(l:Array Operand):l.map a.eval=evs a l:=by
 apply Array.ext'
 simp [evs]
theorem evp_eq(a:Env)(l:Array (Nat×Operand)):(l.map fun(i,x)=>(i,a.eval x))=evp a l:=by
 apply Array.ext'
 simp [evp]
theorem evo_eq(a:Env)(x:Option Operand):x.map a.eval=evo a x:=by cases x<;>rfl
theorem reading_exec{a:Env}{o:Oper}{s:Sem Value}(h:reading a o=some s):execOp a.eval o=(do pure (.value (<- s))):=by
 obtain⟨dst,op,type,pos,after,guard⟩:=o
 unfold reading at h
 dsimp only at h
 split at h<;>first
  | (cases h;done)
  | (injection h with h;subst h;simp only[execOp,evp_eq,evo_eq];done)
  | (injection h with h;subst h;simp only[execOp,resolve,invoke,builtin,evs_eq];rfl)
theorem writing_exec{a:Env}{o:Oper}{s:Sem Value}(h:writing a o=some s):execOp a.eval o=(do pure (.value (<- s))):=by
 obtain⟨dst,op,type,pos,after,guard⟩:=o
 unfold writing at h
 dsimp only at h
 split at h<;>first
  | (cases h;done)
  | (injection h with h;subst h;simp only[execOp,evp_eq,evs_eq,evo_eq];done)
  | (injection h with h;subst h;simp only[execOp,resolve,invoke,builtin,evs_eq];rfl)
theorem pureW_writing{a:Env}{o:Oper}{s:Sem Value}(h:pureW a o=some s):writing a o=some s:=by
 obtain⟨dst,op,type,pos,after,guard⟩:=o
 unfold pureW at h
 dsimp only at h
 split at h<;>first
  | (cases h;done)
  | (subst_vars;exact h)
theorem silent_exec{a:Env}{o:Oper}{s:Sem Unit}(h:silent a o=some s):execOp a.eval o=(do s;pure .skip):=by
 obtain⟨dst,op,type,pos,after,guard⟩:=o
 unfold silent at h
 dsimp only at h
 split at h<;>first
  | (cases h;done)
  | (injection h with h;subst h;simp only[execOp];done)
theorem run_value(P:Program)(s:Sem Value)(w:World):((do pure (.value (<- s))):Sem Next).run P w =
  match s.run P w with | .ok v w'=>.ok (.value v) w' | .halt h w'=>.halt h w':=by
 rw[Sem.run_bind]
 cases s.run P w<;>rfl
theorem run_silent(P:Program)(s:Sem Unit)(w:World):((do s;pure .skip):Sem Next).run P w =
  match s.run P w with | .ok _ w'=>.ok .skip w' | .halt h w'=>.halt h w':=by
 rw[Sem.run_bind]
 cases s.run P w<;>rfl
theorem bs_mono{C:Cfg}{o:Oper}{K K':Value->Prop}(h:∀ v,K v->K' v){v:Value}(hb:bso C o K v):K' v:=by
 unfold bso at hb
 split at hb
 ·unfold BS at hb
  split at hb
  ·rename_i c
   cases c
   ·exact h _ (hb.2 rfl)
   ·exact h _ (hb.1 rfl)
  ·exact hb.elim
 ·exact h _ hb
theorem callable_exec{P:Program}{k:FuncId}(h:callable P k=true)(args:Array Value)(w:World):(callFunc k args).run P w = .ok (.enter k args) w:=by
 unfold callable at h
 split at h
 ·rename_i fn hf
  simp only[Bool.and_eq_true,Bool.not_eq_true',beq_eq_false_iff_ne] at h
  obtain⟨h1,h2⟩:=h
  obtain⟨b,hb⟩:=Option.isSome_iff_exists.1 h1
  unfold callFunc
  simp [Sem.run_bind,program,Sem.run,hf,h2,hb,Result.andThen]
 ·cases h
abbrev Nx(vs:List Nat)(o:Oper)(e:Env)(next:Env->World->Prop)(next':Act->World->Prop):Prop:=
 ∀ (e':Env) (a':Act) (w':World),Rel vs a' e'->(∀ t,o.dst=some t->t∈vs)->(∃ v,e'=e.put o.dst v\/∃ d,isDefer o=true/\e'=({ e with defers:=d::e.defers }:Env).put o.dst v)->next e' w'->next' a' w'
section
variable{C:Cfg}{vs:List Nat}{o:Oper}{a:Act}{e:Env}{w:World}{next:Env->World->Prop}{next':Act->World->Prop}{Q:Exit->Env->World->Prop}{Q':Exit->Act->World->Prop}
theorem ca_upon{k:FuncId}{args:Array Value}(hr:Rel vs a e)(hd:∀ t,o.dst=some t->t∈vs)(hn:Nx vs o e next next')(hq:∀ ch w',Q (.panic ch) e w'->Q' (.panic ch) a w')
  (h:CA C.P k args w (fun v w'=>bso C o (fun v=>next (e.put o.dst v) w') v) (fun ch w'=>Q (.panic ch) e w')) :
  o.upon C.P a next' Q' (.ok (.enter k args) w):=by
 unfold Oper.upon
 refine Calls.mono h fun x w' he=>?_
 cases x with
 | returned v=>exact bs_mono (K:=fun v=>next (e.put o.dst v) w') (K':=fun v=>next' (a.put o.dst v) w') (fun v hv=>hn _ _ _ (hr.put hd v) hd ⟨v,.inl rfl⟩ hv) he
 | panicked ch=>exact hq _ _ he
 | outgrown=>exact he.elim
theorem rd_upon{s:Sem Value}(hs:execOp a.eval o=(do pure (.value (<- s))))(hr:Rel vs a e)(hd:∀ t,o.dst=some t->t∈vs)(hn:Nx vs o e next next')(hq:∀ ch w',Q (.panic ch) e w'->Q' (.panic ch) a w')
  (h:RD C.P s w (bso C o fun v=>next (e.put o.dst v) w) (fun v w'=>Q (.panic [{ v,recovered:=false }]) e w')):o.wp C.P a w next' Q':=by
 unfold Oper.wp
 rw[hs,run_value]
 unfold RD at h
 cases hx:s.run C.P w with
 | ok v w'=>
  rw[hx] at h
  obtain⟨rfl,h⟩:=h
  exact bs_mono (K:=fun v=>next (e.put o.dst v) w') (K':=fun v=>next' (a.put o.dst v) w') (fun v hv=>hn _ _ _ (hr.put hd v) hd ⟨v,.inl rfl⟩ hv) h
 | halt x w'=>
  rw[hx] at h
  cases x<;>first | exact h.elim | exact hq _ _ h
theorem wr_upon{s:Sem Value}(hs:execOp a.eval o=(do pure (.value (<- s))))(hr:Rel vs a e)(hd:∀ t,o.dst=some t->t∈vs)(hn:Nx vs o e next next')(hq:∀ ch w',Q (.panic ch) e w'->Q' (.panic ch) a w')
  (h:WR C.P s w (fun v w'=>next (e.put o.dst v) w') (fun v w'=>Q (.panic [{ v,recovered:=false }]) e w')):o.wp C.P a w next' Q':=by
 unfold Oper.wp
 rw[hs,run_value]
 unfold WR at h
 cases hx:s.run C.P w with
 | ok v w'=>rw[hx] at h;exact hn _ _ _ (hr.put hd v) hd ⟨v,.inl rfl⟩ h
 | halt x w'=>
  rw[hx] at h
  cases x<;>first | exact h.elim | exact hq _ _ h
theorem wu_upon{s:Sem Unit}(hs:execOp a.eval o=(do s;pure .skip))(hr:Rel vs a e)(hd:∀ t,o.dst=some t->t∈vs)(hn:Nx vs o e next next')(hq:∀ ch w',Q (.panic ch) e w'->Q' (.panic ch) a w')
  (h:WU C.P s w (fun w'=>next (e.put o.dst undef) w') (fun v w'=>Q (.panic [{ v,recovered:=false }]) e w')):o.wp C.P a w next' Q':=by
 unfold Oper.wp
 rw[hs,run_silent]
 unfold WU at h
 cases hx:s.run C.P w with
 | ok v w'=>rw[hx] at h;exact hn _ _ _ (hr.put hd _) hd ⟨undef,.inl rfl⟩ h
 | halt x w'=>
  rw[hx] at h
  cases x<;>first | exact h.elim | exact hq _ _ h
theorem pure_upon{v:Value}(hs:execOp a.eval o=pure (.value v))(h:next' (a.put o.dst v) w):o.wp C.P a w next' Q':=by
 unfold Oper.wp
 rw[hs]
 exact h
end
theorem nc_exec{a:Env}{o:Oper}{x:Operand}{K:Value->Prop}(ho:o.op = .nilCheck x)(h:NC (a.eval x) K):execOp a.eval o=pure (.value (a.eval x))/\K (a.eval x):=by
 unfold NC at h
 unfold execOp
 rw[ho]
 dsimp only
 generalize a.eval x=v at *
 split at h<;>first | exact h.elim | exact⟨rfl,h⟩
theorem method_exec{P:Program}{t:TypeId}{x r:Value}{m:String}{k:FuncId}{w:World}(h1:(method (P.types.size+Made.depth) t x m).run P w = .ok (k,r) w)(h2:callable P k=true)
  (args:Array Value):(callMethod (.iface t x) m args).run P w = .ok (.enter k (#[r]++args)) w:=by
 show(Sem.bind program fun p=>Sem.bind (method (p.types.size+Made.depth) t x m) fun y=>callFunc y.1 (#[y.2]++args)).run P w=_
 have e1:∀ {α β:Type} (s:Sem α) (f:α->Sem β) (w:World),(Sem.bind s f).run P w=(s.run P w).andThen fun a w=>(f a).run P w:=fun s f w=>Sem.run_bind' P s f w
 rw[e1]
 show(Sem.bind (method (P.types.size+Made.depth) t x m) fun y=>callFunc y.1 (#[y.2]++args)).run P w=_
 rw[e1,h1]
 exact callable_exec h2 _ _
theorem stp_sound{C:Cfg}(G:Good C){vs:List Nat}{o:Oper}{a:Act}{e:Env}{w:World}{next:Env->World->Prop}{next':Act->World->Prop}{Q:Exit->Env->World->Prop}{Q':Exit->Act->World->Prop}
  (hr:Rel vs a e) (hd:∀ t,o.dst=some t->t∈vs) (hn:Nx vs o e next next') (hq:∀ ch w',Q (.panic ch) e w'->Q' (.panic ch) a w')
  (h:stp C o e w next Q):o.wp C.P a w next' Q':=by
 have he:=hr.eval
 have hgo:∀ v,next (e.put o.dst v) w->next' (a.put o.dst v) w:=fun v hv=>hn _ _ _ (hr.put hd v) hd ⟨v,.inl rfl⟩ hv
 unfold stp at h
 split at h
 ·rename_i x ho
  exact pure_upon (C:=C) (by rw[he];unfold execOp;rw[ho]) (hgo _ h)
 ·rename_i x ho
  exact pure_upon (C:=C) (by rw[he];unfold execOp;rw[ho]) (hgo _ h)
 ·rename_i c x y ho
  split at h
  ·rename_i hc
   exact pure_upon (C:=C) (v:=e.eval x) (by rw[he];unfold execOp;rw[ho];simp only[hc];rfl) (hgo _ h)
  ·rename_i hc
   exact pure_upon (C:=C) (v:=e.eval y) (by rw[he];unfold execOp;rw[ho];simp only[hc];rfl) (hgo _ h)
  ·exact h.elim
 ·rename_i x ho
  obtain⟨h1,h2⟩:=nc_exec ho h
  exact pure_upon (C:=C) (by rw[he];exact h1) (hgo _ h2)
 ·rename_i k args tys ho
  unfold Oper.wp
  have:execOp a.eval o=pure (.defer { target:=.fn (.func k) #[],args:=evs e args }):=by
   rw[he]
   unfold execOp
   rw[ho]
   simp only[resolve,evs_eq,Env.eval,Deferred.ofValue]
   simp only[Array.empty_append]
   rfl
  rw[this]
  have hid:isDefer o=true:=by unfold isDefer;rw[ho]
  have hr':Rel vs { a with defers:={ target:=.fn (.func k) #[],args:=evs e args }::a.defers } ({ e with defers:={ target:=.fn (.func k) #[],args:=evs e args }::e.defers }:Env):=
   ⟨hr.get,by show _::_=_::_;rw[hr.defs],hr.lt⟩
  exact hn _ _ _ (hr'.put hd undef) hd ⟨undef,.inr ⟨_,hid,rfl⟩⟩ h
 ·rename_i f args tys hne ho
  unfold DF at h
  split at h
  ·rename_i fn x y hf
   unfold Oper.wp
   have:execOp a.eval o=pure (.defer { target:=.fn fn y,args:=x++evs e args }):=by
    rw[he]
    unfold execOp
    rw[ho]
    simp only[resolve,evs_eq,hf,Deferred.ofValue]
    rfl
   rw[this]
   have hid:isDefer o=true:=by unfold isDefer;rw[ho]
   have hr':Rel vs { a with defers:={ target:=.fn fn y,args:=x++evs e args }::a.defers } ({ e with defers:={ target:=.fn fn y,args:=x++evs e args }::e.defers }:Env):=
    ⟨hr.get,by show _::_=_::_;rw[hr.defs],hr.lt⟩
   exact hn _ _ _ (hr'.put hd undef) hd ⟨undef,.inr ⟨_,hid,rfl⟩⟩ h
  ·exact h.elim
 ·rename_i k args tys ho
  split at h
  ·rename_i hk
   unfold Oper.wp
   have:(execOp a.eval o).run C.P w = .ok (.enter k (evs e args)) w:=by
    rw[he]
    unfold execOp
    rw[ho]
    simp only[resolve,evs_eq,Env.eval,Deferred.ofValue,Array.empty_append]
    show(callFunc k (evs e args++#[])).run C.P w=_
    rw[Array.append_empty]
    exact callable_exec (G.calls k hk) _ _
   rw[this]
   exact ca_upon hr hd hn hq h
  ·exact h.elim
 ·rename_i f args tys hnf ho
  unfold CV at h
  split at h
  ·rename_i k first cap hv
   unfold Oper.wp
   have:(execOp a.eval o).run C.P w = .ok (.enter k (first++evs e args++cap)) w:=by
    rw[he]
    unfold execOp
    rw[ho]
    simp only[resolve,evs_eq,hv,Deferred.ofValue]
    show(callFunc k (first++evs e args++cap)).run C.P w=_
    exact callable_exec h.1 _ _
   rw[this]
   exact ca_upon hr hd hn hq h.2
  ·exact h.elim
 ·rename_i f m args tys ho
  unfold CI at h
  split at h
  ·rename_i t x hv
   obtain⟨k,r,h1,h2,h3⟩:=h
   unfold Oper.wp
   have:(execOp a.eval o).run C.P w = .ok (.enter k (#[r]++evs e args)) w:=by
    rw[he]
    unfold execOp
    rw[ho]
    simp only[resolve,evs_eq,hv]
    show(invoke (.fn (.method m) #[]) (#[.iface t x]++evs e args)).run C.P w=_
    have e1:(#[Value.iface t x]++evs e args)[0]?=some (.iface t x):=by rw[Array.getElem?_append_left (by simp)];rfl
    have e2:(#[Value.iface t x]++evs e args).extract 1 (#[Value.iface t x]++evs e args).size=evs e args:=by
     apply Array.ext'
     rw[Array.toList_extract]
     simp only[Array.toList_append,List.cons_append,List.nil_append,Array.size_append,List.size_toArray,List.length_cons,List.length_nil,List.drop_succ_cons,List.drop_zero,List.extract_eq_take_drop]
     rw[show 0+1+(evs e args).size-1=(evs e args).toList.length by simp]
     exact List.take_length
    have e3:invoke (.fn (.method m) #[]) (#[Value.iface t x]++evs e args)=callMethod (.iface t x) m (evs e args):=by
     unfold invoke
     dsimp only
     rw[e1,e2]
    rw[e3]
    exact method_exec h1 h2 _
   rw[this]
   exact ca_upon hr hd hn hq h3
  ·exact h.elim
 ·split at h
  ·rename_i s hs
   exact rd_upon (by rw[he];exact reading_exec hs) hr hd hn hq h
  ·split at h
   ·rename_i s hs
    exact wr_upon (by rw[he];exact writing_exec hs) hr hd hn hq h
   ·split at h
    ·rename_i s hs
     exact wu_upon (by rw[he];exact silent_exec hs) hr hd hn hq h
    ·exact h.elim
section
variable{P:Program}{ops:Array Oper}{Q:Exit->Act->World->Prop}{md:Region.Mode}{S:World->Prop}{m:Option Nat}
def wpAnyG(P:Program)(md:Region.Mode)(ops:Array Oper)(Q:Exit->Act->World->Prop)(S:World->Prop)(m:Option Nat):Nat->Array Bool->Act->World->Prop
 | 0,listed,a,w=>Region.ready md ops listed=[]/\Q .normal a w
 | n+1,listed,a,w=>(Region.ready md ops listed=[]->Q .normal a w) /\
  ∀ j∈Region.ready md ops listed,wpOp P ops Q j (fun a' w'=>(liveS m (listed.setIfInBounds j true)=true->S w')/\wpAnyG P md ops Q S m n (listed.setIfInBounds j true) a' w') a w
theorem wpAny_of_G:∀ (n:Nat) (listed:Array Bool) (a:Act) (w:World),wpAnyG P md ops Q S m n listed a w->wpAny P md ops Q n listed a w
 | 0,_,_,_,h=>h
 | n+1,_,_,_,h=>⟨h.1,fun j hj=>wpOp_mono (fun a' w' h'=>wpAny_of_G n _ a' w' h'.2) (h.2 j hj)⟩
theorem not_ready_of{listed:Array Bool}{i m j:Nat}{D:List Nat}(hc:chainB md ops i m D=true)(ho:openB listed D=true)(hi:listed.getD i true=false)
  (hj:j∈Region.ready md ops listed):j ∉ D:=by
 intro hjD
 simp only[chainB,Bool.and_eq_true,List.all_eq_true] at hc
 simp only[openB,List.all_eq_true,Bool.not_eq_true'] at ho
 obtain⟨_,oj,hoj,hall⟩:=mem_ready.1 hj
 have h1:=hc.2 j hjD
 rw[hoj] at h1
 obtain⟨e,he,hb⟩:=Array.any_eq_true'.1 h1
 simp only[Bool.and_eq_true,Bool.or_eq_true,beq_iff_eq,List.contains_iff_mem] at hb
 have h2:=hall e he hb.1
 have h3:listed.getD e.on true=false:=by
  rcases hb.2 with h | h
  ·rw[h];exact hi
  ·exact ho _ h
 rcases Nat.lt_or_ge e.on listed.size with h' | h'
 ·simp [h'] at h2 h3;rw[h2] at h3;cases h3
 ·simp [Array.getElem?_eq_none h'] at h3
theorem wpAnyG_first{i:Nat}{oi:Oper}{v:Value}(hi:ops[i]?=some oi)(hsel:∀ (j:Nat) (o:Oper) cs b,ops[j]?=some o->o.op≠.select cs b)
  (hQ:∀ c a w,Q (.panic c) (a.put oi.dst v) w->Q (.panic c) a w) {D:List Nat} (hD:∀ m',m=some m'->chainB md ops i m' D=true) :
  ∀ (n:Nat) (listed:Array Bool) (a:Act) (w:World),
   (∀ j oj,ops[j]?=some oj->j≠i->listed.getD j true=false->(∀ e∈oj.after,Region.binds md e=true->e.on≠i)->oi.apart ops oj=true) ->
   (∀ m',m=some m'->openB listed D=true) ->
   i∈Region.ready md ops listed->YieldsIf P ops S oi v a->S w ->
   wpAnyG P md ops Q S m n (listed.setIfInBounds i true) (a.put oi.dst v) w->wpAnyG P md ops Q S m (n+1) listed a w:=by
 intro n
 induction n with
 | zero=>
  intro listed a w _ _ hr hy hS H
  refine⟨fun h=>(by rw[h] at hr;cases hr),fun j hj=>?_⟩
  by_cases hji:j=i
  ·subst hji;exact hy.wpOp hi hS ⟨fun _=>hS,H⟩
  ·have:=ready_mono hj hji
   rw[H.1] at this
   cases this
 | succ n ih=>
  intro listed a w hfree ho hr hy hS H
  refine⟨fun h=>(by rw[h] at hr;cases hr),fun j hj=>?_⟩
  by_cases hji:j=i
  ·subst hji;exact hy.wpOp hi hS ⟨fun _=>hS,H⟩
  ·have h1:=H.2 j (ready_mono hj hji)
   obtain⟨hjun,oj,hoj,hall⟩:=mem_ready.1 hj
   have hiun:=(mem_ready.1 hr).1
   have hnot:∀ e∈oj.after,Region.binds md e=true->e.on≠i:=fun e he hb heq=>by
    have h1:=hall e he hb
    rw[heq] at h1
    rcases Nat.lt_or_ge i listed.size with h' | h'
    ·simp [h'] at hiun h1;rw[hiun] at h1;cases h1
    ·simp [Array.getElem?_eq_none h'] at h1
   have hjD:∀ m',m=some m'->j ∉ D:=fun m' e=>not_ready_of (hD m' e) (ho m' e) hiun hj
   have hop:∀ m',m=some m'->openB (listed.setIfInBounds j true) D=true:=fun m' e=>by
    have h2:=ho m' e
    simp only[openB,List.all_eq_true,Bool.not_eq_true'] at h2 ⊢
    intro c hc
    have hjc:j≠c:=fun e2=>hjD m' e (by rw[e2];exact hc)
    rw[getD_set_ne true hjc]
    exact h2 c hc
   have hlive:liveS m ((listed.setIfInBounds i true).setIfInBounds j true)=true:=by
    cases m with
    | none=>rfl
    | some m'=>
     have h2:=hop m' rfl
     have h3:=hD m' rfl
     simp only[chainB,Bool.and_eq_true,List.contains_iff_mem,Bool.not_eq_true',List.contains_eq_mem,decide_eq_false_iff_not,decide_eq_true_eq] at h3
     simp only[openB,List.all_eq_true,Bool.not_eq_true'] at h2
     have h4:=h2 m' h3.1.1
     simp only[liveS,Bool.not_eq_true']
     have him:i≠m':=fun e=>h3.1.2 (by rw[e];exact h3.1.1)
     rw[Array.setIfInBounds_comm _ _ (Ne.symm hji),getD_set_ne true him]
     exact h4
   have h2:=wpOp_putIf hoj (hfree j oj hoj hji hjun hnot) (fun cs b=>hsel i oi cs b hi) (fun cs b=>hsel j oj cs b hoj) hQ hy h1
   have hfree':∀ k ok,ops[k]?=some ok->k≠i->(listed.setIfInBounds j true).getD k true=false ->
     (∀ e∈ok.after,Region.binds md e=true->e.on≠i)->oi.apart ops ok=true:=fun k ok hk hki hun hno=>by
    refine hfree k ok hk hki ?_ hno
    by_cases hjk:j=k
    ·subst hjk;exact hjun
    ·rw[getD_set_ne true hjk] at hun;exact hun
   refine wpOp_mono (fun a' w' h3=>⟨fun _=>h3.2.1 hlive,ih (listed.setIfInBounds j true) a' w' hfree' hop (ready_mono hr (Ne.symm hji)) h3.1 (h3.2.1 hlive) ?_⟩) h2
   rw[Array.setIfInBounds_comm _ _ hji]
   exact h3.2.2
theorem mayFirst_spec{listed:Array Bool}{i:Nat}(h:mayFirst md ops listed m i=true) :
  (∀ m',m=some m'->chainB md ops i m' (descs md ops i)=true)/\(∀ m',m=some m'->openB listed (descs md ops i)=true)/\liveS m listed=true:=by
 cases m with
 | none=>exact⟨fun _ e=>(nomatch e),fun _ e=>(nomatch e),rfl⟩
 | some m'=>
  simp only[mayFirst,Bool.and_eq_true] at h
  refine⟨fun _ e=>Option.some.inj e ▸ h.1,fun _ _=>h.2,?_⟩
  have h1:=h.1
  have h2:=h.2
  simp only[chainB,Bool.and_eq_true,List.contains_iff_mem,List.contains_eq_mem,decide_eq_true_eq] at h1
  simp only[openB,List.all_eq_true,Bool.not_eq_true'] at h2
  simp only[liveS,Bool.not_eq_true']
  exact h2 m' h1.1.1
end
end Go.Proofs.YtilpjhceemaplaaGreatDoor.Sx
namespace Go.Proofs.YtilpjhceemaplaaGreatDoor
open Go.RowKit
theorem cellOf{w:World}{b:Nat}{cs:Array Value}{T:TypeId}{z:Nat×Nat}(h:w.heap[b]?=some (.cells cs T z)){o:Nat}{v:Value}
  (hv:cs[o]?=some v):w.cell? ⟨b,o,none⟩=some v:=by
 simp [World.cell?,h,hv]
theorem freeOf{w:World}{b:Nat}{cs:Array Value}{T:TypeId}(h:w.heap[b]?=some (.cells cs T (0,0)))(o:Nat):w.frozen? ⟨b,o,none⟩=false:=by
 simp [World.frozen?,h]
theorem ltOf{w:World}{b:Nat}{o:Obj}(h:w.heap[b]?=some o):b<w.heap.size:=by
 rcases Nat.lt_or_ge b w.heap.size with h' | h'
 ·exact h'
 ·rw[Array.getElem?_eq_none h'] at h;cases h
theorem blk_alloc_new(w:World)(o:Obj):(w.alloc o).heap[w.heap.size]?=some o:=by
 show(w.heap.push o)[w.heap.size]?=_
 simp
theorem blk_alloc_old{w:World}{o x:Obj}{b:Nat}(h:w.heap[b]?=some x):(w.alloc o).heap[b]?=some x:=by
 have:=ltOf h
 show(w.heap.push o)[b]?=_
 rw[Array.getElem?_push_lt this,<- h,Array.getElem?_eq_getElem this]
theorem size_alloc(w:World)(o:Obj):(w.alloc o).heap.size=w.heap.size+1:=by
 show(w.heap.push o).size=_
 simp
theorem size_setCell(w:World)(a:Addr)(v:Value):(w.setCell a v).heap.size=w.heap.size:=by simp [World.setCell]
theorem size_drew(w:World):w.drew.heap.size=w.heap.size:=rfl
theorem size_drewN(w:World)(n:Nat):(w.drewN n).heap.size=w.heap.size:=rfl
theorem blk_setCell_same{w:World}{b o:Nat}{cs:Array Value}{T:TypeId}{z:Nat×Nat}(h:w.heap[b]?=some (.cells cs T z))(v:Value) :
  (w.setCell ⟨b,o,none⟩ v).heap[b]?=some (.cells (cs.setIfInBounds o v) T z):=by
 simp [World.setCell,Array.getElem?_modify,h]
theorem blk_setCell_other{w:World}{a:Addr}{b:Nat}(h:b≠a.block)(v:Value):(w.setCell a v).heap[b]?=w.heap[b]?:=by
 simp [World.setCell,Array.getElem?_modify,Ne.symm h]
theorem cellExt{w w':World}{a:Addr}{v:Value}(h:w.cell? a=some v)(hw:∀ (b:Nat) (o:Obj),w.heap[b]?=some o->w'.heap[b]?=some o):w'.cell? a=some v:=by
 cases hb:w.heap[a.block]? with
 | none=>simp [World.cell?,hb] at h
 | some o=>rw[World.cell?_of_block (w:=w) (w':=w') (by rw[hw _ _ hb,hb])];exact h
structure FrM(M:Nat->Obj->Prop)(w w':World):Prop where
 os:w'.os=w.os
 tape:w'.tape=w.tape
 output:w'.output=w.output
 size:w.heap.size≤w'.heap.size
 block:∀ b o,w.heap[b]?=some o->¬ M b o->w'.heap[b]?=some o
theorem FrM.refl(M:Nat->Obj->Prop)(w:World):FrM M w w:=⟨rfl,rfl,rfl,Nat.le_refl _,fun _ _ h _=>h⟩
theorem FrM.trans{M:Nat->Obj->Prop}{a b c:World}(h:FrM M a b)(k:FrM M b c):FrM M a c:=
 ⟨k.os.trans h.os,k.tape.trans h.tape,k.output.trans h.output,Nat.le_trans h.size k.size,fun i o hi hm=>k.block i o (h.block i o hi hm) hm⟩
theorem FrM.mono{M M':Nat->Obj->Prop}{a b:World}(h:FrM M a b)(hm:∀ i o,a.heap[i]?=some o->M i o->M' i o):FrM M' a b:=
 ⟨h.os,h.tape,h.output,h.size,fun i o hi hn=>h.block i o hi fun hx=>hn (hm i o hi hx)⟩
theorem FrM.alloc{M:Nat->Obj->Prop}{a b:World}(h:FrM M a b)(o:Obj):FrM M a (b.alloc o):=
 ⟨h.os,h.tape,h.output,by rw[size_alloc];have:=h.size;omega,fun i x hi hm=>blk_alloc_old (h.block i x hi hm)⟩
theorem FrM.drew{M:Nat->Obj->Prop}{a b:World}(h:FrM M a b):FrM M a b.drew:=⟨h.os,h.tape,h.output,h.size,h.block⟩
theorem FrM.drewN{M:Nat->Obj->Prop}{a b:World}(h:FrM M a b)(n:Nat):FrM M a (b.drewN n):=⟨h.os,h.tape,h.output,h.size,h.block⟩
theorem FrM.setNew{M:Nat->Obj->Prop}{a b:World}(h:FrM M a b){p:Addr}(hp:a.heap.size≤p.block)(v:Value):FrM M a (b.setCell p v):=
 ⟨h.os,h.tape,h.output,by rw[size_setCell];exact h.size,fun i x hi hm=>by
  rw[blk_setCell_other (by have:=ltOf hi;omega)];exact h.block i x hi hm⟩
theorem FrM.setM{M:Nat->Obj->Prop}{a b:World}(h:FrM M a b){p:Addr}(hp:∀ o,M p.block o)(v:Value):FrM M a (b.setCell p v):=
 ⟨h.os,h.tape,h.output,by rw[size_setCell];exact h.size,fun i x hi hm=>by
  rw[blk_setCell_other (by intro e;subst e;exact hm (hp x))];exact h.block i x hi hm⟩
theorem FrM.grownBy{a b:World}{r:Option Nat}(h:a.grownBy b r):FrM (fun i _=>some i=r) a b:=
 ⟨h.os,h.tape,h.output,h.size,fun i o hi hm=>by rw[h.block i (ltOf hi) hm];exact hi⟩
theorem one_new{w:World}{x:Value}{t:TypeId}{b:Nat}(hb:b=w.heap.size):∀ (j:Nat) (u:Value),[x][j]?=some u->(w.alloc (.cells #[x] t)).cell? ((⟨b,0,none⟩:Addr).add j)=some u:=by
 subst hb
 intro j u hj
 cases j with
 | zero=>
  simp at hj;subst hj
  exact cellOf (o:=0) (blk_alloc_new w _) rfl
 | succ j=>simp at hj
theorem one_newD{w:World}{x:Value}{t:TypeId}{b:Nat}(hb:b=w.heap.size):∀ (j:Nat) (u:Value),[x][j]?=some u->(w.alloc (.cells #[x] t)).drew.cell? ((⟨b,0,none⟩:Addr).add j)=some u:=one_new hb
theorem own_allocD{w:World}{base:Nat}{e:TypeId}{size:Nat}{v:Value}{n:Nat}{xs:List Value}(h:w.ownsRow base e size v n xs)(o:Obj):(w.alloc o).drew.ownsRow base e size v n xs:=h.alloc o
abbrev Ext(w w':World):Prop:=FrM (fun _ _=>False) w w'
theorem FrM.ext{w w':World}(h:Ext w w')(b:Nat)(o:Obj)(hb:w.heap[b]?=some o):w'.heap[b]?=some o:=h.block b o hb id
theorem FrM.toM{M:Nat->Obj->Prop}{w w':World}(h:Ext w w'):FrM M w w':=h.mono fun _ _ _ h=>h.elim
theorem own_succ{W:World}{base:Nat}{e:TypeId}{size:Nat}{v:Value}{k:Nat}{xs:List Value}(h:W.ownsRow base e size v (k+1) xs):∃ g cap,v = .slice (some ⟨g,0,none⟩) (k+1) cap:=by
 rcases h.2 with⟨_,h0⟩| ⟨g,cap,_,rfl,_⟩
 ·omega
 ·exact⟨g,cap,rfl⟩
theorem own_base{w:World}{base base':Nat}{e:TypeId}{size:Nat}{v:Value}{n:Nat}{xs:List Value}(h:w.ownsRow base e size v n xs)(hb:base'≤base):w.ownsRow base' e size v n xs:=by
 obtain⟨h1,h2 | ⟨g,cap,cur,e1,e2,r⟩⟩:=h
 ·exact⟨h1,.inl h2⟩
 ·exact⟨h1,.inr ⟨g,cap,cur,e1,Nat.le_trans hb e2,r⟩⟩
theorem run_append_own2{P:Program}(w:World)(base:Nat)(t ty e:TypeId)(i:TypeInfo)(z:Value)(size bytes:Nat)(ht:P.underlying t=some (.slice e))(hi:P.info? e=some i)(hz:i.zero=some z)
  (hsize:i.size=size) (hby:i.bytes=bytes) (hzs:z.cells.size=size) (hsz:0<size)
  (v:Value) (n:Nat) (xs:List Value) (hown:w.ownsRow base e size v n xs)
  (a:Addr) (m c:Nat) (news:List Value) (hl:news.length=m*size) (hnews:∀ j u,news[j]?=some u->w.cell? (a.add j)=some u) (h1:∀ u∈news,u.oneCell'=true)
  (h63:n+m≤maxLen) (hbytes:(n+m)*bytes≤140737488355328) (hbase:base≤w.heap.size) :
  ∃ v' w',(Builtin.append_ #[t,t] ty #[v,.slice (some a) m c]).run P w = .ok v' w'/\w'.ownsRow base e size v' (n+m) (xs++news)/\w.grownBy w' v.ownBlock /\
   (v'.ownBlock=v.ownBlock\/∀ k,v'.ownBlock=some k->w.heap.size≤k):=by
 have hown':=hown
 rcases hown.2 with⟨rfl,rfl⟩| ⟨g,cap,cur,rfl,hbg,hg,hnc,hcm,hcs,htake⟩
 ·have hx:xs=[]:=List.eq_nil_of_length_eq_zero (by simpa using hown.1)
  subst hx
  obtain⟨v',w',r1,r2,r3,_⟩:=run_append_own (P:=P) w w.heap.size t ty e i z size bytes ht hi hz hsize hby hzs hsz _ 0 [] (World.ownsRow_nil _ _ _ _) a m c news hl hnews h1 h63 hbytes (Nat.le_refl _)
  exact⟨v',w',r1,own_base r2 hbase,r3,.inr fun k hk=>(r2.lt k hk).1⟩
 ·by_cases hf:n+m≤cap
  ·obtain⟨w',r1,r2,r3⟩:=run_append_fits (P:=P) w base t ty e i size ht hi hsize g n cap xs hown' a m c news hl hnews h1 hf
   exact⟨_,w',r1,r2,r3,.inl rfl⟩
  ·obtain⟨v',w',r1,r2,r3⟩:=run_append_arg_grows (P:=P) w t ty e i z size bytes ht hi hz hsize hby hzs hsz ⟨g,0,none⟩ n cap xs hown.1 (hown'.cells rfl) a m c news hl hnews (by omega) h63 hbytes
   exact⟨v',w',r1,own_base r2 hbase,⟨r3.os,r3.tape,r3.output,r3.size,fun k hk _=>r3.block k hk (by simp)⟩,.inr fun k hk=>(r2.lt k hk).1⟩
theorem step_append_own{P:Program}{ops:Array Oper}{o:Oper}{a:Act}{w:World}{K:Act->World->Prop}{Q:Exit->Act->World->Prop}{E:Prop}
  (hg:o.guard=none) (s x:Operand) (t:TypeId)
  (ho:o.op = .call { callee:=.builtin .append,args:=#[s,x],argTypes:=#[t,t] })
  (base:Nat) (e:TypeId) (i:TypeInfo) (z:Value) (size bytes:Nat) (ht:P.underlying t=some (.slice e)) (hi:P.info? e=some i) (hz:i.zero=some z)
  (hsize:i.size=size) (hby:i.bytes=bytes) (hzs:z.cells.size=size) (hsz:0<size)
  (v:Value) (n:Nat) (xs:List Value) (hs:a.eval s=v) (hown:w.ownsRow base e size v n xs)
  (ad:Addr) (m c:Nat) (news:List Value) (hx:a.eval x = .slice (some ad) m c) (hl:news.length=m*size) (hnews:∀ j u,news[j]?=some u->w.cell? (ad.add j)=some u) (h1:∀ u∈news,u.oneCell'=true)
  (h63:n+m≤maxLen) (hbytes:(n+m)*bytes≤140737488355328) (hbase:base≤w.heap.size)
  (h:∀ v' w',w'.ownsRow base e size v' (n+m) (xs++news)->w.grownBy w' v.ownBlock->(v'.ownBlock=v.ownBlock\/∀ k,v'.ownBlock=some k->w.heap.size≤k)->K (a.put o.dst v') w') :
  if Region.wanted o (yielded ops a.tmps)=true then Oper.wp P o a w K Q else E:=by
 rw[if_pos (by simp [Region.wanted,hg])]
 obtain⟨v',w',hr,h2,h3,h4⟩:=run_append_own2 (P:=P) w base t o.type e i z size bytes ht hi hz hsize hby hzs hsz v n xs hown ad m c news hl hnews h1 h63 hbytes hbase
 unfold Oper.wp execOp
 simp only[ho,resolve,invoke,builtin,Sem.run_bind,Sem.run_pure,Result.andThen_ok,List.map_toArray,List.map_cons,List.map_nil,hs,hx,hr]
 exact h v' w' h2 h3 h4
theorem wpList_append_own2{P:Program}{w:World}{ops:Array Oper}{rest:List Oper}{o:Oper}{a:Act}{Q:Exit->Act->World->Prop}(hgd:o.guard=none)(s x:Operand)(t:TypeId)
  (ho:o.op = .call { callee:=.builtin .append,args:=#[s,x],argTypes:=#[t,t] })
  (base:Nat) (e:TypeId) (i:TypeInfo) (z:Value) (size bytes:Nat) (ht:P.underlying t=some (.slice e)) (hi:P.info? e=some i) (hz:i.zero=some z)
  (hsize:i.size=size) (hby:i.bytes=bytes) (hzs:z.cells.size=size) (hsz:0<size)
  (v:Value) (n:Nat) (xs:List Value) (hs:a.eval s=v) (hown:w.ownsRow base e size v n xs)
  (ad:Addr) (m c:Nat) (news:List Value) (hx:a.eval x = .slice (some ad) m c) (hl:news.length=m*size) (hnews:∀ j u,news[j]?=some u->w.cell? (ad.add j)=some u) (h1:∀ u∈news,u.oneCell'=true)
  (h63:n+m≤maxLen) (hbytes:(n+m)*bytes≤140737488355328) (hbase:base≤w.heap.size)
  (h:∀ v' w',w'.ownsRow base e size v' (n+m) (xs++news)->w.grownBy w' v.ownBlock->(v'.ownBlock=v.ownBlock\/∀ k,v'.ownBlock=some k->w.heap.size≤k)->wpList P ops Q rest (a.put o.dst v') w'):wpList P ops Q (o::rest) a w:=
 wpList_plain hgd fun K hK=>by
  obtain⟨v',w',hr,h2,h3,h4⟩:=run_append_own2 (P:=P) w base t o.type e i z size bytes ht hi hz hsize hby hzs hsz v n xs hown ad m c news hl hnews h1 h63 hbytes hbase
  unfold Oper.wp execOp
  simp only[ho,resolve,invoke,builtin,Sem.run_bind,Sem.run_pure,Result.andThen_ok,List.map_toArray,List.map_cons,List.map_nil,hs,hx,hr]
  exact hK _ _ (h v' w' h2 h3 h4)
theorem exists_least{p:Nat->Prop}:∀ n,p n->∃ m,p m/\∀ k,p k->m≤k:=by
 intro n
 induction n using Nat.strongRecOn with
 | _ n ih=>
  intro hn
  by_cases h:∃ k,k<n/\p k
  ·obtain⟨k,hk,hp⟩:=h
   exact ih k hk hp
  ·exact⟨n,hn,fun k hk=>Nat.le_of_not_lt fun hlt=>h ⟨k,hlt,hk⟩⟩
open Classical in
noncomputable def least (I:Nat->Act->World->Prop) (a:Act) (w:World):Nat:=
 if h:∃ n,I n a w then Classical.choose (exists_least (p:=fun n=>I n a w) _ (Classical.choose_spec h)) else 0
theorem least_spec{I:Nat->Act->World->Prop}{a:Act}{w:World}(h:∃ n,I n a w):I (least I a w) a w:=by
 unfold least;rw[dif_pos h];exact(Classical.choose_spec (exists_least (p:=fun n=>I n a w) _ (Classical.choose_spec h))).1
theorem least_le{I:Nat->Act->World->Prop}{a:Act}{w:World}{n:Nat}(h:I n a w):least I a w≤n:=by
 unfold least;rw[dif_pos ⟨n,h⟩];exact(Classical.choose_spec (exists_least (p:=fun n=>I n a w) _ (Classical.choose_spec (⟨n,h⟩:∃ n,I n a w)))).2 n h
theorem wp_loop_ghost{P:Program}{Q:Exit->Act->World->Prop}{a:Act}{w:World}{c:Code}(I:Nat->Act->World->Prop)(h₀:∃ n,I n a w)
  (round:∀ n a w,I n a w->c.wp P (Exit.then (fun a' w'=>∃ m,m<n/\I m a' w') Q) a w):(Code.loop c).wp P Q a w:=
 wp_loop (fun a w=>∃ n,I n a w) (least I) h₀ fun a w h=>
  wp_mono (round _ a w (least_spec h)) fun e a' w' hq=>by
   cases e with
   | normal=>obtain⟨m,hm,hi⟩:=hq;exact⟨⟨m,hi⟩,Nat.lt_of_le_of_lt (least_le hi) hm⟩
   | _=>exact hq
theorem wp_scope_ghost{P:Program}{Q:Exit->Act->World->Prop}{a:Act}{w:World}{c rest:Code}(l:Nat)(J:Nat->Act->World->Prop)(hf:findLabel c l=some rest)
  (first:c.wp P (Exit.jump l (fun a w=>∃ n,J n a w) Q) a w)
  (pass:∀ n a w,J n a w->rest.wp P (Exit.jump l (fun a' w'=>∃ m,m<n/\J m a' w') Q) a w):(Code.scope c).wp P Q a w:=
 wp_scope_jumps l (fun a w=>∃ n,J n a w) (least J) hf first fun a w h=>
  wp_mono (pass _ a w (least_spec h)) fun e a' w' hq=>by
   cases e with
   | goto l'=>obtain⟨e,m,hm,hi⟩:=hq;exact⟨e,⟨m,hi⟩,Nat.lt_of_le_of_lt (least_le hi) hm⟩
   | _=>exact hq
theorem wp_scope_ghost2{P:Program}{Q:Exit->Act->World->Prop}{a:Act}{w:World}{c rest:Code}(l:Nat)(J:Nat->Act->World->Prop)(hf:findLabel c l=some rest)
  (first:(∀ n a w,J n a w->rest.wp P (Exit.jump l (fun a w=>∃ n,J n a w) Q) a w)->c.wp P (Exit.jump l (fun a w=>∃ n,J n a w) Q) a w)
  (pass:∀ n a w,J n a w->rest.wp P (Exit.jump l (fun a' w'=>∃ m,m<n/\J m a' w') Q) a w):(Code.scope c).wp P Q a w:=
 wp_scope_ghost l J hf (first fun n a w h=>wp_mono (pass n a w h) fun e a' w' hq=>by
  cases e with
  | goto l'=>obtain⟨e,m,_,hi⟩:=hq;exact⟨e,m,hi⟩
  | _=>exact hq) pass
theorem jump_ret{l:Nat}{J:Act->World->Prop}{Q:Exit->Act->World->Prop}{a:Act}{w:World}:Exit.jump l J Q .ret a w=Q .ret a w:=rfl
abbrev bs(l:P.Bs):ByteArray:=⟨l.toArray⟩
end Go.Proofs.YtilpjhceemaplaaGreatDoor
