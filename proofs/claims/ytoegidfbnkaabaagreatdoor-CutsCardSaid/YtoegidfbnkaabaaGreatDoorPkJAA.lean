/- A part of one proof (Sx, Sx2, SxG, Pure). -/
import Derived.WalkKit
import Derived.StillTail
import Derived.OrdersHeld
import Derived.KernelRfl
import Derived.Scope
set_option linter.all false
set_option maxRecDepth 100000
set_option maxHeartbeats 8000000
open Option renaming some → O, none → V
open Go renaming Value → Y, World → Z
open Bool renaming true → A, false → G
open Go.Ending renaming returned → ah
open Go.Value renaming iface → aj, tuple → ak, pointer → aq
open Go.Sem renaming run_bind → aZS
open Bool renaming and_eq_true → aZ3, not_eq_true' → a09
open Go.Region renaming ready → a0C, wanted → a0E, binds → a1N, Mode → a3z
open List renaming all_eq_true → a0Q, contains_iff_mem → a4a, contains_eq_mem → a4l
open Array renaming getD_eq_getD_getElem? → a03, setIfInBounds_comm → a2u
open Nat renaming beq → a1x
open Go.Value renaming iface → a2b
open Go.Deferred renaming ofValue → a2n
open Go.Oper renaming wp → a2G
open Go.Made renaming depth → a2T
namespace Go.Proofs
def J.{u}{α:Sort u}{a:α}:a=a:=rfl
def cd.{u}{α:Sort u}(a:α):∃ x,x=a:=⟨a,J⟩
def bZ:=@if_neg
def zip:=@if_pos
def zo {p:Prop}(h:p:=by omega):p:=h
def zk {p:Prop}(h:p:=by kernel_rfl):p:=h
def zd {p:Prop}(h:p:=by decide):p:=h
def zs {p:Prop}(h:p:=by simp):p:=h
def zg {p:Prop}(h:p:=by grind):p:=h
end Go.Proofs
namespace Go.Proofs.YtoegidfbnkaabaaGreatDoor
variable{K:Y->Prop}{a:Act}{i j:Nat}{v:Y}{w:Z}
namespace Sx
open Go
abbrev RT{α:Type}(_:α):Type:=Prop
def RD(P:Program)(s:Sem Y)(w:Z)(K:Y->Prop)(X:Y->Z->Prop):RT (K,X):=
 match s.run P w with
 | .ok v w'=>w'=w/\K v
 | .halt (.panic v) w'=>X v w'
 | _=>False
def WR(P:Program)(s:Sem Y)(w:Z)(K:Y->Z->Prop)(X:Y->Z->Prop):RT (K,X):=
 match s.run P w with
 | .ok v w'=>K v w'
 | .halt (.panic v) w'=>X v w'
 | _=>False
def WU(P:Program)(s:Sem Unit)(w:Z)(K:Z->Prop)(X:Y->Z->Prop):RT (K,X):=
 match s.run P w with
 | .ok _ w'=>K w'
 | .halt (.panic v) w'=>X v w'
 | _=>False
def ends(K:Y->Z->Prop)(X:List PanicEntry->Z->Prop):Ending->Z->Prop
 | ah v,w=>K v w
 | .panicked a,w=>X a w
 | .outgrown,_=>False
def CA(P:Program)(k:FuncId)(args:Array Y)(w:Z)(K:Y->Z->Prop)(X:List PanicEntry->Z->Prop):RT (K,X):=
 Calls P k args w (ends K X)
def CQ(P:Program)(k:FuncId)(args:Array Y)(w:Z)(K:Y->Prop):RT K:=
 ∃ v,Calls P k args w (fun e a=>e = ah v/\a=w)/\K v
def zb(P:Program)(k:FuncId):Bool:=
 match P.funcs[k]? with
 | some fn=>fn.body.isSome && !(fn.name == "runtime.NumGoroutine")
 | none=>G
def CV(P:Program)(f:Y)(args:Array Y)(w:Z)(K:Y->Z->Prop)(X:List PanicEntry->Z->Prop):RT (K,X):=
 match f with
 | .func (.func k) first cap=>zb P k=A/\CA P k (first++args++cap) w K X
 | _=>False
def CI(P:Program)(v:Y)(name:String)(args:Array Y)(w:Z)(K:Y->Z->Prop)(X:List PanicEntry->Z->Prop):RT (K,X):=
 match v with
 | aj t x=>∃ f r,(method (P.types.size+a2T) t x name).run P w = .ok (f,r) w/\zb P f=A/\CA P f (#[r]++args) w K X
 | _=>False
def tid{α:Type}(x:α):α:=(fun _:Prop=>x) (∀ (P:Program) (v:Y) (n:String) (a:Array Y) (w:Z) (K:Y->Z->Prop) (X:List PanicEntry->Z->Prop),CI P v n a w K X)
def BS(v:Y)(a B:Prop):RT (a,B):=
 match v with
 | .bool c=>(c=A->a)/\(c=G->B)
 | _=>False
def PX(R:Ending->Z->Prop)(v:Y)(w:Z):Prop:=R (.panicked [{ v,recovered:=false }]) w
def PC(R:Ending->Z->Prop)(a:List PanicEntry)(w:Z):Prop:=R (.panicked a) w
def DF(v:Y)(K:Fn->Array Y->Array Y->Prop):RT K:=
 match v with
 | .func f x y=>K f x y
 | _=>False
def Lv(R:Ending->Z->Prop)(a:List PanicEntry)(w:Z):Prop:=∀ _:Nat->Y,R (.panicked a) w
def PXA(R:Ending->Z->Prop)(v:Y)(w:Z):Prop:=∀ _:Nat->Y,R (.panicked [{ v,recovered:=false }]) w
def NX(_:Y)(_:Z):Prop:=False
def NC(v:Y)(K:Y->Prop):RT K:=
 match v with
 | aq (O a)=>K (aq (O a))
 | aj t x=>K (aj t x)
 | .func (.func f) x y=>K (.func (.func f) x y)
 | _=>False
def Oc(F:((Nat->Y)->Z->Prop)->(Nat->Y)->(Nat->Y)->Z->Prop)(s0:Nat->Y)(w0:Z):RT F:=
 ∃ I:Nat->(Nat->Y)->Z->Prop,(∃ n,I n s0 w0)/\∀ n s d w,I n s w->F (fun s' w'=>∃ m,m<n/\I m s' w') s d w
def JN(F:((Nat->Y)->Z->Prop)->Prop)(R:(Nat->Y)->(Nat->Y)->Z->Prop):RT (F,R):=
 F fun s w=>∀ d,R s d w
def JS(F:((Nat->Y)->Z->Prop)->Prop)(R:(Nat->Y)->(Nat->Y)->Z->Prop):RT (F,R):=
 ∃ a:(Nat->Y)->Z->Prop,F a/\∀ s w,a s w->∀ d,R s d w
def jd:List (Nat×Y)->Nat->Y
 | [],_=>undef
 | (j,v)::r,i=>if j=i then v else jd r i
def uy(P:Program)(s:Sem Y)(S:Z->Prop)(K:Y->Prop):RT (S,K):=
 ∃ v,(∀ w',S w'->s.run P w' = .ok v w')/\K v
def HD(F:(Z->Prop)->Prop):RT F:=∃ S,F S
structure lZ where
 P:Program
 B:TypeId->Bool
 calls:FuncId->Bool
 live:Nat->List Nat
 join:Nat->Option (List Nat)
 tail:Nat->Nat
 held:Nat->Option (List Nat)
 bl:Nat->List Nat
 bj:Nat->List Nat
 sum:Nat->Bool
 sy:Nat->Bool
structure Env where
 f:Nat->Y
 defers:List Deferred
def Env.eval(e:Env):Operand->Y
 | .tmp t=>e.f t
 | .const v=>v
 | .global g=>aq (O ⟨g,0,V⟩)
 | .func f=>.func (.func f) #[] #[]
def Jk(f:Nat->Y)(d:Nat)(v:Y)(j:Nat):Y:=cond (a1x j d) v (f j)
def Env.put(e:Env)(d:Option Tmp)(v:Y):Env:=
 match d with
 | some d=>{ e with f:=Jk e.f d v }
 | none=>e
def x8(ops:Array Oper)(e:Env)(j:Nat):Option Bool:=
 match (ops[j]?).bind (·.dst) with
 | some d=>match e.f d with
  | .bool b=>O b
  | _=>V
 | none=>V
def jM(a:Env)(l:Array Operand):Array Y:=(l.toList.map a.eval).toArray
def Q0(a:Env)(l:Array (Nat×Operand)):Array (Nat×Y):=(l.toList.map fun x=>(x.1,a.eval x.2)).toArray
def Ly(a:Env):Option Operand->Option Y
 | none=>V
 | some x=>O (a.eval x)
def early(C:lZ)(o:Oper):Bool:=
 match o.dst with
 | some d=>!C.sy d
 | none=>tid A
def oV(C:lZ)(o:Oper)(K:Y->Prop)(v:Y):Prop:=
 match C.B o.type && early C o with
 | true=>BS v (K (.bool A)) (K (.bool G))
 | false=>K v
def zc(a:Env)(o:Oper):Option (Sem Y):=
 match o.op with
 | .build t parts=>O (Instr.build t (Q0 a parts))
 | .load t x=>O (Instr.loadAt t (a.eval x))
 | .binOp op t x y _=>O (do eqGuard op t x y (a.eval x) (a.eval y);binOp op t (a.eval x) (a.eval y))
 | .unOp op _ x=>O (Op.unary op (a.eval x))
 | .slice t x lo b c=>O (Instr.sliceAt t (a.eval x) (Ly a lo) (Ly a b) (Ly a c))
 | .fieldAddr s x f=>O (Instr.fieldAt s (a.eval x) f)
 | .field t x f=>O (Instr.field t (a.eval x) f)
 | .indexAddr t x i=>O (Instr.indexAt t (a.eval x) (a.eval i))
 | .index t x i=>O (Instr.index t (a.eval x) (a.eval i))
 | .lookup t x i ok=>O (Instr.lookup t (a.eval x) (a.eval i) ok)
 | .extract t i=>O (Instr.extract (a.eval t) i)
 | .typeAssert x t u ok=>O (Instr.typeAssert (a.eval x) t u ok)
 | .call { callee:=.builtin .len,args,argTypes }=>O (Builtin.len_ argTypes o.type (jM a args))
 | .call { callee:=.builtin .min,args,argTypes }=>O (Builtin.min_ argTypes o.type (jM a args))
 | .call { callee:=.builtin .max,args,argTypes }=>O (Builtin.max_ argTypes o.type (jM a args))
 | .panic x=>O (Instr.panic (a.eval x))
 | _=>V
def writing(a:Env)(o:Oper):Option (Sem Y):=
 match o.op with
 | .alloc t=>O (Instr.alloc t A (ak #[]))
 | .box t x=>O (Instr.box t (a.eval x))
 | .buildSlice t n parts=>O (Instr.buildSlice t n (Q0 a parts))
 | .convert s d x=>O (convert s d (a.eval x))
 | .makeInterface t x=>O (Instr.makeInterface t (a.eval x))
 | .makeFunc fn x y=>O (Instr.makeFunc fn (jM a x) (jM a y))
 | .makeMap t r=>O (Instr.makeMap t (Ly a r))
 | .mapEntry t m k=>O (Instr.mapEntry t (a.eval m) (a.eval k))
 | .makeSlice t l c=>O (Instr.makeSlice t (a.eval l) (a.eval c))
 | .range t x=>O (Instr.range t (a.eval x))
 | .next it s=>O (Instr.next (a.eval it) s o.type)
 | .call { callee:=.builtin .append,args,argTypes }=>O (Builtin.append_ argTypes o.type (jM a args))
 | .call { callee:=.builtin .copy,args,argTypes }=>O (Builtin.copy_ argTypes o.type (jM a args))
 | _=>V
def Vb(a:Env)(o:Oper):Option (Sem Y):=
 match o.op with
 | .makeInterface t x=>O (Instr.makeInterface t (a.eval x))
 | .makeFunc fn x y=>O (Instr.makeFunc fn (jM a x) (jM a y))
 | _=>V
def Vc(a:Env)(o:Oper):Option (Sem Unit):=
 match o.op with
 | .store t x y=>O (Instr.storeAt t (a.eval x) (a.eval y))
 | .mapUpdate t m k x | .insert t m k x=>O (Instr.mapUpdate t (a.eval m) (a.eval k) (a.eval x))
 | .entryStore t m s x=>O (Instr.entryStore t (a.eval m) (a.eval s) (a.eval x))
 | _=>V
def lB(C:lZ)(o:Oper)(a:Env)(w:Z)(next:Env->Z->Prop)(Q:Exit->Env->Z->Prop):Prop:=
 match o.op with
 | .move x | .assign x=>next (a.put o.dst (a.eval x)) w
 | .pick c x y=>match a.eval c with
  | .bool A=>next (a.put o.dst (a.eval x)) w
  | .bool G=>next (a.put o.dst (a.eval y)) w
  | _=>False
 | .nilCheck x=>NC (a.eval x) fun v=>next (a.put o.dst v) w
 | .defer { callee:=.value (.func k),args,.. }=>next ({ a with defers:={ target:=.fn (.func k) #[],args:=jM a args }::a.defers }.put o.dst undef) w
 | .defer { callee:=.value f,args,.. }=>DF (a.eval f) fun fn x y=>next ({ a with defers:={ target:=.fn fn y,args:=x++jM a args }::a.defers }.put o.dst undef) w
 | .call { callee:=.value (.func k),args,.. }=>match C.calls k with
  | true=>CA C.P k (jM a args) w (fun v w'=>oV C o (fun v=>next (a.put o.dst v) w') v) (fun b w'=>Q (.panic b) a w')
  | false=>False
 | .call { callee:=.value f,args,.. }=>CV C.P (a.eval f) (jM a args) w (fun v w'=>oV C o (fun v=>next (a.put o.dst v) w') v) (fun b w'=>Q (.panic b) a w')
 | .call { callee:=.invoke f m,args,.. }=>CI C.P (a.eval f) m (jM a args) w (fun v w'=>oV C o (fun v=>next (a.put o.dst v) w') v) (fun b w'=>Q (.panic b) a w')
 | _=>match zc a o with
  | some s=>RD C.P s w (oV C o fun v=>next (a.put o.dst v) w) (fun v w'=>Q (.panic [{ v,recovered:=false }]) a w')
  | none=>match writing a o with
   | some s=>WR C.P s w (fun v w'=>next (a.put o.dst v) w') (fun v w'=>Q (.panic [{ v,recovered:=false }]) a w')
   | none=>match Vc a o with
    | some s=>WU C.P s w (fun w'=>next (a.put o.dst undef) w') (fun v w'=>Q (.panic [{ v,recovered:=false }]) a w')
    | none=>False
def wQ(C:lZ)(ops:Array Oper)(Q:Exit->Env->Z->Prop):List Oper->Env->Z->Prop
 | [],a,w=>Q .normal a w
 | o::rest,a,w=>match a0E o (x8 ops a) with
  | true=>lB C o a w (wQ C ops Q rest) Q
  | false=>wQ C ops Q rest (a.put o.dst undef) w
def rH(C:lZ)(o:Oper)(a:Env)(w:Z)(next:Env->Prop):Prop:=
 match o.op with
 | .move x | .assign x=>next (a.put o.dst (a.eval x))
 | .pick c x y=>match a.eval c with
  | .bool A=>next (a.put o.dst (a.eval x))
  | .bool G=>next (a.put o.dst (a.eval y))
  | _=>False
 | .nilCheck x=>NC (a.eval x) fun v=>next (a.put o.dst v)
 | .call { callee:=.value (.func k),args,.. }=>match C.calls k with
  | true=>CQ C.P k (jM a args) w (oV C o fun v=>next (a.put o.dst v))
  | false=>False
 | _=>match zc a o with
  | some s=>RD C.P s w (oV C o fun v=>next (a.put o.dst v)) (fun _ _=>False)
  | none=>False
def Ax(C:lZ)(ops:Array Oper)(w:Z)(Q:Env->Prop):List Oper->Env->Prop
 | [],a=>Q a
 | o::rest,a=>match a0E o (x8 ops a) with
  | true=>rH C o a w (Ax C ops w Q rest)
  | false=>Ax C ops w Q rest (a.put o.dst undef)
def rI(C:lZ)(o:Oper)(a:Env)(S:Z->Prop)(next:Env->Prop):Prop:=
 match o.op with
 | .move x | .assign x=>next (a.put o.dst (a.eval x))
 | .pick c x y=>match a.eval c with
  | .bool A=>next (a.put o.dst (a.eval x))
  | .bool G=>next (a.put o.dst (a.eval y))
  | _=>False
 | .nilCheck x=>NC (a.eval x) fun v=>next (a.put o.dst v)
 | _=>match zc a o with
  | some s=>uy C.P s S (oV C o fun v=>next (a.put o.dst v))
  | none=>match Vb a o with
   | some s=>uy C.P s S (fun v=>next (a.put o.dst v))
   | none=>False
def Vd(a:Env)(o:Oper):Bool:=
 match o.op with
 | .move _ | .assign _ | .pick _ _ _ | .nilCheck _=>A
 | _=>(zc a o).isSome
def qU(i:Nat):List Nat->Bool
 | []=>G
 | j::r=>cond (a1x i j) A (qU i r)
def qu(ops:List Oper):List Nat:=
 match ops with
 | []=>[]
 | o::r=>match o.dst with
  | some d=>d::qu r
  | none=>qu r
def NP(d:List Nat)(Q:Exit->Env->Z->Prop)(e:Exit)(a:Env)(w:Z):Prop:=
 match e with
 | .panic b=>tid (∀ f:Nat->Y,Q (.panic b) { a with f:=fun t=>cond (qU t d) (f t) (a.f t) } w)
 | e=>tid (Q e a w)
def tH(m:Option Nat)(listed:Array Bool):Bool:=
 match m with
 | none=>A
 | some m=>!listed.getD m A
def chainB(md:a3z)(ops:Array Oper)(i m:Nat)(D:List Nat):Bool:=
 D.contains m && !D.contains i && D.all fun c=>match ops[c]? with
  | some o=>o.after.any fun e=>a1N md e && (e.on == i || D.contains e.on)
  | none=>G
def He(listed:Array Bool)(D:List Nat):Bool:=D.all fun c=>!listed.getD c A
def Ve(md:a3z)(ops:Array Oper)(i:Nat):List Nat:=
 (List.range ops.size).foldl (fun D c=>match ops[c]? with
  | some o=>match o.after.any fun e=>a1N md e && (e.on == i || D.contains e.on) with
   | true=>c::D
   | false=>D
  | none=>D) []
def Zh(ops:Array Oper)(i:Nat):Bool:=
 match ops[i]? with
 | some o=>match o.op with
  | .move _=>A
  | _=>G
 | none=>G
def Q1(md:a3z)(ops:Array Oper)(listed:Array Bool)(m:Option Nat)(i:Nat):Bool:=
 match m with
 | none=>A
 | some m=>(chainB md ops i m (Ve md ops i) && He listed (Ve md ops i)) || (Zh ops i && !a1x i m)
def Zi:Nat->Option Nat
 | 0=>V
 | m+1=>O m
def mj(C:lZ)(ops:Array Oper)(Q:Exit->Env->Z->Prop)(S:Z->Prop)(m:Option Nat):List Nat->Array Bool->Env->Z->Prop
 | [],listed,a,w=>match a0C .any ops listed with
  | []=>Q .normal a w
  | _=>False
 | i::r,listed,a,w=>match ops[i]? with
  | none=>False
  | some o=>match a0C .any ops listed == [i] with
   | true=>match a0E o (x8 ops a) with
    | false=>mj C ops Q S m r (listed.setIfInBounds i A) (a.put o.dst undef) w
    | true=>match Vd a o with
     | true=>rH C o a w (fun a'=>mj C ops Q S m r (listed.setIfInBounds i A) a' w)
     | false=>match tH m (listed.setIfInBounds i A) with
      | true=>lB C o a w (fun a' w'=>S w'/\mj C ops Q S m r (listed.setIfInBounds i A) a' w') (NP (qu ops.toList) Q)
      | false=>lB C o a w (fun a' w'=>mj C ops Q S m r (listed.setIfInBounds i A) a' w') (NP (qu ops.toList) Q)
   | false=>match (a0C .any ops listed).contains i && Region.free .any ops listed i && Q1 .any ops listed m i with
    | false=>False
    | true=>match a0E o (x8 ops a) with
     | false=>mj C ops Q S m r (listed.setIfInBounds i A) (a.put o.dst undef) w
     | true=>rI C o a S (fun a'=>mj C ops Q S m r (listed.setIfInBounds i A) a' w)
def Q2(f:Nat->Y)(vs live:List Nat)(s d:Nat->Y)(j:Nat):Y:=cond (qU j live) (s j) (cond (qU j vs) (d j) (f j))
def fr(a:Env)(vs live:List Nat)(s d:Nat->Y):Env:={ a with f:=Q2 a.f vs live s d }
def BA(next:Env->Z->Prop)(Q:Exit->Env->Z->Prop):Exit->Env->Z->Prop
 | .normal,a,w=>tid (next a w)
 | e,a,w=>tid (Q e a w)
def FE(id:Nat)(Q:Exit->Env->Z->Prop):Exit->Env->Z->Prop
 | .exit b,a,w=>tid (cond (a1x b id) (Q .normal a w) (Q (.exit b) a w))
 | e,a,w=>tid (Q e a w)
def wr:Code->List Nat
 | .region _ ops _=>qu ops.toList
 | .seq a b=>wr a++wr b
 | .cond _ a b=>wr a++wr b
 | .block _ c=>wr c
 | .loop c=>wr c
 | .scope c=>wr c
 | _=>[]
def wS(o:Oper):Bool:=
 match o.op with
 | .defer _=>A
 | _=>G
def nd:Code->Bool
 | .region _ ops _=>ops.toList.all fun o=>!wS o
 | .seq a b=>nd a && nd b
 | .cond _ a b=>nd a && nd b
 | .block _ c=>nd c
 | .loop c=>nd c
 | .scope c=>nd c
 | _=>A
def Hf:Code->List Nat
 | .region id _ _=>[id]
 | .seq a b=>Hf a++Hf b
 | .cond _ a b=>Hf a++Hf b
 | .block _ c=>Hf c
 | .loop c=>Hf c
 | .scope c=>Hf c
 | _=>[]
def Hg(c:Code):Nat:=
 match Hf c with
 | i::_=>i
 | []=>1000000
def Eg(x:Code):Nat:=
 match (Hf x).reverse with
 | i::r=>i*1000+r.length
 | []=>1000000000
def ze(a:Env)(live:List Nat):List (Nat×Y):=live.map fun i=>(i,a.f i)
def pM:List Nat->Env->(Env->Prop)->Prop
 | [],a,K=>tid (K a)
 | i::r,a,K=>BS (a.f i) (pM r (a.put (O i) (.bool A)) K) (pM r (a.put (O i) (.bool G)) K)
def Vf(ops:Array Oper)(n:Nat):Bool:=
 if n=ops.size then Region.lexB .any ops else Region.lexTailB .any ops n
def Oe(Q:Exit->Env->Z->Prop):Exit->Env->Z->Prop
 | .goto _,_,_=>False
 | e,a,w=>tid (Q e a w)
def Vg(C:lZ):Operand->Bool
 | .tmp t=>C.sy t
 | _=>G
def gm(C:lZ):Code->(Exit->Env->Z->Prop)->Env->Z->Prop
 | .skip,Q,a,w=>Q .normal a w
 | .region id ops draw,Q,a,w=>match draw with
  | false=>wQ C ops Q ops.toList a w
  | true=>match C.held id with
   | some []=>False
   | some (m::ord)=>match ord.length == ops.size && Region.noSelect ops with
    | true=>HD fun S=>S w.drew/\mj C ops Q S (Zi m) ord (Array.replicate ops.size G) a w.drew
    | false=>False
   | none=>match Vf ops (C.tail id) with
    | true=>Ax C ops w.drew (fun a'=>wQ C ops Q (ops.toList.drop (C.tail id)) a' w.drew) (ops.toList.take (C.tail id)) a
    | false=>False
 | .seq x y,Q,a,w=>match C.join (Eg x) with
  | none=>gm C x (BA (gm C y Q) Q) a w
  | some live=>match nd x with
    | true=>match C.sum (Eg x) with
     | false=>JN (fun j=>gm C x (BA (fun a' w'=>j (jd (ze a' live)) w') Q) a w) (fun s d w=>pM (C.bj (Eg x)) (fr a (wr x) live s d) fun a=>gm C y Q a w)
     | true=>JS (fun j=>gm C x (BA (fun a' w'=>j (jd (ze a' live)) w') Q) a w) (fun s d w=>pM (C.bj (Eg x)) (fr a (wr x) live s d) fun a=>gm C y Q a w)
    | false=>False
 | .cond c x y,Q,a,w=>match Vg C c with
  | true=>BS (a.eval c) (gm C x Q a w) (gm C y Q a w)
  | false=>match a.eval c with
    | .bool A=>gm C x Q a w
    | .bool G=>gm C y Q a w
    | _=>False
 | .block id c,Q,a,w=>gm C c (FE id Q) a w
 | .exit id,Q,a,w=>Q (.exit id) a w
 | .loop c,Q,a,w=>match nd c with
  | true=>Oc (fun rec s d w=>pM (C.bl (Hg c)) (fr a (wr c) (C.live (Hg c)) s d) fun a=>gm C c (BA (fun a' w'=>rec (jd (ze a' (C.live (Hg c)))) w') Q) a w)
     (jd (ze a (C.live (Hg c)))) w
  | false=>False
 | .ret,Q,a,w=>Q .ret a w
 | .label _,Q,a,w=>Q .normal a w
 | .scope c,Q,a,w=>gm C c (Oe Q) a w
 | _,_,_,_=>False
structure Good(C:lZ):Prop where
 mixed:C.P.follows .mixedOrders=A
 calls:∀ k,C.calls k=A->zb C.P k=A
structure Agr(vs:List Nat)(n:Bool)(a a':Act):Prop where
 get:∀ i,i ∉ vs->a'.tmps[i]?=a.tmps[i]?
 size:a'.tmps.size=a.tmps.size
 defs:n=A->a'.defers=a.defers
structure Rel(vs:List Nat)(a:Act)(e:Env):Prop where
 get:∀ i,a.tmps.getD i undef=e.f i
 defs:a.defers=e.defers
 lt:∀ i∈vs,i<a.tmps.size
theorem Rel.eval{vs:List Nat}{a:Act}{e:Env}(h:Rel vs a e):a.eval=e.eval:=by
 funext x
 cases x with
 | tmp t=>exact h.get t
 | _=>rfl
theorem Rel.put{vs:List Nat}{a:Act}{e:Env}(h:Rel vs a e){d:Option Nat}(b:∀ t,d=O t->t∈vs)(v:Y):Rel vs (a.put d v) (e.put d v):=by
 cases d with
 | none=>exact h
 | some d=>
  have c:=h.lt d (b d J);refine⟨fun i=>?_,h.defs,fun i f=>by simp only[Act.put,Array.size_setIfInBounds];exact h.lt i f⟩;have g:=h.get i;simp only[a03] at g;simp only[Act.put,Env.put,Jk,a03,Array.getElem?_setIfInBounds];by_cases j:d=i
  .subst j;simp [c]
  .have k:a1x i d=false:=by
    grind [a1x,absurd,Nat.eq_of_beq_eq_true]
   grind
def Rel.yield{vs:List Nat}{e:Env}(h:Rel vs a e)(ops:Array Oper):yielded ops a.tmps=x8 ops e:=by
 funext j
 unfold yielded x8;cases (ops[j]?).bind (·.dst) with
 | none=>rfl
 | some d=>
  have b:=h.get d;simp only[a03] at b;simp only[Option.bind_some];cases hx:a.tmps[d]? with
  | none=>rw[hx] at b;rw[<- b];rfl
  | some v=>grind
theorem Jl(a:Env)(l:Array Operand):l.map a.eval=jM a l:=by
 grind [Array.ext',jM]
theorem ahF(a:Env)(l:Array (Nat×Operand)):(l.map fun(i,x)=>(i,a.eval x))=Q0 a l:=by
 grind [Array.ext',Q0]
theorem ahG(a:Env)(x:Option Operand):x.map a.eval=Ly a x:=by cases x<;>rfl
theorem Zj{a:Env}{o:Oper}{s:Sem Y}(h:zc a o=O s):execOp a.eval o=(do pure (.value (<- s))):=by
 grind [guard,zc,execOp,ahF,ahG,resolve,invoke,builtin,Jl]
theorem ahH{a:Env}{o:Oper}{s:Sem Y}(h:writing a o=O s):execOp a.eval o=(do pure (.value (<- s))):=by
 grind [guard,writing,execOp,ahF,Jl,ahG,resolve,invoke,builtin]
def asz{a:Env}{o:Oper}{s:Sem Y}(h:Vb a o=O s):writing a o=O s:=by
 obtain⟨dst,op,type,pos,after,guard⟩:=o;unfold Vb at h;dsimp only at h;split at h<;>first
  | (cases h;done)
  | (subst_vars;exact h)
theorem asA{a:Env}{o:Oper}{s:Sem Unit}(h:Vc a o=O s):execOp a.eval o=(do s;pure .skip):=by
 grind [guard,Vc,execOp]
def Q3(P:Program)(s:Sem Y)(w:Z):((do pure (.value (<- s))):Sem Next).run P w =
  match s.run P w with | .ok v w'=>.ok (.value v) w' | .halt h w'=>.halt h w':=by
 rw[aZS];cases s.run P w<;>rfl
def asB(P:Program)(s:Sem Unit)(w:Z):((do s;pure .skip):Sem Next).run P w =
  match s.run P w with | .ok _ w'=>.ok .skip w' | .halt h w'=>.halt h w':=by
 rw[aZS];cases s.run P w<;>rfl
def Q4{C:lZ}{o:Oper}{K':Y->Prop}(h:∀ v,K v->K' v)(a:oV C o K v):K' v:=by
 unfold oV at a;split at a
 .unfold BS at a;split at a
  .rename_i c;cases c<;>grind
  grind
 grind
theorem Q5{P:Program}{k:FuncId}(h:zb P k=A)(args:Array Y)(w:Z):(callFunc k args).run P w = .ok (.enter k args) w:=by
 unfold zb at h;split at h
 .rename_i fn a;simp only[aZ3,a09,beq_eq_false_iff_ne] at h;obtain⟨c,d⟩:=h;obtain⟨b,e⟩:=Option.isSome_iff_exists.1 c;unfold callFunc;simp [aZS,program,Sem.run,a,d,e,Result.andThen]
 grind
abbrev Nx(vs:List Nat)(o:Oper)(e:Env)(next:Env->Z->Prop)(next':Act->Z->Prop):Prop:=
 ∀ (e':Env) (a':Act) (w':Z),Rel vs a' e'->(∀ t,o.dst=O t->t∈vs)->(∃ v,e'=e.put o.dst v\/∃ d,wS o=A/\e'=({ e with defers:=d::e.defers }:Env).put o.dst v)->next e' w'->next' a' w'
section
variable{C:lZ}{vs:List Nat}{o:Oper}{a:Act}{e:Env}{w:Z}{next:Env->Z->Prop}{next':Act->Z->Prop}{Q:Exit->Env->Z->Prop}{Q':Exit->Act->Z->Prop}
def Zk{k:FuncId}{args:Array Y}(hr:Rel vs a e)(c:∀ t,o.dst=O t->t∈vs)(d:Nx vs o e next next')(f:∀ b w',Q (.panic b) e w'->Q' (.panic b) a w')
  (h:CA C.P k args w (fun v w'=>oV C o (fun v=>next (e.put o.dst v) w') v) (fun b w'=>Q (.panic b) e w')) :
  o.upon C.P a next' Q' (.ok (.enter k args) w):=by
 unfold Oper.upon;refine Calls.mono h fun x w' he=>?_;cases x with
 | returned v=>exact Q4 (K:=fun v=>next (e.put o.dst v) w') (K':=fun v=>next' (a.put o.dst v) w') (fun v hv=>d _ _ _ (hr.put c v) c zg hv) he
 | panicked b=>exact f _ _ he
 | outgrown=>exact he.elim
def asC{s:Sem Y}(d:execOp a.eval o=(do pure (.value (<- s))))(hr:Rel vs a e)(b:∀ t,o.dst=O t->t∈vs)(f:Nx vs o e next next')(g:∀ c w',Q (.panic c) e w'->Q' (.panic c) a w')
  (h:RD C.P s w (oV C o fun v=>next (e.put o.dst v) w) (fun v w'=>Q (.panic [{ v,recovered:=false }]) e w')):o.wp C.P a w next' Q':=by
 unfold a2G;rw[d,Q3];unfold RD at h;cases hx:s.run C.P w with
 | ok v w'=>
  rw[hx] at h;obtain⟨rfl,h⟩:=h;exact Q4 (K:=fun v=>next (e.put o.dst v) w') (K':=fun v=>next' (a.put o.dst v) w') (fun v hv=>f _ _ _ (hr.put b v) b zg hv) h
 | halt x w'=>
  rw[hx] at h;cases x<;>first | exact h.elim | exact g _ _ h
def asD{s:Sem Y}(d:execOp a.eval o=(do pure (.value (<- s))))(hr:Rel vs a e)(b:∀ t,o.dst=O t->t∈vs)(f:Nx vs o e next next')(g:∀ c w',Q (.panic c) e w'->Q' (.panic c) a w')
  (h:WR C.P s w (fun v w'=>next (e.put o.dst v) w') (fun v w'=>Q (.panic [{ v,recovered:=false }]) e w')):o.wp C.P a w next' Q':=by
 unfold a2G;rw[d,Q3];unfold WR at h;cases hx:s.run C.P w with
 | ok v w'=>rw[hx] at h;exact f _ _ _ (hr.put b v) b zg h
 | halt x w'=>
  rw[hx] at h;cases x<;>first | exact h.elim | exact g _ _ h
def asE{s:Sem Unit}(d:execOp a.eval o=(do s;pure .skip))(hr:Rel vs a e)(b:∀ t,o.dst=O t->t∈vs)(f:Nx vs o e next next')(g:∀ c w',Q (.panic c) e w'->Q' (.panic c) a w')
  (h:WU C.P s w (fun w'=>next (e.put o.dst undef) w') (fun v w'=>Q (.panic [{ v,recovered:=false }]) e w')):o.wp C.P a w next' Q':=by
 unfold a2G;rw[d,asB];unfold WU at h;cases hx:s.run C.P w with
 | ok v w'=>rw[hx] at h;exact f _ _ _ (hr.put b _) b zg h
 | halt x w'=>
  rw[hx] at h;cases x<;>first | exact h.elim | exact g _ _ h
theorem Q7(b:execOp a.eval o=pure (.value v))(h:next' (a.put o.dst v) w):o.wp C.P a w next' Q':=by
 unfold a2G;rw[b];exact h
end
def Zl{a:Env}{o:Oper}{x:Operand}(b:o.op = .nilCheck x)(h:NC (a.eval x) K):execOp a.eval o=pure (.value (a.eval x))/\K (a.eval x):=by
 unfold NC at h;unfold execOp;grind
theorem asF{P:Program}{t:TypeId}{x r:Y}{m:String}{k:FuncId}(c:(method (P.types.size+a2T) t x m).run P w = .ok (k,r) w)(d:zb P k=A)
  (args:Array Y):(callMethod (aj t x) m args).run P w = .ok (.enter k (#[r]++args)) w:=by
 show(Sem.bind program fun p=>Sem.bind (method (p.types.size+a2T) t x m) fun y=>callFunc y.1 (#[y.2]++args)).run P w=_;have b:∀ {α β:Type} (s:Sem α) (f:α->Sem β) (w:Z),(Sem.bind s f).run P w=(s.run P w).andThen fun a w=>(f a).run P w:=(by grind [Sem.run_bind']);rw[b];show(Sem.bind (method (P.types.size+a2T) t x m) fun y=>callFunc y.1 (#[y.2]++args)).run P w=_;rw[b,c];exact Q5 d _ _
def Zm{C:lZ}(b:Good C){vs:List Nat}{o:Oper}{e:Env}{next:Env->Z->Prop}{next':Act->Z->Prop}{Q:Exit->Env->Z->Prop}{Q':Exit->Act->Z->Prop}
  (hr:Rel vs a e) (g:∀ t,o.dst=O t->t∈vs) (i:Nx vs o e next next') (j:∀ q w',Q (.panic q) e w'->Q' (.panic q) a w')
  (h:lB C o e w next Q):o.wp C.P a w next' Q':=by
 have he:=hr.eval;have l:∀ v,next (e.put o.dst v) w->next' (a.put o.dst v) w:=fun v hv=>i _ _ _ (hr.put g v) g zg hv
 unfold lB at h;split at h
 .rename_i x d;exact Q7 (C:=C) (by rw[he];grind [execOp]) (l _ h)
 .rename_i x d;exact Q7 (C:=C) (by rw[he];grind [execOp]) (l _ h)
 .rename_i c x y d;split at h
  .rename_i n;exact Q7 (C:=C) (v:=e.eval x) (by rw[he];unfold execOp;rw[d];simp only[n];rfl) (l _ h)
  .rename_i n;exact Q7 (C:=C) (v:=e.eval y) (by rw[he];unfold execOp;rw[d];simp only[n];rfl) (l _ h)
  grind
 .rename_i x d;obtain⟨z,B⟩:=Zl d h;grind [Q7]
 .rename_i k args CS d;unfold a2G;have:execOp a.eval o=pure (.defer { target:=.fn (.func k) #[],args:=jM e args }):=by
   rw[he];grind [execOp,resolve,Jl,Env.eval,a2n]
  rw[this];have hid:wS o=true:=by grind [wS]
  have p:Rel vs { a with defers:={ target:=.fn (.func k) #[],args:=jM e args }::a.defers } ({ e with defers:={ target:=.fn (.func k) #[],args:=jM e args }::e.defers }:Env):=
   ⟨hr.get,by show _::_=_::_;rw[hr.defs],hr.lt⟩
  exact i _ _ _ (p.put g undef) g zg h
 .rename_i f args CS E d;unfold DF at h;split at h
  .rename_i fn x y F;unfold a2G;have:execOp a.eval o=pure (.defer { target:=.fn fn y,args:=x++jM e args }):=by
    rw[he];grind [execOp,resolve,Jl,a2n]
   rw[this];have hid:wS o=true:=by grind [wS]
   have p:Rel vs { a with defers:={ target:=.fn fn y,args:=x++jM e args }::a.defers } ({ e with defers:={ target:=.fn fn y,args:=x++jM e args }::e.defers }:Env):=
    ⟨hr.get,by show _::_=_::_;rw[hr.defs],hr.lt⟩
   exact i _ _ _ (p.put g undef) g zg h
  grind
 .rename_i k args CS d;split at h
  .rename_i hk;unfold a2G;have:(execOp a.eval o).run C.P w = .ok (.enter k (jM e args)) w:=by
    rw[he];unfold execOp;rw[d];simp only[resolve,Jl,Env.eval,a2n,Array.empty_append];show(callFunc k (jM e args++#[])).run C.P w=_;rw[Array.append_empty];exact Q5 (b.calls k hk) _ _
   rw[this];exact Zk hr g i j h
  grind
 .rename_i f args CS H d;unfold CV at h;split at h
  .rename_i k first cap hv
   unfold a2G;have:(execOp a.eval o).run C.P w = .ok (.enter k (first++jM e args++cap)) w:=by
    rw[he];unfold execOp;rw[d];simp only[resolve,Jl,hv,a2n];show(callFunc k (first++jM e args++cap)).run C.P w=_;grind [Q5]
   rw[this];exact Zk hr g i j h.2
  grind
 .rename_i f m args CS d;unfold CI at h;split at h
  .rename_i t x hv;obtain⟨k,r,z,B,D⟩:=h;unfold a2G;have:(execOp a.eval o).run C.P w = .ok (.enter k (#[r]++jM e args)) w:=by
    rw[he];unfold execOp;rw[d];simp only[resolve,Jl,hv];show(invoke (.fn (.method m) #[]) (#[aj t x]++jM e args)).run C.P w=_;have I:(#[a2b t x]++jM e args)[0]?=O (aj t x):=zg;have K:(#[a2b t x]++jM e args).extract 1 (#[a2b t x]++jM e args).size=jM e args:=by
     apply Array.ext';rw[Array.toList_extract];simp only[Array.toList_append,List.cons_append,List.nil_append,Array.size_append,List.size_toArray,List.length_cons,List.length_nil,List.drop_succ_cons,List.drop_zero,List.extract_eq_take_drop];grind [jM,List.take_length]
    have L:invoke (.fn (.method m) #[]) (#[a2b t x]++jM e args)=callMethod (aj t x) m (jM e args):=by
     grind [invoke]
    grind [asF]
   rw[this];exact Zk hr g i j D
  grind
 .split at h
  .rename_i s u;exact asC (by grind [Zj]) hr g i j h
  .split at h
   .rename_i s u;exact asD (by grind [ahH]) hr g i j h
   .split at h
    .rename_i s u;exact asE (by grind [asA]) hr g i j h
    grind
section
variable{P:Program}{ops:Array Oper}{Q:Exit->Act->Z->Prop}{md:a3z}{S:Z->Prop}{m:Option Nat}
def Jm(P:Program)(md:a3z)(ops:Array Oper)(Q:Exit->Act->Z->Prop)(S:Z->Prop)(m:Option Nat):Nat->Array Bool->Act->Z->Prop
 | 0,listed,a,w=>a0C md ops listed=[]/\Q .normal a w
 | n+1,listed,a,w=>(a0C md ops listed=[]->Q .normal a w) /\
  ∀ j∈a0C md ops listed,wpOp P ops Q j (fun a' w'=>(tH m (listed.setIfInBounds j A)=A->S w')/\Jm P md ops Q S m n (listed.setIfInBounds j A) a' w') a w
def ahI:∀ (n:Nat) (listed:Array Bool) (a:Act) (w:Z),Jm P md ops Q S m n listed a w->wpAny P md ops Q n listed a w
 | 0,_,_,_,h=>h
 | n+1,_,_,_,h=>⟨h.1,fun j b=>wpOp_mono (fun a' w' c=>ahI n _ a' w' c.2) (h.2 j b)⟩
theorem asG{listed:Array Bool}{m:Nat}{D:List Nat}(a:chainB md ops i m D=A)(b:He listed D=A)(e:listed.getD i A=G)
  (c:j∈a0C md ops listed):j ∉ D:=by
 intro d;simp only[chainB,aZ3,a0Q] at a;simp only[He,a0Q,a09] at b;obtain⟨_,f,g,h⟩:=mem_ready.1 c;grind
def ahJ{d:Oper}(s:ops[i]?=O d)(x:∀ (j:Nat) (o:Oper) cs b,ops[j]?=O o->o.op≠.select cs b)
  (B:∀ c a w,Q (.panic c) (a.put d.dst v) w->Q (.panic c) a w) {D:List Nat} (hD:∀ m',m=O m'->chainB md ops i m' D=A) :
  ∀ (n:Nat) (listed:Array Bool) (a:Act) (w:Z),
   (∀ j f,ops[j]?=O f->j≠i->listed.getD j A=G->(∀ e∈f.after,a1N md e=A->e.on≠i)->d.apart ops f=A) ->
   (∀ m',m=O m'->He listed D=A) ->
   i∈a0C md ops listed->YieldsIf P ops S d v a->S w ->
   Jm P md ops Q S m n (listed.setIfInBounds i A) (a.put d.dst v) w->Jm P md ops Q S m (n+1) listed a w:=by
 intro n;induction n with
 | zero=>
  intro listed a w _ _ hr q l H;refine⟨zg,fun j r=>?_⟩;by_cases g:j=i
  .subst g;exact q.wpOp s l ⟨fun _=>l,H⟩
  .have:=ready_mono r g;rw[H.1] at this;grind
 | succ n ih=>
  intro listed a w y C hr q l H;refine⟨zg,fun j r=>?_⟩;by_cases g:j=i
  .subst g;exact q.wpOp s l ⟨fun _=>l,H⟩
  .have E:=H.2 j (ready_mono r g);obtain⟨F,f,t,vy⟩:=mem_ready.1 r;have I:=(mem_ready.1 hr).1;have K:∀ e∈f.after,a1N md e=A->e.on≠i:=zg;have L:∀ m',m=O m'->j ∉ D:=(by grind [asG]);have z:∀ m',m=O m'->He (listed.setIfInBounds j A) D=true:=fun m' e=>by
    have h:=C m' e;simp only[He,a0Q,a09] at h ⊢;intro c hc;have u:j≠c:=zg;rw[getD_set_ne A u];grind
   have M:tH m ((listed.setIfInBounds i A).setIfInBounds j A)=true:=by
    cases m with
    | none=>rfl
    | some m'=>
     have h:=z m' J;have p:=hD m' J;simp only[chainB,aZ3,a4a,a09,a4l,decide_eq_false_iff_not,decide_eq_true_eq] at p;simp only[He,a0Q,a09] at h;have h4:=h m' p.1.1;simp only[tH,a09];have N:i≠m':=zg;rw[a2u _ _ (Ne.symm g),getD_set_ne A N];omega
   have h:=wpOp_putIf t (y j f t g F K) (fun cs b=>x i d cs b s) (fun cs b=>x j f cs b t) B q E;have R:∀ k ok,ops[k]?=O ok->k≠i->(listed.setIfInBounds j A).getD k A=G ->
     (∀ e∈ok.after,a1N md e=A->e.on≠i)->d.apart ops ok=true:=fun k ok hk T U W=>by
    refine y k ok hk T ?_ W;by_cases X:j=k
    .grind
    .rw[getD_set_ne A X] at U;omega
   refine wpOp_mono (fun a' w' p=>⟨zg,ih (listed.setIfInBounds j A) a' w' R z (ready_mono hr zo) p.1 (p.2.1 M) ?_⟩) h;grind [a2u]
def ahL{d:Oper}(p:ops[i]?=O d)(M:∀ (j:Nat) (o:Oper) cs b,ops[j]?=O o->o.op≠.select cs b)
  (s:∀ c a w,Q (.panic c) (a.put d.dst v) w->Q (.panic c) a w) (t:∀ m',m=O m'->i≠m') :
  ∀ (n:Nat) (listed:Array Bool) (a:Act) (w:Z),
   (∀ j f,ops[j]?=O f->j≠i->listed.getD j A=G->(∀ e∈f.after,a1N md e=A->e.on≠i)->d.apart ops f=A) ->
   i∈a0C md ops listed->YieldsIf P ops (fun _=>True) d v a->(tH m listed=A->S w) ->
   Jm P md ops Q S m n (listed.setIfInBounds i A) (a.put d.dst v) w->Jm P md ops Q S m (n+1) listed a w:=by
 have N:∀ (listed:Array Bool),tH m (listed.setIfInBounds i A)=tH m listed:=fun listed=>by
  cases m with
  | none=>rfl
  | some m'=>simp only[tH];rw[getD_set_ne A (t m' J)]
 intro n;induction n with
 | zero=>
  intro listed a w _ hr h u H;refine⟨zg,fun j l=>?_⟩;by_cases g:j=i
  .subst g;exact h.wpOp p trivial zg
  .have:=ready_mono l g;rw[H.1] at this;grind
 | succ n ih=>
  intro listed a w q hr h u H;refine⟨zg,fun j l=>?_⟩;by_cases g:j=i
  .subst g;exact h.wpOp p trivial zg
  .have x:=H.2 j (ready_mono l g);obtain⟨y,f,r,R⟩:=mem_ready.1 l;have z:=(mem_ready.1 hr).1;have B:∀ e∈f.after,a1N md e=A->e.on≠i:=zg;have C:=wpOp_putIf r (q j f r g y B) zg zg s h x;have D:∀ k ok,ops[k]?=O ok->k≠i->(listed.setIfInBounds j A).getD k A=G ->
     (∀ e∈ok.after,a1N md e=A->e.on≠i)->d.apart ops ok=true:=fun k ok hk E F I=>by
    refine q k ok hk E ?_ I;by_cases K:j=k
    .grind
    .rw[getD_set_ne A K] at F;omega
   have T:(listed.setIfInBounds i A).setIfInBounds j A=(listed.setIfInBounds j A).setIfInBounds i true:=a2u _ _ zo;refine wpOp_mono (fun a' w' L=>⟨zg,ih (listed.setIfInBounds j A) a' w' D (ready_mono hr zo) L.1 zg ?_⟩) C;grind
def asJ{listed:Array Bool}(h:Q1 md ops listed m i=A) :
  ((∀ m',m=O m'->chainB md ops i m' (Ve md ops i)=A)/\(∀ m',m=O m'->He listed (Ve md ops i)=A)/\tH m listed=A)\/((∀ m',m=O m'->i≠m')/\Zh ops i=A):=by
 cases m with
 | none=>exact .inl ⟨zg,zg,J⟩
 | some m'=>
  simp only[Q1,Bool.or_eq_true,aZ3] at h;rcases h with h | ⟨h,a⟩
  .refine .inl ⟨zg,zg,?_⟩;have b:=h.1;simp only[chainB,aZ3,a4a,a4l,decide_eq_true_eq] at b;grind [He,a0Q,a09,tH]
  .refine .inr ⟨fun m2 e he=>?_,h⟩;have e:=Option.some.inj e;subst e he;simp at a
end
end Sx
namespace P
abbrev Bs:=List UInt8
structure Tok where
 kind:Nat
 text:Bs
 pos:Nat
deriving Repr,DecidableEq,Inhabited
inductive Ex where
 | mk (kind:Nat) (name:Bs) (n:Int) (k:Nat) (args:List Ex)
deriving Inhabited
inductive Bd where
 | mk (kind:Nat) (name:Bs) (args:List Ex) (parts:List Bd)
deriving Inhabited
structure Cl where
 name:Bs
 args:List Ex
 body:Bd
 vars:List Bs
deriving Inhabited
def Ex.kind:Ex->Nat | .mk k _ _ _ _=>k
def Ex.name:Ex->Bs | .mk _ s _ _ _=>s
def Ex.args:Ex->List Ex | .mk _ _ _ _ l=>l
def Bd.kind:Bd->Nat | .mk k _ _ _=>k
def Bd.parts:Bd->List Bd | .mk _ _ _ l=>l
def cls(c:UInt8):Nat:=
 if 97<=c.toNat/\c.toNat<=122 then 115
 else if (65<=c.toNat/\c.toNat<=90)\/c.toNat=95 then 99
 else if 48<=c.toNat/\c.toNat<=57 then 100 else 0
def digit(c:UInt8):Bool:=decide (48<=c.toNat/\c.toNat<=57)
def num(s:Bs):Int:=s.foldl (fun v c=>10*v+((c.toNat:Int)-48)) 0
def rJ(w:Bs):Nat:=
 match w with
 | []=>0
 | c::r=>
  if cls c=115 then(if w.length<=8 then 1 else 0)
  else if cls c=99 then(if w.length<=8 then 2 else 0)
  else if w.length<=9/\w.all digit=A/\(c≠48\/r=[]) then 3 else 0
def og:List Bs:=[[61,58,61],[58,45],[45,62],[92,43],[92,61],[61,61],[61,60],[62,61],[47,47],[40],[41],[91],[93],[44],[124],[59],[33],[61],[60],[62],[43],[45],[42]]
def blank(c:UInt8):Bool:=c == 32 || c == 10
def Hi:Bs->Bool
 | []=>A
 | d::_=>blank d
def oh:Nat->Bs->Nat->Option (Sum Nat (List Tok))
 | 0,_,_=>V
 | _+1,[],i=>O (.inr [⟨0,[],i⟩])
 | f+1,c::r,i=>
  if blank c then oh f r (i+1)
  else if cls c≠0 then
   let w:=(c::r).takeWhile (fun x=>cls x≠0)
   if rJ w=0 then O (.inl i)
   else match oh f ((c::r).drop w.length) (i+w.length) with
    | some (.inr l)=>O (.inr (⟨rJ w,w,i⟩::l))
    | x=>x
  else if c=46/\Hi r=A then
   match oh f r (i+1) with
   | some (.inr l)=>O (.inr (⟨4,[46],i⟩::l))
   | x=>x
  else match og.find? (fun s=>s.isPrefixOf (c::r)) with
   | none=>O (.inl i)
   | some s=>match oh f ((c::r).drop s.length) (i+s.length) with
    | some (.inr l)=>O (.inr (⟨4,s,i⟩::l))
    | x=>x
inductive cj(α:Type) where
 | ok (a:α) (k:Nat) (vars:List Bs)
 | err (e at_:Nat)
deriving Inhabited
def tk(T:List Tok)(k:Nat):Tok:=T.getD k ⟨0,[],0⟩
def eh(T:List Tok)(k:Nat)(s:Bs):Bool:=((tk T k).kind == 4 || (tk T k).kind == 1) && (tk T k).text == s
def cj.bind{α β:Type}(r:Option (cj α))(g:α->Nat->List Bs->Option (cj β)):Option (cj β):=
 match r with
 | none=>V
 | some (.err e a)=>O (.err e a)
 | some (.ok a k v)=>g a k v
def mW{α:Type}(T:List Tok)(s:Bs)(x:α)(k:Nat)(vars:List Bs):Option (cj α):=
 if eh T k s then O (.ok x (k+1) vars) else O (.err 2 (tk T k).pos)
def Og:Nat:=12
def maxDepth:Nat:=8
def Vj:Nat:=4
def zj(t:Tok)(k:Nat)(vars:List Bs):cj Ex:=
 match (if t.text=[95] then V else vars.idxOf? t.text) with
 | some j=>.ok (.mk 118 [] 0 j []) k vars
 | none=>if vars.length=Og then .err 4 t.pos else .ok (.mk 118 [] 0 vars.length []) k (vars++[t.text])
def ops(lvl:Nat):List Bs:=if lvl=0 then [[43],[45]] else [[42],[47,47],[109,111,100]]
def Ra(T:List Tok)(lvl k:Nat):Option Bs:=(ops lvl).find? (eh T k)
def CU(all:List Ex)(x:Ex):Ex:=all.foldr (fun a x=>.mk 99 [46] 0 0 [a,x]) x
def jG(name:Bs):Int:=
 if name∈[[116,114,117,101],[102,97,105,108]] then 0
 else if name∈[[118,97,114],[110,111,110,118,97,114],[97,116,111,109],[105,110,116,101,103,101,114]] then 1
 else if name∈[[61],[92,61],[61,61],[105,115],[60],[62],[61,60],[62,61],[61,58,61]] then 2 else -1
def LA:List Bs:=[[61],[92,61],[61,61],[105,115],[60],[62],[61,60],[62,61],[61,58,61]]
def LB(T:List Tok)(k:Nat):Option Bs:=LA.find? (eh T k)
def Eh(x:Ex):Bool:=
 (x.kind != 97 && x.kind != 99) || (x.name == [46] || x.name == [91,93] || (match x.name with | []=>A | c::_=>cls c != 115)) || (x.name == [109,111,100] && x.args.length == 2)
def zl:Bd:=.mk 103 [102,97,105,108] [] []
def Oh:Bd:=.mk 103 [116,114,117,101] [] []
mutual
def pN (T:List Tok):Nat->Nat->List Bs->Nat->Option (cj Ex)
 | 0,_,_,_=>V
 | f+1,k,vars,d=>
  if maxDepth<d+1 then O (.err 4 (tk T k).pos)
  else if (tk T k).kind=3 then O (.ok (.mk 110 [] (num (tk T k).text) 0 []) (k+1) vars)
  else if (tk T k).kind=2 then O (zj (tk T k) (k+1) vars)
  else if (tk T k).kind=1 then
   if eh T (k+1) [40] then
    cj.bind (oW T f (k+2) vars (d+1) (tk T k).pos []) fun l k' vars'=>mW T [41] (.mk 99 (tk T k).text 0 0 l) k' vars'
   else O (.ok (.mk 97 (tk T k).text 0 0 []) (k+1) vars)
  else if eh T k [45] then
   if (tk T (k+1)).kind=3 then O (.ok (.mk 110 [] (- num (tk T (k+1)).text) 0 []) (k+2) vars)
   else O (.err 2 (tk T (k+1)).pos)
  else if eh T k [40] then cj.bind (jt T f 0 (k+1) vars (d+1)) fun x k' vars'=>mW T [41] x k' vars'
  else if eh T k [91] then qV T f (k+1) vars (d+1)
  else O (.err 2 (tk T k).pos)
 termination_by structural f=>f
def oW (T:List Tok):Nat->Nat->List Bs->Nat->Nat->List Ex->Option (cj (List Ex))
 | 0,_,_,_,_,_=>V
 | f+1,k,vars,d,at_,acc=>
  cj.bind (jt T f 0 k vars d) fun x k' vars'=>
   if eh T k' [44] then oW T f (k'+1) vars' d at_ (acc++[x])
   else if Vj<(acc++[x]).length then O (.err 4 at_) else O (.ok (acc++[x]) k' vars')
 termination_by structural f=>f
def qV (T:List Tok):Nat->Nat->List Bs->Nat->Option (cj Ex)
 | 0,_,_,_=>V
 | f+1,k,vars,d=>
  if eh T k [93] then O (.ok (.mk 97 [91,93] 0 0 []) (k+1) vars)
  else cj.bind (rK T f k vars d []) fun all k' vars'=>
   if eh T k' [124] then cj.bind (jt T f 0 (k'+1) vars' d) fun x a b=>mW T [93] (CU all x) a b
   else mW T [93] (CU all (.mk 97 [91,93] 0 0 [])) k' vars'
 termination_by structural f=>f
def rK (T:List Tok):Nat->Nat->List Bs->Nat->List Ex->Option (cj (List Ex))
 | 0,_,_,_,_=>V
 | f+1,k,vars,d,acc=>
  cj.bind (jt T f 0 k vars d) fun x k' vars'=>
   if eh T k' [44] then rK T f (k'+1) vars' d (acc++[x]) else O (.ok (acc++[x]) k' vars')
 termination_by structural f=>f
def jt (T:List Tok):Nat->Nat->Nat->List Bs->Nat->Option (cj Ex)
 | 0,_,_,_,_=>V
 | f+1,lvl,k,vars,d=>
  if lvl=2 then pN T f k vars d
  else cj.bind (jt T f (lvl+1) k vars d) fun x k' vars'=>qx T f lvl x k' vars' d
 termination_by structural f=>f
def qx (T:List Tok):Nat->Nat->Ex->Nat->List Bs->Nat->Option (cj Ex)
 | 0,_,_,_,_,_=>V
 | f+1,lvl,x,k,vars,d=>
  match Ra T lvl k with
  | none=>O (.ok x k vars)
  | some o=>cj.bind (jt T f (lvl+1) (k+1) vars d) fun y k' vars'=>qx T f lvl (.mk 99 o 0 0 [x,y]) k' vars' d
 termination_by structural f=>f
end
mutual
def np (T:List Tok):Nat->Nat->List Bs->Nat->Option (cj Bd)
 | 0,_,_,_=>V
 | f+1,k,vars,d=>
  if maxDepth<d+1 then O (.err 4 (tk T k).pos)
  else if eh T k [33] then O (.ok (.mk 33 [] [] []) (k+1) vars)
  else if eh T k [92,43] then cj.bind (np T f (k+1) vars (d+1)) fun b k' vars'=>O (.ok (.mk 126 [] [] [b]) k' vars')
  else if eh T k [40] then cj.bind (ml T f (k+1) vars (d+1)) fun b k' vars'=>mW T [41] b k' vars'
  else cj.bind (jt T f 0 k vars (d+1)) fun x k' vars'=>
   match LB T k' with
   | some c=>cj.bind (jt T f 0 (k'+1) vars' (d+1)) fun y h i=>O (.ok (.mk 103 c [x,y] []) h i)
   | none=>
    if Eh x then O (.err 2 (tk T k).pos)
    else if 0<=jG x.name/\jG x.name≠x.args.length then O (.err 3 (tk T k).pos)
    else O (.ok (.mk 103 x.name x.args []) k' vars')
 termination_by structural f=>f
def pO (T:List Tok):Nat->Nat->List Bs->Nat->List Bd->Option (cj (List Bd))
 | 0,_,_,_,_=>V
 | f+1,k,vars,d,acc=>
  cj.bind (np T f k vars d) fun b k' vars'=>
   if eh T k' [44] then pO T f (k'+1) vars' d (acc++[b]) else O (.ok (acc++[b]) k' vars')
 termination_by structural f=>f
def nJ (T:List Tok):Nat->Nat->List Bs->Nat->Option (cj Bd)
 | 0,_,_,_=>V
 | f+1,k,vars,d=>
  cj.bind (pO T f k vars d []) fun l k' vars'=>O (.ok (match l with | [b]=>b | _=>.mk 44 [] [] l) k' vars')
 termination_by structural f=>f
def pP (T:List Tok):Nat->Nat->List Bs->Nat->Option (cj Bd)
 | 0,_,_,_=>V
 | f+1,k,vars,d=>if maxDepth<d+1 then O (.err 4 (tk T k).pos) else ml T f k vars (d+1)
 termination_by structural f=>f
def ml (T:List Tok):Nat->Nat->List Bs->Nat->Option (cj Bd)
 | 0,_,_,_=>V
 | f+1,k,vars,d=>
  cj.bind (nJ T f k vars d) fun a e v1=>
   if eh T e [45,62] then
    cj.bind (nJ T f (e+1) v1 d) fun b g v2=>
     if eh T g [59] then cj.bind (pP T f (g+1) v2 d) fun c j v3=>O (.ok (.mk 63 [] [] [a,b,c]) j v3)
     else O (.ok (.mk 63 [] [] [a,b,zl]) g v2)
   else if eh T e [59] then cj.bind (pP T f (e+1) v1 d) fun b g v2=>O (.ok (.mk 59 [] [] [a,b]) g v2)
   else O (.ok a e v1)
 termination_by structural f=>f
end
def Jn(T:List Tok)(f:Nat)(name:Bs)(args:List Ex)(at_ k:Nat)(vars:List Bs):Option (cj Cl):=
 if 0<=jG name\/name=[109,111,100] then O (.err 3 at_)
 else if eh T k [58,45] then
  cj.bind (ml T f (k+1) vars 0) fun b k' vars'=>mW T [46] ⟨name,args,b,vars'⟩ k' vars'
 else mW T [46] ⟨name,args,Oh,vars⟩ k vars
def Ei(T:List Tok)(f k:Nat):Option (cj Cl):=
 if (tk T k).kind=1 then
  if eh T (k+1) [40] then
   cj.bind (oW T f (k+2) [] 0 (tk T k).pos []) fun l k' vars'=>
    cj.bind (mW T [41] l k' vars') fun l a b=>Jn T f (tk T k).text l (tk T k).pos a b
  else Jn T f (tk T k).text [] (tk T k).pos (k+1) []
 else O (.err 2 (tk T k).pos)
def ahM{l:List Bs}{q:Bs->Bool}(h:∀ j,j<l.length->q (l.getD j [])=G):l.find? q=none:=by
 grind [List.find?_eq_none,List.getElem_of_mem,List.getElem?_eq_getElem]
def Zr:∀ {l:List Bs} {q:Bs->Bool} {j:Nat},j<l.length->q (l.getD j [])=A->(∀ a,a<j->q (l.getD a [])=G)->l.find? q=O (l.getD j [])
 | [],_,_,h,_,_=>absurd h (Nat.not_lt_zero _)
 | x::l,q,0,_,h,_=>by
  grind
 | x::l,q,j+1,d,h,b=>by
  have c:=b 0 zo;simp only[List.getD_cons_zero] at c;simp only[List.getD_cons_succ] at h ⊢;rw[List.find?_cons_of_neg zg];exact Zr zg h fun a e=>by
   grind
theorem ahN(s:Bs)(c:UInt8):num (s++[c])=10*num s+((c.toNat:Int)-48):=by
 simp [num,List.foldl_append]
def ahO:∀ (n:Nat) (s:Bs),s.length=n->s.all digit=A->0<=num s/\num s+1<=(10:Int) ^ n
 | 0,s,h,_=>by
  simp_all [List.length_eq_zero_iff,num]
 | n+1,s,h,d=>by
  obtain⟨l,c,rfl⟩:∃ l c,s=l++[c]:=⟨s.dropLast,s.getLast zg,(List.dropLast_concat_getLast _).symm⟩;simp only[List.all_append,List.all_cons,List.all_nil,Bool.and_true,aZ3,digit,decide_eq_true_eq] at d;have e:l.length=n:=zg;obtain⟨a,b⟩:=ahO n l e d.1;grind [ahN,Int.pow_succ]
def Zs{s:Bs}(c:s.all digit=A)(d:s.length<=9):0<=num s/\num s<=999999999:=by
 obtain⟨a,b⟩:=ahO s.length s J c;refine⟨a,?_⟩;have:(10:Int) ^ s.length<=10 ^ 9:=by
  obtain h | h | h | h | h | h | h | h | h | h:s.length=0\/s.length=1\/s.length=2\/s.length=3\/s.length=4\/s.length=5\/s.length=6\/s.length=7\/s.length=8\/s.length=9:=zo;all_goals rw[h];decide
 omega
end P
