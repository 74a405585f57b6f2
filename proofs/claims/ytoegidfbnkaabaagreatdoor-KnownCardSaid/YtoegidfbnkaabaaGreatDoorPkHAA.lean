/- A part of one proof (Sx, Sx2, SxG, Pure). -/
import Derived.WalkKit
import Derived.StillTail
import Derived.OrdersHeld
import Derived.KernelRfl
import Derived.Scope
set_option linter.all false
set_option maxRecDepth 100000
set_option maxHeartbeats 8000000
open Option renaming some → O, none → V
open Go renaming Value → Y, World → Z
open Bool renaming true → A, false → G
open Go.Ending renaming returned → ah
open Go.Value renaming iface → aj, tuple → ak, pointer → aq
open Go.Sem renaming run_bind → a0l
open Bool renaming and_eq_true → a0w, not_eq_true' → a1F
open Go.Region renaming ready → a05, wanted → a08, binds → a2r, Mode → a35
open List renaming all_eq_true → a1f, contains_iff_mem → a4G, contains_eq_mem → a4R
open Array renaming getD_eq_getD_getElem? → a1u, setIfInBounds_comm → a22
open Nat renaming beq → a2b
open Go.Value renaming iface → a2I
open Go.Deferred renaming ofValue → a2T
open Go.Oper renaming wp → a3i
open Go.Made renaming depth → a3s
namespace Go.Proofs
def J.{u}{α:Sort u}{a:α}:a=a:=rfl
def b9.{u}{α:Sort u}(a:α):∃ x,x=a:=⟨a,J⟩
def bX:=@if_neg
def zip:=@if_pos
def zo {p:Prop}(h:p:=by omega):p:=h
def zk {p:Prop}(h:p:=by kernel_rfl):p:=h
def zd {p:Prop}(h:p:=by decide):p:=h
def zs {p:Prop}(h:p:=by simp):p:=h
def zg {p:Prop}(h:p:=by grind):p:=h
end Go.Proofs
namespace Go.Proofs.YtoegidfbnkaabaaGreatDoor
variable{K:Y->Prop}{a:Act}{i j:Nat}{v:Y}{w:Z}
namespace Sx
open Go
abbrev RT{α:Type}(_:α):Type:=Prop
def RD(P:Program)(s:Sem Y)(w:Z)(K:Y->Prop)(X:Y->Z->Prop):RT (K,X):=
 match s.run P w with
 | .ok v w'=>w'=w/\K v
 | .halt (.panic v) w'=>X v w'
 | _=>False
def WR(P:Program)(s:Sem Y)(w:Z)(K:Y->Z->Prop)(X:Y->Z->Prop):RT (K,X):=
 match s.run P w with
 | .ok v w'=>K v w'
 | .halt (.panic v) w'=>X v w'
 | _=>False
def WU(P:Program)(s:Sem Unit)(w:Z)(K:Z->Prop)(X:Y->Z->Prop):RT (K,X):=
 match s.run P w with
 | .ok _ w'=>K w'
 | .halt (.panic v) w'=>X v w'
 | _=>False
def ends(K:Y->Z->Prop)(X:List PanicEntry->Z->Prop):Ending->Z->Prop
 | ah v,w=>K v w
 | .panicked a,w=>X a w
 | .outgrown,_=>False
def CA(P:Program)(k:FuncId)(args:Array Y)(w:Z)(K:Y->Z->Prop)(X:List PanicEntry->Z->Prop):RT (K,X):=
 Calls P k args w (ends K X)
def CQ(P:Program)(k:FuncId)(args:Array Y)(w:Z)(K:Y->Prop):RT K:=
 ∃ v,Calls P k args w (fun e a=>e = ah v/\a=w)/\K v
def zC(P:Program)(k:FuncId):Bool:=
 match P.funcs[k]? with
 | some fn=>fn.body.isSome && !(fn.name == "runtime.NumGoroutine")
 | none=>G
def CV(P:Program)(f:Y)(args:Array Y)(w:Z)(K:Y->Z->Prop)(X:List PanicEntry->Z->Prop):RT (K,X):=
 match f with
 | .func (.func k) first cap=>zC P k=A/\CA P k (first++args++cap) w K X
 | _=>False
def CI(P:Program)(v:Y)(name:String)(args:Array Y)(w:Z)(K:Y->Z->Prop)(X:List PanicEntry->Z->Prop):RT (K,X):=
 match v with
 | aj t x=>∃ f r,(method (P.types.size+a3s) t x name).run P w = .ok (f,r) w/\zC P f=A/\CA P f (#[r]++args) w K X
 | _=>False
def tid{α:Type}(x:α):α:=(fun _:Prop=>x) (∀ (P:Program) (v:Y) (n:String) (a:Array Y) (w:Z) (K:Y->Z->Prop) (X:List PanicEntry->Z->Prop),CI P v n a w K X)
def BS(v:Y)(a B:Prop):RT (a,B):=
 match v with
 | .bool c=>(c=A->a)/\(c=G->B)
 | _=>False
def PX(R:Ending->Z->Prop)(v:Y)(w:Z):Prop:=R (.panicked [{ v,recovered:=false }]) w
def PC(R:Ending->Z->Prop)(a:List PanicEntry)(w:Z):Prop:=R (.panicked a) w
def DF(v:Y)(K:Fn->Array Y->Array Y->Prop):RT K:=
 match v with
 | .func f x y=>K f x y
 | _=>False
def LB(R:Ending->Z->Prop)(a:List PanicEntry)(w:Z):Prop:=∀ _:Nat->Y,R (.panicked a) w
def PXA(R:Ending->Z->Prop)(v:Y)(w:Z):Prop:=∀ _:Nat->Y,R (.panicked [{ v,recovered:=false }]) w
def NX(_:Y)(_:Z):Prop:=False
def NC(v:Y)(K:Y->Prop):RT K:=
 match v with
 | aq (O a)=>K (aq (O a))
 | aj t x=>K (aj t x)
 | .func (.func f) x y=>K (.func (.func f) x y)
 | _=>False
def Oi(F:((Nat->Y)->Z->Prop)->(Nat->Y)->(Nat->Y)->Z->Prop)(s0:Nat->Y)(w0:Z):RT F:=
 ∃ I:Nat->(Nat->Y)->Z->Prop,(∃ n,I n s0 w0)/\∀ n s d w,I n s w->F (fun s' w'=>∃ m,m<n/\I m s' w') s d w
def JN(F:((Nat->Y)->Z->Prop)->Prop)(R:(Nat->Y)->(Nat->Y)->Z->Prop):RT (F,R):=
 F fun s w=>∀ d,R s d w
def JS(F:((Nat->Y)->Z->Prop)->Prop)(R:(Nat->Y)->(Nat->Y)->Z->Prop):RT (F,R):=
 ∃ a:(Nat->Y)->Z->Prop,F a/\∀ s w,a s w->∀ d,R s d w
def jg:List (Nat×Y)->Nat->Y
 | [],_=>undef
 | (j,v)::r,i=>if j=i then v else jg r i
def uI(P:Program)(s:Sem Y)(S:Z->Prop)(K:Y->Prop):RT (S,K):=
 ∃ v,(∀ w',S w'->s.run P w' = .ok v w')/\K v
def HD(F:(Z->Prop)->Prop):RT F:=∃ S,F S
structure me where
 P:Program
 B:TypeId->Bool
 calls:FuncId->Bool
 live:Nat->List Nat
 join:Nat->Option (List Nat)
 tail:Nat->Nat
 held:Nat->Option (List Nat)
 bl:Nat->List Nat
 bj:Nat->List Nat
 sum:Nat->Bool
 sy:Nat->Bool
structure Env where
 f:Nat->Y
 defers:List Deferred
def Env.eval(e:Env):Operand->Y
 | .tmp t=>e.f t
 | .const v=>v
 | .global g=>aq (O ⟨g,0,V⟩)
 | .func f=>.func (.func f) #[] #[]
def Jl(f:Nat->Y)(d:Nat)(v:Y)(j:Nat):Y:=cond (a2b j d) v (f j)
def Env.put(e:Env)(d:Option Tmp)(v:Y):Env:=
 match d with
 | some d=>{ e with f:=Jl e.f d v }
 | none=>e
def ym(ops:Array Oper)(e:Env)(j:Nat):Option Bool:=
 match (ops[j]?).bind (·.dst) with
 | some d=>match e.f d with
  | .bool b=>O b
  | _=>V
 | none=>V
def jQ(a:Env)(l:Array Operand):Array Y:=(l.toList.map a.eval).toArray
def Q2(a:Env)(l:Array (Nat×Operand)):Array (Nat×Y):=(l.toList.map fun x=>(x.1,a.eval x.2)).toArray
def LF(a:Env):Option Operand->Option Y
 | none=>V
 | some x=>O (a.eval x)
def early(C:me)(o:Oper):Bool:=
 match o.dst with
 | some d=>!C.sy d
 | none=>tid A
def oW(C:me)(o:Oper)(K:Y->Prop)(v:Y):Prop:=
 match C.B o.type && early C o with
 | true=>BS v (K (.bool A)) (K (.bool G))
 | false=>K v
def zD(a:Env)(o:Oper):Option (Sem Y):=
 match o.op with
 | .build t parts=>O (Instr.build t (Q2 a parts))
 | .load t x=>O (Instr.loadAt t (a.eval x))
 | .binOp op t x y _=>O (do eqGuard op t x y (a.eval x) (a.eval y);binOp op t (a.eval x) (a.eval y))
 | .unOp op _ x=>O (Op.unary op (a.eval x))
 | .slice t x lo b c=>O (Instr.sliceAt t (a.eval x) (LF a lo) (LF a b) (LF a c))
 | .fieldAddr s x f=>O (Instr.fieldAt s (a.eval x) f)
 | .field t x f=>O (Instr.field t (a.eval x) f)
 | .indexAddr t x i=>O (Instr.indexAt t (a.eval x) (a.eval i))
 | .index t x i=>O (Instr.index t (a.eval x) (a.eval i))
 | .lookup t x i ok=>O (Instr.lookup t (a.eval x) (a.eval i) ok)
 | .extract t i=>O (Instr.extract (a.eval t) i)
 | .typeAssert x t u ok=>O (Instr.typeAssert (a.eval x) t u ok)
 | .call { callee:=.builtin .len,args,argTypes }=>O (Builtin.len_ argTypes o.type (jQ a args))
 | .call { callee:=.builtin .min,args,argTypes }=>O (Builtin.min_ argTypes o.type (jQ a args))
 | .call { callee:=.builtin .max,args,argTypes }=>O (Builtin.max_ argTypes o.type (jQ a args))
 | .panic x=>O (Instr.panic (a.eval x))
 | _=>V
def writing(a:Env)(o:Oper):Option (Sem Y):=
 match o.op with
 | .alloc t=>O (Instr.alloc t A (ak #[]))
 | .box t x=>O (Instr.box t (a.eval x))
 | .buildSlice t n parts=>O (Instr.buildSlice t n (Q2 a parts))
 | .convert s d x=>O (convert s d (a.eval x))
 | .makeInterface t x=>O (Instr.makeInterface t (a.eval x))
 | .makeFunc fn x y=>O (Instr.makeFunc fn (jQ a x) (jQ a y))
 | .makeMap t r=>O (Instr.makeMap t (LF a r))
 | .mapEntry t m k=>O (Instr.mapEntry t (a.eval m) (a.eval k))
 | .makeSlice t l c=>O (Instr.makeSlice t (a.eval l) (a.eval c))
 | .range t x=>O (Instr.range t (a.eval x))
 | .next it s=>O (Instr.next (a.eval it) s o.type)
 | .call { callee:=.builtin .append,args,argTypes }=>O (Builtin.append_ argTypes o.type (jQ a args))
 | .call { callee:=.builtin .copy,args,argTypes }=>O (Builtin.copy_ argTypes o.type (jQ a args))
 | _=>V
def Vc(a:Env)(o:Oper):Option (Sem Y):=
 match o.op with
 | .makeInterface t x=>O (Instr.makeInterface t (a.eval x))
 | .makeFunc fn x y=>O (Instr.makeFunc fn (jQ a x) (jQ a y))
 | _=>V
def Vd(a:Env)(o:Oper):Option (Sem Unit):=
 match o.op with
 | .store t x y=>O (Instr.storeAt t (a.eval x) (a.eval y))
 | .mapUpdate t m k x | .insert t m k x=>O (Instr.mapUpdate t (a.eval m) (a.eval k) (a.eval x))
 | .entryStore t m s x=>O (Instr.entryStore t (a.eval m) (a.eval s) (a.eval x))
 | _=>V
def lK(C:me)(o:Oper)(a:Env)(w:Z)(next:Env->Z->Prop)(Q:Exit->Env->Z->Prop):Prop:=
 match o.op with
 | .move x | .assign x=>next (a.put o.dst (a.eval x)) w
 | .pick c x y=>match a.eval c with
  | .bool A=>next (a.put o.dst (a.eval x)) w
  | .bool G=>next (a.put o.dst (a.eval y)) w
  | _=>False
 | .nilCheck x=>NC (a.eval x) fun v=>next (a.put o.dst v) w
 | .defer { callee:=.value (.func k),args,.. }=>next ({ a with defers:={ target:=.fn (.func k) #[],args:=jQ a args }::a.defers }.put o.dst undef) w
 | .defer { callee:=.value f,args,.. }=>DF (a.eval f) fun fn x y=>next ({ a with defers:={ target:=.fn fn y,args:=x++jQ a args }::a.defers }.put o.dst undef) w
 | .call { callee:=.value (.func k),args,.. }=>match C.calls k with
  | true=>CA C.P k (jQ a args) w (fun v w'=>oW C o (fun v=>next (a.put o.dst v) w') v) (fun b w'=>Q (.panic b) a w')
  | false=>False
 | .call { callee:=.value f,args,.. }=>CV C.P (a.eval f) (jQ a args) w (fun v w'=>oW C o (fun v=>next (a.put o.dst v) w') v) (fun b w'=>Q (.panic b) a w')
 | .call { callee:=.invoke f m,args,.. }=>CI C.P (a.eval f) m (jQ a args) w (fun v w'=>oW C o (fun v=>next (a.put o.dst v) w') v) (fun b w'=>Q (.panic b) a w')
 | _=>match zD a o with
  | some s=>RD C.P s w (oW C o fun v=>next (a.put o.dst v) w) (fun v w'=>Q (.panic [{ v,recovered:=false }]) a w')
  | none=>match writing a o with
   | some s=>WR C.P s w (fun v w'=>next (a.put o.dst v) w') (fun v w'=>Q (.panic [{ v,recovered:=false }]) a w')
   | none=>match Vd a o with
    | some s=>WU C.P s w (fun w'=>next (a.put o.dst undef) w') (fun v w'=>Q (.panic [{ v,recovered:=false }]) a w')
    | none=>False
def xh(C:me)(ops:Array Oper)(Q:Exit->Env->Z->Prop):List Oper->Env->Z->Prop
 | [],a,w=>Q .normal a w
 | o::rest,a,w=>match a08 o (ym ops a) with
  | true=>lK C o a w (xh C ops Q rest) Q
  | false=>xh C ops Q rest (a.put o.dst undef) w
def rP(C:me)(o:Oper)(a:Env)(w:Z)(next:Env->Prop):Prop:=
 match o.op with
 | .move x | .assign x=>next (a.put o.dst (a.eval x))
 | .pick c x y=>match a.eval c with
  | .bool A=>next (a.put o.dst (a.eval x))
  | .bool G=>next (a.put o.dst (a.eval y))
  | _=>False
 | .nilCheck x=>NC (a.eval x) fun v=>next (a.put o.dst v)
 | .call { callee:=.value (.func k),args,.. }=>match C.calls k with
  | true=>CQ C.P k (jQ a args) w (oW C o fun v=>next (a.put o.dst v))
  | false=>False
 | _=>match zD a o with
  | some s=>RD C.P s w (oW C o fun v=>next (a.put o.dst v)) (fun _ _=>False)
  | none=>False
def AM(C:me)(ops:Array Oper)(w:Z)(Q:Env->Prop):List Oper->Env->Prop
 | [],a=>Q a
 | o::rest,a=>match a08 o (ym ops a) with
  | true=>rP C o a w (AM C ops w Q rest)
  | false=>AM C ops w Q rest (a.put o.dst undef)
def rQ(C:me)(o:Oper)(a:Env)(S:Z->Prop)(next:Env->Prop):Prop:=
 match o.op with
 | .move x | .assign x=>next (a.put o.dst (a.eval x))
 | .pick c x y=>match a.eval c with
  | .bool A=>next (a.put o.dst (a.eval x))
  | .bool G=>next (a.put o.dst (a.eval y))
  | _=>False
 | .nilCheck x=>NC (a.eval x) fun v=>next (a.put o.dst v)
 | _=>match zD a o with
  | some s=>uI C.P s S (oW C o fun v=>next (a.put o.dst v))
  | none=>match Vc a o with
   | some s=>uI C.P s S (fun v=>next (a.put o.dst v))
   | none=>False
def Ve(a:Env)(o:Oper):Bool:=
 match o.op with
 | .move _ | .assign _ | .pick _ _ _ | .nilCheck _=>A
 | _=>(zD a o).isSome
def q9(i:Nat):List Nat->Bool
 | []=>G
 | j::r=>cond (a2b i j) A (q9 i r)
def qC(ops:List Oper):List Nat:=
 match ops with
 | []=>[]
 | o::r=>match o.dst with
  | some d=>d::qC r
  | none=>qC r
def NP(d:List Nat)(Q:Exit->Env->Z->Prop)(e:Exit)(a:Env)(w:Z):Prop:=
 match e with
 | .panic b=>tid (∀ f:Nat->Y,Q (.panic b) { a with f:=fun t=>cond (q9 t d) (f t) (a.f t) } w)
 | e=>tid (Q e a w)
def tS(m:Option Nat)(listed:Array Bool):Bool:=
 match m with
 | none=>A
 | some m=>!listed.getD m A
def chainB(md:a35)(ops:Array Oper)(i m:Nat)(D:List Nat):Bool:=
 D.contains m && !D.contains i && D.all fun c=>match ops[c]? with
  | some o=>o.after.any fun e=>a2r md e && (e.on == i || D.contains e.on)
  | none=>G
def Hg(listed:Array Bool)(D:List Nat):Bool:=D.all fun c=>!listed.getD c A
def Vf(md:a35)(ops:Array Oper)(i:Nat):List Nat:=
 (List.range ops.size).foldl (fun D c=>match ops[c]? with
  | some o=>match o.after.any fun e=>a2r md e && (e.on == i || D.contains e.on) with
   | true=>c::D
   | false=>D
  | none=>D) []
def Zg(ops:Array Oper)(i:Nat):Bool:=
 match ops[i]? with
 | some o=>match o.op with
  | .move _=>A
  | _=>G
 | none=>G
def Q3(md:a35)(ops:Array Oper)(listed:Array Bool)(m:Option Nat)(i:Nat):Bool:=
 match m with
 | none=>A
 | some m=>(chainB md ops i m (Vf md ops i) && Hg listed (Vf md ops i)) || (Zg ops i && !a2b i m)
def Zh:Nat->Option Nat
 | 0=>V
 | m+1=>O m
def mv(C:me)(ops:Array Oper)(Q:Exit->Env->Z->Prop)(S:Z->Prop)(m:Option Nat):List Nat->Array Bool->Env->Z->Prop
 | [],listed,a,w=>match a05 .any ops listed with
  | []=>Q .normal a w
  | _=>False
 | i::r,listed,a,w=>match ops[i]? with
  | none=>False
  | some o=>match a05 .any ops listed == [i] with
   | true=>match a08 o (ym ops a) with
    | false=>mv C ops Q S m r (listed.setIfInBounds i A) (a.put o.dst undef) w
    | true=>match Ve a o with
     | true=>rP C o a w (fun a'=>mv C ops Q S m r (listed.setIfInBounds i A) a' w)
     | false=>match tS m (listed.setIfInBounds i A) with
      | true=>lK C o a w (fun a' w'=>S w'/\mv C ops Q S m r (listed.setIfInBounds i A) a' w') (NP (qC ops.toList) Q)
      | false=>lK C o a w (fun a' w'=>mv C ops Q S m r (listed.setIfInBounds i A) a' w') (NP (qC ops.toList) Q)
   | false=>match (a05 .any ops listed).contains i && Region.free .any ops listed i && Q3 .any ops listed m i with
    | false=>False
    | true=>match a08 o (ym ops a) with
     | false=>mv C ops Q S m r (listed.setIfInBounds i A) (a.put o.dst undef) w
     | true=>rQ C o a S (fun a'=>mv C ops Q S m r (listed.setIfInBounds i A) a' w)
def Q4(f:Nat->Y)(vs live:List Nat)(s d:Nat->Y)(j:Nat):Y:=cond (q9 j live) (s j) (cond (q9 j vs) (d j) (f j))
def fr(a:Env)(vs live:List Nat)(s d:Nat->Y):Env:={ a with f:=Q4 a.f vs live s d }
def BD(next:Env->Z->Prop)(Q:Exit->Env->Z->Prop):Exit->Env->Z->Prop
 | .normal,a,w=>tid (next a w)
 | e,a,w=>tid (Q e a w)
def FN(id:Nat)(Q:Exit->Env->Z->Prop):Exit->Env->Z->Prop
 | .exit b,a,w=>tid (cond (a2b b id) (Q .normal a w) (Q (.exit b) a w))
 | e,a,w=>tid (Q e a w)
def wr:Code->List Nat
 | .region _ ops _=>qC ops.toList
 | .seq a b=>wr a++wr b
 | .cond _ a b=>wr a++wr b
 | .block _ c=>wr c
 | .loop c=>wr c
 | .scope c=>wr c
 | _=>[]
def xi(o:Oper):Bool:=
 match o.op with
 | .defer _=>A
 | _=>G
def nd:Code->Bool
 | .region _ ops _=>ops.toList.all fun o=>!xi o
 | .seq a b=>nd a && nd b
 | .cond _ a b=>nd a && nd b
 | .block _ c=>nd c
 | .loop c=>nd c
 | .scope c=>nd c
 | _=>A
def Hh:Code->List Nat
 | .region id _ _=>[id]
 | .seq a b=>Hh a++Hh b
 | .cond _ a b=>Hh a++Hh b
 | .block _ c=>Hh c
 | .loop c=>Hh c
 | .scope c=>Hh c
 | _=>[]
def Hi(c:Code):Nat:=
 match Hh c with
 | i::_=>i
 | []=>1000000
def Eo(x:Code):Nat:=
 match (Hh x).reverse with
 | i::r=>i*1000+r.length
 | []=>1000000000
def zE(a:Env)(live:List Nat):List (Nat×Y):=live.map fun i=>(i,a.f i)
def pQ:List Nat->Env->(Env->Prop)->Prop
 | [],a,K=>tid (K a)
 | i::r,a,K=>BS (a.f i) (pQ r (a.put (O i) (.bool A)) K) (pQ r (a.put (O i) (.bool G)) K)
def Vg(ops:Array Oper)(n:Nat):Bool:=
 if n=ops.size then Region.lexB .any ops else Region.lexTailB .any ops n
def Ol(Q:Exit->Env->Z->Prop):Exit->Env->Z->Prop
 | .goto _,_,_=>False
 | e,a,w=>tid (Q e a w)
def Vh(C:me):Operand->Bool
 | .tmp t=>C.sy t
 | _=>G
def gn(C:me):Code->(Exit->Env->Z->Prop)->Env->Z->Prop
 | .skip,Q,a,w=>Q .normal a w
 | .region id ops draw,Q,a,w=>match draw with
  | false=>xh C ops Q ops.toList a w
  | true=>match C.held id with
   | some []=>False
   | some (m::ord)=>match ord.length == ops.size && Region.noSelect ops with
    | true=>HD fun S=>S w.drew/\mv C ops Q S (Zh m) ord (Array.replicate ops.size G) a w.drew
    | false=>False
   | none=>match Vg ops (C.tail id) with
    | true=>AM C ops w.drew (fun a'=>xh C ops Q (ops.toList.drop (C.tail id)) a' w.drew) (ops.toList.take (C.tail id)) a
    | false=>False
 | .seq x y,Q,a,w=>match C.join (Eo x) with
  | none=>gn C x (BD (gn C y Q) Q) a w
  | some live=>match nd x with
    | true=>match C.sum (Eo x) with
     | false=>JN (fun j=>gn C x (BD (fun a' w'=>j (jg (zE a' live)) w') Q) a w) (fun s d w=>pQ (C.bj (Eo x)) (fr a (wr x) live s d) fun a=>gn C y Q a w)
     | true=>JS (fun j=>gn C x (BD (fun a' w'=>j (jg (zE a' live)) w') Q) a w) (fun s d w=>pQ (C.bj (Eo x)) (fr a (wr x) live s d) fun a=>gn C y Q a w)
    | false=>False
 | .cond c x y,Q,a,w=>match Vh C c with
  | true=>BS (a.eval c) (gn C x Q a w) (gn C y Q a w)
  | false=>match a.eval c with
    | .bool A=>gn C x Q a w
    | .bool G=>gn C y Q a w
    | _=>False
 | .block id c,Q,a,w=>gn C c (FN id Q) a w
 | .exit id,Q,a,w=>Q (.exit id) a w
 | .loop c,Q,a,w=>match nd c with
  | true=>Oi (fun rec s d w=>pQ (C.bl (Hi c)) (fr a (wr c) (C.live (Hi c)) s d) fun a=>gn C c (BD (fun a' w'=>rec (jg (zE a' (C.live (Hi c)))) w') Q) a w)
     (jg (zE a (C.live (Hi c)))) w
  | false=>False
 | .ret,Q,a,w=>Q .ret a w
 | .label _,Q,a,w=>Q .normal a w
 | .scope c,Q,a,w=>gn C c (Ol Q) a w
 | _,_,_,_=>False
structure Good(C:me):Prop where
 mixed:C.P.follows .mixedOrders=A
 calls:∀ k,C.calls k=A->zC C.P k=A
structure Agr(vs:List Nat)(n:Bool)(a a':Act):Prop where
 get:∀ i,i ∉ vs->a'.tmps[i]?=a.tmps[i]?
 size:a'.tmps.size=a.tmps.size
 defs:n=A->a'.defers=a.defers
structure Rel(vs:List Nat)(a:Act)(e:Env):Prop where
 get:∀ i,a.tmps.getD i undef=e.f i
 defs:a.defers=e.defers
 lt:∀ i∈vs,i<a.tmps.size
theorem Rel.eval{vs:List Nat}{a:Act}{e:Env}(h:Rel vs a e):a.eval=e.eval:=by
 funext x
 cases x with
 | tmp t=>exact h.get t
 | _=>rfl
theorem Rel.put{vs:List Nat}{a:Act}{e:Env}(h:Rel vs a e){d:Option Nat}(b:∀ t,d=O t->t∈vs)(v:Y):Rel vs (a.put d v) (e.put d v):=by
 cases d with
 | none=>exact h
 | some d=>
  have c:=h.lt d (b d J);refine⟨fun i=>?_,h.defs,fun i f=>by simp only[Act.put,Array.size_setIfInBounds];exact h.lt i f⟩;have g:=h.get i;simp only[a1u] at g;simp only[Act.put,Env.put,Jl,a1u,Array.getElem?_setIfInBounds];by_cases j:d=i
  .subst j;simp [c]
  .have k:a2b i d=false:=by
    grind [a2b,absurd,Nat.eq_of_beq_eq_true]
   grind
def Rel.yield{vs:List Nat}{e:Env}(h:Rel vs a e)(ops:Array Oper):yielded ops a.tmps=ym ops e:=by
 funext j
 unfold yielded ym;cases (ops[j]?).bind (·.dst) with
 | none=>rfl
 | some d=>
  have b:=h.get d;simp only[a1u] at b;simp only[Option.bind_some];cases hx:a.tmps[d]? with
  | none=>rw[hx] at b;rw[<- b];rfl
  | some v=>grind
theorem Jm(a:Env)(l:Array Operand):l.map a.eval=jQ a l:=by
 grind [Array.ext',jQ]
theorem ahD(a:Env)(l:Array (Nat×Operand)):(l.map fun(i,x)=>(i,a.eval x))=Q2 a l:=by
 grind [Array.ext',Q2]
theorem ahE(a:Env)(x:Option Operand):x.map a.eval=LF a x:=by cases x<;>rfl
theorem Zi{a:Env}{o:Oper}{s:Sem Y}(h:zD a o=O s):execOp a.eval o=(do pure (.value (<- s))):=by
 grind [guard,zD,execOp,ahD,ahE,resolve,invoke,builtin,Jm]
theorem ahF{a:Env}{o:Oper}{s:Sem Y}(h:writing a o=O s):execOp a.eval o=(do pure (.value (<- s))):=by
 grind [guard,writing,execOp,ahD,Jm,ahE,resolve,invoke,builtin]
def asH{a:Env}{o:Oper}{s:Sem Y}(h:Vc a o=O s):writing a o=O s:=by
 obtain⟨dst,op,type,pos,after,guard⟩:=o;unfold Vc at h;dsimp only at h;split at h<;>first
  | (cases h;done)
  | (subst_vars;exact h)
theorem asI{a:Env}{o:Oper}{s:Sem Unit}(h:Vd a o=O s):execOp a.eval o=(do s;pure .skip):=by
 grind [guard,Vd,execOp]
def Q5(P:Program)(s:Sem Y)(w:Z):((do pure (.value (<- s))):Sem Next).run P w =
  match s.run P w with | .ok v w'=>.ok (.value v) w' | .halt h w'=>.halt h w':=by
 rw[a0l];cases s.run P w<;>rfl
def asJ(P:Program)(s:Sem Unit)(w:Z):((do s;pure .skip):Sem Next).run P w =
  match s.run P w with | .ok _ w'=>.ok .skip w' | .halt h w'=>.halt h w':=by
 rw[a0l];cases s.run P w<;>rfl
def Q6{C:me}{o:Oper}{K':Y->Prop}(h:∀ v,K v->K' v)(a:oW C o K v):K' v:=by
 unfold oW at a;split at a
 .unfold BS at a;split at a
  .rename_i c;cases c<;>grind
  grind
 grind
theorem Q7{P:Program}{k:FuncId}(h:zC P k=A)(args:Array Y)(w:Z):(callFunc k args).run P w = .ok (.enter k args) w:=by
 unfold zC at h;split at h
 .rename_i fn a;simp only[a0w,a1F,beq_eq_false_iff_ne] at h;obtain⟨c,d⟩:=h;obtain⟨b,e⟩:=Option.isSome_iff_exists.1 c;unfold callFunc;simp [a0l,program,Sem.run,a,d,e,Result.andThen]
 grind
abbrev Nx(vs:List Nat)(o:Oper)(e:Env)(next:Env->Z->Prop)(next':Act->Z->Prop):Prop:=
 ∀ (e':Env) (a':Act) (w':Z),Rel vs a' e'->(∀ t,o.dst=O t->t∈vs)->(∃ v,e'=e.put o.dst v\/∃ d,xi o=A/\e'=({ e with defers:=d::e.defers }:Env).put o.dst v)->next e' w'->next' a' w'
section
variable{C:me}{vs:List Nat}{o:Oper}{a:Act}{e:Env}{w:Z}{next:Env->Z->Prop}{next':Act->Z->Prop}{Q:Exit->Env->Z->Prop}{Q':Exit->Act->Z->Prop}
def Zj{k:FuncId}{args:Array Y}(hr:Rel vs a e)(c:∀ t,o.dst=O t->t∈vs)(d:Nx vs o e next next')(f:∀ b w',Q (.panic b) e w'->Q' (.panic b) a w')
  (h:CA C.P k args w (fun v w'=>oW C o (fun v=>next (e.put o.dst v) w') v) (fun b w'=>Q (.panic b) e w')) :
  o.upon C.P a next' Q' (.ok (.enter k args) w):=by
 unfold Oper.upon;refine Calls.mono h fun x w' he=>?_;cases x with
 | returned v=>exact Q6 (K:=fun v=>next (e.put o.dst v) w') (K':=fun v=>next' (a.put o.dst v) w') (fun v hv=>d _ _ _ (hr.put c v) c zg hv) he
 | panicked b=>exact f _ _ he
 | outgrown=>exact he.elim
def asK{s:Sem Y}(d:execOp a.eval o=(do pure (.value (<- s))))(hr:Rel vs a e)(b:∀ t,o.dst=O t->t∈vs)(f:Nx vs o e next next')(g:∀ c w',Q (.panic c) e w'->Q' (.panic c) a w')
  (h:RD C.P s w (oW C o fun v=>next (e.put o.dst v) w) (fun v w'=>Q (.panic [{ v,recovered:=false }]) e w')):o.wp C.P a w next' Q':=by
 unfold a3i;rw[d,Q5];unfold RD at h;cases hx:s.run C.P w with
 | ok v w'=>
  rw[hx] at h;obtain⟨rfl,h⟩:=h;exact Q6 (K:=fun v=>next (e.put o.dst v) w') (K':=fun v=>next' (a.put o.dst v) w') (fun v hv=>f _ _ _ (hr.put b v) b zg hv) h
 | halt x w'=>
  rw[hx] at h;cases x<;>first | exact h.elim | exact g _ _ h
def asL{s:Sem Y}(d:execOp a.eval o=(do pure (.value (<- s))))(hr:Rel vs a e)(b:∀ t,o.dst=O t->t∈vs)(f:Nx vs o e next next')(g:∀ c w',Q (.panic c) e w'->Q' (.panic c) a w')
  (h:WR C.P s w (fun v w'=>next (e.put o.dst v) w') (fun v w'=>Q (.panic [{ v,recovered:=false }]) e w')):o.wp C.P a w next' Q':=by
 unfold a3i;rw[d,Q5];unfold WR at h;cases hx:s.run C.P w with
 | ok v w'=>rw[hx] at h;exact f _ _ _ (hr.put b v) b zg h
 | halt x w'=>
  rw[hx] at h;cases x<;>first | exact h.elim | exact g _ _ h
def asM{s:Sem Unit}(d:execOp a.eval o=(do s;pure .skip))(hr:Rel vs a e)(b:∀ t,o.dst=O t->t∈vs)(f:Nx vs o e next next')(g:∀ c w',Q (.panic c) e w'->Q' (.panic c) a w')
  (h:WU C.P s w (fun w'=>next (e.put o.dst undef) w') (fun v w'=>Q (.panic [{ v,recovered:=false }]) e w')):o.wp C.P a w next' Q':=by
 unfold a3i;rw[d,asJ];unfold WU at h;cases hx:s.run C.P w with
 | ok v w'=>rw[hx] at h;exact f _ _ _ (hr.put b _) b zg h
 | halt x w'=>
  rw[hx] at h;cases x<;>first | exact h.elim | exact g _ _ h
theorem Q9(b:execOp a.eval o=pure (.value v))(h:next' (a.put o.dst v) w):o.wp C.P a w next' Q':=by
 unfold a3i;rw[b];exact h
end
def Zk{a:Env}{o:Oper}{x:Operand}(b:o.op = .nilCheck x)(h:NC (a.eval x) K):execOp a.eval o=pure (.value (a.eval x))/\K (a.eval x):=by
 unfold NC at h;unfold execOp;grind
theorem asN{P:Program}{t:TypeId}{x r:Y}{m:String}{k:FuncId}(c:(method (P.types.size+a3s) t x m).run P w = .ok (k,r) w)(d:zC P k=A)
  (args:Array Y):(callMethod (aj t x) m args).run P w = .ok (.enter k (#[r]++args)) w:=by
 show(Sem.bind program fun p=>Sem.bind (method (p.types.size+a3s) t x m) fun y=>callFunc y.1 (#[y.2]++args)).run P w=_;have b:∀ {α β:Type} (s:Sem α) (f:α->Sem β) (w:Z),(Sem.bind s f).run P w=(s.run P w).andThen fun a w=>(f a).run P w:=(by grind [Sem.run_bind']);rw[b];show(Sem.bind (method (P.types.size+a3s) t x m) fun y=>callFunc y.1 (#[y.2]++args)).run P w=_;rw[b,c];exact Q7 d _ _
def Zl{C:me}(b:Good C){vs:List Nat}{o:Oper}{e:Env}{next:Env->Z->Prop}{next':Act->Z->Prop}{Q:Exit->Env->Z->Prop}{Q':Exit->Act->Z->Prop}
  (hr:Rel vs a e) (g:∀ t,o.dst=O t->t∈vs) (i:Nx vs o e next next') (j:∀ q w',Q (.panic q) e w'->Q' (.panic q) a w')
  (h:lK C o e w next Q):o.wp C.P a w next' Q':=by
 have he:=hr.eval;have l:∀ v,next (e.put o.dst v) w->next' (a.put o.dst v) w:=fun v hv=>i _ _ _ (hr.put g v) g zg hv
 unfold lK at h;split at h
 .rename_i x d;exact Q9 (C:=C) (by rw[he];grind [execOp]) (l _ h)
 .rename_i x d;exact Q9 (C:=C) (by rw[he];grind [execOp]) (l _ h)
 .rename_i c x y d;split at h
  .rename_i n;exact Q9 (C:=C) (v:=e.eval x) (by rw[he];unfold execOp;rw[d];simp only[n];rfl) (l _ h)
  .rename_i n;exact Q9 (C:=C) (v:=e.eval y) (by rw[he];unfold execOp;rw[d];simp only[n];rfl) (l _ h)
  grind
 .rename_i x d;obtain⟨z,B⟩:=Zk d h;grind [Q9]
 .rename_i k args CX d;unfold a3i;have:execOp a.eval o=pure (.defer { target:=.fn (.func k) #[],args:=jQ e args }):=by
   rw[he];grind [execOp,resolve,Jm,Env.eval,a2T]
  rw[this];have hid:xi o=true:=by grind [xi]
  have p:Rel vs { a with defers:={ target:=.fn (.func k) #[],args:=jQ e args }::a.defers } ({ e with defers:={ target:=.fn (.func k) #[],args:=jQ e args }::e.defers }:Env):=
   ⟨hr.get,by show _::_=_::_;rw[hr.defs],hr.lt⟩
  exact i _ _ _ (p.put g undef) g zg h
 .rename_i f args CX E d;unfold DF at h;split at h
  .rename_i fn x y F;unfold a3i;have:execOp a.eval o=pure (.defer { target:=.fn fn y,args:=x++jQ e args }):=by
    rw[he];grind [execOp,resolve,Jm,a2T]
   rw[this];have hid:xi o=true:=by grind [xi]
   have p:Rel vs { a with defers:={ target:=.fn fn y,args:=x++jQ e args }::a.defers } ({ e with defers:={ target:=.fn fn y,args:=x++jQ e args }::e.defers }:Env):=
    ⟨hr.get,by show _::_=_::_;rw[hr.defs],hr.lt⟩
   exact i _ _ _ (p.put g undef) g zg h
  grind
 .rename_i k args CX d;split at h
  .rename_i hk;unfold a3i;have:(execOp a.eval o).run C.P w = .ok (.enter k (jQ e args)) w:=by
    rw[he];unfold execOp;rw[d];simp only[resolve,Jm,Env.eval,a2T,Array.empty_append];show(callFunc k (jQ e args++#[])).run C.P w=_;rw[Array.append_empty];exact Q7 (b.calls k hk) _ _
   rw[this];exact Zj hr g i j h
  grind
 .rename_i f args CX H d;unfold CV at h;split at h
  .rename_i k first cap hv
   unfold a3i;have:(execOp a.eval o).run C.P w = .ok (.enter k (first++jQ e args++cap)) w:=by
    rw[he];unfold execOp;rw[d];simp only[resolve,Jm,hv,a2T];show(callFunc k (first++jQ e args++cap)).run C.P w=_;grind [Q7]
   rw[this];exact Zj hr g i j h.2
  grind
 .rename_i f m args CX d;unfold CI at h;split at h
  .rename_i t x hv;obtain⟨k,r,z,B,D⟩:=h;unfold a3i;have:(execOp a.eval o).run C.P w = .ok (.enter k (#[r]++jQ e args)) w:=by
    rw[he];unfold execOp;rw[d];simp only[resolve,Jm,hv];show(invoke (.fn (.method m) #[]) (#[aj t x]++jQ e args)).run C.P w=_;have I:(#[a2I t x]++jQ e args)[0]?=O (aj t x):=zg;have K:(#[a2I t x]++jQ e args).extract 1 (#[a2I t x]++jQ e args).size=jQ e args:=by
     apply Array.ext';rw[Array.toList_extract];simp only[Array.toList_append,List.cons_append,List.nil_append,Array.size_append,List.size_toArray,List.length_cons,List.length_nil,List.drop_succ_cons,List.drop_zero,List.extract_eq_take_drop];grind [jQ,List.take_length]
    have L:invoke (.fn (.method m) #[]) (#[a2I t x]++jQ e args)=callMethod (aj t x) m (jQ e args):=by
     grind [invoke]
    grind [asN]
   rw[this];exact Zj hr g i j D
  grind
 .split at h
  .rename_i s u;exact asK (by grind [Zi]) hr g i j h
  .split at h
   .rename_i s u;exact asL (by grind [ahF]) hr g i j h
   .split at h
    .rename_i s u;exact asM (by grind [asI]) hr g i j h
    grind
section
variable{P:Program}{ops:Array Oper}{Q:Exit->Act->Z->Prop}{md:a35}{S:Z->Prop}{m:Option Nat}
def Jn(P:Program)(md:a35)(ops:Array Oper)(Q:Exit->Act->Z->Prop)(S:Z->Prop)(m:Option Nat):Nat->Array Bool->Act->Z->Prop
 | 0,listed,a,w=>a05 md ops listed=[]/\Q .normal a w
 | n+1,listed,a,w=>(a05 md ops listed=[]->Q .normal a w) /\
  ∀ j∈a05 md ops listed,wpOp P ops Q j (fun a' w'=>(tS m (listed.setIfInBounds j A)=A->S w')/\Jn P md ops Q S m n (listed.setIfInBounds j A) a' w') a w
def ahG:∀ (n:Nat) (listed:Array Bool) (a:Act) (w:Z),Jn P md ops Q S m n listed a w->wpAny P md ops Q n listed a w
 | 0,_,_,_,h=>h
 | n+1,_,_,_,h=>⟨h.1,fun j b=>wpOp_mono (fun a' w' c=>ahG n _ a' w' c.2) (h.2 j b)⟩
theorem asO{listed:Array Bool}{m:Nat}{D:List Nat}(a:chainB md ops i m D=A)(b:Hg listed D=A)(e:listed.getD i A=G)
  (c:j∈a05 md ops listed):j ∉ D:=by
 intro d;simp only[chainB,a0w,a1f] at a;simp only[Hg,a1f,a1F] at b;obtain⟨_,f,g,h⟩:=mem_ready.1 c;grind
def ahH{d:Oper}(s:ops[i]?=O d)(x:∀ (j:Nat) (o:Oper) cs b,ops[j]?=O o->o.op≠.select cs b)
  (B:∀ c a w,Q (.panic c) (a.put d.dst v) w->Q (.panic c) a w) {D:List Nat} (hD:∀ m',m=O m'->chainB md ops i m' D=A) :
  ∀ (n:Nat) (listed:Array Bool) (a:Act) (w:Z),
   (∀ j f,ops[j]?=O f->j≠i->listed.getD j A=G->(∀ e∈f.after,a2r md e=A->e.on≠i)->d.apart ops f=A) ->
   (∀ m',m=O m'->Hg listed D=A) ->
   i∈a05 md ops listed->YieldsIf P ops S d v a->S w ->
   Jn P md ops Q S m n (listed.setIfInBounds i A) (a.put d.dst v) w->Jn P md ops Q S m (n+1) listed a w:=by
 intro n;induction n with
 | zero=>
  intro listed a w _ _ hr q l H;refine⟨zg,fun j r=>?_⟩;by_cases g:j=i
  .subst g;exact q.wpOp s l ⟨fun _=>l,H⟩
  .have:=ready_mono r g;rw[H.1] at this;grind
 | succ n ih=>
  intro listed a w y C hr q l H;refine⟨zg,fun j r=>?_⟩;by_cases g:j=i
  .subst g;exact q.wpOp s l ⟨fun _=>l,H⟩
  .have E:=H.2 j (ready_mono r g);obtain⟨F,f,t,vL⟩:=mem_ready.1 r;have I:=(mem_ready.1 hr).1;have K:∀ e∈f.after,a2r md e=A->e.on≠i:=zg;have L:∀ m',m=O m'->j ∉ D:=(by grind [asO]);have z:∀ m',m=O m'->Hg (listed.setIfInBounds j A) D=true:=fun m' e=>by
    have h:=C m' e;simp only[Hg,a1f,a1F] at h ⊢;intro c hc;have u:j≠c:=zg;rw[getD_set_ne A u];grind
   have M:tS m ((listed.setIfInBounds i A).setIfInBounds j A)=true:=by
    cases m with
    | none=>rfl
    | some m'=>
     have h:=z m' J;have p:=hD m' J;simp only[chainB,a0w,a4G,a1F,a4R,decide_eq_false_iff_not,decide_eq_true_eq] at p;simp only[Hg,a1f,a1F] at h;have h4:=h m' p.1.1;simp only[tS,a1F];have N:i≠m':=zg;rw[a22 _ _ (Ne.symm g),getD_set_ne A N];omega
   have h:=wpOp_putIf t (y j f t g F K) (fun cs b=>x i d cs b s) (fun cs b=>x j f cs b t) B q E;have R:∀ k ok,ops[k]?=O ok->k≠i->(listed.setIfInBounds j A).getD k A=G ->
     (∀ e∈ok.after,a2r md e=A->e.on≠i)->d.apart ops ok=true:=fun k ok hk T U W=>by
    refine y k ok hk T ?_ W;by_cases X:j=k
    .grind
    .rw[getD_set_ne A X] at U;omega
   refine wpOp_mono (fun a' w' p=>⟨zg,ih (listed.setIfInBounds j A) a' w' R z (ready_mono hr zo) p.1 (p.2.1 M) ?_⟩) h;grind [a22]
def ahJ{d:Oper}(p:ops[i]?=O d)(M:∀ (j:Nat) (o:Oper) cs b,ops[j]?=O o->o.op≠.select cs b)
  (s:∀ c a w,Q (.panic c) (a.put d.dst v) w->Q (.panic c) a w) (t:∀ m',m=O m'->i≠m') :
  ∀ (n:Nat) (listed:Array Bool) (a:Act) (w:Z),
   (∀ j f,ops[j]?=O f->j≠i->listed.getD j A=G->(∀ e∈f.after,a2r md e=A->e.on≠i)->d.apart ops f=A) ->
   i∈a05 md ops listed->YieldsIf P ops (fun _=>True) d v a->(tS m listed=A->S w) ->
   Jn P md ops Q S m n (listed.setIfInBounds i A) (a.put d.dst v) w->Jn P md ops Q S m (n+1) listed a w:=by
 have N:∀ (listed:Array Bool),tS m (listed.setIfInBounds i A)=tS m listed:=fun listed=>by
  cases m with
  | none=>rfl
  | some m'=>simp only[tS];rw[getD_set_ne A (t m' J)]
 intro n;induction n with
 | zero=>
  intro listed a w _ hr h u H;refine⟨zg,fun j l=>?_⟩;by_cases g:j=i
  .subst g;exact h.wpOp p trivial zg
  .have:=ready_mono l g;rw[H.1] at this;grind
 | succ n ih=>
  intro listed a w q hr h u H;refine⟨zg,fun j l=>?_⟩;by_cases g:j=i
  .subst g;exact h.wpOp p trivial zg
  .have x:=H.2 j (ready_mono l g);obtain⟨y,f,r,R⟩:=mem_ready.1 l;have z:=(mem_ready.1 hr).1;have B:∀ e∈f.after,a2r md e=A->e.on≠i:=zg;have C:=wpOp_putIf r (q j f r g y B) zg zg s h x;have D:∀ k ok,ops[k]?=O ok->k≠i->(listed.setIfInBounds j A).getD k A=G ->
     (∀ e∈ok.after,a2r md e=A->e.on≠i)->d.apart ops ok=true:=fun k ok hk E F I=>by
    refine q k ok hk E ?_ I;by_cases K:j=k
    .grind
    .rw[getD_set_ne A K] at F;omega
   have T:(listed.setIfInBounds i A).setIfInBounds j A=(listed.setIfInBounds j A).setIfInBounds i true:=a22 _ _ zo;refine wpOp_mono (fun a' w' L=>⟨zg,ih (listed.setIfInBounds j A) a' w' D (ready_mono hr zo) L.1 zg ?_⟩) C;grind
def asR{listed:Array Bool}(h:Q3 md ops listed m i=A) :
  ((∀ m',m=O m'->chainB md ops i m' (Vf md ops i)=A)/\(∀ m',m=O m'->Hg listed (Vf md ops i)=A)/\tS m listed=A)\/((∀ m',m=O m'->i≠m')/\Zg ops i=A):=by
 cases m with
 | none=>exact .inl ⟨zg,zg,J⟩
 | some m'=>
  simp only[Q3,Bool.or_eq_true,a0w] at h;rcases h with h | ⟨h,a⟩
  .refine .inl ⟨zg,zg,?_⟩;have b:=h.1;simp only[chainB,a0w,a4G,a4R,decide_eq_true_eq] at b;grind [Hg,a1f,a1F,tS]
  .refine .inr ⟨fun m2 e he=>?_,h⟩;have e:=Option.some.inj e;subst e he;simp at a
end
end Sx
namespace P
abbrev Bs:=List UInt8
structure Tok where
 kind:Nat
 text:Bs
 pos:Nat
deriving Repr,DecidableEq,Inhabited
inductive Ex where
 | mk (kind:Nat) (name:Bs) (n:Int) (k:Nat) (args:List Ex)
deriving Inhabited
inductive Bd where
 | mk (kind:Nat) (name:Bs) (args:List Ex) (parts:List Bd)
deriving Inhabited
structure Cl where
 name:Bs
 args:List Ex
 body:Bd
 vars:List Bs
deriving Inhabited
def Ex.kind:Ex->Nat | .mk k _ _ _ _=>k
def Ex.name:Ex->Bs | .mk _ s _ _ _=>s
def Ex.args:Ex->List Ex | .mk _ _ _ _ l=>l
def Bd.kind:Bd->Nat | .mk k _ _ _=>k
def Bd.parts:Bd->List Bd | .mk _ _ _ l=>l
def cls(c:UInt8):Nat:=
 if 97<=c.toNat/\c.toNat<=122 then 115
 else if (65<=c.toNat/\c.toNat<=90)\/c.toNat=95 then 99
 else if 48<=c.toNat/\c.toNat<=57 then 100 else 0
def digit(c:UInt8):Bool:=decide (48<=c.toNat/\c.toNat<=57)
def num(s:Bs):Int:=s.foldl (fun v c=>10*v+((c.toNat:Int)-48)) 0
def rR(w:Bs):Nat:=
 match w with
 | []=>0
 | c::r=>
  if cls c=115 then(if w.length<=8 then 1 else 0)
  else if cls c=99 then(if w.length<=8 then 2 else 0)
  else if w.length<=9/\w.all digit=A/\(c≠48\/r=[]) then 3 else 0
def oo:List Bs:=[[61,58,61],[58,45],[45,62],[92,43],[92,61],[61,61],[61,60],[62,61],[47,47],[40],[41],[91],[93],[44],[124],[59],[33],[61],[60],[62],[43],[45],[42]]
def blank(c:UInt8):Bool:=c == 32 || c == 10
def Hk:Bs->Bool
 | []=>A
 | d::_=>blank d
def oq:Nat->Bs->Nat->Option (Sum Nat (List Tok))
 | 0,_,_=>V
 | _+1,[],i=>O (.inr [⟨0,[],i⟩])
 | f+1,c::r,i=>
  if blank c then oq f r (i+1)
  else if cls c≠0 then
   let w:=(c::r).takeWhile (fun x=>cls x≠0)
   if rR w=0 then O (.inl i)
   else match oq f ((c::r).drop w.length) (i+w.length) with
    | some (.inr l)=>O (.inr (⟨rR w,w,i⟩::l))
    | x=>x
  else if c=46/\Hk r=A then
   match oq f r (i+1) with
   | some (.inr l)=>O (.inr (⟨4,[46],i⟩::l))
   | x=>x
  else match oo.find? (fun s=>s.isPrefixOf (c::r)) with
   | none=>O (.inl i)
   | some s=>match oq f ((c::r).drop s.length) (i+s.length) with
    | some (.inr l)=>O (.inr (⟨4,s,i⟩::l))
    | x=>x
inductive cg(α:Type) where
 | ok (a:α) (k:Nat) (vars:List Bs)
 | err (e at_:Nat)
deriving Inhabited
def tk(T:List Tok)(k:Nat):Tok:=T.getD k ⟨0,[],0⟩
def ep(T:List Tok)(k:Nat)(s:Bs):Bool:=((tk T k).kind == 4 || (tk T k).kind == 1) && (tk T k).text == s
def cg.bind{α β:Type}(r:Option (cg α))(g:α->Nat->List Bs->Option (cg β)):Option (cg β):=
 match r with
 | none=>V
 | some (.err e a)=>O (.err e a)
 | some (.ok a k v)=>g a k v
def mZ{α:Type}(T:List Tok)(s:Bs)(x:α)(k:Nat)(vars:List Bs):Option (cg α):=
 if ep T k s then O (.ok x (k+1) vars) else O (.err 2 (tk T k).pos)
def On:Nat:=12
def maxDepth:Nat:=8
def Vl:Nat:=4
def zI(t:Tok)(k:Nat)(vars:List Bs):cg Ex:=
 match (if t.text=[95] then V else vars.idxOf? t.text) with
 | some j=>.ok (.mk 118 [] 0 j []) k vars
 | none=>if vars.length=On then .err 4 t.pos else .ok (.mk 118 [] 0 vars.length []) k (vars++[t.text])
def ops(lvl:Nat):List Bs:=if lvl=0 then [[43],[45]] else [[42],[47,47],[109,111,100]]
def Rb(T:List Tok)(lvl k:Nat):Option Bs:=(ops lvl).find? (ep T k)
def CZ(all:List Ex)(x:Ex):Ex:=all.foldr (fun a x=>.mk 99 [46] 0 0 [a,x]) x
def jK(name:Bs):Int:=
 if name∈[[116,114,117,101],[102,97,105,108]] then 0
 else if name∈[[118,97,114],[110,111,110,118,97,114],[97,116,111,109],[105,110,116,101,103,101,114]] then 1
 else if name∈[[61],[92,61],[61,61],[105,115],[60],[62],[61,60],[62,61],[61,58,61]] then 2 else -1
def LH:List Bs:=[[61],[92,61],[61,61],[105,115],[60],[62],[61,60],[62,61],[61,58,61]]
def LK(T:List Tok)(k:Nat):Option Bs:=LH.find? (ep T k)
def Ep(x:Ex):Bool:=
 (x.kind != 97 && x.kind != 99) || (x.name == [46] || x.name == [91,93] || (match x.name with | []=>A | c::_=>cls c != 115)) || (x.name == [109,111,100] && x.args.length == 2)
def zJ:Bd:=.mk 103 [102,97,105,108] [] []
def Oo:Bd:=.mk 103 [116,114,117,101] [] []
mutual
def pR (T:List Tok):Nat->Nat->List Bs->Nat->Option (cg Ex)
 | 0,_,_,_=>V
 | f+1,k,vars,d=>
  if maxDepth<d+1 then O (.err 4 (tk T k).pos)
  else if (tk T k).kind=3 then O (.ok (.mk 110 [] (num (tk T k).text) 0 []) (k+1) vars)
  else if (tk T k).kind=2 then O (zI (tk T k) (k+1) vars)
  else if (tk T k).kind=1 then
   if ep T (k+1) [40] then
    cg.bind (oX T f (k+2) vars (d+1) (tk T k).pos []) fun l k' vars'=>mZ T [41] (.mk 99 (tk T k).text 0 0 l) k' vars'
   else O (.ok (.mk 97 (tk T k).text 0 0 []) (k+1) vars)
  else if ep T k [45] then
   if (tk T (k+1)).kind=3 then O (.ok (.mk 110 [] (- num (tk T (k+1)).text) 0 []) (k+2) vars)
   else O (.err 2 (tk T (k+1)).pos)
  else if ep T k [40] then cg.bind (jo T f 0 (k+1) vars (d+1)) fun x k' vars'=>mZ T [41] x k' vars'
  else if ep T k [91] then rf T f (k+1) vars (d+1)
  else O (.err 2 (tk T k).pos)
 termination_by structural f=>f
def oX (T:List Tok):Nat->Nat->List Bs->Nat->Nat->List Ex->Option (cg (List Ex))
 | 0,_,_,_,_,_=>V
 | f+1,k,vars,d,at_,acc=>
  cg.bind (jo T f 0 k vars d) fun x k' vars'=>
   if ep T k' [44] then oX T f (k'+1) vars' d at_ (acc++[x])
   else if Vl<(acc++[x]).length then O (.err 4 at_) else O (.ok (acc++[x]) k' vars')
 termination_by structural f=>f
def rf (T:List Tok):Nat->Nat->List Bs->Nat->Option (cg Ex)
 | 0,_,_,_=>V
 | f+1,k,vars,d=>
  if ep T k [93] then O (.ok (.mk 97 [91,93] 0 0 []) (k+1) vars)
  else cg.bind (rS T f k vars d []) fun all k' vars'=>
   if ep T k' [124] then cg.bind (jo T f 0 (k'+1) vars' d) fun x a b=>mZ T [93] (CZ all x) a b
   else mZ T [93] (CZ all (.mk 97 [91,93] 0 0 [])) k' vars'
 termination_by structural f=>f
def rS (T:List Tok):Nat->Nat->List Bs->Nat->List Ex->Option (cg (List Ex))
 | 0,_,_,_,_=>V
 | f+1,k,vars,d,acc=>
  cg.bind (jo T f 0 k vars d) fun x k' vars'=>
   if ep T k' [44] then rS T f (k'+1) vars' d (acc++[x]) else O (.ok (acc++[x]) k' vars')
 termination_by structural f=>f
def jo (T:List Tok):Nat->Nat->Nat->List Bs->Nat->Option (cg Ex)
 | 0,_,_,_,_=>V
 | f+1,lvl,k,vars,d=>
  if lvl=2 then pR T f k vars d
  else cg.bind (jo T f (lvl+1) k vars d) fun x k' vars'=>qD T f lvl x k' vars' d
 termination_by structural f=>f
def qD (T:List Tok):Nat->Nat->Ex->Nat->List Bs->Nat->Option (cg Ex)
 | 0,_,_,_,_,_=>V
 | f+1,lvl,x,k,vars,d=>
  match Rb T lvl k with
  | none=>O (.ok x k vars)
  | some o=>cg.bind (jo T f (lvl+1) (k+1) vars d) fun y k' vars'=>qD T f lvl (.mk 99 o 0 0 [x,y]) k' vars' d
 termination_by structural f=>f
end
mutual
def nt (T:List Tok):Nat->Nat->List Bs->Nat->Option (cg Bd)
 | 0,_,_,_=>V
 | f+1,k,vars,d=>
  if maxDepth<d+1 then O (.err 4 (tk T k).pos)
  else if ep T k [33] then O (.ok (.mk 33 [] [] []) (k+1) vars)
  else if ep T k [92,43] then cg.bind (nt T f (k+1) vars (d+1)) fun b k' vars'=>O (.ok (.mk 126 [] [] [b]) k' vars')
  else if ep T k [40] then cg.bind (mw T f (k+1) vars (d+1)) fun b k' vars'=>mZ T [41] b k' vars'
  else cg.bind (jo T f 0 k vars (d+1)) fun x k' vars'=>
   match LK T k' with
   | some c=>cg.bind (jo T f 0 (k'+1) vars' (d+1)) fun y h i=>O (.ok (.mk 103 c [x,y] []) h i)
   | none=>
    if Ep x then O (.err 2 (tk T k).pos)
    else if 0<=jK x.name/\jK x.name≠x.args.length then O (.err 3 (tk T k).pos)
    else O (.ok (.mk 103 x.name x.args []) k' vars')
 termination_by structural f=>f
def pS (T:List Tok):Nat->Nat->List Bs->Nat->List Bd->Option (cg (List Bd))
 | 0,_,_,_,_=>V
 | f+1,k,vars,d,acc=>
  cg.bind (nt T f k vars d) fun b k' vars'=>
   if ep T k' [44] then pS T f (k'+1) vars' d (acc++[b]) else O (.ok (acc++[b]) k' vars')
 termination_by structural f=>f
def nN (T:List Tok):Nat->Nat->List Bs->Nat->Option (cg Bd)
 | 0,_,_,_=>V
 | f+1,k,vars,d=>
  cg.bind (pS T f k vars d []) fun l k' vars'=>O (.ok (match l with | [b]=>b | _=>.mk 44 [] [] l) k' vars')
 termination_by structural f=>f
def pU (T:List Tok):Nat->Nat->List Bs->Nat->Option (cg Bd)
 | 0,_,_,_=>V
 | f+1,k,vars,d=>if maxDepth<d+1 then O (.err 4 (tk T k).pos) else mw T f k vars (d+1)
 termination_by structural f=>f
def mw (T:List Tok):Nat->Nat->List Bs->Nat->Option (cg Bd)
 | 0,_,_,_=>V
 | f+1,k,vars,d=>
  cg.bind (nN T f k vars d) fun a e v1=>
   if ep T e [45,62] then
    cg.bind (nN T f (e+1) v1 d) fun b g v2=>
     if ep T g [59] then cg.bind (pU T f (g+1) v2 d) fun c j v3=>O (.ok (.mk 63 [] [] [a,b,c]) j v3)
     else O (.ok (.mk 63 [] [] [a,b,zJ]) g v2)
   else if ep T e [59] then cg.bind (pU T f (e+1) v1 d) fun b g v2=>O (.ok (.mk 59 [] [] [a,b]) g v2)
   else O (.ok a e v1)
 termination_by structural f=>f
end
def Jo(T:List Tok)(f:Nat)(name:Bs)(args:List Ex)(at_ k:Nat)(vars:List Bs):Option (cg Cl):=
 if 0<=jK name\/name=[109,111,100] then O (.err 3 at_)
 else if ep T k [58,45] then
  cg.bind (mw T f (k+1) vars 0) fun b k' vars'=>mZ T [46] ⟨name,args,b,vars'⟩ k' vars'
 else mZ T [46] ⟨name,args,Oo,vars⟩ k vars
def Er(T:List Tok)(f k:Nat):Option (cg Cl):=
 if (tk T k).kind=1 then
  if ep T (k+1) [40] then
   cg.bind (oX T f (k+2) [] 0 (tk T k).pos []) fun l k' vars'=>
    cg.bind (mZ T [41] l k' vars') fun l a b=>Jo T f (tk T k).text l (tk T k).pos a b
  else Jo T f (tk T k).text [] (tk T k).pos (k+1) []
 else O (.err 2 (tk T k).pos)
def ahK{l:List Bs}{q:Bs->Bool}(h:∀ j,j<l.length->q (l.getD j [])=G):l.find? q=none:=by
 grind [List.find?_eq_none,List.getElem_of_mem,List.getElem?_eq_getElem]
def Zq:∀ {l:List Bs} {q:Bs->Bool} {j:Nat},j<l.length->q (l.getD j [])=A->(∀ a,a<j->q (l.getD a [])=G)->l.find? q=O (l.getD j [])
 | [],_,_,h,_,_=>absurd h (Nat.not_lt_zero _)
 | x::l,q,0,_,h,_=>by
  grind
 | x::l,q,j+1,d,h,b=>by
  have c:=b 0 zo;simp only[List.getD_cons_zero] at c;simp only[List.getD_cons_succ] at h ⊢;rw[List.find?_cons_of_neg zg];exact Zq zg h fun a e=>by
   grind
theorem ahL(s:Bs)(c:UInt8):num (s++[c])=10*num s+((c.toNat:Int)-48):=by
 simp [num,List.foldl_append]
def ahM:∀ (n:Nat) (s:Bs),s.length=n->s.all digit=A->0<=num s/\num s+1<=(10:Int) ^ n
 | 0,s,h,_=>by
  simp_all [List.length_eq_zero_iff,num]
 | n+1,s,h,d=>by
  obtain⟨l,c,rfl⟩:∃ l c,s=l++[c]:=⟨s.dropLast,s.getLast zg,(List.dropLast_concat_getLast _).symm⟩;simp only[List.all_append,List.all_cons,List.all_nil,Bool.and_true,a0w,digit,decide_eq_true_eq] at d;have e:l.length=n:=zg;obtain⟨a,b⟩:=ahM n l e d.1;grind [ahL,Int.pow_succ]
def Zr{s:Bs}(c:s.all digit=A)(d:s.length<=9):0<=num s/\num s<=999999999:=by
 obtain⟨a,b⟩:=ahM s.length s J c;refine⟨a,?_⟩;have:(10:Int) ^ s.length<=10 ^ 9:=by
  obtain h | h | h | h | h | h | h | h | h | h:s.length=0\/s.length=1\/s.length=2\/s.length=3\/s.length=4\/s.length=5\/s.length=6\/s.length=7\/s.length=8\/s.length=9:=zo;all_goals rw[h];decide
 omega
end P
