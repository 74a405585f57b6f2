/- A part of one proof (Sx, Sx2, SxG, Pure). -/
import Derived.WalkKit
import Derived.StillTail
import Derived.OrdersHeld
import Derived.KernelRfl
import Derived.Scope
set_option linter.all false
set_option maxRecDepth 100000
set_option maxHeartbeats 8000000
open Option renaming some → O, none → V
open Go renaming Value → Y, World → Z
open Bool renaming true → G, false → ae
open Go.Ending renaming returned → ai
open Go.Value renaming iface → ak, tuple → aq, pointer → au
open Go.Sem renaming run_bind → a3X
open Bool renaming and_eq_true → a39, not_eq_true' → a5k
open List renaming all_eq_true → a4F, contains_iff_mem → a8h, contains_eq_mem → a8q
open Go.Region renaming ready → a4J, wanted → a4M, binds → a57, Mode → a7G
open Array renaming getD_eq_getD_getElem? → a5c, setIfInBounds_comm → a6E
open Nat renaming beq → a5N
open Go.Value renaming iface → a6n
open Go.Deferred renaming ofValue → a6x
open Go.Oper renaming wp → a6Q
open Go.Made renaming depth → a64
namespace Go.Proofs
def J.{u}{α:Sort u}{a:α}:a=a:=rfl
def cj.{u}{α:Sort u}(a:α):∃ x,x=a:=⟨a,J⟩
def bU:=@if_neg
def zip:=@if_pos
def zo {p:Prop}(h:p:=by omega):p:=h
def zk {p:Prop}(h:p:=by kernel_rfl):p:=h
def zd {p:Prop}(h:p:=by decide):p:=h
def zs {p:Prop}(h:p:=by simp):p:=h
def zg {p:Prop}(h:p:=by grind):p:=h
end Go.Proofs
namespace Go.Proofs.YtoegidfbnkaabaaGreatDoor
variable{K:Y->Prop}{a:Act}{i j:Nat}{v:Y}{w:Z}
namespace Sx
open Go
abbrev RT{α:Type}(_:α):Type:=Prop
def RD(P:Program)(s:Sem Y)(w:Z)(K:Y->Prop)(X:Y->Z->Prop):RT (K,X):=
 match s.run P w with
 | .ok v w'=>w'=w/\K v
 | .halt (.panic v) w'=>X v w'
 | _=>False
def WR(P:Program)(s:Sem Y)(w:Z)(K:Y->Z->Prop)(X:Y->Z->Prop):RT (K,X):=
 match s.run P w with
 | .ok v w'=>K v w'
 | .halt (.panic v) w'=>X v w'
 | _=>False
def WU(P:Program)(s:Sem Unit)(w:Z)(K:Z->Prop)(X:Y->Z->Prop):RT (K,X):=
 match s.run P w with
 | .ok _ w'=>K w'
 | .halt (.panic v) w'=>X v w'
 | _=>False
def ends(K:Y->Z->Prop)(X:List PanicEntry->Z->Prop):Ending->Z->Prop
 | ai v,w=>K v w
 | .panicked a,w=>X a w
 | .outgrown,_=>False
def CA(P:Program)(k:FuncId)(args:Array Y)(w:Z)(K:Y->Z->Prop)(X:List PanicEntry->Z->Prop):RT (K,X):=
 Calls P k args w (ends K X)
def CQ(P:Program)(k:FuncId)(args:Array Y)(w:Z)(K:Y->Prop):RT K:=
 ∃ v,Calls P k args w (fun e a=>e = ai v/\a=w)/\K v
def Al(P:Program)(k:FuncId):Bool:=
 match P.funcs[k]? with
 | some fn=>fn.body.isSome && !(fn.name == "runtime.NumGoroutine")
 | none=>ae
def CV(P:Program)(f:Y)(args:Array Y)(w:Z)(K:Y->Z->Prop)(X:List PanicEntry->Z->Prop):RT (K,X):=
 match f with
 | .func (.func k) first cap=>Al P k=G/\CA P k (first++args++cap) w K X
 | _=>False
def CI(P:Program)(v:Y)(name:String)(args:Array Y)(w:Z)(K:Y->Z->Prop)(X:List PanicEntry->Z->Prop):RT (K,X):=
 match v with
 | ak t x=>∃ f r,(method (P.types.size+a64) t x name).run P w = .ok (f,r) w/\Al P f=G/\CA P f (#[r]++args) w K X
 | _=>False
def tid{α:Type}(x:α):α:=(fun _:Prop=>x) (∀ (P:Program) (v:Y) (n:String) (a:Array Y) (w:Z) (K:Y->Z->Prop) (X:List PanicEntry->Z->Prop),CI P v n a w K X)
def BS(v:Y)(A B:Prop):RT (A,B):=
 match v with
 | .bool c=>(c=G->A)/\(c=ae->B)
 | _=>False
def PX(R:Ending->Z->Prop)(v:Y)(w:Z):Prop:=R (.panicked [{ v,recovered:=false }]) w
def PC(R:Ending->Z->Prop)(a:List PanicEntry)(w:Z):Prop:=R (.panicked a) w
def DF(v:Y)(K:Fn->Array Y->Array Y->Prop):RT K:=
 match v with
 | .func f x y=>K f x y
 | _=>False
def M1(R:Ending->Z->Prop)(a:List PanicEntry)(w:Z):Prop:=∀ _:Nat->Y,R (.panicked a) w
def PXA(R:Ending->Z->Prop)(v:Y)(w:Z):Prop:=∀ _:Nat->Y,R (.panicked [{ v,recovered:=false }]) w
def NX(_:Y)(_:Z):Prop:=False
def NC(v:Y)(K:Y->Prop):RT K:=
 match v with
 | au (O a)=>K (au (O a))
 | ak t x=>K (ak t x)
 | .func (.func f) x y=>K (.func (.func f) x y)
 | _=>False
def PU(F:((Nat->Y)->Z->Prop)->(Nat->Y)->(Nat->Y)->Z->Prop)(s0:Nat->Y)(w0:Z):RT F:=
 ∃ I:Nat->(Nat->Y)->Z->Prop,(∃ n,I n s0 w0)/\∀ n s d w,I n s w->F (fun s' w'=>∃ m,m<n/\I m s' w') s d w
def JN(F:((Nat->Y)->Z->Prop)->Prop)(R:(Nat->Y)->(Nat->Y)->Z->Prop):RT (F,R):=
 F fun s w=>∀ d,R s d w
def JS(F:((Nat->Y)->Z->Prop)->Prop)(R:(Nat->Y)->(Nat->Y)->Z->Prop):RT (F,R):=
 ∃ a:(Nat->Y)->Z->Prop,F a/\∀ s w,a s w->∀ d,R s d w
def jo:List (Nat×Y)->Nat->Y
 | [],_=>undef
 | (j,v)::r,i=>if j=i then v else jo r i
def vq(P:Program)(s:Sem Y)(S:Z->Prop)(K:Y->Prop):RT (S,K):=
 ∃ v,(∀ w',S w'->s.run P w' = .ok v w')/\K v
def HD(F:(Z->Prop)->Prop):RT F:=∃ S,F S
structure mO where
 P:Program
 B:TypeId->Bool
 calls:FuncId->Bool
 live:Nat->List Nat
 join:Nat->Option (List Nat)
 tail:Nat->Nat
 held:Nat->Option (List Nat)
 bl:Nat->List Nat
 bj:Nat->List Nat
 sum:Nat->Bool
 sy:Nat->Bool
structure Env where
 f:Nat->Y
 defers:List Deferred
def Env.eval(e:Env):Operand->Y
 | .tmp t=>e.f t
 | .const v=>v
 | .global g=>au (O ⟨g,0,V⟩)
 | .func f=>.func (.func f) #[] #[]
def Kk(f:Nat->Y)(d:Nat)(v:Y)(j:Nat):Y:=cond (a5N j d) v (f j)
def Env.put(e:Env)(d:Option Tmp)(v:Y):Env:=
 match d with
 | some d=>{ e with f:=Kk e.f d v }
 | none=>e
def yR(ops:Array Oper)(e:Env)(j:Nat):Option Bool:=
 match (ops[j]?).bind (·.dst) with
 | some d=>match e.f d with
  | .bool b=>O b
  | _=>V
 | none=>V
def j5(a:Env)(l:Array Operand):Array Y:=(l.toList.map a.eval).toArray
def SO(a:Env)(l:Array (Nat×Operand)):Array (Nat×Y):=(l.toList.map fun x=>(x.1,a.eval x.2)).toArray
def M5(a:Env):Option Operand->Option Y
 | none=>V
 | some x=>O (a.eval x)
def early(C:mO)(o:Oper):Bool:=
 match o.dst with
 | some d=>!C.sy d
 | none=>tid G
def pU(C:mO)(o:Oper)(K:Y->Prop)(v:Y):Prop:=
 match C.B o.type && early C o with
 | true=>BS v (K (.bool G)) (K (.bool ae))
 | false=>K v
def Am(a:Env)(o:Oper):Option (Sem Y):=
 match o.op with
 | .build t parts=>O (Instr.build t (SO a parts))
 | .load t x=>O (Instr.loadAt t (a.eval x))
 | .binOp op t x y _=>O (do eqGuard op t x y (a.eval x) (a.eval y);binOp op t (a.eval x) (a.eval y))
 | .unOp op _ x=>O (Op.unary op (a.eval x))
 | .slice t x lo hi b=>O (Instr.sliceAt t (a.eval x) (M5 a lo) (M5 a hi) (M5 a b))
 | .fieldAddr s x f=>O (Instr.fieldAt s (a.eval x) f)
 | .field t x f=>O (Instr.field t (a.eval x) f)
 | .indexAddr t x i=>O (Instr.indexAt t (a.eval x) (a.eval i))
 | .index t x i=>O (Instr.index t (a.eval x) (a.eval i))
 | .lookup t x i ok=>O (Instr.lookup t (a.eval x) (a.eval i) ok)
 | .extract t i=>O (Instr.extract (a.eval t) i)
 | .typeAssert x t u ok=>O (Instr.typeAssert (a.eval x) t u ok)
 | .call { callee:=.builtin .len,args,argTypes }=>O (Builtin.len_ argTypes o.type (j5 a args))
 | .call { callee:=.builtin .min,args,argTypes }=>O (Builtin.min_ argTypes o.type (j5 a args))
 | .call { callee:=.builtin .max,args,argTypes }=>O (Builtin.max_ argTypes o.type (j5 a args))
 | .panic x=>O (Instr.panic (a.eval x))
 | _=>V
def writing(a:Env)(o:Oper):Option (Sem Y):=
 match o.op with
 | .alloc t=>O (Instr.alloc t G (aq #[]))
 | .box t x=>O (Instr.box t (a.eval x))
 | .buildSlice t n parts=>O (Instr.buildSlice t n (SO a parts))
 | .convert s d x=>O (convert s d (a.eval x))
 | .makeInterface t x=>O (Instr.makeInterface t (a.eval x))
 | .makeFunc fn x y=>O (Instr.makeFunc fn (j5 a x) (j5 a y))
 | .makeMap t r=>O (Instr.makeMap t (M5 a r))
 | .mapEntry t m k=>O (Instr.mapEntry t (a.eval m) (a.eval k))
 | .makeSlice t l c=>O (Instr.makeSlice t (a.eval l) (a.eval c))
 | .range t x=>O (Instr.range t (a.eval x))
 | .next it s=>O (Instr.next (a.eval it) s o.type)
 | .call { callee:=.builtin .append,args,argTypes }=>O (Builtin.append_ argTypes o.type (j5 a args))
 | .call { callee:=.builtin .copy,args,argTypes }=>O (Builtin.copy_ argTypes o.type (j5 a args))
 | _=>V
def W7(a:Env)(o:Oper):Option (Sem Y):=
 match o.op with
 | .makeInterface t x=>O (Instr.makeInterface t (a.eval x))
 | .makeFunc fn x y=>O (Instr.makeFunc fn (j5 a x) (j5 a y))
 | _=>V
def W8(a:Env)(o:Oper):Option (Sem Unit):=
 match o.op with
 | .store t x y=>O (Instr.storeAt t (a.eval x) (a.eval y))
 | .mapUpdate t m k x | .insert t m k x=>O (Instr.mapUpdate t (a.eval m) (a.eval k) (a.eval x))
 | .entryStore t m s x=>O (Instr.entryStore t (a.eval m) (a.eval s) (a.eval x))
 | _=>V
def mf(C:mO)(o:Oper)(a:Env)(w:Z)(next:Env->Z->Prop)(Q:Exit->Env->Z->Prop):Prop:=
 match o.op with
 | .move x | .assign x=>next (a.put o.dst (a.eval x)) w
 | .pick c x y=>match a.eval c with
  | .bool G=>next (a.put o.dst (a.eval x)) w
  | .bool ae=>next (a.put o.dst (a.eval y)) w
  | _=>False
 | .nilCheck x=>NC (a.eval x) fun v=>next (a.put o.dst v) w
 | .defer { callee:=.value (.func k),args,.. }=>next ({ a with defers:={ target:=.fn (.func k) #[],args:=j5 a args }::a.defers }.put o.dst undef) w
 | .defer { callee:=.value f,args,.. }=>DF (a.eval f) fun fn x y=>next ({ a with defers:={ target:=.fn fn y,args:=x++j5 a args }::a.defers }.put o.dst undef) w
 | .call { callee:=.value (.func k),args,.. }=>match C.calls k with
  | true=>CA C.P k (j5 a args) w (fun v w'=>pU C o (fun v=>next (a.put o.dst v) w') v) (fun b w'=>Q (.panic b) a w')
  | false=>False
 | .call { callee:=.value f,args,.. }=>CV C.P (a.eval f) (j5 a args) w (fun v w'=>pU C o (fun v=>next (a.put o.dst v) w') v) (fun b w'=>Q (.panic b) a w')
 | .call { callee:=.invoke f m,args,.. }=>CI C.P (a.eval f) m (j5 a args) w (fun v w'=>pU C o (fun v=>next (a.put o.dst v) w') v) (fun b w'=>Q (.panic b) a w')
 | _=>match Am a o with
  | some s=>RD C.P s w (pU C o fun v=>next (a.put o.dst v) w) (fun v w'=>Q (.panic [{ v,recovered:=false }]) a w')
  | none=>match writing a o with
   | some s=>WR C.P s w (fun v w'=>next (a.put o.dst v) w') (fun v w'=>Q (.panic [{ v,recovered:=false }]) a w')
   | none=>match W8 a o with
    | some s=>WU C.P s w (fun w'=>next (a.put o.dst undef) w') (fun v w'=>Q (.panic [{ v,recovered:=false }]) a w')
    | none=>False
def xM(C:mO)(ops:Array Oper)(Q:Exit->Env->Z->Prop):List Oper->Env->Z->Prop
 | [],a,w=>Q .normal a w
 | o::rest,a,w=>match a4M o (yR ops a) with
  | true=>mf C o a w (xM C ops Q rest) Q
  | false=>xM C ops Q rest (a.put o.dst undef) w
def sQ(C:mO)(o:Oper)(a:Env)(w:Z)(next:Env->Prop):Prop:=
 match o.op with
 | .move x | .assign x=>next (a.put o.dst (a.eval x))
 | .pick c x y=>match a.eval c with
  | .bool G=>next (a.put o.dst (a.eval x))
  | .bool ae=>next (a.put o.dst (a.eval y))
  | _=>False
 | .nilCheck x=>NC (a.eval x) fun v=>next (a.put o.dst v)
 | .call { callee:=.value (.func k),args,.. }=>match C.calls k with
  | true=>CQ C.P k (j5 a args) w (pU C o fun v=>next (a.put o.dst v))
  | false=>False
 | _=>match Am a o with
  | some s=>RD C.P s w (pU C o fun v=>next (a.put o.dst v)) (fun _ _=>False)
  | none=>False
def Bk(C:mO)(ops:Array Oper)(w:Z)(Q:Env->Prop):List Oper->Env->Prop
 | [],a=>Q a
 | o::rest,a=>match a4M o (yR ops a) with
  | true=>sQ C o a w (Bk C ops w Q rest)
  | false=>Bk C ops w Q rest (a.put o.dst undef)
def sS(C:mO)(o:Oper)(a:Env)(S:Z->Prop)(next:Env->Prop):Prop:=
 match o.op with
 | .move x | .assign x=>next (a.put o.dst (a.eval x))
 | .pick c x y=>match a.eval c with
  | .bool G=>next (a.put o.dst (a.eval x))
  | .bool ae=>next (a.put o.dst (a.eval y))
  | _=>False
 | .nilCheck x=>NC (a.eval x) fun v=>next (a.put o.dst v)
 | _=>match Am a o with
  | some s=>vq C.P s S (pU C o fun v=>next (a.put o.dst v))
  | none=>match W7 a o with
   | some s=>vq C.P s S (fun v=>next (a.put o.dst v))
   | none=>False
def W9(a:Env)(o:Oper):Bool:=
 match o.op with
 | .move _ | .assign _ | .pick _ _ _ | .nilCheck _=>G
 | _=>(Am a o).isSome
def rN(i:Nat):List Nat->Bool
 | []=>ae
 | j::r=>cond (a5N i j) G (rN i r)
def rh(ops:List Oper):List Nat:=
 match ops with
 | []=>[]
 | o::r=>match o.dst with
  | some d=>d::rh r
  | none=>rh r
def NP(d:List Nat)(Q:Exit->Env->Z->Prop)(e:Exit)(a:Env)(w:Z):Prop:=
 match e with
 | .panic b=>tid (∀ f:Nat->Y,Q (.panic b) { a with f:=fun t=>cond (rN t d) (f t) (a.f t) } w)
 | e=>tid (Q e a w)
def uF(m:Option Nat)(listed:Array Bool):Bool:=
 match m with
 | none=>G
 | some m=>!listed.getD m G
def chainB(md:a7G)(ops:Array Oper)(i m:Nat)(D:List Nat):Bool:=
 D.contains m && !D.contains i && D.all fun c=>match ops[c]? with
  | some o=>o.after.any fun e=>a57 md e && (e.on == i || D.contains e.on)
  | none=>ae
def IG(listed:Array Bool)(D:List Nat):Bool:=D.all fun c=>!listed.getD c G
def Xa(md:a7G)(ops:Array Oper)(i:Nat):List Nat:=
 (List.range ops.size).foldl (fun D c=>match ops[c]? with
  | some o=>match o.after.any fun e=>a57 md e && (e.on == i || D.contains e.on) with
   | true=>c::D
   | false=>D
  | none=>D) []
def abe(ops:Array Oper)(i:Nat):Bool:=
 match ops[i]? with
 | some o=>match o.op with
  | .move _=>G
  | _=>ae
 | none=>ae
def SQ(md:a7G)(ops:Array Oper)(listed:Array Bool)(m:Option Nat)(i:Nat):Bool:=
 match m with
 | none=>G
 | some m=>(chainB md ops i m (Xa md ops i) && IG listed (Xa md ops i)) || (abe ops i && !a5N i m)
def syn:Nat->Option Nat
 | 0=>V
 | m+1=>O m
def mV(C:mO)(ops:Array Oper)(Q:Exit->Env->Z->Prop)(S:Z->Prop)(m:Option Nat):List Nat->Array Bool->Env->Z->Prop
 | [],listed,a,w=>match a4J .any ops listed with
  | []=>Q .normal a w
  | _=>False
 | i::r,listed,a,w=>match ops[i]? with
  | none=>False
  | some o=>match a4J .any ops listed == [i] with
   | true=>match a4M o (yR ops a) with
    | false=>mV C ops Q S m r (listed.setIfInBounds i G) (a.put o.dst undef) w
    | true=>match W9 a o with
     | true=>sQ C o a w (fun a'=>mV C ops Q S m r (listed.setIfInBounds i G) a' w)
     | false=>match uF m (listed.setIfInBounds i G) with
      | true=>mf C o a w (fun a' w'=>S w'/\mV C ops Q S m r (listed.setIfInBounds i G) a' w') (NP (rh ops.toList) Q)
      | false=>mf C o a w (fun a' w'=>mV C ops Q S m r (listed.setIfInBounds i G) a' w') (NP (rh ops.toList) Q)
   | false=>match (a4J .any ops listed).contains i && Region.free .any ops listed i && SQ .any ops listed m i with
    | false=>False
    | true=>match a4M o (yR ops a) with
     | false=>mV C ops Q S m r (listed.setIfInBounds i G) (a.put o.dst undef) w
     | true=>sS C o a S (fun a'=>mV C ops Q S m r (listed.setIfInBounds i G) a' w)
def SR(f:Nat->Y)(vs live:List Nat)(s d:Nat->Y)(j:Nat):Y:=cond (rN j live) (s j) (cond (rN j vs) (d j) (f j))
def fr(a:Env)(vs live:List Nat)(s d:Nat->Y):Env:={ a with f:=SR a.f vs live s d }
def Cj(next:Env->Z->Prop)(Q:Exit->Env->Z->Prop):Exit->Env->Z->Prop
 | .normal,a,w=>tid (next a w)
 | e,a,w=>tid (Q e a w)
def GI(id:Nat)(Q:Exit->Env->Z->Prop):Exit->Env->Z->Prop
 | .exit b,a,w=>tid (cond (a5N b id) (Q .normal a w) (Q (.exit b) a w))
 | e,a,w=>tid (Q e a w)
def wr:Code->List Nat
 | .region _ ops _=>rh ops.toList
 | .seq a b=>wr a++wr b
 | .cond _ a b=>wr a++wr b
 | .block _ c=>wr c
 | .loop c=>wr c
 | .scope c=>wr c
 | _=>[]
def xN(o:Oper):Bool:=
 match o.op with
 | .defer _=>G
 | _=>ae
def nd:Code->Bool
 | .region _ ops _=>ops.toList.all fun o=>!xN o
 | .seq a b=>nd a && nd b
 | .cond _ a b=>nd a && nd b
 | .block _ c=>nd c
 | .loop c=>nd c
 | .scope c=>nd c
 | _=>G
def IH:Code->List Nat
 | .region id _ _=>[id]
 | .seq a b=>IH a++IH b
 | .cond _ a b=>IH a++IH b
 | .block _ c=>IH c
 | .loop c=>IH c
 | .scope c=>IH c
 | _=>[]
def II(c:Code):Nat:=
 match IH c with
 | i::_=>i
 | []=>1000000
def Fi(x:Code):Nat:=
 match (IH x).reverse with
 | i::r=>i*1000+r.length
 | []=>1000000000
def An(a:Env)(live:List Nat):List (Nat×Y):=live.map fun i=>(i,a.f i)
def qC:List Nat->Env->(Env->Prop)->Prop
 | [],a,K=>tid (K a)
 | i::r,a,K=>BS (a.f i) (qC r (a.put (O i) (.bool G)) K) (qC r (a.put (O i) (.bool ae)) K)
def Xc(ops:Array Oper)(n:Nat):Bool:=
 if n=ops.size then Region.lexB .any ops else Region.lexTailB .any ops n
def PW(Q:Exit->Env->Z->Prop):Exit->Env->Z->Prop
 | .goto _,_,_=>False
 | e,a,w=>tid (Q e a w)
def Xd(C:mO):Operand->Bool
 | .tmp t=>C.sy t
 | _=>ae
def gx(C:mO):Code->(Exit->Env->Z->Prop)->Env->Z->Prop
 | .skip,Q,a,w=>Q .normal a w
 | .region id ops draw,Q,a,w=>match draw with
  | false=>xM C ops Q ops.toList a w
  | true=>match C.held id with
   | some []=>False
   | some (m::ord)=>match ord.length == ops.size && Region.noSelect ops with
    | true=>HD fun S=>S w.drew/\mV C ops Q S (syn m) ord (Array.replicate ops.size ae) a w.drew
    | false=>False
   | none=>match Xc ops (C.tail id) with
    | true=>Bk C ops w.drew (fun a'=>xM C ops Q (ops.toList.drop (C.tail id)) a' w.drew) (ops.toList.take (C.tail id)) a
    | false=>False
 | .seq x y,Q,a,w=>match C.join (Fi x) with
  | none=>gx C x (Cj (gx C y Q) Q) a w
  | some live=>match nd x with
    | true=>match C.sum (Fi x) with
     | false=>JN (fun j=>gx C x (Cj (fun a' w'=>j (jo (An a' live)) w') Q) a w) (fun s d w=>qC (C.bj (Fi x)) (fr a (wr x) live s d) fun a=>gx C y Q a w)
     | true=>JS (fun j=>gx C x (Cj (fun a' w'=>j (jo (An a' live)) w') Q) a w) (fun s d w=>qC (C.bj (Fi x)) (fr a (wr x) live s d) fun a=>gx C y Q a w)
    | false=>False
 | .cond c x y,Q,a,w=>match Xd C c with
  | true=>BS (a.eval c) (gx C x Q a w) (gx C y Q a w)
  | false=>match a.eval c with
    | .bool G=>gx C x Q a w
    | .bool ae=>gx C y Q a w
    | _=>False
 | .block id c,Q,a,w=>gx C c (GI id Q) a w
 | .exit id,Q,a,w=>Q (.exit id) a w
 | .loop c,Q,a,w=>match nd c with
  | true=>PU (fun rec s d w=>qC (C.bl (II c)) (fr a (wr c) (C.live (II c)) s d) fun a=>gx C c (Cj (fun a' w'=>rec (jo (An a' (C.live (II c)))) w') Q) a w)
     (jo (An a (C.live (II c)))) w
  | false=>False
 | .ret,Q,a,w=>Q .ret a w
 | .label _,Q,a,w=>Q .normal a w
 | .scope c,Q,a,w=>gx C c (PW Q) a w
 | _,_,_,_=>False
structure Good(C:mO):Prop where
 mixed:C.P.follows .mixedOrders=G
 calls:∀ k,C.calls k=G->Al C.P k=G
structure Agr(vs:List Nat)(n:Bool)(a a':Act):Prop where
 get:∀ i,i ∉ vs->a'.tmps[i]?=a.tmps[i]?
 size:a'.tmps.size=a.tmps.size
 defs:n=G->a'.defers=a.defers
structure Rel(vs:List Nat)(a:Act)(e:Env):Prop where
 get:∀ i,a.tmps.getD i undef=e.f i
 defs:a.defers=e.defers
 lt:∀ i∈vs,i<a.tmps.size
theorem Rel.eval{vs:List Nat}{a:Act}{e:Env}(h:Rel vs a e):a.eval=e.eval:=by
 funext x
 cases x with
 | tmp t=>exact h.get t
 | _=>rfl
theorem Rel.put{vs:List Nat}{a:Act}{e:Env}(h:Rel vs a e){d:Option Nat}(b:∀ t,d=O t->t∈vs)(v:Y):Rel vs (a.put d v) (e.put d v):=by
 cases d with
 | none=>exact h
 | some d=>
  have c:=h.lt d (b d J);refine⟨fun i=>?_,h.defs,fun i hi=>by simp only[Act.put,Array.size_setIfInBounds];exact h.lt i hi⟩;have f:=h.get i;simp only[a5c] at f;simp only[Act.put,Env.put,Kk,a5c,Array.getElem?_setIfInBounds];by_cases g:d=i
  .subst g;simp [c]
  .have j:a5N i d=false:=by
    grind [a5N,absurd,Nat.eq_of_beq_eq_true]
   grind
def Rel.yield{vs:List Nat}{e:Env}(h:Rel vs a e)(ops:Array Oper):yielded ops a.tmps=yR ops e:=by
 funext j
 unfold yielded yR;cases (ops[j]?).bind (·.dst) with
 | none=>rfl
 | some d=>
  have b:=h.get d;simp only[a5c] at b;simp only[Option.bind_some];cases hx:a.tmps[d]? with
  | none=>rw[hx] at b;rw[<- b];rfl
  | some v=>grind
theorem Kl(a:Env)(l:Array Operand):l.map a.eval=j5 a l:=by
 grind [Array.ext',j5]
theorem ajV(a:Env)(l:Array (Nat×Operand)):(l.map fun(i,x)=>(i,a.eval x))=SO a l:=by
 grind [Array.ext',SO]
theorem ajW(a:Env)(x:Option Operand):x.map a.eval=M5 a x:=by cases x<;>rfl
theorem abg{a:Env}{o:Oper}{s:Sem Y}(h:Am a o=O s):execOp a.eval o=(do pure (.value (<- s))):=by
 grind [guard,Am,execOp,ajV,ajW,resolve,invoke,builtin,Kl]
theorem ajX{a:Env}{o:Oper}{s:Sem Y}(h:writing a o=O s):execOp a.eval o=(do pure (.value (<- s))):=by
 grind [guard,writing,execOp,ajV,Kl,ajW,resolve,invoke,builtin]
def avk{a:Env}{o:Oper}{s:Sem Y}(h:W7 a o=O s):writing a o=O s:=by
 obtain⟨dst,op,type,pos,after,guard⟩:=o;unfold W7 at h;dsimp only at h;split at h<;>first
  | (cases h;done)
  | (subst_vars;exact h)
theorem avl{a:Env}{o:Oper}{s:Sem Unit}(h:W8 a o=O s):execOp a.eval o=(do s;pure .skip):=by
 grind [guard,W8,execOp]
def SS(P:Program)(s:Sem Y)(w:Z):((do pure (.value (<- s))):Sem Next).run P w =
  match s.run P w with | .ok v w'=>.ok (.value v) w' | .halt h w'=>.halt h w':=by
 rw[a3X];cases s.run P w<;>rfl
def avm(P:Program)(s:Sem Unit)(w:Z):((do s;pure .skip):Sem Next).run P w =
  match s.run P w with | .ok _ w'=>.ok .skip w' | .halt h w'=>.halt h w':=by
 rw[a3X];cases s.run P w<;>rfl
def SU{C:mO}{o:Oper}{K':Y->Prop}(h:∀ v,K v->K' v)(a:pU C o K v):K' v:=by
 unfold pU at a;split at a
 .unfold BS at a;split at a
  .rename_i c;cases c<;>grind
  grind
 grind
theorem SV{P:Program}{k:FuncId}(h:Al P k=G)(args:Array Y)(w:Z):(callFunc k args).run P w = .ok (.enter k args) w:=by
 unfold Al at h;split at h
 .rename_i fn a;simp only[a39,a5k,beq_eq_false_iff_ne] at h;obtain⟨c,d⟩:=h;obtain⟨b,e⟩:=Option.isSome_iff_exists.1 c;unfold callFunc;simp [a3X,program,Sem.run,a,d,e,Result.andThen]
 grind
abbrev Nx(vs:List Nat)(o:Oper)(e:Env)(next:Env->Z->Prop)(next':Act->Z->Prop):Prop:=
 ∀ (e':Env) (a':Act) (w':Z),Rel vs a' e'->(∀ t,o.dst=O t->t∈vs)->(∃ v,e'=e.put o.dst v\/∃ d,xN o=G/\e'=({ e with defers:=d::e.defers }:Env).put o.dst v)->next e' w'->next' a' w'
section
variable{C:mO}{vs:List Nat}{o:Oper}{a:Act}{e:Env}{w:Z}{next:Env->Z->Prop}{next':Act->Z->Prop}{Q:Exit->Env->Z->Prop}{Q':Exit->Act->Z->Prop}
def abh{k:FuncId}{args:Array Y}(hr:Rel vs a e)(c:∀ t,o.dst=O t->t∈vs)(d:Nx vs o e next next')(f:∀ b w',Q (.panic b) e w'->Q' (.panic b) a w')
  (h:CA C.P k args w (fun v w'=>pU C o (fun v=>next (e.put o.dst v) w') v) (fun b w'=>Q (.panic b) e w')) :
  o.upon C.P a next' Q' (.ok (.enter k args) w):=by
 unfold Oper.upon;refine Calls.mono h fun x w' he=>?_;cases x with
 | returned v=>exact SU (K:=fun v=>next (e.put o.dst v) w') (K':=fun v=>next' (a.put o.dst v) w') (fun v hv=>d _ _ _ (hr.put c v) c zg hv) he
 | panicked b=>exact f _ _ he
 | outgrown=>exact he.elim
def avn{s:Sem Y}(d:execOp a.eval o=(do pure (.value (<- s))))(hr:Rel vs a e)(b:∀ t,o.dst=O t->t∈vs)(f:Nx vs o e next next')(g:∀ c w',Q (.panic c) e w'->Q' (.panic c) a w')
  (h:RD C.P s w (pU C o fun v=>next (e.put o.dst v) w) (fun v w'=>Q (.panic [{ v,recovered:=false }]) e w')):o.wp C.P a w next' Q':=by
 unfold a6Q;rw[d,SS];unfold RD at h;cases hx:s.run C.P w with
 | ok v w'=>
  rw[hx] at h;obtain⟨rfl,h⟩:=h;exact SU (K:=fun v=>next (e.put o.dst v) w') (K':=fun v=>next' (a.put o.dst v) w') (fun v hv=>f _ _ _ (hr.put b v) b zg hv) h
 | halt x w'=>
  rw[hx] at h;cases x<;>first | exact h.elim | exact g _ _ h
def avo{s:Sem Y}(d:execOp a.eval o=(do pure (.value (<- s))))(hr:Rel vs a e)(b:∀ t,o.dst=O t->t∈vs)(f:Nx vs o e next next')(g:∀ c w',Q (.panic c) e w'->Q' (.panic c) a w')
  (h:WR C.P s w (fun v w'=>next (e.put o.dst v) w') (fun v w'=>Q (.panic [{ v,recovered:=false }]) e w')):o.wp C.P a w next' Q':=by
 unfold a6Q;rw[d,SS];unfold WR at h;cases hx:s.run C.P w with
 | ok v w'=>rw[hx] at h;exact f _ _ _ (hr.put b v) b zg h
 | halt x w'=>
  rw[hx] at h;cases x<;>first | exact h.elim | exact g _ _ h
def avp{s:Sem Unit}(d:execOp a.eval o=(do s;pure .skip))(hr:Rel vs a e)(b:∀ t,o.dst=O t->t∈vs)(f:Nx vs o e next next')(g:∀ c w',Q (.panic c) e w'->Q' (.panic c) a w')
  (h:WU C.P s w (fun w'=>next (e.put o.dst undef) w') (fun v w'=>Q (.panic [{ v,recovered:=false }]) e w')):o.wp C.P a w next' Q':=by
 unfold a6Q;rw[d,avm];unfold WU at h;cases hx:s.run C.P w with
 | ok v w'=>rw[hx] at h;exact f _ _ _ (hr.put b _) b zg h
 | halt x w'=>
  rw[hx] at h;cases x<;>first | exact h.elim | exact g _ _ h
theorem SX(b:execOp a.eval o=pure (.value v))(h:next' (a.put o.dst v) w):o.wp C.P a w next' Q':=by
 unfold a6Q;rw[b];exact h
end
def abi{a:Env}{o:Oper}{x:Operand}(b:o.op = .nilCheck x)(h:NC (a.eval x) K):execOp a.eval o=pure (.value (a.eval x))/\K (a.eval x):=by
 unfold NC at h;unfold execOp;grind
theorem avq{P:Program}{t:TypeId}{x r:Y}{m:String}{k:FuncId}(c:(method (P.types.size+a64) t x m).run P w = .ok (k,r) w)(d:Al P k=G)
  (args:Array Y):(callMethod (ak t x) m args).run P w = .ok (.enter k (#[r]++args)) w:=by
 show(Sem.bind program fun p=>Sem.bind (method (p.types.size+a64) t x m) fun y=>callFunc y.1 (#[y.2]++args)).run P w=_;have b:∀ {α β:Type} (s:Sem α) (f:α->Sem β) (w:Z),(Sem.bind s f).run P w=(s.run P w).andThen fun a w=>(f a).run P w:=(by grind [Sem.run_bind']);rw[b];show(Sem.bind (method (P.types.size+a64) t x m) fun y=>callFunc y.1 (#[y.2]++args)).run P w=_;rw[b,c];exact SV d _ _
def abj{C:mO}(b:Good C){vs:List Nat}{o:Oper}{e:Env}{next:Env->Z->Prop}{next':Act->Z->Prop}{Q:Exit->Env->Z->Prop}{Q':Exit->Act->Z->Prop}
  (hr:Rel vs a e) (g:∀ t,o.dst=O t->t∈vs) (i:Nx vs o e next next') (j:∀ q w',Q (.panic q) e w'->Q' (.panic q) a w')
  (h:mf C o e w next Q):o.wp C.P a w next' Q':=by
 have he:=hr.eval;have l:∀ v,next (e.put o.dst v) w->next' (a.put o.dst v) w:=fun v hv=>i _ _ _ (hr.put g v) g zg hv
 unfold mf at h;split at h
 .rename_i x d;exact SX (C:=C) (by rw[he];grind [execOp]) (l _ h)
 .rename_i x d;exact SX (C:=C) (by rw[he];grind [execOp]) (l _ h)
 .rename_i c x y d;split at h
  .rename_i n;exact SX (C:=C) (v:=e.eval x) (by rw[he];unfold execOp;rw[d];simp only[n];rfl) (l _ h)
  .rename_i n;exact SX (C:=C) (v:=e.eval y) (by rw[he];unfold execOp;rw[d];simp only[n];rfl) (l _ h)
  grind
 .rename_i x d;obtain⟨z,A⟩:=abi d h;grind [SX]
 .rename_i k args DR d;unfold a6Q;have:execOp a.eval o=pure (.defer { target:=.fn (.func k) #[],args:=j5 e args }):=by
   rw[he];grind [execOp,resolve,Kl,Env.eval,a6x]
  rw[this];have hid:xN o=true:=by grind [xN]
  have p:Rel vs { a with defers:={ target:=.fn (.func k) #[],args:=j5 e args }::a.defers } ({ e with defers:={ target:=.fn (.func k) #[],args:=j5 e args }::e.defers }:Env):=
   ⟨hr.get,by show _::_=_::_;rw[hr.defs],hr.lt⟩
  exact i _ _ _ (p.put g undef) g zg h
 .rename_i f args DR E d;unfold DF at h;split at h
  .rename_i fn x y F;unfold a6Q;have:execOp a.eval o=pure (.defer { target:=.fn fn y,args:=x++j5 e args }):=by
    rw[he];grind [execOp,resolve,Kl,a6x]
   rw[this];have hid:xN o=true:=by grind [xN]
   have p:Rel vs { a with defers:={ target:=.fn fn y,args:=x++j5 e args }::a.defers } ({ e with defers:={ target:=.fn fn y,args:=x++j5 e args }::e.defers }:Env):=
    ⟨hr.get,by show _::_=_::_;rw[hr.defs],hr.lt⟩
   exact i _ _ _ (p.put g undef) g zg h
  grind
 .rename_i k args DR d;split at h
  .rename_i hk;unfold a6Q;have:(execOp a.eval o).run C.P w = .ok (.enter k (j5 e args)) w:=by
    rw[he];unfold execOp;rw[d];simp only[resolve,Kl,Env.eval,a6x,Array.empty_append];show(callFunc k (j5 e args++#[])).run C.P w=_;rw[Array.append_empty];exact SV (b.calls k hk) _ _
   rw[this];exact abh hr g i j h
  grind
 .rename_i f args DR B d;unfold CV at h;split at h
  .rename_i k first cap hv
   unfold a6Q;have:(execOp a.eval o).run C.P w = .ok (.enter k (first++j5 e args++cap)) w:=by
    rw[he];unfold execOp;rw[d];simp only[resolve,Kl,hv,a6x];show(callFunc k (first++j5 e args++cap)).run C.P w=_;grind [SV]
   rw[this];exact abh hr g i j h.2
  grind
 .rename_i f m args DR d;unfold CI at h;split at h
  .rename_i t x hv;obtain⟨k,r,z,A,D⟩:=h;unfold a6Q;have:(execOp a.eval o).run C.P w = .ok (.enter k (#[r]++j5 e args)) w:=by
    rw[he];unfold execOp;rw[d];simp only[resolve,Kl,hv];show(invoke (.fn (.method m) #[]) (#[ak t x]++j5 e args)).run C.P w=_;have H:(#[a6n t x]++j5 e args)[0]?=O (ak t x):=zg;have I:(#[a6n t x]++j5 e args).extract 1 (#[a6n t x]++j5 e args).size=j5 e args:=by
     apply Array.ext';rw[Array.toList_extract];simp only[Array.toList_append,List.cons_append,List.nil_append,Array.size_append,List.size_toArray,List.length_cons,List.length_nil,List.drop_succ_cons,List.drop_zero,List.extract_eq_take_drop];grind [j5,List.take_length]
    have K:invoke (.fn (.method m) #[]) (#[a6n t x]++j5 e args)=callMethod (ak t x) m (j5 e args):=by
     grind [invoke]
    grind [avq]
   rw[this];exact abh hr g i j D
  grind
 .split at h
  .rename_i s u;exact avn (by grind [abg]) hr g i j h
  .split at h
   .rename_i s u;exact avo (by grind [ajX]) hr g i j h
   .split at h
    .rename_i s u;exact avp (by grind [avl]) hr g i j h
    grind
section
variable{P:Program}{ops:Array Oper}{Q:Exit->Act->Z->Prop}{md:a7G}{S:Z->Prop}{m:Option Nat}
def Km(P:Program)(md:a7G)(ops:Array Oper)(Q:Exit->Act->Z->Prop)(S:Z->Prop)(m:Option Nat):Nat->Array Bool->Act->Z->Prop
 | 0,listed,a,w=>a4J md ops listed=[]/\Q .normal a w
 | n+1,listed,a,w=>(a4J md ops listed=[]->Q .normal a w) /\
  ∀ j∈a4J md ops listed,wpOp P ops Q j (fun a' w'=>(uF m (listed.setIfInBounds j G)=G->S w')/\Km P md ops Q S m n (listed.setIfInBounds j G) a' w') a w
def ajY:∀ (n:Nat) (listed:Array Bool) (a:Act) (w:Z),Km P md ops Q S m n listed a w->wpAny P md ops Q n listed a w
 | 0,_,_,_,h=>h
 | n+1,_,_,_,h=>⟨h.1,fun j b=>wpOp_mono (fun a' w' c=>ajY n _ a' w' c.2) (h.2 j b)⟩
theorem avr{listed:Array Bool}{m:Nat}{D:List Nat}(a:chainB md ops i m D=G)(b:IG listed D=G)(hi:listed.getD i G=ae)
  (c:j∈a4J md ops listed):j ∉ D:=by
 intro d;simp only[chainB,a39,a4F] at a;simp only[IG,a4F,a5k] at b;obtain⟨_,e,f,g⟩:=mem_ready.1 c;grind
def ajZ{d:Oper}(hi:ops[i]?=O d)(z:∀ (j:Nat) (o:Oper) cs b,ops[j]?=O o->o.op≠.select cs b)
  (C:∀ c a w,Q (.panic c) (a.put d.dst v) w->Q (.panic c) a w) {D:List Nat} (hD:∀ m',m=O m'->chainB md ops i m' D=G) :
  ∀ (n:Nat) (listed:Array Bool) (a:Act) (w:Z),
   (∀ j f,ops[j]?=O f->j≠i->listed.getD j G=ae->(∀ e∈f.after,a57 md e=G->e.on≠i)->d.apart ops f=G) ->
   (∀ m',m=O m'->IG listed D=G) ->
   i∈a4J md ops listed->YieldsIf P ops S d v a->S w ->
   Km P md ops Q S m n (listed.setIfInBounds i G) (a.put d.dst v) w->Km P md ops Q S m (n+1) listed a w:=by
 intro n;induction n with
 | zero=>
  intro listed a w _ _ hr q l H;refine⟨zg,fun j r=>?_⟩;by_cases g:j=i
  .subst g;exact q.wpOp hi l ⟨fun _=>l,H⟩
  .have:=ready_mono r g;rw[H.1] at this;grind
 | succ n ih=>
  intro listed a w A E hr q l H;refine⟨zg,fun j r=>?_⟩;by_cases g:j=i
  .subst g;exact q.wpOp hi l ⟨fun _=>l,H⟩
  .have F:=H.2 j (ready_mono r g);obtain⟨I,f,s,W⟩:=mem_ready.1 r;have K:=(mem_ready.1 hr).1;have t:∀ e∈f.after,a57 md e=G->e.on≠i:=zg;have L:∀ m',m=O m'->j ∉ D:=(by grind [avr]);have B:∀ m',m=O m'->IG (listed.setIfInBounds j G) D=true:=fun m' e=>by
    have h:=E m' e;simp only[IG,a4F,a5k] at h ⊢;intro c X;have u:j≠c:=zg;rw[getD_set_ne G u];grind
   have M:uF m ((listed.setIfInBounds i G).setIfInBounds j G)=true:=by
    cases m with
    | none=>rfl
    | some m'=>
     have h:=B m' J;have p:=hD m' J;simp only[chainB,a39,a8h,a5k,a8q,decide_eq_false_iff_not,decide_eq_true_eq] at p;simp only[IG,a4F,a5k] at h;have h4:=h m' p.1.1;simp only[uF,a5k];have N:i≠m':=zg;rw[a6E _ _ (Ne.symm g),getD_set_ne G N];omega
   have h:=wpOp_putIf s (A j f s g I t) (fun cs b=>z i d cs b hi) (fun cs b=>z j f cs b s) C q F;have x:∀ k ok,ops[k]?=O ok->k≠i->(listed.setIfInBounds j G).getD k G=ae ->
     (∀ e∈ok.after,a57 md e=G->e.on≠i)->d.apart ops ok=true:=fun k ok hk R y T=>by
    refine A k ok hk R ?_ T;by_cases U:j=k
    .grind
    .rw[getD_set_ne G U] at y;omega
   refine wpOp_mono (fun a' w' p=>⟨zg,ih (listed.setIfInBounds j G) a' w' x B (ready_mono hr zo) p.1 (p.2.1 M) ?_⟩) h;grind [a6E]
def aj1{d:Oper}(hi:ops[i]?=O d)(K:∀ (j:Nat) (o:Oper) cs b,ops[j]?=O o->o.op≠.select cs b)
  (u:∀ c a w,Q (.panic c) (a.put d.dst v) w->Q (.panic c) a w) (x:∀ m',m=O m'->i≠m') :
  ∀ (n:Nat) (listed:Array Bool) (a:Act) (w:Z),
   (∀ j f,ops[j]?=O f->j≠i->listed.getD j G=ae->(∀ e∈f.after,a57 md e=G->e.on≠i)->d.apart ops f=G) ->
   i∈a4J md ops listed->YieldsIf P ops (fun _=>True) d v a->(uF m listed=G->S w) ->
   Km P md ops Q S m n (listed.setIfInBounds i G) (a.put d.dst v) w->Km P md ops Q S m (n+1) listed a w:=by
 have L:∀ (listed:Array Bool),uF m (listed.setIfInBounds i G)=uF m listed:=fun listed=>by
  cases m with
  | none=>rfl
  | some m'=>simp only[uF];rw[getD_set_ne G (x m' J)]
 intro n;induction n with
 | zero=>
  intro listed a w _ hr h y H;refine⟨zg,fun j l=>?_⟩;by_cases g:j=i
  .subst g;exact h.wpOp hi trivial zg
  .have:=ready_mono l g;rw[H.1] at this;grind
 | succ n ih=>
  intro listed a w s hr h y H;refine⟨zg,fun j l=>?_⟩;by_cases g:j=i
  .subst g;exact h.wpOp hi trivial zg
  .have z:=H.2 j (ready_mono l g);obtain⟨A,f,t,M⟩:=mem_ready.1 l;have B:=(mem_ready.1 hr).1;have p:∀ e∈f.after,a57 md e=G->e.on≠i:=zg;have C:=wpOp_putIf t (s j f t g A p) zg zg u h z;have q:∀ k ok,ops[k]?=O ok->k≠i->(listed.setIfInBounds j G).getD k G=ae ->
     (∀ e∈ok.after,a57 md e=G->e.on≠i)->d.apart ops ok=true:=fun k ok hk D r E=>by
    refine s k ok hk D ?_ E;by_cases F:j=k
    .grind
    .rw[getD_set_ne G F] at r;omega
   have N:(listed.setIfInBounds i G).setIfInBounds j G=(listed.setIfInBounds j G).setIfInBounds i true:=a6E _ _ zo;refine wpOp_mono (fun a' w' I=>⟨zg,ih (listed.setIfInBounds j G) a' w' q (ready_mono hr zo) I.1 zg ?_⟩) C;grind
def avv{listed:Array Bool}(h:SQ md ops listed m i=G) :
  ((∀ m',m=O m'->chainB md ops i m' (Xa md ops i)=G)/\(∀ m',m=O m'->IG listed (Xa md ops i)=G)/\uF m listed=G)\/((∀ m',m=O m'->i≠m')/\abe ops i=G):=by
 cases m with
 | none=>exact .inl ⟨zg,zg,J⟩
 | some m'=>
  simp only[SQ,Bool.or_eq_true,a39] at h;rcases h with h | ⟨h,a⟩
  .refine .inl ⟨zg,zg,?_⟩;have b:=h.1;simp only[chainB,a39,a8h,a8q,decide_eq_true_eq] at b;grind [IG,a4F,a5k,uF]
  .refine .inr ⟨fun m2 e he=>?_,h⟩;have e:=Option.some.inj e;subst e he;simp at a
end
end Sx
namespace P
abbrev Bs:=List UInt8
structure Tok where
 kind:Nat
 text:Bs
 pos:Nat
deriving Repr,DecidableEq,Inhabited
inductive Ex where
 | mk (kind:Nat) (name:Bs) (n:Int) (k:Nat) (args:List Ex)
deriving Inhabited
inductive Bd where
 | mk (kind:Nat) (name:Bs) (args:List Ex) (parts:List Bd)
deriving Inhabited
structure Cl where
 name:Bs
 args:List Ex
 body:Bd
 vars:List Bs
deriving Inhabited
def Ex.kind:Ex->Nat | .mk k _ _ _ _=>k
def Ex.name:Ex->Bs | .mk _ s _ _ _=>s
def Ex.args:Ex->List Ex | .mk _ _ _ _ l=>l
def Bd.kind:Bd->Nat | .mk k _ _ _=>k
def Bd.parts:Bd->List Bd | .mk _ _ _ l=>l
def cls(c:UInt8):Nat:=
 if 97<=c.toNat/\c.toNat<=122 then 115
 else if (65<=c.toNat/\c.toNat<=90)\/c.toNat=95 then 99
 else if 48<=c.toNat/\c.toNat<=57 then 100 else 0
def digit(c:UInt8):Bool:=decide (48<=c.toNat/\c.toNat<=57)
def num(s:Bs):Int:=s.foldl (fun v c=>10*v+((c.toNat:Int)-48)) 0
def mP(w:Bs):Nat:=
 match w with
 | []=>0
 | c::r=>
  if cls c=115 then(if w.length<=8 then 1 else 0)
  else if cls c=99 then(if w.length<=8 then 2 else 0)
  else if w.length<=9/\w.all digit=G/\(c≠48\/r=[]) then 3 else 0
def nL:List Bs:=[[61,58,61],[58,45],[45,62],[92,43],[92,61],[61,61],[61,60],[62,61],[47,47],[40],[41],[91],[93],[44],[124],[59],[33],[61],[60],[62],[43],[45],[42]]
def blank(c:UInt8):Bool:=c == 32 || c == 10
def IK:Bs->Bool
 | []=>G
 | d::_=>blank d
def jw:Nat->Bs->Nat->Option (Sum Nat (List Tok))
 | 0,_,_=>V
 | _+1,[],i=>O (.inr [⟨0,[],i⟩])
 | f+1,c::r,i=>
  if blank c then jw f r (i+1)
  else if cls c≠0 then
   let w:=(c::r).takeWhile (fun x=>cls x≠0)
   if mP w=0 then O (.inl i)
   else match jw f ((c::r).drop w.length) (i+w.length) with
    | some (.inr l)=>O (.inr (⟨mP w,w,i⟩::l))
    | x=>x
  else if c=46/\IK r=G then
   match jw f r (i+1) with
   | some (.inr l)=>O (.inr (⟨4,[46],i⟩::l))
   | x=>x
  else match nL.find? (fun s=>s.isPrefixOf (c::r)) with
   | none=>O (.inl i)
   | some s=>match jw f ((c::r).drop s.length) (i+s.length) with
    | some (.inr l)=>O (.inr (⟨4,s,i⟩::l))
    | x=>x
inductive cr(α:Type) where
 | ok (a:α) (k:Nat) (vars:List Bs)
 | err (e at_:Nat)
deriving Inhabited
def tk(T:List Tok)(k:Nat):Tok:=T.getD k ⟨0,[],0⟩
def ee(T:List Tok)(k:Nat)(s:Bs):Bool:=((tk T k).kind == 4 || (tk T k).kind == 1) && (tk T k).text == s
def cr.bind{α β:Type}(r:Option (cr α))(g:α->Nat->List Bs->Option (cr β)):Option (cr β):=
 match r with
 | none=>V
 | some (.err e a)=>O (.err e a)
 | some (.ok a k v)=>g a k v
def mW{α:Type}(T:List Tok)(s:Bs)(x:α)(k:Nat)(vars:List Bs):Option (cr α):=
 if ee T k s then O (.ok x (k+1) vars) else O (.err 2 (tk T k).pos)
def PZ:Nat:=12
def maxDepth:Nat:=8
def SZ:Nat:=4
def Aq(t:Tok)(k:Nat)(vars:List Bs):cr Ex:=
 match (if t.text=[95] then V else vars.idxOf? t.text) with
 | some j=>.ok (.mk 118 [] 0 j []) k vars
 | none=>if vars.length=PZ then .err 4 t.pos else .ok (.mk 118 [] 0 vars.length []) k (vars++[t.text])
def ops(lvl:Nat):List Bs:=if lvl=0 then [[43],[45]] else [[42],[47,47],[109,111,100]]
def P0(T:List Tok)(lvl k:Nat):Option Bs:=(ops lvl).find? (ee T k)
def Ar(all:List Ex)(x:Ex):Ex:=all.foldr (fun a x=>.mk 99 [46] 0 0 [a,x]) x
def jx(name:Bs):Int:=
 if name∈[[116,114,117,101],[102,97,105,108]] then 0
 else if name∈[[118,97,114],[110,111,110,118,97,114],[97,116,111,109],[105,110,116,101,103,101,114]] then 1
 else if name∈[[61],[92,61],[61,61],[105,115],[60],[62],[61,60],[62,61],[61,58,61]] then 2 else -1
def M7:List Bs:=[[61],[92,61],[61,61],[105,115],[60],[62],[61,60],[62,61],[61,58,61]]
def M8(T:List Tok)(k:Nat):Option Bs:=M7.find? (ee T k)
def Fj(x:Ex):Bool:=
 (x.kind != 97 && x.kind != 99) || (x.name == [46] || x.name == [91,93] || (match x.name with | []=>G | c::_=>cls c != 115)) || (x.name == [109,111,100] && x.args.length == 2)
def As:Bd:=.mk 103 [102,97,105,108] [] []
def P1:Bd:=.mk 103 [116,114,117,101] [] []
mutual
def oU (T:List Tok):Nat->Nat->List Bs->Nat->Option (cr Ex)
 | 0,_,_,_=>V
 | f+1,k,vars,d=>
  if maxDepth<d+1 then O (.err 4 (tk T k).pos)
  else if (tk T k).kind=3 then O (.ok (.mk 110 [] (num (tk T k).text) 0 []) (k+1) vars)
  else if (tk T k).kind=2 then O (Aq (tk T k) (k+1) vars)
  else if (tk T k).kind=1 then
   if ee T (k+1) [40] then
    cr.bind (oV T f (k+2) vars (d+1) (tk T k).pos []) fun l k' vars'=>mW T [41] (.mk 99 (tk T k).text 0 0 l) k' vars'
   else O (.ok (.mk 97 (tk T k).text 0 0 []) (k+1) vars)
  else if ee T k [45] then
   if (tk T (k+1)).kind=3 then O (.ok (.mk 110 [] (- num (tk T (k+1)).text) 0 []) (k+2) vars)
   else O (.err 2 (tk T (k+1)).pos)
  else if ee T k [40] then cr.bind (jf T f 0 (k+1) vars (d+1)) fun x k' vars'=>mW T [41] x k' vars'
  else if ee T k [91] then qD T f (k+1) vars (d+1)
  else O (.err 2 (tk T k).pos)
 termination_by structural f=>f
def oV (T:List Tok):Nat->Nat->List Bs->Nat->Nat->List Ex->Option (cr (List Ex))
 | 0,_,_,_,_,_=>V
 | f+1,k,vars,d,at_,acc=>
  cr.bind (jf T f 0 k vars d) fun x k' vars'=>
   if ee T k' [44] then oV T f (k'+1) vars' d at_ (acc++[x])
   else if SZ<(acc++[x]).length then O (.err 4 at_) else O (.ok (acc++[x]) k' vars')
 termination_by structural f=>f
def qD (T:List Tok):Nat->Nat->List Bs->Nat->Option (cr Ex)
 | 0,_,_,_=>V
 | f+1,k,vars,d=>
  if ee T k [93] then O (.ok (.mk 97 [91,93] 0 0 []) (k+1) vars)
  else cr.bind (rj T f k vars d []) fun all k' vars'=>
   if ee T k' [124] then cr.bind (jf T f 0 (k'+1) vars' d) fun x a b=>mW T [93] (Ar all x) a b
   else mW T [93] (Ar all (.mk 97 [91,93] 0 0 [])) k' vars'
 termination_by structural f=>f
def rj (T:List Tok):Nat->Nat->List Bs->Nat->List Ex->Option (cr (List Ex))
 | 0,_,_,_,_=>V
 | f+1,k,vars,d,acc=>
  cr.bind (jf T f 0 k vars d) fun x k' vars'=>
   if ee T k' [44] then rj T f (k'+1) vars' d (acc++[x]) else O (.ok (acc++[x]) k' vars')
 termination_by structural f=>f
def jf (T:List Tok):Nat->Nat->Nat->List Bs->Nat->Option (cr Ex)
 | 0,_,_,_,_=>V
 | f+1,lvl,k,vars,d=>
  if lvl=2 then oU T f k vars d
  else cr.bind (jf T f (lvl+1) k vars d) fun x k' vars'=>pE T f lvl x k' vars' d
 termination_by structural f=>f
def pE (T:List Tok):Nat->Nat->Ex->Nat->List Bs->Nat->Option (cr Ex)
 | 0,_,_,_,_,_=>V
 | f+1,lvl,x,k,vars,d=>
  match P0 T lvl k with
  | none=>O (.ok x k vars)
  | some o=>cr.bind (jf T f (lvl+1) (k+1) vars d) fun y k' vars'=>pE T f lvl (.mk 99 o 0 0 [x,y]) k' vars' d
 termination_by structural f=>f
end
mutual
def nU (T:List Tok):Nat->Nat->List Bs->Nat->Option (cr Bd)
 | 0,_,_,_=>V
 | f+1,k,vars,d=>
  if maxDepth<d+1 then O (.err 4 (tk T k).pos)
  else if ee T k [33] then O (.ok (.mk 33 [] [] []) (k+1) vars)
  else if ee T k [92,43] then cr.bind (nU T f (k+1) vars (d+1)) fun b k' vars'=>O (.ok (.mk 126 [] [] [b]) k' vars')
  else if ee T k [40] then cr.bind (mX T f (k+1) vars (d+1)) fun b k' vars'=>mW T [41] b k' vars'
  else cr.bind (jf T f 0 k vars (d+1)) fun x k' vars'=>
   match M8 T k' with
   | some c=>cr.bind (jf T f 0 (k'+1) vars' (d+1)) fun y h i=>O (.ok (.mk 103 c [x,y] []) h i)
   | none=>
    if Fj x then O (.err 2 (tk T k).pos)
    else if 0<=jx x.name/\jx x.name≠x.args.length then O (.err 3 (tk T k).pos)
    else O (.ok (.mk 103 x.name x.args []) k' vars')
 termination_by structural f=>f
def qE (T:List Tok):Nat->Nat->List Bs->Nat->List Bd->Option (cr (List Bd))
 | 0,_,_,_,_=>V
 | f+1,k,vars,d,acc=>
  cr.bind (nU T f k vars d) fun b k' vars'=>
   if ee T k' [44] then qE T f (k'+1) vars' d (acc++[b]) else O (.ok (acc++[b]) k' vars')
 termination_by structural f=>f
def ow (T:List Tok):Nat->Nat->List Bs->Nat->Option (cr Bd)
 | 0,_,_,_=>V
 | f+1,k,vars,d=>
  cr.bind (qE T f k vars d []) fun l k' vars'=>O (.ok (match l with | [b]=>b | _=>.mk 44 [] [] l) k' vars')
 termination_by structural f=>f
def qF (T:List Tok):Nat->Nat->List Bs->Nat->Option (cr Bd)
 | 0,_,_,_=>V
 | f+1,k,vars,d=>if maxDepth<d+1 then O (.err 4 (tk T k).pos) else mX T f k vars (d+1)
 termination_by structural f=>f
def mX (T:List Tok):Nat->Nat->List Bs->Nat->Option (cr Bd)
 | 0,_,_,_=>V
 | f+1,k,vars,d=>
  cr.bind (ow T f k vars d) fun a e v1=>
   if ee T e [45,62] then
    cr.bind (ow T f (e+1) v1 d) fun b g v2=>
     if ee T g [59] then cr.bind (qF T f (g+1) v2 d) fun c j v3=>O (.ok (.mk 63 [] [] [a,b,c]) j v3)
     else O (.ok (.mk 63 [] [] [a,b,As]) g v2)
   else if ee T e [59] then cr.bind (qF T f (e+1) v1 d) fun b g v2=>O (.ok (.mk 59 [] [] [a,b]) g v2)
   else O (.ok a e v1)
 termination_by structural f=>f
end
def Kn(T:List Tok)(f:Nat)(name:Bs)(args:List Ex)(at_ k:Nat)(vars:List Bs):Option (cr Cl):=
 if 0<=jx name\/name=[109,111,100] then O (.err 3 at_)
 else if ee T k [58,45] then
  cr.bind (mX T f (k+1) vars 0) fun b k' vars'=>mW T [46] ⟨name,args,b,vars'⟩ k' vars'
 else mW T [46] ⟨name,args,P1,vars⟩ k vars
def Fk(T:List Tok)(f k:Nat):Option (cr Cl):=
 if (tk T k).kind=1 then
  if ee T (k+1) [40] then
   cr.bind (oV T f (k+2) [] 0 (tk T k).pos []) fun l k' vars'=>
    cr.bind (mW T [41] l k' vars') fun l a b=>Kn T f (tk T k).text l (tk T k).pos a b
  else Kn T f (tk T k).text [] (tk T k).pos (k+1) []
 else O (.err 2 (tk T k).pos)
def aj2{l:List Bs}{q:Bs->Bool}(h:∀ j,j<l.length->q (l.getD j [])=ae):l.find? q=none:=by
 grind [List.find?_eq_none,List.getElem_of_mem,List.getElem?_eq_getElem]
def abo:∀ {l:List Bs} {q:Bs->Bool} {j:Nat},j<l.length->q (l.getD j [])=G->(∀ a,a<j->q (l.getD a [])=ae)->l.find? q=O (l.getD j [])
 | [],_,_,h,_,_=>absurd h (Nat.not_lt_zero _)
 | x::l,q,0,_,h,_=>by
  grind
 | x::l,q,j+1,d,h,b=>by
  have c:=b 0 zo;simp only[List.getD_cons_zero] at c;simp only[List.getD_cons_succ] at h ⊢;rw[List.find?_cons_of_neg zg];exact abo zg h fun a e=>by
   grind
theorem aj3(s:Bs)(c:UInt8):num (s++[c])=10*num s+((c.toNat:Int)-48):=by
 simp [num,List.foldl_append]
def aj4:∀ (n:Nat) (s:Bs),s.length=n->s.all digit=G->0<=num s/\num s+1<=(10:Int) ^ n
 | 0,s,h,_=>by
  simp_all [List.length_eq_zero_iff,num]
 | n+1,s,h,d=>by
  obtain⟨l,c,rfl⟩:∃ l c,s=l++[c]:=⟨s.dropLast,s.getLast zg,(List.dropLast_concat_getLast _).symm⟩;simp only[List.all_append,List.all_cons,List.all_nil,Bool.and_true,a39,digit,decide_eq_true_eq] at d;have e:l.length=n:=zg;obtain⟨a,b⟩:=aj4 n l e d.1;grind [aj3,Int.pow_succ]
def abp{s:Bs}(c:s.all digit=G)(d:s.length<=9):0<=num s/\num s<=999999999:=by
 obtain⟨a,b⟩:=aj4 s.length s J c;refine⟨a,?_⟩;have:(10:Int) ^ s.length<=10 ^ 9:=by
  obtain h | h | h | h | h | h | h | h | h | h:s.length=0\/s.length=1\/s.length=2\/s.length=3\/s.length=4\/s.length=5\/s.length=6\/s.length=7\/s.length=8\/s.length=9:=zo;all_goals rw[h];decide
 omega
end P
