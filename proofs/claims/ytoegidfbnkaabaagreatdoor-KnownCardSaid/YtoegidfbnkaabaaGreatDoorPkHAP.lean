/- A part of one proof (PureA, PureC, PureC2, PureRd, PureLv, PureAe, PureTo, PureKn, PureKc, PureKe, ShB1, PureD, PW1, ShP1, ShP2, PW2). -/
import Derived.Test.YtoegidfbnkaabaaGreatDoorPkHAO
import Derived.Shelf.Strings.BuilderF
set_option linter.all false
set_option maxRecDepth 100000
set_option maxHeartbeats 8000000
open Option renaming some → O, none → V
open Go renaming Value → Y, World → Z
open Bool renaming true → A, false → G
open Go.Obj renaming cells → ae
open Go.Ending renaming returned → ah
open Go.Value renaming nilIface → ai, iface → aj, tuple → ak, pointer → aq
open Option.some renaming injEq → aZ9
open Nat renaming le_trans → a0f
open List renaming mem_cons → a0n, mem_cons_self → a0p, mem_append → a0q, not_mem_nil → a0v, range → a0C, append_assoc → a0I, all_eq_true → a1f, mem_of_getLast? → a1r, flatten_cons → a2i
open Option renaming map_eq_some_iff → a0B
open Go.Result renaming andThen → a00
open Go.Oper renaming upon_value → a2x
open Go.Proofs.Tryz renaming prog → a92
open Go.Proofs.Tryz
namespace Go.Proofs.YtoegidfbnkaabaaGreatDoor
open P
variable{F:Nat->Prop}{S buf nm tv v vv:Y}{b d f g k k' n nv wb:Nat}{out:Bs}{t:Tm}{tr:Tr}{iC:Array Y}{w w' w1 w2:Z}{xs:List Y}{ρ:Nat->Nat}
namespace P
mutual
def lV:Tm->Nat
 | .atom _=>1
 | .int _=>1
 | .var _=>1
 | .comp _ args=>vq args+1
 termination_by structural t=>t
def vq:List Tm->Nat
 | []=>0
 | t::a=>lV t+vq a
 termination_by structural t=>t
end
mutual
theorem amN {nv:Nat} (vs:List Nat):∀ (x:Ex),gO nv x->lV (made vs x)=gH x
 | .mk kind name n k args,h=>by
  unfold gO at h;obtain⟨b,c,d,e,f,g,i,a⟩:=h;unfold made;have j:kind≠99->ft args=0:=fun h=>by simp_all [ft]
  split
  .simp_all [lV,gH]
  .split
   .simp_all [lV,gH]
   .split
    .simp_all [lV,gH]
    .simp [lV,gH,amO vs args a]
 termination_by structural x=>x
theorem amO {nv:Nat} (vs:List Nat):∀ (l:List Ex),eZ nv l->vq (mS vs l)=ft l
 | [],_=>by simp [mS,vq,ft]
 | x::xs,h=>by
  unfold eZ at h;simp [mS,vq,ft,amN vs x h.1,amO vs xs h.2]
 termination_by structural x=>x
end
def amP:∀ (f:Nat) (t:Tm),fA [] f t=O t
 | 0,t=>by cases t<;>simp [fA,look]
 | f+1,t=>by cases t<;>simp [fA,look]
theorem W2:∀ (t:Tm),0<lV t
 | .atom _=>by simp [lV]
 | .int _=>by simp [lV]
 | .var _=>by simp [lV]
 | .comp _ _=>by simp [lV]
def MY{x:Option (Option Ws)}{k:Ws->Option (Option Ws)}{s:Ws}(h:x=O (O s)):Wb x k=k s:=by rw[h];rfl
def amQ(s:Ws)(i:Nat):(MK s i).fuel=s.fuel:=by
 unfold MK;split<;>rfl
structure aIa(f:Nat):Prop where
 tm:∀ t least s,4*lV t<=f->lV t<=s.fuel->∃ r,ku [] f t least s=O (O r)/\s.fuel<=r.fuel+lV t/\r.fuel<=s.fuel
 comp:∀ name args least s,4*vq args+3<=f->vq args<=s.fuel->∃ r,yR [] f name args least s=O (O r)/\s.fuel<=r.fuel+vq args/\r.fuel<=s.fuel
 args:∀ c l s,4*vq l+1<=f->vq l<=s.fuel->∃ r,py [] f c l s=O (O r)/\s.fuel<=r.fuel+vq l/\r.fuel<=s.fuel
 list:∀ c a b s,4*(lV a+lV b)+1<=f->lV a+lV b<=s.fuel->∃ r,vf [] f c a b s=O (O r)/\s.fuel<=r.fuel+(lV a+lV b)/\r.fuel<=s.fuel
def amR:∀ f,aIa f
 | 0=>⟨fun t _ _ h _=>by grind [W2],fun _ _ _ _ h _=>zo,fun _ _ _ h _=>zo,fun _ a _ _ h _=>zo⟩
 | f+1=>by
  have ih:=amR f;refine⟨?_,?_,?_,?_⟩
  .intro t least s p n;have w:=W2 t;rw[ku,bX zo,amP];cases t with
   | atom a=>exact⟨_,J,by simp [Ws.add,lV];omega,by simp [Ws.add]⟩
   | int a=>exact⟨_,J,by simp [Ws.add,lV];omega,by simp [Ws.add]⟩
   | var a=>exact⟨_,J,by rw[amQ];simp [lV];omega,by rw[amQ];simp⟩
   | comp name args=>
    simp only[lV] at p n ⊢;obtain⟨r,i,j,k⟩:=ih.comp name args least { s with fuel:=s.fuel-1 } zo zg;grind
  .intro name args least s p n;have E:∀ l,vq l<=s.fuel->4*vq l+1<=f->∃ r,Wb (py [] f 40 l (s.add name)) (fun s=>O (O (s.add [41])))=O (O r)/\s.fuel<=r.fuel+vq l/\r.fuel<=s.fuel:=by
    intro l i j;obtain⟨r,k,o,m⟩:=ih.args 40 l (s.add name) j i;rw[MY k];exact⟨_,J,o,m⟩
   rw[yR.eq_def];dsimp only;split
   .rename_i a b;have e:vq [a,b]=lV a+lV b:=by simp [vq]
    rw[e] at p n ⊢;split
    .split
     .obtain⟨d,i,j,k⟩:=ih.tm a (kr name 2) (s.add [40]) zo (by show _<=s.fuel;omega);have z:s.fuel<=d.fuel+lV a:=j;have B:d.fuel<=s.fuel:=k;rw[MY i];obtain⟨g,o,m,q⟩:=ih.tm b (kr name 2+1) (d.add (if name=[109,111,100] then [32,109,111,100,32] else name)) zo (by show _<=d.fuel;omega);have C:d.fuel<=g.fuel+lV b:=m;have u:g.fuel<=d.fuel:=q;rw[MY o];exact⟨_,J,by show _<=g.fuel+_;omega,by show g.fuel<=_;omega⟩
     .obtain⟨d,i,j,k⟩:=ih.tm a (kr name 2) s zo zo;rw[MY i];obtain⟨g,o,m,q⟩:=ih.tm b (kr name 2+1) (d.add (if name=[109,111,100] then [32,109,111,100,32] else name)) zo (by show _<=d.fuel;omega);have C:d.fuel<=g.fuel+lV b:=m;have u:g.fuel<=d.fuel:=q;grind
    .split
     .exact ih.list 91 a b s zo n
     grind
   grind
  .intro c l s p n;cases l with
   | nil=>simp_all [py,vq,Nat.le_refl]
   | cons a l=>
    simp only[vq] at p n ⊢;have w:=W2 a;rw[py];obtain⟨d,i,j,k⟩:=ih.tm a 0 (s.add [c]) zo (by show _<=s.fuel;omega);have z:s.fuel<=d.fuel+lV a:=j;have B:d.fuel<=s.fuel:=k;rw[MY i];obtain⟨g,o,m,q⟩:=ih.args 44 l d zo zo;grind
  .intro c a b s p n;have w:=W2 b;rw[vf];obtain⟨d,i,j,k⟩:=ih.tm a 0 (s.add [c]) zo (by show _<=s.fuel;omega);have z:s.fuel<=d.fuel+lV a:=j;have B:d.fuel<=s.fuel:=k;rw[MY i,amP];have D:∃ r,Wb (ku [] f b 0 (d.add [124])) (fun s=>O (O (s.add [93])))=O (O r)/\s.fuel<=r.fuel+(lV a+lV b)/\r.fuel<=s.fuel:=by
    obtain⟨g,o,m,q⟩:=ih.tm b 0 (d.add [124]) zo (by show _<=d.fuel;omega);have C:d.fuel<=g.fuel+lV b:=m;have u:g.fuel<=d.fuel:=q;rw[MY o];exact⟨_,J,by show _<=g.fuel+_;omega,by show g.fuel<=_;omega⟩
   split
   .grind
   .rename_i name args he;simp only[aZ9] at he;subst he;split
    .rename_i x y;split
     .simp only[lV,vq] at p n ⊢;obtain⟨g,o,m,q⟩:=ih.list 44 x y d zo zo;grind
     omega
    omega
   .rename_i x he;split
    .exact⟨_,J,by show _<=d.fuel+_;omega,by show d.fuel<=_;omega⟩
    omega
   omega
structure NeW(tr:Tr)(f:Nat):Prop where
 tm:∀ t least s r,ef t->ku tr f t least s=O (O r)->s.out.length<r.out.length
 comp:∀ name args least s r,ji args->yR tr f name args least s=O (O r)->s.out.length<r.out.length
 args:∀ c l s r,ji l->py tr f c l s=O (O r)->s.out.length<=r.out.length
 list:∀ c a b s r,ef a->ef b->vf tr f c a b s=O (O r)->s.out.length<r.out.length
theorem GD(s:Ws)(x:Bs):(s.add x).out.length=s.out.length+x.length:=by simp [Ws.add]
theorem amS(n:Nat):0<(gj n).length:=by
 grind [gj,A9]
theorem amT(n:Int):0<(kV n).length:=by
 grind [kV,amS]
def neW{tr:Tr}(ht:mH tr):∀ f,NeW tr f
 | 0=>⟨fun _ _ _ _ _ h=>by simp_all [ku],fun _ _ _ _ _ _ h=>by simp_all [yR],fun _ _ _ _ _ h=>by simp_all [py],fun _ _ _ _ _ _ _ h=>by simp_all [vf]⟩
 | f+1=>by
  have ih:=neW ht f;refine⟨?_,?_,?_,?_⟩
  .intro t least s r g h;rw[ku] at h;split at h
   .grind
   split at h
   .grind
   .rename_i a hw;have:=tj ht g hw;grind [aZ9,ef,GD,List.length_pos_iff]
   .grind [aZ9,GD,amT]
   .grind [aZ9,MK,GD]
   .rename_i name args hw;have d:=tj ht g hw;unfold ef at d;exact ih.comp name args least { s with fuel:=s.fuel-1 } r d.2.2 h
  .intro name args least s r j h;have B:∀ l,ji l->Wb (py tr f 40 l (s.add name)) (fun s=>O (O (s.add [41])))=O (O r)->s.out.length<r.out.length:=by
    intro l p h;obtain⟨s1,d,e⟩:=Ba h;have i:=ih.args 40 l _ s1 p d;grind [aZ9,GD]
   rw[yR.eq_def] at h;dsimp only at h;split at h
   .rename_i a b;obtain⟨k,m⟩:=Im j;split at h
    .split at h
     .obtain⟨s1,d,e⟩:=Ba h;obtain⟨s2,i,q⟩:=Ba e;have g1:=ih.tm a _ _ s1 k d;have g2:=ih.tm b _ _ s2 m i;grind [aZ9,GD]
     .obtain⟨s1,d,e⟩:=Ba h;have g1:=ih.tm a _ _ s1 k d;have g2:=ih.tm b _ _ r m e;grind [GD]
    .split at h
     .exact ih.list 91 a b s r k m h
     grind
   grind
  .intro c l s r g h;cases l with
   | nil=>
    simp_all [py,aZ9,Nat.le_refl]
   | cons a l=>
    rw[py] at h;unfold ji at g;obtain⟨s1,d,e⟩:=Ba h;have g1:=ih.tm a _ _ s1 g.1 d;have g3:=ih.args 44 l s1 r g.2 e;grind [GD]
  .intro c a b s r j n h;rw[vf] at h;obtain⟨s1,d,e⟩:=Ba h;have g1:=ih.tm a _ _ s1 j d;rw[GD] at g1;have u:Wb (ku tr f b 0 (s1.add [124])) (fun s=>O (O (s.add [93])))=O (O r)->s.out.length<r.out.length:=by
    intro h;obtain⟨s2,i,q⟩:=Ba h;have g3:=ih.tm b _ _ s2 n i;grind [GD,aZ9]
   split at e
   .grind
   .rename_i name args hw;have o:=tj ht n hw;unfold ef at o;split at e
    .rename_i x y;obtain⟨w,z⟩:=Im o.2.2;split at e
     .have:=ih.list 44 x y s1 r w z e;omega
     grind
    grind
   .grind [aZ9,GD]
   grind
def SQ(nv:Nat)(x:Ex):Ws:=match ku [] (4*gH x) (made (a0C nv) x) 0 ⟨1000000,[],[]⟩with
 | some (O s)=>s
 | _=>⟨0,[],[]⟩
def aIc{x:Ex}(h:gO nv x)(b:gH x<=1000000):ku [] (4*gH x) (made (a0C nv) x) 0 ⟨1000000,[],[]⟩=O (O (SQ nv x))/\(SQ nv x).out≠[]:=by
 have c:=amN (a0C nv) x h;obtain⟨r,a,-⟩:=(amR (4*gH x)).tm (made (a0C nv) x) 0 ⟨1000000,[],[]⟩ zo zg;have d:=(neW (tr:=[]) trivial _).tm _ _ _ _ (SA _ x h) a;grind [SQ]
inductive Item where
 | wd (s:Bs)
 | sg (s:Bs)
 | md
def Item.text:Item->Bs
 | .wd s=>s
 | .sg s=>s
 | .md=>[32,109,111,100,32]
def Item.tok:Item->Nat->Tok
 | .wd s,p=>⟨rR s,s,p⟩
 | .sg s,p=>⟨4,s,p⟩
 | .md,p=>⟨1,[109,111,100],p+1⟩
def sgn:List Bs:=[[40],[41],[91],[93],[44],[124],[43],[45],[42],[47,47]]
def aIe(s:Bs):Prop:=rR s≠0/\∀ c∈s,cls c≠0
def Item.ok:Item->Prop
 | .wd s=>aIe s
 | .sg s=>s∈sgn
 | .md=>True
def Item.isW:Item->Bool
 | .wd _=>A
 | _=>G
def sep:Bool->List Item->Prop
 | _,[]=>True
 | p,i::r=>¬ (p=A/\i.isW=A)/\sep i.isW r
def At(T:List Tok):Nat->List Item->Prop
 | _,[]=>True
 | k,i::r=>((tk T k).kind=(i.tok 0).kind/\(tk T k).text=(i.tok 0).text)/\At T (k+1) r
section
theorem W4(h:n<10):(UInt8.ofNat (48+n)).toNat=48+n:=by
 grind [UInt8.toNat_ofNat']
def Pj:∀ (f n:Nat),∀ c∈A9 f n,digit c=A
 | 0,n,c,h=>by cases h
 | f+1,n,c,h=>by
  rw[A9] at h;split at h
  .rename_i a;simp only[a0n,a0v,or_false] at h;subst h;simp only[digit,decide_eq_true_eq,W4 a];omega
  .rw[a0q] at h;rcases h with h | h
   .exact Pj f _ c h
   .simp only[a0n,a0v,or_false] at h;subst h;have:=Nat.mod_lt n (show 10 > 0 by omega);simp only[digit,decide_eq_true_eq,W4 this];omega
theorem adb:∀ (f n:Nat),n<f->num (A9 f n)=n
 | 0,n,h=>zo
 | f+1,n,h=>by
  rw[A9];split
  .grind [num,W4]
  .have hm:=Nat.mod_lt n (show 10 > 0 by omega);rw[ahL,adb f (n / 10) zo,W4 hm];omega
def ade:∀ (f n:Nat),n<f->∃ c r,A9 f n=c::r/\(c≠48\/r=[])
 | 0,n,h=>zo
 | f+1,n,h=>by
  rw[A9];split
  .grind
  .rename_i b;obtain⟨c,r,d,a⟩:=ade f (n / 10) zo;refine⟨c,r++[UInt8.ofNat (48+n % 10)],zg,.inl fun e=>?_⟩;rcases a with a | a
   .grind
   .subst e a;grind [adb,num]
theorem W5(n:Nat):num (gj n)=n:=adb _ _ zo
theorem aIf{a:Nat}(h:gj a=gj b):a=b:=by
 grind [W5]
def names(n:Nat):List Bs:=(a0C n).map fun i=>95::gj (i+1)
mutual
def amX (S:List Nat):Tm->Tm
 | .atom s=>.atom s
 | .int n=>.int n
 | .var i=>.var (S.idxOf i)
 | .comp name args=>.comp name (amY S args)
 termination_by structural t=>t
def amY (S:List Nat):List Tm->List Tm
 | []=>[]
 | t::r=>amX S t::amY S r
 termination_by structural t=>t
end
def E4{α:Type}(r:cg α):Prop:=∃ a,r = .err 4 a
section
variable(S:List Nat)
def C1(I:List Item)(s0 s1:List Nat)(t:Tm):Prop:=∀ (T:List Tok) (k d f:Nat) (r:cg Ex),At T k I->ep T (k+I.length) [40]=G->jo T f 1 k (names s0.length) d=O r ->
 E4 r\/∃ x g,qD T g 1 x (k+I.length) (names s1.length) d=O r/\made (a0C S.length) x=amX S t
end
variable{S:List Nat}{I:List Item}{s0 s1 s2:List Nat}{t:Tm}{T:List Tok}
end
def GF(c:UInt8)(w:Bs):Prop:=∀ x∈w,x≠c
theorem W6{c:UInt8}:∀ {a:Bs},GF c a->gP c a=[a]
 | [],_=>rfl
 | x::a,h=>by
  rw[ac2,bX (h x a0p),W6 fun y b=>h y (List.mem_cons_of_mem _ b)]
def amZ:∀ {l:List Bs} {f:Bs},GF 32 f->(∀ w∈l,GF 32 w)->gP 32 (f++(l.map fun w=>32::w).flatten)=f::l
 | [],f,a,_=>by simp_all [List.map_nil,List.flatten_nil,List.append_nil,W6]
 | w::l,f,a,b=>by
  rw[List.map_cons,a2i,List.cons_append,SN,W6 a,amZ (b w a0p) zg];rfl
def Pk(w:Bs):Prop:=GF 32 w/\GF 10 w
def am0{c:UInt8}(a:c≠32):∀ {l:List Bs},(∀ w∈l,GF c w)->GF c (l.map fun w=>(32:UInt8)::w).flatten
 | [],_=>fun x hx=>zg
 | w::l,h=>fun x hx=>by
  rw[List.map_cons,a2i] at hx;rcases a0q.1 hx with hx | hx
  .rcases a0n.1 hx with rfl | hx
   .grind
   .exact h w a0p x hx
  .exact am0 a zg x hx
def aIh{f:Bs}{l:List Bs}{r:Bs}{k:Nat}{p:Pv}(c:Pk f)(d:∀ w∈l,Pk w):oP (gP 10 (mJ f l++r)) k p=match oB (f::l) p with
  | none=>.error k
  | some p=>oP (gP 10 r) (k+1) p:=by
 have h:GF 10 (f++(l.map fun w=>(32:UInt8)::w).flatten):=fun x hx=>by
  rcases a0q.1 hx with hx | hx
  .exact c.2 x hx
  .exact am0 zg (fun w hw=>(d w hw).2) x hx
 have e:gP 10 (mJ f l++r)=(f++(l.map fun w=>(32:UInt8)::w).flatten)::gP 10 r:=by
  grind [mJ,a0I,List.singleton_append,SN,W6]
 rw[e];have i:=(SM 10 r).2;cases hr:gP 10 r with
 | nil=>grind
 | cons a b=>
  have g:gP 32 (f++(l.map fun w=>(32:UInt8)::w).flatten)=f::l:=amZ c.1 fun w hw=>(d w hw).1;rw[show oP ((f++(l.map fun w=>(32:UInt8)::w).flatten)::a::b) k p=(match oB (gP 32 (f++(l.map fun w=>(32:UInt8)::w).flatten)) p with
   | none=>.error k
   | some p=>oP (a::b) (k+1) p) from J,g]
structure InR(n:Nat)(i:In):Prop where
 wd:Pk i.word
 ws:∀ w∈uh i ((mL i.word).getD []) i.s,Pk w
 rd:vl n (i.word::uh i ((mL i.word).getD []) i.s)=O i
theorem aIj(l:List Co)(c:Co)(f:Co->Co):Gz (l++[c]) f=l++[f c]:=by
 simp_all [Gz,List.reverse_append]
theorem am1(l:List Pd)(c:Pd)(f:Pd->Pd):Ko (l++[c]) f=l++[f c]:=by
 simp_all [Ko,List.reverse_append]
def aIk{z:Int}(h:-9223372036854775808<=z/\z<=9223372036854775807):DM (kV z)=O z:=by
 have key:∀ a:Int,a=z->(if kV a=kV z/\-9223372036854775808<=a/\a<=9223372036854775807 then O a else V)=O z:=by
  grind
 unfold DM;simp only;refine key _ ?_;by_cases f:z<0
 .have e:kV z=45::gj z.natAbs:=by simp_all [kV,zip]
  grind [W5]
 .have e:kV z=gj z.natAbs:=by simp_all [kV,bX]
  rw[e];obtain⟨c,r,d,-⟩:=ade (z.natAbs+1) z.natAbs zo;have g:=Pj (z.natAbs+1) z.natAbs c zg;have b:=W5 z.natAbs;unfold gj at b ⊢;rw[d] at b ⊢;split
  .simp_all [digit]
  omega
theorem Kt(n:Nat):gj n=kV (n:Int):=by simp_all [kV,bX]
structure PdR(p:Pd):Prop where
 wd:Pk p.name
 name:pD p.name=O p.name
 ar:p.arity<64
 cls:∀ c∈p.clauses,c.slots<65/\∀ i∈c.ins,InR c.slots i
def wdN(n:Nat):Pk (gj n):=⟨fun x hx e=>by
 have:=Pj (n+1) n x hx;simp_all [digit],fun x hx e=>by
 have:=Pj (n+1) n x hx;simp_all [digit]⟩
def Pv.cur(p:Pv):Option Co:=match p.ask with
 | some (c,_)=>O c
 | none=>if p.open_ then oB.Pe p.dI else V
def Pv.add(p:Pv)(i:In):Pv:=match p.ask with
 | some (c,n)=>{ p with ask:=O ({ c with ins:=c.ins++[i] },n) }
 | none=>{ p with dI:=Ko p.dI fun q=>{ q with clauses:=Gz q.clauses fun c=>{ c with ins:=c.ins++[i] } } }
abbrev Ci:Bs:=[112,114,101,100]
abbrev Bh:Bs:=[99,108,97,117,115,101]
abbrev DT:Bs:=[113,117,101,114,121]
theorem W7{w0:Bs}{r:List Bs}{p:Pv}(a:p.ask≠V)(hw:w0=Ci\/w0=Bh\/w0=DT):oB (w0::r) p=none:=by
 obtain⟨dI,o,ask⟩:=p;cases ask with
 | none=>grind
 | some cn=>
  unfold oB;grind
def aIm{a b:Bs}{p:Pv}(c:p.ask=V):oB [Ci,a,b] p=match pD a,kh b 64 with
  | some a,O b=>if p.dI.any (fun q=>q.name == a && q.arity == b) then V else O { p with dI:=p.dI++[⟨a,b,[]⟩],open_:=false }
  | _,_=>none:=by
 grind [oB,pD,kh]
def aIn{a:Bs}{p:Pv}(b:p.ask=V)(c:p.dI≠[]):oB [Bh,a] p=match kh a 65 with
  | some a=>O { p with dI:=Ko p.dI fun q=>{ q with clauses:=q.clauses++[⟨a,[]⟩] },open_:=true }
  | none=>none:=by
 grind [oB]
theorem am2{a b:Bs}{p:Pv}(c:p.ask=V):oB [DT,a,b] p=match kh a 65 with
  | some a=>match kh b (a+1) with
   | some b=>O { p with ask:=O (⟨a,[]⟩,b),open_:=true }
   | none=>V
  | none=>none:=by
 grind [oB,kh]
def aIo{w0:Bs}{r:List Bs}{p:Pv}(b:¬ (p.ask≠V/\(w0=Ci\/w0=Bh\/w0=DT)))(d:¬ (w0=Ci/\r.length=2))(f:¬ (w0=Bh/\r.length=1/\p.dI≠[]))(g:¬ (w0=DT/\r.length=2)) :
  oB (w0::r) p=match p.cur with
   | some c=>match vl c.slots (w0::r) with
    | some i=>O (p.add i)
    | none=>V
   | none=>none:=by
 unfold oB;split
 .grind
 .rename_i e;injection e with h j;have a:p.dI=[]:=zg;obtain⟨dI,o,ask⟩:=p;have a:dI=[]:=a;subst a;cases ask with
  | some c=>grind
  | none=>
   have k:(Pv.mk [] o V).cur=none:=by
    unfold Pv.cur;cases o<;>rfl
   grind
 .grind
 .obtain⟨dI,o,ask⟩:=p;cases ask with
  | none=>
   rw[bX zs];grind [Pv.cur,Pv.add]
  | some c=>
   rw[bX]
   .grind [Pv.cur,Pv.add]
   grind
def Pv.Bd(k:Nat)(p:Pv):Prop:=(∀ q∈p.dI,q.clauses.length<=k/\∀ c∈q.clauses,c.ins.length<=k/\c.slots<=64)/\∀ c n,p.ask=O (c,n)->c.ins.length<=k/\c.slots<=64
theorem Pv.Bd.cur{k:Nat}{p:Pv}{c:Co}(h:p.Bd k)(a:p.cur=O c):c.ins.length<=k/\c.slots<=64:=by
 unfold Pv.cur at a;split at a
 .rename_i e n b;injection a with a;subst a;exact h.2 _ _ b
 .split at a
  .unfold oB.Pe at a;split at a
   .rename_i q d;exact(h.1 q (a1r d)).2 c (a1r a)
   grind
  grind
theorem Pv.Bd.add{k:Nat}{p:Pv}(h:p.Bd k)(i:In):(p.add i).Bd (k+1):=by
 unfold Pv.add;split
 .rename_i c n f;refine⟨fun q a=>⟨by have:=(h.1 q a).1;omega,fun c b=>⟨by have:=((h.1 q a).2 c b).1;omega,((h.1 q a).2 c b).2⟩⟩,fun l m he=>?_⟩;injection he with he;injection he with d g;subst d;have:=h.2 _ _ f;grind
 .rename_i f;refine⟨fun q a=>?_,fun c n he=>?_⟩
  .rcases acU a with a | ⟨q0,e,rfl⟩
   rotate_left
   .have a:=a1r e;refine⟨?_,fun c b=>?_⟩
    .show(Gz _ _).length<=_;rw[ams];have:=(h.1 q0 a).1;omega
    .rcases amr b with b | ⟨c0,j,rfl⟩
     .exact⟨by have:=((h.1 q0 a).2 c b).1;omega,((h.1 q0 a).2 c b).2⟩
     .have:=(h.1 q0 a).2 c0 (a1r j);grind
   .exact⟨by have:=(h.1 q a).1;omega,fun c b=>⟨by have:=((h.1 q a).2 c b).1;omega,((h.1 q a).2 c b).2⟩⟩
  grind
theorem Pv.Bd.mono{p:Pv}(h:p.Bd k)(hk:k<=k'):p.Bd k':=
 ⟨fun q a=>⟨a0f (h.1 q a).1 hk,fun c b=>⟨a0f ((h.1 q a).2 c b).1 hk,((h.1 q a).2 c b).2⟩⟩,fun c n he=>⟨a0f (h.2 c n he).1 hk,(h.2 c n he).2⟩⟩
theorem adg(c:UInt8):∀ (s:Bs),∀ l∈gP c s,c ∉ l/\l.length<=s.length
 | [],l,h=>by
  simp_all [gP]
 | x::r,l,h=>by
  have ih:=adg c r;unfold gP at h;grind
def Wk.new(b:Bd)(n:Nat):Wk:=⟨n,⟨[],0⟩,[⟨O b,a0C n,0⟩],[]⟩
def Iw(c:Co):Vm:=⟨0,⟨[],0⟩,[⟨c,List.replicate c.slots .nil,0,V,0,A⟩],0,0,[]⟩
def vmE(dI:List Pd)(told:Nat):En where
 St:=Vm
 sr m:=m.sr
 nv m:=m.n
 fu m f:={ m with sr:={ m.sr with fuel:=f } }
 nx d f m:=MQ dI d f m
 told m:=m.iL (a0C told)
def Cj(cs:List Cl)(b:Bd)(nv:Nat):Option Bs:=match xK cs [] with
 | none=>V
 | some l=>match Bg [] b nv A with
  | none=>V
  | some a=>O (yZ l a nv)
inductive adh where
 | err (e:Nat) (at_:Int)
 | ok (E:En) (st:E.St) (names:List Bs)
def runT(t:Bs)(names:List Bs):adh:=match qo t with
 | .error (e,k)=>.err e k
 | .ok (ps,c,n)=>.ok (vmE ps n) (Iw c) names
def Ix(cs:List Cl)(q:Bs)(machine:Bool):adh:=match rv tl q with
 | .err e a=>.err e a
 | .ok b _ vs=>if machine then match Cj cs b vs.length with
   | none=>.err 4 (-1)
   | some t=>runT t vs
  else .ok (WI cs vs.length) (Wk.new b vs.length) vs
def am4(d f n:Nat):adh->Option (List (Bs×Nat))
 | .err _ _=>V
 | .ok E st names=>(MR E names d f n (V,st)).map Prod.fst
def am5:∀ (d c:List Bs) (k:Nat) (p q:Pv),c≠[]->oP (d++c) k p = .ok q->∃ p1,oP c (k+d.length) p1 = .ok q
 | [],c,k,p,q,_,h=>⟨p,h⟩
 | l::d,c,k,p,q,e,h=>by
  have f:d++c≠[]:=(by simp_all);obtain⟨x,r,hx⟩:∃ x r,d++c=x::r:=by
   cases g:d++c with
   | nil=>grind
   | cons a b=>grind
  rw[List.cons_append,hx,oP] at h
  .split at h
   .grind
   .rename_i p1 _;rw[<- hx] at h;obtain⟨p2,i⟩:=am5 d c (k+1) p1 q e h;grind
  grind
def aIq{ws:List Bs}{p a:Pv}(h:oB ws p=O a)(b:p.ask.map (·.2)=O n):a.ask.map (·.2)=O n:=by
 obtain⟨dI,o,ask⟩:=p;cases ask with
 | none=>grind
 | some cn=>
  obtain⟨c,d⟩:=cn;simp only[Option.map_some,aZ9] at b;subst b;unfold oB at h;grind
theorem am6:∀ (L:List Bs) (k:Nat) (p q:Pv) (n:Nat),oP L k p = .ok q->p.ask.map (·.2)=O n->q.ask.map (·.2)=O n
 | [],k,p,q,n,h,a=>by
  simp_all [oP]
 | [r],k,p,q,n,h,a=>by
  grind [oP]
 | r::s::rs,k,p,q,n,h,a=>by
  rw[oP] at h
  .split at h
   .grind
   .rename_i p1 b;exact am6 (s::rs) _ _ _ _ h (aIq b a)
  grind
theorem aIr(h:kh (gj nv) n=O b):b=nv:=by
 unfold kh at h;split at h
 .rename_i z a;split at h
  .rename_i c;injection h with h;have d:=(WT a).1;grind [kV,aIf]
  grind
 grind
def Nl(s:Bs):Prop:=s=[]\/∃ a,s=a++[10]
def Nl.app{a b:Bs}(d:Nl a)(c:Nl b):Nl (a++b):=by
 rcases c with rfl | ⟨x,rfl⟩
 .grind
 .exact .inr ⟨a++x,zg⟩
theorem Nl.flat:∀ {L:List Bs},(∀ x∈L,Nl x)->Nl L.flatten
 | [],_=>.inl J
 | x::r,h=>by rw[a2i];exact(h x a0p).app (Nl.flat zg)
def Nl.words(f:Bs)(l:List Bs):Nl (mJ f l):=.inr ⟨_,J⟩
theorem Nl.map{α:Type}{g:α->Bs}(a:∀ x,Nl (g x))(L:List α):Nl (L.map g).flatten:=Nl.flat fun x hx=>by
 grind
def Nl.pd(p:Pd):Nl (wI p):=(Nl.words _ _).app (Nl.map (fun _=>(Nl.words _ _).app (Nl.map (fun _=>Nl.words _ _) _)) _)
def aIs(b r:Bs)(c:Nl b):∃ L,gP 10 (b++r)=L++gP 10 r:=by
 rcases c with rfl | ⟨a,rfl⟩
 .simp_all
 simp_all [gP,a0I,SN]
def aIt(c:UInt8):∀ (s:Bs),gP c s≠[]
 | []=>by simp [gP]
 | x::r=>by
  grind [ac2]
theorem aIu{l:List Pd}{ask:Co}{ps:List Pd}{c:Co}(h:qo (yZ l ask nv) = .ok (ps,c,n)):n=nv:=by
 unfold qo at h;split at h
 .grind
 split at h
 .grind
 rename_i q a;split at h
 .rename_i j k m;injection h with h;injection h with b h;injection h with d e;subst b d e;have g:Nl (l.map wI).flatten:=Nl.map Nl.pd l;unfold yZ at a;rw[a0I] at a;obtain⟨L,i⟩:=aIs _ (mJ [113,117,101,114,121] [gj ask.slots,gj nv]++Ap ask) g;rw[i] at a;obtain⟨p1,b⟩:=am5 L _ _ _ _ (aIt _ _) a;rw[aIh (f:=[113,117,101,114,121]) (l:=[gj ask.slots,gj nv]) (⟨by grind [GF],by grind [GF]⟩) (fun w hw=>by
   simp only[a0n,a0v,or_false] at hw;rcases hw with rfl | rfl<;>exact wdN _)] at b
  grind [W7,am6,aIr,am2]
 grind
def aIv{cs:List Cl}{x:Bd}{t:Bs}{ps:List Pd}{c:Co}(a:Cj cs x nv=O t)(b:qo t = .ok (ps,c,n)):n=nv:=by
 grind [Cj,aIu]
def DU:List (Bs×Bs×List Bs×Nat):=[
 ([97,46],[116,114,117,101,46],[[116,114,117,101]],6),
 ([97,46],[102,40,88,44,89,44,97,41,32,92,61,32,102,40,98,44,88,44,99,41,44,32,88,32,61,32,100,46],[[88,32,61,32,100,44,32,89,32,61,32,95,49]],6),
 ([97,46],[102,97,105,108,46],[],6),
 ([97,46],[88,32,61,32,89,46],[[88,32,61,32,95,49,44,32,89,32,61,32,95,49]],6),
 ([97,46],[88,32,61,32,102,40,89,44,90,44,89,41,46],[[88,32,61,32,102,40,95,49,44,95,50,44,95,49,41,44,32,89,32,61,32,95,49,44,32,90,32,61,32,95,50]],6),
 ([97,46],[88,32,61,32,102,40,88,41,46],[],6),
 ([97,46],[102,40,88,44,98,41,32,61,32,102,40,97,44,89,41,44,32,95,32,61,32,99,44,32,95,81,32,61,32,100,46],[[88,32,61,32,97,44,32,89,32,61,32,98]],6),
 ([112,40,97,44,98,41,46,32,112,40,98,44,99,41,46,32,112,40,99,44,100,41,46,32,97,110,99,40,88,44,89,41,32,58,45,32,112,40,88,44,89,41,46,32,97,110,99,40,88,44,89,41,32,58,45,32,112,40,88,44,90,41,44,32,97,110,99,40,90,44,89,41,46,32],[97,110,99,40,97,44,88,41,46],[[88,32,61,32,98],[88,32,61,32,99],[88,32,61,32,100]],6),
 ([112,40,97,44,98,41,46,32,112,40,98,44,99,41,46,32,112,40,99,44,100,41,46,32,97,110,99,40,88,44,89,41,32,58,45,32,112,40,88,44,89,41,46,32,97,110,99,40,88,44,89,41,32,58,45,32,112,40,88,44,90,41,44,32,97,110,99,40,90,44,89,41,46,32],[97,110,99,40,88,44,100,41,46],[[88,32,61,32,99],[88,32,61,32,97],[88,32,61,32,98]],6),
 ([112,40,97,44,98,41,46,32,112,40,98,44,99,41,46,32,112,40,99,44,100,41,46,32,97,110,99,40,88,44,89,41,32,58,45,32,112,40,88,44,89,41,46,32,97,110,99,40,88,44,89,41,32,58,45,32,112,40,88,44,90,41,44,32,97,110,99,40,90,44,89,41,46,32],[97,110,99,40,100,44,88,41,46],[],6),
 ([112,40,97,44,98,41,46,32,112,40,98,44,99,41,46,32,112,40,99,44,100,41,46,32,97,110,99,40,88,44,89,41,32,58,45,32,112,40,88,44,89,41,46,32,97,110,99,40,88,44,89,41,32,58,45,32,112,40,88,44,90,41,44,32,97,110,99,40,90,44,89,41,46,32],[112,40,88,44,89,41,44,32,92,43,32,112,40,89,44,95,41,46],[[88,32,61,32,99,44,32,89,32,61,32,100]],6),
 ([97,46],[88,32,61,32,49,43,50,42,51,45,40,52,45,53,41,44,32,89,32,105,115,32,88,46],[[88,32,61,32,49,43,50,42,51,45,40,52,45,53,41,44,32,89,32,61,32,56]],6),
 ([97,46],[88,32,105,115,32,55,32,47,47,32,45,50,44,32,89,32,105,115,32,55,32,109,111,100,32,45,50,44,32,90,32,105,115,32,45,55,32,109,111,100,32,50,46],[[88,32,61,32,45,51,44,32,89,32,61,32,45,49,44,32,90,32,61,32,49]],6),
 ([97,46],[88,32,105,115,32,57,57,57,57,57,57,57,57,57,42,57,57,57,57,57,57,57,57,57,42,57,57,57,57,57,57,57,57,57,46],[[88,32,61,32,56,53,49,53,56,52,53,50,52,57,50,54,53,48,54,53,52,55,49]],0),
 ([97,46],[88,32,105,115,32,49,32,47,47,32,48,46],[],9),
 ([97,46],[88,32,105,115,32,89,43,49,46],[],7),
 ([97,46],[88,32,105,115,32,97,46],[],8),
 ([97,46],[88,32,60,32,49,46],[],7),
 ([97,46],[49,32,61,32,49,32,59,32,98,46],[[116,114,117,101]],10),
 ([97,46],[97,40,49,41,46],[],10),
 ([97,46],[40,88,32,61,32,49,32,59,32,88,32,61,32,50,41,44,32,40,89,32,61,32,49,32,59,32,89,32,61,32,50,41,44,32,88,32,92,61,32,89,46],[[88,32,61,32,49,44,32,89,32,61,32,50],[88,32,61,32,50,44,32,89,32,61,32,49]],6),
 ([97,46],[40,88,32,61,32,49,32,59,32,88,32,61,32,50,32,59,32,88,32,61,32,51,41,44,32,33,46],[[88,32,61,32,49]],6),
 ([97,46],[40,49,32,61,32,50,32,45,62,32,88,32,61,32,97,32,59,32,88,32,61,32,98,41,46],[[88,32,61,32,98]],6),
 ([97,46],[40,40,88,32,61,32,49,32,59,32,88,32,61,32,50,41,32,45,62,32,89,32,61,32,88,32,59,32,89,32,61,32,51,41,46],[[88,32,61,32,49,44,32,89,32,61,32,49]],6),
 ([97,46],[40,49,32,61,32,50,32,45,62,32,88,32,61,32,97,41,46],[],6),
 ([97,46],[92,43,32,49,32,61,32,49,46],[],6),
 ([97,46],[92,43,32,92,43,32,88,32,61,32,49,44,32,118,97,114,40,88,41,46],[[88,32,61,32,95,49]],6),
 ([116,40,88,41,32,58,45,32,40,88,32,61,32,49,44,32,33,32,59,32,88,32,61,32,50,41,46,32,116,40,51,41,46],[116,40,88,41,46],[[88,32,61,32,49]],6),
 ([116,40,88,41,32,58,45,32,92,43,32,40,88,32,61,32,50,44,32,33,41,44,32,88,32,61,32,49,46,32,116,40,51,41,46],[116,40,88,41,46],[[88,32,61,32,51]],6),
 ([116,40,88,41,32,58,45,32,40,116,114,117,101,44,32,33,32,45,62,32,88,32,61,32,49,32,59,32,88,32,61,32,50,41,46,32,116,40,51,41,46],[116,40,88,41,46],[[88,32,61,32,49],[88,32,61,32,51]],6),
 ([116,40,88,41,32,58,45,32,40,116,114,117,101,32,45,62,32,33,32,44,32,88,32,61,32,49,32,59,32,88,32,61,32,50,41,46,32,116,40,51,41,46],[116,40,88,41,46],[[88,32,61,32,49]],6),
 ([115,40,88,41,32,58,45,32,116,40,88,41,46,32,115,40,52,41,46,32,116,40,49,41,32,58,45,32,33,46,32,116,40,50,41,46],[115,40,88,41,46],[[88,32,61,32,49],[88,32,61,32,52]],6),
 ([97,46],[88,32,61,32,91,49,44,50,124,89,93,44,32,89,32,61,32,91,51,93,44,32,90,32,61,32,91,93,46],[[88,32,61,32,91,49,44,50,44,51,93,44,32,89,32,61,32,91,51,93,44,32,90,32,61,32,91,93]],6),
 ([97,46],[91,88,124,89,93,32,61,32,91,97,93,44,32,91,90,124,85,93,32,61,32,91,98,124,99,93,46],[[88,32,61,32,97,44,32,89,32,61,32,91,93,44,32,90,32,61,32,98,44,32,85,32,61,32,99]],6),
 ([97,46],[118,97,114,40,88,41,44,32,110,111,110,118,97,114,40,102,40,88,41,41,44,32,97,116,111,109,40,91,93,41,44,32,105,110,116,101,103,101,114,40,51,41,44,32,92,43,32,97,116,111,109,40,51,41,44,32,92,43,32,105,110,116,101,103,101,114,40,97,41,44,32,92,43,32,97,116,111,109,40,102,40,97,41,41,46],[[88,32,61,32,95,49]],6),
 ([97,46],[88,32,61,61,32,88,44,32,92,43,32,88,32,61,61,32,89,44,32,102,40,88,41,32,61,61,32,102,40,88,41,44,32,88,32,61,32,89,44,32,88,32,61,61,32,89,46],[[88,32,61,32,95,49,44,32,89,32,61,32,95,49]],6),
 ([97,46],[88,32,61,32,49,32,109,111,100,32,50,44,32,89,32,61,32,40,49,43,50,41,32,109,111,100,32,51,44,32,90,32,61,32,49,45,40,45,49,41,46],[[88,32,61,32,49,32,109,111,100,32,50,44,32,89,32,61,32,40,49,43,50,41,32,109,111,100,32,51,44,32,90,32,61,32,49,45,45,49]],6)]
def DV:List (UInt8×Bs×Nat×Int):=[
 (112,[97],2,1),
 (112,[97,46,32,98],2,4),
 (112,[65,46],2,0),
 (112,[97,32,58,45,32,46],2,5),
 (112,[97,40,49,44,41,46],2,4),
 (112,[116,114,117,101,46],3,0),
 (112,[118,97,114,40,88,41,46],3,0),
 (112,[97,32,58,45,32,116,114,117,101,40,49,41,46],3,5),
 (112,[97,40,49,44,50,44,51,44,52,44,53,41,46],4,0),
 (112,[49,46],2,0),
 (112,[97,32,58,45,32,88,46],2,5),
 (112,[97,32,58,45,32,49,43,50,46],2,5),
 (112,[97,32,58,45,32,98,44,33,44,40,99,59,100,45,62,101,41,46,32,98,46],0,-1),
 (112,[97,98,99,100,101,102,103,104,105,46],2,0),
 (112,[97,40,48,49,41,46],2,2),
 (112,[97,40,49,50,51,52,53,54,55,56,57,48,41,46],2,2),
 (112,[97,32,64,46],2,2),
 (112,[97,46,98,46],2,1),
 (113,[97],2,1),
 (113,[97,46,32,98,46],2,3),
 (113,[97,44,32,46],2,3),
 (113,[88,32,61,32,91,49,44,93,46],2,7),
 (113,[88,32,61,32,91,49,124,50],2,8),
 (113,[88,32,61,32,45,32,97,46],2,6),
 (113,[97,32,45,62,32,98,32,45,62,32,99,46],2,7),
 (113,[40,40,40,40,40,40,40,40,97,41,41,41,41,41,41,41,41,46],4,8),
 (116,[102,40,88],2,3),
 (116,[102,40,88,41,32,103],2,5),
 (116,[],2,0),
 (116,[97,61,98],2,1),
 (116,[91,97,124,98,44,99,93],2,4),
 (99,[],5,1),
 (99,[113,117,101,114,121,32,49,32,49,10,110,101,119,32,49,10],5,2),
 (99,[113,117,101,114,121,32,49,32,50,10],5,1),
 (99,[112,114,101,100,32,97,32,48,10],5,2),
 (99,[112,114,101,100,32,97,32,48,10,114,101,116,10],5,2),
 (99,[113,117,101,114,121,32,48,32,48,10,100,111,110,101],5,2)]
def am7(l:List Bs)(e:Nat)(r:List (Bs×Nat)):Bool:=r == l.map (fun s=>(s,0))++(if e=0 then [] else [([],e)])
def W8(machine:Bool)(x:Bs×Bs×List Bs×Nat):Bool:=match program x.1 with
 | .err _ _=>G
 | .ok cs _ _=>match am4 2000 20000 (x.2.2.1.length+if x.2.2.2=0 then 0 else 1) (Ix cs x.2.1 machine) with
  | none=>G
  | some r=>am7 x.2.2.1 x.2.2.2 r
theorem aIw:DU.all (W8 G)=true:=by decide +kernel
theorem aIx:DU.all (W8 A)=true:=by decide +kernel
def am8(x:UInt8×Bs×Nat×Int):Bool:=
 if x.1=112 then match program x.2.1 with
  | .err e a=>e == x.2.2.1 && (a:Int) == x.2.2.2
  | .ok _ _ _=>x.2.2.1 == 0 && x.2.2.2 == -1
 else if x.1=99 then match qo x.2.1 with
  | .error (e,k)=>e == x.2.2.1 && (k:Int) == x.2.2.2
  | .ok _=>G
 else if x.1=113 then match rv tl x.2.1 with
  | .err e a=>e == x.2.2.1 && (a:Int) == x.2.2.2
  | .ok _ _ _=>G
 else match rv Gr x.2.1 with
  | .err e a=>e == x.2.2.1 && (a:Int) == x.2.2.2
  | .ok _ _ _=>G
def aIy:DV.all am8=true:=by decide +kernel
def aIz{m:Bool}{x:Bs×Bs×List Bs×Nat}(h:x∈DU):∃ cs k v E st names q,program x.1 = .ok cs k v/\Ix cs x.2.1 m = .ok E st names /\
  MR E names 2000 20000 (x.2.2.1.length+if x.2.2.2=0 then 0 else 1) (V,st)=O (x.2.2.1.map (fun s=>(s,0))++(if x.2.2.2=0 then [] else [([],x.2.2.2)]),q):=by
 have b:W8 m x=true:=by
  cases m
  .grind [a1f,aIw]
  grind [a1f,aIx]
 unfold W8 at b;split at b
 .grind
 .rename_i cs k v d;split at b
  .grind
  .rename_i r hr;unfold am7 at b;rw[beq_iff_eq] at b;subst b;cases c:Ix cs x.2.1 m with
   | err e a=>rw[c] at hr;cases hr
   | ok E st names=>
    grind [am4,a0B]
def am9{E:En}{v':List Bs}{q b:Qs E}{a:Bs×Nat}{l:List (Bs×Nat)}(h:MR E v' d f (n+1) q=O (a::l,b)):∃ q1,Gy E v' d f q=O (a,q1)/\MR E v' d f n q1=O (l,b):=by
 grind [MR]
def aIA:∀ x∈DU,x.1.length<=2000/\x.2.1.length<=2000/\x.2.2.1.length<=10/\x.2.2.2<=20:=by decide +kernel
def ana:∀ x∈DV,x.2.1.length<=2000/\(x.1=112\/x.1=113\/x.1=116\/x.1=99)/\(x.2.2.1≠0\/x.2.2.2=-1):=by decide +kernel
def pA:Bs:=[97,46]
def aIB:∃ cs k v,program pA = .ok cs k v:=by
 have h:(match program pA with | .ok _ _ _=>A | .err _ _=>G)=true:=by decide +kernel
 grind
def aIC{x:UInt8×Bs×Nat×Int}(h:x∈DV) :
  (x.1=112/\((∃ a:Nat,program x.2.1 = .err x.2.2.1 a/\x.2.2.2=(a:Int))\/(∃ cs k v,program x.2.1 = .ok cs k v/\x.2.2.1=0/\x.2.2.2=-1))) \/
  (x.1=99/\∃ a:Nat,qo x.2.1 = .error (x.2.2.1,a)/\x.2.2.2=(a:Int))\/(x.1=113/\∃ a:Nat,rv tl x.2.1 = .err x.2.2.1 a/\x.2.2.2=(a:Int))\/(x.1=116/\∃ a:Nat,rv Gr x.2.1 = .err x.2.2.1 a/\x.2.2.2=(a:Int)):=by
 have b:=a1f.1 aIy x h;obtain⟨-,c,-⟩:=ana x h;grind [am8]
end P
open Go.Proofs.YtoegidfbnkaabaaGreatDoor.Sx
section
variable{p0 p1 p2 p3 p4 p5 p6 p7:Y}{w:Z}{R:Ending->Z->Prop}
def anb:=cz w R [p0,p1] (gc [] [] []) func44
def GG(p0 p1:Y)(w:Z)(R:Ending->Z->Prop):Prop:=
 CA a92 82 #[p0] w (fun k w1=>
 NC p0 fun g=>
 RD a92 (Instr.fieldAt 100 g 1) w1 (fun h=>
 RD a92 (Instr.loadAt 98 h) w1 (fun a=>
 WR a92 (Instr.buildSlice 98 1 #[(0,p1)]) w1 (fun b c=>
 WR a92 (Builtin.append_ #[98,98] 98 #[a,b]) c (fun d f=>
 NC p0 fun e=>
 RD a92 (Instr.fieldAt 100 e 1) f (fun i=>
 WU a92 (Instr.storeAt 98 i d) f (fun j=>
 R (ah ai) j) (PX R)) (PX R)) (PX R)) (PX R)) (PX R)) (PX R)) (PC R)
def anc(h:GG p0 p1 w R):Calls a92 95 #[p0,p1] w R:=
 cq (args:=[p0,p1]) (Ey (fun _=>[]) (fun _=>V) (fun _=>0) (fun _=>V) (fun _=>[]) (fun _=>[]) (fun _=>G) (fun _=>G)) func95 J zk zk h
def aIG{u:FrameMode}{w:Z}{R:Ending->Z->Prop}(h:GG tv vv w R):CallsD a92 95 #[tv,vv] u w fun e a w'=>a=u/\R e w':=
 as8 (args:=[tv,vv]) (Ey (fun _=>[]) (fun _=>V) (fun _=>0) (fun _=>V) (fun _=>[]) (fun _=>[]) (fun _=>G) (fun _=>G)) func95 J zk zk (Nat.le_of_ble_eq_true zk) [] zk h
end
namespace P
structure Nd where
 kind:Nat
 name:Bs
 n:Int
 args:List Nat
deriving Inhabited
structure Hp where
 nodes:List Nd
 to:List Int
 aVh:List Nat
 cost:Nat
 ane:Nat
 err:Nat
def Hp.nd(H:Hp)(t:Nat):Nd:=H.nodes.getD t ⟨0,[],0,[]⟩
def Hp.adm(H:Hp)(t:Nat):Int:=H.to.getD t (-1)
def Hp.DB(H:Hp):Bool:=decide (H.ane<H.cost) || decide (H.err≠0)
def Hp.add(H:Hp)(d:Nd):Hp:={ H with nodes:=H.nodes++[d],to:=H.to++[-1] }
def Hp.walk(H:Hp):Nat->Nat->Option Nat
 | 0,t=>if (H.nd t).kind=118/\0<=H.adm t then V else O t
 | f+1,t=>if (H.nd t).kind=118/\0<=H.adm t then H.walk f (H.adm t).toNat else O t
def Hp.fresh(H:Hp):Nat->Hp×List Nat
 | 0=>(H,[])
 | n+1=>let (a,l):=(H.add ⟨118,[],0,[]⟩).fresh n;(a,H.nodes.length::l)
mutual
def Hp.made (H:Hp) (vs:List Nat):Ex->Hp×Nat
 | .mk kind name n k args=>if kind=118 then(H,vs.getD k 0) else
  let (a,l):=H.mS vs args
  (a.add ⟨kind,name,n,l⟩,a.nodes.length)
 termination_by structural x=>x
def Hp.mS (H:Hp) (vs:List Nat):List Ex->Hp×List Nat
 | []=>(H,[])
 | x::xs=>let (a,t):=H.made vs x;let (b,l):=a.mS vs xs;(b,t::l)
 termination_by structural x=>x
end
def Hp.kr(H:Hp)(t:Nat):Nat:=if (H.nd t).kind≠99 then 0 else P.kr (H.nd t).name (H.nd t).args.length
abbrev Xr:=Bs×Nat×List Nat
def Xb(x:Option Xr)(k:Bs->Nat->List Nat->Option Xr):Option Xr:=
 match x with
 | none=>V
 | some (s,c,l)=>k s c l
def Hp.over(H:Hp)(c:Nat):Bool:=decide (H.ane<c) || decide (H.err≠0)
mutual
def Hp.text (H:Hp):Nat->Nat->Nat->Nat->List Nat->Option Xr
 | 0,_,_,_,_=>V
 | f+1,t,least,c,seen=>
  if H.over (c+1) then O ([],c+1,seen)
  else match H.walk f t with
   | none=>V
   | some t=>
    if (H.nd t).kind=97 then O ((H.nd t).name,c+1,seen)
    else if (H.nd t).kind=110 then O (kV (H.nd t).n,c+1,seen)
    else if (H.nd t).kind=118 then match seen.idxOf? t with
     | some k=>O (95::gj (k+1),c+1,seen)
     | none=>O (95::gj (seen.length+1),c+1,seen++[t])
    else if H.kr t≠0 then
     Xb (H.text f ((H.nd t).args.getD 0 0) (H.kr t) (c+1) seen) fun a c seen=>Xb (H.text f ((H.nd t).args.getD 1 0) (H.kr t+1) c seen) fun b c seen=>
      let op:=if (H.nd t).name=[109,111,100] then [32,109,111,100,32] else(H.nd t).name
      O (if H.kr t<least then 40::(a++op++b++[41]) else a++op++b,c,seen)
    else if (H.nd t).name=[46]/\(H.nd t).args.length=2 then H.list f t [91] (c+1) seen
    else H.targs f (H.nd t).args A ((H.nd t).name++[40]) (c+1) seen
 termination_by structural f=>f
def Hp.targs (H:Hp):Nat->List Nat->Bool->Bs->Nat->List Nat->Option Xr
 | 0,_,_,_,_,_=>V
 | _+1,[],_,out,c,seen=>O (out++[41],c,seen)
 | f+1,a::r,first,out,c,seen=>Xb (H.text f a 0 c seen) fun s c seen=>H.targs f r G ((if first then out else out++[44])++s) c seen
 termination_by structural f=>f
def Hp.list (H:Hp):Nat->Nat->Bs->Nat->List Nat->Option Xr
 | 0,_,_,_,_=>V
 | f+1,t,out,c,seen=>
  Xb (H.text f ((H.nd t).args.getD 0 0) 0 c seen) fun a c seen=>
   match H.walk f ((H.nd t).args.getD 1 0) with
   | none=>V
   | some r=>
    if H.over c then O (out++a,c,seen)
    else if (H.nd r).kind=97/\(H.nd r).name=[91,93] then O (out++a++[93],c,seen)
    else if (H.nd r).kind=99/\(H.nd r).name=[46]/\(H.nd r).args.length=2 then H.list f r (out++a++[44]) c seen
    else Xb (H.text f r 0 c seen) fun b c seen=>O (out++a++[124]++b++[93],c,seen)
 termination_by structural f=>f
end
end P
open Go.RowKit Sx
abbrev uq(l:Bs):List Y:=l.map fun c=>.int .u8 c.toNat
def su(w:Z)(wb:Nat)(S nm:Y)(out:Bs):Prop:=
 ∃ a buf,(a = aq V\/a=pp wb)/\w.heap[wb]?=aN #[a,buf,S,nm] 103/\w.ownsRow (wb+1) 5 1 buf out.length (uq out)
def MB(wb b:Nat)(o:Obj):Prop:=b=wb\/(wb<b/\∃ cs z,o = ae cs 5 z)
abbrev jH(wb:Nat)(w w':Z):Prop:=bz (MB wb) w w'
def Xa:(Tryz.prog.info? 100).map (·.size)=O 2:=zk
def aIJ:liesAt a92 Tryz.prog.depth 103 (4 / Tryz.prog.cellsOf 103) 0 100 1=true:=zk
def aIK(h:w.heap[b]?=aN #[pp b,buf,S,nm] 103) :
  Calls a92 82 #[pp b] w fun e w'=>e = ah (ak #[])/\w'=w:=by
 obtain⟨j,hj,_⟩:=a0B.1 Xa;have h0:w.cell? ⟨b,0,V⟩=O (pp b):=by grind [World.cell?]
 go_enter func82,ntmps82
 go_wp2
 rw[Lib.run_neq_ptr_same w _ underlying97 hj]
 go_wp2
 go_end0
 grind
def aIL(h:w.heap[b]?=aN #[aq V,buf,S,nm] 103) :
  Calls a92 82 #[pp b] w fun e w'=>e = ah (ak #[])/\w'=w.setCell ⟨b,0,V⟩ (pp b):=by
 obtain⟨j,hj,Pp⟩:=a0B.1 Xa;have h0:w.cell? ⟨b,0,V⟩=O (aq V):=by grind [World.cell?]
 have HW:w.frozen? ⟨b,0,V⟩=false:=jL h 0;have si:w.shape? b=O (103,4):=by grind [World.shape?]
 go_enter func82,ntmps82
 go_wp2
 rw[Lib.run_to_unsafe w ⟨b,0,V⟩ underlying97 underlying155 hj zo si (Nat.zero_lt_succ 3)];simp only[a00];rw[a2x]
 go_wp2
 rw[run_callFunc_extern func110 zk zk zk (e:=Extern.AbiNoEscape.same) zk];rw[Lib.run_noEscape];simp only[a00];rw[a2x]
 go_wp2
 rw[Lib.run_from_unsafe w ⟨b,0,V⟩ underlying155 underlying97 hj si aIJ];simp only[a00];rw[a2x]
 go_wp2
 go_end0
 grind
def anf(h:su w wb S nm out) :
  Calls a92 82 #[pp wb] w fun e w'=>e = ah (ak #[])/\jH wb w w'/\w'.heap.size=w.heap.size/\∃ buf,
   w'.heap[wb]?=aN #[pp wb,buf,S,nm] 103/\w'.ownsRow (wb+1) 5 1 buf out.length (uq out):=by
 obtain⟨d,buf,b,a,c⟩:=h;rcases b with rfl | rfl
 .refine(aIL a).mono ?_;rintro e w' ⟨rfl,rfl⟩;rw[uO a];refine⟨J,(bz.refl _ _).bO (.inl fun _=>.inl J),yH,buf,yH,(by grind [JE])⟩
 .refine(aIK a).mono ?_;rintro e w' ⟨rfl,rfl⟩;exact⟨J,bz.refl _ _,J,buf,a,c⟩
def jH.Xc(d:w1.ownsRow (wb+1) 5 1 buf n xs)(a:w1.grownBy w2 buf.ownBlock):jH wb w1 w2:=⟨a.os,a.tape,a.output,a.size,fun b o c hm=>by
 rw[a.block b (bf c) (fun e=>?_)]
 .exact yH
 .rcases d.2 with⟨rfl,_⟩| ⟨g,cap,cur,rfl,h,f,_⟩
  .cases e
  .simp only[Value.ownBlock,aZ9] at e;subst e;rw[f] at c;injection c with c;exact hm (.inr zg)⟩
def aIM(h:su w wb S nm out)(s:Bs)(f:out.length+s.length<=1000000000) :
  Calls a92 44 #[pp wb,aM s] w fun e w'=>(∃ v,e = ah v)/\su w' wb S nm (out++s)/\jH wb w w':=by
 refine anb ?_;refine(anf h).mono ?_;rintro e w1 ⟨rfl,g,s1,buf,b,a⟩;have i:=bf b;refine cG b ?_;refine aiD (e:=5) zk a s f zo ?_;intro v' w2 o2 c hv;have d:w2.heap[wb]?=aN #[pp wb,buf,S,nm] 103:=by
  rw[c.block wb i (fun e=>by have:=(a.lt wb e.symm).1;omega)];omega
 have j:=bf d;obtain⟨l,rc,rfl⟩:=gX o2;refine cG d ?_;have k:jH wb w1 w2:=jH.Xc a c;refine⟨⟨_,J⟩,⟨_,_,.inr J,pX J j,JE ?_ zo⟩,(g.trans k).bO (.inl fun _=>.inl J)⟩;grind
def ang:(Tryz.prog.info? 5).map (fun i=>(i.zero,i.size,i.bytes))=O (O (.int .u8 0),1,1):=zk
def anh(h:su w wb S nm out)(c:UInt8)(j:out.length+1<=1000000000) :
  GG (pp wb) (.int .u8 c.toNat) w fun e w'=>(∃ v,e = ah v)/\su w' wb S nm (out++[c])/\jH wb w w':=by
 obtain⟨i,k,d⟩:=a0B.1 ang;simp only[Prod.mk.injEq] at d;obtain⟨l,n,o⟩:=d;unfold GG;refine Calls.mono (anf h) ?_;rintro e w1 ⟨rfl,p,s1,buf,f,a⟩;have s:=bf f;refine dy @GG.eq_1 f ?_;refine Sx.C6 (m:=1) (t:=98) (e:=5) zk k l n o J zd (a.alloc _) (blk_alloc_new _ _) J (fun u hu=>?_) j zd (by rw[size_alloc];omega) ?_
 .simp only[a0n,a0v,or_false] at hu;subst hu;rfl
 intro v' w2 o2 b hv;have s2:=b.size;rw[size_alloc] at s2;have g:w2.heap[wb]?=aN #[pp wb,buf,S,nm] 103:=by
  rw[b.block wb (yH) (fun e=>by have:=(a.lt wb e.symm).1;omega)];exact yH
 have q:=bf g;obtain⟨x,rc,rfl⟩:=gX o2;refine dy @GG.eq_1 g ?_;have r:jH wb w1 w2:=((bz.refl _ _).alloc _).trans (jH.Xc (a.alloc _) b);refine⟨⟨_,J⟩,⟨_,_,.inr J,pX J q,JE ?_ zo⟩,(p.trans r).bO (.inl fun _=>.inl J)⟩;grind
def aIN(h:su w wb S nm out)(c:UInt8)(a:out.length+1<=1000000000) :
  Calls a92 95 #[pp wb,.int .u8 c.toNat] w fun e w'=>(∃ v,e = ah v)/\su w' wb S nm (out++[c])/\jH wb w w':=
 anc (anh h c a)
def ani(h:su w wb S nm out)(c:UInt8)(a:out.length+1<=1000000000){u:FrameMode} :
  CallsD a92 95 #[pp wb,.int .u8 c.toNat] u w fun e b w'=>b=u/\(∃ v,e = ah v)/\su w' wb S nm (out++[c])/\jH wb w w':=
 aIG (anh h c a)
def anj:Tryz.prog.cellsOf 5=1:=zk
def ank{z:Nat×Nat}(d:wb<g)(c:w.heap[g]?=O (ae iC 5 z)):jH wb w (w.freeze ⟨g,0,V⟩ n):=by
 unfold World.freeze;split
 .grind [bz.refl]
 .exact⟨J,J,J,zs,fun b o a hm=>by
   simp only[Array.getElem?_modify];rw[bX]
   .omega
   .rintro rfl;rw[c] at a;injection a with a;exact hm (.inr zg)⟩
def adn(h:su w wb S nm out)(h0:out≠[]) :
  Calls a92 33 #[pp wb] w fun e w'=>e = ah (aM out)/\jH wb w w':=by
 obtain⟨ad,buf,GH,hb,ho⟩:=h;have qF:out.length≠0:=zg;obtain⟨g,cap,cur,rfl,Zu,hg,uJ,CY,jh,Zv⟩:∃ g cap cur,buf = cM g out.length cap/\wb+1<=g/\w.heap[g]?=aN cur 5/\out.length<=cap/\cap<=maxLen/\cur.size=cap*1/\cur.toList.take (out.length*1)=uq out:=by
  rcases ho.2 with⟨_,hz⟩| ⟨g,cap,cur,hv,r⟩
  .exact yH
  .exact⟨g,cap,cur,hv,r⟩
 have nE:w.drew.heap[wb]?=aN #[ad,cM g out.length cap,S,nm] 103:=hb;have c1:w.drew.cell? ⟨wb,1,V⟩=O (cM g out.length cap):=by grind [World.cell?]
 have hSD:(Builtin.unsafeSliceData_ #[98] 181 #[cM g out.length cap]).run a92 w.drew = .ok (pp g) w.drew:=
  (by grind [Lib.run_unsafeSliceData_row])
 have hUS:(Builtin.unsafeString_ #[181,3] 9 #[pp g,zi out.length]).run a92 w.drew = .ok (aM out) (w.drew.freeze ⟨g,0,V⟩ out.length):=by
  refine Lib.run_unsafeString_row w.drew 181 3 9 5 underlying181 anj g cur.size (by have jz:w.drew.heap[g]?=aN cur 5:=hg;grind [World.shape?]) out h0 zo (by grind [maxLen]) ?_;intro j x hx;have:=ho.cells (g:=g) J j (.int .u8 x.toNat) zg;exact this
 go_enter func33,ntmps33
 go_wp2
 go_region
 all_goals (go_wp2;go_ret;exact⟨J,(bz.drew (bz.refl _ _)).trans (ank zo hg)⟩)
section
variable{p0 p1 p2 p3 p4 p5 p6 p7:Y}{w:Z}{R:Ending->Z->Prop}
def aIQ:=cz w R [p0] (gc [] [] [13]) func61
def aIR:=cz w R [p0] (gc [(1,[0])] [(2000,[18]),(3001,[])] [4,9,10,17,18]) func62
def aIS:=cz w R [p0,p1] (gc [] [(3000,[8]),(5000,[15])] [5,7,8,13,14,15,24,25]) func94
def aIT:=cz w R [p0,p1] (gd [(10,[46])] [] [] [(12,[13,0,1,2,3,4,5,6,7,8,9,10,11,12])] [] [] [12,13,19,20,26,27,47]) func32
def aIU:=cz w R [p0] (gc [] [(3001,[])] [13]) func59
def aIV:=cz w R [p0] (gc [] [] []) func30
def aIW:=cz w R [p0] (gc [(6,[25])] [] [15,26]) func24
def aIX:=cz w R [p0] (gc [] [] []) func13
end
section
variable{p0 p1 p2 p3 p4 p5 p6 p7:Y}{w:Z}{R:Ending->Z->Prop}
def aIY:=cz w R [p0,p1,p2] (gd [] [(13001,[]),(15004,[9])] [] [(7,[6,0,1,2,3,4,5]),(16,[7,0,1,2,3,4,5,6])] [] [] [10,20,28,37,47,48,49,54,79]) func31
def aIZ:=cz w R [p0,p1] (gc [(1,[1,4])] [(7000,[42]),(12008,[1])] [28,41,42,45,48]) func96
def aI0:=cy w R [p0,p1,p2] (gd [(3,[32])] [(16002,[]),(18000,[101])] [(0,9),(1,7),(5,6),(16,7)] [] [] [] [33,52,54,57,78,101,113,114]) func65
end
mutual
def dH (F:Nat->Prop) (ρ:Nat->Nat) (n:Nat) (w:Z) (v:Y):Tm->Prop
 | .atom s=>v = aj 171 (.string (bs s))
 | .int k=>v = aj 172 (.int .i64 k)
 | .var i=>i<n/\v = aj 87 (aq (O ⟨ρ i,0,V⟩))
 | .comp name args=>∃ b av vs,v = aj 175 (aq (O ⟨b,0,V⟩))/\F b/\w.heap[b]?=O (ae #[.string (bs name),av] 180 (0,0)) /\
  fD F w 89 av vs/\iG F ρ n w vs args
 termination_by structural t=>t
def iG (F:Nat->Prop) (ρ:Nat->Nat) (n:Nat) (w:Z) (vs:List Y):List Tm->Prop
 | []=>vs=[]
 | t::a=>∃ v r,vs=v::r/\dH F ρ n w v t/\iG F ρ n w r a
 termination_by structural t=>t
end
abbrev dL(ρ:Nat->Nat)(n:Nat)(w:Z)(v:Y)(t:Tm):Prop:=dH (fun _=>True) ρ n w v t
abbrev pE(ρ:Nat->Nat)(n:Nat)(w:Z)(vs:List Y)(a:List Tm):Prop:=iG (fun _=>True) ρ n w vs a
def qT(F:Nat->Prop)(w w':Z):Prop:=∀ b cs t,F b->t=180\/t=89->w.heap[b]?=aN cs t->w'.heap[b]?=aN cs t
abbrev Xd(w w':Z):Prop:=qT (fun _=>True) w w'
theorem qT.ea(h:Ext w w'):qT F w w':=fun b cs t _ _ a=>h.ext b _ a
mutual
theorem dH.mono {F F':Nat->Prop} {ρ eL:Nat->Nat} {n c:Nat} {w w':Z} (a:∀ b,F b->F' b) (d:n<=c) (e:∀ i,i<n->eL i=ρ i) (hw:qT F w w'):∀ (t:Tm) (v:Y),dH F ρ n w v t->dH F' eL c w' v t
 | .atom s,v,h=>by grind [dH]
 | .int k,v,h=>by grind [dH]
 | .var i,v,h=>by
  grind [dH]
 | .comp name args,v,h=>by
  unfold dH at h ⊢;obtain⟨b,av,vs,j,f,l,m,o⟩:=h;exact⟨b,av,vs,j,a b f,hw b _ _ f (.inl J) l,m.mono a fun b cs p q=>hw b _ _ p (.inr J) q,iG.mono a d e hw args vs o⟩
 termination_by structural t=>t
theorem iG.mono {F F':Nat->Prop} {ρ eL:Nat->Nat} {n c:Nat} {w w':Z} (a:∀ b,F b->F' b) (d:n<=c) (e:∀ i,i<n->eL i=ρ i) (hw:qT F w w'):∀ (g:List Tm) (vs:List Y),iG F ρ n w vs g->iG F' eL c w' vs g
 | [],vs,h=>by grind [iG]
 | t::g,vs,h=>by
  unfold iG at h ⊢;obtain⟨v,r,j,f,l⟩:=h;exact⟨v,r,j,dH.mono a d e hw t v f,iG.mono a d e hw g r l⟩
 termination_by structural t=>t
end
theorem dH.bI(h:dH F ρ n w v t)(hw:qT F w w'):dH F ρ n w' v t:=dH.mono zg zo zg hw t v h
theorem iG.bI{t:List Tm}{v:List Y}(h:iG F ρ n w v t)(hw:qT F w w'):iG F ρ n w' v t:=iG.mono zg zo zg hw t v h
theorem dH.toT(h:dH F ρ n w v t):dL ρ n w v t:=dH.mono zg zo zg (fun _ _ _ _ _ h=>h) t v h
theorem iG.toT{t:List Tm}{v:List Y}(h:iG F ρ n w v t):pE ρ n w v t:=iG.mono zg zo zg (fun _ _ _ _ _ h=>h) t v h
def iG.snoc{F:Nat->Prop}{ρ:Nat->Nat}{n:Nat}{w:Z}{v:Y}{x:Tm}(hx:dH F ρ n w v x):∀ {xs:List Tm} {vs:List Y},iG F ρ n w vs xs->iG F ρ n w (vs++[v]) (xs++[x])
 | [],vs,h=>by
  unfold iG at h;subst h;show iG F ρ n w [v] [x];unfold iG;exact⟨v,[],J,hx,by unfold iG;rfl⟩
 | y::a,vs,h=>by
  unfold iG at h;obtain⟨u,r,rfl,b,c⟩:=h;show iG F ρ n w (u::(r++[v])) (y::(a++[x]));unfold iG;exact⟨u,r++[v],J,b,iG.snoc hx c⟩
def iG.length{F:Nat->Prop}{ρ:Nat->Nat}{n:Nat}{w:Z}:∀ {xs:List Tm} {vs:List Y},iG F ρ n w vs xs->vs.length=xs.length
 | [],vs,h=>by unfold iG at h;subst h;rfl
 | y::b,vs,h=>by
  unfold iG at h;obtain⟨u,r,rfl,c,a⟩:=h;simp [iG.length a]
theorem iG.at{F:Nat->Prop}{ρ:Nat->Nat}{n:Nat}{w:Z}:∀ {xs:List Tm} {vs:List Y} (j:Nat) (a:j<xs.length),iG F ρ n w vs xs->∃ v,vs[j]?=O v/\dH F ρ n w v xs[j]
 | x::xs,vs,0,_,h=>by
  unfold iG at h;grind
 | x::xs,vs,j+1,a,h=>by
  unfold iG at h;obtain⟨u,r,rfl,c,b⟩:=h;simpa using iG.at j zg b
def dH.iface{F:Nat->Prop}{ρ:Nat->Nat}{n:Nat}{w:Z}{v:Y}:∀ {t:Tm},dH F ρ n w v t->∃ u x,v = aj u x
 | .atom s,h=>by unfold dH at h;exact⟨_,_,h⟩
 | .int s,h=>by unfold dH at h;exact⟨_,_,h⟩
 | .var s,h=>by unfold dH at h;exact⟨_,_,h.2⟩
 | .comp s l,h=>by unfold dH at h;obtain⟨b,av,vs,h,-⟩:=h;exact⟨_,_,h⟩
structure Ck(ρ:Nat->Nat)(n:Nat)(tr:Tr)(w:Z):Prop where
 inj:∀ i j,i<n->j<n->ρ i=ρ j->i=j
 var:∀ i,i<n->∃ ref,w.heap[ρ i]?=O (ae #[ref] 91)/\(match P.look i tr with | none=>ref = ai | some t=>dL ρ n w ref t)
def GI(w w':Z):Prop:=∀ (b:Nat) (cs:Array Y) (t:Nat),t=180\/t=89\/t=91->w.heap[b]?=aN cs t->w'.heap[b]?=aN cs t
theorem GI.toT(h:GI w w'):Xd w w':=fun b cs t _ ht=>h b cs t zg
theorem GI.ea(h:Ext w w'):GI w w':=fun b cs t _ a=>h.ext b _ a
theorem Ck.bI{ρ:Nat->Nat}{n:Nat}{tr:Tr}{w w':Z}(h:Ck ρ n tr w)(hk:GI w w'):Ck ρ n tr w':=
 ⟨h.inj,fun i a=>by
  obtain⟨ref,b,c⟩:=h.var i a;refine⟨ref,hk _ _ _ zg b,?_⟩;grind [dH.bI,GI.toT]⟩
def GJ{j:Tm}(h:Ck ρ n tr w)(hv:dL ρ n w v t)(hw:fA tr f t=O j) :
  Calls a92 62 #[v] w fun e w'=>w'=w/\∃ u,e = ah u/\dL ρ n w u j:=by
 refine aIR ?_;refine⟨fun m s w1=>w1=w/\∃ t1,dL ρ n w (s 0) t1/\fA tr m t1=O j,⟨f,J,t,hv,hw⟩,?_⟩;intro m s d w1 q;refine toPr ?_;obtain⟨rfl,t1,c,k⟩:=q;by_cases r:∃ i,t1 = .var i
 .obtain⟨i,rfl⟩:=r;unfold dH at c;obtain⟨y,g⟩:=c;obtain⟨ref,g1,g2⟩:=h.var i y;cases o:P.look i tr with
  | none=>
   rw[o] at g2;have g2:ref = ai:=g2;subst g2;have ht:j = .var i:=by
    grind [fA]
   refine cG g ?_;refine⟨fun _ _=>False,?_,by rintro _ _ h;exact h.elim⟩;refine⟨fun x w'=>w'=w1/\x 18 = .bool A,?_,?_⟩
   .simp (disch:=first|assumption|omega|simp only[zS]<;>omega|decide) only[zB,simprocAttr,lh,g1,jg]
   .rintro x w' ⟨rfl,hx⟩ d2;refine cG hx ?_;rw[ht];unfold dH;grind
  | some t2=>
   rw[o] at g2;have g2:dL ρ n w1 ref t2:=g2;obtain⟨u,x,p⟩:=g2.iface;cases m with
   | zero=>simp [fA,o] at k
   | succ m=>
   simp [fA,o] at k;subst p;refine cG g ?_;refine⟨fun _ w'=>w'=w1,?_,?_⟩
   .refine⟨fun x w'=>w'=w1/\x 18 = .bool G,?_,?_⟩
    .simp (disch:=first|assumption|omega|simp only[zS]<;>omega|decide) only[zB,simprocAttr,lh,g1,jg]
    .rintro x w' ⟨rfl,hx⟩ d2;exact fg hx
   .rintro x w' rfl d2;refine cG @g1 ?_;grind
 .have ht:t1=j:=by
   cases m<;>cases t1<;>simp [fA] at k<;>first | exact k | exact zg
  have g:∃ u x,s 0 = aj u x/\¬ u=87:=by
   cases t1 with
   | atom a=>unfold dH at c;exact⟨_,_,c,zd⟩
   | int a=>unfold dH at c;exact⟨_,_,c,zd⟩
   | var a=>grind
   | comp a l=>unfold dH at c;obtain⟨b,av,vs,c,-⟩:=c;exact⟨_,_,c,zd⟩
  obtain⟨u,x,g,hu⟩:=g;refine dy g hu ?_;refine⟨fun _ _=>False,?_,by rintro _ _ h;exact h.elim⟩;refine⟨fun x w'=>w'=w1/\x 18 = .bool A,?_,?_⟩
  .simp (disch:=first|assumption|omega|simp only[zS]<;>omega|decide) only[zB,simprocAttr,lh,jg]
  .rintro z w' ⟨rfl,hx⟩ d2;refine cG hx ?_;grind
