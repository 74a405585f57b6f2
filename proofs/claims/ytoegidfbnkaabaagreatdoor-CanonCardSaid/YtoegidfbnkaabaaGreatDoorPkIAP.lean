/- A part of one proof (PureA, PureC, PureC2, PureRd, PureLv, PureAe, PureTo, PureKc, PureKe, ShB1, PureD). -/
import Derived.Test.YtoegidfbnkaabaaGreatDoorPkIAO
set_option linter.all false
set_option maxRecDepth 100000
set_option maxHeartbeats 8000000
open Option renaming some → O, none → V
open Go renaming Value → Y, World → Z
open Bool renaming true → A, false → G
open Go.Ending renaming returned → ah
open Go.Value renaming nilIface → ai
open Option.some renaming injEq → a07, inj → a1b
open Nat renaming le_trans → a1d
open List renaming mem_cons → a1g, mem_cons_self → a1j, not_mem_nil → a1l, mem_append → a1o, range → a1t, getD_eq_getElem?_getD → a1y, cons_append → a1B, append_assoc → a1E, mem_cons_of_mem → a1U, mem_of_getLast? → a2v, flatten_cons → a3j, takeWhile_cons_of_pos → a3R, find? → a5C
open Bool renaming false_eq_true → a1F
open Go.Proofs.Tryz renaming prog → bbj
namespace Go.Proofs.YtoegidfbnkaabaaGreatDoor
variable{b d f g k k' n nv:Nat}{tv vv:Y}
namespace P
mutual
def lz:Tm->Nat
 | .atom _=>1
 | .int _=>1
 | .var _=>1
 | .comp _ args=>tI args+1
 termination_by structural t=>t
def tI:List Tm->Nat
 | []=>0
 | t::ts=>lz t+tI ts
 termination_by structural t=>t
end
mutual
theorem XZ {nv:Nat} (vs:List Nat):∀ (x:Ex),gR nv x->lz (made vs x)=gy x
 | .mk kind name n k args,h=>by
  unfold gR at h;obtain⟨b,c,d,e,f,g,i,a⟩:=h;unfold made;have j:kind≠99->fB args=0:=fun h=>by simp_all [fB]
  split
  .simp_all [lz,gy]
  .split
   .simp_all [lz,gy]
   .split
    .simp_all [lz,gy]
    .simp [lz,gy,anS vs args a]
 termination_by structural x=>x
theorem anS {nv:Nat} (vs:List Nat):∀ (l:List Ex),fi nv l->tI (km vs l)=fB l
 | [],_=>by simp [km,tI,fB]
 | x::xs,h=>by
  unfold fi at h;simp [km,tI,fB,XZ vs x h.1,anS vs xs h.2]
 termination_by structural x=>x
end
theorem Lm:∀ (f:Nat) (t:Tm),fE [] f t=O t
 | 0,t=>by cases t<;>simp [fE,look]
 | f+1,t=>by cases t<;>simp [fE,look]
theorem X0:∀ (t:Tm),0<lz t
 | .atom _=>by simp [lz]
 | .int _=>by simp [lz]
 | .var _=>by simp [lz]
 | .comp _ _=>by simp [lz]
def Ob{x:Option (Option Ws)}{k:Ws->Option (Option Ws)}{s:Ws}(h:x=O (O s)):Wb x k=k s:=by rw[h];rfl
def anT(s:Ws)(i:Nat):(AO s i).fuel=s.fuel:=by
 unfold AO;split<;>rfl
structure aIW(f:Nat):Prop where
 tm:∀ t least s,4*lz t<=f->lz t<=s.fuel->∃ r,ix [] f t least s=O (O r)/\s.fuel<=r.fuel+lz t/\r.fuel<=s.fuel
 comp:∀ name args least s,4*tI args+3<=f->tI args<=s.fuel->∃ r,rB [] f name args least s=O (O r)/\s.fuel<=r.fuel+tI args/\r.fuel<=s.fuel
 args:∀ c l s,4*tI l+1<=f->tI l<=s.fuel->∃ r,kX [] f c l s=O (O r)/\s.fuel<=r.fuel+tI l/\r.fuel<=s.fuel
 list:∀ c a b s,4*(lz a+lz b)+1<=f->lz a+lz b<=s.fuel->∃ r,oZ [] f c a b s=O (O r)/\s.fuel<=r.fuel+(lz a+lz b)/\r.fuel<=s.fuel
def anU:∀ f,aIW f
 | 0=>⟨fun t _ _ h _=>by grind [X0],fun _ _ _ _ h _=>zo,fun _ _ _ h _=>zo,fun _ a _ _ h _=>zo⟩
 | f+1=>by
  have ih:=anU f;refine⟨?_,?_,?_,?_⟩
  .intro t least s p n;have w:=X0 t;rw[ix,bI zo,Lm];cases t with
   | atom a=>exact⟨_,J,by simp [Ws.add,lz];omega,by simp [Ws.add]⟩
   | int a=>exact⟨_,J,by simp [Ws.add,lz];omega,by simp [Ws.add]⟩
   | var a=>exact⟨_,J,by rw[anT];simp [lz];omega,by rw[anT];simp⟩
   | comp name args=>
    simp only[lz] at p n ⊢;obtain⟨r,i,j,k⟩:=ih.comp name args least { s with fuel:=s.fuel-1 } zo zg;grind
  .intro name args least s p n;have D:∀ l,tI l<=s.fuel->4*tI l+1<=f->∃ r,Wb (kX [] f 40 l (s.add name)) (fun s=>O (O (s.add [41])))=O (O r)/\s.fuel<=r.fuel+tI l/\r.fuel<=s.fuel:=by
    intro l i j;obtain⟨r,k,o,m⟩:=ih.args 40 l (s.add name) j i;rw[Ob k];exact⟨_,J,o,m⟩
   rw[rB.eq_def];dsimp only;split
   .rename_i a b;have e:tI [a,b]=lz a+lz b:=by simp [tI]
    rw[e] at p n ⊢;split
    .split
     .obtain⟨d,i,j,k⟩:=ih.tm a (iK name 2) (s.add [40]) zo (by show _<=s.fuel;omega);have z:s.fuel<=d.fuel+lz a:=j;have B:d.fuel<=s.fuel:=k;rw[Ob i];obtain⟨g,o,m,q⟩:=ih.tm b (iK name 2+1) (d.add (if name=[109,111,100] then [32,109,111,100,32] else name)) zo (by show _<=d.fuel;omega);have C:d.fuel<=g.fuel+lz b:=m;have u:g.fuel<=d.fuel:=q;rw[Ob o];exact⟨_,J,by show _<=g.fuel+_;omega,by show g.fuel<=_;omega⟩
     .obtain⟨d,i,j,k⟩:=ih.tm a (iK name 2) s zo zo;rw[Ob i];obtain⟨g,o,m,q⟩:=ih.tm b (iK name 2+1) (d.add (if name=[109,111,100] then [32,109,111,100,32] else name)) zo (by show _<=d.fuel;omega);have C:d.fuel<=g.fuel+lz b:=m;have u:g.fuel<=d.fuel:=q;grind
    .split
     .exact ih.list 91 a b s zo n
     grind
   grind
  .intro c l s p n;cases l with
   | nil=>simp_all [kX,tI,Nat.le_refl]
   | cons a l=>
    simp only[tI] at p n ⊢;have w:=X0 a;rw[kX];obtain⟨d,i,j,k⟩:=ih.tm a 0 (s.add [c]) zo (by show _<=s.fuel;omega);have z:s.fuel<=d.fuel+lz a:=j;have B:d.fuel<=s.fuel:=k;rw[Ob i];obtain⟨g,o,m,q⟩:=ih.args 44 l d zo zo;grind
  .intro c a b s p n;have w:=X0 b;rw[oZ];obtain⟨d,i,j,k⟩:=ih.tm a 0 (s.add [c]) zo (by show _<=s.fuel;omega);have z:s.fuel<=d.fuel+lz a:=j;have B:d.fuel<=s.fuel:=k;rw[Ob i,Lm];have E:∃ r,Wb (ix [] f b 0 (d.add [124])) (fun s=>O (O (s.add [93])))=O (O r)/\s.fuel<=r.fuel+(lz a+lz b)/\r.fuel<=s.fuel:=by
    obtain⟨g,o,m,q⟩:=ih.tm b 0 (d.add [124]) zo (by show _<=d.fuel;omega);have C:d.fuel<=g.fuel+lz b:=m;have u:g.fuel<=d.fuel:=q;rw[Ob o];exact⟨_,J,by show _<=g.fuel+_;omega,by show g.fuel<=_;omega⟩
   split
   .grind
   .rename_i name args he;simp only[a07] at he;subst he;split
    .rename_i x y;split
     .simp only[lz,tI] at p n ⊢;obtain⟨g,o,m,q⟩:=ih.list 44 x y d zo zo;grind
     omega
    omega
   .rename_i x he;split
    .exact⟨_,J,by show _<=d.fuel+_;omega,by show d.fuel<=_;omega⟩
    omega
   omega
structure NeW(tr:Tr)(f:Nat):Prop where
 tm:∀ t least s r,eu t->ix tr f t least s=O (O r)->s.out.length<r.out.length
 comp:∀ name args least s r,jy args->rB tr f name args least s=O (O r)->s.out.length<r.out.length
 args:∀ c l s r,jy l->kX tr f c l s=O (O r)->s.out.length<=r.out.length
 list:∀ c a b s r,eu a->eu b->oZ tr f c a b s=O (O r)->s.out.length<r.out.length
theorem Hm(s:Ws)(x:Bs):(s.add x).out.length=s.out.length+x.length:=by simp [Ws.add]
theorem aeg(n:Nat):0<(fc n).length:=by
 grind [fc,BM]
theorem anV(n:Int):0<(kN n).length:=by
 grind [kN,aeg]
def neW{tr:Tr}(ht:ng tr):∀ f,NeW tr f
 | 0=>⟨fun _ _ _ _ _ h=>by simp_all [ix],fun _ _ _ _ _ _ h=>by simp_all [rB],fun _ _ _ _ _ h=>by simp_all [kX],fun _ _ _ _ _ _ _ h=>by simp_all [oZ]⟩
 | f+1=>by
  have ih:=neW ht f;refine⟨?_,?_,?_,?_⟩
  .intro t least s r g h;rw[ix] at h;split at h
   .grind
   split at h
   .grind
   .rename_i a hw;have:=tY ht g hw;grind [a07,eu,Hm,List.length_pos_iff]
   .grind [a07,Hm,anV]
   .grind [a07,AO,Hm]
   .rename_i name args hw;have d:=tY ht g hw;unfold eu at d;exact ih.comp name args least { s with fuel:=s.fuel-1 } r d.2.2 h
  .intro name args least s r j h;have z:∀ l,jy l->Wb (kX tr f 40 l (s.add name)) (fun s=>O (O (s.add [41])))=O (O r)->s.out.length<r.out.length:=by
    intro l p h;obtain⟨s1,d,e⟩:=oI h;have i:=ih.args 40 l _ s1 p d;grind [a07,Hm]
   rw[rB.eq_def] at h;dsimp only at h;split at h
   .rename_i a b;obtain⟨k,m⟩:=Jb j;split at h
    .split at h
     .obtain⟨s1,d,e⟩:=oI h;obtain⟨s2,i,q⟩:=oI e;have g1:=ih.tm a _ _ s1 k d;have g2:=ih.tm b _ _ s2 m i;grind [a07,Hm]
     .obtain⟨s1,d,e⟩:=oI h;have g1:=ih.tm a _ _ s1 k d;have g2:=ih.tm b _ _ r m e;grind [Hm]
    .split at h
     .exact ih.list 91 a b s r k m h
     grind
   grind
  .intro c l s r g h;cases l with
   | nil=>
    simp_all [kX,a07,Nat.le_refl]
   | cons a l=>
    rw[kX] at h;unfold jy at g;obtain⟨s1,d,e⟩:=oI h;have g1:=ih.tm a _ _ s1 g.1 d;have g3:=ih.args 44 l s1 r g.2 e;grind [Hm]
  .intro c a b s r j n h;rw[oZ] at h;obtain⟨s1,d,e⟩:=oI h;have g1:=ih.tm a _ _ s1 j d;rw[Hm] at g1;have B:Wb (ix tr f b 0 (s1.add [124])) (fun s=>O (O (s.add [93])))=O (O r)->s.out.length<r.out.length:=by
    intro h;obtain⟨s2,i,q⟩:=oI h;have g3:=ih.tm b _ _ s2 n i;grind [Hm,a07]
   split at e
   .grind
   .rename_i name args hw;have o:=tY ht n hw;unfold eu at o;split at e
    .rename_i x y;obtain⟨u,w⟩:=Jb o.2.2;split at e
     .have:=ih.list 44 x y s1 r u w e;omega
     grind
    grind
   .grind [a07,Hm]
   grind
def xD(nv:Nat)(x:Ex):Ws:=match ix [] (4*gy x) (made (a1t nv) x) 0 ⟨1000000,[],[]⟩with
 | some (O s)=>s
 | _=>⟨0,[],[]⟩
def aeh{x:Ex}(h:gR nv x)(b:gy x<=1000000):ix [] (4*gy x) (made (a1t nv) x) 0 ⟨1000000,[],[]⟩=O (O (xD nv x))/\(xD nv x).out≠[]:=by
 have c:=XZ (a1t nv) x h;obtain⟨r,a,-⟩:=(anU (4*gy x)).tm (made (a1t nv) x) 0 ⟨1000000,[],[]⟩ zo zg;have d:=(neW (tr:=[]) trivial _).tm _ _ _ _ (Tz _ x h) a;grind [xD]
inductive Item where
 | wd (s:Bs)
 | sg (s:Bs)
 | md
def Item.text:Item->Bs
 | .wd s=>s
 | .sg s=>s
 | .md=>[32,109,111,100,32]
def nk(l:List Item):Bs:=(l.map Item.text).flatten
def Item.tok:Item->Nat->Tok
 | .wd s,p=>⟨jH s,s,p⟩
 | .sg s,p=>⟨4,s,p⟩
 | .md,p=>⟨1,[109,111,100],p+1⟩
def Ln:List Item->Nat->List Tok
 | [],p=>[⟨0,[],p⟩]
 | i::r,p=>i.tok p::Ln r (p+i.text.length)
def BT:List Bs:=[[40],[41],[91],[93],[44],[124],[43],[45],[42],[47,47]]
def vR(s:Bs):Prop:=jH s≠0/\∀ c∈s,cls c≠0
def Item.ok:Item->Prop
 | .wd s=>vR s
 | .sg s=>s∈BT
 | .md=>True
def Item.Ez:Item->Bool
 | .wd _=>A
 | _=>G
def sep:Bool->List Item->Prop
 | _,[]=>True
 | p,i::r=>¬ (p=A/\i.Ez=A)/\sep i.Ez r
def sep.aau{l:List Item}{p:Bool}(h:sep p l):sep G l:=by
 cases l with
 | nil=>trivial
 | cons i r=>exact⟨zs,h.2⟩
def sep.cut{i:Item}(c:i.Ez=G){b:List Item}(d:sep G b):∀ {a:List Item} {p:Bool},sep p a->sep p (a++i::b)
 | [],p,_=>⟨zg,zg⟩
 | j::a,p,h=>⟨h.1,sep.cut c d h.2⟩
def aIY(a b:List Item):nk (a++b)=nk a++nk b:=by simp [nk]
def Lo(i:Item)(b:List Item):nk (i::b)=i.text++nk b:=by simp [nk]
def aIZ:∀ {l:List Item},(∀ i∈l,i.ok)->sep A l->∀ c,(nk l).head?=O c->cls c=0
 | [],_,_,c,h=>by simp_all [nk]
 | .wd s::r,_,a,c,h=>absurd ⟨J,J⟩ a.1
 | .sg s::r,d,a,c,h=>by
  have b:s∈BT:=d _ (a1j ..);simp only[BT,a1g,a1l,or_false] at b;rw[Lo] at h;rcases b with rfl | rfl | rfl | rfl | rfl | rfl | rfl | rfl | rfl | rfl<;>(simp [Item.text] at h;subst h;decide)
 | .md::r,_,_,c,h=>by
  rw[Lo] at h;simp [Item.text] at h;subst h;decide
def aI0:∀ {l:List Item},(∀ i∈l,i.ok)->(nk l).head?≠O 62
 | [],_=>by simp [nk]
 | .wd s::r,a=>by
  obtain⟨d,e⟩:vR s:=a _ (a1j ..);rw[Lo];cases s with
  | nil=>exact absurd J d
  | cons c s=>
   intro h;simp [Item.text] at h;exact e c (a1j ..) (by rw[h];decide)
 | .sg s::r,a=>by
  have b:s∈BT:=a _ (a1j ..);simp only[BT,a1g,a1l,or_false] at b;rw[Lo];rcases b with rfl | rfl | rfl | rfl | rfl | rfl | rfl | rfl | rfl | rfl<;>simp [Item.text]
 | .md::r,_=>by simp_all [Lo,Item.text]
def aI1{s rest:Bs}(a:s∈BT)(hr:rest.head?≠O 62):nP.find? (fun x=>x.isPrefixOf (s++rest))=O s:=by
 simp only[BT,a1g,a1l,or_false] at a;rcases a with rfl | rfl | rfl | rfl | rfl | rfl | rfl | rfl | rfl | rfl<;>cases rest with
  | nil=>decide
  | cons d r=>
   have:¬ d=62:=zg;have:¬ 62=d:=zg;have b:(62 == d)=false:=by simpa using this
   simp [nP,a5C,List.isPrefixOf,b]
def X1:∀ (l:List Item) (b:Bool) (p f:Nat),(∀ i∈l,i.ok)->sep b l->(nk l).length<f->lB f (nk l) p=O (.inr (Ln l p))
 | [],b,p,f,_,_,h=>by
  cases f with
  | zero=>omega
  | succ f=>rfl
 | .wd s::l,b,p,f,j,m,h=>by
  obtain⟨g1,g2⟩:vR s:=j _ (a1j ..);have k:∀ i∈l,i.ok:=fun i n=>j i (a1U _ n);rw[Lo] at h ⊢;simp only[Item.text] at h ⊢;cases s with
  | nil=>exact absurd J g1
  | cons c s=>
  cases f with
  | zero=>omega
  | succ f=>
  have o:=g2 c (a1j ..);have t:blank c=false:=by
   unfold blank;simp only[Bool.or_eq_false_iff,beq_eq_false_iff_ne,ne_eq];exact⟨fun e=>o (by rw[e];decide),fun e=>o (by rw[e];decide)⟩
  have q:(c::(s++nk l)).takeWhile (fun x=>decide (cls x≠0))=c::s:=by
   rw[show c::(s++nk l)=(c::s)++nk l from J,List.takeWhile_append_of_pos (fun a B=>zg)];have:(nk l).takeWhile (fun x=>decide (cls x≠0))=[]:=by
    cases C:nk l with
    | nil=>rfl
    | cons d r=>
     have:=aIZ k m.2 d zg;simp_all
   grind
  rw[a1B,lB];simp only[t,o,q,g1,ne_eq,not_false_eq_true,↓reduceIte,a1F];rw[show(c::(s++nk l)).drop (c::s).length=nk l by simp];rw[X1 l A (p+(c::s).length) f k m.2 zg];rfl
 | .sg s::l,b,p,f,j,m,h=>by
  have u:s∈BT:=j _ (a1j ..);have k:∀ i∈l,i.ok:=fun i n=>j i (a1U _ n);rw[Lo] at h ⊢;simp only[Item.text] at h ⊢;have w:=aI1 u (aI0 k);have y:∃ c r,s=c::r/\blank c=G/\cls c=0/\c≠46:=by
   simp only[BT,a1g,a1l,or_false] at u;rcases u with rfl | rfl | rfl | rfl | rfl | rfl | rfl | rfl | rfl | rfl<;>exact⟨_,_,J,zd,zd,zd⟩
  obtain⟨c,r,rfl,t,o,z⟩:=y;cases f with
  | zero=>omega
  | succ f=>
  rw[a1B] at w ⊢;rw[lB];simp only[t,o,z,w,ne_eq,not_true_eq_false,↓reduceIte,a1F,false_and];rw[show(c::(r++nk l)).drop (c::r).length=nk l by simp];rw[X1 l G (p+(c::r).length) f k m.2 zg];rfl
 | .md::l,b,p,f,j,m,h=>by
  have k:∀ i∈l,i.ok:=fun i n=>j i (a1U _ n);rw[Lo] at h ⊢;simp only[Item.text] at h ⊢;obtain⟨g,rfl⟩:∃ g,f=g+3:=⟨f-3,zg⟩;simp only[a1B,List.nil_append];rw[lB];simp only[show blank 32=A by decide,↓reduceIte];rw[lB];simp only[show blank 109=G by decide,show cls 109≠0 by decide,ne_eq,not_false_eq_true,↓reduceIte,a1F];have q:(109::111::100::32::nk l).takeWhile (fun x=>decide (cls x≠0))=[109,111,100]:=by
   rw[a3R zd,a3R zd,a3R zd,List.takeWhile_cons_of_neg zd]
  simp only[ne_eq] at q;simp only[q,show ¬ jH [109,111,100]=0 by decide,↓reduceIte,List.length_cons,List.length_nil,List.drop_succ_cons,List.drop_zero];rw[lB];simp only[show blank 32=A by decide,↓reduceIte];rw[X1 l G (p+1+3+1) g k m.2 zg];rfl
def At(T:List Tok):Nat->List Item->Prop
 | _,[]=>True
 | k,i::r=>((tk T k).kind=(i.tok 0).kind/\(tk T k).text=(i.tok 0).text)/\At T (k+1) r
def At.append{T:List Tok}:∀ {a b:List Item} {k:Nat},At T k (a++b)↔At T k a/\At T (k+a.length) b
 | [],b,k=>by simp [At]
 | i::a,b,k=>by
  rw[a1B,At,At,At.append (a:=a),List.length_cons,show k+(a.length+1)=k+1+a.length by omega];grind
theorem At.of{T:List Tok}:∀ {l:List Item} {k p:Nat},T.drop k=Ln l p->At T k l/\(tk T (k+l.length)).kind=0
 | [],k,p,h=>by
  refine⟨trivial,?_⟩;have:T[k]?=O ⟨0,[],p⟩:=by rw[<- List.head?_drop,h];rfl
  simp_all [tk,a1y]
 | i::l,k,p,h=>by
  have a:T[k]?=O (i.tok p):=by rw[<- List.head?_drop,h];rfl
  have b:T.drop (k+1)=Ln l (p+i.text.length):=by rw[<- List.tail_drop,h];rfl
  obtain⟨g1,g2⟩:=At.of b;refine⟨⟨?_,g1⟩,zg⟩;simp only[tk,a1y,a,Option.getD_some];cases i<;>exact⟨J,J⟩
def At.s{T:List Tok}{k:Nat}{s:Bs}{r:List Item}(h:At T k (.sg s::r))(x:Bs):dQ T k x=(s == x)/\(tk T k).kind=4:=by
 obtain⟨⟨a,b⟩,-⟩:=h;simp_all [Item.tok,dQ]
def At.m{T:List Tok}{r:List Item}(h:At T k (.md::r))(x:Bs):dQ T k x=(([109,111,100]:Bs) == x):=by
 obtain⟨⟨a,b⟩,-⟩:=h;simp_all [Item.tok,dQ]
def At.w{T:List Tok}{s:Bs}{r:List Item}(h:At T k (.wd s::r)):(tk T k).kind=jH s/\(tk T k).text=s:=h.1
def At.tail{T:List Tok}{i:Item}{r:List Item}(h:At T k (i::r)):At T (k+1) r:=h.2
section
theorem X2(h:n<10):(UInt8.ofNat (48+n)).toNat=48+n:=by
 grind [UInt8.toNat_ofNat']
def Lp:∀ (f n:Nat),∀ c∈BM f n,digit c=A
 | 0,n,c,h=>by cases h
 | f+1,n,c,h=>by
  rw[BM] at h;split at h
  .rename_i a;simp only[a1g,a1l,or_false] at h;subst h;simp only[digit,decide_eq_true_eq,X2 a];omega
  .rw[a1o] at h;rcases h with h | h
   .exact Lp f _ c h
   .simp only[a1g,a1l,or_false] at h;subst h;have:=Nat.mod_lt n (show 10 > 0 by omega);simp only[digit,decide_eq_true_eq,X2 this];omega
theorem aei:∀ (f n:Nat),n<f->num (BM f n)=n
 | 0,n,h=>zo
 | f+1,n,h=>by
  rw[BM];split
  .grind [num,X2]
  .have hm:=Nat.mod_lt n (show 10 > 0 by omega);rw[aiV,aei f (n / 10) zo,X2 hm];omega
def X3:∀ (f n:Nat),n<f->∃ c r,BM f n=c::r/\(c≠48\/r=[])
 | 0,n,h=>zo
 | f+1,n,h=>by
  rw[BM];split
  .grind
  .rename_i b;obtain⟨c,r,d,a⟩:=X3 f (n / 10) zo;refine⟨c,r++[UInt8.ofNat (48+n % 10)],zg,.inl fun e=>?_⟩;rcases a with a | a
   .grind
   .subst e a;grind [aei,num]
theorem Qn(n:Nat):num (fc n)=n:=aei _ _ zo
theorem anX{a:Nat}(h:fc a=fc b):a=b:=by
 grind [Qn]
def aej{c:UInt8}(h:digit c=A):cls c=100:=by
 simp only[digit,decide_eq_true_eq] at h;unfold cls;grind
def anY(h:n<=999999999):jH (fc n)=3/\vR (fc n):=by
 have a:=Lp (n+1) n;obtain⟨c,r,d,e⟩:=X3 (n+1) n zo;have f:=Ty n 8 zo (n+1) zo;have g:cls c=100:=aej (a c zg);have b:jH (fc n)=3:=by
  simp_all [fc,jH,bI,zip,List.all_eq_true]
 exact⟨b,zo,fun x hx=>by rw[aej (a x hx)];omega⟩
theorem TO(h:k<12):jH (95::fc (k+1))=2/\vR (95::fc (k+1)):=by
 have a:=Lp (k+2) (k+1);have c:(fc (k+1)).length<=2:=Ty (k+1) 1 zo (k+2) zo;have b:jH (95::fc (k+1))=2:=by
  unfold jH;have:cls 95=99:=zd;grind
 refine⟨b,zo,fun x hx=>?_⟩;rcases a1g.1 hx with rfl | hx
 .decide
 .rw[aej (a x hx)];omega
def names(n:Nat):List Bs:=(a1t n).map fun i=>95::fc (i+1)
theorem aek(n:Nat):(names n).length=n:=by simp [names]
theorem anZ(n:Nat):names (n+1)=names n++[95::fc (n+1)]:=by simp [names,List.range_succ]
def aI2:(names n).idxOf? (95::fc (k+1))=if k<n then O k else none:=by
 induction n with
 | zero=>simp [names]
 | succ n ih=>
  rw[anZ,List.idxOf?,List.findIdx?_append];rw[List.idxOf?] at ih;rw[ih];by_cases a:k<n
  .grind
  .rw[bI a];by_cases b:k=n
   .simp_all [zip,List.findIdx?_cons,aek]
   .rw[bI zo];grind [fc,anX]
mutual
def lT (S:List Nat):Tm->Tm
 | .atom s=>.atom s
 | .int n=>.int n
 | .var i=>.var (S.idxOf i)
 | .comp name args=>.comp name (oK S args)
 termination_by structural t=>t
def oK (S:List Nat):List Tm->List Tm
 | []=>[]
 | t::r=>lT S t::oK S r
 termination_by structural t=>t
end
def E4{α:Type}(r:cd α):Prop:=∃ a,r = .err 4 a
section
variable(S:List Nat)
def C2(I:List Item)(s0 s1:List Nat)(t:Tm):Prop:=∀ (T:List Tok) (k d f:Nat) (r:cd Ex),At T k I->dQ T (k+I.length) [40]=G->lC T f k (names s0.length) d=O r ->
 E4 r\/∃ x,r = .ok x (k+I.length) (names s1.length)/\made (a1t S.length) x=lT S t
def C1(I:List Item)(s0 s1:List Nat)(t:Tm):Prop:=∀ (T:List Tok) (k d f:Nat) (r:cd Ex),At T k I->dQ T (k+I.length) [40]=G->gW T f 1 k (names s0.length) d=O r ->
 E4 r\/∃ x g,mS T g 1 x (k+I.length) (names s1.length) d=O r/\made (a1t S.length) x=lT S t
def C0(I:List Item)(s0 s1:List Nat)(t:Tm):Prop:=∀ (T:List Tok) (k d f:Nat) (r:cd Ex),At T k I->dQ T (k+I.length) [40]=G->pz T 1 (k+I.length)=V->gW T f 0 k (names s0.length) d=O r ->
 E4 r\/∃ x g,mS T g 0 x (k+I.length) (names s1.length) d=O r/\made (a1t S.length) x=lT S t
end
variable{S:List Nat}{I:List Item}{s0 s1 s2:List Nat}{t:Tm}{T:List Tok}
def Jo{α β:Type}{x:Option (cd α)}{g:α->Nat->List Bs->Option (cd β)}{r:cd β}(h:cd.bind x g=O r):(∃ e a,x=O (.err e a)/\r = .err e a)\/∃ a k v,x=O (.ok a k v)/\g a k v=O r:=by
 cases x with
 | none=>cases h
 | some q=>cases q with
  | err e a=>exact .inl ⟨e,a,J,(a1b h).symm⟩
  | ok a k v=>exact .inr ⟨a,k,v,J,h⟩
theorem E4.err{α β:Type}{e a:Nat}(h:E4 (.err e a:cd α)):E4 (.err e a:cd β):=by
 obtain⟨b,h⟩:=h;injection h with c d;subst c d;exact⟨_,J⟩
theorem Jp{α:Type}{x:α}{v:List Bs}(h:E4 (.ok x k v)):False:=by obtain⟨a,h⟩:=h;grind
theorem C2.up(h:C2 S I s0 s1 t):C1 S I s0 s1 t:=by
 intro T k d f r g i hr;cases f with
 | zero=>cases hr
 | succ f=>
 rw[gW,bI zo] at hr;rcases Jo hr with⟨e,a,b,rfl⟩| ⟨x,k',v',b,hr⟩
 .cases f with
  | zero=>cases b
  | succ f=>
  rw[gW,zip rfl] at b;rcases h T k d f _ g i b with c | ⟨x,c,-⟩<;>grind
 .cases f with
  | zero=>cases b
  | succ f=>
  rw[gW,zip rfl] at b;rcases h T k d f _ g i b with c | ⟨x,c,j⟩
  .grind [Jp]
  grind
theorem TP{l:Nat}{x:Ex}{v:List Bs}{r:cd Ex}(a:pz T l k=V)(h:mS T g l x k v d=O r):r = .ok x k v:=by
 cases g with
 | zero=>cases h
 | succ g=>
  rw[mS,a] at h;exact(a1b h).symm
theorem C1.up(h:C1 S I s0 s1 t):C0 S I s0 s1 t:=by
 intro T k d f r i j l hr;cases f with
 | zero=>cases hr
 | succ f=>
 rw[gW,bI zo] at hr;rcases Jo hr with⟨e,a,c,rfl⟩| ⟨x,k',v',c,hr⟩
 .rcases h T k d f _ i j c with b | ⟨x,g,b,-⟩
  .grind
  .cases TP l b
 .rcases h T k d f _ i j c with b | ⟨y,g,b,m⟩
  .grind [Jp]
  .have n:=TP l b;grind
theorem C0.full(h:C0 S I s0 s1 t){r:cd Ex}(a:At T k I)(b:dQ T (k+I.length) [40]=G)(c:pz T 1 (k+I.length)=V)(i:pz T 0 (k+I.length)=V)
  (hr:gW T f 0 k (names s0.length) d=O r):E4 r\/∃ x,r = .ok x (k+I.length) (names s1.length)/\made (a1t S.length) x=lT S t:=by
 rcases h T k d f r a b c hr with e | ⟨x,g,e,j⟩
 .grind
 grind [TP]
theorem stops{s:Bs}{r:List Item}(h:At T k (.sg s::r))(a:s∈[[41],[44],[93],[124]]):dQ T k [40]=G/\pz T 1 k=V/\pz T 0 k=none:=by
 have e:=fun x=>(h.s x).1;simp only[a1g,a1l,or_false] at a;rcases a with rfl | rfl | rfl | rfl<;>simp [pz,ops,a5C,e]
theorem X4{α:Type}{s:Bs}{x:α}{v:List Bs}(h:dQ T k s=A):mj T s x k v=O (.ok x (k+1) v):=by rw[mj,zip h]
def C0.br(h:C0 S I s0 s1 t):C2 S (.sg [40]::I++[.sg [41]]) s0 s1 t:=by
 intro T k d f r b l hr;have g:=b;rw[a1B] at b;have c:=fun x=>(b.s x).1;have i:=(b.s []).2;obtain⟨g1,g2⟩:=At.append.1 b.tail;have m:=fun x=>(g2.s x).1;cases f with
 | zero=>cases hr
 | succ f=>
 rw[lC] at hr;split at hr
 .exact .inl ⟨_,(a1b hr).symm⟩
 rw[bI zo,bI zo,bI zo,c,bI zg,c,zip zg] at hr;obtain⟨q1,q2,q3⟩:=stops g2 zg;rcases Jo hr with⟨e,a,j,rfl⟩| ⟨x,k',v',j,hr⟩
 .grind [full]
 grind [Jp,X4,a1b,full]
def C2.atom{w:Bs}(hw:jH w=1):C2 S [.wd w] s0 s0 (.atom w):=by
 intro T k d f r a c hr;obtain⟨e,b⟩:=a.w;cases f with
 | zero=>cases hr
 | succ f=>
 rw[lC] at hr;split at hr
 .exact .inl ⟨_,(a1b hr).symm⟩
 rw[bI zo,bI zo,zip zo,bI zg,b] at hr;grind [a1b,made,lT]
theorem C2.nil:C2 S [.sg [91],.sg [93]] s0 s0 (.atom [91,93]):=by
 intro T k d f r a g hr;have b:=fun x=>(a.s x).1;have c:=(a.s []).2;have e:=fun x=>(a.tail.s x).1;cases f with
 | zero=>cases hr
 | succ f=>
 rw[lC] at hr;split at hr
 .exact .inl ⟨_,(a1b hr).symm⟩
 rw[bI zo,bI zo,bI zo,b,bI zg,b,bI zg,b,zip zg] at hr;cases f with
 | zero=>cases hr
 | succ f=>
 rw[oq,e,zip zg] at hr;grind [a1b,made,lT]
def C2.int{n:Int}(e:-999999999<=n)(g:n<=999999999):C2 S (if n<0 then [.sg [45],.wd (fc n.natAbs)] else [.wd (fc n.natAbs)]) s0 s0 (.int n):=by
 intro T k d f r a h hr;have hw:=(anY (n:=n.natAbs) zo).1;split at a
 .rename_i b;have g1:=fun x=>(a.s x).1;have c:=(a.s []).2;obtain⟨g2,g3⟩:=a.tail.w;cases f with
  | zero=>cases hr
  | succ f=>
  rw[lC] at hr;split at hr
  .exact .inl ⟨_,(a1b hr).symm⟩
  rw[bI zo,bI zo,bI zo,g1,zip zg,zip zo,g3,Qn] at hr;rw[zip b];exact .inr ⟨_,(a1b hr).symm,by simp [made,lT];omega⟩
 .rename_i b;obtain⟨g2,g3⟩:=a.w;cases f with
  | zero=>cases hr
  | succ f=>
  rw[lC] at hr;split at hr
  .exact .inl ⟨_,(a1b hr).symm⟩
  rw[zip zo,g3,Qn] at hr;rw[bI b];exact .inr ⟨_,(a1b hr).symm,by simp [made,lT];omega⟩
theorem C2.var{i j n m:Nat}(c:j<12)(g:j<m)(hm:m<=S.length)(q:S.idxOf i=j)(h:(j<n/\m=n)\/(j=n/\m=n+1)){a b:List Nat}(l:a.length=n)(s:b.length=m):C2 S [.wd (95::fc (j+1))] a b (.var i):=by
 intro T k d f r o t hr;have hw:=(TO c).1;obtain⟨g2,g3⟩:=o.w;cases f with
 | zero=>cases hr
 | succ f=>
 rw[lC] at hr;split at hr
 .exact .inl ⟨_,(a1b hr).symm⟩
 rw[bI zo,zip zo] at hr;have hr:=a1b hr;unfold wN at hr;have u:fc (j+1)≠[]:=fun e=>by grind [aeg]
 rw[g3,l,bI zg,aI2] at hr;have p:∀ x:Nat,x=j->made (a1t S.length) (.mk 118 [] 0 x [])=lT S (.var i):=fun x e=>by
  grind [made,lT,List.getElem?_range]
 rcases h with⟨y,rfl⟩| ⟨rfl,rfl⟩
 .grind
 .rw[bI zo] at hr;simp only at hr;split at hr
  .exact .inl ⟨_,hr.symm⟩
  .refine .inr ⟨_,?_,p _ J⟩;grind [anZ,aek]
def C0.op{h j:List Item}{a b:Tm}{o:Bs}(w:o=[43]\/o=[45])(D:C0 S h s0 s1 a)(B:C1 S j s1 s2 b):C0 S (h++.sg o::j) s0 s2 (.comp o [a,b]):=by
 intro T k d f r E m n hr;obtain⟨g1,g2⟩:=At.append.1 E;have C:=fun x=>(g2.s x).1;have p:dQ T (k+h.length) [40]=false:=zg;have q:pz T 1 (k+h.length)=none:=by rcases w with rfl | rfl<;>simp [pz,ops,a5C,C]
 have t:pz T 0 (k+h.length)=O o:=by rcases w with rfl | rfl<;>simp [pz,ops,a5C,C]
 have el:k+(h++.sg o::j).length=k+h.length+1+j.length:=zg;rw[el] at m n ⊢;rcases D T k d f r g1 p q hr with l | ⟨x,g,l,I⟩
 .grind
 cases g with
 | zero=>cases l
 | succ g=>
 rw[mS,t] at l;rcases Jo l with⟨e,c,u,rfl⟩| ⟨y,k',v',u,hr⟩
 .rcases B T _ d g _ g2.tail m u with i | ⟨y,F,i,H⟩
  .grind
  .cases TP n i
 .rcases B T _ d g _ g2.tail m u with i | ⟨z,F,i,H⟩
  .grind [Jp]
  .have K:=TP n i;grind [made,km,lT,oK]
def C1.op{h j:List Item}{a b:Tm}{o:Bs}{it:Item}(u:(o=[42]/\it = .sg o)\/(o=[47,47]/\it = .sg o)\/(o=[109,111,100]/\it = .md))(B:C1 S h s0 s1 a)(w:C2 S j s1 s2 b):C1 S (h++it::j) s0 s2 (.comp o [a,b]):=by
 intro T k d f r C n hr;obtain⟨g1,g2⟩:=At.append.1 C;have D:∀ x,dQ T (k+h.length) x=(o == x):=fun x=>by
  rcases u with⟨rfl,rfl⟩| ⟨rfl,rfl⟩| ⟨rfl,rfl⟩
  .exact(g2.s x).1
  .exact(g2.s x).1
  .exact g2.m x
 have p:dQ T (k+h.length) [40]=false:=zg;have q:pz T 1 (k+h.length)=O o:=by rcases u with⟨rfl,-⟩| ⟨rfl,-⟩| ⟨rfl,-⟩<;>simp [pz,ops,a5C,D]
 have el:k+(h++it::j).length=k+h.length+1+j.length:=zg;rw[el] at n ⊢;rcases B T k d f r g1 p hr with l | ⟨x,g,l,F⟩
 .grind
 cases g with
 | zero=>cases l
 | succ g=>
 rw[mS,q] at l;rcases Jo l with⟨e,c,i,rfl⟩| ⟨y,k',v',i,hr⟩
 .cases g with
  | zero=>cases i
  | succ g=>
  rw[gW,zip rfl] at i;rcases w T _ d g _ g2.tail n i with t | ⟨y,t,E⟩<;>grind
 .cases g with
  | zero=>cases i
  | succ g=>
  rw[gW,zip rfl] at i;rcases w T _ d g _ g2.tail n i with t | ⟨z,t,E⟩
  .grind [Jp]
  grind [made,km,lT,oK]
def CR(S:List Nat)(I:List Item)(s0 s1:List Nat)(ts:List Tm):Prop:=(I=[]\/∃ r,I = .sg [44]::r)/\∀ (T:List Tok) (k d at_:Nat) (acc:List Ex) (f:Nat) (r:cd (List Ex)),At T k (I++[.sg [41]]) ->
 (if dQ T k [44] then mR T f (k+1) (names s0.length) d at_ acc else if Sa<acc.length then O (.err 4 at_) else O (.ok acc k (names s0.length)))=O r ->
 E4 r\/∃ xs,r = .ok (acc++xs) (k+I.length) (names s1.length)/\km (a1t S.length) xs=oK S ts
theorem CR.nil:CR S [] s0 s0 []:=by
 refine⟨.inl J,fun T k d at_ acc f r a hr=>?_⟩;rw[(a.s _).1,bI zg] at hr;split at hr
 .exact .inl ⟨_,(a1b hr).symm⟩
 .exact .inr ⟨[],zg,by simp [km,oK]⟩
def CR.stop{ts:List Tm}(h:CR S I s0 s1 ts)(a:At T k (I++[.sg [41]])):dQ T k [40]=G/\pz T 1 k=V/\pz T 0 k=none:=by
 rcases h.1 with rfl | ⟨r,rfl⟩
 .grind [stops]
 grind [stops]
def CR.cons{c g:List Item}{ts:List Tm}(ht:C0 S c s0 s1 t)(hr:CR S g s1 s2 ts):CR S (.sg [44]::c++g) s0 s2 (t::ts):=by
 refine⟨.inr ⟨_,J⟩,fun T k d at_ acc f r b he=>?_⟩;rw[a1B,a1B] at b;rw[(b.s _).1,zip zg] at he;rw[a1E] at b;obtain⟨g1,g2⟩:=At.append.1 b.tail;obtain⟨q1,q2,q3⟩:=hr.stop g2;cases f with
 | zero=>cases he
 | succ f=>
 rw[mR] at he;rcases Jo he with⟨e,a,h,rfl⟩| ⟨x,k',v',h,he⟩
 .grind [C0.full,E4.err]
 .rcases ht.full g1 q1 q2 q3 h with i | ⟨y,i,o⟩
  .grind [Jp]
  .injection i with j l m;subst j l m;rcases hr.2 T _ d at_ (acc++[x]) f r g2 he with n | ⟨xs,n,p⟩
   .grind
   grind [km,oK]
def C2.app{name:Bs}{j l:List Item}{ts:List Tm}(hw:jH name=1)(ht:C0 S j s0 s1 t)(hr:CR S l s1 s2 ts):C2 S (.wd name::.sg [40]::j++l++[.sg [41]]) s0 s2 (.comp name (t::ts)):=by
 intro T k d f r g B he;simp only[a1B] at g;obtain⟨C,u⟩:=g.w;have h:=fun x=>(g.tail.s x).1;cases f with
 | zero=>cases he
 | succ f=>
 rw[lC] at he;split at he
 .exact .inl ⟨_,(a1b he).symm⟩
 rw[bI zo,bI zo,zip zo,h,zip zg,u] at he;have c:=g.tail.tail;rw[a1E] at c;obtain⟨g1,g2⟩:=At.append.1 c;obtain⟨q1,q2,q3⟩:=hr.stop g2;have key:∀ q,mR T f (k+2) (names s0.length) (d+1) (tk T k).pos []=O q->E4 q\/∃ xs,q = .ok xs (k+2+j.length+l.length) (names s2.length)/\km (a1t S.length) xs=oK S (t::ts):=by
  intro q b;cases f with
  | zero=>cases b
  | succ f=>
  rw[mR] at b;rcases Jo b with⟨e,a,p,rfl⟩| ⟨x,k',v',p,he⟩
  .grind [C0.full,E4.err]
  .rcases ht.full g1 q1 q2 q3 p with h | ⟨y,h,D⟩
   .grind [Jp]
   .injection h with m n o;subst m n o;rcases hr.2 T _ (d+1) _ ([]++[x]) f q g2 he with i | ⟨xs,i,z⟩
    .grind
    grind [km,oK]
 rcases Jo he with⟨e,a,b,rfl⟩| ⟨xs,k',v',b,he⟩
 .grind [E4.err]
 .rcases key _ b with i | ⟨E,i,z⟩
  .grind [Jp]
  .injection i with m n o;subst m n o;have g3:=(At.append.1 g2).2;rw[X4 (by rw[(g3.s _).1];decide)] at he;refine .inr ⟨.mk 99 name 0 0 xs,?_,by grind [made,lT]⟩;grind
def aen:Ex:=.mk 97 [91,93] 0 0 []
def CL(S:List Nat)(I:List Item)(s0 s1:List Nat)(b:Tm):Prop:=(∃ s r,I = .sg s::r/\s∈[[41],[44],[93],[124]])/\∀ (T:List Tok) (k d:Nat) (acc:List Ex) (f g:Nat) (r:cd Ex),At T k I ->
 cd.bind (if dQ T k [44] then oT T f (k+1) (names s0.length) d acc else O (.ok acc k (names s0.length))) (fun all k' v'=>
  if dQ T k' [124] then cd.bind (gW T g 0 (k'+1) v' d) fun x c a=>mj T [93] (vj all x) c a else mj T [93] (vj all aen) k' v')=O r ->
 E4 r\/∃ x,r = .ok (vj acc x) (k+I.length) (names s1.length)/\made (a1t S.length) x=lT S b
theorem CL.nil:CL S [.sg [93]] s0 s0 (.atom [91,93]):=by
 refine⟨⟨_,_,J,zd⟩,fun T k d acc f g r a hr=>?_⟩;have h:=fun x=>(a.s x).1;rw[h,bI zd] at hr;simp only[cd.bind,h] at hr;rw[bI zd,X4 (by rw[h];decide)] at hr;exact .inr ⟨aen,(a1b hr).symm,by simp [aen,made,lT]⟩
def CL.bar{b:Tm}(l:C0 S I s0 s1 b):CL S (.sg [124]::I++[.sg [93]]) s0 s1 b:=by
 refine⟨⟨_,_,J,zd⟩,fun T k d acc f g r i hr=>?_⟩;rw[a1B] at i;have h:=fun x=>(i.s x).1;rw[h,bI zd] at hr;simp only[cd.bind,h] at hr;rw[zip zd] at hr;obtain⟨g1,g2⟩:=At.append.1 i.tail;obtain⟨q1,q2,q3⟩:=stops g2 zd;rcases Jo hr with⟨e,a,j,rfl⟩| ⟨x,k',v',j,hr⟩
 .rcases l.full g1 q1 q2 q3 j with c | ⟨x,c,-⟩
  .exact .inl c
  .cases c
 .rcases l.full g1 q1 q2 q3 j with c | ⟨y,c,m⟩
  .exact(Jp c).elim
  .injection c with n o p;subst n o p;rw[X4 (by rw[(g2.s _).1];decide)] at hr;refine .inr ⟨x,?_,m⟩;rw[<- a1b hr]
   congr 1
   simp;omega
def an3(l:List Ex)(a x:Ex):vj (l++[a]) x=vj l (.mk 99 [46] 0 0 [a,x]):=by simp [vj]
def CL.cons{b l:List Item}{c e:Tm}(n:C0 S b s0 s1 c)(m:CL S l s1 s2 e):CL S (.sg [44]::b++l) s0 s2 (.comp [46] [c,e]):=by
 refine⟨⟨_,_,J,zd⟩,fun T k d acc f g r h hr=>?_⟩;rw[a1B] at h;rw[(h.s _).1,zip zd] at hr;obtain⟨g1,g2⟩:=At.append.1 h.tail;obtain⟨q1,q2,q3⟩:dQ T (k+1+b.length) [40]=G/\pz T 1 (k+1+b.length)=V/\pz T 0 (k+1+b.length)=none:=by
  obtain⟨s,w,o,p⟩:=m.1;rw[o] at g2;exact stops g2 p
 cases f with
 | zero=>cases hr
 | succ f=>
 rw[oT] at hr;cases i:gW T f 0 (k+1) (names s0.length) d with
 | none=>rw[i] at hr;cases hr
 | some q=>
 rw[i] at hr;rcases n.full g1 q1 q2 q3 i with⟨a,rfl⟩| ⟨y,rfl,t⟩
 .exact .inl ⟨a,(a1b hr).symm⟩
 .simp only[cd.bind] at hr;rcases m.2 T _ d (acc++[y]) f g r g2 hr with j | ⟨x,j,u⟩
  .exact .inl j
  .refine .inr ⟨.mk 99 [46] 0 0 [y,x],?_,by simp [made,km,lT,oK,t,u]⟩;rw[j,an3]
   congr 1
   simp;omega
def C2.list{c j:List Item}{a b:Tm}(m:C0 S c s0 s1 a)(l:CL S j s1 s2 b)(n:∀ T k,At T k c->dQ T k [93]=G):C2 S (.sg [91]::c++j) s0 s2 (.comp [46] [a,b]):=by
 intro T k d f r g w hr;rw[a1B] at g;have e:=fun x=>(g.s x).1;have o:=(g.s []).2;obtain⟨g1,g2⟩:=At.append.1 g.tail;obtain⟨q1,q2,q3⟩:dQ T (k+1+c.length) [40]=G/\pz T 1 (k+1+c.length)=V/\pz T 0 (k+1+c.length)=none:=by
  obtain⟨s,z,e,p⟩:=l.1;rw[e] at g2;exact stops g2 p
 cases f with
 | zero=>cases hr
 | succ f=>
 rw[lC] at hr;split at hr
 .exact .inl ⟨_,(a1b hr).symm⟩
 rw[bI zo,bI zo,bI zo,e,bI zd,e,bI zd,e,zip zd] at hr;cases f with
 | zero=>cases hr
 | succ f=>
 rw[oq,bI (by rw[n T _ g1];decide)] at hr;cases f with
 | zero=>cases hr
 | succ f=>
 rw[oT] at hr;cases h:gW T f 0 (k+1) (names s0.length) (d+1) with
 | none=>rw[h] at hr;cases hr
 | some q=>
 rw[h] at hr;rcases m.full g1 q1 q2 q3 h with⟨a,rfl⟩| ⟨y,rfl,t⟩
 .exact .inl ⟨a,(a1b hr).symm⟩
 .simp only[cd.bind] at hr;rcases l.2 T _ (d+1) ([]++[y]) f (f+1) r g2 hr with i | ⟨x,i,u⟩
  .exact .inl i
  .refine .inr ⟨.mk 99 [46] 0 0 [y,x],?_,by simp [made,km,lT,oK,t,u]⟩;rw[i,an3]
   congr 1
   simp;omega
end
def Hn(c:UInt8)(w:Bs):Prop:=∀ x∈w,x≠c
theorem X5{c:UInt8}:∀ {a:Bs},Hn c a->gU c a=[a]
 | [],_=>rfl
 | x::a,h=>by
  rw[ad6,bI (h x a1j),X5 fun y b=>h y (a1U _ b)]
def an4:∀ {l:List Bs} {f:Bs},Hn 32 f->(∀ w∈l,Hn 32 w)->gU 32 (f++(l.map fun w=>32::w).flatten)=f::l
 | [],f,a,_=>by simp_all [List.map_nil,List.flatten_nil,List.append_nil,X5]
 | w::l,f,a,b=>by
  rw[List.map_cons,a3j,a1B,TM,X5 a,an4 (b w a1j) zg];rfl
def Qo(w:Bs):Prop:=Hn 32 w/\Hn 10 w
def an5{c:UInt8}(a:c≠32):∀ {l:List Bs},(∀ w∈l,Hn c w)->Hn c (l.map fun w=>(32:UInt8)::w).flatten
 | [],_=>fun x hx=>zg
 | w::l,h=>fun x hx=>by
  rw[List.map_cons,a3j] at hx;rcases a1o.1 hx with hx | hx
  .rcases a1g.1 hx with rfl | hx
   .grind
   .exact h w a1j x hx
  .exact an5 a zg x hx
def aI6{f:Bs}{l:List Bs}{r:Bs}{k:Nat}{p:Pv}(c:Qo f)(d:∀ w∈l,Qo w):pP (gU 10 (nh f l++r)) k p=match pf (f::l) p with
  | none=>.error k
  | some p=>pP (gU 10 r) (k+1) p:=by
 have h:Hn 10 (f++(l.map fun w=>(32:UInt8)::w).flatten):=fun x hx=>by
  rcases a1o.1 hx with hx | hx
  .exact c.2 x hx
  .exact an5 zg (fun w hw=>(d w hw).2) x hx
 have e:gU 10 (nh f l++r)=(f++(l.map fun w=>(32:UInt8)::w).flatten)::gU 10 r:=by
  grind [nh,a1E,List.singleton_append,TM,X5]
 rw[e];have i:=(TL 10 r).2;cases hr:gU 10 r with
 | nil=>grind
 | cons a b=>
  have g:gU 32 (f++(l.map fun w=>(32:UInt8)::w).flatten)=f::l:=an4 c.1 fun w hw=>(d w hw).1;rw[show pP ((f++(l.map fun w=>(32:UInt8)::w).flatten)::a::b) k p=(match pf (gU 32 (f++(l.map fun w=>(32:UInt8)::w).flatten)) p with
   | none=>.error k
   | some p=>pP (a::b) (k+1) p) from J,g]
structure InR(n:Nat)(i:In):Prop where
 wd:Qo i.word
 ws:∀ w∈uL i ((ni i.word).getD []) i.s,Qo w
 rd:vN n (i.word::uL i ((ni i.word).getD []) i.s)=O i
theorem aI8(l:List Co)(c:Co)(f:Co->Co):Hi (l++[c]) f=l++[f c]:=by
 simp_all [Hi,List.reverse_append]
theorem an6(l:List Pd)(c:Pd)(f:Pd->Pd):Lh (l++[c]) f=l++[f c]:=by
 simp_all [Lh,List.reverse_append]
def aI9{z:Int}(h:-9223372036854775808<=z/\z<=9223372036854775807):Er (kN z)=O z:=by
 have key:∀ a:Int,a=z->(if kN a=kN z/\-9223372036854775808<=a/\a<=9223372036854775807 then O a else V)=O z:=by
  grind
 unfold Er;simp only;refine key _ ?_;by_cases f:z<0
 .have e:kN z=45::fc z.natAbs:=by simp_all [kN,zip]
  grind [Qn]
 .have e:kN z=fc z.natAbs:=by simp_all [kN,bI]
  rw[e];obtain⟨c,r,d,-⟩:=X3 (z.natAbs+1) z.natAbs zo;have g:=Lp (z.natAbs+1) z.natAbs c zg;have b:=Qn z.natAbs;unfold fc at b ⊢;rw[d] at b ⊢;split
  .simp_all [digit]
  omega
theorem Lr(n:Nat):fc n=kN (n:Int):=by simp_all [kN,bI]
structure PdR(p:Pd):Prop where
 wd:Qo p.name
 name:ql p.name=O p.name
 ar:p.arity<64
 cls:∀ c∈p.clauses,c.slots<65/\∀ i∈c.ins,InR c.slots i
def wdN(n:Nat):Qo (fc n):=⟨fun x hx e=>by
 have:=Lp (n+1) n x hx;simp_all [digit],fun x hx e=>by
 have:=Lp (n+1) n x hx;simp_all [digit]⟩
def Pv.cur(p:Pv):Option Co:=match p.ask with
 | some (c,_)=>O c
 | none=>if p.open_ then pf.Qj p.dO else V
def Pv.add(p:Pv)(i:In):Pv:=match p.ask with
 | some (c,n)=>{ p with ask:=O ({ c with ins:=c.ins++[i] },n) }
 | none=>{ p with dO:=Lh p.dO fun q=>{ q with clauses:=Hi q.clauses fun c=>{ c with ins:=c.ins++[i] } } }
abbrev C5:Bs:=[112,114,101,100]
abbrev BU:Bs:=[99,108,97,117,115,101]
abbrev EA:Bs:=[113,117,101,114,121]
theorem X6{w0:Bs}{r:List Bs}{p:Pv}(a:p.ask≠V)(hw:w0=C5\/w0=BU\/w0=EA):pf (w0::r) p=none:=by
 obtain⟨dO,o,ask⟩:=p;cases ask with
 | none=>grind
 | some cn=>
  unfold pf;grind
def aJb{a b:Bs}{p:Pv}(c:p.ask=V):pf [C5,a,b] p=match ql a,kz b 64 with
  | some a,O b=>if p.dO.any (fun q=>q.name == a && q.arity == b) then V else O { p with dO:=p.dO++[⟨a,b,[]⟩],open_:=false }
  | _,_=>none:=by
 grind [pf,ql,kz]
def aJc{a:Bs}{p:Pv}(b:p.ask=V)(c:p.dO≠[]):pf [BU,a] p=match kz a 65 with
  | some a=>O { p with dO:=Lh p.dO fun q=>{ q with clauses:=q.clauses++[⟨a,[]⟩] },open_:=true }
  | none=>none:=by
 grind [pf]
theorem an7{a b:Bs}{p:Pv}(c:p.ask=V):pf [EA,a,b] p=match kz a 65 with
  | some a=>match kz b (a+1) with
   | some b=>O { p with ask:=O (⟨a,[]⟩,b),open_:=true }
   | none=>V
  | none=>none:=by
 grind [pf,kz]
def aJd{w0:Bs}{r:List Bs}{p:Pv}(b:¬ (p.ask≠V/\(w0=C5\/w0=BU\/w0=EA)))(d:¬ (w0=C5/\r.length=2))(f:¬ (w0=BU/\r.length=1/\p.dO≠[]))(g:¬ (w0=EA/\r.length=2)) :
  pf (w0::r) p=match p.cur with
   | some c=>match vN c.slots (w0::r) with
    | some i=>O (p.add i)
    | none=>V
   | none=>none:=by
 unfold pf;split
 .grind
 .rename_i e;injection e with h j;have a:p.dO=[]:=zg;obtain⟨dO,o,ask⟩:=p;have a:dO=[]:=a;subst a;cases ask with
  | some c=>grind
  | none=>
   have k:(Pv.mk [] o V).cur=none:=by
    unfold Pv.cur;cases o<;>rfl
   grind
 .grind
 .obtain⟨dO,o,ask⟩:=p;cases ask with
  | none=>
   rw[bI zs];grind [Pv.cur,Pv.add]
  | some c=>
   rw[bI]
   .grind [Pv.cur,Pv.add]
   grind
def Pv.Bd(k:Nat)(p:Pv):Prop:=(∀ q∈p.dO,q.clauses.length<=k/\∀ c∈q.clauses,c.ins.length<=k/\c.slots<=64)/\∀ c n,p.ask=O (c,n)->c.ins.length<=k/\c.slots<=64
theorem Pv.Bd.cur{k:Nat}{p:Pv}{c:Co}(h:p.Bd k)(a:p.cur=O c):c.ins.length<=k/\c.slots<=64:=by
 unfold Pv.cur at a;split at a
 .rename_i e n b;injection a with a;subst a;exact h.2 _ _ b
 .split at a
  .unfold pf.Qj at a;split at a
   .rename_i q d;exact(h.1 q (a2v d)).2 c (a2v a)
   grind
  grind
theorem Pv.Bd.add{k:Nat}{p:Pv}(h:p.Bd k)(i:In):(p.add i).Bd (k+1):=by
 unfold Pv.add;split
 .rename_i c n f;refine⟨fun q a=>⟨by have:=(h.1 q a).1;omega,fun c b=>⟨by have:=((h.1 q a).2 c b).1;omega,((h.1 q a).2 c b).2⟩⟩,fun l m he=>?_⟩;injection he with he;injection he with d g;subst d;have:=h.2 _ _ f;grind
 .rename_i f;refine⟨fun q a=>?_,fun c n he=>?_⟩
  .rcases adU a with a | ⟨q0,e,rfl⟩
   rotate_left
   .have a:=a2v e;refine⟨?_,fun c b=>?_⟩
    .show(Hi _ _).length<=_;rw[anw];have:=(h.1 q0 a).1;omega
    .rcases anv b with b | ⟨c0,j,rfl⟩
     .exact⟨by have:=((h.1 q0 a).2 c b).1;omega,((h.1 q0 a).2 c b).2⟩
     .have:=(h.1 q0 a).2 c0 (a2v j);grind
   .exact⟨by have:=(h.1 q a).1;omega,fun c b=>⟨by have:=((h.1 q a).2 c b).1;omega,((h.1 q a).2 c b).2⟩⟩
  grind
theorem Pv.Bd.mono{p:Pv}(h:p.Bd k)(hk:k<=k'):p.Bd k':=
 ⟨fun q a=>⟨a1d (h.1 q a).1 hk,fun c b=>⟨a1d ((h.1 q a).2 c b).1 hk,((h.1 q a).2 c b).2⟩⟩,fun c n he=>⟨a1d (h.2 c n he).1 hk,(h.2 c n he).2⟩⟩
theorem aep(c:UInt8):∀ (s:Bs),∀ l∈gU c s,c ∉ l/\l.length<=s.length
 | [],l,h=>by
  simp_all [gU]
 | x::r,l,h=>by
  have ih:=aep c r;unfold gU at h;grind
def Wk.new(b:Bd)(n:Nat):Wk:=⟨n,⟨[],0⟩,[⟨O b,a1t n,0⟩],[]⟩
def Jq(c:Co):Vm:=⟨0,⟨[],0⟩,[⟨c,List.replicate c.slots .nil,0,V,0,A⟩],0,0,[]⟩
def vmE(dO:List Pd)(told:Nat):En where
 St:=Vm
 sr m:=m.sr
 nv m:=m.n
 fu m f:={ m with sr:={ m.sr with fuel:=f } }
 nx d f m:=N6 dO d f m
 told m:=m.iX (a1t told)
def C6(cs:List Cl)(b:Bd)(nv:Nat):Option Bs:=match ym cs [] with
 | none=>V
 | some l=>match BR [] b nv A with
  | none=>V
  | some a=>O (zD l a nv)
inductive an9 where
 | err (e:Nat) (at_:Int)
 | ok (E:En) (st:E.St) (names:List Bs)
def runT(t:Bs)(names:List Bs):an9:=match tF t with
 | .error (e,k)=>.err e k
 | .ok (ps,c,n)=>.ok (vmE ps n) (Jq c) names
def Qp(cs:List Cl)(q:Bs)(machine:Bool):an9:=match nY vH q with
 | .err e a=>.err e a
 | .ok b _ vs=>if machine then match C6 cs b vs.length with
   | none=>.err 4 (-1)
   | some t=>runT t vs
  else .ok (XJ cs vs.length) (Wk.new b vs.length) vs
def firstT(d f:Nat)(s q:Bs)(machine:Bool):Option (Bs×Nat):=match program s with
 | .err e _=>O ([],e)
 | .ok cs _ _=>match Qp cs q machine with
  | .err e _=>O ([],e)
  | .ok E st names=>(Jh E names d f (V,st)).map Prod.fst
def aoa:∀ (d c:List Bs) (k:Nat) (p q:Pv),c≠[]->pP (d++c) k p = .ok q->∃ p1,pP c (k+d.length) p1 = .ok q
 | [],c,k,p,q,_,h=>⟨p,h⟩
 | l::d,c,k,p,q,e,h=>by
  have f:d++c≠[]:=(by simp_all);obtain⟨x,r,hx⟩:∃ x r,d++c=x::r:=by
   cases g:d++c with
   | nil=>grind
   | cons a b=>grind
  rw[a1B,hx,pP] at h
  .split at h
   .grind
   .rename_i p1 _;rw[<- hx] at h;obtain⟨p2,i⟩:=aoa d c (k+1) p1 q e h;grind
  grind
def aJf{ws:List Bs}{p a:Pv}(h:pf ws p=O a)(b:p.ask.map (·.2)=O n):a.ask.map (·.2)=O n:=by
 obtain⟨dO,o,ask⟩:=p;cases ask with
 | none=>grind
 | some cn=>
  obtain⟨c,d⟩:=cn;simp only[Option.map_some,a07] at b;subst b;unfold pf at h;grind
theorem aob:∀ (L:List Bs) (k:Nat) (p q:Pv) (n:Nat),pP L k p = .ok q->p.ask.map (·.2)=O n->q.ask.map (·.2)=O n
 | [],k,p,q,n,h,a=>by
  simp_all [pP]
 | [r],k,p,q,n,h,a=>by
  grind [pP]
 | r::s::rs,k,p,q,n,h,a=>by
  rw[pP] at h
  .split at h
   .grind
   .rename_i p1 b;exact aob (s::rs) _ _ _ _ h (aJf b a)
  grind
theorem aJg(h:kz (fc nv) n=O b):b=nv:=by
 unfold kz at h;split at h
 .rename_i z a;split at h
  .rename_i c;injection h with h;have d:=(XR a).1;grind [kN,anX]
  grind
 grind
def Nl(s:Bs):Prop:=s=[]\/∃ a,s=a++[10]
def Nl.app{a b:Bs}(d:Nl a)(c:Nl b):Nl (a++b):=by
 rcases c with rfl | ⟨x,rfl⟩
 .grind
 .exact .inr ⟨a++x,zg⟩
theorem Nl.flat:∀ {L:List Bs},(∀ x∈L,Nl x)->Nl L.flatten
 | [],_=>.inl J
 | x::r,h=>by rw[a3j];exact(h x a1j).app (Nl.flat zg)
def Nl.words(f:Bs)(l:List Bs):Nl (nh f l):=.inr ⟨_,J⟩
theorem Nl.map{α:Type}{g:α->Bs}(a:∀ x,Nl (g x))(L:List α):Nl (L.map g).flatten:=Nl.flat fun x hx=>by
 grind
def Nl.pd(p:Pd):Nl (xw p):=(Nl.words _ _).app (Nl.map (fun _=>(Nl.words _ _).app (Nl.map (fun _=>Nl.words _ _) _)) _)
def aJh(b r:Bs)(c:Nl b):∃ L,gU 10 (b++r)=L++gU 10 r:=by
 rcases c with rfl | ⟨a,rfl⟩
 .simp_all
 simp_all [gU,a1E,TM]
def aJi(c:UInt8):∀ (s:Bs),gU c s≠[]
 | []=>by simp [gU]
 | x::r=>by
  grind [ad6]
theorem aJj{l:List Pd}{ask:Co}{ps:List Pd}{c:Co}(h:tF (zD l ask nv) = .ok (ps,c,n)):n=nv:=by
 unfold tF at h;split at h
 .grind
 split at h
 .grind
 rename_i q a;split at h
 .rename_i j k m;injection h with h;injection h with b h;injection h with d e;subst b d e;have g:Nl (l.map xw).flatten:=Nl.map Nl.pd l;unfold zD at a;rw[a1E] at a;obtain⟨L,i⟩:=aJh _ (nh [113,117,101,114,121] [fc ask.slots,fc nv]++AT ask) g;rw[i] at a;obtain⟨p1,b⟩:=aoa L _ _ _ _ (aJi _ _) a;rw[aI6 (f:=[113,117,101,114,121]) (l:=[fc ask.slots,fc nv]) (⟨by grind [Hn],by grind [Hn]⟩) (fun w hw=>by
   simp only[a1g,a1l,or_false] at hw;rcases hw with rfl | rfl<;>exact wdN _)] at b
  grind [X6,aob,aJg,an7]
 grind
def aJk{cs:List Cl}{x:Bd}{t:Bs}{ps:List Pd}{c:Co}(a:C6 cs x nv=O t)(b:tF t = .ok (ps,c,n)):n=nv:=by
 grind [C6,aJj]
def X7:Bs:=[112,40,49,41,46,32,112,40,50,41,46]
def X8:Bs:=[112,40,88,41,44,32,88,32,62,32,49,46]
def stA:Bs:=[88,32,61,32,50]
def stW:firstT 2000 20000 X7 X8 G=O (stA,0):=by decide +kernel
def stV:firstT 2000 20000 X7 X8 A=O (stA,0):=by decide +kernel
def pA:Bs:=[97,46]
end P
open Go.Proofs.YtoegidfbnkaabaaGreatDoor.Sx
section
variable{p0 p1 p2 p3 p4 p5 p6 p7:Y}{w:Z}{R:Ending->Z->Prop}
def aoc:=cz w R [p0,p1] (gc [] [] []) Tryz.func44
def Ho(p0 p1:Y)(w:Z)(R:Ending->Z->Prop):Prop:=
 CA bbj 82 #[p0] w (fun k w1=>
 NC p0 fun g=>
 RD bbj (Instr.fieldAt 100 g 1) w1 (fun h=>
 RD bbj (Instr.loadAt 98 h) w1 (fun a=>
 WR bbj (Instr.buildSlice 98 1 #[(0,p1)]) w1 (fun b c=>
 WR bbj (Builtin.append_ #[98,98] 98 #[a,b]) c (fun d f=>
 NC p0 fun e=>
 RD bbj (Instr.fieldAt 100 e 1) f (fun i=>
 WU bbj (Instr.storeAt 98 i d) f (fun j=>
 R (ah ai) j) (PX R)) (PX R)) (PX R)) (PX R)) (PX R)) (PX R)) (PC R)
def aod(h:Ho p0 p1 w R):Calls bbj 95 #[p0,p1] w R:=
 cq (args:=[p0,p1]) (Fe (fun _=>[]) (fun _=>V) (fun _=>0) (fun _=>V) (fun _=>[]) (fun _=>[]) (fun _=>G) (fun _=>G)) Tryz.func95 J zk zk h
def aJq{u:FrameMode}{w:Z}{R:Ending->Z->Prop}(h:Ho tv vv w R):CallsD bbj 95 #[tv,vv] u w fun e a w'=>a=u/\R e w':=
 auk (args:=[tv,vv]) (Fe (fun _=>[]) (fun _=>V) (fun _=>0) (fun _=>V) (fun _=>[]) (fun _=>[]) (fun _=>G) (fun _=>G)) Tryz.func95 J zk zk (Nat.le_of_ble_eq_true zk) [] zk h
end
namespace P
structure Nd where
 kind:Nat
 name:Bs
 n:Int
 args:List Nat
deriving Inhabited
structure Hp where
 nodes:List Nd
 to:List Int
 aWe:List Nat
 cost:Nat
 aoe:Nat
 err:Nat
def Hp.nd(H:Hp)(t:Nat):Nd:=H.nodes.getD t ⟨0,[],0,[]⟩
def Hp.aev(H:Hp)(t:Nat):Int:=H.to.getD t (-1)
def Hp.Eg(H:Hp):Bool:=decide (H.aoe<H.cost) || decide (H.err≠0)
def Hp.add(H:Hp)(d:Nd):Hp:={ H with nodes:=H.nodes++[d],to:=H.to++[-1] }
def Hp.walk(H:Hp):Nat->Nat->Option Nat
 | 0,t=>if (H.nd t).kind=118/\0<=H.aev t then V else O t
 | f+1,t=>if (H.nd t).kind=118/\0<=H.aev t then H.walk f (H.aev t).toNat else O t
def Hp.fresh(H:Hp):Nat->Hp×List Nat
 | 0=>(H,[])
 | n+1=>let (a,l):=(H.add ⟨118,[],0,[]⟩).fresh n;(a,H.nodes.length::l)
mutual
def Hp.made (H:Hp) (vs:List Nat):Ex->Hp×Nat
 | .mk kind name n k args=>if kind=118 then(H,vs.getD k 0) else
  let (a,l):=H.km vs args
  (a.add ⟨kind,name,n,l⟩,a.nodes.length)
 termination_by structural x=>x
def Hp.km (H:Hp) (vs:List Nat):List Ex->Hp×List Nat
 | []=>(H,[])
 | x::xs=>let (a,t):=H.made vs x;let (b,l):=a.km vs xs;(b,t::l)
 termination_by structural x=>x
end
def Hp.iK(H:Hp)(t:Nat):Nat:=if (H.nd t).kind≠99 then 0 else P.iK (H.nd t).name (H.nd t).args.length
abbrev Xr:=Bs×Nat×List Nat
def Xb(x:Option Xr)(k:Bs->Nat->List Nat->Option Xr):Option Xr:=
 match x with
 | none=>V
 | some (s,c,l)=>k s c l
def Hp.over(H:Hp)(c:Nat):Bool:=decide (H.aoe<c) || decide (H.err≠0)
mutual
def Hp.text (H:Hp):Nat->Nat->Nat->Nat->List Nat->Option Xr
 | 0,_,_,_,_=>V
 | f+1,t,least,c,seen=>
  if H.over (c+1) then O ([],c+1,seen)
  else match H.walk f t with
   | none=>V
   | some t=>
    if (H.nd t).kind=97 then O ((H.nd t).name,c+1,seen)
    else if (H.nd t).kind=110 then O (kN (H.nd t).n,c+1,seen)
    else if (H.nd t).kind=118 then match seen.idxOf? t with
     | some k=>O (95::fc (k+1),c+1,seen)
     | none=>O (95::fc (seen.length+1),c+1,seen++[t])
    else if H.iK t≠0 then
     Xb (H.text f ((H.nd t).args.getD 0 0) (H.iK t) (c+1) seen) fun a c seen=>Xb (H.text f ((H.nd t).args.getD 1 0) (H.iK t+1) c seen) fun b c seen=>
      let op:=if (H.nd t).name=[109,111,100] then [32,109,111,100,32] else(H.nd t).name
      O (if H.iK t<least then 40::(a++op++b++[41]) else a++op++b,c,seen)
    else if (H.nd t).name=[46]/\(H.nd t).args.length=2 then H.list f t [91] (c+1) seen
    else H.targs f (H.nd t).args A ((H.nd t).name++[40]) (c+1) seen
 termination_by structural f=>f
def Hp.targs (H:Hp):Nat->List Nat->Bool->Bs->Nat->List Nat->Option Xr
 | 0,_,_,_,_,_=>V
 | _+1,[],_,out,c,seen=>O (out++[41],c,seen)
 | f+1,a::r,first,out,c,seen=>Xb (H.text f a 0 c seen) fun s c seen=>H.targs f r G ((if first then out else out++[44])++s) c seen
 termination_by structural f=>f
def Hp.list (H:Hp):Nat->Nat->Bs->Nat->List Nat->Option Xr
 | 0,_,_,_,_=>V
 | f+1,t,out,c,seen=>
  Xb (H.text f ((H.nd t).args.getD 0 0) 0 c seen) fun a c seen=>
   match H.walk f ((H.nd t).args.getD 1 0) with
   | none=>V
   | some r=>
    if H.over c then O (out++a,c,seen)
    else if (H.nd r).kind=97/\(H.nd r).name=[91,93] then O (out++a++[93],c,seen)
    else if (H.nd r).kind=99/\(H.nd r).name=[46]/\(H.nd r).args.length=2 then H.list f r (out++a++[44]) c seen
    else Xb (H.text f r 0 c seen) fun b c seen=>O (out++a++[124]++b++[93],c,seen)
 termination_by structural f=>f
end
end P
