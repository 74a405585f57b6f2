/- A part of one proof (KS8, SlU, KS9, PW7, PW8, ShX2, KW1, KW2, ShQ2, KW3). -/
import Derived.Test.YtoegidfbnkaabaaGreatDoorPkIAR
set_option linter.all false
set_option maxRecDepth 100000
set_option maxHeartbeats 8000000
open Option renaming some → O, none → V
open Go renaming Value → Y, World → Z
open Bool renaming true → A, false → G
open Go.Obj renaming cells → ae
open Go.Ending renaming returned → ah
open Go.Value renaming nilIface → ai, iface → aj, tuple → ak, pointer → aq
open Option.some renaming injEq → a07
open Go.Calls renaming mono → a1a
open Nat renaming le_refl → a1c, le_trans → a1d, lt_of_lt_of_le → a1G
open List renaming mem_cons → a1g, not_mem_nil → a1l
open Go.Value renaming slice → a1n
open Go.Value.slice renaming injEq → a1r
open Option renaming map_eq_some_iff → a1C
open Go.World.grownBy renaming block → a2q
open Go.Proofs.Tryz renaming prog → bbm
open Go.Proofs.Tryz
namespace Go.Proofs.YtoegidfbnkaabaaGreatDoor
open P
open Go.RowKit Sx
variable{B b base cap e f g j mb n o pb so wb:Nat}{D F:Nat->Prop}{X:Y->Z->Prop}{av o4 tv v vv:Y}{cs:Array Y}{tr:Tr}{ug ρ:Nat->Nat}{vs xs:List Y}{w' w1 w2:Z}
section
variable{D:Nat->Prop}{ρ:Nat->Nat}{n sb so T:Nat}{cs:Array Y}
abbrev StN(D:Nat->Prop)(ρ:Nat->Nat)(n sb so T:Nat)(cs:Array Y)(p:Int×Sr)(e:Ending)(w':Z):Prop:=
 e = ah (zi p.1)/\∃ tv,ie D ρ n sb so T cs tv w' p.2
def ae2(hf:vS so T cs):∀ (f:Nat) {tv v:Y} {w:Z} {s:Sr} {t:Tm} {r:Except jQ (Int×Sr)},ie D ρ n sb so T cs tv w s->dR ρ n w v t->eu t->s.fuel<=1000000000->uI f t s=O r ->
  Calls bbm 219 #[pq sb so,v] w (EPost D w (StN D ρ n sb so T cs) r):=by
 intro f;induction f using Nat.strongRecOn with
 | _ f ih=>
 intro tv v w s t r h hv dj E hr;cases f with
 | zero=>simp [uI] at hr
 | succ f=>
 rw[uI] at hr;refine aJV ?_;refine(Of h hf E).mono ?_;rintro e w1 ⟨k,d⟩;by_cases L:s.fuel=0
 .rw[zip L] at hr d;injection hr with hr;subst hr d;simp only[ends,PC];exact⟨k,J⟩
 rw[bI L] at hr d;obtain⟨rfl,d⟩:=d;have kS:=hv.bK k.toT;refine bG ?_;cases hw:fE s.tr f t with
 | none=>rw[hw] at hr;cases hr
 | some t'=>
 rw[hw] at hr;refine a1a (Hs d.sv kS (f:=f) (by exact hw)) ?_;rintro e w2 ⟨rfl,u,rfl,hu⟩;have M:=tY h.ok dj hw;cases t' with
 | atom a=>
  unfold dL at hu;subst hu;cases hr;refine bG ?_;exact⟨k,J⟩
 | int a=>
  unfold dL at hu;subst hu;cases hr;refine bG ?_;exact⟨k,J,_,d⟩
 | var j=>
  unfold dL at hu;obtain⟨hj,rfl⟩:=hu;cases hr;refine bG ?_;exact⟨k,J⟩
 | comp name args=>
  obtain⟨b,av,vs,rfl,-,-⟩:=by unfold dL at hu;exact hu
  obtain⟨ao,cap,gN,N⟩:=FO hu;unfold eu at M;have JC:=(bB.drew (bB.refl (fun _ _=>False) w2)).block _ _ gN (fun h=>h);refine cO JC ?_;refine a1a (aoo name args.length w2.drew) ?_;rintro e w3 ⟨rfl,rfl⟩;refine bG ?_;have su:di D w w2.drew:=yF;have eY:iK name args.length≠0->args.length=2:=fun h=>by
   unfold iK at h;grind
  by_cases o:iK name args.length=0
  .have hr:r = .error (.fault 8):=by
    grind
   subst hr;have g:¬ (0:Int)<((iK name args.length:Nat):Int):=zo;refine cO g ?_;exact⟨su,J⟩
  .obtain⟨x,y,rfl⟩:∃ x y,args=[x,y]:=by
    have:=eY o
    match args,this with
    | [x,y],_=>grind
   have o:iK name 2≠0:=o;simp only[zip o] at hr;have g:(0:Int)<((iK name [x,y].length:Nat):Int):=by
    omega
   refine cO g ?_;obtain⟨ab,zI,v0,rfl,nz,F,Qh⟩:=N 0 zs;obtain⟨LA,zJ,v1,Q,l,Ug,H⟩:=N 1 zs;have Q:ab=LA:=zg;subst Q;rw[nz] at l;cases l;have R:Ext w2 w2.drew.drew:=yF;have I:∀ {w':Z},di D w2 w'->w'.heap[b]?=aN #[aT name,.slice (O ⟨ab,0,V⟩) [x,y].length cap] 180:=(by grind [lN,di.bK]);have S:∀ {w':Z},di D w2 w'->w'.heap[ab]?=aN zI 89:=(by grind [lN,di.bK]);refine⟨fun w'=>di D w2 w',yF,?_⟩;refine toPr ?_;refine bG ?_;refine cS (pp b) (fun w' c=>eV) ?_;refine cS (aT name) (fun w' c=>by have:=I c;exact fm @this) ?_;refine bG ?_;refine cS (pq b 1) (fun w' c=>eV) ?_;refine cS (.slice (O ⟨ab,0,V⟩) [x,y].length cap) (fun w' c=>by have:=I c;exact fm @this) ?_;refine cS (pp ab) (fun w' c=>eV) ?_;refine cS v0 (fun w' c=>by have:=S c;exact mn @this F) ?_;refine bG ?_;refine cS (pq b 1) (fun w' c=>eV) ?_;refine cS (.slice (O ⟨ab,0,V⟩) [x,y].length cap) (fun w' c=>by have:=I c;exact fm @this) ?_;refine cS (pq ab 1) (fun w' c=>eV) ?_;refine cS v1 (fun w' c=>by have:=S c;exact mn @this Ug) ?_;have tK:di D w w2.drew.drew:=yF;have i:=Jb M.2.2;cases p:uI f x s.dec with
   | none=>rw[p] at hr;cases hr
   | some r1=>
   rw[p] at hr;refine a1a (ih f zo (d.ext R) (Qh.bK (rH.eo R)) i.1 (a1d (Nat.sub_le _ _) E) p) ?_;rintro e w5 ⟨uf,q⟩;cases r1 with
   | error t=>
    cases hr;have q:e=ig t:=q;subst q;cases t<;>exact fun _=>⟨yF,J⟩
   | ok p1=>
   obtain⟨U,s1⟩:=p1;obtain⟨rfl,LC,g1⟩:=q;obtain⟨t1,t2,t3⟩:=Eh f (s:=s.dec) h.ok i.1 p;have W:di D w2 w5:=yF;refine⟨W,?_⟩;simp only[P.Out.ee] at hr;cases K:uI f y s1 with
   | none=>rw[K] at hr;cases hr
   | some r2=>
   rw[K] at hr;have eg:s1.fuel<=1000000000:=a1d t2 (a1d (Nat.sub_le _ _) E);refine a1a (ih f zo g1 (H.bK W.toT) i.2 eg K) ?_;rintro e w6 ⟨ln,B⟩;cases r2 with
   | error t=>
    cases hr;have B:e=ig t:=B;subst B;cases t<;>exact fun _=>⟨yF,J⟩
   | ok p2=>
   obtain⟨z2,s2⟩:=p2;obtain⟨rfl,yr,g2⟩:=B;refine⟨yF,?_⟩;simp only[P.Out.ee] at hr;refine a1a (aKL name U z2 w6) ?_;rintro e w7 ⟨G5,C⟩;have m:di D w w7:=yF;cases X:P.reckon name U z2 with
   | error t=>
    rw[X] at hr C;injection hr with hr;subst hr C;cases t<;>exact fun _=>⟨m,J⟩
   | ok z=>
    rw[X] at hr C;injection hr with hr;subst hr C;exact⟨m,J,_,g2.ext G5⟩
end
def fJ.at'{w:Z}{a:TypeId}(h:fJ F w a v vs)(c:j<vs.length):∃ b cs,v = cV b vs.length cs.size/\F b/\w.heap[b]?=aN cs a/\cs[j]?=vs[j]?:=by
 rcases h with⟨rfl,rfl⟩| ⟨b,cs,rfl,g1,g2,g3,g4⟩<;>grind
theorem fJ.sl{w:Z}{d:TypeId}(h:fJ F w d v vs):∃ a c,v = .slice a vs.length c:=by
 rcases h with⟨rfl,rfl⟩| ⟨b,cs,rfl,g1,g2,g3,g4⟩
 .exact⟨_,_,J⟩
 grind
section
variable{D:Nat->Prop}{ρ:Nat->Nat}{n sb so T:Nat}{cs:Array Y}
def aKO(name:Bs){w:Z}{t:Tm}(h:dR ρ n w v t):Calls bbm 220 #[aT name,v] w fun e w'=>e = ah (.bool (P9 name t))/\w'=w:=by
 refine aJW ?_;cases t with
 | atom a=>
  unfold dR dL at h;subst h;unfold P9;by_cases b:name=[110,111,110,118,97,114]
  .refine cO b ?_;simp
  .refine cO b ?_;grind
 | int a=>
  unfold dR dL at h;subst h;unfold P9;by_cases b:name=[110,111,110,118,97,114]
  .refine cO b ?_;simp
  .refine cO b ?_;grind
 | var i=>
  unfold dR dL at h;obtain⟨-,rfl⟩:=h;unfold P9;refine bG ?_;grind
 | comp a l=>
  unfold dR dL at h;obtain⟨_,_,_,rfl,-⟩:=h;unfold P9;refine bG ?_;grind
def ae6{w:Z}{args:List Tm}(c:fJ (fun _=>True) w 89 av vs)(ht:qp ρ n w vs args)(d:j<args.length) :
  ∃ ab cap a v,av = cV ab args.length cap/\w.heap[ab]?=aN a 89/\a[j]?=O v/\dR ρ n w v args[j]:=by
 have e:=ht.length;obtain⟨v,f,g⟩:=ht.at j d;obtain⟨b,a,h,-,i,k⟩:=c.at' (j:=j) zo;exact⟨b,a.size,a,v,by rw[h,e],i,by rw[k];exact f,g⟩
def aoM(o:vS so T cs){w:Z}{s:Sr}{name:Bs}{args:List Tm}{r:Except jQ (Bool×Sr)}(h:ie D ρ n sb so T cs tv w s)(hD:∀ b,w.heap.size<=b->D b)
  (ha:fJ (fun _=>True) w 89 av vs) (ht:qp ρ n w vs args) (dj:jy args) (Q:jW name=args.length) (hz:s.cW<=900000000) (hr:yk f name args s=O r) :
  Calls bbm 213 #[pq sb so,aT name,av] w (EPost D w (xG D ρ n sb so T cs) r):=by
 have KC:s.tr.length+s.fuel<=900000000:=hz;have c:Ext w w.drew:=yF;have I:∀ b,w.drew.heap.size<=b->D b:=hD;have two:args.length=2->∃ ab cap q v0 v1,av = cV ab 2 cap/\w.heap[ab]?=aN q 89/\q[0]?=O v0/\q[1]?=O v1 /\
   dR ρ n w v0 (args.getD 0 default)/\dR ρ n w v1 (args.getD 1 default)/\eu (args.getD 0 default)/\eu (args.getD 1 default):=fun hl=>by
  obtain⟨x,y,rfl⟩:∃ x y,args=[x,y]:=match args,hl with
   | [x,y],_=>zg
  obtain⟨ab,cap,zI,v0,e0,g0,i,t0⟩:=ae6 ha ht (j:=0) zo;obtain⟨LA,rU,zJ,v1,e1,g1,k,t1⟩:=ae6 ha ht (j:=1) zo;rw[e0] at e1;simp only[a1r,a07,Addr.mk.injEq,and_true,true_and] at e1;obtain⟨rfl,rfl⟩:=e1;grind [Jb]
 refine aJX ?_;unfold yk at hr;by_cases R:name=[116,114,117,101]
 .subst R;rw[zip rfl] at hr;cases hr;refine⟨fun _ _=>False,?_,by rintro _ _ h;exact h.elim⟩;refine bG ?_;exact⟨yF,J,_,h⟩
 rw[bI R] at hr;by_cases S:name=[61]
 .subst S;rw[zip rfl] at hr;obtain⟨ab,cap,q,v0,v1,rfl,g0,i,k,t0,t1,l,o1⟩:=two (by have:(2:Int)=args.length:=Q;omega);have E:=c.ext _ _ g0;refine⟨fun _ _=>False,?_,by rintro _ _ h;exact h.elim⟩;refine jk @E @i @k ?_;refine a1a (QD o f (h.ext c) I (t0.bK (rH.eo c)) l (t1.bK (rH.eo c)) o1 hz hr) ?_;exact fun e w4 a=>(a.of yF).TV
 rw[bI S] at hr;by_cases U:name=[92,61]
 .subst U;rw[zip rfl] at hr;obtain⟨ab,cap,q,v0,v1,rfl,g0,i,k,t0,t1,l,o1⟩:=two (by have:(2:Int)=args.length:=Q;omega);refine⟨fun _ _=>False,?_,by rintro _ _ h;exact h.elim⟩;refine bG ?_;refine a1a (TY h o) ?_;rintro e w1 ⟨rfl,rfl⟩;have c:Ext w1 w1.drew:=yF;have E:=c.ext _ _ g0;refine dM @E @g0 @i @k ?_;cases g:lS f (args.getD 0 default) (args.getD 1 default) s with
  | none=>rw[g] at hr;cases hr
  | some K=>
  rw[g] at hr;refine a1a (QD o f (h.ext c) I (t0.bK (rH.eo c)) l (t1.bK (rH.eo c)) o1 hz g) ?_;rintro e w2 ⟨L,a⟩;cases K with
  | error t=>
   cases hr;have a:e=ig t:=a;subst a;cases t<;>exact⟨(di.eo c).trans L,J⟩
  | ok p=>
   obtain⟨b1,s1⟩:=p;obtain⟨rfl,LC,F⟩:=a;cases hr;have hsu:=(N2 f).tm g;have Yr:=((FB f).tm g).1;have aWt:s1.tr.length+s1.fuel<=s.tr.length+s.fuel:=Yr;refine bG ?_;refine a1a (aeG F o hsu.length_le zg) ?_;rintro e w3 ⟨rfl,eK,tv3,h3⟩;refine bG ?_;exact⟨(di.eo c).trans yF,J,_,h3⟩
 rw[bI U] at hr;by_cases W:name=[61,61]
 .subst W;rw[zip rfl] at hr;obtain⟨ab,cap,q,v0,v1,rfl,g0,i,k,t0,t1,l,o1⟩:=two (by have:(2:Int)=args.length:=Q;omega);have E:=c.ext _ _ g0;refine⟨fun _ _=>False,?_,by rintro _ _ h;exact h.elim⟩;refine jk @E @i @k ?_;refine a1a (aKI o f (h.ext c) (t0.bK (rH.eo c)) l (t1.bK (rH.eo c)) o1 zo hr) ?_;exact fun e w4 a=>(a.of yF).TV
 rw[bI W] at hr;by_cases X:name=[105,115]
 .subst X;rw[zip rfl] at hr;obtain⟨ab,cap,q,v0,v1,rfl,g0,i,k,t0,t1,l,o1⟩:=two (by have:(2:Int)=args.length:=Q;omega);have E:=c.ext _ _ g0;refine⟨fun _ _=>False,?_,by rintro _ _ h;exact h.elim⟩;refine bG ?_;refine⟨fun w'=>di D w w',yF,?_⟩;refine toPr ?_;refine cS (pp ab) (fun w' B=>eV) ?_;refine cS v0 (fun w' B=>by have:=di.bK B (by unfold lN;decide) g0;exact mn @this @i) ?_;refine dF @E @k ?_;cases g:uI f (args.getD 1 default) s with
  | none=>rw[g] at hr;cases hr
  | some K=>
  rw[g] at hr;refine a1a (ae2 o f (h.ext c) (t1.bK (rH.eo c)) o1 zo g) ?_;rintro e w2 ⟨L,a⟩;have m:di D w w2:=(di.eo c).trans L;cases K with
  | error t=>
   cases hr;have a:e=ig t:=a;subst a;cases t<;>exact fun _=>⟨m,J⟩
  | ok p=>
   obtain⟨z,s1⟩:=p;obtain⟨rfl,LC,F⟩:=a;obtain⟨q1,q2,q3⟩:=Eh f h.ok o1 g;simp only[P.Out.ee] at hr;refine⟨m,?_⟩;refine bG ?_;refine⟨m,?_⟩;have hzi:dR ρ n w2 (aj 172 (zi z)) (.int z):=by unfold dR dL;rfl
   refine a1a (QD o f F (fun b hb=>hD b (a1d m.size hb)) (t0.bK m.toT) l hzi (by unfold eu;exact q3) (show s1.tr.length+s1.fuel<=900000000 by grind) hr) ?_;exact fun e w4 a=>(a.of m).aJ1
 rw[bI X] at hr;by_cases C:name∈[[118,97,114],[110,111,110,118,97,114],[97,116,111,109],[105,110,116,101,103,101,114]]
 .rw[zip C] at hr;have BK:args.length=1:=by
   have:jW name=1:=by
    simp only[a1g,a1l,or_false] at C;rcases C with rfl | rfl | rfl | rfl<;>decide
   omega
  obtain⟨x,rfl⟩:∃ x,args=[x]:=match args,BK with
   | [x],_=>⟨x,J⟩
  obtain⟨ab,cap,zI,v0,rfl,g0,i,t0⟩:=ae6 ha ht (j:=0) zs;have t0:dR ρ n w v0 x:=t0;refine⟨fun _ _=>False,?_,by rintro _ _ h;exact h.elim⟩;cases hw:fE s.tr f x with
  | none=>rw[show([x].getD 0 default)=x from J,hw] at hr;cases hr
  | some t'=>
  rw[show([x].getD 0 default)=x from J,hw] at hr;injection hr with hr;simp only[a1g,a1l,or_false] at C;refine dM @R @S @U (zA @W @X) ?_;refine⟨fun s w'=>w'=w/\s 64 = .bool A,?_,?_⟩
  .rcases C with rfl | rfl | rfl | rfl<;>simp (disch:=first|assumption|omega|simp only[zS]<;>omega|decide) only[zB,simprocAttr,lE]<;>simp
  .rintro s' w' ⟨rfl,M⟩ d;rw[M];refine dF @g0 @i ?_;refine a1a (Hs h.sv t0 hw) ?_;rintro e w2 ⟨rfl,u,rfl,hu⟩;refine bG ?_;refine a1a (aKO name hu) ?_;rintro e w3 ⟨rfl,rfl⟩;rw[<- hr];exact⟨yF,J,_,h⟩
 rw[bI C] at hr;by_cases n7:name=[102,97,105,108]
 .subst n7;rw[zip rfl] at hr;cases hr;refine⟨fun _ _=>False,?_,by rintro _ _ h;exact h.elim⟩;refine bG ?_;refine⟨fun s w'=>w'=w/\s 64 = .bool G,?_,?_⟩
  .simp (disch:=first|assumption|omega|simp only[zS]<;>omega|decide) only[zB,simprocAttr,lE,jv];simp
  .rintro s w' ⟨rfl,M⟩ d;refine cO M ?_;exact⟨yF,J,_,h⟩
 rw[bI n7] at hr;simp only[a1g,a1l,or_false,not_or] at C;obtain⟨m1,m2,m3,m4⟩:=C;have pG:args.length=2:=by
  have F:jW name=if name∈[[61],[92,61],[61,61],[105,115],[60],[62],[61,60],[62,61],[61,58,61]] then 2 else -1:=by
   unfold jW;grind
  omega
 obtain⟨ab,cap,q,v0,v1,rfl,g0,i,k,t0,t1,l,o1⟩:=two pG;refine⟨fun _ w'=>w'=w,?_,?_⟩
 .refine dM @R @S @U (zA @W @X) ?_;refine⟨fun s w'=>w'=w/\s 64 = .bool G,?_,?_⟩
  .exact Bt @m1 @m2 @m3 @m4
  .rintro s w' ⟨rfl,M⟩ d;exact mn M @n7
 rintro s' w' rfl d;have c:Ext w' w'.drew:=yF;refine⟨fun w2=>di D w' w2,yF,?_⟩;refine toPr ?_;refine cS (pp ab) (fun w2 B=>eV) ?_;refine cS v0 (fun w2 B=>by have:=di.bK B (by unfold lN;decide) g0;exact mn @this @i) ?_;refine cS (pq ab 1) (fun w2 B=>eV) ?_;refine cS v1 (fun w2 B=>by have:=di.bK B (by unfold lN;decide) g0;exact mn @this @k) ?_;cases g:uI f (args.getD 0 default) s with
 | none=>rw[g] at hr;cases hr
 | some K=>
 rw[g] at hr;refine a1a (ae2 o f (h.ext c) (t0.bK (rH.eo c)) l zo g) ?_;rintro e w2 ⟨L,a⟩;have m:di D w' w2:=(di.eo c).trans L;cases K with
 | error t=>
  cases hr;have a:e=ig t:=a;subst a;cases t<;>exact fun _=>⟨m,J⟩
 | ok p=>
 obtain⟨z,s1⟩:=p;obtain⟨rfl,LC,F⟩:=a;obtain⟨q1,q2,q3⟩:=Eh f h.ok l g;have q2:s1.fuel<=s.fuel:=q2;simp only[P.Out.ee] at hr;refine⟨m,?_⟩;cases ji:uI f (args.getD 1 default) s1 with
 | none=>rw[ji] at hr;cases hr
 | some r2=>
 rw[ji] at hr;refine a1a (ae2 o f F (t1.bK m.toT) o1 zo ji) ?_;rintro e w3 ⟨eK,a⟩;have H:di D w' w3:=yF;cases r2 with
 | error t=>
  cases hr;have a:e=ig t:=a;subst a;cases t<;>exact fun _=>⟨H,J⟩
 | ok p=>
 obtain⟨z2,s2⟩:=p;obtain⟨rfl,yr,N⟩:=a;cases hr;unfold amQ;by_cases c1:name=[60]
 .refine cO @c1 ?_;exact⟨H,J,_,N⟩
 by_cases c2:name=[62]
 .refine cO @c2 ?_;exact⟨H,J,_,N⟩
 by_cases c3:name=[61,60]
 .refine cO @c3 ?_;exact⟨H,J,_,N⟩
 by_cases c4:name=[62,61]
 .refine cO @c4 ?_;exact⟨H,J,_,N⟩
 refine dM @c1 @c2 @c3 @c4 ?_;exact⟨H,zg,_,N⟩
end
def ae8{w:Z}{name:Bs}{x0 f:Tm}(h:dR ρ n w (aj 175 (pp b)) (.comp name [x0,f])) :
  ∃ ab cap a c d,w.heap[b]?=aN #[aT name,cV ab 2 cap] 180/\w.heap[ab]?=aN a 89/\a[0]?=O c/\a[1]?=O d/\dR ρ n w c x0/\dR ρ n w d f:=by
 obtain⟨i,cap,j,g⟩:=FO h;obtain⟨ab,a,c,rfl,k,l,m⟩:=g 0 zs;obtain⟨o,p,d,e,q,r,s⟩:=g 1 zs;exact yH
def aKS(ih:∀ g,g<=f->CW g){T:Nat}{w:Z}{s:Ws}{name:Bs}{x y:Tm}{r:Option Ws}(hx:xE tr wb pb so T cs)(hs:Ht ρ n tr wb pb so T cs w s)
  (hu:dR ρ n w (aj 175 (pp b)) (.comp name [x,y])) (dj:eu (.comp name [x,y]))
  (hB:s.cW<=900000100-60) (A2:s.seen.length<=s.out.length) (hr:oZ tr (f+1) 91 x y s=O r) :
  Calls bbm 96 #[pp wb,pp b] w (BV ρ n tr wb pb so T cs w (s.cW+30) r):=by
 obtain⟨nm,h⟩:=hs;refine aJJ ?_;refine⟨fun m z w'=>∃ P k EC sep Db B p,z 1=pp P/\z 4 = .int .u8 (sep:UInt8).toNat/\lU ρ n tr wb pb so T cs EC w' k/\mL wb pb w w' /\
  dR ρ n w' (aj 175 (pp P)) (.comp Db [B,p])/\eu (.comp Db [B,p])/\m<=f+1/\oZ tr m sep B p k=O r/\k.cW<=s.cW/\k.seen.length<=k.out.length,
  ⟨f+1,b,s,nm,91,name,x,y,J,J,h,bB.refl _ _,hu,dj,a1c _,hr,a1c _,A2⟩,?_⟩
 intro m z d w3 hI;refine toPr ?_;obtain⟨P,k,EC,sep,Db,B,p,q,zb,h3,ea,Ol,aKT,hm,j,aoF,Ly⟩:=hI;have aoG:k.cW=k.out.length+60*k.fuel:=rfl;obtain⟨ad3,aKj,aKk,eP,Nt⟩:=id h3.bu;have C:=aKT;unfold eu at C;obtain⟨pF,Jz⟩:=Jb C.2.2;cases m with
 | zero=>simp [oZ] at j
 | succ g=>
 rw[oZ] at j;refine dF q zb ?_;refine(Oe h3 hx sep zo J).mono ?_;rintro e w4 ⟨⟨v4,rfl⟩,h4,eF⟩;have Yl:=ea.trans eF;have LK:=Ol.bK (h3.kv hx eF).toT;obtain⟨ab,cap,zI,u0,u1,D,E,k3,Q,k5,R⟩:=ae8 LK;refine dM q @D @E @k3 ?_;have aeN:(k.add [sep]).cW=k.cW+1:=Ws.pO ..;cases F:ix tr g B 0 (k.add [sep]) with
 | none=>simp [F,Wb] at j
 | some r1=>
 refine a1a ((ih g zo).tm (least:=0) hx ⟨_,h4⟩ k5 pF zo (o9 Ly) F) ?_;rintro e w5 oB;have oC:=oB.of (B':=s.cW+30) Yl zo;cases r1 with
 | none=>
  simp only[F,Wb,a07] at j;subst j;obtain⟨g1,rfl,g2⟩:=oC;exact⟨g1,J,g2⟩
 | some o=>
  obtain⟨jc,rfl,On,t⟩:=oC;obtain⟨l1,l2⟩:=(K5 hx.tok g).tm _ _ _ _ pF zo (o9 Ly) F;simp only[F,Wb] at j;have Ys:mL wb pb w4 w5:=oB.1;have Yt:=LK.bK (h4.kv hx Ys).toT;obtain⟨ab,cap,zI,u0,u1,D,E,k3,Q,k5,R⟩:=ae8 Yt;obtain⟨ad5,aWv,aWw,Uj,aWx⟩:=id t.bu;have aKw:o.cW=o.out.length+60*o.fuel:=rfl;refine bG ?_;refine⟨fun H w'=>H 1=pp P/\w'=w5/\Wb (ix tr g p 0 (o.add [124])) (fun s=>O (O (s.add [93])))=O r,?_,?_⟩
  .refine dM q @D @E @Q ?_;cases hw:fE tr g p with
   | none=>simp [hw] at j
   | some t'=>
   rw[hw] at j;refine a1a (Hs t.st R hw) ?_;rintro e w6 ⟨rfl,u,rfl,l⟩;have aKU:=tY hx.tok Jz hw;cases t' with
   | atom a=>
    unfold dL at l;subst l;refine bG ?_;dsimp only at j;by_cases S:a=[91,93]
    .rw[zip S] at j;refine cO S ?_;refine(Oe t hx 93 zo J).mono ?_;rintro e w7 ⟨⟨v7,rfl⟩,h7,U⟩;cases j;exact⟨jc.trans U,J,_,h7⟩
    .rw[bI S] at j;refine cO S ?_;exact⟨q,j⟩
   | int a=>
    unfold dL at l;subst l;refine bG ?_;exact⟨q,j⟩
   | var i=>
    unfold dL at l;obtain⟨hi,rfl⟩:=l;refine bG ?_;exact⟨q,j⟩
   | comp I W=>
    have K:=l;unfold dL at l;obtain⟨b2,uR,Tu,rfl,-⟩:=l;obtain⟨ao2,GY,q1,-⟩:=FO K;refine cO @q1 ?_;refine⟨fun H w'=>w'=w6/\H 42 = .bool (decide (I=[46]/\W.length=2)),?_,?_⟩
    .by_cases hn:I=[46]
     .refine dF @q1 hn ?_;simp [jv];omega
     .refine dF @q1 hn ?_;grind
    .rintro H w' ⟨rfl,aKW⟩ d2;rw[aKW];dsimp only at j;by_cases X:I=[46]/\W.length=2
     .rw[GB _ _ X];obtain⟨x2,y2,rfl⟩:∃ x2 y2,W=[x2,y2]:=by
       match W,X.2 with
       | [x2,y2],_=>grind
      dsimp only at j;rw[zip X.1] at j;exact⟨g,zo,b2,o,On,44,I,x2,y2,by grind [jv],by grind [jv],t,jc,K,aKU,zo,j,zo,l2⟩
     .rw[GC _ _ X];refine⟨by grind [jv],J,?_⟩;split at j
      .rename_i c d';have Ko:¬ I=[46]:=zg;rw[bI Ko] at j;exact j
      .exact j
  .rintro H w' ⟨L,rfl,M⟩ d2;refine cO L ?_;refine(Oe t hx 124 zo J).mono ?_;rintro e w7 ⟨⟨v7,rfl⟩,h7,U⟩;have aKX:=jc.trans U;have Yv:=Yt.bK (t.kv hx U).toT;obtain⟨ab,cap,zI,u0,u1,D,E,k3,Q,k5,R⟩:=ae8 Yv;refine dM L @D @E @Q ?_;have aWz:(o.add [124]).cW=o.cW+1:=Ws.pO ..;cases N:ix tr g p 0 (o.add [124]) with
   | none=>simp [N,Wb] at M
   | some r2=>
   refine a1a ((ih g zo).tm (least:=0) hx ⟨_,h7⟩ R Jz zo (o9 l2) N) ?_;rintro e w8 LB;have Xk:=LB.of (B':=s.cW+30) aKX zo;cases r2 with
   | none=>
    simp only[N,Wb,a07] at M;subst M;obtain⟨g1,rfl,g2⟩:=Xk;exact⟨g1,J,g2⟩
   | some s8=>
    obtain⟨Yw,rfl,nm8,h8⟩:=Xk;obtain⟨l3,l4⟩:=(K5 hx.tok g).tm _ _ _ _ Jz zo (o9 l2) N;simp only[N,Wb,a07] at M;subst M;have aWB:s8.cW=s8.out.length+60*s8.fuel:=rfl;obtain⟨ad8,aWD,aWE,hb8,aWG⟩:=id h8.bu;refine bG ?_;refine(Oe h8 hx 93 zo J).mono ?_;rintro e w9 ⟨⟨v9,rfl⟩,h9,CJ⟩;exact⟨Yw.trans CJ,J,_,h9⟩
def cw:∀ f,CW f:=by
 intro f;induction f using Nat.strongRecOn with
 | _ f ih=>
  cases f with
  | zero=>
   exact⟨fun _ _ _ _ _ _ h=>by simp [ix] at h,fun _ _ _ _ _ _ h=>by simp [rB] at h,fun _ _ _ _ _ _ h=>by simp [oZ] at h⟩
  | succ f=>
   have i:∀ g,g<=f->CW g:=zg;exact⟨fun a b c d e g h=>aJ8 zg a b c d e g h,fun a b c d e g h=>aKg i a b c d e g h,fun a b c d e g h=>aKS i a b c d e g h⟩
def aKY:(Tryz.prog.info? 89).map (fun i=>(i.zero,i.size,i.bytes))=O (O ai,1,16):=zk
def QG{w:Z}(d:w.ownsRow base 89 1 v n xs){m:Nat}{a:Y}
  (f:w.heap[b]?=aN #[a] 89) (q:a.oneCell'=A)
  (r:n<=100000000) (g:base<=w.heap.size) {K:Y->Z->Prop}
  (h:∀ v' w',w'.ownsRow base 89 1 v' (n+1) (xs++[a])->w.grownBy w' v.ownBlock->(v'.ownBlock=v.ownBlock\/∀ k,v'.ownBlock=O k->w.heap.size<=k)->K v' w') :
  WR bbm (Builtin.append_ #[82,82] 82 #[v,cV b 1 m]) w K X:=by
 obtain⟨i,j,c⟩:=a1C.1 aKY;simp only[Prod.mk.injEq] at c;obtain⟨l,o,p⟩:=c;refine Sx.DP (m:=1) (t:=82) (e:=89) zk j l o p J zo d f J (fun u hu=>?_) zo zo g h;grind
abbrev mM(ρ:Nat->Nat)(ids:List Nat):List Y:=ids.map fun i=>aj 87 (pp (ρ i))
def eM.at'{F:Nat->Prop}{w:Z}:∀ {xs:List Ex} {vs:List Y} (j:Nat) (a:j<xs.length),eM F w vs xs->∃ v,vs[j]?=O v/\eL F w v xs[j]
 | x::xs,vs,0,_,h=>by
  unfold eM at h;grind
 | x::xs,vs,j+1,a,h=>by
  unfold eM at h;obtain⟨u,r,rfl,c,b⟩:=h;simpa using eM.at' j zg b
def eM.FV{F:Nat->Prop}{w:Z}:∀ {xs:List Ex} {vs:List Y},eM F w vs xs->vs.length=xs.length
 | [],vs,h=>by unfold eM at h;subst h;rfl
 | x::xs,vs,h=>by
  unfold eM at h;obtain⟨u,r,rfl,b,a⟩:=h;simp [eM.FV a]
def ae9(vs:List Nat):∀ (l:List Ex) (j:Nat) (a:j<l.length),km vs (l.take (j+1))=km vs (l.take j)++[P.made vs l[j]]
 | x::xs,0,_=>by simp [km]
 | x::xs,j+1,a=>by
  have:=ae9 vs xs j zg;simp only[List.take_succ_cons,km,List.cons_append,List.getElem_cons_succ];rw[this]
def Yx{ρ:Nat->Nat}{n:Nat}{ids:List Nat}(JE:∀ i∈ids,i<n):∀ (N:Nat) (x:Ex),gy x<=N->gR ids.length x->∀ {F f:Nat->Prop} {w:Z} {v vv:Y},eL F w v x->fJ f w 89 vv (mM ρ ids) ->
  Calls bbm 32 #[v,vv] w fun e w'=>Ext w w'/\∃ u,e = ah u/\dL (Nu w w') ρ n w' u (P.made ids x)
 | 0,x,L,_,_,_,_,_,_,_,_=>by cases x;simp [gy] at L
 | N+1,.mk kind name k kv args,L,dj,F,f,w,v,vv,hv,xn=>by
  have ih:=Yx (ρ:=ρ) (n:=n) JE N;unfold gR at dj;obtain⟨o1,o2,o3,o4,o5,o6,o7,o8⟩:=dj;unfold eL at hv;obtain⟨b,av,dw,rfl,hF,p,hs,hx⟩:=hv;unfold gy at L;obtain⟨m0,g⟩:=cg (P.made ids (.mk kind name k kv args));rw[<- g];unfold P.made at g;refine aJD ?_;by_cases B:kind=97
  .subst B;rw[zip rfl] at g;subst g;have C:((97:Nat):Int)=97:=rfl;refine dF p @C ?_;refine⟨yF,?_⟩;unfold dL;grind
  .have aWH:¬ (kind:Int)=97:=zo;rw[bI B] at g;by_cases A8:kind=110
   .subst A8;rw[zip rfl] at g;subst g;have C:((110:Nat):Int)=110:=rfl;refine dF p @C ?_;refine⟨yF,_,J,?_⟩;unfold dL;rfl
   .have aWI:¬ (kind:Int)=110:=zo;rw[bI A8] at g;by_cases Hz:kind=118
    .subst Hz;rw[zip rfl] at g;subst g;have C:((118:Nat):Int)=118:=rfl;have Qz:=o4 J;have hl:(mM ρ ids).length=ids.length:=zs;obtain⟨gb,M,rfl,g1,g2,g3⟩:=xn.at' (j:=kv) (by rw[hl];exact Qz);have Q:M[kv]?=O (aj 87 (pp (ρ ids[kv]))):=by
      grind
     have R:(kv:Int).toNat=kv:=zo;rw[hl];refine dM p @C @g2 (zA @Q @R) ?_;refine⟨yF,_,J,?_⟩;unfold dL;have S:ids.getD kv 0=ids[kv]:=zg;rw[S];exact⟨(by grind [List.getElem_mem]),J⟩
    .have aWJ:¬ (kind:Int)=118:=zo;obtain⟨sa,sc,rfl⟩:=hs.sl;have Hf:=hx.FV;have lb:=bh p;rw[bI Hz] at g;subst g;refine cO p ?_;refine⟨fun m z w'=>∃ j I vs,z 46=zi (j:Nat)/\j<=args.length/\m=args.length-j/\Ext w w'/\w'.heap[w.heap.size]?=aN #[aT name,I] 180 /\
      w'.ownsRow (w.heap.size+1) 89 1 I j vs/\iT (fun c=>w.heap.size<c/\c<w'.heap.size/\O c≠I.ownBlock) ρ n w' vs (km ids (args.take j)),
      ⟨_,0,bX,[],J,Nat.zero_le _,J,yF,yH,World.ownsRow_nil _ _ _ _,by simp [km];unfold iT;rfl⟩,?_⟩
     intro m z d w3 hI;refine toPr ?_;obtain⟨j,I,vs,T,hj,rfl,D,q3,r,U⟩:=hI;have s3:=D.size;have l3:=bh q3;obtain⟨s,rc,rfl⟩:=il r;by_cases hlt:j<args.length
     .have qY:j<dw.length:=zo;obtain⟨sb,JF,e1,e2,Q,e4⟩:=hs.at' qY;obtain⟨u,S,hu⟩:=eM.at' j hlt hx;rw[S] at e4;simp only[a1r,true_and] at e1;obtain⟨rfl,rfl⟩:=e1;have jV:((j:Nat):Int).toNat=j:=zo;have W:=D.ext _ _ Q;refine dM T @W @e4 @jV ?_;refine⟨fun w'=>w'.heap[w.heap.size]?=aN #[aT name,.slice s j rc] 180,q3,?_⟩;refine bG ?_;refine cS (pq w.heap.size 1) (fun w' _=>eV) ?_;refine cS (.slice s j rc) (fun w' hS=>fm hS) ?_;have QH:gy args[j]<=N:=by
       have:∀ (l:List Ex) (j:Nat) (hj:j<l.length),gy l[j]<=fB l:=by
        intro l;induction l with
        | nil=>grind
        | cons a l ihl=>
         grind [fB]
       grind
      have X:Ext w w3.drew:=D.drew;have NO:∀ {H:Nat->Prop} {y:Ex} {v':Y},eL H w v' y->eL H w3.drew v' y:=fun h=>eL.mono zg (by grind [bB.ext]) _ _ h;refine a1a (ih args[j] QH (o8.at hlt) (NO hu) (xn.mono (fun _ h=>h) fun b cs _ p=>X.ext _ _ p)) ?_;rintro e q ⟨gJ,u4,rfl,LK⟩;have s4:=gJ.size;rw[Ck] at s4;have K:Ext w3 q:=yF;have q4:=K.ext _ _ q3;have l4:=bh q4;refine⟨q4,?_⟩;obtain⟨tu,xu,rfl⟩:=LK.iface;refine bG ?_;have hX:Ext q (q.alloc (ae #[aj tu xu] 89)):=yF;refine⟨q4,?_⟩;have AH:=jY (K.trans hX).ext r;refine QG (base:=w.heap.size+1) AH (rR J) J zo (by rw[size_alloc];omega) ?_;intro v' w5 Ja zf yu;have s5:=zf.size;rw[size_alloc] at s5;have kp:∀ c o,q.heap[c]?=O o->O c≠(a1n s j rc).ownBlock->w5.heap[c]?=O o:=(by grind [size_alloc,bh,a2q,bB.ext]);have lo:∀ k,(a1n s j rc).ownBlock=O k->w.heap.size+1<=k/\k<w3.heap.size:=fun k hk=>r.lt k hk;have q5:=kp _ _ q4 (fun e=>by have:=lo _ e.symm;omega);have l5:=bh q5;obtain⟨QI,QJ,rfl⟩:=il Ja;refine⟨q5,?_⟩;refine dF @q5 T ?_;have kP:∀ c,c<q.heap.size->O c≠(a1n s j rc).ownBlock->O c≠(a1n QI (j+1) QJ).ownBlock:=yH;refine⟨_,?_,j+1,.slice QI (j+1) QJ,vs++[aj tu xu],zg,zo,J,?_,J,(by grind [Kz]),?_⟩
      .omega
      .refine bB.bS ?_ yH;exact((D.trans K).trans hX).grow zf yH
      .rw[ae9 ids args j hlt];have k5:∀ c o,c≠w.heap.size->O c≠(a1n s j rc).ownBlock->q.heap[c]?=O o->(bS w5 w.heap.size (ae #[aT name,.slice QI (j+1) QJ] 180)).heap[c]?=O o:=yH;refine iT.snoc ?_ ?_
       .refine dL.mono (F:=Nu w3.drew q) (fun c E=>?_) zo zg (fun c cs t E _ ho=>?_) _ _ LK
        .exact yH
        exact yH
       .refine iT.mono (fun c E=>?_) zo zg (fun c cs t E _ ho=>?_) _ _ U
        .exact yH
        .exact k5 c _ (by have:=E.1;omega) E.2.2 (K.ext _ _ ho)
     .have fD:j=args.length:=zo;subst fD;rw[List.take_length] at U;refine cO T ?_;refine⟨D,?_⟩;refine⟨_,J,?_⟩;unfold dL;refine⟨_,_,vs,J,yH,q3,Fi r (fun b p=>⟨by have:=(r.lt b p).1;omega,(r.lt b p).2⟩),?_⟩;exact iT.mono yH zo zg (fun _ _ _ _ _ h=>h) _ _ U
open Go.Proofs.YtoegidfbnkaabaaGreatDoor.Sx
section
variable{p0 p1 p2 p3 p4 p5 p6 p7:Y}{w:Z}{R:Ending->Z->Prop}
def aK0:=cz w R [p0,p1] (gc [(2,[4,9])] [] [10]) func228
def aK1:=cz w R [p0,p1] (gd [] [] [] [(0,[16,0,1,2,3,4,5,6,7,9,8,10,11,12,13,14,15])] [] [] []) func226
def aK2:=cz w R [p0,p1,p2,p3,p4] (gd [(9,[64])] [(6003,[])] [(4,9)] [(11,[11,0,1,2,3,4,5,6,7,8,9,10,11])] [] [] [10,24,65,79,80]) func224
def aK3:=cz w R [p0,p1,p2] (gd [] [(6001,[])] [(3,8)] [(4,[0,0,1,2,3,4,5,6,7,8,9,10,11,12]),(8,[21,0,1,2,3,4,5,6,7,9,10,11,12,13,14,8,15,16,17,18,19,20])] [] [] [6,23,32,46,81]) func227
def aK4:=cz w R [p0,p1] (gd [(13,[7])] [] [(4,12),(10,12),(21,19)] [(15,[25,0,1,2,3,4,5,6,7,8,9,10,11,12,13,14,15,16,17,18,19,20,21,22,23,24]),(17,[22,0,1,2,3,4,5,6,7,8,9,10,11,12,13,14,15,16,17,18,19,20,21]),(18,[24,0,1,2,3,4,5,6,7,8,9,10,11,12,13,14,15,16,17,18,19,20,21,22,23]),(20,[22,0,1,2,3,4,5,6,7,8,9,10,11,12,13,14,15,16,17,18,19,20,21]),(22,[21,0,1,2,3,4,5,6,7,8,9,10,11,12,13,14,15,16,17,18,19,20]),(26,[21,0,1,2,3,4,5,6,7,8,9,10,11,12,13,14,15,16,17,18,19,20])] [] [] [4,19,47,48,49,62,63,71,98,99,145,146,209,210]) func225
def aK5:=cz w R [p0] (gd [(2,[3])] [(11009,[])] [(7,7),(11,14)] [] [] [] [2,3,7,8,16,35,66,72,89]) func223
end
def oM(w:Z)(a:TypeId)(v:Y)(vs:List Y):Prop:=
 (vs=[]/\v = bX) \/
 ∃ b o cap cs,v = .slice (O ⟨b,o,V⟩) vs.length cap/\w.heap[b]?=aN cs a/\vs.length<=cap/\(cs.toList.drop o).take vs.length=vs/\vs≠[]
theorem oM.of{w:Z}{a:TypeId}(h:fJ F w a v vs)(c:vs≠[]):oM w a v vs:=by
 rcases h with h | ⟨b,cs,d,-,e,f,g⟩
 .grind
 .exact .inr yH
theorem oM.nil{w:Z}{a:TypeId}:oM w a bX []:=.inl ⟨J,J⟩
theorem oM.bK{w:Z}{a:TypeId}(h:oM w a v vs)(hw:∀ (b:Nat) (cs:Array Y),w.heap[b]?=aN cs a->w'.heap[b]?=aN cs a):oM w' a v vs:=by
 rcases h with h | ⟨b,o,cap,cs,c,d,e,f⟩
 .exact .inl h
 .exact .inr yH
theorem oM.at{w:Z}{a:TypeId}(h:oM w a v vs)(c:j<vs.length):∃ b o cap cs,v = .slice (O ⟨b,o,V⟩) vs.length cap/\w.heap[b]?=aN cs a/\cs[o+j]?=vs[j]?/\vs.length<=cap:=by
 rcases h with⟨rfl,-⟩| ⟨b,o,cap,cs,d,e,f,g,-⟩<;>grind
def oM.tail{w:Z}{a:TypeId}{x:Y}(h:oM w a (.slice (O ⟨b,o,V⟩) n cap) (x::vs))(d:vs≠[]):oM w a (sliced (O ⟨b,o,V⟩) 1 n cap 1) vs:=by
 rcases h with⟨h,-⟩| ⟨i,j,k,cs,c,e,f,g,-⟩
 .grind
 .simp only[a1r,a07,Addr.mk.injEq,and_true] at c;obtain⟨⟨rfl,rfl⟩,rfl,rfl⟩:=c;have m:vs.length≠0:=zg;simp only[List.length_cons] at f g;refine .inr ⟨b,o+1,cap-1,cs,?_,e,zo,?_,d⟩
  .unfold sliced;rw[bI zo];simp [Addr.add]
  .cases p:cs.toList.drop o with
   | nil=>grind
   | cons y l=>
    grind [List.tail_drop]
def QK(w:Z)(v:Y):Option Bd->Prop
 | none=>v = aq V
 | some b=>dP (fun _=>True) w v b
def uS(ρ:Nat->Nat)(n:Nat)(w:Z):Y->List P.Goal->Prop
 | v,[]=>v = aq V
 | v,g::r=>∃ b a vv nx,v = aq (O ⟨b,0,V⟩)/\w.heap[b]?=O (ae #[a,vv,.int .i64 (g.cut:Nat),nx] 207 (0,0))/\QK w a g.FD /\
  fJ (fun _=>True) w 89 vv (mM ρ g.vars)/\(∀ i∈g.vars,i<n)/\uS ρ n w nx r
def qZ(ρ:Nat->Nat)(n:Nat)(w:Z):List Y->List oJ->Prop
 | vs,[]=>vs=[]
 | vs,a::r=>∃ b cv av fZ us rest,vs=[.int .i64 (a.mark:Nat),b,cv,av]++rest/\uS ρ n w b a.todo/\oM w 79 cv fZ/\kE (fun _=>True) w fZ a.clauses /\
  fJ (fun _=>True) w 89 av us/\qp ρ n w us a.args/\qZ ρ n w rest r
def Uo(T:Nat):Prop:=lN T\/T=9\/T=57\/T=121
def yM{p:Prop}(h:p:=by first | (unfold Uo lN;decide) | (unfold lN;decide)):p:=h
def eR(w w':Z):Prop:=∀ (b:Nat) (cs:Array Y) (T:Nat),¬ Uo T->w.heap[b]?=aN cs T->w'.heap[b]?=aN cs T
def di.toI{w:Z}(h:di D w w'):eR w w':=fun _ _ _ a b=>h.bK (fun h=>a (.inl h)) b
theorem eR.eo{w:Z}(h:Ext w w'):eR w w':=fun _ _ _ _ a=>h.ext _ _ a
theorem eR.trans{a b c:Z}(h:eR a b)(k:eR b c):eR a c:=fun x cs T d e=>k x cs T d (h x cs T d e)
theorem eR.toT{w:Z}(h:eR w w'):Yc w w':=fun b cs t _ ht a=>h b cs t (by rcases ht with rfl | rfl<;>(first | (unfold Uo lN;decide) | (unfold lN;decide))) a
theorem eR.lG{w:Z}(h:eR w w'):∀ (b:Nat) (o:Obj),True->DR o->w.heap[b]?=O o->w'.heap[b]?=O o:=fun b o _ a c=>by
 cases o with
 | cells cs t z=>
  obtain⟨ht,rfl⟩:=a;exact h b cs t (by rcases ht with rfl | rfl | rfl | rfl<;>(first | (unfold Uo lN;decide) | (unfold lN;decide))) c
 | _=>exact a.elim
def dP.jn{w:Z}(hk:eR w w'){b:Bd}(h:dP (fun _=>True) w v b):dP (fun _=>True) w' v b:=dP.mono zg hk.lG b v h
theorem QK.bK{w w':Z}(hk:eR w w'){v:Y}:∀ {o:Option Bd},QK w v o->QK w' v o
 | none,h=>h
 | some _,h=>dP.jn hk h
def fJ.jn{w:Z}(hk:eR w w')(a:¬ Uo pb)(h:fJ (fun _=>True) w pb v vs):fJ (fun _=>True) w' pb v vs:=h.mono zg fun b cs _ c=>hk b cs pb a c
def Fw.jn{w w':Z}(hk:eR w w'){v:Y}{c:Cl}(h:Fw (fun _=>True) w v c):Fw (fun _=>True) w' v c:=by
 obtain⟨b,av,bv,a,d,e,f,g,⟨us,i,j⟩,k⟩:=h;exact⟨b,av,bv,a,d,e,f,hk _ _ _ (yM) g,⟨us,fJ.jn hk (yM) i,eM.mono zg hk.lG _ _ j⟩,dP.jn hk k⟩
def kE.jn{w w':Z}(hk:eR w w'):∀ {vs:List Y} {l:List Cl},kE (fun _=>True) w vs l->kE (fun _=>True) w' vs l
 | vs,[],h=>h
 | vs,c::l,⟨v,r,a,b,d⟩=>⟨v,r,a,b.jn hk,kE.jn hk d⟩
def eD(ρ:Nat->Nat)(n:Nat)(eQ:Nat->Nat)(a:Nat):Prop:=n<=a/\∀ i,i<n->eQ i=ρ i
theorem eD.refl(ρ:Nat->Nat)(n:Nat):eD ρ n ρ n:=⟨a1c _,zg⟩
theorem eD.trans{a b c:Nat->Nat}{i j k:Nat}(h:eD a i b j)(d:eD b j c k):eD a i c k:=⟨a1d h.1 d.1,fun x hx=>(d.2 x (a1G hx h.1)).trans (h.2 x hx)⟩
def aoT(h:eD ρ n ug pb){l:List Nat}(a:∀ i∈l,i<n):mM ug l=mM ρ l:=by
 unfold mM;exact List.map_congr_left fun i b=>by rw[h.2 i (a i b)]
def qp.QL{w:Z}(hk:eR w w')(hu:eD ρ n ug pb){l:List Tm}(h:qp ρ n w vs l):qp ug pb w' vs l:=iT.mono zg hu.1 hu.2 hk.toT _ _ h
def dR.QL{w:Z}(hk:eR w w')(hu:eD ρ n ug pb){t:Tm}(h:dR ρ n w v t):dR ug pb w' v t:=dL.mono zg hu.1 hu.2 hk.toT _ _ h
theorem uS.bK{ρ eQ:Nat->Nat}{n a:Nat}{w w':Z}(hk:eR w w')(hu:eD ρ n eQ a):∀ {l:List P.Goal} {v:Y},uS ρ n w v l->uS eQ a w' v l
 | [],v,h=>h
 | g::r,v,⟨b,d,vv,nx,e,f,j,k,c,m⟩=>⟨b,d,vv,nx,e,hk _ _ _ (yM) f,j.bK hk,by rw[aoT hu c];exact fJ.jn hk (yM) k,
  fun i o=>a1G (c i o) hu.1,uS.bK hk hu m⟩
theorem qZ.bK{ρ eQ:Nat->Nat}{n c:Nat}{w w':Z}(hk:eR w w')(hu:eD ρ n eQ c):∀ {l:List oJ} {vs:List Y},qZ ρ n w vs l->qZ eQ c w' vs l
 | [],vs,h=>h
 | a::r,vs,⟨d,cv,av,fZ,us,rest,e,f,g,i,j,k,m⟩=>⟨d,cv,av,fZ,us,rest,e,f.bK hk hu,g.bK fun b cs o=>hk b cs _ (yM) o,i.jn hk,
  fJ.jn hk (yM) j,k.QL hk hu,qZ.bK hk hu m⟩
def qZ.len{ρ:Nat->Nat}{n:Nat}{w:Z}:∀ {l:List oJ} {vs:List Y},qZ ρ n w vs l->vs.length=l.length*4
 | [],vs,h=>by have h:vs=[]:=h;grind
 | a::r,vs,⟨d,cv,av,fZ,us,rest,b,_,_,_,_,_,c⟩=>by
  rw[b,List.length_append,qZ.len c];grind
def aK6:(Tryz.prog.info? 356).map (fun i=>(i.zero,i.size,i.bytes))=O (O (.agg #[zi 0,aq V,bX,bX]),4,64):=zk
def aoU{w:Z}(c:w.ownsRow base 356 4 v n xs){m:Nat}{l:List Y}
  (d:w.heap[b]?=aN l.toArray 356) (q:l.length=4) (r:∀ u∈l,u.oneCell'=A)
  (s:n<=900000000) (f:base<=w.heap.size) {K:Y->Z->Prop}
  (h:∀ v' w',w'.ownsRow base 356 4 v' (n+1) (xs++l)->w.grownBy w' v.ownBlock->(v'.ownBlock=v.ownBlock\/∀ k,v'.ownBlock=O k->w.heap.size<=k)->K v' w') :
  WR bbm (Builtin.append_ #[128,128] 128 #[v,cV b 1 m]) w K X:=by
 obtain⟨i,g,a⟩:=a1C.1 aK6;simp only[Prod.mk.injEq] at a;obtain⟨j,o,p⟩:=a;exact Sx.DP (m:=1) (t:=128) (e:=356) zk g j o p J zo c d zo zg zo zo f h
def Dm(D:Nat->Prop)(av:Y)(b:Nat):Prop:=D b/\av.ownBlock≠O b
theorem di.up{D':Nat->Prop}{w:Z}(h:di D w w')(a:∀ b,D b->D' b):di D' w w':=bB.mono h fun b o _ hm=>⟨a b hm.1,hm.2⟩
theorem ie.up{D':Nat->Prop}{T:Nat}{w:Z}{s:Sr}(h:ie D ρ n pb so T cs tv w s)(a:∀ b,D b->D' b):ie D' ρ n pb so T cs tv w s:=
 ⟨h.sv,(by grind [dv]),h.cell,h.row,(by grind [dr]),a _ h.ds,h.nd,h.lt,h.ok⟩
abbrev HH(mb:Nat)(todo av vv:Y):Array Y:=#[.map (O mb),.slice V 0 0,zi 0,todo,av,vv]
theorem FX:vS 1 130 (HH mb tv av vv):=⟨zs,.inl J⟩
structure kA(D:Nat->Prop)(ρ:Nat->Nat)(wb mb:Nat)(todo av vv tv:Y)(dw:List Y)(w:Z)(k:Wk):Prop where
 st:ie D ρ k.n wb 1 130 (HH mb todo av vv) tv w k.sr
 td:uS ρ k.n w todo k.todo
 ar:w.ownsRow 0 356 4 av k.bz.length dw
 ag:qZ ρ k.n w dw k.bz
 da:∀ g,av.ownBlock=O g->D g
def QM(D:Nat->Prop)(ρ:Nat->Nat)(wb mb:Nat)(vv:Y)(w:Z)(k:Wk):Prop:=∃ todo av tv dw,kA D ρ wb mb todo av vv tv dw w k
section
variable{D:Nat->Prop}{ρ:Nat->Nat}{wb mb:Nat}{todo av vv tv:Y}{dw:List Y}{w w':Z}{k:Wk}
theorem kA.cell(h:kA D ρ wb mb todo av vv tv dw w k):w.heap[wb]?=aN #[.map (O mb),tv,zi (k.sr.fuel:Nat),todo,av,vv] 130:=h.st.cell
theorem kA.ext(h:kA D ρ wb mb todo av vv tv dw w k)(a:Ext w w'):kA D ρ wb mb todo av vv tv dw w' k:=
 ⟨h.st.ext a,h.td.bK (eR.eo a) (eD.refl _ _),jY a.ext h.ar,h.ag.bK (eR.eo a) (eD.refl _ _),h.da⟩
theorem kA.EF(h:kA D ρ wb mb todo av vv tv dw w k)(a:av.ownBlock=O g):∃ cs,w.heap[g]?=aN cs 356:=by
 rcases h.ar.2 with⟨rfl,-⟩| ⟨b,cap,cur,rfl,-,c,-⟩
 .cases a
 grind [Value.ownBlock,a07]
def kA.less(h:kA D ρ wb mb todo av vv tv dw w k):ie (Dm D av) ρ k.n wb 1 130 (HH mb todo av vv) tv w k.sr:=by
 refine⟨h.st.sv,fun i b=>⟨h.st.dv i b,fun e=>?_⟩,h.st.cell,h.st.row,fun g c=>⟨h.st.dr g c,fun e=>?_⟩,⟨h.st.ds,fun e=>?_⟩,h.st.nd,h.st.lt,h.st.ok⟩
 .obtain⟨cs,a⟩:=h.EF e;obtain⟨ref,d,-⟩:=h.st.sv.var i b;grind
 .obtain⟨cs,a⟩:=h.EF e;exact absurd c (h.st.Yh a zo)
 .obtain⟨cs,a⟩:=h.EF e;have d:=h.cell;grind
def aK7{size m:Nat}(h:w.ownsRow base e size v m xs)(a:di (Dm D v) w w'):w'.ownsRow base e size v m xs:=by
 refine⟨h.1,?_⟩;rcases h.2 with g | ⟨b,cap,cur,rfl,c,d,f⟩
 .exact yH
 .exact .inr ⟨b,cap,cur,J,c,a.block _ _ d (fun hm=>hm.1.2 J),f⟩
def kA.store(h:kA D ρ wb mb todo av vv tv dw w k){s':Sr}(b:ie (Dm D av) ρ k.n wb 1 130 (HH mb todo av vv) o4 w' s')(a:di (Dm D av) w w') :
  kA D ρ wb mb todo av vv o4 dw w' { k with sr:=s' }/\di D w w':=
 ⟨⟨b.up fun _ h=>h.1,h.td.bK a.toI (eD.refl _ _),aK7 h.ar a,h.ag.bK a.toI (eD.refl _ _),h.da⟩,a.up fun _ h=>h.1⟩
def kA.LO(h:kA D ρ wb mb todo av vv tv dw w k){todo':Y}{l:List P.Goal}(c:uS ρ k.n w todo' l)
  (hw:w1=bS w wb (ae #[.map (O mb),tv,zi (k.sr.fuel:Nat),todo',av,vv] 130)):kA D ρ wb mb todo' av vv tv dw w1 { k with todo:=l }/\di D w w1:=by
 obtain⟨b,a⟩:=h.st.cells (by grind [FX]) (cs':=HH mb todo' av vv) (f:=k.sr.fuel);have e:bS w wb (ae (kJ ((HH mb todo' av vv).setIfInBounds 1 tv) 1 (k.sr.fuel:Nat)) 130 (0,0))=w1:=zg;rw[e] at b a;refine⟨⟨b,c.bK a.toI (eD.refl _ _),?_,h.ag.bK a.toI (eD.refl _ _),h.da⟩,a⟩;rw[hw];refine Js h.ar fun e=>?_;obtain⟨cs,d⟩:=h.EF e;have g:=h.cell;grind
def kA.LP(h:kA D ρ wb mb todo av vv tv dw w k){av':Y}{avs':List Y}{l:List oJ}(hr:w1.ownsRow 0 356 4 av' l.length avs')
  (d:w.grownBy w1 av.ownBlock) (hv:av'.ownBlock=av.ownBlock\/∀ g,av'.ownBlock=O g->D g/\w.heap.size<=g) (q:qZ ρ k.n w avs' l)
  (hw:w2=bS w1 wb (ae #[.map (O mb),tv,zi (k.sr.fuel:Nat),todo,av',vv] 130)) :
  kA D ρ wb mb todo av' vv tv avs' w2 { k with bz:=l }/\di D w w2/\w1.heap[wb]?=w.heap[wb]?:=by
 have s:=h.cell;have u:∀ (b:Nat) (c:Array Y) (U:Nat),w.heap[b]?=aN c U->U≠356->w1.heap[b]?=aN c U:=(by grind [bh,a2q,EF]);have f1:di D w w1:=⟨d.os,d.tape,d.output,d.size,fun b o i hm=>by
  rw[d.block b (bh i) (fun e=>?_)]
  .omega
  .obtain⟨cs,a⟩:=h.EF e.symm;rw[i] at a;exact hm ⟨h.da b e.symm,_,_,_,Option.some.inj a,.inr zg⟩⟩
 have s1:ie D ρ k.n wb 1 130 (HH mb todo av vv) tv w1 k.sr:=by
  refine⟨h.st.sv.bK fun b c t ht i=>yH,h.st.dv,yH,?_,h.st.dr,h.st.ds,h.st.nd,h.st.lt,h.st.ok⟩;refine⟨h.st.row.1,?_⟩;rcases h.st.row.2 with a | ⟨b,cap,cur,j,p,r,x⟩<;>grind
 obtain⟨a,p⟩:=s1.cells (by grind [FX]) (cs':=HH mb todo av' vv) (f:=k.sr.fuel);have e:bS w1 wb (ae (kJ ((HH mb todo av' vv).setIfInBounds 1 tv) 1 (k.sr.fuel:Nat)) 130 (0,0))=w2:=zg;rw[e] at a p;have m:di D w w2:=yF;refine⟨⟨a,h.td.bK m.toI (eD.refl _ _),?_,q.bK m.toI (eD.refl _ _),fun g y=>?_⟩,m,yH⟩
 .rw[hw];refine Js hr fun e=>?_;rcases hr.2 with⟨j,-⟩| ⟨z,cap,cur,j,-,r,-⟩
  .rw[j] at e;cases e
  grind [Value.ownBlock,a07]
 grind [da]
def uS.ptr{n:Nat}{v:Y}:∀ {l:List P.Goal},uS ρ n w v l->∃ p,v = .pointer p
 | [],h=>⟨V,h⟩
 | _::_,⟨b,_,_,_,h,_⟩=>⟨_,h⟩
def qZ.snoc{n:Nat}{a:oJ}{l0:List Y}:∀ {l:List oJ} {vs:List Y},qZ ρ n w vs l->qZ ρ n w l0 [a]->qZ ρ n w (vs++l0) (l++[a])
 | [],vs,h,b=>by have h:vs=[]:=h;grind
 | x::l,vs,⟨c,cv,av,fZ,us,rest,k,d,e,f,g,i,j⟩,b=>⟨c,cv,av,fZ,us,rest++l0,zg,d,e,f,g,i,qZ.snoc j b⟩
def afd(h:kA D ρ wb mb todo av vv tv dw w k)(hD:∀ b,w.heap.size<=b->D b){l:List P.Goal}(f:uS ρ k.n w o4 l)(s:k.bz.length<=900000000) :
  Calls bbm 226 #[pp wb,o4] w fun e w'=>e = ah (ak #[])/\di D w w'/\∃ av' avs',kA D ρ wb mb todo av' vv tv avs' w' (k.XC l):=by
 have i:=h.cell;have lw:=bh i;obtain⟨j,rfl⟩:=f.ptr;have t:Ext w w.drew:=yF;refine aK1 ?_;refine⟨fun w'=>w'.heap[wb]?=w.heap[wb]?,J,?_⟩;refine toPr ?_;refine bG ?_;refine cS (pq wb 4) (fun w' a=>eV) ?_;refine cS av (fun w' a=>by rw[i] at a;have:=bh a;exact fm a) ?_;refine bG ?_;refine cS (pq wb 1) (fun w' a=>eV) ?_;refine a1a (TY (h.ext t).st FX) ?_;rintro e w1 ⟨rfl,rfl⟩;refine⟨J,?_⟩;refine bG ?_;obtain⟨l0,m⟩:∃ l0:List Y,l0=[zi (k.sr.tr.length:Nat),.pointer j,bX,bX]:=⟨_,J⟩;obtain⟨w2,o⟩:=cg (w.drew.alloc (ae l0.toArray 356 (0,0)));have d:Ext w w2:=yF;have g2:w2.heap[w.heap.size]?=aN l0.toArray 356:=yH;have s2:w2.heap.size=w.heap.size+1:=yH;rw[m] at o;rw[<- o];have c:=h.ext d;have q2:=c.cell;refine aoU c.ar g2 zg (by rw[m];intro u hu;simp only[a1g,a1l,or_false] at hu;rcases hu with rfl | rfl | rfl | rfl<;>rfl) s zo ?_;intro v' w3 p x y;obtain⟨p3,d3,z⟩:=il p;subst z;obtain⟨H,q⟩:=cg (bS w3 wb (ae #[.map (O mb),tv,zi (k.sr.fuel:Nat),todo,.slice p3 (k.bz.length+1) d3,vv] 130));have B:qZ ρ k.n w2 (dw++l0) (k.bz++[⟨k.sr.tr.length,l,[],[]⟩]):=by
  refine c.ag.snoc ⟨.pointer j,bX,bX,[],[],[],zg,f.bK (eR.eo d) (eD.refl _ _),oM.nil,J,.inl ⟨J,J⟩,?_,J⟩;unfold qp iT;rfl
 obtain⟨C,E,F⟩:=c.LP (l:=k.bz++[⟨k.sr.tr.length,l,[],[]⟩]) (by rw[List.length_append,List.length_singleton];exact p) x (y.imp id fun hx g r=>⟨hD g (by have:=hx g r;omega),hx g r⟩) B q;refine⟨yH,?_⟩;have c3:=F.trans q2;refine cO @c3 ?_;rw[<- q];exact⟨(di.eo d).trans E,_,_,C⟩
end
section
variable{p0 p1 p2 p3 p4 p5 p6 p7:Y}{w:Z}{R:Ending->Z->Prop}
def aK8:=cz w R [p0,p1] (gc [] [] []) func78
def aK9:=cz w R [p0] (gd [(3,[10])] [] [(5,9)] [] [] [] [11]) func39
def aoV:=cz w R [p0] (gc [(3,[9])] [] [10]) func77
def aoW:=cz w R [p0,p1] (gd [] [] [] [(2,[14,0,1,2,3,4,5,6,7,8,9,10,11,12,13])] [] [] []) func38
def aoX:=cz w R [p0,p1,p2] (gd [] [(12001,[])] [] [(6,[12,0,2,3,4,5,6,7,8,1,9,10,11,12,13])] [] [] [2,12,20,22,23,51,52,53,61]) func26
def aLa:=cz w R [p0,p1,p2] (gc [] [] [2,16]) func15
end
def yv(ρ:Nat->Nat)(n B:Nat)(i:Nat):Nat:=if i<n then ρ i else B+(i-n)
def Yz(ρ:Nat->Nat)(n B m:Nat):eD ρ n (yv ρ n B) (n+m):=⟨zo,fun i a=>by unfold yv;grind⟩
def aoY(m:Nat)(hm:m<=100000)(w:Z):Calls bbm 77 #[zi (m:Nat)] w fun e w'=>Ext w w'/\w'.heap.size=w.heap.size+1+m /\
  ∃ cs,e = ah (cV w.heap.size m m)/\w'.heap[w.heap.size]?=aN cs 89/\cs.size=m /\
   ∀ j,j<m->cs[j]?=O (aj 87 (pp (w.heap.size+1+j)))/\w'.heap[w.heap.size+1+j]?=aN #[ai] 91:=by
 refine aoV ?_;refine bG ?_;refine⟨fun q z w'=>∃ (j:Nat) (cs:Array Y),z 9=zi (j:Nat)/\j<=m/\q=m-j/\Ext w w'/\w'.heap.size=w.heap.size+1+j/\w'.heap[w.heap.size]?=aN cs 89/\cs.size=m /\
   ∀ i,i<j->cs[i]?=O (aj 87 (pp (w.heap.size+1+i)))/\w'.heap[w.heap.size+1+i]?=aN #[ai] 91,
  ⟨_,0,_,J,Nat.zero_le _,J,(bB.refl _ _).alloc _,by rw[size_alloc],rR J,by simp [madeCells],fun i b=>zo⟩,?_⟩
 intro q z d w1 c;refine toPr ?_;obtain⟨j,cs,a,k,rfl,l,s1,g1,n,o⟩:=c;have p:=bh g1;by_cases hlt:j<m
 .have r:((j:Nat):Int)<(m:Int):=zo;have f:((j:Nat):Int).toNat=j:=zo;have g:j<cs.size:=zo;refine jk a @f @g1 ?_;refine⟨_,zo,j+1,_,zs,zo,J,yF,yH,J,yH,fun i b=>?_⟩;exact yH
 .have h:j=m:=zo;subst h;refine cO a ?_;exact yH
def ie.fresh{T:Nat}{w:Z}{s:Sr}(h:ie D ρ n pb so T cs tv w s)(hD:∀ b,w.heap.size<=b->D b){m:Nat}(l:Ext w w')
  (hv:∀ j,j<m->w'.heap[w.heap.size+1+j]?=aN #[ai] 91):ie D (yv ρ n (w.heap.size+1)) (n+m) pb so T cs tv w' s:=by
 have hu:=Yz ρ n (w.heap.size+1) m;have hold:∀ i,i<n->ρ i<w.heap.size:=fun i d=>by
  obtain⟨r,a,-⟩:=h.sv.var i d;exact yH
 have f:=h.ext l;refine⟨⟨fun i j d o e=>?_,fun i d=>?_⟩,fun i d=>?_,f.cell,?_,h.dr,h.ds,h.nd,fun p c=>a1G (h.lt p c) hu.1,h.ok⟩
 .unfold yv at e;by_cases a:i<n
  .by_cases g:j<n
   .rw[zip a,zip g] at e;exact h.sv.inj i j a g e
   grind
  grind
 .by_cases a:i<n
  .obtain⟨r,g1,g2⟩:=f.sv.var i a;refine⟨r,by rw[hu.2 i a];omega,?_⟩;cases k:P.look i s.tr with
   | none=>exact yH
   | some t=>rw[k] at g2;exact dL.mono zg hu.1 hu.2 (fun _ _ _ _ _ h=>h) t r g2
  .have k:P.look i s.tr=none:=P.QA fun hm=>by
    obtain⟨p,c,rfl⟩:=List.mem_map.1 hm;exact a (h.lt p c)
   refine⟨ai,?_,zg⟩;unfold yv;rw[bI a];exact hv (i-n) zo
 .unfold yv;by_cases a:i<n
  .rw[zip a];grind [dv]
  exact yH
 .have e:rI (yv ρ n (w.heap.size+1)) s.tr=rI ρ s.tr:=by
   unfold rI;refine List.map_congr_left fun p c=>?_;rw[hu.2 p.1 (h.lt p (List.mem_reverse.1 c))]
  grind [row]
def kA.fresh{D:Nat->Prop}{ρ:Nat->Nat}{wb mb:Nat}{todo av vv tv:Y}{dw:List Y}{w w':Z}{k:Wk}(h:kA D ρ wb mb todo av vv tv dw w k)(hD:∀ b,w.heap.size<=b->D b){m:Nat}(a:Ext w w')
  (hv:∀ j,j<m->w'.heap[w.heap.size+1+j]?=aN #[ai] 91):kA D (yv ρ k.n (w.heap.size+1)) wb mb todo av vv tv dw w' { k with n:=k.n+m }:=
 ⟨h.st.fresh hD a hv,h.td.bK (eR.eo a) (Yz ρ k.n (w.heap.size+1) m),jY a.ext h.ar,h.ag.bK (eR.eo a) (Yz ρ k.n (w.heap.size+1) m),h.da⟩
def aoZ{m:Nat}(c:w'.heap[b]?=aN cs 89)(f:cs.size=m)
  (d:∀ j,j<m->cs[j]?=O (aj 87 (pp (B+j)))):fJ (fun _=>True) w' 89 (cV b m m) (mM (yv ρ n B) (List.range' n m)):=by
 have g:(mM (yv ρ n B) (List.range' n m)).length=m:=zs;have e:cs.toList=mM (yv ρ n B) (List.range' n m):=by
  apply List.ext_getElem?;intro j;by_cases a:j<m
  .rw[Array.getElem?_toList,d j a,List.getElem?_map,List.getElem?_range' a];simp only[yv,Option.map_some,Nat.mul_one,Nat.one_mul];grind
  grind
 exact .inr ⟨b,cs,zg,trivial,c,zo,zg⟩
def aLb{ids:List Nat}(S:∀ i∈ids,i<n){l:List Ex}(T:fi ids.length l)(hl:l.length<=100){w:Z}(hv:fJ (fun _=>True) w 106 v vs)(hx:eM (fun _=>True) w vs l)
  (U:fJ (fun _=>True) w 89 vv (mM ρ ids)) :
  Calls bbm 228 #[v,vv] w fun e w'=>Ext w w'/\∃ u us,e = ah u/\fJ (fun _=>True) w' 89 u us/\qp ρ n w' us (km ids l):=by
 have W:=hx.FV;obtain⟨av,ac,rfl⟩:=hv.sl;have hlen:vs.length=l.length:=W;rw[hlen];refine aK0 ?_;refine bG ?_;refine⟨fun m z w'=>∃ j g us,z 9=zi (j:Nat)/\z 4=g/\j<=l.length/\m=l.length-j/\Ext w w'/\w'.ownsRow w.heap.size 89 1 g j us /\
   iT (fun c=>w.heap.size<=c/\c<w'.heap.size/\O c≠g.ownBlock) ρ n w' us (km ids (l.take j)),
  ⟨_,0,bX,[],J,J,Nat.zero_le _,J,yF,World.ownsRow_nil _ _ _ _,by simp [km];unfold iT;rfl⟩,?_⟩
 intro m z d w3 X;refine toPr ?_;obtain⟨j,g,us,s,D,hj,rfl,a,p,x⟩:=X;have s3:=a.size;obtain⟨y,rc,rfl⟩:=il p;by_cases hlt:j<l.length
 .have qY:j<vs.length:=zo;obtain⟨sb,JF,B,-,e3,E⟩:=hv.at' qY;obtain⟨u,e5,hu⟩:=eM.at' j hlt hx;rw[e5] at E;rw[hlen] at B;simp only[a1r,true_and] at B;obtain⟨rfl,rfl⟩:=B;have jV:((j:Nat):Int).toNat=j:=zo;have C:=a.ext _ _ e3;refine dM s @C @E @jV ?_;have NO:eL (fun _=>True) w3 u l[j]:=eL.mono zg (by grind [bB.ext]) _ _ hu;refine a1a (Yx S (gy l[j]) l[j] (a1c _) (T.at hlt) NO (U.mono (fun _ h=>h) fun b cs _ hb=>a.ext _ _ hb)) ?_;rintro e f ⟨q,u4,rfl,H⟩;have s4:=q.size;obtain⟨I,K,rfl⟩:=H.iface;refine bG ?_;have L:Ext f (f.alloc (ae #[aj I K] 89)):=yF;have AH:=jY (q.trans L).ext p;rw[D];refine QG (base:=w.heap.size) AH (rR J) J zo (by rw[size_alloc];omega) ?_;intro v' w5 M N yu;have s5:=N.size;rw[size_alloc] at s5;have kp:∀ c o,f.heap[c]?=O o->O c≠(a1n y j rc).ownBlock->w5.heap[c]?=O o:=(by grind [size_alloc,bh,a2q,bB.ext]);have lo:∀ k,(a1n y j rc).ownBlock=O k->w.heap.size<=k/\k<w3.heap.size:=fun k hk=>p.lt k hk;obtain⟨P,Q,rfl⟩:=il M;have kP:∀ c,c<f.heap.size->O c≠(a1n y j rc).ownBlock->O c≠(a1n P (j+1) Q).ownBlock:=yH;refine cO s ?_;refine⟨_,?_,j+1,.slice P (j+1) Q,us++[aj I K],zg,zg,zo,J,?_,M,?_⟩
  .omega
  .exact((a.trans q).trans L).grow N yH
  .rw[ae9 ids l j hlt];refine iT.snoc ?_ ?_
   .refine dL.mono (F:=Nu w3 f) (fun c r=>?_) (a1c _) (fun _ _=>rfl) (fun c cs t r _ R=>?_) _ _ H<;>grind
   .refine iT.mono (fun c r=>?_) zo zg (fun c cs t r _ R=>?_) _ _ x
    .exact yH
    .exact kp c _ (q.ext _ _ R) r.2.2
 .have fD:j=l.length:=zo;subst fD;rw[List.take_length] at x;refine dF s D ?_;exact⟨a,_,us,J,Fi p zg,x.toT⟩
