/- A part of one proof (KS6, KS7, KS8, SlU, KS9, PW7, PW8, ShX2, KW1, KW2). -/
import Derived.Test.YtoegidfbnkaabaaGreatDoorPkKAR
set_option linter.all false
set_option maxRecDepth 100000
set_option maxHeartbeats 8000000
open Option renaming some → O, none → V
open Go renaming Value → Y, World → Z
open Bool renaming true → A, false → ae
open Go.Obj renaming cells → ah
open Go.Ending renaming returned → ai
open Go.Value renaming nilIface → aj, iface → ak, tuple → aq, pointer → au
open Option.some renaming injEq → a0z
open Go.Calls renaming mono → a0C
open Nat renaming le_refl → a0D, le_trans → a0E, strongRecOn → a2D
open List renaming drop_eq_getElem_cons → a0I, mem_cons → a0N, not_mem_nil → a0V
open Go.Value renaming slice → a0M
open Go.Value.slice renaming injEq → a0S
open Option renaming map_eq_some_iff → a02
open Go.Proofs.Tryz renaming prog → bay
open Go.Proofs.Tryz
namespace Go.Proofs.YtoegidfbnkaabaaGreatDoor
open P
open Go.RowKit Sx
variable{D F:Nat->Prop}{K:Y->Prop}{X:Y->Z->Prop}{av o4 tv v vv:Y}{b base cap e f g j m mb n o pb so:Nat}{cs:Array Y}{t:Tm}{tr:Tr}{tS ρ:Nat->Nat}{vs xs:List Y}{w w' w1 w2:Z}{y:Operand}
section
variable{D:Nat->Prop}{ρ:Nat->Nat}{n sb so T:Nat}{cs:Array Y}
def aKs(hf:vH so T cs):∀ (f:Nat) {tv v u:Y} {w:Z} {s:Sr} {a b:Tm} {r:Except iM (Bool×Sr)},gV D ρ n sb so T cs tv w s->dN ρ n w u a->er a->dN ρ n w v b->er b ->
  s.fuel<=900000000->qA f a b s=O r ->
  Calls bay 218 #[pq sb so,u,v] w (EPost D w (xj D ρ n sb so T cs) r):=by
 intro f;induction f using a2D with
 | _ f ih=>
 intro tv v u w s a b r h ha IQ hb PW hz hr;cases f with
 | zero=>simp [qA] at hr
 | succ f=>
 rw[qA] at hr;refine aJD ?_;refine(No h hf zo).mono ?_;rintro e w1 ⟨K,z⟩;by_cases h0:s.fuel=0
 .rw[zip h0] at hr z;injection hr with hr;subst hr z;simp only[ends,PC];exact⟨K,J⟩
 rw[bO h0] at hr z;obtain⟨rfl,z⟩:=z;have AQ:=ha.bJ K.toT;have ja:=hb.bJ K.toT;have hdt:s.dec.tr=s.tr:=rfl;refine bF ?_;cases L:dR s.tr f a with
 | none=>rw[L] at hr;simp at hr
 | some a'=>
 cases Q:dR s.tr f b with
 | none=>rw[L,Q] at hr;cases a'<;>simp at hr
 | some F=>
 rw[L,Q] at hr;refine a0C (GV z.sv AQ (f:=f) (by exact L)) ?_;rintro e w2 ⟨rfl,ua,rfl,G⟩;refine bF ?_;refine a0C (GV z.sv ja (f:=f) (by exact Q)) ?_;rintro e w3 ⟨rfl,ub,rfl,B⟩;have XP:=vq h.ok IQ L;have Tz:=vq h.ok PW Q;obtain⟨ut,ux,rfl⟩:=G.iface;obtain⟨vt,vx,rfl⟩:=B.iface;by_cases qx:Bk a'=A/\Bk F=A
 .obtain⟨i,C⟩:=qx;cases a' with
  | atom a=>cases i
  | int a=>cases i
  | var a=>cases i
  | comp name l=>
  cases F with
  | atom a=>cases C
  | int a=>cases C
  | var a=>cases C
  | comp R l'=>
  simp only at hr;obtain⟨ba,ava,vsa,Ny,-,-⟩:=by unfold dN dK at G;exact G
  obtain⟨bb,avb,vsb,KQ,-,-⟩:=by unfold dN dK at B;exact B
  injection Ny with e1 e2;injection KQ with e3 e4;subst e1 e2 e3 e4;obtain⟨ao,cap,i,aeu⟩:=Fl G;obtain⟨bo',aKr,C,aev⟩:=Fl B;refine dB i C ?_;refine⟨fun x w'=>w'=w3,?_,?_⟩
  .refine⟨fun x w'=>w'=w3/\x 33 = .bool ae,?_,?_⟩
   .exact eS
   .rintro x w' ⟨rfl,hx⟩ d;exact fj hx
  .rintro x w' rfl d;have TA:=(bD.drew (bD.refl (fun _ _=>False) w')).block _ _ i (fun h=>h);have IV:=(bD.drew (bD.refl (fun _ _=>False) w')).block _ _ C (fun h=>h);refine⟨fun x H=>Ext w' H/\name=R/\l.length=l'.length,?_,?_⟩
   .refine⟨fun x H=>Ext w' H/\x 58 = .bool (decide (¬ (name=R/\l.length=l'.length))),?_,?_⟩
    .by_cases hn:name=R
     .subst hn;refine dB TA IV ?_;grind [bD.refl,Int.ofNat_inj,bD.drew]
     .refine dB TA IV ?_;exact yF
    .rintro x H ⟨I,hx⟩ d2;by_cases xQ:name=R/\l.length=l'.length
     .refine dL hx xQ @not_true_eq_false @decide_false ?_;exact yF
     .rw[bO xQ] at hr;injection hr with hr;refine dL hx xQ @not_false_eq_true @decide_true ?_;rw[<- hr];exact⟨yF,J,_,z.ext I⟩
   .rintro x H ⟨I,rfl,uA⟩ d2;rw[zip ⟨J,uA⟩] at hr;have aew:=I.ext _ _ i;refine cM aew ?_;unfold er at XP Tz;refine⟨fun m x E=>∃ j M Fq,x 64=zi (j:Nat)/\j<=l.length/\m=l.length-j/\gV D ρ n sb so T cs Fq E M/\di D H E/\M.fuel<=900000000/\(∃ g,g<=f/\uw g (l.drop j) (l'.drop j) M=O r),
     ⟨_,0,_,_,J,Nat.zero_le _,J,z.ext I,yF,by grind [Sr.dec],f,a0D _,hr⟩,?_⟩
    intro m x d E hI;refine toPr ?_;obtain⟨j,M,Fq,hx,hj,rfl,h4,gn,AX,g,hg,o⟩:=hI;have GZ:di D w E:=K.trans ((di.ed I).trans gn);cases g with
    | zero=>simp [uw] at o
    | succ g=>
    by_cases hlt:j<l.length
    .have qG:j<l'.length:=zo;rw[a0I hlt,a0I qG,uw] at o;obtain⟨ab,Tv,v3,rfl,nk,IP,Ee⟩:=aeu j hlt;obtain⟨KN,cs4,v4,rfl,aex,aey,vJ⟩:=aev j qG;have TB:di D w' E:=(di.ed I).trans gn;have th:di D w' E.drew:=yF;have kt:∀ (b:Nat) (c:Array Y) (U:Nat),¬ lh U->w'.heap[b]?=aP c U->E.drew.heap[b]?=aP c U:=(by grind [di.bJ]);have q1:=kt _ _ _ (by grind [lh]) i;have q2:=kt _ _ _ (by grind [lh]) C;have q3:=kt _ _ _ (by grind [lh]) nk;have q4:=kt _ _ _ (by grind [lh]) aex;have ej:((j:Nat):Int).toNat=j:=zo;refine dL hx @ej @q1 (zA @q2 (zA @q3 (zA @q4 (zA IP aey)))) ?_;cases S:qA g l[j] l'[j] M with
     | none=>rw[S] at o;cases o
     | some r1=>
     have KR:di D E E.drew:=di.ed (bD.drew yF);refine a0C (ih g zo (h4.ext (bD.drew yF)) (Ee.bJ th.toT) (by grind [IM]) (vJ.bJ th.toT) (by grind [IM]) AX S) ?_;rintro e w5 ⟨rq,W⟩;rw[S] at o;cases r1 with
     | error t=>
      cases o;have W:e=gW t:=W;subst W;cases t<;>exact⟨GZ.trans yF,J⟩
     | ok p=>
      obtain⟨b1,s5⟩:=p;obtain⟨rfl,tv5,h5⟩:=W;simp only[P.Out.ek] at o;have XS:=((Pn g).tm S).2;cases b1 with
      | false=>
       cases o;refine bF ?_;exact⟨GZ.trans yF,J,_,h5⟩
      | true=>
       refine cM hx ?_;exact⟨_,zo,j+1,s5,tv5,zs,zo,J,h5,gn.trans yF,zg,g,zo,zg⟩
    .have Eb:j=l.length:=zo;subst Eb;rw[List.drop_length,uA,List.drop_length,uw] at o
     .cases o;refine cM hx ?_;exact⟨GZ,J,_,h4⟩
     grind
 .have hr:r = .ok (P.flat a' F,s.dec):=by
   cases a' with
   | comp x k=>cases F with
    | comp y l=>exact absurd ⟨J,J⟩ qx
    | _=>exact zg
   | _=>exact zg
  subst hr;have kT:∀ {x y:Operand},RD bay (bo .eql 89 x y (ak ut ux) (ak vt vx)) w3 (fun v=>EPost D w (xj D ρ n sb so T cs) (.ok (P.flat a' F,s.dec)) (ai v) w3) (PX (EPost D w (xj D ρ n sb so T cs) (.ok (P.flat a' F,s.dec)))):=fun{x y}=>by
   rw[aer z.sv G B qx];exact⟨K,J,_,z⟩
  have N:∀ {u:Nat} {x:Y} {t:Tm},dN ρ n w3 (ak u x) t->Bk t=ae->¬ u=175:=fun{u x t} h hc=>by
   cases t with
   | atom a=>unfold dN dK at h;grind
   | int a=>unfold dN dK at h;grind
   | var a=>unfold dN dK at h;grind
   | comp a l=>cases hc
  by_cases i:Bk a'=A
  .have C:Bk F=false:=by
    grind
   have X:=N B C;cases a' with
   | atom a=>cases i
   | int a=>cases i
   | var a=>cases i
   | comp name l=>
   obtain⟨ba,ava,vsa,Ny,-,-⟩:=by unfold dN dK at G;exact G
   cases Ny;refine cM X ?_;refine⟨fun _ _=>False,?_,by rintro _ _ h;exact h.elim⟩;refine⟨fun x w'=>w'=w3/\x 33 = .bool A,?_,?_⟩
   .exact eS
   .rintro x w' ⟨rfl,hx⟩ d;refine cM hx ?_;exact kT
  .have i:Bk a'=false:=zg;have TC:=N G i;by_cases X:vt=175
   .subst X;obtain⟨q,o⟩:∃ q,vx = .pointer q:=by
     cases F with
     | atom a=>unfold dN dK at B;grind
     | int a=>unfold dN dK at B;grind
     | var a=>unfold dN dK at B;grind
     | comp a l=>unfold dN dK at B;grind
    subst o;refine cM TC ?_;refine⟨fun _ _=>False,?_,by rintro _ _ h;exact h.elim⟩;refine⟨fun x w'=>w'=w3/\x 33 = .bool A,?_,?_⟩
    .exact eS
    .rintro x w' ⟨rfl,hx⟩ d;refine cM hx ?_;exact kT
   .refine dB TC X ?_;refine⟨fun _ _=>False,?_,by rintro _ _ h;exact h.elim⟩;refine⟨fun x w'=>w'=w3/\x 33 = .bool A,?_,?_⟩
    .exact eS
    .rintro x w' ⟨rfl,hx⟩ d;refine cM hx ?_;exact kT
end
def TD(z:Int):IntKind.i64.wrap z=P.wrap64 z:=by
 grind [IntKind.wrap,IntKind.bits,IntKind.signed,P.wrap64]
def aKt(a b:Bool)(w:Z):(Op.equalIn Op.maxDepth 4 (.bool a) (.bool b)).run bay w = .ok (a == b) w:=by
 cases a<;>cases b<;>kernel_rfl
def aKu{x:Operand}(a b:Bool):RD bay (bo .neq 4 x y (.bool a) (.bool b)) w K X=K (.bool (decide (a≠b))):=
 ig (by
  simp [bo,eqGuard,binOp,Op.equal,Sem.run_bind,aKt];grind)
def aKv(name:Bs)(a b:Int)(w:Z):Calls bay 222 #[.string (bs name),zi a,zi b] w fun e w'=>Ext w w'/\e=(match P.reckon name a b with | .ok z=>ai (zi z) | .error t=>gW t):=by
 refine aJE ?_;unfold P.reckon;by_cases i:name=[43]
 .subst i;refine bF ?_;rw[TD];exact yF
 rw[bO i];by_cases j:name=[45]
 .subst j;refine bF ?_;rw[TD];exact yF
 rw[bO j];by_cases k:name=[42]
 .subst k;refine bF ?_;rw[TD];exact yF
 rw[bO k];refine jt i j k ?_;by_cases c:b=0
 .rw[zip c];refine⟨fun _ _=>False,?_,by rintro _ _ h;exact h.elim⟩;refine cM c ?_;exact⟨yF,J⟩
 rw[bO c];refine⟨fun _ w'=>w'=w,?_,?_⟩
 .exact fj c
 .rintro s w' rfl d;by_cases l:name=[47,47]
  .subst l;refine bF ?_;rw[axa _ _ _ c,TD];exact yF
  rw[bO l];refine cM l ?_;rw[aw9 _ _ _ c];obtain⟨m,hm⟩:=ck (a.tmod b);rw[<- hm];refine⟨fun s w1=>w1=w'/\s 7=zi (if m≠0/\(decide (m<0)≠decide (b<0)) then P.wrap64 (m+b) else m),?_,?_⟩
  .refine⟨fun s w1=>w1=w'/\s 43 = .bool (decide (m≠0/\(decide (m<0)≠decide (b<0)))),?_,?_⟩
   .by_cases n:m=0
    .refine cM n ?_;simp
    .refine cM n ?_;rw[aKu];grind [jk]
   .rintro s w1 ⟨rfl,f⟩ d;by_cases g:m≠0/\(decide (m<0)≠decide (b<0))
    .rw[zip g];rw[decide_eq_true g] at f;exact lW f @TD
    .rw[bO g];rw[decide_eq_false g] at f;exact fj f
  exact yF
section
variable{D:Nat->Prop}{ρ:Nat->Nat}{n sb so T:Nat}{cs:Array Y}
abbrev StN(D:Nat->Prop)(ρ:Nat->Nat)(n sb so T:Nat)(cs:Array Y)(p:Int×Sr)(e:Ending)(w':Z):Prop:=
 e = ai (zi p.1)/\∃ tv,gV D ρ n sb so T cs tv w' p.2
def aeA(X:vH so T cs):∀ (f:Nat) {tv v:Y} {w:Z} {s:Sr} {t:Tm} {r:Except iM (Int×Sr)},gV D ρ n sb so T cs tv w s->dN ρ n w v t->er t->s.fuel<=1000000000->kO f t s=O r ->
  Calls bay 219 #[pq sb so,v] w (EPost D w (StN D ρ n sb so T cs) r):=by
 intro f;induction f using a2D with
 | _ f ih=>
 intro tv v w s t r h hv dj E hr;cases f with
 | zero=>simp [kO] at hr
 | succ f=>
 rw[kO] at hr;refine aJF ?_;refine(No h X E).mono ?_;rintro e w1 ⟨k,d⟩;by_cases K:s.fuel=0
 .rw[zip K] at hr d;injection hr with hr;subst hr d;simp only[ends,PC];exact⟨k,J⟩
 rw[bO K] at hr d;obtain⟨rfl,d⟩:=d;have kJ:=hv.bJ k.toT;refine bF ?_;cases hw:dR s.tr f t with
 | none=>rw[hw] at hr;cases hr
 | some t'=>
 rw[hw] at hr;refine a0C (GV d.sv kJ (f:=f) (by exact hw)) ?_;rintro e w2 ⟨rfl,u,rfl,hu⟩;have L:=vq h.ok dj hw;cases t' with
 | atom a=>
  unfold dK at hu;subst hu;cases hr;refine bF ?_;exact⟨k,J⟩
 | int a=>
  unfold dK at hu;subst hu;cases hr;refine bF ?_;exact⟨k,J,_,d⟩
 | var j=>
  unfold dK at hu;obtain⟨hj,rfl⟩:=hu;cases hr;refine bF ?_;exact⟨k,J⟩
 | comp name args=>
  obtain⟨b,av,vs,rfl,-,-⟩:=by unfold dK at hu;exact hu
  obtain⟨ao,cap,gX,M⟩:=Fl hu;unfold er at L;have IV:=(bD.drew (bD.refl (fun _ _=>False) w2)).block _ _ gX (fun h=>h);refine cM IV ?_;refine a0C (an5 name args.length w2.drew) ?_;rintro e w3 ⟨rfl,rfl⟩;refine bF ?_;have rL:di D w w2.drew:=yF;have ff:jB name args.length≠0->args.length=2:=fun h=>by
   unfold jB at h;grind
  by_cases o:jB name args.length=0
  .have hr:r = .error (.fault 8):=by
    grind
   subst hr;have g:¬ (0:Int)<((jB name args.length:Nat):Int):=zo;refine cM g ?_;exact⟨rL,J⟩
  .obtain⟨x,y,rfl⟩:∃ x y,args=[x,y]:=by
    have:=ff o
    match args,this with
    | [x,y],_=>grind
   have o:jB name 2≠0:=o;simp only[zip o] at hr;have g:(0:Int)<((jB name [x,y].length:Nat):Int):=by
    omega
   refine cM g ?_;obtain⟨ab,y9,v0,rfl,nk,F,Py⟩:=M 0 zs;obtain⟨KN,za,v1,N,l,TE,G⟩:=M 1 zs;have N:ab=KN:=zg;subst N;rw[nk] at l;cases l;have Q:Ext w2 w2.drew.drew:=yF;have H:∀ {w':Z},di D w2 w'->w'.heap[b]?=aP #[aW name,.slice (O ⟨ab,0,V⟩) [x,y].length cap] 180:=(by grind [lh,di.bJ]);have R:∀ {w':Z},di D w2 w'->w'.heap[ab]?=aP y9 89:=(by grind [lh,di.bJ]);refine⟨fun w'=>di D w2 w',yF,?_⟩;refine toPr ?_;refine bF ?_;refine cR (pp b) (fun w' c=>eS) ?_;refine cR (aW name) (fun w' c=>by have:=H c;exact fj @this) ?_;refine bF ?_;refine cR (pq b 1) (fun w' c=>eS) ?_;refine cR (.slice (O ⟨ab,0,V⟩) [x,y].length cap) (fun w' c=>by have:=H c;exact fj @this) ?_;refine cR (pp ab) (fun w' c=>eS) ?_;refine cR v0 (fun w' c=>by have:=R c;exact lW @this F) ?_;refine bF ?_;refine cR (pq b 1) (fun w' c=>eS) ?_;refine cR (.slice (O ⟨ab,0,V⟩) [x,y].length cap) (fun w' c=>by have:=H c;exact fj @this) ?_;refine cR (pq ab 1) (fun w' c=>eS) ?_;refine cR v1 (fun w' c=>by have:=R c;exact lW @this TE) ?_;have th:di D w w2.drew.drew:=yF;have i:=MY L.2.2;cases p:kO f x s.dec with
   | none=>rw[p] at hr;cases hr
   | some r1=>
   rw[p] at hr;refine a0C (ih f zo (d.ext Q) (Py.bJ (rn.ed Q)) i.1 (a0E (Nat.sub_le _ _) E) p) ?_;rintro e w5 ⟨rq,q⟩;cases r1 with
   | error t=>
    cases hr;have q:e=gW t:=q;subst q;cases t<;>exact fun _=>⟨yF,J⟩
   | ok p1=>
   obtain⟨S,s1⟩:=p1;obtain⟨rfl,KP,g1⟩:=q;obtain⟨t1,t2,t3⟩:=Ap f (s:=s.dec) h.ok i.1 p;have U:di D w2 w5:=yF;refine⟨U,?_⟩;simp only[P.Out.ek] at hr;cases I:kO f y s1 with
   | none=>rw[I] at hr;cases hr
   | some r2=>
   rw[I] at hr;have dY:s1.fuel<=1000000000:=a0E t2 (a0E (Nat.sub_le _ _) E);refine a0C (ih f zo g1 (G.bJ U.toT) i.2 dY I) ?_;rintro e w6 ⟨j4,B⟩;cases r2 with
   | error t=>
    cases hr;have B:e=gW t:=B;subst B;cases t<;>exact fun _=>⟨yF,J⟩
   | ok p2=>
   obtain⟨z2,s2⟩:=p2;obtain⟨rfl,x8,g2⟩:=B;refine⟨yF,?_⟩;simp only[P.Out.ek] at hr;refine a0C (aKv name S z2 w6) ?_;rintro e w7 ⟨Gx,C⟩;have m:di D w w7:=yF;cases W:P.reckon name S z2 with
   | error t=>
    rw[W] at hr C;injection hr with hr;subst hr C;cases t<;>exact fun _=>⟨m,J⟩
   | ok z=>
    rw[W] at hr C;injection hr with hr;subst hr C;exact⟨m,J,_,g2.ext Gx⟩
end
def fO.at'{a:TypeId}(h:fO F w a v vs)(c:j<vs.length):∃ b cs,v = cU b vs.length cs.size/\F b/\w.heap[b]?=aP cs a/\cs[j]?=vs[j]?:=by
 rcases h with⟨rfl,rfl⟩| ⟨b,cs,rfl,g1,g2,g3,g4⟩<;>grind
theorem fO.sl{d:TypeId}(h:fO F w d v vs):∃ a c,v = .slice a vs.length c:=by
 rcases h with⟨rfl,rfl⟩| ⟨b,cs,rfl,g1,g2,g3,g4⟩
 .exact⟨_,_,J⟩
 grind
section
variable{D:Nat->Prop}{ρ:Nat->Nat}{n sb so T:Nat}{cs:Array Y}
def aKy(name:Bs)(h:dN ρ n w v t):Calls bay 220 #[aW name,v] w fun e w'=>e = ai (.bool (M0 name t))/\w'=w:=by
 refine aJG ?_;cases t with
 | atom a=>
  unfold dN dK at h;subst h;unfold M0;by_cases b:name=[110,111,110,118,97,114]
  .refine cM b ?_;simp
  .refine cM b ?_;grind
 | int a=>
  unfold dN dK at h;subst h;unfold M0;by_cases b:name=[110,111,110,118,97,114]
  .refine cM b ?_;simp
  .refine cM b ?_;grind
 | var i=>
  unfold dN dK at h;obtain⟨-,rfl⟩:=h;unfold M0;refine bF ?_;grind
 | comp a l=>
  unfold dN dK at h;obtain⟨_,_,_,rfl,-⟩:=h;unfold M0;refine bF ?_;grind
def aeE{args:List Tm}(c:fO (fun _=>True) w 89 av vs)(ht:pU ρ n w vs args)(d:j<args.length) :
  ∃ ab cap a v,av = cU ab args.length cap/\w.heap[ab]?=aP a 89/\a[j]?=O v/\dN ρ n w v args[j]:=by
 have e:=ht.length;obtain⟨v,f,g⟩:=ht.at j d;obtain⟨b,a,h,-,i,k⟩:=c.at' (j:=j) zo;exact⟨b,a.size,a,v,by rw[h,e],i,by rw[k];exact f,g⟩
def aot(o:vH so T cs){s:Sr}{name:Bs}{args:List Tm}{r:Except iM (Bool×Sr)}(h:gV D ρ n sb so T cs tv w s)(hD:∀ b,w.heap.size<=b->D b)
  (X:fO (fun _=>True) w 89 av vs) (ht:pU ρ n w vs args) (dj:iX args) (N:jx name=args.length) (hz:s.cW<=900000000) (hr:uy f name args s=O r) :
  Calls bay 213 #[pq sb so,aW name,av] w (EPost D w (xj D ρ n sb so T cs) r):=by
 have JU:s.tr.length+s.fuel<=900000000:=hz;have c:Ext w w.drew:=yF;have H:∀ b,w.drew.heap.size<=b->D b:=hD;have two:args.length=2->∃ ab cap q v0 v1,av = cU ab 2 cap/\w.heap[ab]?=aP q 89/\q[0]?=O v0/\q[1]?=O v1 /\
   dN ρ n w v0 (args.getD 0 default)/\dN ρ n w v1 (args.getD 1 default)/\er (args.getD 0 default)/\er (args.getD 1 default):=fun hl=>by
  obtain⟨x,y,rfl⟩:∃ x y,args=[x,y]:=match args,hl with
   | [x,y],_=>zg
  obtain⟨ab,cap,y9,v0,e0,g0,i,t0⟩:=aeE X ht (j:=0) zo;obtain⟨KN,rC,za,v1,e1,g1,k,t1⟩:=aeE X ht (j:=1) zo;rw[e0] at e1;simp only[a0S,a0z,Addr.mk.injEq,and_true,true_and] at e1;obtain⟨rfl,rfl⟩:=e1;grind [MY]
 refine aJH ?_;unfold uy at hr;by_cases Q:name=[116,114,117,101]
 .subst Q;rw[zip rfl] at hr;cases hr;refine⟨fun _ _=>False,?_,by rintro _ _ h;exact h.elim⟩;refine bF ?_;exact⟨yF,J,_,h⟩
 rw[bO Q] at hr;by_cases R:name=[61]
 .subst R;rw[zip rfl] at hr;obtain⟨ab,cap,q,v0,v1,rfl,g0,i,k,t0,t1,l,o1⟩:=two (by have:(2:Int)=args.length:=N;omega);have E:=c.ext _ _ g0;refine⟨fun _ _=>False,?_,by rintro _ _ h;exact h.elim⟩;refine jt @E @i @k ?_;refine a0C (PV o f (h.ext c) H (t0.bJ (rn.ed c)) l (t1.bJ (rn.ed c)) o1 hz hr) ?_;exact fun e w4 a=>(a.of yF).Tk
 rw[bO R] at hr;by_cases S:name=[92,61]
 .subst S;rw[zip rfl] at hr;obtain⟨ab,cap,q,v0,v1,rfl,g0,i,k,t0,t1,l,o1⟩:=two (by have:(2:Int)=args.length:=N;omega);refine⟨fun _ _=>False,?_,by rintro _ _ h;exact h.elim⟩;refine bF ?_;refine a0C (Tn h o) ?_;rintro e w1 ⟨rfl,rfl⟩;have c:Ext w1 w1.drew:=yF;have E:=c.ext _ _ g0;refine dL @E @g0 @i @k ?_;cases g:gY f (args.getD 0 default) (args.getD 1 default) s with
  | none=>rw[g] at hr;cases hr
  | some I=>
  rw[g] at hr;refine a0C (PV o f (h.ext c) H (t0.bJ (rn.ed c)) l (t1.bJ (rn.ed c)) o1 hz g) ?_;rintro e w2 ⟨K,a⟩;cases I with
  | error t=>
   cases hr;have a:e=gW t:=a;subst a;cases t<;>exact⟨(di.ed c).trans K,J⟩
  | ok p=>
   obtain⟨b1,s1⟩:=p;obtain⟨rfl,KP,F⟩:=a;cases hr;have hsu:=(M3 f).tm g;have XS:=((DP f).tm g).1;have aVS:s1.tr.length+s1.fuel<=s.tr.length+s.fuel:=XS;refine bF ?_;refine a0C (aee F o hsu.length_le zg) ?_;rintro e w3 ⟨rfl,eK,tv3,h3⟩;refine bF ?_;exact⟨(di.ed c).trans yF,J,_,h3⟩
 rw[bO S] at hr;by_cases U:name=[61,61]
 .subst U;rw[zip rfl] at hr;obtain⟨ab,cap,q,v0,v1,rfl,g0,i,k,t0,t1,l,o1⟩:=two (by have:(2:Int)=args.length:=N;omega);have E:=c.ext _ _ g0;refine⟨fun _ _=>False,?_,by rintro _ _ h;exact h.elim⟩;refine jt @E @i @k ?_;refine a0C (aKs o f (h.ext c) (t0.bJ (rn.ed c)) l (t1.bJ (rn.ed c)) o1 zo hr) ?_;exact fun e w4 a=>(a.of yF).Tk
 rw[bO U] at hr;by_cases W:name=[105,115]
 .subst W;rw[zip rfl] at hr;obtain⟨ab,cap,q,v0,v1,rfl,g0,i,k,t0,t1,l,o1⟩:=two (by have:(2:Int)=args.length:=N;omega);have E:=c.ext _ _ g0;refine⟨fun _ _=>False,?_,by rintro _ _ h;exact h.elim⟩;refine bF ?_;refine⟨fun w'=>di D w w',yF,?_⟩;refine toPr ?_;refine cR (pp ab) (fun w' B=>eS) ?_;refine cR v0 (fun w' B=>by have:=di.bJ B (by unfold lh;decide) g0;exact lW @this @i) ?_;refine dB @E @k ?_;cases g:kO f (args.getD 1 default) s with
  | none=>rw[g] at hr;cases hr
  | some I=>
  rw[g] at hr;refine a0C (aeA o f (h.ext c) (t1.bJ (rn.ed c)) o1 zo g) ?_;rintro e w2 ⟨K,a⟩;have m:di D w w2:=(di.ed c).trans K;cases I with
  | error t=>
   cases hr;have a:e=gW t:=a;subst a;cases t<;>exact fun _=>⟨m,J⟩
  | ok p=>
   obtain⟨z,s1⟩:=p;obtain⟨rfl,KP,F⟩:=a;obtain⟨q1,q2,q3⟩:=Ap f h.ok o1 g;simp only[P.Out.ek] at hr;refine⟨m,?_⟩;refine bF ?_;refine⟨m,?_⟩;have hzi:dN ρ n w2 (ak 172 (zi z)) (.int z):=by unfold dN dK;rfl
   refine a0C (PV o f F (fun b hb=>hD b (a0E m.size hb)) (t0.bJ m.toT) l hzi (by unfold er;exact q3) (show s1.tr.length+s1.fuel<=900000000 by grind) hr) ?_;exact fun e w4 a=>(a.of m).aJL
 rw[bO W] at hr;by_cases C:name∈[[118,97,114],[110,111,110,118,97,114],[97,116,111,109],[105,110,116,101,103,101,114]]
 .rw[zip C] at hr;have Be:args.length=1:=by
   have:jx name=1:=by
    simp only[a0N,a0V,or_false] at C;rcases C with rfl | rfl | rfl | rfl<;>decide
   omega
  obtain⟨x,rfl⟩:∃ x,args=[x]:=match args,Be with
   | [x],_=>⟨x,J⟩
  obtain⟨ab,cap,y9,v0,rfl,g0,i,t0⟩:=aeE X ht (j:=0) zs;have t0:dN ρ n w v0 x:=t0;refine⟨fun _ _=>False,?_,by rintro _ _ h;exact h.elim⟩;cases hw:dR s.tr f x with
  | none=>rw[show([x].getD 0 default)=x from J,hw] at hr;cases hr
  | some t'=>
  rw[show([x].getD 0 default)=x from J,hw] at hr;injection hr with hr;simp only[a0N,a0V,or_false] at C;refine dL @Q @R @S (zA @U @W) ?_;refine⟨fun s w'=>w'=w/\s 64 = .bool A,?_,?_⟩
  .rcases C with rfl | rfl | rfl | rfl<;>simp (disch:=first|assumption|omega|simp only[zS]<;>omega|decide) only[zB,simprocAttr,lp]<;>simp
  .rintro s' w' ⟨rfl,L⟩ d;rw[L];refine dB @g0 @i ?_;refine a0C (GV h.sv t0 hw) ?_;rintro e w2 ⟨rfl,u,rfl,hu⟩;refine bF ?_;refine a0C (aKy name hu) ?_;rintro e w3 ⟨rfl,rfl⟩;rw[<- hr];exact⟨yF,J,_,h⟩
 rw[bO C] at hr;by_cases n7:name=[102,97,105,108]
 .subst n7;rw[zip rfl] at hr;cases hr;refine⟨fun _ _=>False,?_,by rintro _ _ h;exact h.elim⟩;refine bF ?_;refine⟨fun s w'=>w'=w/\s 64 = .bool ae,?_,?_⟩
  .simp (disch:=first|assumption|omega|simp only[zS]<;>omega|decide) only[zB,simprocAttr,lp,jk];simp
  .rintro s w' ⟨rfl,L⟩ d;refine cM L ?_;exact⟨yF,J,_,h⟩
 rw[bO n7] at hr;simp only[a0N,a0V,or_false,not_or] at C;obtain⟨m1,m2,m3,m4⟩:=C;have qu:args.length=2:=by
  have F:jx name=if name∈[[61],[92,61],[61,61],[105,115],[60],[62],[61,60],[62,61],[61,58,61]] then 2 else -1:=by
   unfold jx;grind
  omega
 obtain⟨ab,cap,q,v0,v1,rfl,g0,i,k,t0,t1,l,o1⟩:=two qu;refine⟨fun _ w'=>w'=w,?_,?_⟩
 .refine dL @Q @R @S (zA @U @W) ?_;refine⟨fun s w'=>w'=w/\s 64 = .bool ae,?_,?_⟩
  .exact AV @m1 @m2 @m3 @m4
  .rintro s w' ⟨rfl,L⟩ d;exact lW L @n7
 rintro s' w' rfl d;have c:Ext w' w'.drew:=yF;refine⟨fun w2=>di D w' w2,yF,?_⟩;refine toPr ?_;refine cR (pp ab) (fun w2 B=>eS) ?_;refine cR v0 (fun w2 B=>by have:=di.bJ B (by unfold lh;decide) g0;exact lW @this @i) ?_;refine cR (pq ab 1) (fun w2 B=>eS) ?_;refine cR v1 (fun w2 B=>by have:=di.bJ B (by unfold lh;decide) g0;exact lW @this @k) ?_;cases g:kO f (args.getD 0 default) s with
 | none=>rw[g] at hr;cases hr
 | some I=>
 rw[g] at hr;refine a0C (aeA o f (h.ext c) (t0.bJ (rn.ed c)) l zo g) ?_;rintro e w2 ⟨K,a⟩;have m:di D w' w2:=(di.ed c).trans K;cases I with
 | error t=>
  cases hr;have a:e=gW t:=a;subst a;cases t<;>exact fun _=>⟨m,J⟩
 | ok p=>
 obtain⟨z,s1⟩:=p;obtain⟨rfl,KP,F⟩:=a;obtain⟨q1,q2,q3⟩:=Ap f h.ok l g;have q2:s1.fuel<=s.fuel:=q2;simp only[P.Out.ek] at hr;refine⟨m,?_⟩;cases jc:kO f (args.getD 1 default) s1 with
 | none=>rw[jc] at hr;cases hr
 | some r2=>
 rw[jc] at hr;refine a0C (aeA o f F (t1.bJ m.toT) o1 zo jc) ?_;rintro e w3 ⟨eK,a⟩;have G:di D w' w3:=yF;cases r2 with
 | error t=>
  cases hr;have a:e=gW t:=a;subst a;cases t<;>exact fun _=>⟨G,J⟩
 | ok p=>
 obtain⟨z2,s2⟩:=p;obtain⟨rfl,x8,M⟩:=a;cases hr;unfold WW;by_cases c1:name=[60]
 .refine cM @c1 ?_;exact⟨G,J,_,M⟩
 by_cases c2:name=[62]
 .refine cM @c2 ?_;exact⟨G,J,_,M⟩
 by_cases c3:name=[61,60]
 .refine cM @c3 ?_;exact⟨G,J,_,M⟩
 by_cases c4:name=[62,61]
 .refine cM @c4 ?_;exact⟨G,J,_,M⟩
 refine dL @c1 @c2 @c3 @c4 ?_;exact⟨G,zg,_,M⟩
end
def aeG{name:Bs}{x0 f:Tm}(h:dN ρ n w (ak 175 (pp b)) (.comp name [x0,f])) :
  ∃ ab cap a c d,w.heap[b]?=aP #[aW name,cU ab 2 cap] 180/\w.heap[ab]?=aP a 89/\a[0]?=O c/\a[1]?=O d/\dN ρ n w c x0/\dN ρ n w d f:=by
 obtain⟨i,cap,j,g⟩:=Fl h;obtain⟨ab,a,c,rfl,k,l,m⟩:=g 0 zs;obtain⟨o,p,d,e,q,r,s⟩:=g 1 zs;exact yH
def aKC(ih:∀ g,g<=f->CW g){wb T:Nat}{s:Ws}{name:Bs}{x y:Tm}{r:Option Ws}(hx:x7 tr wb pb so T cs)(hs:GW ρ n tr wb pb so T cs w s)
  (hu:dN ρ n w (ak 175 (pp b)) (.comp name [x,y])) (dj:er (.comp name [x,y]))
  (hB:s.cW<=900000100-60) (vy:s.seen.length<=s.out.length) (hr:mg tr (f+1) 91 x y s=O r) :
  Calls bay 96 #[pp wb,pp b] w (Br ρ n tr wb pb so T cs w (s.cW+30) r):=by
 obtain⟨nm,h⟩:=hs;refine aJt ?_;refine⟨fun m z w'=>∃ N k Ec sep CJ B p,z 1=pp N/\z 4 = .int .u8 (sep:UInt8).toNat/\lQ ρ n tr wb pb so T cs Ec w' k/\mW wb pb w w' /\
  dN ρ n w' (ak 175 (pp N)) (.comp CJ [B,p])/\er (.comp CJ [B,p])/\m<=f+1/\mg tr m sep B p k=O r/\k.cW<=s.cW/\k.seen.length<=k.out.length,
  ⟨f+1,b,s,nm,91,name,x,y,J,J,h,bD.refl _ _,hu,dj,a0D _,hr,a0D _,vy⟩,?_⟩
 intro m z d w3 hI;refine toPr ?_;obtain⟨N,k,Ec,sep,CJ,B,p,q,AX,h3,dV,Nt,aKD,hm,j,aom,KL⟩:=hI;have aon:k.cW=k.out.length+60*k.fuel:=rfl;obtain⟨ad3,aJ3,aJ4,eQ,Mv⟩:=id h3.bu;have C:=aKD;unfold er at C;obtain⟨oX,IS⟩:=MY C.2.2;cases m with
 | zero=>simp [mg] at j
 | succ g=>
 rw[mg] at j;refine dB q AX ?_;refine(Nn h3 hx sep zo J).mono ?_;rintro e w4 ⟨⟨v4,rfl⟩,h4,eF⟩;have XM:=dV.trans eF;have KU:=Nt.bJ (h3.kv hx eF).toT;obtain⟨ab,cap,y9,u0,u1,D,E,k3,P,k5,Q⟩:=aeG KU;refine dL q @D @E @k3 ?_;have aem:(k.add [sep]).cW=k.cW+1:=Ws.pj ..;cases F:il tr g B 0 (k.add [sep]) with
 | none=>simp [F,Wb] at j
 | some r1=>
 refine a0C ((ih g zo).tm (least:=0) hx ⟨_,h4⟩ k5 oX zo (oL KL) F) ?_;rintro e w5 lG;have me:=lG.of (B':=s.cW+30) XM zo;cases r1 with
 | none=>
  simp only[F,Wb,a0z] at j;subst j;obtain⟨g1,rfl,g2⟩:=me;exact⟨g1,J,g2⟩
 | some o=>
  obtain⟨iU,rfl,Nw,t⟩:=me;obtain⟨l1,l2⟩:=(Km hx.tok g).tm _ _ _ _ oX zo (oL KL) F;simp only[F,Wb] at j;have XT:mW wb pb w4 w5:=lG.1;have XU:=KU.bJ (h4.kv hx XT).toT;obtain⟨ab,cap,y9,u0,u1,D,E,k3,P,k5,Q⟩:=aeG XU;obtain⟨ad5,aVU,aVV,TH,aVW⟩:=id t.bu;have aKg:o.cW=o.out.length+60*o.fuel:=rfl;refine bF ?_;refine⟨fun G w'=>G 1=pp N/\w'=w5/\Wb (il tr g p 0 (o.add [124])) (fun s=>O (O (s.add [93])))=O r,?_,?_⟩
  .refine dL q @D @E @P ?_;cases hw:dR tr g p with
   | none=>simp [hw] at j
   | some t'=>
   rw[hw] at j;refine a0C (GV t.st Q hw) ?_;rintro e w6 ⟨rfl,u,rfl,l⟩;have aKE:=vq hx.tok IS hw;cases t' with
   | atom a=>
    unfold dK at l;subst l;refine bF ?_;dsimp only at j;by_cases R:a=[91,93]
    .rw[zip R] at j;refine cM R ?_;refine(Nn t hx 93 zo J).mono ?_;rintro e w7 ⟨⟨v7,rfl⟩,h7,S⟩;cases j;exact⟨iU.trans S,J,_,h7⟩
    .rw[bO R] at j;refine cM R ?_;exact⟨q,j⟩
   | int a=>
    unfold dK at l;subst l;refine bF ?_;exact⟨q,j⟩
   | var i=>
    unfold dK at l;obtain⟨hi,rfl⟩:=l;refine bF ?_;exact⟨q,j⟩
   | comp H U=>
    have I:=l;unfold dK at l;obtain⟨b2,uI,SU,rfl,-⟩:=l;obtain⟨ao2,Gn,q1,-⟩:=Fl I;refine cM @q1 ?_;refine⟨fun G w'=>w'=w6/\G 42 = .bool (decide (H=[46]/\U.length=2)),?_,?_⟩
    .by_cases hn:H=[46]
     .refine dB @q1 hn ?_;simp [jk];omega
     .refine dB @q1 hn ?_;grind
    .rintro G w' ⟨rfl,aKG⟩ d2;rw[aKG];dsimp only at j;by_cases W:H=[46]/\U.length=2
     .rw[F4 _ _ W];obtain⟨x2,X,rfl⟩:∃ x2 X,U=[x2,X]:=by
       match U,W.2 with
       | [x2,X],_=>grind
      dsimp only at j;rw[zip W.1] at j;exact⟨g,zo,b2,o,Nw,44,H,x2,X,by grind [jk],by grind [jk],t,iU,I,aKE,zo,j,zo,l2⟩
     .rw[F5 _ _ W];refine⟨by grind [jk],J,?_⟩;split at j
      .rename_i c d';have JE:¬ H=[46]:=zg;rw[bO JE] at j;exact j
      .exact j
  .rintro G w' ⟨K,rfl,L⟩ d2;refine cM K ?_;refine(Nn t hx 124 zo J).mono ?_;rintro e w7 ⟨⟨v7,rfl⟩,h7,S⟩;have aKH:=iU.trans S;have XW:=XU.bJ (t.kv hx S).toT;obtain⟨ab,cap,y9,u0,u1,D,E,k3,P,k5,Q⟩:=aeG XW;refine dL K @D @E @P ?_;have aVY:(o.add [124]).cW=o.cW+1:=Ws.pj ..;cases M:il tr g p 0 (o.add [124]) with
   | none=>simp [M,Wb] at L
   | some r2=>
   refine a0C ((ih g zo).tm (least:=0) hx ⟨_,h7⟩ Q IS zo (oL l2) M) ?_;rintro e w8 KO;have Wz:=KO.of (B':=s.cW+30) aKH zo;cases r2 with
   | none=>
    simp only[M,Wb,a0z] at L;subst L;obtain⟨g1,rfl,g2⟩:=Wz;exact⟨g1,J,g2⟩
   | some s8=>
    obtain⟨XX,rfl,nm8,h8⟩:=Wz;obtain⟨l3,l4⟩:=(Km hx.tok g).tm _ _ _ _ IS zo (oL l2) M;simp only[M,Wb,a0z] at L;subst L;have aV0:s8.cW=s8.out.length+60*s8.fuel:=rfl;obtain⟨ad8,aV2,aV3,hb8,aV5⟩:=id h8.bu;refine bF ?_;refine(Nn h8 hx 93 zo J).mono ?_;rintro e w9 ⟨⟨v9,rfl⟩,h9,Cg⟩;exact⟨XX.trans Cg,J,_,h9⟩
def cw:∀ f,CW f:=by
 intro f;induction f using a2D with
 | _ f ih=>
  cases f with
  | zero=>
   exact⟨fun _ _ _ _ _ _ h=>by simp [il] at h,fun _ _ _ _ _ _ h=>by simp [nM] at h,fun _ _ _ _ _ _ h=>by simp [mg] at h⟩
  | succ f=>
   have i:∀ g,g<=f->CW g:=zg;exact⟨fun a b c d e g h=>aJS zg a b c d e g h,fun a b c d e g h=>aJ0 i a b c d e g h,fun a b c d e g h=>aKC i a b c d e g h⟩
def aKI:(Tryz.prog.info? 89).map (fun i=>(i.zero,i.size,i.bytes))=O (O aj,1,16):=zk
def PZ(d:w.ownsRow base 89 1 v n xs){a:Y}
  (f:w.heap[b]?=aP #[a] 89) (q:a.oneCell'=A)
  (r:n<=100000000) (g:base<=w.heap.size) {K:Y->Z->Prop}
  (h:∀ v' w',w'.ownsRow base 89 1 v' (n+1) (xs++[a])->w.grownBy w' v.ownBlock->(v'.ownBlock=v.ownBlock\/∀ k,v'.ownBlock=O k->w.heap.size<=k)->K v' w') :
  WR bay (Builtin.append_ #[82,82] 82 #[v,cU b 1 m]) w K X:=by
 obtain⟨i,j,c⟩:=a02.1 aKI;simp only[Prod.mk.injEq] at c;obtain⟨l,o,p⟩:=c;refine Sx.Dr (m:=1) (t:=82) (e:=89) zk j l o p J zo d f J (fun u hu=>?_) zo zo g h;grind
abbrev mY(ρ:Nat->Nat)(ids:List Nat):List Y:=ids.map fun i=>ak 87 (pp (ρ i))
def eT.at'{F:Nat->Prop}{w:Z}:∀ {xs:List Ex} {vs:List Y} (j:Nat) (a:j<xs.length),eT F w vs xs->∃ v,vs[j]?=O v/\eR F w v xs[j]
 | x::xs,vs,0,_,h=>by
  unfold eT at h;grind
 | x::xs,vs,j+1,a,h=>by
  unfold eT at h;obtain⟨u,r,rfl,c,b⟩:=h;simpa using eT.at' j zg b
def eT.Ft{F:Nat->Prop}{w:Z}:∀ {xs:List Ex} {vs:List Y},eT F w vs xs->vs.length=xs.length
 | [],vs,h=>by unfold eT at h;subst h;rfl
 | x::xs,vs,h=>by
  unfold eT at h;obtain⟨u,r,rfl,b,a⟩:=h;simp [eT.Ft a]
def aeH(vs:List Nat):∀ (l:List Ex) (j:Nat) (a:j<l.length),oq vs (l.take (j+1))=oq vs (l.take j)++[P.made vs l[j]]
 | x::xs,0,_=>by simp [oq]
 | x::xs,j+1,a=>by
  have:=aeH vs xs j zg;simp only[List.take_succ_cons,oq,List.cons_append,List.getElem_cons_succ];rw[this]
def aeI{ρ:Nat->Nat}{n:Nat}{ids:List Nat}(NA:∀ i∈ids,i<n):∀ (N:Nat) (x:Ex),iH x<=N->ir ids.length x->∀ {F G:Nat->Prop} {w:Z} {v vv:Y},eR F w v x->fO G w 89 vv (mY ρ ids) ->
  Calls bay 32 #[v,vv] w fun e w'=>Ext w w'/\∃ u,e = ai u/\dK (Nu w w') ρ n w' u (P.made ids x)
 | 0,x,K,_,_,_,_,_,_,_,_=>by cases x;simp [iH] at K
 | N+1,.mk kind name k kv args,K,dj,F,G,w,v,vv,hv,wX=>by
  have ih:=aeI (ρ:=ρ) (n:=n) NA N;unfold ir at dj;obtain⟨o1,o2,o3,o4,o5,o6,o7,o8⟩:=dj;unfold eR at hv;obtain⟨b,av,dk,rfl,hF,g,hs,hx⟩:=hv;unfold iH at K;obtain⟨m0,f⟩:=ck (P.made ids (.mk kind name k kv args));rw[<- f];unfold P.made at f;refine aJr ?_;by_cases s:kind=97
  .subst s;rw[zip rfl] at f;subst f;have B:((97:Nat):Int)=97:=rfl;refine dB g @B ?_;refine⟨yF,?_⟩;unfold dK;grind
  .have aV6:¬ (kind:Int)=97:=zo;rw[bO s] at f;by_cases AE:kind=110
   .subst AE;rw[zip rfl] at f;subst f;have B:((110:Nat):Int)=110:=rfl;refine dB g @B ?_;refine⟨yF,_,J,?_⟩;unfold dK;rfl
   .have aV7:¬ (kind:Int)=110:=zo;rw[bO AE] at f;by_cases G1:kind=118
    .subst G1;rw[zip rfl] at f;subst f;have B:((118:Nat):Int)=118:=rfl;have PR:=o4 J;have hl:(mY ρ ids).length=ids.length:=zs;obtain⟨gb,L,rfl,g1,g2,g3⟩:=wX.at' (j:=kv) (by rw[hl];exact PR);have M:L[kv]?=O (ak 87 (pp (ρ ids[kv]))):=by
      grind
     have Q:(kv:Int).toNat=kv:=zo;rw[hl];refine dL g @B @g2 (zA @M @Q) ?_;refine⟨yF,_,J,?_⟩;unfold dK;have R:ids.getD kv 0=ids[kv]:=zg;rw[R];exact⟨(by grind [List.getElem_mem]),J⟩
    .have aV8:¬ (kind:Int)=118:=zo;obtain⟨sa,sc,rfl⟩:=hs.sl;have Fb:=hx.Ft;have lb:=bn g;rw[bO G1] at f;subst f;refine cM g ?_;refine⟨fun m z w'=>∃ j E vs,z 46=zi (j:Nat)/\j<=args.length/\m=args.length-j/\Ext w w'/\w'.heap[w.heap.size]?=aP #[aW name,E] 180 /\
      w'.ownsRow (w.heap.size+1) 89 1 E j vs/\iP (fun c=>w.heap.size<c/\c<w'.heap.size/\O c≠E.ownBlock) ρ n w' vs (oq ids (args.take j)),
      ⟨_,0,b9,[],J,Nat.zero_le _,J,yF,yH,World.ownsRow_nil _ _ _ _,by simp [oq];unfold iP;rfl⟩,?_⟩
     intro m z d w3 hI;refine toPr ?_;obtain⟨j,E,vs,S,hj,rfl,C,q3,q,T⟩:=hI;have s3:=C.size;have l3:=bn q3;obtain⟨r,rc,rfl⟩:=ij q;by_cases hlt:j<args.length
     .have qG:j<dk.length:=zo;obtain⟨sb,IX,e1,e2,M,e4⟩:=hs.at' qG;obtain⟨u,R,hu⟩:=eT.at' j hlt hx;rw[R] at e4;simp only[a0S,true_and] at e1;obtain⟨rfl,rfl⟩:=e1;have j8:((j:Nat):Int).toNat=j:=zo;have U:=C.ext _ _ M;refine dL S @U @e4 @j8 ?_;refine⟨fun w'=>w'.heap[w.heap.size]?=aP #[aW name,.slice r j rc] 180,q3,?_⟩;refine bF ?_;refine cR (pq w.heap.size 1) (fun w' _=>eS) ?_;refine cR (.slice r j rc) (fun w' hS=>fj hS) ?_;have P0:iH args[j]<=N:=by
       have:∀ (l:List Ex) (j:Nat) (hj:j<l.length),iH l[j]<=fL l:=by
        intro l;induction l with
        | nil=>grind
        | cons a l ihl=>
         grind [fL]
       grind
      have W:Ext w w3.drew:=C.drew;have MO:∀ {H:Nat->Prop} {y:Ex} {v':Y},eR H w v' y->eR H w3.drew v' y:=fun h=>eR.mono zg (by grind [bD.ext]) _ _ h;refine a0C (ih args[j] P0 (o8.at hlt) (MO hu) (wX.mono (fun _ h=>h) fun b cs _ g=>W.ext _ _ g)) ?_;rintro e p ⟨gn,u4,rfl,KU⟩;have s4:=gn.size;rw[BU] at s4;have I:Ext w3 p:=yF;have q4:=I.ext _ _ q3;have l4:=bn q4;refine⟨q4,?_⟩;obtain⟨tu,xu,rfl⟩:=KU.iface;refine bF ?_;have hX:Ext p (p.alloc (ah #[ak tu xu] 89)):=yF;refine⟨q4,?_⟩;have Aj:=jQ (I.trans hX).ext q;refine PZ (base:=w.heap.size+1) Aj (tz J) J zo (by rw[size_alloc];omega) ?_;intro v' w5 Ix yV yd;have s5:=yV.size;rw[size_alloc] at s5;have kp:∀ c o,p.heap[c]?=O o->O c≠(a0M r j rc).ownBlock->w5.heap[c]?=O o:=(by grind [size_alloc,bn,World.grownBy.block,bD.ext]);have lo:∀ k,(a0M r j rc).ownBlock=O k->w.heap.size+1<=k/\k<w3.heap.size:=fun k hk=>q.lt k hk;have X:=kp _ _ q4 (fun e=>by have:=lo _ e.symm;omega);have l5:=bn X;obtain⟨P1,P2,rfl⟩:=ij Ix;refine⟨X,?_⟩;refine dB @X S ?_;have nB:∀ c,c<p.heap.size->O c≠(a0M r j rc).ownBlock->O c≠(a0M P1 (j+1) P2).ownBlock:=yH;refine⟨_,?_,j+1,.slice P1 (j+1) P2,vs++[ak tu xu],zg,zo,J,?_,J,(by grind [JQ]),?_⟩
      .omega
      .refine bD.bT ?_ yH;exact((C.trans I).trans hX).grow yV yH
      .rw[aeH ids args j hlt];have k5:∀ c o,c≠w.heap.size->O c≠(a0M r j rc).ownBlock->p.heap[c]?=O o->(bT w5 w.heap.size (ah #[aW name,.slice P1 (j+1) P2] 180)).heap[c]?=O o:=yH;refine iP.snoc ?_ ?_
       .refine dK.mono (F:=Nu w3.drew p) (fun c D=>?_) zo zg (fun c cs t D _ ho=>?_) _ _ KU
        .exact yH
        exact yH
       .refine iP.mono (fun c D=>?_) zo zg (fun c cs t D _ ho=>?_) _ _ T
        .exact yH
        .exact k5 c _ (by have:=D.1;omega) D.2.2 (I.ext _ _ ho)
     .have fD:j=args.length:=zo;subst fD;rw[List.take_length] at T;refine cM S ?_;refine⟨C,?_⟩;refine⟨_,J,?_⟩;unfold dK;refine⟨_,_,vs,J,yH,q3,EO q (fun b g=>⟨by have:=(q.lt b g).1;omega,(q.lt b g).2⟩),?_⟩;exact iP.mono yH zo zg (fun _ _ _ _ _ h=>h) _ _ T
open Go.Proofs.YtoegidfbnkaabaaGreatDoor.Sx
section
variable{p0 p1 p2 p3 p4 p5 p6 p7:Y}{w:Z}{R:Ending->Z->Prop}
def aKK:=cz w R [p0,p1] (gc [(2,[4,9])] [] [10]) func228
def aKL:=cz w R [p0,p1] (gd [] [] [] [(0,[16,0,1,2,3,4,5,6,7,9,8,10,11,12,13,14,15])] [] [] []) func226
def aKM:=cz w R [p0,p1,p2,p3,p4] (gd [(9,[64])] [(6003,[])] [(4,9)] [(11,[11,0,1,2,3,4,5,6,7,8,9,10,11])] [] [] [10,24,65,79,80]) func224
def aKN:=cz w R [p0,p1,p2] (gd [] [(6001,[])] [(3,8)] [(4,[0,0,1,2,3,4,5,6,7,8,9,10,11,12]),(8,[21,0,1,2,3,4,5,6,7,9,10,11,12,13,14,8,15,16,17,18,19,20])] [] [] [6,23,32,46,81]) func227
def aKO:=cz w R [p0,p1] (gd [(13,[7])] [] [(4,12),(10,12),(21,19)] [(15,[25,0,1,2,3,4,5,6,7,8,9,10,11,12,13,14,15,16,17,18,19,20,21,22,23,24]),(17,[22,0,1,2,3,4,5,6,7,8,9,10,11,12,13,14,15,16,17,18,19,20,21]),(18,[24,0,1,2,3,4,5,6,7,8,9,10,11,12,13,14,15,16,17,18,19,20,21,22,23]),(20,[22,0,1,2,3,4,5,6,7,8,9,10,11,12,13,14,15,16,17,18,19,20,21]),(22,[21,0,1,2,3,4,5,6,7,8,9,10,11,12,13,14,15,16,17,18,19,20]),(26,[21,0,1,2,3,4,5,6,7,8,9,10,11,12,13,14,15,16,17,18,19,20])] [] [] [4,19,47,48,49,62,63,71,98,99,145,146,209,210]) func225
def aKP:=cz w R [p0] (gd [(2,[3])] [(11009,[])] [(7,7),(11,14)] [] [] [] [2,3,7,8,16,35,66,72,89]) func223
end
def ou(w:Z)(a:TypeId)(v:Y)(vs:List Y):Prop:=
 (vs=[]/\v = b9) \/
 ∃ b o cap cs,v = .slice (O ⟨b,o,V⟩) vs.length cap/\w.heap[b]?=aP cs a/\vs.length<=cap/\(cs.toList.drop o).take vs.length=vs/\vs≠[]
theorem ou.of{a:TypeId}(h:fO F w a v vs)(c:vs≠[]):ou w a v vs:=by
 rcases h with h | ⟨b,cs,d,-,e,f,g⟩
 .grind
 .exact .inr yH
theorem ou.nil{a:TypeId}:ou w a b9 []:=.inl ⟨J,J⟩
theorem ou.bJ{a:TypeId}(h:ou w a v vs)(hw:∀ (b:Nat) (cs:Array Y),w.heap[b]?=aP cs a->w'.heap[b]?=aP cs a):ou w' a v vs:=by
 rcases h with h | ⟨b,o,cap,cs,c,d,e,f⟩
 .exact .inl h
 .exact .inr yH
theorem ou.at{a:TypeId}(h:ou w a v vs)(c:j<vs.length):∃ b o cap cs,v = .slice (O ⟨b,o,V⟩) vs.length cap/\w.heap[b]?=aP cs a/\cs[o+j]?=vs[j]?/\vs.length<=cap:=by
 rcases h with⟨rfl,-⟩| ⟨b,o,cap,cs,d,e,f,g,-⟩<;>grind
def ou.tail{a:TypeId}{x:Y}(h:ou w a (.slice (O ⟨b,o,V⟩) n cap) (x::vs))(d:vs≠[]):ou w a (sliced (O ⟨b,o,V⟩) 1 n cap 1) vs:=by
 rcases h with⟨h,-⟩| ⟨i,j,k,cs,c,e,f,g,-⟩
 .grind
 .simp only[a0S,a0z,Addr.mk.injEq,and_true] at c;obtain⟨⟨rfl,rfl⟩,rfl,rfl⟩:=c;have m:vs.length≠0:=zg;simp only[List.length_cons] at f g;refine .inr ⟨b,o+1,cap-1,cs,?_,e,zo,?_,d⟩
  .unfold sliced;rw[bO zo];simp [Addr.add]
  .cases p:cs.toList.drop o with
   | nil=>grind
   | cons y l=>
    grind [List.tail_drop]
def P3(w:Z)(v:Y):Option Bd->Prop
 | none=>v = au V
 | some b=>dM (fun _=>True) w v b
def uJ(ρ:Nat->Nat)(n:Nat)(w:Z):Y->List P.Goal->Prop
 | v,[]=>v = au V
 | v,g::r=>∃ b a vv nx,v = au (O ⟨b,0,V⟩)/\w.heap[b]?=O (ah #[a,vv,.int .i64 (g.cut:Nat),nx] 207 (0,0))/\P3 w a g.Bm /\
  fO (fun _=>True) w 89 vv (mY ρ g.vars)/\(∀ i∈g.vars,i<n)/\uJ ρ n w nx r
def qH(ρ:Nat->Nat)(n:Nat)(w:Z):List Y->List nO->Prop
 | vs,[]=>vs=[]
 | vs,a::r=>∃ b cv av fX us rest,vs=[.int .i64 (a.mark:Nat),b,cv,av]++rest/\uJ ρ n w b a.todo/\ou w 79 cv fX/\kr (fun _=>True) w fX a.clauses /\
  fO (fun _=>True) w 89 av us/\pU ρ n w us a.args/\qH ρ n w rest r
def TM(T:Nat):Prop:=lh T\/T=9\/T=57\/T=121
def yM{p:Prop}(h:p:=by first | (unfold TM lh;decide) | (unfold lh;decide)):p:=h
def eM(w w':Z):Prop:=∀ (b:Nat) (cs:Array Y) (T:Nat),¬ TM T->w.heap[b]?=aP cs T->w'.heap[b]?=aP cs T
def di.toI(h:di D w w'):eM w w':=fun _ _ _ a b=>h.bJ (fun h=>a (.inl h)) b
theorem eM.ed(h:Ext w w'):eM w w':=fun _ _ _ _ a=>h.ext _ _ a
theorem eM.trans{a b c:Z}(h:eM a b)(k:eM b c):eM a c:=fun x cs T d e=>k x cs T d (h x cs T d e)
theorem eM.toT(h:eM w w'):XE w w':=fun b cs t _ ht a=>h b cs t (by rcases ht with rfl | rfl<;>(first | (unfold TM lh;decide) | (unfold lh;decide))) a
theorem eM.lx(h:eM w w'):∀ (b:Nat) (o:Obj),True->Dt o->w.heap[b]?=O o->w'.heap[b]?=O o:=fun b o _ a c=>by
 cases o with
 | cells cs t z=>
  obtain⟨ht,rfl⟩:=a;exact h b cs t (by rcases ht with rfl | rfl | rfl | rfl<;>(first | (unfold TM lh;decide) | (unfold lh;decide))) c
 | _=>exact a.elim
def dM.iJ(hk:eM w w'){b:Bd}(h:dM (fun _=>True) w v b):dM (fun _=>True) w' v b:=dM.mono zg hk.lx b v h
theorem P3.bJ{w w':Z}(hk:eM w w'){v:Y}:∀ {o:Option Bd},P3 w v o->P3 w' v o
 | none,h=>h
 | some _,h=>dM.iJ hk h
def fO.iJ(hk:eM w w')(a:¬ TM pb)(h:fO (fun _=>True) w pb v vs):fO (fun _=>True) w' pb v vs:=h.mono zg fun b cs _ c=>hk b cs pb a c
def EZ.iJ{w w':Z}(hk:eM w w'){v:Y}{c:Cl}(h:EZ (fun _=>True) w v c):EZ (fun _=>True) w' v c:=by
 obtain⟨b,av,bv,a,d,e,f,g,⟨us,i,j⟩,k⟩:=h;exact⟨b,av,bv,a,d,e,f,hk _ _ _ (yM) g,⟨us,fO.iJ hk (yM) i,eT.mono zg hk.lx _ _ j⟩,dM.iJ hk k⟩
def kr.iJ{w w':Z}(hk:eM w w'):∀ {vs:List Y} {l:List Cl},kr (fun _=>True) w vs l->kr (fun _=>True) w' vs l
 | vs,[],h=>h
 | vs,c::l,⟨v,r,a,b,d⟩=>⟨v,r,a,b.iJ hk,kr.iJ hk d⟩
def eC(ρ:Nat->Nat)(n:Nat)(eO:Nat->Nat)(a:Nat):Prop:=n<=a/\∀ i,i<n->eO i=ρ i
theorem eC.refl(ρ:Nat->Nat)(n:Nat):eC ρ n ρ n:=⟨a0D _,zg⟩
theorem eC.trans{a b c:Nat->Nat}{i j k:Nat}(h:eC a i b j)(d:eC b j c k):eC a i c k:=⟨a0E h.1 d.1,fun x hx=>(d.2 x (Nat.lt_of_lt_of_le hx h.1)).trans (h.2 x hx)⟩
def aoA(h:eC ρ n tS pb){l:List Nat}(a:∀ i∈l,i<n):mY tS l=mY ρ l:=by
 unfold mY;exact List.map_congr_left fun i b=>by rw[h.2 i (a i b)]
def pU.P4(hk:eM w w')(hu:eC ρ n tS pb){l:List Tm}(h:pU ρ n w vs l):pU tS pb w' vs l:=iP.mono zg hu.1 hu.2 hk.toT _ _ h
def dN.P4(hk:eM w w')(hu:eC ρ n tS pb)(h:dN ρ n w v t):dN tS pb w' v t:=dK.mono zg hu.1 hu.2 hk.toT _ _ h
theorem uJ.bJ{ρ eO:Nat->Nat}{n a:Nat}{w w':Z}(hk:eM w w')(hu:eC ρ n eO a):∀ {l:List P.Goal} {v:Y},uJ ρ n w v l->uJ eO a w' v l
 | [],v,h=>h
 | g::r,v,⟨b,d,vv,nx,e,f,j,k,c,m⟩=>⟨b,d,vv,nx,e,hk _ _ _ (yM) f,j.bJ hk,by rw[aoA hu c];exact fO.iJ hk (yM) k,
  fun i o=>Nat.lt_of_lt_of_le (c i o) hu.1,uJ.bJ hk hu m⟩
theorem qH.bJ{ρ eO:Nat->Nat}{n c:Nat}{w w':Z}(hk:eM w w')(hu:eC ρ n eO c):∀ {l:List nO} {vs:List Y},qH ρ n w vs l->qH eO c w' vs l
 | [],vs,h=>h
 | a::r,vs,⟨d,cv,av,fX,us,rest,e,f,g,i,j,k,m⟩=>⟨d,cv,av,fX,us,rest,e,f.bJ hk hu,g.bJ fun b cs o=>hk b cs _ (yM) o,i.iJ hk,
  fO.iJ hk (yM) j,k.P4 hk hu,qH.bJ hk hu m⟩
def qH.len{ρ:Nat->Nat}{n:Nat}{w:Z}:∀ {l:List nO} {vs:List Y},qH ρ n w vs l->vs.length=l.length*4
 | [],vs,h=>by have h:vs=[]:=h;grind
 | a::r,vs,⟨d,cv,av,fX,us,rest,b,_,_,_,_,_,c⟩=>by
  rw[b,List.length_append,qH.len c];grind
def aKQ:(Tryz.prog.info? 356).map (fun i=>(i.zero,i.size,i.bytes))=O (O (.agg #[zi 0,au V,b9,b9]),4,64):=zk
def aoB(c:w.ownsRow base 356 4 v n xs){l:List Y}
  (d:w.heap[b]?=aP l.toArray 356) (q:l.length=4) (r:∀ u∈l,u.oneCell'=A)
  (s:n<=900000000) (f:base<=w.heap.size) {K:Y->Z->Prop}
  (h:∀ v' w',w'.ownsRow base 356 4 v' (n+1) (xs++l)->w.grownBy w' v.ownBlock->(v'.ownBlock=v.ownBlock\/∀ k,v'.ownBlock=O k->w.heap.size<=k)->K v' w') :
  WR bay (Builtin.append_ #[128,128] 128 #[v,cU b 1 m]) w K X:=by
 obtain⟨i,g,a⟩:=a02.1 aKQ;simp only[Prod.mk.injEq] at a;obtain⟨j,o,p⟩:=a;exact Sx.Dr (m:=1) (t:=128) (e:=356) zk g j o p J zo c d zo zg zo zo f h
def Dm(D:Nat->Prop)(av:Y)(b:Nat):Prop:=D b/\av.ownBlock≠O b
theorem di.up{D':Nat->Prop}(h:di D w w')(a:∀ b,D b->D' b):di D' w w':=bD.mono h fun b o _ hm=>⟨a b hm.1,hm.2⟩
theorem gV.up{D':Nat->Prop}{T:Nat}{s:Sr}(h:gV D ρ n pb so T cs tv w s)(a:∀ b,D b->D' b):gV D' ρ n pb so T cs tv w s:=
 ⟨h.sv,(by grind [dv]),h.cell,h.row,(by grind [dr]),a _ h.ds,h.nd,h.lt,h.ok⟩
abbrev G2(mb:Nat)(todo av vv:Y):Array Y:=#[.map (O mb),.slice V 0 0,zi 0,todo,av,vv]
theorem Fv:vH 1 130 (G2 mb tv av vv):=⟨zs,.inl J⟩
structure ko(D:Nat->Prop)(ρ:Nat->Nat)(wb mb:Nat)(todo av vv tv:Y)(dk:List Y)(w:Z)(k:Wk):Prop where
 st:gV D ρ k.n wb 1 130 (G2 mb todo av vv) tv w k.sr
 td:uJ ρ k.n w todo k.todo
 ar:w.ownsRow 0 356 4 av k.br.length dk
 ag:qH ρ k.n w dk k.br
 da:∀ g,av.ownBlock=O g->D g
def P5(D:Nat->Prop)(ρ:Nat->Nat)(wb mb:Nat)(vv:Y)(w:Z)(k:Wk):Prop:=∃ todo av tv dk,ko D ρ wb mb todo av vv tv dk w k
section
variable{D:Nat->Prop}{ρ:Nat->Nat}{wb mb:Nat}{todo av vv tv:Y}{dk:List Y}{w w':Z}{k:Wk}
theorem ko.cell(h:ko D ρ wb mb todo av vv tv dk w k):w.heap[wb]?=aP #[.map (O mb),tv,zi (k.sr.fuel:Nat),todo,av,vv] 130:=h.st.cell
theorem ko.ext(h:ko D ρ wb mb todo av vv tv dk w k)(a:Ext w w'):ko D ρ wb mb todo av vv tv dk w' k:=
 ⟨h.st.ext a,h.td.bJ (eM.ed a) (eC.refl _ _),jQ a.ext h.ar,h.ag.bJ (eM.ed a) (eC.refl _ _),h.da⟩
theorem ko.Eg(h:ko D ρ wb mb todo av vv tv dk w k)(a:av.ownBlock=O g):∃ cs,w.heap[g]?=aP cs 356:=by
 rcases h.ar.2 with⟨rfl,-⟩| ⟨b,cap,cur,rfl,-,c,-⟩
 .cases a
 grind [Value.ownBlock,a0z]
def ko.less(h:ko D ρ wb mb todo av vv tv dk w k):gV (Dm D av) ρ k.n wb 1 130 (G2 mb todo av vv) tv w k.sr:=by
 refine⟨h.st.sv,fun i b=>⟨h.st.dv i b,fun e=>?_⟩,h.st.cell,h.st.row,fun g c=>⟨h.st.dr g c,fun e=>?_⟩,⟨h.st.ds,fun e=>?_⟩,h.st.nd,h.st.lt,h.st.ok⟩
 .obtain⟨cs,a⟩:=h.Eg e;obtain⟨ref,d,-⟩:=h.st.sv.var i b;grind
 .obtain⟨cs,a⟩:=h.Eg e;exact absurd c (h.st.XI a zo)
 .obtain⟨cs,a⟩:=h.Eg e;have d:=h.cell;grind
def aKR{size:Nat}(h:w.ownsRow base e size v m xs)(a:di (Dm D v) w w'):w'.ownsRow base e size v m xs:=by
 refine⟨h.1,?_⟩;rcases h.2 with g | ⟨b,cap,cur,rfl,c,d,f⟩
 .exact yH
 .exact .inr ⟨b,cap,cur,J,c,a.block _ _ d (fun hm=>hm.1.2 J),f⟩
def ko.store(h:ko D ρ wb mb todo av vv tv dk w k){s':Sr}(b:gV (Dm D av) ρ k.n wb 1 130 (G2 mb todo av vv) o4 w' s')(a:di (Dm D av) w w') :
  ko D ρ wb mb todo av vv o4 dk w' { k with sr:=s' }/\di D w w':=
 ⟨⟨b.up fun _ h=>h.1,h.td.bJ a.toI (eC.refl _ _),aKR h.ar a,h.ag.bJ a.toI (eC.refl _ _),h.da⟩,a.up fun _ h=>h.1⟩
def ko.KX(h:ko D ρ wb mb todo av vv tv dk w k){todo':Y}{l:List P.Goal}(c:uJ ρ k.n w todo' l)
  (hw:w1=bT w wb (ah #[.map (O mb),tv,zi (k.sr.fuel:Nat),todo',av,vv] 130)):ko D ρ wb mb todo' av vv tv dk w1 { k with todo:=l }/\di D w w1:=by
 obtain⟨b,a⟩:=h.st.cells (by grind [Fv]) (cs':=G2 mb todo' av vv) (f:=k.sr.fuel);have e:bT w wb (ah (ky ((G2 mb todo' av vv).setIfInBounds 1 tv) 1 (k.sr.fuel:Nat)) 130 (0,0))=w1:=zg;rw[e] at b a;refine⟨⟨b,c.bJ a.toI (eC.refl _ _),?_,h.ag.bJ a.toI (eC.refl _ _),h.da⟩,a⟩;rw[hw];refine IK h.ar fun e=>?_;obtain⟨cs,d⟩:=h.Eg e;have g:=h.cell;grind
def ko.KY(h:ko D ρ wb mb todo av vv tv dk w k){av':Y}{avs':List Y}{l:List nO}(hr:w1.ownsRow 0 356 4 av' l.length avs')
  (d:w.grownBy w1 av.ownBlock) (hv:av'.ownBlock=av.ownBlock\/∀ g,av'.ownBlock=O g->D g/\w.heap.size<=g) (q:qH ρ k.n w avs' l)
  (hw:w2=bT w1 wb (ah #[.map (O mb),tv,zi (k.sr.fuel:Nat),todo,av',vv] 130)) :
  ko D ρ wb mb todo av' vv tv avs' w2 { k with br:=l }/\di D w w2/\w1.heap[wb]?=w.heap[wb]?:=by
 have s:=h.cell;have u:∀ (b:Nat) (c:Array Y) (U:Nat),w.heap[b]?=aP c U->U≠356->w1.heap[b]?=aP c U:=(by grind [bn,World.grownBy.block,Eg]);have f1:di D w w1:=⟨d.os,d.tape,d.output,d.size,fun b o i hm=>by
  rw[d.block b (bn i) (fun e=>?_)]
  .omega
  .obtain⟨cs,a⟩:=h.Eg e.symm;rw[i] at a;exact hm ⟨h.da b e.symm,_,_,_,Option.some.inj a,.inr zg⟩⟩
 have s1:gV D ρ k.n wb 1 130 (G2 mb todo av vv) tv w1 k.sr:=by
  refine⟨h.st.sv.bJ fun b c t ht i=>yH,h.st.dv,yH,?_,h.st.dr,h.st.ds,h.st.nd,h.st.lt,h.st.ok⟩;refine⟨h.st.row.1,?_⟩;rcases h.st.row.2 with a | ⟨b,cap,cur,j,p,r,x⟩<;>grind
 obtain⟨a,p⟩:=s1.cells (by grind [Fv]) (cs':=G2 mb todo av' vv) (f:=k.sr.fuel);have e:bT w1 wb (ah (ky ((G2 mb todo av' vv).setIfInBounds 1 tv) 1 (k.sr.fuel:Nat)) 130 (0,0))=w2:=zg;rw[e] at a p;have m:di D w w2:=yF;refine⟨⟨a,h.td.bJ m.toI (eC.refl _ _),?_,q.bJ m.toI (eC.refl _ _),fun g y=>?_⟩,m,yH⟩
 .rw[hw];refine IK hr fun e=>?_;rcases hr.2 with⟨j,-⟩| ⟨z,cap,cur,j,-,r,-⟩
  .rw[j] at e;cases e
  grind [Value.ownBlock,a0z]
 grind [da]
def uJ.ptr{n:Nat}{v:Y}:∀ {l:List P.Goal},uJ ρ n w v l->∃ p,v = .pointer p
 | [],h=>⟨V,h⟩
 | _::_,⟨b,_,_,_,h,_⟩=>⟨_,h⟩
def qH.snoc{n:Nat}{a:nO}{l0:List Y}:∀ {l:List nO} {vs:List Y},qH ρ n w vs l->qH ρ n w l0 [a]->qH ρ n w (vs++l0) (l++[a])
 | [],vs,h,b=>by have h:vs=[]:=h;grind
 | x::l,vs,⟨c,cv,av,fX,us,rest,k,d,e,f,g,i,j⟩,b=>⟨c,cv,av,fX,us,rest++l0,zg,d,e,f,g,i,qH.snoc j b⟩
def aeM(h:ko D ρ wb mb todo av vv tv dk w k)(hD:∀ b,w.heap.size<=b->D b){l:List P.Goal}(f:uJ ρ k.n w o4 l)(s:k.br.length<=900000000) :
  Calls bay 226 #[pp wb,o4] w fun e w'=>e = ai (aq #[])/\di D w w'/\∃ av' avs',ko D ρ wb mb todo av' vv tv avs' w' (k.M7 l):=by
 have i:=h.cell;have lw:=bn i;obtain⟨j,rfl⟩:=f.ptr;have t:Ext w w.drew:=yF;refine aKL ?_;refine⟨fun w'=>w'.heap[wb]?=w.heap[wb]?,J,?_⟩;refine toPr ?_;refine bF ?_;refine cR (pq wb 4) (fun w' a=>eS) ?_;refine cR av (fun w' a=>by rw[i] at a;have:=bn a;exact fj a) ?_;refine bF ?_;refine cR (pq wb 1) (fun w' a=>eS) ?_;refine a0C (Tn (h.ext t).st Fv) ?_;rintro e w1 ⟨rfl,rfl⟩;refine⟨J,?_⟩;refine bF ?_;obtain⟨l0,m⟩:∃ l0:List Y,l0=[zi (k.sr.tr.length:Nat),.pointer j,b9,b9]:=⟨_,J⟩;obtain⟨w2,o⟩:=ck (w.drew.alloc (ah l0.toArray 356 (0,0)));have d:Ext w w2:=yF;have g2:w2.heap[w.heap.size]?=aP l0.toArray 356:=yH;have s2:w2.heap.size=w.heap.size+1:=yH;rw[m] at o;rw[<- o];have c:=h.ext d;have q2:=c.cell;refine aoB c.ar g2 zg (by rw[m];intro u hu;simp only[a0N,a0V,or_false] at hu;rcases hu with rfl | rfl | rfl | rfl<;>rfl) s zo ?_;intro v' w3 p x y;obtain⟨p3,d3,z⟩:=ij p;subst z;obtain⟨G,q⟩:=ck (bT w3 wb (ah #[.map (O mb),tv,zi (k.sr.fuel:Nat),todo,.slice p3 (k.br.length+1) d3,vv] 130));have B:qH ρ k.n w2 (dk++l0) (k.br++[⟨k.sr.tr.length,l,[],[]⟩]):=by
  refine c.ag.snoc ⟨.pointer j,b9,b9,[],[],[],zg,f.bJ (eM.ed d) (eC.refl _ _),ou.nil,J,.inl ⟨J,J⟩,?_,J⟩;unfold pU iP;rfl
 obtain⟨C,E,F⟩:=c.KY (l:=k.br++[⟨k.sr.tr.length,l,[],[]⟩]) (by rw[List.length_append,List.length_singleton];exact p) x (y.imp id fun hx g r=>⟨hD g (by have:=hx g r;omega),hx g r⟩) B q;refine⟨yH,?_⟩;have c3:=F.trans q2;refine cM @c3 ?_;rw[<- q];exact⟨(di.ed d).trans E,_,_,C⟩
end
