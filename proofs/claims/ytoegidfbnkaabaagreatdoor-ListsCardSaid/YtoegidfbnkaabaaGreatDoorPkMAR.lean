/- A part of one proof (KS5, KS6, KS7, KS8, SlU, KS9, PW7, PW8, ShX2). -/
import Derived.Test.YtoegidfbnkaabaaGreatDoorPkMAQ
set_option linter.all false
set_option maxRecDepth 100000
set_option maxHeartbeats 8000000
open Option renaming some → O, none → V
open Go renaming Value → Y, World → Z
open Bool renaming true → G, false → ae
open Go.Obj renaming cells → ah
open Go.Ending renaming returned → ai
open Go.Value renaming nilIface → aj, iface → ak
open Option.some renaming injEq → a3I
open Go.Calls renaming mono → a3L
open Nat renaming le_refl → a3O, le_trans → a3Q, strongRecOn → a5z
open List renaming mem_cons → a3T, drop_eq_getElem_cons → a3U, not_mem_nil → a30, drop_length → a4E
open Go.Value renaming slice → a3Y
open Go.Proofs.Tryz renaming prog → bdM
open Go.Proofs.Tryz
namespace Go.Proofs.YtoegidfbnkaabaaGreatDoor
open P
open Go.RowKit Sx
variable{F:Nat->Prop}{K:Y->Prop}{X:Y->Z->Prop}{av tv u v:Y}{b base f j m n pb so wb:Nat}{cs:Array Y}{t:Tm}{tr:Tr}{vs xs:List Y}{w:Z}{y:Operand}{ρ:Nat->Nat}
section
variable{D:Nat->Prop}{ρ:Nat->Nat}{n sb so T:Nat}{cs:Array Y}
def afO{a b:Tm}(g:EH ρ n tr w)(f:dO ρ n w u a)(c:dO ρ n w v b)(o:¬ (BP a=G/\BP b=G)){x:Operand} :
  RD bdM (bo .eql 89 x y u v) w K X=K (.bool (P.flat a b)):=by
 have d:yS bdM 89=true:=zk;cases a with
 | atom a=>
  unfold dO dK at f;subst f;cases b with
  | atom b=>
   unfold dO dK at c;subst c;rw[ayJ d zk zk];grind [decide,P.flat]
  | int b=>unfold dO dK at c;subst c;exact DX d zg _ _
  | var b=>unfold dO dK at c;obtain⟨_,rfl⟩:=c;exact DX d zg _ _
  | comp m l=>unfold dO dK at c;obtain⟨_,_,_,rfl,-⟩:=c;exact DX d zg _ _
 | int a=>
  unfold dO dK at f;subst f;cases b with
  | atom b=>unfold dO dK at c;subst c;exact DX d zg _ _
  | int b=>
   unfold dO dK at c;subst c;rw[ayK d zk zk];grind [decide,P.flat]
  | var b=>unfold dO dK at c;obtain⟨_,rfl⟩:=c;exact DX d zg _ _
  | comp m l=>unfold dO dK at c;obtain⟨_,_,_,rfl,-⟩:=c;exact DX d zg _ _
 | var i=>
  unfold dO dK at f;obtain⟨hi,rfl⟩:=f;cases b with
  | atom b=>unfold dO dK at c;subst c;exact DX d zg _ _
  | int b=>unfold dO dK at c;subst c;exact DX d zg _ _
  | var j=>
   unfold dO dK at c;obtain⟨k,rfl⟩:=c;obtain⟨q,g1,-⟩:=g.var i hi;obtain⟨r,g2,-⟩:=g.var j k;rw[ayL d zk zk g1 g2];have:decide (ρ i=ρ j)=P.flat (.var i) (.var j):=by
    rw[P.flat];by_cases h:i=j
    .subst h;simp
    .have p:ρ i≠ρ j:=fun e=>h (g.inj i j hi k e);simp [h,p]
   rw[this]
  | comp m l=>unfold dO dK at c;obtain⟨_,_,_,rfl,-⟩:=c;exact DX d zg _ _
 | comp m l=>
  unfold dO dK at f;obtain⟨_,_,_,rfl,-⟩:=f;cases b with
  | atom b=>unfold dO dK at c;subst c;exact DX d zg _ _
  | int b=>unfold dO dK at c;subst c;exact DX d zg _ _
  | var j=>unfold dO dK at c;obtain⟨_,rfl⟩:=c;exact DX d zg _ _
  | comp m' l'=>exact absurd ⟨J,J⟩ o
theorem dK.other{a:Tm}(b:dO ρ n w u a)(c:P.isVar a=ae)(d:BP a=ae):∃ ut x,u = ak ut x/\¬ ut=87/\¬ ut=175:=by
 cases a with
 | atom a=>unfold dO dK at b;grind
 | int a=>unfold dO dK at b;grind
 | var a=>cases c
 | comp a l=>cases d
def Q6(hf:vU so T cs):∀ (f:Nat) {tv v u:Y} {w:Z} {s:Sr} {a b:Tm} {r:Except jP (Bool×Sr)},gV D ρ n sb so T cs tv w s->(∀ b,w.heap.size<=b->D b)->dO ρ n w u a->eB a->dO ρ n w v b->eB b ->
  s.cV<=900000000->lZ f a b s=O r ->
  Calls bdM 210 #[pq sb so,u,v] w (EPost D w (xC D ρ n sb so T cs) r):=by
 intro f;induction f using a5z with
 | _ f ih=>
 intro tv v u w s a b r h hD ha JD M Q7 hz hr;have D5:s.tr.length+s.fuel<=900000000:=hz;cases f with
 | zero=>simp [lZ] at hr
 | succ f=>
 rw[lZ] at hr;refine aK6 ?_;refine(Ot h hf zo).mono ?_;rintro e w1 ⟨I,q⟩;by_cases h0:s.fuel=0
 .rw[zip h0] at hr q;injection hr with hr;subst hr q;simp only[ends,PC];exact⟨I,J⟩
 rw[bU h0] at hr q;obtain⟨rfl,q⟩:=q;have Bp:=ha.bL I.toT;have iY:=M.bL I.toT;have UW:∀ b,w1.heap.size<=b->D b:=fun b M=>hD b (a3Q I.size M);have hdt:s.dec.tr=s.tr:=rfl;refine bG ?_;cases N:fI s.tr f a with
 | none=>rw[N] at hr;simp at hr
 | some a'=>
 cases S:fI s.tr f b with
 | none=>rw[N,S] at hr;cases a'<;>simp at hr
 | some o=>
 rw[N,S] at hr;refine a3L (HT q.sv Bp (f:=f) (by exact N)) ?_;rintro e w2 ⟨rfl,ua,rfl,B⟩;refine bG ?_;refine a3L (HT q.sv iY (f:=f) (by exact S)) ?_;rintro e w3 ⟨rfl,ub,rfl,C⟩;have Y3:=xn h.ok JD N;have UX:=xn h.ok Q7 S;have Da:∀ {i:Nat} {t:Tm} {x:Y} {w':Z},P.look i s.tr=V->i<n->dO ρ n w' x t->eB t->gV D ρ n sb so T cs tv w' s.dec->dc D w w'->uk f i t s.dec=O r ->
   Calls bdM 216 #[pq sb so,pp (ρ i),x] w' (EPost D w (xC D ρ n sb so T cs) r):=fun{i t x w'} hl hi hx dx hs hE E=>
  (aLP hf hi hs (fun b M=>hD b (a3Q hE.size M)) hx dx (a3Q (Nat.sub_le _ _) zo) (aeG hl) zg E).mono fun e w' F=>F.of hE
 by_cases L:P.isVar a'=G
 .cases a' with
  | atom a=>cases L
  | int a=>cases L
  | comp a l=>cases L
  | var i=>
  have xz:=Jr N;unfold dO dK at B;obtain⟨hi,rfl⟩:=B;refine bG ?_;have LA:dO ρ n w3 (ak 87 (pp (ρ i))) (.var i):=by unfold dO dK;grind
  rw[afO q.sv LA C (by rintro ⟨h,_⟩;cases h)];by_cases z:P.isVar o=G
  .cases o with
   | atom a=>cases z
   | int a=>cases z
   | comp a l=>cases z
   | var j=>
   simp only[P.flat] at hr ⊢;by_cases oc:i=j
   .rw[zip oc] at hr;cases hr;have:(i == j)=true:=zg;refine cJ @this ?_;exact⟨I,J,_,q⟩
   .rw[bU oc] at hr;have:(i == j)=false:=zg;refine cJ @this ?_;refine a3L (Da xz hi C UX q I hr) ?_;exact fun e H F=>F.UK
  .have jl:P.flat (.var i) o=false:=by cases o<;>first | rfl | exact absurd J z
   rw[jl];have hr:uk f i o s.dec=O r:=by
    grind
   refine bG ?_;refine a3L (Da xz hi C UX q I hr) ?_;exact fun e H F=>F.UK
 .have L:P.isVar a'=false:=zg;have aLQ:∃ ut x,ua = ak ut x/\¬ ut=87:=by
   cases a' with
   | atom a=>unfold dO dK at B;grind
   | int a=>unfold dO dK at B;grind
   | var a=>cases L
   | comp a l=>unfold dO dK at B;grind
  obtain⟨ut,ux,rfl,W⟩:=aLQ;by_cases z:P.isVar o=G
  .cases o with
   | atom a=>cases z
   | int a=>cases z
   | comp a l=>cases z
   | var j=>
   have xz:=Jr S;unfold dO dK at C;obtain⟨hj,rfl⟩:=C;have hr:uk f j a' s.dec=O r:=by
    cases a' with
    | var j=>cases L
    | atom x=>omega
    | int x=>omega
    | comp x l=>omega
   refine cJ W ?_;refine a3L (Da xz hj B Y3 q I hr) ?_;exact fun e H F=>F.UK
  have z:P.isVar o=false:=zg;have aLR:∃ X x,ub = ak X x/\¬ X=87:=by
   cases o with
   | atom a=>unfold dO dK at C;grind
   | int a=>unfold dO dK at C;grind
   | var a=>cases z
   | comp a l=>unfold dO dK at C;grind
  obtain⟨X,vx,rfl,Y5⟩:=aLR;by_cases qN:BP a'=G/\BP o=G
  .obtain⟨A,K⟩:=qN;cases a' with
   | atom a=>cases A
   | int a=>cases A
   | var a=>cases A
   | comp name l=>
   cases o with
   | atom a=>cases K
   | int a=>cases K
   | var a=>cases K
   | comp Dp l'=>
   simp only at hr;obtain⟨ba,ava,vsa,OB,-,-⟩:=by unfold dO dK at B;exact B
   obtain⟨bb,avb,vsb,LN,-,-⟩:=by unfold dO dK at C;exact C
   injection OB with e1 e2;injection LN with e3 e4;subst e1 e2 e3 e4;obtain⟨ao,cap,A,afR⟩:=F4 B;obtain⟨bo',aLV,K,afS⟩:=F4 C;refine dG W Y5 A K ?_;refine⟨fun x w'=>w'=w3,?_,?_⟩
   .refine⟨fun x w'=>w'=w3/\x 63 = .bool ae,?_,?_⟩
    .exact eR
    .rintro x w' ⟨rfl,hx⟩ d;exact eV hx
   .rintro x w' rfl d;have UY:=(bD.drew (bD.refl (fun _ _=>False) w')).block _ _ A (fun h=>h);have JH:=(bD.drew (bD.refl (fun _ _=>False) w')).block _ _ K (fun h=>h);refine⟨fun x Q=>Ext w' Q/\name=Dp/\l.length=l'.length,?_,?_⟩
    .refine⟨fun x Q=>Ext w' Q/\x 88 = .bool (decide (¬ (name=Dp/\l.length=l'.length))),?_,?_⟩
     .by_cases hn:name=Dp
      .subst hn;refine dA UY JH ?_;grind [bD.refl,Int.ofNat_inj,bD.drew]
      .refine dA UY JH ?_;exact yF
     .rintro x Q ⟨R,hx⟩ d2;by_cases yf:name=Dp/\l.length=l'.length
      .refine dG hx yf @not_true_eq_false @decide_false ?_;exact yF
      .rw[bU yf] at hr;cases hr;refine dG hx yf @not_false_eq_true @decide_true ?_;exact⟨yF,J,_,q.ext R⟩
    .rintro x Q ⟨R,rfl,uQ⟩ d2;rw[zip ⟨J,uQ⟩] at hr;have afT:=R.ext _ _ A;refine cJ afT ?_;unfold eB at Y3 UX;refine⟨fun m x H=>∃ j sj F7,x 94=zi (j:Nat)/\j<=l.length/\m=l.length-j/\gV D ρ n sb so T cs F7 H sj/\dc D Q H/\sj.cV<=900000000/\(∃ g,g<=f/\nO g (l.drop j) (l'.drop j) sj=O r),
      ⟨_,0,_,_,J,Nat.zero_le _,J,q.ext R,yF,by grind [Sr.cV,Sr.dec],f,a3O _,hr⟩,?_⟩
     intro m x d H hI;refine toPr ?_;obtain⟨j,sj,F7,hx,hj,rfl,h4,gT,Bx,g,hg,E⟩:=hI;have EO:dc D w H:=I.trans ((dc.ea R).trans gT);cases g with
     | zero=>simp [nO] at E
     | succ g=>
     by_cases hlt:j<l.length
     .have qV:j<l'.length:=zo;rw[a3U hlt,a3U qV,nO] at E;obtain⟨ab,US,v3,rfl,nC,JC,EN⟩:=afR j hlt;obtain⟨LH,cs4,v4,rfl,afU,afV,vW⟩:=afS j qV;have UZ:dc D w' H:=(dc.ea R).trans gT;have tR:dc D w' H.drew:=yF;have kt:∀ (b:Nat) (c:Array Y) (U:Nat),¬ lH U->w'.heap[b]?=aO c U->H.drew.heap[b]?=aO c U:=(by grind [dc.bL]);have q1:=kt _ _ _ (by grind [lH]) A;have q2:=kt _ _ _ (by grind [lH]) K;have q3:=kt _ _ _ (by grind [lH]) nC;have q4:=kt _ _ _ (by grind [lH]) afU;have ej:((j:Nat):Int).toNat=j:=zo;refine dG hx @ej @q1 (zA @q2 (zA @q3 (zA @q4 (zA JC afV)))) ?_;cases fK:lZ g l[j] l'[j] sj with
      | none=>rw[fK] at E;cases E
      | some r1=>
      have LO:dc D H H.drew:=dc.ea (bD.drew yF);refine a3L (ih g zo (h4.ext (bD.drew yF)) (fun b M=>hD b (a3Q EO.size M)) (EN.bL tR.toT) (by grind [JA]) (vW.bL tR.toT) (by grind [JA]) Bx fK) ?_;rintro e w5 ⟨uo,F⟩;rw[fK] at E;cases r1 with
      | error t=>
       cases E;have F:e=gW t:=F;subst F;cases t<;>exact⟨EO.trans yF,J⟩
      | ok p=>
       obtain⟨b1,s5⟩:=p;obtain⟨rfl,tv5,h5⟩:=F;simp only[P.Out.eo] at E;have Y6:=((FN g).tm fK).1;cases b1 with
       | false=>
        cases E;refine bG ?_;exact⟨EO.trans yF,J,_,h5⟩
       | true=>
        refine cJ hx ?_;exact⟨_,zo,j+1,s5,tv5,zs,zo,J,h5,gT.trans yF,zg,g,zo,zg⟩
     .have EJ:j=l.length:=zo;subst EJ;rw[a4E,uQ,a4E,nO] at E
      .cases E;refine cJ hx ?_;exact⟨EO,J,_,h4⟩
      grind
  .have hr:r = .ok (P.flat a' o,s.dec):=by
    cases a' with
    | var i=>cases L
    | atom x=>cases o with
     | var j=>cases z
     | atom y=>grind
     | int y=>grind
     | comp y l=>grind
    | int x=>cases o with
     | var j=>cases z
     | atom y=>grind
     | int y=>grind
     | comp y l=>grind
    | comp x k=>cases o with
     | var j=>cases z
     | atom y=>grind
     | int y=>grind
     | comp y l=>exact absurd ⟨J,J⟩ qN
   subst hr;have lp:∀ {x y:Operand},RD bdM (bo .eql 89 x y (ak ut ux) (ak X vx)) w3 (fun v=>EPost D w (xC D ρ n sb so T cs) (.ok (P.flat a' o,s.dec)) (ai v) w3) (PX (EPost D w (xC D ρ n sb so T cs) (.ok (P.flat a' o,s.dec)))):=fun{x y}=>by
    rw[afO q.sv B C qN];exact⟨I,J,_,q⟩
   by_cases A:BP a'=G
   .have K:BP o=false:=by
     grind
    obtain⟨_,_,e0,-,JI⟩:=C.other z K;cases e0;cases a' with
    | atom a=>cases A
    | int a=>cases A
    | var a=>cases A
    | comp name l=>
    obtain⟨ba,ava,vsa,OB,-,-⟩:=by unfold dO dK at B;exact B
    cases OB;refine jh W Y5 JI ?_;refine⟨fun _ _=>False,?_,by rintro _ _ h;exact h.elim⟩;refine⟨fun x w'=>w'=w3/\x 63 = .bool G,?_,?_⟩
    .exact eR
    .rintro x w' ⟨rfl,hx⟩ d;refine cJ hx ?_;exact lp
   .have A:BP a'=false:=zg;obtain⟨_,_,e0,-,U0⟩:=B.other L A;cases e0;by_cases JI:X=175
    .subst JI;refine jh W Y5 U0 ?_;refine⟨fun _ _=>False,?_,by rintro _ _ h;exact h.elim⟩;refine⟨fun x w'=>w'=w3/\x 63 = .bool G,?_,?_⟩
     .exact eR
     .rintro x w' ⟨rfl,hx⟩ d;refine cJ hx ?_;exact lp
    .refine dG W Y5 U0 JI ?_;refine⟨fun _ _=>False,?_,by rintro _ _ h;exact h.elim⟩;refine⟨fun x w'=>w'=w3/\x 63 = .bool G,?_,?_⟩
     .exact eR
     .rintro x w' ⟨rfl,hx⟩ d;refine cJ hx ?_;exact lp
end
section
variable{D:Nat->Prop}{ρ:Nat->Nat}{n sb so T:Nat}{cs:Array Y}
def aLW(hf:vU so T cs):∀ (f:Nat) {tv v u:Y} {w:Z} {s:Sr} {a b:Tm} {r:Except jP (Bool×Sr)},gV D ρ n sb so T cs tv w s->dO ρ n w u a->eB a->dO ρ n w v b->eB b ->
  s.fuel<=900000000->C9 f a b s=O r ->
  Calls bdM 218 #[pq sb so,u,v] w (EPost D w (xC D ρ n sb so T cs) r):=by
 intro f;induction f using a5z with
 | _ f ih=>
 intro tv v u w s a b r h ha JD hb Q7 hz hr;cases f with
 | zero=>simp [C9] at hr
 | succ f=>
 rw[C9] at hr;refine aK7 ?_;refine(Ot h hf zo).mono ?_;rintro e w1 ⟨K,z⟩;by_cases h0:s.fuel=0
 .rw[zip h0] at hr z;injection hr with hr;subst hr z;simp only[ends,PC];exact⟨K,J⟩
 rw[bU h0] at hr z;obtain⟨rfl,z⟩:=z;have Bp:=ha.bL K.toT;have iY:=hb.bL K.toT;have hdt:s.dec.tr=s.tr:=rfl;refine bG ?_;cases L:fI s.tr f a with
 | none=>rw[L] at hr;simp at hr
 | some a'=>
 cases Q:fI s.tr f b with
 | none=>rw[L,Q] at hr;cases a'<;>simp at hr
 | some E=>
 rw[L,Q] at hr;refine a3L (HT z.sv Bp (f:=f) (by exact L)) ?_;rintro e w2 ⟨rfl,ua,rfl,F⟩;refine bG ?_;refine a3L (HT z.sv iY (f:=f) (by exact Q)) ?_;rintro e w3 ⟨rfl,ub,rfl,A⟩;have Y3:=xn h.ok JD L;have UX:=xn h.ok Q7 Q;obtain⟨ut,ux,rfl⟩:=F.iface;obtain⟨vt,vx,rfl⟩:=A.iface;by_cases qN:BP a'=G/\BP E=G
 .obtain⟨i,B⟩:=qN;cases a' with
  | atom a=>cases i
  | int a=>cases i
  | var a=>cases i
  | comp name l=>
  cases E with
  | atom a=>cases B
  | int a=>cases B
  | var a=>cases B
  | comp R l'=>
  simp only at hr;obtain⟨ba,ava,vsa,OB,-,-⟩:=by unfold dO dK at F;exact F
  obtain⟨bb,avb,vsb,LN,-,-⟩:=by unfold dO dK at A;exact A
  injection OB with e1 e2;injection LN with e3 e4;subst e1 e2 e3 e4;obtain⟨ao,cap,i,afR⟩:=F4 F;obtain⟨bo',aLV,B,afS⟩:=F4 A;refine dA i B ?_;refine⟨fun x w'=>w'=w3,?_,?_⟩
  .refine⟨fun x w'=>w'=w3/\x 33 = .bool ae,?_,?_⟩
   .exact eR
   .rintro x w' ⟨rfl,hx⟩ d;exact eV hx
  .rintro x w' rfl d;have UY:=(bD.drew (bD.refl (fun _ _=>False) w')).block _ _ i (fun h=>h);have JH:=(bD.drew (bD.refl (fun _ _=>False) w')).block _ _ B (fun h=>h);refine⟨fun x H=>Ext w' H/\name=R/\l.length=l'.length,?_,?_⟩
   .refine⟨fun x H=>Ext w' H/\x 58 = .bool (decide (¬ (name=R/\l.length=l'.length))),?_,?_⟩
    .by_cases hn:name=R
     .subst hn;refine dA UY JH ?_;grind [bD.refl,Int.ofNat_inj,bD.drew]
     .refine dA UY JH ?_;exact yF
    .rintro x H ⟨I,hx⟩ d2;by_cases yf:name=R/\l.length=l'.length
     .refine dG hx yf @not_true_eq_false @decide_false ?_;exact yF
     .rw[bU yf] at hr;injection hr with hr;refine dG hx yf @not_false_eq_true @decide_true ?_;rw[<- hr];exact⟨yF,J,_,z.ext I⟩
   .rintro x H ⟨I,rfl,uQ⟩ d2;rw[zip ⟨J,uQ⟩] at hr;have afT:=I.ext _ _ i;refine cJ afT ?_;unfold eB at Y3 UX;refine⟨fun m x C=>∃ j M F7,x 64=zi (j:Nat)/\j<=l.length/\m=l.length-j/\gV D ρ n sb so T cs F7 C M/\dc D H C/\M.fuel<=900000000/\(∃ g,g<=f/\BO g (l.drop j) (l'.drop j) M=O r),
     ⟨_,0,_,_,J,Nat.zero_le _,J,z.ext I,yF,by grind [Sr.dec],f,a3O _,hr⟩,?_⟩
    intro m x d C hI;refine toPr ?_;obtain⟨j,M,F7,hx,hj,rfl,h4,gT,Bx,g,hg,o⟩:=hI;have EO:dc D w C:=K.trans ((dc.ea I).trans gT);cases g with
    | zero=>simp [BO] at o
    | succ g=>
    by_cases hlt:j<l.length
    .have qV:j<l'.length:=zo;rw[a3U hlt,a3U qV,BO] at o;obtain⟨ab,US,v3,rfl,nC,JC,EN⟩:=afR j hlt;obtain⟨LH,cs4,v4,rfl,afU,afV,vW⟩:=afS j qV;have UZ:dc D w' C:=(dc.ea I).trans gT;have tR:dc D w' C.drew:=yF;have kt:∀ (b:Nat) (c:Array Y) (U:Nat),¬ lH U->w'.heap[b]?=aO c U->C.drew.heap[b]?=aO c U:=(by grind [dc.bL]);have q1:=kt _ _ _ (by grind [lH]) i;have q2:=kt _ _ _ (by grind [lH]) B;have q3:=kt _ _ _ (by grind [lH]) nC;have q4:=kt _ _ _ (by grind [lH]) afU;have ej:((j:Nat):Int).toNat=j:=zo;refine dG hx @ej @q1 (zA @q2 (zA @q3 (zA @q4 (zA JC afV)))) ?_;cases S:C9 g l[j] l'[j] M with
     | none=>rw[S] at o;cases o
     | some r1=>
     have LO:dc D C C.drew:=dc.ea (bD.drew yF);refine a3L (ih g zo (h4.ext (bD.drew yF)) (EN.bL tR.toT) (by grind [JA]) (vW.bL tR.toT) (by grind [JA]) Bx S) ?_;rintro e w5 ⟨uo,W⟩;rw[S] at o;cases r1 with
     | error t=>
      cases o;have W:e=gW t:=W;subst W;cases t<;>exact⟨EO.trans yF,J⟩
     | ok p=>
      obtain⟨b1,s5⟩:=p;obtain⟨rfl,tv5,h5⟩:=W;simp only[P.Out.eo] at o;have Y6:=((Up g).tm S).2;cases b1 with
      | false=>
       cases o;refine bG ?_;exact⟨EO.trans yF,J,_,h5⟩
      | true=>
       refine cJ hx ?_;exact⟨_,zo,j+1,s5,tv5,zs,zo,J,h5,gT.trans yF,zg,g,zo,zg⟩
    .have EJ:j=l.length:=zo;subst EJ;rw[a4E,uQ,a4E,BO] at o
     .cases o;refine cJ hx ?_;exact⟨EO,J,_,h4⟩
     grind
 .have hr:r = .ok (P.flat a' E,s.dec):=by
   cases a' with
   | comp x k=>cases E with
    | comp y l=>exact absurd ⟨J,J⟩ qN
    | _=>exact zg
   | _=>exact zg
  subst hr;have lp:∀ {x y:Operand},RD bdM (bo .eql 89 x y (ak ut ux) (ak vt vx)) w3 (fun v=>EPost D w (xC D ρ n sb so T cs) (.ok (P.flat a' E,s.dec)) (ai v) w3) (PX (EPost D w (xC D ρ n sb so T cs) (.ok (P.flat a' E,s.dec)))):=fun{x y}=>by
   rw[afO z.sv F A qN];exact⟨K,J,_,z⟩
  have N:∀ {u:Nat} {x:Y} {t:Tm},dO ρ n w3 (ak u x) t->BP t=ae->¬ u=175:=fun{u x t} h hc=>by
   cases t with
   | atom a=>unfold dO dK at h;grind
   | int a=>unfold dO dK at h;grind
   | var a=>unfold dO dK at h;grind
   | comp a l=>cases hc
  by_cases i:BP a'=G
  .have B:BP E=false:=by
    grind
   have X:=N A B;cases a' with
   | atom a=>cases i
   | int a=>cases i
   | var a=>cases i
   | comp name l=>
   obtain⟨ba,ava,vsa,OB,-,-⟩:=by unfold dO dK at F;exact F
   cases OB;refine cJ X ?_;refine⟨fun _ _=>False,?_,by rintro _ _ h;exact h.elim⟩;refine⟨fun x w'=>w'=w3/\x 33 = .bool G,?_,?_⟩
   .exact eR
   .rintro x w' ⟨rfl,hx⟩ d;refine cJ hx ?_;exact lp
  .have i:BP a'=false:=zg;have U0:=N F i;by_cases X:vt=175
   .subst X;obtain⟨q,o⟩:∃ q,vx = .pointer q:=by
     cases E with
     | atom a=>unfold dO dK at A;grind
     | int a=>unfold dO dK at A;grind
     | var a=>unfold dO dK at A;grind
     | comp a l=>unfold dO dK at A;grind
    subst o;refine cJ U0 ?_;refine⟨fun _ _=>False,?_,by rintro _ _ h;exact h.elim⟩;refine⟨fun x w'=>w'=w3/\x 33 = .bool G,?_,?_⟩
    .exact eR
    .rintro x w' ⟨rfl,hx⟩ d;refine cJ hx ?_;exact lp
   .refine dA U0 X ?_;refine⟨fun _ _=>False,?_,by rintro _ _ h;exact h.elim⟩;refine⟨fun x w'=>w'=w3/\x 33 = .bool G,?_,?_⟩
    .exact eR
    .rintro x w' ⟨rfl,hx⟩ d;refine cJ hx ?_;exact lp
end
def U1(z:Int):IntKind.i64.wrap z=P.wrap64 z:=by
 grind [IntKind.wrap,IntKind.bits,IntKind.signed,P.wrap64]
def aLX(a b:Bool)(w:Z):(Op.equalIn Op.maxDepth 4 (.bool a) (.bool b)).run bdM w = .ok (a == b) w:=by
 cases a<;>cases b<;>kernel_rfl
def aLY{x:Operand}(a b:Bool):RD bdM (bo .neq 4 x y (.bool a) (.bool b)) w K X=K (.bool (decide (a≠b))):=
 gR (by
  simp [bo,eqGuard,binOp,Op.equal,Sem.run_bind,aLX];grind)
def aLZ(name:Bs)(a b:Int)(w:Z):Calls bdM 222 #[.string (bs name),zi a,zi b] w fun e w'=>Ext w w'/\e=(match P.reckon name a b with | .ok z=>ai (zi z) | .error t=>gW t):=by
 refine aK8 ?_;unfold P.reckon;by_cases i:name=[43]
 .subst i;refine bG ?_;rw[U1];exact yF
 rw[bU i];by_cases j:name=[45]
 .subst j;refine bG ?_;rw[U1];exact yF
 rw[bU j];by_cases k:name=[42]
 .subst k;refine bG ?_;rw[U1];exact yF
 rw[bU k];refine jh i j k ?_;by_cases c:b=0
 .rw[zip c];refine⟨fun _ _=>False,?_,by rintro _ _ h;exact h.elim⟩;refine cJ c ?_;exact⟨yF,J⟩
 rw[bU c];refine⟨fun _ w'=>w'=w,?_,?_⟩
 .exact eV c
 .rintro s w' rfl d;by_cases l:name=[47,47]
  .subst l;refine bG ?_;rw[acQ _ _ _ c,U1];exact yF
  rw[bU l];refine cJ l ?_;rw[XB _ _ _ c];obtain⟨m,hm⟩:=cj (a.tmod b);rw[<- hm];refine⟨fun s w1=>w1=w'/\s 7=zi (if m≠0/\(decide (m<0)≠decide (b<0)) then P.wrap64 (m+b) else m),?_,?_⟩
  .refine⟨fun s w1=>w1=w'/\s 43 = .bool (decide (m≠0/\(decide (m<0)≠decide (b<0)))),?_,?_⟩
   .by_cases n:m=0
    .refine cJ n ?_;simp
    .refine cJ n ?_;rw[aLY];grind [jo]
   .rintro s w1 ⟨rfl,f⟩ d;by_cases g:m≠0/\(decide (m<0)≠decide (b<0))
    .rw[zip g];rw[decide_eq_true g] at f;exact mv f @U1
    .rw[bU g];rw[decide_eq_false g] at f;exact eV f
  exact yF
section
variable{D:Nat->Prop}{ρ:Nat->Nat}{n sb so T:Nat}{cs:Array Y}
abbrev StN(D:Nat->Prop)(ρ:Nat->Nat)(n sb so T:Nat)(cs:Array Y)(p:Int×Sr)(e:Ending)(w':Z):Prop:=
 e = ai (zi p.1)/\∃ tv,gV D ρ n sb so T cs tv w' p.2
def afX(X:vU so T cs):∀ (f:Nat) {tv v:Y} {w:Z} {s:Sr} {t:Tm} {r:Except jP (Int×Sr)},gV D ρ n sb so T cs tv w s->dO ρ n w v t->eB t->s.fuel<=1000000000->uP f t s=O r ->
  Calls bdM 219 #[pq sb so,v] w (EPost D w (StN D ρ n sb so T cs) r):=by
 intro f;induction f using a5z with
 | _ f ih=>
 intro tv v w s t r h hv dx C hr;cases f with
 | zero=>simp [uP] at hr
 | succ f=>
 rw[uP] at hr;refine aK9 ?_;refine(Ot h X C).mono ?_;rintro e w1 ⟨k,d⟩;by_cases K:s.fuel=0
 .rw[zip K] at hr d;injection hr with hr;subst hr d;simp only[ends,PC];exact⟨k,J⟩
 rw[bU K] at hr d;obtain⟨rfl,d⟩:=d;have kR:=hv.bL k.toT;refine bG ?_;cases hw:fI s.tr f t with
 | none=>rw[hw] at hr;cases hr
 | some t'=>
 rw[hw] at hr;refine a3L (HT d.sv kR (f:=f) (by exact hw)) ?_;rintro e w2 ⟨rfl,u,rfl,hu⟩;have L:=xn h.ok dx hw;cases t' with
 | atom a=>
  unfold dK at hu;subst hu;cases hr;refine bG ?_;exact⟨k,J⟩
 | int a=>
  unfold dK at hu;subst hu;cases hr;refine bG ?_;exact⟨k,J,_,d⟩
 | var j=>
  unfold dK at hu;obtain⟨hj,rfl⟩:=hu;cases hr;refine bG ?_;exact⟨k,J⟩
 | comp name args=>
  obtain⟨b,av,vs,rfl,-,-⟩:=by unfold dK at hu;exact hu
  obtain⟨ao,cap,gX,M⟩:=F4 hu;unfold eB at L;have JH:=(bD.drew (bD.refl (fun _ _=>False) w2)).block _ _ gX (fun h=>h);refine cJ JH ?_;refine a3L (apB name args.length w2.drew) ?_;rintro e w3 ⟨rfl,rfl⟩;refine bG ?_;have rH:dc D w w2.drew:=yF;have fi:lz name args.length≠0->args.length=2:=fun h=>by
   unfold lz at h;grind
  by_cases o:lz name args.length=0
  .have hr:r = .error (.fault 8):=by
    grind
   subst hr;have g:¬ (0:Int)<((lz name args.length:Nat):Int):=zo;refine cJ g ?_;exact⟨rH,J⟩
  .obtain⟨x,y,rfl⟩:∃ x y,args=[x,y]:=by
    have:=fi o
    match args,this with
    | [x,y],_=>grind
   have o:lz name 2≠0:=o;simp only[zip o] at hr;have g:(0:Int)<((lz name [x,y].length:Nat):Int):=by
    omega
   refine cJ g ?_;obtain⟨ab,zG,v0,rfl,nC,E,QP⟩:=M 0 zs;obtain⟨LH,zI,v1,N,l,U2,F⟩:=M 1 zs;have N:ab=LH:=zg;subst N;rw[nC] at l;cases l;have Q:Ext w2 w2.drew.drew:=yF;have H:∀ {w':Z},dc D w2 w'->w'.heap[b]?=aO #[aW name,.slice (O ⟨ab,0,V⟩) [x,y].length cap] 180:=(by grind [lH,dc.bL]);have R:∀ {w':Z},dc D w2 w'->w'.heap[ab]?=aO zG 89:=(by grind [lH,dc.bL]);refine⟨fun w'=>dc D w2 w',yF,?_⟩;refine toPr ?_;refine bG ?_;refine cQ (pp b) (fun w' c=>eR) ?_;refine cQ (aW name) (fun w' c=>by have:=H c;exact eV @this) ?_;refine bG ?_;refine cQ (pq b 1) (fun w' c=>eR) ?_;refine cQ (.slice (O ⟨ab,0,V⟩) [x,y].length cap) (fun w' c=>by have:=H c;exact eV @this) ?_;refine cQ (pp ab) (fun w' c=>eR) ?_;refine cQ v0 (fun w' c=>by have:=R c;exact mv @this E) ?_;refine bG ?_;refine cQ (pq b 1) (fun w' c=>eR) ?_;refine cQ (.slice (O ⟨ab,0,V⟩) [x,y].length cap) (fun w' c=>by have:=H c;exact eV @this) ?_;refine cQ (pq ab 1) (fun w' c=>eR) ?_;refine cQ v1 (fun w' c=>by have:=R c;exact mv @this U2) ?_;have tR:dc D w w2.drew.drew:=yF;have i:=N7 L.2.2;cases p:uP f x s.dec with
   | none=>rw[p] at hr;cases hr
   | some r1=>
   rw[p] at hr;refine a3L (ih f zo (d.ext Q) (QP.bL (rF.ea Q)) i.1 (a3Q (Nat.sub_le _ _) C) p) ?_;rintro e w5 ⟨uo,q⟩;cases r1 with
   | error t=>
    cases hr;have q:e=gW t:=q;subst q;cases t<;>exact fun _=>⟨yF,J⟩
   | ok p1=>
   obtain⟨S,s1⟩:=p1;obtain⟨rfl,LM,g1⟩:=q;obtain⟨t1,t2,t3⟩:=Eo f (s:=s.dec) h.ok i.1 p;have U:dc D w2 w5:=yF;refine⟨U,?_⟩;simp only[P.Out.eo] at hr;cases I:uP f y s1 with
   | none=>rw[I] at hr;cases hr
   | some r2=>
   rw[I] at hr;have dZ:s1.fuel<=1000000000:=a3Q t2 (a3Q (Nat.sub_le _ _) C);refine a3L (ih f zo g1 (F.bL U.toT) i.2 dZ I) ?_;rintro e w6 ⟨kq,A⟩;cases r2 with
   | error t=>
    cases hr;have A:e=gW t:=A;subst A;cases t<;>exact fun _=>⟨yF,J⟩
   | ok p2=>
   obtain⟨z2,s2⟩:=p2;obtain⟨rfl,yp,g2⟩:=A;refine⟨yF,?_⟩;simp only[P.Out.eo] at hr;refine a3L (aLZ name S z2 w6) ?_;rintro e w7 ⟨Hi,B⟩;have m:dc D w w7:=yF;cases W:P.reckon name S z2 with
   | error t=>
    rw[W] at hr B;injection hr with hr;subst hr B;cases t<;>exact fun _=>⟨m,J⟩
   | ok z=>
    rw[W] at hr B;injection hr with hr;subst hr B;exact⟨m,J,_,g2.ext Hi⟩
end
def fO.at'{a:TypeId}(h:fO F w a v vs)(c:j<vs.length):∃ b cs,v = cS b vs.length cs.size/\F b/\w.heap[b]?=aO cs a/\cs[j]?=vs[j]?:=by
 rcases h with⟨rfl,rfl⟩| ⟨b,cs,rfl,g1,g2,g3,g4⟩<;>grind
theorem fO.sl{d:TypeId}(h:fO F w d v vs):∃ a c,v = .slice a vs.length c:=by
 rcases h with⟨rfl,rfl⟩| ⟨b,cs,rfl,g1,g2,g3,g4⟩
 .exact⟨_,_,J⟩
 grind
section
variable{D:Nat->Prop}{ρ:Nat->Nat}{n sb so T:Nat}{cs:Array Y}
def aL2(name:Bs)(h:dO ρ n w v t):Calls bdM 220 #[aW name,v] w fun e w'=>e = ai (.bool (QH name t))/\w'=w:=by
 refine aLa ?_;cases t with
 | atom a=>
  unfold dO dK at h;subst h;unfold QH;by_cases b:name=[110,111,110,118,97,114]
  .refine cJ b ?_;simp
  .refine cJ b ?_;grind
 | int a=>
  unfold dO dK at h;subst h;unfold QH;by_cases b:name=[110,111,110,118,97,114]
  .refine cJ b ?_;simp
  .refine cJ b ?_;grind
 | var i=>
  unfold dO dK at h;obtain⟨-,rfl⟩:=h;unfold QH;refine bG ?_;grind
 | comp a l=>
  unfold dO dK at h;obtain⟨_,_,_,rfl,-⟩:=h;unfold QH;refine bG ?_;grind
def af1{args:List Tm}(c:fO (fun _=>True) w 89 av vs)(ht:ql ρ n w vs args)(d:j<args.length) :
  ∃ ab cap a v,av = cS ab args.length cap/\w.heap[ab]?=aO a 89/\a[j]?=O v/\dO ρ n w v args[j]:=by
 have e:=ht.length;obtain⟨v,f,g⟩:=ht.at j d;obtain⟨b,a,h,-,i,k⟩:=c.at' (j:=j) zo;exact⟨b,a.size,a,v,by rw[h,e],i,by rw[k];exact f,g⟩
def apY(o:vU so T cs){s:Sr}{name:Bs}{args:List Tm}{r:Except jP (Bool×Sr)}(h:gV D ρ n sb so T cs tv w s)(hD:∀ b,w.heap.size<=b->D b)
  (X:fO (fun _=>True) w 89 av vs) (ht:ql ρ n w vs args) (dx:jF args) (N:jx name=args.length) (hz:s.cV<=900000000) (hr:yk f name args s=O r) :
  Calls bdM 213 #[pq sb so,aW name,av] w (EPost D w (xC D ρ n sb so T cs) r):=by
 have D5:s.tr.length+s.fuel<=900000000:=hz;have c:Ext w w.drew:=yF;have H:∀ b,w.drew.heap.size<=b->D b:=hD;have two:args.length=2->∃ ab cap q v0 v1,av = cS ab 2 cap/\w.heap[ab]?=aO q 89/\q[0]?=O v0/\q[1]?=O v1 /\
   dO ρ n w v0 (args.getD 0 default)/\dO ρ n w v1 (args.getD 1 default)/\eB (args.getD 0 default)/\eB (args.getD 1 default):=fun hl=>by
  obtain⟨x,y,rfl⟩:∃ x y,args=[x,y]:=match args,hl with
   | [x,y],_=>zg
  obtain⟨ab,cap,zG,v0,e0,g0,i,t0⟩:=af1 X ht (j:=0) zo;obtain⟨LH,pX,zI,v1,e1,g1,k,t1⟩:=af1 X ht (j:=1) zo;rw[e0] at e1;simp only[Value.slice.injEq,a3I,Addr.mk.injEq,and_true,true_and] at e1;obtain⟨rfl,rfl⟩:=e1;grind [N7]
 refine aLb ?_;unfold yk at hr;by_cases Q:name=[116,114,117,101]
 .subst Q;rw[zip rfl] at hr;cases hr;refine⟨fun _ _=>False,?_,by rintro _ _ h;exact h.elim⟩;refine bG ?_;exact⟨yF,J,_,h⟩
 rw[bU Q] at hr;by_cases R:name=[61]
 .subst R;rw[zip rfl] at hr;obtain⟨ab,cap,q,v0,v1,rfl,g0,i,k,t0,t1,l,o1⟩:=two (by have:(2:Int)=args.length:=N;omega);have C:=c.ext _ _ g0;refine⟨fun _ _=>False,?_,by rintro _ _ h;exact h.elim⟩;refine jh @C @i @k ?_;refine a3L (Q6 o f (h.ext c) H (t0.bL (rF.ea c)) l (t1.bL (rF.ea c)) o1 hz hr) ?_;exact fun e w4 a=>(a.of yF).UK
 rw[bU R] at hr;by_cases S:name=[92,61]
 .subst S;rw[zip rfl] at hr;obtain⟨ab,cap,q,v0,v1,rfl,g0,i,k,t0,t1,l,o1⟩:=two (by have:(2:Int)=args.length:=N;omega);refine⟨fun _ _=>False,?_,by rintro _ _ h;exact h.elim⟩;refine bG ?_;refine a3L (UM h o) ?_;rintro e w1 ⟨rfl,rfl⟩;have c:Ext w1 w1.drew:=yF;have C:=c.ext _ _ g0;refine dG @C @g0 @i @k ?_;cases g:lZ f (args.getD 0 default) (args.getD 1 default) s with
  | none=>rw[g] at hr;cases hr
  | some I=>
  rw[g] at hr;refine a3L (Q6 o f (h.ext c) H (t0.bL (rF.ea c)) l (t1.bL (rF.ea c)) o1 hz g) ?_;rintro e w2 ⟨K,a⟩;cases I with
  | error t=>
   cases hr;have a:e=gW t:=a;subst a;cases t<;>exact⟨(dc.ea c).trans K,J⟩
  | ok p=>
   obtain⟨b1,s1⟩:=p;obtain⟨rfl,LM,E⟩:=a;cases hr;have hsu:=(N9 f).tm g;have Y6:=((FN f).tm g).1;have aYn:s1.tr.length+s1.fuel<=s.tr.length+s.fuel:=Y6;refine bG ?_;refine a3L (afA E o hsu.length_le zg) ?_;rintro e w3 ⟨rfl,eI,tv3,h3⟩;refine bG ?_;exact⟨(dc.ea c).trans yF,J,_,h3⟩
 rw[bU S] at hr;by_cases U:name=[61,61]
 .subst U;rw[zip rfl] at hr;obtain⟨ab,cap,q,v0,v1,rfl,g0,i,k,t0,t1,l,o1⟩:=two (by have:(2:Int)=args.length:=N;omega);have C:=c.ext _ _ g0;refine⟨fun _ _=>False,?_,by rintro _ _ h;exact h.elim⟩;refine jh @C @i @k ?_;refine a3L (aLW o f (h.ext c) (t0.bL (rF.ea c)) l (t1.bL (rF.ea c)) o1 zo hr) ?_;exact fun e w4 a=>(a.of yF).UK
 rw[bU U] at hr;by_cases W:name=[105,115]
 .subst W;rw[zip rfl] at hr;obtain⟨ab,cap,q,v0,v1,rfl,g0,i,k,t0,t1,l,o1⟩:=two (by have:(2:Int)=args.length:=N;omega);have C:=c.ext _ _ g0;refine⟨fun _ _=>False,?_,by rintro _ _ h;exact h.elim⟩;refine bG ?_;refine⟨fun w'=>dc D w w',yF,?_⟩;refine toPr ?_;refine cQ (pp ab) (fun w' A=>eR) ?_;refine cQ v0 (fun w' A=>by have:=dc.bL A (by unfold lH;decide) g0;exact mv @this @i) ?_;refine dA @C @k ?_;cases g:uP f (args.getD 1 default) s with
  | none=>rw[g] at hr;cases hr
  | some I=>
  rw[g] at hr;refine a3L (afX o f (h.ext c) (t1.bL (rF.ea c)) o1 zo g) ?_;rintro e w2 ⟨K,a⟩;have m:dc D w w2:=(dc.ea c).trans K;cases I with
  | error t=>
   cases hr;have a:e=gW t:=a;subst a;cases t<;>exact fun _=>⟨m,J⟩
  | ok p=>
   obtain⟨z,s1⟩:=p;obtain⟨rfl,LM,E⟩:=a;obtain⟨q1,q2,q3⟩:=Eo f h.ok o1 g;simp only[P.Out.eo] at hr;refine⟨m,?_⟩;refine bG ?_;refine⟨m,?_⟩;have hzi:dO ρ n w2 (ak 172 (zi z)) (.int z):=by unfold dO dK;rfl
   refine a3L (Q6 o f E (fun b hb=>hD b (a3Q m.size hb)) (t0.bL m.toT) l hzi (by unfold eB;exact q3) (show s1.tr.length+s1.fuel<=900000000 by grind) hr) ?_;exact fun e w4 a=>(a.of m).aLf
 rw[bU W] at hr;by_cases B:name∈[[118,97,114],[110,111,110,118,97,114],[97,116,111,109],[105,110,116,101,103,101,114]]
 .rw[zip B] at hr;have BL:args.length=1:=by
   have:jx name=1:=by
    simp only[a3T,a30,or_false] at B;rcases B with rfl | rfl | rfl | rfl<;>decide
   omega
  obtain⟨x,rfl⟩:∃ x,args=[x]:=match args,BL with
   | [x],_=>⟨x,J⟩
  obtain⟨ab,cap,zG,v0,rfl,g0,i,t0⟩:=af1 X ht (j:=0) zs;have t0:dO ρ n w v0 x:=t0;refine⟨fun _ _=>False,?_,by rintro _ _ h;exact h.elim⟩;cases hw:fI s.tr f x with
  | none=>rw[show([x].getD 0 default)=x from J,hw] at hr;cases hr
  | some t'=>
  rw[show([x].getD 0 default)=x from J,hw] at hr;injection hr with hr;simp only[a3T,a30,or_false] at B;refine dG @Q @R @S (zA @U @W) ?_;refine⟨fun s w'=>w'=w/\s 64 = .bool G,?_,?_⟩
  .rcases B with rfl | rfl | rfl | rfl<;>simp (disch:=first|assumption|omega|simp only[zS]<;>omega|decide) only[zB,simprocAttr,kN]<;>simp
  .rintro s' w' ⟨rfl,L⟩ d;rw[L];refine dA @g0 @i ?_;refine a3L (HT h.sv t0 hw) ?_;rintro e w2 ⟨rfl,u,rfl,hu⟩;refine bG ?_;refine a3L (aL2 name hu) ?_;rintro e w3 ⟨rfl,rfl⟩;rw[<- hr];exact⟨yF,J,_,h⟩
 rw[bU B] at hr;by_cases n7:name=[102,97,105,108]
 .subst n7;rw[zip rfl] at hr;cases hr;refine⟨fun _ _=>False,?_,by rintro _ _ h;exact h.elim⟩;refine bG ?_;refine⟨fun s w'=>w'=w/\s 64 = .bool ae,?_,?_⟩
  .simp (disch:=first|assumption|omega|simp only[zS]<;>omega|decide) only[zB,simprocAttr,kN,jo];simp
  .rintro s w' ⟨rfl,L⟩ d;refine cJ L ?_;exact⟨yF,J,_,h⟩
 rw[bU n7] at hr;simp only[a3T,a30,or_false,not_or] at B;obtain⟨m1,m2,m3,m4⟩:=B;have qM:args.length=2:=by
  have E:jx name=if name∈[[61],[92,61],[61,61],[105,115],[60],[62],[61,60],[62,61],[61,58,61]] then 2 else -1:=by
   unfold jx;grind
  omega
 obtain⟨ab,cap,q,v0,v1,rfl,g0,i,k,t0,t1,l,o1⟩:=two qM;refine⟨fun _ w'=>w'=w,?_,?_⟩
 .refine dG @Q @R @S (zA @U @W) ?_;refine⟨fun s w'=>w'=w/\s 64 = .bool ae,?_,?_⟩
  .exact AA @m1 @m2 @m3 @m4
  .rintro s w' ⟨rfl,L⟩ d;exact mv L @n7
 rintro s' w' rfl d;have c:Ext w' w'.drew:=yF;refine⟨fun w2=>dc D w' w2,yF,?_⟩;refine toPr ?_;refine cQ (pp ab) (fun w2 A=>eR) ?_;refine cQ v0 (fun w2 A=>by have:=dc.bL A (by unfold lH;decide) g0;exact mv @this @i) ?_;refine cQ (pq ab 1) (fun w2 A=>eR) ?_;refine cQ v1 (fun w2 A=>by have:=dc.bL A (by unfold lH;decide) g0;exact mv @this @k) ?_;cases g:uP f (args.getD 0 default) s with
 | none=>rw[g] at hr;cases hr
 | some I=>
 rw[g] at hr;refine a3L (afX o f (h.ext c) (t0.bL (rF.ea c)) l zo g) ?_;rintro e w2 ⟨K,a⟩;have m:dc D w' w2:=(dc.ea c).trans K;cases I with
 | error t=>
  cases hr;have a:e=gW t:=a;subst a;cases t<;>exact fun _=>⟨m,J⟩
 | ok p=>
 obtain⟨z,s1⟩:=p;obtain⟨rfl,LM,E⟩:=a;obtain⟨q1,q2,q3⟩:=Eo f h.ok l g;have q2:s1.fuel<=s.fuel:=q2;simp only[P.Out.eo] at hr;refine⟨m,?_⟩;cases ja:uP f (args.getD 1 default) s1 with
 | none=>rw[ja] at hr;cases hr
 | some r2=>
 rw[ja] at hr;refine a3L (afX o f E (t1.bL m.toT) o1 zo ja) ?_;rintro e w3 ⟨eI,a⟩;have F:dc D w' w3:=yF;cases r2 with
 | error t=>
  cases hr;have a:e=gW t:=a;subst a;cases t<;>exact fun _=>⟨F,J⟩
 | ok p=>
 obtain⟨z2,s2⟩:=p;obtain⟨rfl,yp,M⟩:=a;cases hr;unfold an6;by_cases c1:name=[60]
 .refine cJ @c1 ?_;exact⟨F,J,_,M⟩
 by_cases c2:name=[62]
 .refine cJ @c2 ?_;exact⟨F,J,_,M⟩
 by_cases c3:name=[61,60]
 .refine cJ @c3 ?_;exact⟨F,J,_,M⟩
 by_cases c4:name=[62,61]
 .refine cJ @c4 ?_;exact⟨F,J,_,M⟩
 refine dG @c1 @c2 @c3 @c4 ?_;exact⟨F,zg,_,M⟩
end
def af3{name:Bs}{x0 f:Tm}(h:dO ρ n w (ak 175 (pp b)) (.comp name [x0,f])) :
  ∃ ab cap a c d,w.heap[b]?=aO #[aW name,cS ab 2 cap] 180/\w.heap[ab]?=aO a 89/\a[0]?=O c/\a[1]?=O d/\dO ρ n w c x0/\dO ρ n w d f:=by
 obtain⟨i,cap,j,g⟩:=F4 h;obtain⟨ab,a,c,rfl,k,l,m⟩:=g 0 zs;obtain⟨o,p,d,e,q,r,s⟩:=g 1 zs;exact yH
def aL6(ih:∀ g,g<=f->CW g){T:Nat}{s:Ws}{name:Bs}{x y:Tm}{r:Option Ws}(hx:yo tr wb pb so T cs)(hs:HU ρ n tr wb pb so T cs w s)
  (hu:dO ρ n w (ak 175 (pp b)) (.comp name [x,y])) (dx:eB (.comp name [x,y]))
  (hB:s.cV<=900000100-60) (A6:s.seen.length<=s.out.length) (hr:vL tr (f+1) 91 x y s=O r) :
  Calls bdM 96 #[pp wb,pp b] w (BY ρ n tr wb pb so T cs w (s.cV+30) r):=by
 obtain⟨nm,h⟩:=hs;refine aKX ?_;refine⟨fun m z w'=>∃ N k EK sep Dp A p,z 1=pp N/\z 4 = .int .u8 (sep:UInt8).toNat/\ml ρ n tr wb pb so T cs EK w' k/\nu wb pb w w' /\
  dO ρ n w' (ak 175 (pp N)) (.comp Dp [A,p])/\eB (.comp Dp [A,p])/\m<=f+1/\vL tr m sep A p k=O r/\k.cV<=s.cV/\k.seen.length<=k.out.length,
  ⟨f+1,b,s,nm,91,name,x,y,J,J,h,bD.refl _ _,hu,dx,a3O _,hr,a3O _,A6⟩,?_⟩
 intro m z d w3 hI;refine toPr ?_;obtain⟨N,k,EK,sep,Dp,A,p,q,Bx,h3,dV,Oy,aL7,hm,j,apR,LF⟩:=hI;have apS:k.cV=k.out.length+60*k.fuel:=rfl;obtain⟨ad3,aLx,aLy,eO,NA⟩:=id h3.bu;have B:=aL7;unfold eB at B;obtain⟨pG,JE⟩:=N7 B.2.2;cases m with
 | zero=>simp [vL] at j
 | succ g=>
 rw[vL] at j;refine dA q Bx ?_;refine(Oq h3 hx sep zo J).mono ?_;rintro e w4 ⟨⟨v4,rfl⟩,h4,eA⟩;have Y0:=dV.trans eA;have LR:=Oy.bL (h3.kv hx eA).toT;obtain⟨ab,cap,zG,u0,u1,C,D,k3,P,k5,Q⟩:=af3 LR;refine dG q @C @D @k3 ?_;have afJ:(k.add [sep]).cV=k.cV+1:=Ws.pK ..;cases E:lF tr g A 0 (k.add [sep]) with
 | none=>simp [E,Wb] at j
 | some r1=>
 refine a3L ((ih g zo).tm (least:=0) hx ⟨_,h4⟩ k5 pG zo (pj LF) E) ?_;rintro e w5 oF;have oG:=oF.of (B':=s.cV+30) Y0 zo;cases r1 with
 | none=>
  simp only[E,Wb,a3I] at j;subst j;obtain⟨g1,rfl,g2⟩:=oG;exact⟨g1,J,g2⟩
 | some o=>
  obtain⟨iV,rfl,OA,t⟩:=oG;obtain⟨l1,l2⟩:=(K8 hx.tok g).tm _ _ _ _ pG zo (pj LF) E;simp only[E,Wb] at j;have Y7:nu wb pb w4 w5:=oF.1;have Y8:=LR.bL (h4.kv hx Y7).toT;obtain⟨ab,cap,zG,u0,u1,C,D,k3,P,k5,Q⟩:=af3 Y8;obtain⟨ad5,aYp,aYq,U5,aYr⟩:=id t.bu;have aLK:o.cV=o.out.length+60*o.fuel:=rfl;refine bG ?_;refine⟨fun F w'=>F 1=pp N/\w'=w5/\Wb (lF tr g p 0 (o.add [124])) (fun s=>O (O (s.add [93])))=O r,?_,?_⟩
  .refine dG q @C @D @P ?_;cases hw:fI tr g p with
   | none=>simp [hw] at j
   | some t'=>
   rw[hw] at j;refine a3L (HT t.st Q hw) ?_;rintro e w6 ⟨rfl,u,rfl,l⟩;have aL8:=xn hx.tok JE hw;cases t' with
   | atom a=>
    unfold dK at l;subst l;refine bG ?_;dsimp only at j;by_cases R:a=[91,93]
    .rw[zip R] at j;refine cJ R ?_;refine(Oq t hx 93 zo J).mono ?_;rintro e w7 ⟨⟨v7,rfl⟩,h7,S⟩;cases j;exact⟨iV.trans S,J,_,h7⟩
    .rw[bU R] at j;refine cJ R ?_;exact⟨q,j⟩
   | int a=>
    unfold dK at l;subst l;refine bG ?_;exact⟨q,j⟩
   | var i=>
    unfold dK at l;obtain⟨hi,rfl⟩:=l;refine bG ?_;exact⟨q,j⟩
   | comp H U=>
    have I:=l;unfold dK at l;obtain⟨b2,uY,Uj,rfl,-⟩:=l;obtain⟨ao2,Ha,q1,-⟩:=F4 I;refine cJ @q1 ?_;refine⟨fun F w'=>w'=w6/\F 42 = .bool (decide (H=[46]/\U.length=2)),?_,?_⟩
    .by_cases hn:H=[46]
     .refine dA @q1 hn ?_;simp [jo];omega
     .refine dA @q1 hn ?_;grind
    .rintro F w' ⟨rfl,aMa⟩ d2;rw[aMa];dsimp only at j;by_cases W:H=[46]/\U.length=2
     .rw[GS _ _ W];obtain⟨x2,X,rfl⟩:∃ x2 X,U=[x2,X]:=by
       match U,W.2 with
       | [x2,X],_=>grind
      dsimp only at j;rw[zip W.1] at j;exact⟨g,zo,b2,o,OA,44,H,x2,X,by grind [jo],by grind [jo],t,iV,I,aL8,zo,j,zo,l2⟩
     .rw[GU _ _ W];refine⟨by grind [jo],J,?_⟩;split at j
      .rename_i c d';have IN:¬ H=[46]:=zg;rw[bU IN] at j;exact j
      .exact j
  .rintro F w' ⟨K,rfl,L⟩ d2;refine cJ K ?_;refine(Oq t hx 124 zo J).mono ?_;rintro e w7 ⟨⟨v7,rfl⟩,h7,S⟩;have aMb:=iV.trans S;have Za:=Y8.bL (t.kv hx S).toT;obtain⟨ab,cap,zG,u0,u1,C,D,k3,P,k5,Q⟩:=af3 Za;refine dG K @C @D @P ?_;have aYt:(o.add [124]).cV=o.cV+1:=Ws.pK ..;cases M:lF tr g p 0 (o.add [124]) with
   | none=>simp [M,Wb] at L
   | some r2=>
   refine a3L ((ih g zo).tm (least:=0) hx ⟨_,h7⟩ Q JE zo (pj l2) M) ?_;rintro e w8 LK;have X6:=LK.of (B':=s.cV+30) aMb zo;cases r2 with
   | none=>
    simp only[M,Wb,a3I] at L;subst L;obtain⟨g1,rfl,g2⟩:=X6;exact⟨g1,J,g2⟩
   | some s8=>
    obtain⟨Zb,rfl,nm8,h8⟩:=X6;obtain⟨l3,l4⟩:=(K8 hx.tok g).tm _ _ _ _ JE zo (pj l2) M;simp only[M,Wb,a3I] at L;subst L;have aYv:s8.cV=s8.out.length+60*s8.fuel:=rfl;obtain⟨ad8,aYx,aYy,hb8,aYA⟩:=id h8.bu;refine bG ?_;refine(Oq h8 hx 93 zo J).mono ?_;rintro e w9 ⟨⟨v9,rfl⟩,h9,CX⟩;exact⟨Zb.trans CX,J,_,h9⟩
def cw:∀ f,CW f:=by
 intro f;induction f using a5z with
 | _ f ih=>
  cases f with
  | zero=>
   exact⟨fun _ _ _ _ _ _ h=>by simp [lF] at h,fun _ _ _ _ _ _ h=>by simp [zm] at h,fun _ _ _ _ _ _ h=>by simp [vL] at h⟩
  | succ f=>
   have i:∀ g,g<=f->CW g:=zg;exact⟨fun a b c d e g h=>aLm zg a b c d e g h,fun a b c d e g h=>aLu i a b c d e g h,fun a b c d e g h=>aL6 i a b c d e g h⟩
def aMc:(Tryz.prog.info? 89).map (fun i=>(i.zero,i.size,i.bytes))=O (O aj,1,16):=zk
def Q9(d:w.ownsRow base 89 1 v n xs){a:Y}
  (f:w.heap[b]?=aO #[a] 89) (p:a.oneCell'=G)
  (q:n<=100000000) (g:base<=w.heap.size) {K:Y->Z->Prop}
  (h:∀ v' w',w'.ownsRow base 89 1 v' (n+1) (xs++[a])->w.grownBy w' v.ownBlock->(v'.ownBlock=v.ownBlock\/∀ k,v'.ownBlock=O k->w.heap.size<=k)->K v' w') :
  WR bdM (Builtin.append_ #[82,82] 82 #[v,cS b 1 m]) w K X:=by
 obtain⟨i,hi,c⟩:=Option.map_eq_some_iff.1 aMc;simp only[Prod.mk.injEq] at c;obtain⟨j,l,o⟩:=c;refine Sx.DY (m:=1) (t:=82) (e:=89) zk hi j l o J zo d f J (fun u hu=>?_) zo zo g h;grind
abbrev ny(ρ:Nat->Nat)(ids:List Nat):List Y:=ids.map fun i=>ak 87 (pp (ρ i))
def eS.at'{F:Nat->Prop}{w:Z}:∀ {xs:List Ex} {vs:List Y} (j:Nat) (a:j<xs.length),eS F w vs xs->∃ v,vs[j]?=O v/\eQ F w v xs[j]
 | x::xs,vs,0,_,h=>by
  unfold eS at h;grind
 | x::xs,vs,j+1,a,h=>by
  unfold eS at h;obtain⟨u,r,rfl,c,b⟩:=h;simpa using eS.at' j zg b
def eS.ER{F:Nat->Prop}{w:Z}:∀ {xs:List Ex} {vs:List Y},eS F w vs xs->vs.length=xs.length
 | [],vs,h=>by unfold eS at h;subst h;rfl
 | x::xs,vs,h=>by
  unfold eS at h;obtain⟨u,r,rfl,b,a⟩:=h;simp [eS.ER a]
def af4(vs:List Nat):∀ (l:List Ex) (j:Nat) (a:j<l.length),n9 vs (l.take (j+1))=n9 vs (l.take j)++[P.made vs l[j]]
 | x::xs,0,_=>by simp [n9]
 | x::xs,j+1,a=>by
  have:=af4 vs xs j zg;simp only[List.take_succ_cons,n9,List.cons_append,List.getElem_cons_succ];rw[this]
def af5{ρ:Nat->Nat}{n:Nat}{ids:List Nat}(OD:∀ i∈ids,i<n):∀ (N:Nat) (x:Ex),iG x<=N->ij ids.length x->∀ {F f:Nat->Prop} {w:Z} {v vv:Y},eQ F w v x->fO f w 89 vv (ny ρ ids) ->
  Calls bdM 32 #[v,vv] w fun e w'=>Ext w w'/\∃ u,e = ai u/\dK (Nu w w') ρ n w' u (P.made ids x)
 | 0,x,K,_,_,_,_,_,_,_,_=>by cases x;simp [iG] at K
 | N+1,.mk kind name k kv args,K,dx,F,f,w,v,vv,hv,xm=>by
  have ih:=af5 (ρ:=ρ) (n:=n) OD N;unfold ij at dx;obtain⟨o1,o2,o3,o4,o5,o6,o7,o8⟩:=dx;unfold eQ at hv;obtain⟨b,av,dk,rfl,hF,p,hs,hx⟩:=hv;unfold iG at K;obtain⟨m0,g⟩:=cj (P.made ids (.mk kind name k kv args));rw[<- g];unfold P.made at g;refine aKV ?_;by_cases A:kind=97
  .subst A;rw[zip rfl] at g;subst g;have B:((97:Nat):Int)=97:=rfl;refine dA p @B ?_;refine⟨yF,?_⟩;unfold dK;grind
  .have aYB:¬ (kind:Int)=97:=zo;rw[bU A] at g;by_cases Ba:kind=110
   .subst Ba;rw[zip rfl] at g;subst g;have B:((110:Nat):Int)=110:=rfl;refine dA p @B ?_;refine⟨yF,_,J,?_⟩;unfold dK;rfl
   .have aYC:¬ (kind:Int)=110:=zo;rw[bU Ba] at g;by_cases H6:kind=118
    .subst H6;rw[zip rfl] at g;subst g;have B:((118:Nat):Int)=118:=rfl;have Q3:=o4 J;have hl:(ny ρ ids).length=ids.length:=zs;obtain⟨gb,L,rfl,g1,g2,g3⟩:=xm.at' (j:=kv) (by rw[hl];exact Q3);have M:L[kv]?=O (ak 87 (pp (ρ ids[kv]))):=by
      grind
     have Q:(kv:Int).toNat=kv:=zo;rw[hl];refine dG p @B @g2 (zA @M @Q) ?_;refine⟨yF,_,J,?_⟩;unfold dK;have R:ids.getD kv 0=ids[kv]:=zg;rw[R];exact⟨(by grind [List.getElem_mem]),J⟩
    .have aYD:¬ (kind:Int)=118:=zo;obtain⟨sa,sc,rfl⟩:=hs.sl;have Er:=hx.ER;have lb:=bn p;rw[bU H6] at g;subst g;refine cJ p ?_;refine⟨fun m z w'=>∃ j E vs,z 46=zi (j:Nat)/\j<=args.length/\m=args.length-j/\Ext w w'/\w'.heap[w.heap.size]?=aO #[aW name,E] 180 /\
      w'.ownsRow (w.heap.size+1) 89 1 E j vs/\iJ (fun c=>w.heap.size<c/\c<w'.heap.size/\O c≠E.ownBlock) ρ n w' vs (n9 ids (args.take j)),
      ⟨_,0,bW,[],J,Nat.zero_le _,J,yF,yH,World.ownsRow_nil _ _ _ _,by simp [n9];unfold iJ;rfl⟩,?_⟩
     intro m z d w3 hI;refine toPr ?_;obtain⟨j,E,vs,S,hj,rfl,C,q3,r,T⟩:=hI;have s3:=C.size;have l3:=bn q3;obtain⟨s,rc,rfl⟩:=gZ r;by_cases hlt:j<args.length
     .have qV:j<dk.length:=zo;obtain⟨sb,JJ,e1,e2,M,e4⟩:=hs.at' qV;obtain⟨u,R,hu⟩:=eS.at' j hlt hx;rw[R] at e4;simp only[Value.slice.injEq,true_and] at e1;obtain⟨rfl,rfl⟩:=e1;have kf:((j:Nat):Int).toNat=j:=zo;have U:=C.ext _ _ M;refine dG S @U @e4 @kf ?_;refine⟨fun w'=>w'.heap[w.heap.size]?=aO #[aW name,.slice s j rc] 180,q3,?_⟩;refine bG ?_;refine cQ (pq w.heap.size 1) (fun w' _=>eR) ?_;refine cQ (.slice s j rc) (fun w' hS=>eV hS) ?_;have Ra:iG args[j]<=N:=by
       have:∀ (l:List Ex) (j:Nat) (hj:j<l.length),iG l[j]<=fJ l:=by
        intro l;induction l with
        | nil=>grind
        | cons a l ihl=>
         grind [fJ]
       grind
      have W:Ext w w3.drew:=C.drew;have NY:∀ {H:Nat->Prop} {y:Ex} {v':Y},eQ H w v' y->eQ H w3.drew v' y:=fun h=>eQ.mono zg (by grind [bD.ext]) _ _ h;refine a3L (ih args[j] Ra (o8.at hlt) (NY hu) (xm.mono (fun _ h=>h) fun b cs _ p=>W.ext _ _ p)) ?_;rintro e q ⟨gT,u4,rfl,LR⟩;have s4:=gT.size;rw[Cq] at s4;have I:Ext w3 q:=yF;have q4:=I.ext _ _ q3;have l4:=bn q4;refine⟨q4,?_⟩;obtain⟨tu,xu,rfl⟩:=LR.iface;refine bG ?_;have hX:Ext q (q.alloc (ah #[ak tu xu] 89)):=yF;refine⟨q4,?_⟩;have AO:=jK (I.trans hX).ext r;refine Q9 (base:=w.heap.size+1) AO (tW J) J zo (by rw[size_alloc];omega) ?_;intro v' w5 Jn ze yr;have s5:=ze.size;rw[size_alloc] at s5;have kp:∀ c o,q.heap[c]?=O o->O c≠(a3Y s j rc).ownBlock->w5.heap[c]?=O o:=(by grind [size_alloc,bn,World.grownBy.block,bD.ext]);have lo:∀ k,(a3Y s j rc).ownBlock=O k->w.heap.size+1<=k/\k<w3.heap.size:=fun k hk=>r.lt k hk;have X:=kp _ _ q4 (fun e=>by have:=lo _ e.symm;omega);have l5:=bn X;obtain⟨Rb,Rc,rfl⟩:=gZ Jn;refine⟨X,?_⟩;refine dA @X S ?_;have nh:∀ c,c<q.heap.size->O c≠(a3Y s j rc).ownBlock->O c≠(a3Y Rb (j+1) Rc).ownBlock:=yH;refine⟨_,?_,j+1,.slice Rb (j+1) Rc,vs++[ak tu xu],zg,zo,J,?_,J,(by grind [KD]),?_⟩
      .omega
      .refine bD.bR ?_ yH;exact((C.trans I).trans hX).grow ze yH
      .rw[af4 ids args j hlt];have k5:∀ c o,c≠w.heap.size->O c≠(a3Y s j rc).ownBlock->q.heap[c]?=O o->(bR w5 w.heap.size (ah #[aW name,.slice Rb (j+1) Rc] 180)).heap[c]?=O o:=yH;refine iJ.snoc ?_ ?_
       .refine dK.mono (F:=Nu w3.drew q) (fun c D=>?_) zo zg (fun c cs t D _ ho=>?_) _ _ LR
        .exact yH
        exact yH
       .refine iJ.mono (fun c D=>?_) zo zg (fun c cs t D _ ho=>?_) _ _ T
        .exact yH
        .exact k5 c _ (by have:=D.1;omega) D.2.2 (I.ext _ _ ho)
     .have fm:j=args.length:=zo;subst fm;rw[List.take_length] at T;refine cJ S ?_;refine⟨C,?_⟩;refine⟨_,J,?_⟩;unfold dK;refine⟨_,_,vs,J,yH,q3,Fy r (fun b p=>⟨by have:=(r.lt b p).1;omega,(r.lt b p).2⟩),?_⟩;exact iJ.mono yH zo zg (fun _ _ _ _ _ h=>h) _ _ T
open Go.Proofs.YtoegidfbnkaabaaGreatDoor.Sx
section
variable{p0 p1 p2 p3 p4 p5 p6 p7:Y}{w:Z}{R:Ending->Z->Prop}
def aMe:=cz w R [p0,p1] (gc [(2,[4,9])] [] [10]) func228
def aMf:=cz w R [p0,p1] (gd [] [] [] [(0,[16,0,1,2,3,4,5,6,7,9,8,10,11,12,13,14,15])] [] [] []) func226
def aMg:=cz w R [p0,p1,p2,p3,p4] (gd [(9,[64])] [(6003,[])] [(4,9)] [(11,[11,0,1,2,3,4,5,6,7,8,9,10,11])] [] [] [10,24,65,79,80]) func224
def aMh:=cz w R [p0,p1,p2] (gd [] [(6001,[])] [(3,8)] [(4,[0,0,1,2,3,4,5,6,7,8,9,10,11,12]),(8,[21,0,1,2,3,4,5,6,7,9,10,11,12,13,14,8,15,16,17,18,19,20])] [] [] [6,23,32,46,81]) func227
def aMi:=cz w R [p0,p1] (gd [(13,[7])] [] [(4,12),(10,12),(21,19)] [(15,[25,0,1,2,3,4,5,6,7,8,9,10,11,12,13,14,15,16,17,18,19,20,21,22,23,24]),(17,[22,0,1,2,3,4,5,6,7,8,9,10,11,12,13,14,15,16,17,18,19,20,21]),(18,[24,0,1,2,3,4,5,6,7,8,9,10,11,12,13,14,15,16,17,18,19,20,21,22,23]),(20,[22,0,1,2,3,4,5,6,7,8,9,10,11,12,13,14,15,16,17,18,19,20,21]),(22,[21,0,1,2,3,4,5,6,7,8,9,10,11,12,13,14,15,16,17,18,19,20]),(26,[21,0,1,2,3,4,5,6,7,8,9,10,11,12,13,14,15,16,17,18,19,20])] [] [] [4,19,47,48,49,62,63,71,98,99,145,146,209,210]) func225
def aMj:=cz w R [p0] (gd [(2,[3])] [(11009,[])] [(7,7),(11,14)] [] [] [] [2,3,7,8,16,35,66,72,89]) func223
end
