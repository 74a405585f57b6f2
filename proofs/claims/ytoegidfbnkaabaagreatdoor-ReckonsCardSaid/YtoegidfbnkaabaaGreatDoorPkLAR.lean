/- A part of one proof (KS5, KS6, KS7, KS8, SlU, KS9, PW7, PW8, ShX2). -/
import Derived.Test.YtoegidfbnkaabaaGreatDoorPkLAQ
set_option linter.all false
set_option maxRecDepth 100000
set_option maxHeartbeats 8000000
open Option renaming some → O, none → V
open Go renaming Value → Y, World → Z
open Bool renaming true → A, false → G
open Go.Obj renaming cells → ae
open Go.Ending renaming returned → ah
open Go.Value renaming nilIface → ai, iface → aj
open Option.some renaming injEq → a1o
open Go.Calls renaming mono → a1r
open Nat renaming le_refl → a1s, le_trans → a1t, strongRecOn → a3h
open List renaming drop_eq_getElem_cons → a1y, mem_cons → a1z, not_mem_nil → a1E, drop_length → a2o
open Go.Value renaming slice → a1D
open Go.Proofs.Tryz renaming prog → bbz
open Go.Proofs.Tryz
namespace Go.Proofs.YtoegidfbnkaabaaGreatDoor
open P
open Go.RowKit Sx
variable{F:Nat->Prop}{K:Y->Prop}{X:Y->Z->Prop}{av tv u v:Y}{b base f j m n pb so wb:Nat}{cs:Array Y}{t:Tm}{tr:Tr}{vs xs:List Y}{w:Z}{y:Operand}{ρ:Nat->Nat}
section
variable{D:Nat->Prop}{ρ:Nat->Nat}{n sb so T:Nat}{cs:Array Y}
def aeF{a b:Tm}(g:Eg ρ n tr w)(f:dK ρ n w u a)(c:dK ρ n w v b)(o:¬ (BE a=A/\BE b=A)){x:Operand} :
  RD bbz (bo .eql 89 x y u v) w K X=K (.bool (P.flat a b)):=by
 have d:yA bbz 89=true:=zk;cases a with
 | atom a=>
  unfold dK dI at f;subst f;cases b with
  | atom b=>
   unfold dK dI at c;subst c;rw[axe d zk zk];grind [decide,P.flat]
  | int b=>unfold dK dI at c;subst c;exact DB d zg _ _
  | var b=>unfold dK dI at c;obtain⟨_,rfl⟩:=c;exact DB d zg _ _
  | comp m l=>unfold dK dI at c;obtain⟨_,_,_,rfl,-⟩:=c;exact DB d zg _ _
 | int a=>
  unfold dK dI at f;subst f;cases b with
  | atom b=>unfold dK dI at c;subst c;exact DB d zg _ _
  | int b=>
   unfold dK dI at c;subst c;rw[axf d zk zk];grind [decide,P.flat]
  | var b=>unfold dK dI at c;obtain⟨_,rfl⟩:=c;exact DB d zg _ _
  | comp m l=>unfold dK dI at c;obtain⟨_,_,_,rfl,-⟩:=c;exact DB d zg _ _
 | var i=>
  unfold dK dI at f;obtain⟨hi,rfl⟩:=f;cases b with
  | atom b=>unfold dK dI at c;subst c;exact DB d zg _ _
  | int b=>unfold dK dI at c;subst c;exact DB d zg _ _
  | var j=>
   unfold dK dI at c;obtain⟨k,rfl⟩:=c;obtain⟨q,g1,-⟩:=g.var i hi;obtain⟨r,g2,-⟩:=g.var j k;rw[axg d zk zk g1 g2];have:decide (ρ i=ρ j)=P.flat (.var i) (.var j):=by
    rw[P.flat];by_cases h:i=j
    .subst h;simp
    .have p:ρ i≠ρ j:=fun e=>h (g.inj i j hi k e);simp [h,p]
   rw[this]
  | comp m l=>unfold dK dI at c;obtain⟨_,_,_,rfl,-⟩:=c;exact DB d zg _ _
 | comp m l=>
  unfold dK dI at f;obtain⟨_,_,_,rfl,-⟩:=f;cases b with
  | atom b=>unfold dK dI at c;subst c;exact DB d zg _ _
  | int b=>unfold dK dI at c;subst c;exact DB d zg _ _
  | var j=>unfold dK dI at c;obtain⟨_,rfl⟩:=c;exact DB d zg _ _
  | comp m' l'=>exact absurd ⟨J,J⟩ o
theorem dI.other{a:Tm}(b:dK ρ n w u a)(c:P.isVar a=G)(d:BE a=G):∃ ut x,u = aj ut x/\¬ ut=87/\¬ ut=175:=by
 cases a with
 | atom a=>unfold dK dI at b;grind
 | int a=>unfold dK dI at b;grind
 | var a=>cases c
 | comp a l=>cases d
def Qj(hf:vF so T cs):∀ (f:Nat) {tv v u:Y} {w:Z} {s:Sr} {a b:Tm} {r:Except jE (Bool×Sr)},gO D ρ n sb so T cs tv w s->(∀ b,w.heap.size<=b->D b)->dK ρ n w u a->eA a->dK ρ n w v b->eA b ->
  s.cV<=900000000->lS f a b s=O r ->
  Calls bbz 210 #[pq sb so,u,v] w (EPost D w (xp D ρ n sb so T cs) r):=by
 intro f;induction f using a3h with
 | _ f ih=>
 intro tv v u w s a b r h hD ha I7 N Qk hz hr;have Kb:s.tr.length+s.fuel<=900000000:=hz;cases f with
 | zero=>simp [lS] at hr
 | succ f=>
 rw[lS] at hr;refine aJy ?_;refine(NN h hf zo).mono ?_;rintro e w1 ⟨K,q⟩;by_cases h0:s.fuel=0
 .rw[zip h0] at hr q;injection hr with hr;subst hr q;simp only[ends,PC];exact⟨K,J⟩
 rw[bM h0] at hr q;obtain⟨rfl,q⟩:=q;have Be:=ha.bJ K.toT;have iS:=N.bJ K.toT;have hD1:∀ b,w1.heap.size<=b->D b:=fun b N=>hD b (a1t K.size N);have hdt:s.dec.tr=s.tr:=rfl;refine bH ?_;cases Q:fF s.tr f a with
 | none=>rw[Q] at hr;simp at hr
 | some a'=>
 cases W:fF s.tr f b with
 | none=>rw[Q,W] at hr;cases a'<;>simp at hr
 | some o=>
 rw[Q,W] at hr;refine a1r (G6 q.sv Be (f:=f) (by exact Q)) ?_;rintro e w2 ⟨rfl,ua,rfl,C⟩;refine bH ?_;refine a1r (G6 q.sv iS (f:=f) (by exact W)) ?_;rintro e w3 ⟨rfl,ub,rfl,E⟩;have Ye:=wY h.ok I7 Q;have T4:=wY h.ok Qk W;have CM:∀ {i:Nat} {t:Tm} {x:Y} {w':Z},P.look i s.tr=V->i<n->dK ρ n w' x t->eA t->gO D ρ n sb so T cs tv w' s.dec->dc D w w'->tX f i t s.dec=O r ->
   Calls bbz 216 #[pq sb so,pp (ρ i),x] w' (EPost D w (xp D ρ n sb so T cs) r):=fun{i t x w'} hl hi hx dA hs hE F=>
  (aKh hf hi hs (fun b N=>hD b (a1t hE.size N)) hx dA (a1t (Nat.sub_le _ _) zo) (adt hl) zg F).mono fun e w' H=>H.of hE
 by_cases M:P.isVar a'=A
 .cases a' with
  | atom a=>cases M
  | int a=>cases M
  | comp a l=>cases M
  | var i=>
  have xm:=IQ Q;unfold dK dI at C;obtain⟨hi,rfl⟩:=C;refine bH ?_;have K4:dK ρ n w3 (aj 87 (pp (ρ i))) (.var i):=by unfold dK dI;grind
  rw[aeF q.sv K4 E (by rintro ⟨h,_⟩;cases h)];by_cases z:P.isVar o=A
  .cases o with
   | atom a=>cases z
   | int a=>cases z
   | comp a l=>cases z
   | var j=>
   simp only[P.flat] at hr ⊢;by_cases nZ:i=j
   .rw[zip nZ] at hr;cases hr;have:(i == j)=true:=zg;refine cJ @this ?_;exact⟨K,J,_,q⟩
   .rw[bM nZ] at hr;have:(i == j)=false:=zg;refine cJ @this ?_;refine a1r (CM xm hi E T4 q K hr) ?_;exact fun e I H=>H.TP
  .have je:P.flat (.var i) o=false:=by cases o<;>first | rfl | exact absurd J z
   rw[je];have hr:tX f i o s.dec=O r:=by
    grind
   refine bH ?_;refine a1r (CM xm hi E T4 q K hr) ?_;exact fun e I H=>H.TP
 .have M:P.isVar a'=false:=zg;have aKi:∃ ut x,ua = aj ut x/\¬ ut=87:=by
   cases a' with
   | atom a=>unfold dK dI at C;grind
   | int a=>unfold dK dI at C;grind
   | var a=>cases M
   | comp a l=>unfold dK dI at C;grind
  obtain⟨ut,ux,rfl,X⟩:=aKi;by_cases z:P.isVar o=A
  .cases o with
   | atom a=>cases z
   | int a=>cases z
   | comp a l=>cases z
   | var j=>
   have xm:=IQ W;unfold dK dI at E;obtain⟨hj,rfl⟩:=E;have hr:tX f j a' s.dec=O r:=by
    cases a' with
    | var j=>cases M
    | atom x=>omega
    | int x=>omega
    | comp x l=>omega
   refine cJ X ?_;refine a1r (CM xm hj C Ye q K hr) ?_;exact fun e I H=>H.TP
  have z:P.isVar o=false:=zg;have aKj:∃ vt x,ub = aj vt x/\¬ vt=87:=by
   cases o with
   | atom a=>unfold dK dI at E;grind
   | int a=>unfold dK dI at E;grind
   | var a=>cases z
   | comp a l=>unfold dK dI at E;grind
  obtain⟨vt,vx,rfl,Yg⟩:=aKj;by_cases qH:BE a'=A/\BE o=A
  .obtain⟨B,L⟩:=qH;cases a' with
   | atom a=>cases B
   | int a=>cases B
   | var a=>cases B
   | comp name l=>
   cases o with
   | atom a=>cases L
   | int a=>cases L
   | var a=>cases L
   | comp C3 l'=>
   simp only at hr;obtain⟨ba,ava,vsa,NW,-,-⟩:=by unfold dK dI at C;exact C
   obtain⟨bb,avb,vsb,Lc,-,-⟩:=by unfold dK dI at E;exact E
   injection NW with e1 e2;injection Lc with e3 e4;subst e1 e2 e3 e4;obtain⟨ao,cap,B,aeJ⟩:=FA C;obtain⟨bo',aKn,L,aeK⟩:=FA E;refine dB X Yg B L ?_;refine⟨fun x w'=>w'=w3,?_,?_⟩
   .refine⟨fun x w'=>w'=w3/\x 63 = .bool G,?_,?_⟩
    .exact eT
    .rintro x w' ⟨rfl,hx⟩ d;exact fh hx
   .rintro x w' rfl d;have T5:=(bB.drew (bB.refl (fun _ _=>False) w')).block _ _ B (fun h=>h);have Ja:=(bB.drew (bB.refl (fun _ _=>False) w')).block _ _ L (fun h=>h);refine⟨fun x R=>Ext w' R/\name=C3/\l.length=l'.length,?_,?_⟩
    .refine⟨fun x R=>Ext w' R/\x 88 = .bool (decide (¬ (name=C3/\l.length=l'.length))),?_,?_⟩
     .by_cases hn:name=C3
      .subst hn;refine dj T5 Ja ?_;grind [bB.refl,Int.ofNat_inj,bB.drew]
      .refine dj T5 Ja ?_;exact yF
     .rintro x R ⟨S,hx⟩ d2;by_cases xQ:name=C3/\l.length=l'.length
      .refine dB hx xQ @not_true_eq_false @decide_false ?_;exact yF
      .rw[bM xQ] at hr;cases hr;refine dB hx xQ @not_false_eq_true @decide_true ?_;exact⟨yF,J,_,q.ext S⟩
    .rintro x R ⟨S,rfl,uF⟩ d2;rw[zip ⟨J,uF⟩] at hr;have aeL:=S.ext _ _ B;refine cJ aeL ?_;unfold eA at Ye T4;refine⟨fun m x I=>∃ j sj FD,x 94=zi (j:Nat)/\j<=l.length/\m=l.length-j/\gO D ρ n sb so T cs FD I sj/\dc D R I/\sj.cV<=900000000/\(∃ g,g<=f/\nL g (l.drop j) (l'.drop j) sj=O r),
      ⟨_,0,_,_,J,Nat.zero_le _,J,q.ext S,yF,by grind [Sr.cV,Sr.dec],f,a1s _,hr⟩,?_⟩
     intro m x d I hI;refine toPr ?_;obtain⟨j,sj,FD,hx,hj,rfl,h4,gW,Bm,g,hg,F⟩:=hI;have Ha:dc D w I:=K.trans ((dc.ed S).trans gW);cases g with
     | zero=>simp [nL] at F
     | succ g=>
     by_cases hlt:j<l.length
     .have qO:j<l'.length:=zo;rw[a1y hlt,a1y qO,nL] at F;obtain⟨ab,TZ,v3,rfl,nu,I6,El⟩:=aeJ j hlt;obtain⟨K9,cs4,v4,rfl,aeM,aeN,vH⟩:=aeK j qO;have T6:dc D w' I:=(dc.ed S).trans gW;have tI:dc D w' I.drew:=yF;have kt:∀ (b:Nat) (c:Array Y) (U:Nat),¬ lI U->w'.heap[b]?=aO c U->I.drew.heap[b]?=aO c U:=(by grind [dc.bJ]);have q1:=kt _ _ _ (by grind [lI]) B;have q2:=kt _ _ _ (by grind [lI]) L;have q3:=kt _ _ _ (by grind [lI]) nu;have q4:=kt _ _ _ (by grind [lI]) aeM;have ej:((j:Nat):Int).toNat=j:=zo;refine dB hx @ej @q1 (zA @q2 (zA @q3 (zA @q4 (zA I6 aeN)))) ?_;cases fX:lS g l[j] l'[j] sj with
      | none=>rw[fX] at F;cases F
      | some r1=>
      have Ld:dc D I I.drew:=dc.ed (bB.drew yF);refine a1r (ih g zo (h4.ext (bB.drew yF)) (fun b N=>hD b (a1t Ha.size N)) (El.bJ tI.toT) (by grind [I4]) (vH.bJ tI.toT) (by grind [I4]) Bm fX) ?_;rintro e w5 ⟨tY,H⟩;rw[fX] at F;cases r1 with
      | error t=>
       cases F;have H:e=gP t:=H;subst H;cases t<;>exact⟨Ha.trans yF,J⟩
      | ok p=>
       obtain⟨b1,s5⟩:=p;obtain⟨rfl,tv5,h5⟩:=H;simp only[P.Out.eh] at F;have Yh:=((Fi g).tm fX).1;cases b1 with
       | false=>
        cases F;refine bH ?_;exact⟨Ha.trans yF,J,_,h5⟩
       | true=>
        refine cJ hx ?_;exact⟨_,zo,j+1,s5,tv5,zs,zo,J,h5,gW.trans yF,zg,g,zo,zg⟩
     .have Ei:j=l.length:=zo;subst Ei;rw[a2o,uF,a2o,nL] at F
      .cases F;refine cJ hx ?_;exact⟨Ha,J,_,h4⟩
      grind
  .have hr:r = .ok (P.flat a' o,s.dec):=by
    cases a' with
    | var i=>cases M
    | atom x=>cases o with
     | var j=>cases z
     | atom y=>grind
     | int y=>grind
     | comp y l=>grind
    | int x=>cases o with
     | var j=>cases z
     | atom y=>grind
     | int y=>grind
     | comp y l=>grind
    | comp x k=>cases o with
     | var j=>cases z
     | atom y=>grind
     | int y=>grind
     | comp y l=>exact absurd ⟨J,J⟩ qH
   subst hr;have kY:∀ {x y:Operand},RD bbz (bo .eql 89 x y (aj ut ux) (aj vt vx)) w3 (fun v=>EPost D w (xp D ρ n sb so T cs) (.ok (P.flat a' o,s.dec)) (ah v) w3) (PX (EPost D w (xp D ρ n sb so T cs) (.ok (P.flat a' o,s.dec)))):=fun{x y}=>by
    rw[aeF q.sv C E qH];exact⟨K,J,_,q⟩
   by_cases B:BE a'=A
   .have L:BE o=false:=by
     grind
    obtain⟨_,_,e0,-,Jb⟩:=E.other z L;cases e0;cases a' with
    | atom a=>cases B
    | int a=>cases B
    | var a=>cases B
    | comp name l=>
    obtain⟨ba,ava,vsa,NW,-,-⟩:=by unfold dK dI at C;exact C
    cases NW;refine jc X Yg Jb ?_;refine⟨fun _ _=>False,?_,by rintro _ _ h;exact h.elim⟩;refine⟨fun x w'=>w'=w3/\x 63 = .bool A,?_,?_⟩
    .exact eT
    .rintro x w' ⟨rfl,hx⟩ d;refine cJ hx ?_;exact kY
   .have B:BE a'=false:=zg;obtain⟨_,_,e0,-,T7⟩:=C.other M B;cases e0;by_cases Jb:vt=175
    .subst Jb;refine jc X Yg T7 ?_;refine⟨fun _ _=>False,?_,by rintro _ _ h;exact h.elim⟩;refine⟨fun x w'=>w'=w3/\x 63 = .bool A,?_,?_⟩
     .exact eT
     .rintro x w' ⟨rfl,hx⟩ d;refine cJ hx ?_;exact kY
    .refine dB X Yg T7 Jb ?_;refine⟨fun _ _=>False,?_,by rintro _ _ h;exact h.elim⟩;refine⟨fun x w'=>w'=w3/\x 63 = .bool A,?_,?_⟩
     .exact eT
     .rintro x w' ⟨rfl,hx⟩ d;refine cJ hx ?_;exact kY
end
section
variable{D:Nat->Prop}{ρ:Nat->Nat}{n sb so T:Nat}{cs:Array Y}
def aKo(hf:vF so T cs):∀ (f:Nat) {tv v u:Y} {w:Z} {s:Sr} {a b:Tm} {r:Except jE (Bool×Sr)},gO D ρ n sb so T cs tv w s->dK ρ n w u a->eA a->dK ρ n w v b->eA b ->
  s.fuel<=900000000->CK f a b s=O r ->
  Calls bbz 218 #[pq sb so,u,v] w (EPost D w (xp D ρ n sb so T cs) r):=by
 intro f;induction f using a3h with
 | _ f ih=>
 intro tv v u w s a b r h ha I7 hb Qk hz hr;cases f with
 | zero=>simp [CK] at hr
 | succ f=>
 rw[CK] at hr;refine aJz ?_;refine(NN h hf zo).mono ?_;rintro e w1 ⟨L,z⟩;by_cases h0:s.fuel=0
 .rw[zip h0] at hr z;injection hr with hr;subst hr z;simp only[ends,PC];exact⟨L,J⟩
 rw[bM h0] at hr z;obtain⟨rfl,z⟩:=z;have Be:=ha.bJ L.toT;have iS:=hb.bJ L.toT;have hdt:s.dec.tr=s.tr:=rfl;refine bH ?_;cases M:fF s.tr f a with
 | none=>rw[M] at hr;simp at hr
 | some a'=>
 cases R:fF s.tr f b with
 | none=>rw[M,R] at hr;cases a'<;>simp at hr
 | some F=>
 rw[M,R] at hr;refine a1r (G6 z.sv Be (f:=f) (by exact M)) ?_;rintro e w2 ⟨rfl,ua,rfl,H⟩;refine bH ?_;refine a1r (G6 z.sv iS (f:=f) (by exact R)) ?_;rintro e w3 ⟨rfl,ub,rfl,B⟩;have Ye:=wY h.ok I7 M;have T4:=wY h.ok Qk R;obtain⟨ut,ux,rfl⟩:=H.iface;obtain⟨vt,vx,rfl⟩:=B.iface;by_cases qH:BE a'=A/\BE F=A
 .obtain⟨i,C⟩:=qH;cases a' with
  | atom a=>cases i
  | int a=>cases i
  | var a=>cases i
  | comp name l=>
  cases F with
  | atom a=>cases C
  | int a=>cases C
  | var a=>cases C
  | comp S l'=>
  simp only at hr;obtain⟨ba,ava,vsa,NW,-,-⟩:=by unfold dK dI at H;exact H
  obtain⟨bb,avb,vsb,Lc,-,-⟩:=by unfold dK dI at B;exact B
  injection NW with e1 e2;injection Lc with e3 e4;subst e1 e2 e3 e4;obtain⟨ao,cap,i,aeJ⟩:=FA H;obtain⟨bo',aKn,C,aeK⟩:=FA B;refine dj i C ?_;refine⟨fun x w'=>w'=w3,?_,?_⟩
  .refine⟨fun x w'=>w'=w3/\x 33 = .bool G,?_,?_⟩
   .exact eT
   .rintro x w' ⟨rfl,hx⟩ d;exact fh hx
  .rintro x w' rfl d;have T5:=(bB.drew (bB.refl (fun _ _=>False) w')).block _ _ i (fun h=>h);have Ja:=(bB.drew (bB.refl (fun _ _=>False) w')).block _ _ C (fun h=>h);refine⟨fun x I=>Ext w' I/\name=S/\l.length=l'.length,?_,?_⟩
   .refine⟨fun x I=>Ext w' I/\x 58 = .bool (decide (¬ (name=S/\l.length=l'.length))),?_,?_⟩
    .by_cases hn:name=S
     .subst hn;refine dj T5 Ja ?_;grind [bB.refl,Int.ofNat_inj,bB.drew]
     .refine dj T5 Ja ?_;exact yF
    .rintro x I ⟨K,hx⟩ d2;by_cases xQ:name=S/\l.length=l'.length
     .refine dB hx xQ @not_true_eq_false @decide_false ?_;exact yF
     .rw[bM xQ] at hr;injection hr with hr;refine dB hx xQ @not_false_eq_true @decide_true ?_;rw[<- hr];exact⟨yF,J,_,z.ext K⟩
   .rintro x I ⟨K,rfl,uF⟩ d2;rw[zip ⟨J,uF⟩] at hr;have aeL:=K.ext _ _ i;refine cJ aeL ?_;unfold eA at Ye T4;refine⟨fun m x E=>∃ j N FD,x 64=zi (j:Nat)/\j<=l.length/\m=l.length-j/\gO D ρ n sb so T cs FD E N/\dc D I E/\N.fuel<=900000000/\(∃ g,g<=f/\BD g (l.drop j) (l'.drop j) N=O r),
     ⟨_,0,_,_,J,Nat.zero_le _,J,z.ext K,yF,by grind [Sr.dec],f,a1s _,hr⟩,?_⟩
    intro m x d E hI;refine toPr ?_;obtain⟨j,N,FD,hx,hj,rfl,h4,gW,Bm,g,hg,o⟩:=hI;have Ha:dc D w E:=L.trans ((dc.ed K).trans gW);cases g with
    | zero=>simp [BD] at o
    | succ g=>
    by_cases hlt:j<l.length
    .have qO:j<l'.length:=zo;rw[a1y hlt,a1y qO,BD] at o;obtain⟨ab,TZ,v3,rfl,nu,I6,El⟩:=aeJ j hlt;obtain⟨K9,cs4,v4,rfl,aeM,aeN,vH⟩:=aeK j qO;have T6:dc D w' E:=(dc.ed K).trans gW;have tI:dc D w' E.drew:=yF;have kt:∀ (b:Nat) (c:Array Y) (U:Nat),¬ lI U->w'.heap[b]?=aO c U->E.drew.heap[b]?=aO c U:=(by grind [dc.bJ]);have q1:=kt _ _ _ (by grind [lI]) i;have q2:=kt _ _ _ (by grind [lI]) C;have q3:=kt _ _ _ (by grind [lI]) nu;have q4:=kt _ _ _ (by grind [lI]) aeM;have ej:((j:Nat):Int).toNat=j:=zo;refine dB hx @ej @q1 (zA @q2 (zA @q3 (zA @q4 (zA I6 aeN)))) ?_;cases W:CK g l[j] l'[j] N with
     | none=>rw[W] at o;cases o
     | some r1=>
     have Ld:dc D E E.drew:=dc.ed (bB.drew yF);refine a1r (ih g zo (h4.ext (bB.drew yF)) (El.bJ tI.toT) (by grind [I4]) (vH.bJ tI.toT) (by grind [I4]) Bm W) ?_;rintro e w5 ⟨tY,X⟩;rw[W] at o;cases r1 with
     | error t=>
      cases o;have X:e=gP t:=X;subst X;cases t<;>exact⟨Ha.trans yF,J⟩
     | ok p=>
      obtain⟨b1,s5⟩:=p;obtain⟨rfl,tv5,h5⟩:=X;simp only[P.Out.eh] at o;have Yh:=((Ty g).tm W).2;cases b1 with
      | false=>
       cases o;refine bH ?_;exact⟨Ha.trans yF,J,_,h5⟩
      | true=>
       refine cJ hx ?_;exact⟨_,zo,j+1,s5,tv5,zs,zo,J,h5,gW.trans yF,zg,g,zo,zg⟩
    .have Ei:j=l.length:=zo;subst Ei;rw[a2o,uF,a2o,BD] at o
     .cases o;refine cJ hx ?_;exact⟨Ha,J,_,h4⟩
     grind
 .have hr:r = .ok (P.flat a' F,s.dec):=by
   cases a' with
   | comp x k=>cases F with
    | comp y l=>exact absurd ⟨J,J⟩ qH
    | _=>exact zg
   | _=>exact zg
  subst hr;have kY:∀ {x y:Operand},RD bbz (bo .eql 89 x y (aj ut ux) (aj vt vx)) w3 (fun v=>EPost D w (xp D ρ n sb so T cs) (.ok (P.flat a' F,s.dec)) (ah v) w3) (PX (EPost D w (xp D ρ n sb so T cs) (.ok (P.flat a' F,s.dec)))):=fun{x y}=>by
   rw[aeF z.sv H B qH];exact⟨L,J,_,z⟩
  have Q:∀ {u:Nat} {x:Y} {t:Tm},dK ρ n w3 (aj u x) t->BE t=G->¬ u=175:=fun{u x t} h hc=>by
   cases t with
   | atom a=>unfold dK dI at h;grind
   | int a=>unfold dK dI at h;grind
   | var a=>unfold dK dI at h;grind
   | comp a l=>cases hc
  by_cases i:BE a'=A
  .have C:BE F=false:=by
    grind
   have Jb:=Q B C;cases a' with
   | atom a=>cases i
   | int a=>cases i
   | var a=>cases i
   | comp name l=>
   obtain⟨ba,ava,vsa,NW,-,-⟩:=by unfold dK dI at H;exact H
   cases NW;refine cJ Jb ?_;refine⟨fun _ _=>False,?_,by rintro _ _ h;exact h.elim⟩;refine⟨fun x w'=>w'=w3/\x 33 = .bool A,?_,?_⟩
   .exact eT
   .rintro x w' ⟨rfl,hx⟩ d;refine cJ hx ?_;exact kY
  .have i:BE a'=false:=zg;have T7:=Q H i;by_cases Jb:vt=175
   .subst Jb;obtain⟨q,o⟩:∃ q,vx = .pointer q:=by
     cases F with
     | atom a=>unfold dK dI at B;grind
     | int a=>unfold dK dI at B;grind
     | var a=>unfold dK dI at B;grind
     | comp a l=>unfold dK dI at B;grind
    subst o;refine cJ T7 ?_;refine⟨fun _ _=>False,?_,by rintro _ _ h;exact h.elim⟩;refine⟨fun x w'=>w'=w3/\x 33 = .bool A,?_,?_⟩
    .exact eT
    .rintro x w' ⟨rfl,hx⟩ d;refine cJ hx ?_;exact kY
   .refine dj T7 Jb ?_;refine⟨fun _ _=>False,?_,by rintro _ _ h;exact h.elim⟩;refine⟨fun x w'=>w'=w3/\x 33 = .bool A,?_,?_⟩
    .exact eT
    .rintro x w' ⟨rfl,hx⟩ d;refine cJ hx ?_;exact kY
end
def T8(z:Int):IntKind.i64.wrap z=P.wrap64 z:=by
 grind [IntKind.wrap,IntKind.bits,IntKind.signed,P.wrap64]
def aKp(a b:Bool)(w:Z):(Op.equalIn Op.maxDepth 4 (.bool a) (.bool b)).run bbz w = .ok (a == b) w:=by
 cases a<;>cases b<;>kernel_rfl
def aKq{x:Operand}(a b:Bool):RD bbz (bo .neq 4 x y (.bool a) (.bool b)) w K X=K (.bool (decide (a≠b))):=
 gQ (by
  simp [bo,eqGuard,binOp,Op.equal,Sem.run_bind,aKp];grind)
def aKr(name:Bs)(a b:Int)(w:Z):Calls bbz 222 #[.string (bs name),zi a,zi b] w fun e w'=>Ext w w'/\e=(match P.reckon name a b with | .ok z=>ah (zi z) | .error t=>gP t):=by
 refine aJA ?_;unfold P.reckon;by_cases i:name=[43]
 .subst i;refine bH ?_;rw[T8];exact yF
 rw[bM i];by_cases j:name=[45]
 .subst j;refine bH ?_;rw[T8];exact yF
 rw[bM j];by_cases k:name=[42]
 .subst k;refine bH ?_;rw[T8];exact yF
 rw[bM k];refine jc i j k ?_;by_cases c:b=0
 .rw[zip c];refine⟨fun _ _=>False,?_,by rintro _ _ h;exact h.elim⟩;refine cJ c ?_;exact⟨yF,J⟩
 rw[bM c];refine⟨fun _ w'=>w'=w,?_,?_⟩
 .exact fh c
 .rintro s w' rfl d;by_cases l:name=[47,47]
  .subst l;refine bH ?_;rw[Sq _ _ _ c,T8];exact yF
  rw[bM l];refine cJ l ?_;rw[WE _ _ _ c];obtain⟨m,hm⟩:=cg (a.tmod b);rw[<- hm];refine⟨fun s w1=>w1=w'/\s 7=zi (if m≠0/\(decide (m<0)≠decide (b<0)) then P.wrap64 (m+b) else m),?_,?_⟩
  .refine⟨fun s w1=>w1=w'/\s 43 = .bool (decide (m≠0/\(decide (m<0)≠decide (b<0)))),?_,?_⟩
   .by_cases n:m=0
    .refine cJ n ?_;simp
    .refine cJ n ?_;rw[aKq];grind [jg]
   .rintro s w1 ⟨rfl,f⟩ d;by_cases g:m≠0/\(decide (m<0)≠decide (b<0))
    .rw[zip g];rw[decide_eq_true g] at f;exact lM f @T8
    .rw[bM g];rw[decide_eq_false g] at f;exact fh f
  exact yF
section
variable{D:Nat->Prop}{ρ:Nat->Nat}{n sb so T:Nat}{cs:Array Y}
abbrev StN(D:Nat->Prop)(ρ:Nat->Nat)(n sb so T:Nat)(cs:Array Y)(p:Int×Sr)(e:Ending)(w':Z):Prop:=
 e = ah (zi p.1)/\∃ tv,gO D ρ n sb so T cs tv w' p.2
def aeP(hf:vF so T cs):∀ (f:Nat) {tv v:Y} {w:Z} {s:Sr} {t:Tm} {r:Except jE (Int×Sr)},gO D ρ n sb so T cs tv w s->dK ρ n w v t->eA t->s.fuel<=1000000000->uE f t s=O r ->
  Calls bbz 219 #[pq sb so,v] w (EPost D w (StN D ρ n sb so T cs) r):=by
 intro f;induction f using a3h with
 | _ f ih=>
 intro tv v w s t r h hv dA E hr;cases f with
 | zero=>simp [uE] at hr
 | succ f=>
 rw[uE] at hr;refine aJB ?_;refine(NN h hf E).mono ?_;rintro e w1 ⟨k,d⟩;by_cases L:s.fuel=0
 .rw[zip L] at hr d;injection hr with hr;subst hr d;simp only[ends,PC];exact⟨k,J⟩
 rw[bM L] at hr d;obtain⟨rfl,d⟩:=d;have kK:=hv.bJ k.toT;refine bH ?_;cases hw:fF s.tr f t with
 | none=>rw[hw] at hr;cases hr
 | some t'=>
 rw[hw] at hr;refine a1r (G6 d.sv kK (f:=f) (by exact hw)) ?_;rintro e w2 ⟨rfl,u,rfl,hu⟩;have M:=wY h.ok dA hw;cases t' with
 | atom a=>
  unfold dI at hu;subst hu;cases hr;refine bH ?_;exact⟨k,J⟩
 | int a=>
  unfold dI at hu;subst hu;cases hr;refine bH ?_;exact⟨k,J,_,d⟩
 | var j=>
  unfold dI at hu;obtain⟨hj,rfl⟩:=hu;cases hr;refine bH ?_;exact⟨k,J⟩
 | comp name args=>
  obtain⟨b,av,vs,rfl,-,-⟩:=by unfold dI at hu;exact hu
  obtain⟨ao,cap,gS,N⟩:=FA hu;unfold eA at M;have Ja:=(bB.drew (bB.refl (fun _ _=>False) w2)).block _ _ gS (fun h=>h);refine cJ Ja ?_;refine a1r (aod name args.length w2.drew) ?_;rintro e w3 ⟨rfl,rfl⟩;refine bH ?_;have qP:dc D w w2.drew:=yF;have fa:lu name args.length≠0->args.length=2:=fun h=>by
   unfold lu at h;grind
  by_cases o:lu name args.length=0
  .have hr:r = .error (.fault 8):=by
    grind
   subst hr;have g:¬ (0:Int)<((lu name args.length:Nat):Int):=zo;refine cJ g ?_;exact⟨qP,J⟩
  .obtain⟨x,y,rfl⟩:∃ x y,args=[x,y]:=by
    have:=fa o
    match args,this with
    | [x,y],_=>grind
   have o:lu name 2≠0:=o;simp only[zip o] at hr;have g:(0:Int)<((lu name [x,y].length:Nat):Int):=by
    omega
   refine cJ g ?_;obtain⟨ab,zh,v0,rfl,nu,F,P2⟩:=N 0 zs;obtain⟨K9,zj,v1,Q,l,T9,H⟩:=N 1 zs;have Q:ab=K9:=zg;subst Q;rw[nu] at l;cases l;have R:Ext w2 w2.drew.drew:=yF;have I:∀ {w':Z},dc D w2 w'->w'.heap[b]?=aO #[aT name,.slice (O ⟨ab,0,V⟩) [x,y].length cap] 180:=(by grind [lI,dc.bJ]);have S:∀ {w':Z},dc D w2 w'->w'.heap[ab]?=aO zh 89:=(by grind [lI,dc.bJ]);refine⟨fun w'=>dc D w2 w',yF,?_⟩;refine toPr ?_;refine bH ?_;refine cQ (pp b) (fun w' c=>eT) ?_;refine cQ (aT name) (fun w' c=>by have:=I c;exact fh @this) ?_;refine bH ?_;refine cQ (pq b 1) (fun w' c=>eT) ?_;refine cQ (.slice (O ⟨ab,0,V⟩) [x,y].length cap) (fun w' c=>by have:=I c;exact fh @this) ?_;refine cQ (pp ab) (fun w' c=>eT) ?_;refine cQ v0 (fun w' c=>by have:=S c;exact lM @this F) ?_;refine bH ?_;refine cQ (pq b 1) (fun w' c=>eT) ?_;refine cQ (.slice (O ⟨ab,0,V⟩) [x,y].length cap) (fun w' c=>by have:=I c;exact fh @this) ?_;refine cQ (pq ab 1) (fun w' c=>eT) ?_;refine cQ v1 (fun w' c=>by have:=S c;exact lM @this T9) ?_;have tI:dc D w w2.drew.drew:=yF;have i:=Ns M.2.2;cases p:uE f x s.dec with
   | none=>rw[p] at hr;cases hr
   | some r1=>
   rw[p] at hr;refine a1r (ih f zo (d.ext R) (P2.bJ (ry.ed R)) i.1 (a1t (Nat.sub_le _ _) E) p) ?_;rintro e w5 ⟨tY,q⟩;cases r1 with
   | error t=>
    cases hr;have q:e=gP t:=q;subst q;cases t<;>exact fun _=>⟨yF,J⟩
   | ok p1=>
   obtain⟨U,s1⟩:=p1;obtain⟨rfl,Lb,g1⟩:=q;obtain⟨t1,t2,t3⟩:=D0 f (s:=s.dec) h.ok i.1 p;have W:dc D w2 w5:=yF;refine⟨W,?_⟩;simp only[P.Out.eh] at hr;cases K:uE f y s1 with
   | none=>rw[K] at hr;cases hr
   | some r2=>
   rw[K] at hr;have dX:s1.fuel<=1000000000:=a1t t2 (a1t (Nat.sub_le _ _) E);refine a1r (ih f zo g1 (H.bJ W.toT) i.2 dX K) ?_;rintro e w6 ⟨lh,B⟩;cases r2 with
   | error t=>
    cases hr;have B:e=gP t:=B;subst B;cases t<;>exact fun _=>⟨yF,J⟩
   | ok p2=>
   obtain⟨z2,s2⟩:=p2;obtain⟨rfl,yd,g2⟩:=B;refine⟨yF,?_⟩;simp only[P.Out.eh] at hr;refine a1r (aKr name U z2 w6) ?_;rintro e w7 ⟨GO,C⟩;have m:dc D w w7:=yF;cases X:P.reckon name U z2 with
   | error t=>
    rw[X] at hr C;injection hr with hr;subst hr C;cases t<;>exact fun _=>⟨m,J⟩
   | ok z=>
    rw[X] at hr C;injection hr with hr;subst hr C;exact⟨m,J,_,g2.ext GO⟩
end
def fJ.at'{a:TypeId}(h:fJ F w a v vs)(c:j<vs.length):∃ b cs,v = cS b vs.length cs.size/\F b/\w.heap[b]?=aO cs a/\cs[j]?=vs[j]?:=by
 rcases h with⟨rfl,rfl⟩| ⟨b,cs,rfl,g1,g2,g3,g4⟩<;>grind
theorem fJ.sl{d:TypeId}(h:fJ F w d v vs):∃ a c,v = .slice a vs.length c:=by
 rcases h with⟨rfl,rfl⟩| ⟨b,cs,rfl,g1,g2,g3,g4⟩
 .exact⟨_,_,J⟩
 grind
section
variable{D:Nat->Prop}{ρ:Nat->Nat}{n sb so T:Nat}{cs:Array Y}
def aKu(name:Bs)(h:dK ρ n w v t):Calls bbz 220 #[aT name,v] w fun e w'=>e = ah (.bool (PS name t))/\w'=w:=by
 refine aJC ?_;cases t with
 | atom a=>
  unfold dK dI at h;subst h;unfold PS;by_cases b:name=[110,111,110,118,97,114]
  .refine cJ b ?_;simp
  .refine cJ b ?_;grind
 | int a=>
  unfold dK dI at h;subst h;unfold PS;by_cases b:name=[110,111,110,118,97,114]
  .refine cJ b ?_;simp
  .refine cJ b ?_;grind
 | var i=>
  unfold dK dI at h;obtain⟨-,rfl⟩:=h;unfold PS;refine bH ?_;grind
 | comp a l=>
  unfold dK dI at h;obtain⟨_,_,_,rfl,-⟩:=h;unfold PS;refine bH ?_;grind
def aeT{args:List Tm}(c:fJ (fun _=>True) w 89 av vs)(ht:qe ρ n w vs args)(d:j<args.length) :
  ∃ ab cap a v,av = cS ab args.length cap/\w.heap[ab]?=aO a 89/\a[j]?=O v/\dK ρ n w v args[j]:=by
 have e:=ht.length;obtain⟨v,f,g⟩:=ht.at j d;obtain⟨b,a,h,-,i,k⟩:=c.at' (j:=j) zo;exact⟨b,a.size,a,v,by rw[h,e],i,by rw[k];exact f,g⟩
def aoB(o:vF so T cs){s:Sr}{name:Bs}{args:List Tm}{r:Except jE (Bool×Sr)}(h:gO D ρ n sb so T cs tv w s)(hD:∀ b,w.heap.size<=b->D b)
  (ha:fJ (fun _=>True) w 89 av vs) (ht:qe ρ n w vs args) (dA:jt args) (Q:jw name=args.length) (hz:s.cV<=900000000) (hr:xW f name args s=O r) :
  Calls bbz 213 #[pq sb so,aT name,av] w (EPost D w (xp D ρ n sb so T cs) r):=by
 have Kb:s.tr.length+s.fuel<=900000000:=hz;have c:Ext w w.drew:=yF;have I:∀ b,w.drew.heap.size<=b->D b:=hD;have two:args.length=2->∃ ab cap q v0 v1,av = cS ab 2 cap/\w.heap[ab]?=aO q 89/\q[0]?=O v0/\q[1]?=O v1 /\
   dK ρ n w v0 (args.getD 0 default)/\dK ρ n w v1 (args.getD 1 default)/\eA (args.getD 0 default)/\eA (args.getD 1 default):=fun hl=>by
  obtain⟨x,y,rfl⟩:∃ x y,args=[x,y]:=match args,hl with
   | [x,y],_=>zg
  obtain⟨ab,cap,zh,v0,e0,g0,i,t0⟩:=aeT ha ht (j:=0) zo;obtain⟨K9,rJ,zj,v1,e1,g1,k,t1⟩:=aeT ha ht (j:=1) zo;rw[e0] at e1;simp only[Value.slice.injEq,a1o,Addr.mk.injEq,and_true,true_and] at e1;obtain⟨rfl,rfl⟩:=e1;grind [Ns]
 refine aJD ?_;unfold xW at hr;by_cases R:name=[116,114,117,101]
 .subst R;rw[zip rfl] at hr;cases hr;refine⟨fun _ _=>False,?_,by rintro _ _ h;exact h.elim⟩;refine bH ?_;exact⟨yF,J,_,h⟩
 rw[bM R] at hr;by_cases S:name=[61]
 .subst S;rw[zip rfl] at hr;obtain⟨ab,cap,q,v0,v1,rfl,g0,i,k,t0,t1,l,o1⟩:=two (by have:(2:Int)=args.length:=Q;omega);have E:=c.ext _ _ g0;refine⟨fun _ _=>False,?_,by rintro _ _ h;exact h.elim⟩;refine jc @E @i @k ?_;refine a1r (Qj o f (h.ext c) I (t0.bJ (ry.ed c)) l (t1.bJ (ry.ed c)) o1 hz hr) ?_;exact fun e w4 a=>(a.of yF).TP
 rw[bM S] at hr;by_cases U:name=[92,61]
 .subst U;rw[zip rfl] at hr;obtain⟨ab,cap,q,v0,v1,rfl,g0,i,k,t0,t1,l,o1⟩:=two (by have:(2:Int)=args.length:=Q;omega);refine⟨fun _ _=>False,?_,by rintro _ _ h;exact h.elim⟩;refine bH ?_;refine a1r (TR h o) ?_;rintro e w1 ⟨rfl,rfl⟩;have c:Ext w1 w1.drew:=yF;have E:=c.ext _ _ g0;refine dB @E @g0 @i @k ?_;cases g:lS f (args.getD 0 default) (args.getD 1 default) s with
  | none=>rw[g] at hr;cases hr
  | some K=>
  rw[g] at hr;refine a1r (Qj o f (h.ext c) I (t0.bJ (ry.ed c)) l (t1.bJ (ry.ed c)) o1 hz g) ?_;rintro e w2 ⟨L,a⟩;cases K with
  | error t=>
   cases hr;have a:e=gP t:=a;subst a;cases t<;>exact⟨(dc.ed c).trans L,J⟩
  | ok p=>
   obtain⟨b1,s1⟩:=p;obtain⟨rfl,Lb,F⟩:=a;cases hr;have hsu:=(Nv f).tm g;have Yh:=((Fi f).tm g).1;have aWm:s1.tr.length+s1.fuel<=s.tr.length+s.fuel:=Yh;refine bH ?_;refine a1r (aer F o hsu.length_le zg) ?_;rintro e w3 ⟨rfl,eH,tv3,h3⟩;refine bH ?_;exact⟨(dc.ed c).trans yF,J,_,h3⟩
 rw[bM U] at hr;by_cases W:name=[61,61]
 .subst W;rw[zip rfl] at hr;obtain⟨ab,cap,q,v0,v1,rfl,g0,i,k,t0,t1,l,o1⟩:=two (by have:(2:Int)=args.length:=Q;omega);have E:=c.ext _ _ g0;refine⟨fun _ _=>False,?_,by rintro _ _ h;exact h.elim⟩;refine jc @E @i @k ?_;refine a1r (aKo o f (h.ext c) (t0.bJ (ry.ed c)) l (t1.bJ (ry.ed c)) o1 zo hr) ?_;exact fun e w4 a=>(a.of yF).TP
 rw[bM W] at hr;by_cases X:name=[105,115]
 .subst X;rw[zip rfl] at hr;obtain⟨ab,cap,q,v0,v1,rfl,g0,i,k,t0,t1,l,o1⟩:=two (by have:(2:Int)=args.length:=Q;omega);have E:=c.ext _ _ g0;refine⟨fun _ _=>False,?_,by rintro _ _ h;exact h.elim⟩;refine bH ?_;refine⟨fun w'=>dc D w w',yF,?_⟩;refine toPr ?_;refine cQ (pp ab) (fun w' B=>eT) ?_;refine cQ v0 (fun w' B=>by have:=dc.bJ B (by unfold lI;decide) g0;exact lM @this @i) ?_;refine dj @E @k ?_;cases g:uE f (args.getD 1 default) s with
  | none=>rw[g] at hr;cases hr
  | some K=>
  rw[g] at hr;refine a1r (aeP o f (h.ext c) (t1.bJ (ry.ed c)) o1 zo g) ?_;rintro e w2 ⟨L,a⟩;have m:dc D w w2:=(dc.ed c).trans L;cases K with
  | error t=>
   cases hr;have a:e=gP t:=a;subst a;cases t<;>exact fun _=>⟨m,J⟩
  | ok p=>
   obtain⟨z,s1⟩:=p;obtain⟨rfl,Lb,F⟩:=a;obtain⟨q1,q2,q3⟩:=D0 f h.ok o1 g;simp only[P.Out.eh] at hr;refine⟨m,?_⟩;refine bH ?_;refine⟨m,?_⟩;have hzi:dK ρ n w2 (aj 172 (zi z)) (.int z):=by unfold dK dI;rfl
   refine a1r (Qj o f F (fun b hb=>hD b (a1t m.size hb)) (t0.bJ m.toT) l hzi (by unfold eA;exact q3) (show s1.tr.length+s1.fuel<=900000000 by grind) hr) ?_;exact fun e w4 a=>(a.of m).aJH
 rw[bM X] at hr;by_cases C:name∈[[118,97,114],[110,111,110,118,97,114],[97,116,111,109],[105,110,116,101,103,101,114]]
 .rw[zip C] at hr;have BA:args.length=1:=by
   have:jw name=1:=by
    simp only[a1z,a1E,or_false] at C;rcases C with rfl | rfl | rfl | rfl<;>decide
   omega
  obtain⟨x,rfl⟩:∃ x,args=[x]:=match args,BA with
   | [x],_=>⟨x,J⟩
  obtain⟨ab,cap,zh,v0,rfl,g0,i,t0⟩:=aeT ha ht (j:=0) zs;have t0:dK ρ n w v0 x:=t0;refine⟨fun _ _=>False,?_,by rintro _ _ h;exact h.elim⟩;cases hw:fF s.tr f x with
  | none=>rw[show([x].getD 0 default)=x from J,hw] at hr;cases hr
  | some t'=>
  rw[show([x].getD 0 default)=x from J,hw] at hr;injection hr with hr;simp only[a1z,a1E,or_false] at C;refine dB @R @S @U (zA @W @X) ?_;refine⟨fun s w'=>w'=w/\s 64 = .bool A,?_,?_⟩
  .rcases C with rfl | rfl | rfl | rfl<;>simp (disch:=first|assumption|omega|simp only[zS]<;>omega|decide) only[zB,simprocAttr,kW]<;>simp
  .rintro s' w' ⟨rfl,M⟩ d;rw[M];refine dj @g0 @i ?_;refine a1r (G6 h.sv t0 hw) ?_;rintro e w2 ⟨rfl,u,rfl,hu⟩;refine bH ?_;refine a1r (aKu name hu) ?_;rintro e w3 ⟨rfl,rfl⟩;rw[<- hr];exact⟨yF,J,_,h⟩
 rw[bM C] at hr;by_cases n7:name=[102,97,105,108]
 .subst n7;rw[zip rfl] at hr;cases hr;refine⟨fun _ _=>False,?_,by rintro _ _ h;exact h.elim⟩;refine bH ?_;refine⟨fun s w'=>w'=w/\s 64 = .bool G,?_,?_⟩
  .simp (disch:=first|assumption|omega|simp only[zS]<;>omega|decide) only[zB,simprocAttr,kW,jg];simp
  .rintro s w' ⟨rfl,M⟩ d;refine cJ M ?_;exact⟨yF,J,_,h⟩
 rw[bM n7] at hr;simp only[a1z,a1E,or_false,not_or] at C;obtain⟨m1,m2,m3,m4⟩:=C;have qF:args.length=2:=by
  have F:jw name=if name∈[[61],[92,61],[61,61],[105,115],[60],[62],[61,60],[62,61],[61,58,61]] then 2 else -1:=by
   unfold jw;grind
  omega
 obtain⟨ab,cap,q,v0,v1,rfl,g0,i,k,t0,t1,l,o1⟩:=two qF;refine⟨fun _ w'=>w'=w,?_,?_⟩
 .refine dB @R @S @U (zA @W @X) ?_;refine⟨fun s w'=>w'=w/\s 64 = .bool G,?_,?_⟩
  .exact Bk @m1 @m2 @m3 @m4
  .rintro s w' ⟨rfl,M⟩ d;exact lM M @n7
 rintro s' w' rfl d;have c:Ext w' w'.drew:=yF;refine⟨fun w2=>dc D w' w2,yF,?_⟩;refine toPr ?_;refine cQ (pp ab) (fun w2 B=>eT) ?_;refine cQ v0 (fun w2 B=>by have:=dc.bJ B (by unfold lI;decide) g0;exact lM @this @i) ?_;refine cQ (pq ab 1) (fun w2 B=>eT) ?_;refine cQ v1 (fun w2 B=>by have:=dc.bJ B (by unfold lI;decide) g0;exact lM @this @k) ?_;cases g:uE f (args.getD 0 default) s with
 | none=>rw[g] at hr;cases hr
 | some K=>
 rw[g] at hr;refine a1r (aeP o f (h.ext c) (t0.bJ (ry.ed c)) l zo g) ?_;rintro e w2 ⟨L,a⟩;have m:dc D w' w2:=(dc.ed c).trans L;cases K with
 | error t=>
  cases hr;have a:e=gP t:=a;subst a;cases t<;>exact fun _=>⟨m,J⟩
 | ok p=>
 obtain⟨z,s1⟩:=p;obtain⟨rfl,Lb,F⟩:=a;obtain⟨q1,q2,q3⟩:=D0 f h.ok l g;have q2:s1.fuel<=s.fuel:=q2;simp only[P.Out.eh] at hr;refine⟨m,?_⟩;cases iU:uE f (args.getD 1 default) s1 with
 | none=>rw[iU] at hr;cases hr
 | some r2=>
 rw[iU] at hr;refine a1r (aeP o f F (t1.bJ m.toT) o1 zo iU) ?_;rintro e w3 ⟨eH,a⟩;have H:dc D w' w3:=yF;cases r2 with
 | error t=>
  cases hr;have a:e=gP t:=a;subst a;cases t<;>exact fun _=>⟨H,J⟩
 | ok p=>
 obtain⟨z2,s2⟩:=p;obtain⟨rfl,yd,N⟩:=a;cases hr;unfold Fg;by_cases c1:name=[60]
 .refine cJ @c1 ?_;exact⟨H,J,_,N⟩
 by_cases c2:name=[62]
 .refine cJ @c2 ?_;exact⟨H,J,_,N⟩
 by_cases c3:name=[61,60]
 .refine cJ @c3 ?_;exact⟨H,J,_,N⟩
 by_cases c4:name=[62,61]
 .refine cJ @c4 ?_;exact⟨H,J,_,N⟩
 refine dB @c1 @c2 @c3 @c4 ?_;exact⟨H,zg,_,N⟩
end
def aeV{name:Bs}{x0 f:Tm}(h:dK ρ n w (aj 175 (pp b)) (.comp name [x0,f])) :
  ∃ ab cap a c d,w.heap[b]?=aO #[aT name,cS ab 2 cap] 180/\w.heap[ab]?=aO a 89/\a[0]?=O c/\a[1]?=O d/\dK ρ n w c x0/\dK ρ n w d f:=by
 obtain⟨i,cap,j,g⟩:=FA h;obtain⟨ab,a,c,rfl,k,l,m⟩:=g 0 zs;obtain⟨o,p,d,e,q,r,s⟩:=g 1 zs;exact yH
def aKy(ih:∀ g,g<=f->CW g){T:Nat}{s:Ws}{name:Bs}{x y:Tm}{r:Option Ws}(hx:ya tr wb pb so T cs)(hs:G7 ρ n tr wb pb so T cs w s)
  (hu:dK ρ n w (aj 175 (pp b)) (.comp name [x,y])) (dA:eA (.comp name [x,y]))
  (hB:s.cV<=900000100-60) (AR:s.seen.length<=s.out.length) (hr:vw tr (f+1) 91 x y s=O r) :
  Calls bbz 96 #[pp wb,pp b] w (BI ρ n tr wb pb so T cs w (s.cV+30) r):=by
 obtain⟨nm,h⟩:=hs;refine aJp ?_;refine⟨fun m z w'=>∃ P k Ej sep C3 B p,z 1=pp P/\z 4 = .int .u8 (sep:UInt8).toNat/\ma ρ n tr wb pb so T cs Ej w' k/\ng wb pb w w' /\
  dK ρ n w' (aj 175 (pp P)) (.comp C3 [B,p])/\eA (.comp C3 [B,p])/\m<=f+1/\vw tr m sep B p k=O r/\k.cV<=s.cV/\k.seen.length<=k.out.length,
  ⟨f+1,b,s,nm,91,name,x,y,J,J,h,bB.refl _ _,hu,dA,a1s _,hr,a1s _,AR⟩,?_⟩
 intro m z d w3 hI;refine toPr ?_;obtain⟨P,k,Ej,sep,C3,B,p,q,Bm,h3,dU,NT,aKz,hm,j,aou,K7⟩:=hI;have aov:k.cV=k.out.length+60*k.fuel:=rfl;obtain⟨ad3,aJZ,aJ0,eL,MP⟩:=id h3.bu;have C:=aKz;unfold eA at C;obtain⟨nR,Em⟩:=Ns C.2.2;cases m with
 | zero=>simp [vw] at j
 | succ g=>
 rw[vw] at j;refine dj q Bm ?_;refine(NM h3 hx sep zo J).mono ?_;rintro e w4 ⟨⟨v4,rfl⟩,h4,ez⟩;have Yb:=dU.trans ez;have Lh:=NT.bJ (h3.kv hx ez).toT;obtain⟨ab,cap,zh,u0,u1,D,E,k3,Q,k5,R⟩:=aeV Lh;refine dB q @D @E @k3 ?_;have aeA:(k.add [sep]).cV=k.cV+1:=Ws.pE ..;cases F:lB tr g B 0 (k.add [sep]) with
 | none=>simp [F,Wb] at j
 | some r1=>
 refine a1r ((ih g zo).tm (least:=0) hx ⟨_,h4⟩ k5 nR zo (oU K7) F) ?_;rintro e w5 oC;have oD:=oC.of (B':=s.cV+30) Yb zo;cases r1 with
 | none=>
  simp only[F,Wb,a1o] at j;subst j;obtain⟨g1,rfl,g2⟩:=oD;exact⟨g1,J,g2⟩
 | some o=>
  obtain⟨iP,rfl,NV,t⟩:=oD;obtain⟨l1,l2⟩:=(KC hx.tok g).tm _ _ _ _ nR zo (oU K7) F;simp only[F,Wb] at j;have Yi:ng wb pb w4 w5:=oC.1;have Yj:=Lh.bJ (h4.kv hx Yi).toT;obtain⟨ab,cap,zh,u0,u1,D,E,k3,Q,k5,R⟩:=aeV Yj;obtain⟨ad5,aWo,aWp,NZ,aWq⟩:=id t.bu;have aKc:o.cV=o.out.length+60*o.fuel:=rfl;refine bH ?_;refine⟨fun H w'=>H 1=pp P/\w'=w5/\Wb (lB tr g p 0 (o.add [124])) (fun s=>O (O (s.add [93])))=O r,?_,?_⟩
  .refine dB q @D @E @Q ?_;cases hw:fF tr g p with
   | none=>simp [hw] at j
   | some t'=>
   rw[hw] at j;refine a1r (G6 t.st R hw) ?_;rintro e w6 ⟨rfl,u,rfl,l⟩;have aKA:=wY hx.tok Em hw;cases t' with
   | atom a=>
    unfold dI at l;subst l;refine bH ?_;dsimp only at j;by_cases S:a=[91,93]
    .rw[zip S] at j;refine cJ S ?_;refine(NM t hx 93 zo J).mono ?_;rintro e w7 ⟨⟨v7,rfl⟩,h7,U⟩;cases j;exact⟨iP.trans U,J,_,h7⟩
    .rw[bM S] at j;refine cJ S ?_;exact⟨q,j⟩
   | int a=>
    unfold dI at l;subst l;refine bH ?_;exact⟨q,j⟩
   | var i=>
    unfold dI at l;obtain⟨hi,rfl⟩:=l;refine bH ?_;exact⟨q,j⟩
   | comp I W=>
    have K:=l;unfold dI at l;obtain⟨b2,uL,PO,rfl,-⟩:=l;obtain⟨ao2,GD,q1,-⟩:=FA K;refine cJ @q1 ?_;refine⟨fun H w'=>w'=w6/\H 42 = .bool (decide (I=[46]/\W.length=2)),?_,?_⟩
    .by_cases hn:I=[46]
     .refine dj @q1 hn ?_;simp [jg];omega
     .refine dj @q1 hn ?_;grind
    .rintro H w' ⟨rfl,aKC⟩ d2;rw[aKC];dsimp only at j;by_cases X:I=[46]/\W.length=2
     .rw[Gk _ _ X];obtain⟨x2,y2,rfl⟩:∃ x2 y2,W=[x2,y2]:=by
       match W,X.2 with
       | [x2,y2],_=>grind
      dsimp only at j;rw[zip X.1] at j;exact⟨g,zo,b2,o,NV,44,I,x2,y2,by grind [jg],by grind [jg],t,iP,K,aKA,zo,j,zo,l2⟩
     .rw[Gl _ _ X];refine⟨by grind [jg],J,?_⟩;split at j
      .rename_i c d';have Dy:¬ I=[46]:=zg;rw[bM Dy] at j;exact j
      .exact j
  .rintro H w' ⟨L,rfl,M⟩ d2;refine cJ L ?_;refine(NM t hx 124 zo J).mono ?_;rintro e w7 ⟨⟨v7,rfl⟩,h7,U⟩;have aKD:=iP.trans U;have Yl:=Yj.bJ (t.kv hx U).toT;obtain⟨ab,cap,zh,u0,u1,D,E,k3,Q,k5,R⟩:=aeV Yl;refine dB L @D @E @Q ?_;have aWs:(o.add [124]).cV=o.cV+1:=Ws.pE ..;cases N:lB tr g p 0 (o.add [124]) with
   | none=>simp [N,Wb] at M
   | some r2=>
   refine a1r ((ih g zo).tm (least:=0) hx ⟨_,h7⟩ R Em zo (oU l2) N) ?_;rintro e w8 La;have Xg:=La.of (B':=s.cV+30) aKD zo;cases r2 with
   | none=>
    simp only[N,Wb,a1o] at M;subst M;obtain⟨g1,rfl,g2⟩:=Xg;exact⟨g1,J,g2⟩
   | some s8=>
    obtain⟨Ym,rfl,nm8,h8⟩:=Xg;obtain⟨l3,l4⟩:=(KC hx.tok g).tm _ _ _ _ Em zo (oU l2) N;simp only[N,Wb,a1o] at M;subst M;have aWu:s8.cV=s8.out.length+60*s8.fuel:=rfl;obtain⟨ad8,aWw,aWx,hb8,aWz⟩:=id h8.bu;refine bH ?_;refine(NM h8 hx 93 zo J).mono ?_;rintro e w9 ⟨⟨v9,rfl⟩,h9,Cz⟩;exact⟨Ym.trans Cz,J,_,h9⟩
def cw:∀ f,CW f:=by
 intro f;induction f using a3h with
 | _ f ih=>
  cases f with
  | zero=>
   exact⟨fun _ _ _ _ _ _ h=>by simp [lB] at h,fun _ _ _ _ _ _ h=>by simp [yZ] at h,fun _ _ _ _ _ _ h=>by simp [vw] at h⟩
  | succ f=>
   have i:∀ g,g<=f->CW g:=zg;exact⟨fun a b c d e g h=>aJO zg a b c d e g h,fun a b c d e g h=>aJW i a b c d e g h,fun a b c d e g h=>aKy i a b c d e g h⟩
def aKE:(Tryz.prog.info? 89).map (fun i=>(i.zero,i.size,i.bytes))=O (O ai,1,16):=zk
def Qm(d:w.ownsRow base 89 1 v n xs){a:Y}
  (f:w.heap[b]?=aO #[a] 89) (p:a.oneCell'=A)
  (q:n<=100000000) (g:base<=w.heap.size) {K:Y->Z->Prop}
  (h:∀ v' w',w'.ownsRow base 89 1 v' (n+1) (xs++[a])->w.grownBy w' v.ownBlock->(v'.ownBlock=v.ownBlock\/∀ k,v'.ownBlock=O k->w.heap.size<=k)->K v' w') :
  WR bbz (Builtin.append_ #[82,82] 82 #[v,cS b 1 m]) w K X:=by
 obtain⟨i,hi,c⟩:=Option.map_eq_some_iff.1 aKE;simp only[Prod.mk.injEq] at c;obtain⟨j,l,o⟩:=c;refine Sx.DC (m:=1) (t:=82) (e:=89) zk hi j l o J zo d f J (fun u hu=>?_) zo zo g h;grind
abbrev ni(ρ:Nat->Nat)(ids:List Nat):List Y:=ids.map fun i=>aj 87 (pp (ρ i))
def eQ.at'{F:Nat->Prop}{w:Z}:∀ {xs:List Ex} {vs:List Y} (j:Nat) (a:j<xs.length),eQ F w vs xs->∃ v,vs[j]?=O v/\eP F w v xs[j]
 | x::xs,vs,0,_,h=>by
  unfold eQ at h;grind
 | x::xs,vs,j+1,a,h=>by
  unfold eQ at h;obtain⟨u,r,rfl,c,b⟩:=h;simpa using eQ.at' j zg b
def eQ.FF{F:Nat->Prop}{w:Z}:∀ {xs:List Ex} {vs:List Y},eQ F w vs xs->vs.length=xs.length
 | [],vs,h=>by unfold eQ at h;subst h;rfl
 | x::xs,vs,h=>by
  unfold eQ at h;obtain⟨u,r,rfl,b,a⟩:=h;simp [eQ.FF a]
def aeW(vs:List Nat):∀ (l:List Ex) (j:Nat) (a:j<l.length),nY vs (l.take (j+1))=nY vs (l.take j)++[P.made vs l[j]]
 | x::xs,0,_=>by simp [nY]
 | x::xs,j+1,a=>by
  have:=aeW vs xs j zg;simp only[List.take_succ_cons,nY,List.cons_append,List.getElem_cons_succ];rw[this]
def aeX{ρ:Nat->Nat}{n:Nat}{ids:List Nat}(N0:∀ i∈ids,i<n):∀ (N:Nat) (x:Ex),iD x<=N->ie ids.length x->∀ {F f:Nat->Prop} {w:Z} {v vv:Y},eP F w v x->fJ f w 89 vv (ni ρ ids) ->
  Calls bbz 32 #[v,vv] w fun e w'=>Ext w w'/\∃ u,e = ah u/\dI (Nu w w') ρ n w' u (P.made ids x)
 | 0,x,L,_,_,_,_,_,_,_,_=>by cases x;simp [iD] at L
 | N+1,.mk kind name k kv args,L,dA,F,f,w,v,vv,hv,wX=>by
  have ih:=aeX (ρ:=ρ) (n:=n) N0 N;unfold ie at dA;obtain⟨o1,o2,o3,o4,o5,o6,o7,o8⟩:=dA;unfold eP at hv;obtain⟨b,av,di,rfl,hF,p,hs,hx⟩:=hv;unfold iD at L;obtain⟨m0,g⟩:=cg (P.made ids (.mk kind name k kv args));rw[<- g];unfold P.made at g;refine aJn ?_;by_cases B:kind=97
  .subst B;rw[zip rfl] at g;subst g;have C:((97:Nat):Int)=97:=rfl;refine dj p @C ?_;refine⟨yF,?_⟩;unfold dI;grind
  .have aWA:¬ (kind:Int)=97:=zo;rw[bM B] at g;by_cases AW:kind=110
   .subst AW;rw[zip rfl] at g;subst g;have C:((110:Nat):Int)=110:=rfl;refine dj p @C ?_;refine⟨yF,_,J,?_⟩;unfold dI;rfl
   .have aWB:¬ (kind:Int)=110:=zo;rw[bM AW] at g;by_cases Hd:kind=118
    .subst Hd;rw[zip rfl] at g;subst g;have C:((118:Nat):Int)=118:=rfl;have Qf:=o4 J;have hl:(ni ρ ids).length=ids.length:=zs;obtain⟨gb,M,rfl,g1,g2,g3⟩:=wX.at' (j:=kv) (by rw[hl];exact Qf);have Q:M[kv]?=O (aj 87 (pp (ρ ids[kv]))):=by
      grind
     have R:(kv:Int).toNat=kv:=zo;rw[hl];refine dB p @C @g2 (zA @Q @R) ?_;refine⟨yF,_,J,?_⟩;unfold dI;have S:ids.getD kv 0=ids[kv]:=zg;rw[S];exact⟨(by grind [List.getElem_mem]),J⟩
    .have aWC:¬ (kind:Int)=118:=zo;obtain⟨sa,sc,rfl⟩:=hs.sl;have GV:=hx.FF;have lb:=bg p;rw[bM Hd] at g;subst g;refine cJ p ?_;refine⟨fun m z w'=>∃ j I vs,z 46=zi (j:Nat)/\j<=args.length/\m=args.length-j/\Ext w w'/\w'.heap[w.heap.size]?=aO #[aT name,I] 180 /\
      w'.ownsRow (w.heap.size+1) 89 1 I j vs/\iG (fun c=>w.heap.size<c/\c<w'.heap.size/\O c≠I.ownBlock) ρ n w' vs (nY ids (args.take j)),
      ⟨_,0,bW,[],J,Nat.zero_le _,J,yF,yH,World.ownsRow_nil _ _ _ _,by simp [nY];unfold iG;rfl⟩,?_⟩
     intro m z d w3 hI;refine toPr ?_;obtain⟨j,I,vs,T,hj,rfl,D,q3,r,U⟩:=hI;have s3:=D.size;have l3:=bg q3;obtain⟨s,rc,rfl⟩:=gV r;by_cases hlt:j<args.length
     .have qO:j<di.length:=zo;obtain⟨sb,Jc,e1,e2,Q,e4⟩:=hs.at' qO;obtain⟨u,S,hu⟩:=eQ.at' j hlt hx;rw[S] at e4;simp only[Value.slice.injEq,true_and] at e1;obtain⟨rfl,rfl⟩:=e1;have j6:((j:Nat):Int).toNat=j:=zo;have W:=D.ext _ _ Q;refine dB T @W @e4 @j6 ?_;refine⟨fun w'=>w'.heap[w.heap.size]?=aO #[aT name,.slice s j rc] 180,q3,?_⟩;refine bH ?_;refine cQ (pq w.heap.size 1) (fun w' _=>eT) ?_;refine cQ (.slice s j rc) (fun w' hS=>fh hS) ?_;have Qn:iD args[j]<=N:=by
       have:∀ (l:List Ex) (j:Nat) (hj:j<l.length),iD l[j]<=fG l:=by
        intro l;induction l with
        | nil=>grind
        | cons a l ihl=>
         grind [fG]
       grind
      have X:Ext w w3.drew:=D.drew;have Nb:∀ {H:Nat->Prop} {y:Ex} {v':Y},eP H w v' y->eP H w3.drew v' y:=fun h=>eP.mono zg (by grind [bB.ext]) _ _ h;refine a1r (ih args[j] Qn (o8.at hlt) (Nb hu) (wX.mono (fun _ h=>h) fun b cs _ p=>X.ext _ _ p)) ?_;rintro e q ⟨gW,u4,rfl,Lh⟩;have s4:=gW.size;rw[Ca] at s4;have K:Ext w3 q:=yF;have q4:=K.ext _ _ q3;have l4:=bg q4;refine⟨q4,?_⟩;obtain⟨tu,xu,rfl⟩:=Lh.iface;refine bH ?_;have hX:Ext q (q.alloc (ae #[aj tu xu] 89)):=yF;refine⟨q4,?_⟩;have Ay:=jL (K.trans hX).ext r;refine Qm (base:=w.heap.size+1) Ay (sK J) J zo (by rw[size_alloc];omega) ?_;intro v' w5 IL yV yf;have s5:=yV.size;rw[size_alloc] at s5;have kp:∀ c o,q.heap[c]?=O o->O c≠(a1D s j rc).ownBlock->w5.heap[c]?=O o:=(by grind [size_alloc,bg,World.grownBy.block,bB.ext]);have lo:∀ k,(a1D s j rc).ownBlock=O k->w.heap.size+1<=k/\k<w3.heap.size:=fun k hk=>r.lt k hk;have q5:=kp _ _ q4 (fun e=>by have:=lo _ e.symm;omega);have l5:=bg q5;obtain⟨Qo,Qp,rfl⟩:=gV IL;refine⟨q5,?_⟩;refine dj @q5 T ?_;have mX:∀ c,c<q.heap.size->O c≠(a1D s j rc).ownBlock->O c≠(a1D Qo (j+1) Qp).ownBlock:=yH;refine⟨_,?_,j+1,.slice Qo (j+1) Qp,vs++[aj tu xu],zg,zo,J,?_,J,(by grind [J8]),?_⟩
      .omega
      .refine bB.bQ ?_ yH;exact((D.trans K).trans hX).grow yV yH
      .rw[aeW ids args j hlt];have k5:∀ c o,c≠w.heap.size->O c≠(a1D s j rc).ownBlock->q.heap[c]?=O o->(bQ w5 w.heap.size (ae #[aT name,.slice Qo (j+1) Qp] 180)).heap[c]?=O o:=yH;refine iG.snoc ?_ ?_
       .refine dI.mono (F:=Nu w3.drew q) (fun c E=>?_) zo zg (fun c cs t E _ ho=>?_) _ _ Lh
        .exact yH
        exact yH
       .refine iG.mono (fun c E=>?_) zo zg (fun c cs t E _ ho=>?_) _ _ U
        .exact yH
        .exact k5 c _ (by have:=E.1;omega) E.2.2 (K.ext _ _ ho)
     .have fp:j=args.length:=zo;subst fp;rw[List.take_length] at U;refine cJ T ?_;refine⟨D,?_⟩;refine⟨_,J,?_⟩;unfold dI;refine⟨_,_,vs,J,yH,q3,EZ r (fun b p=>⟨by have:=(r.lt b p).1;omega,(r.lt b p).2⟩),?_⟩;exact iG.mono yH zo zg (fun _ _ _ _ _ h=>h) _ _ U
open Go.Proofs.YtoegidfbnkaabaaGreatDoor.Sx
section
variable{p0 p1 p2 p3 p4 p5 p6 p7:Y}{w:Z}{R:Ending->Z->Prop}
def aKG:=cz w R [p0,p1] (gc [(2,[4,9])] [] [10]) func228
def aKH:=cz w R [p0,p1] (gd [] [] [] [(0,[16,0,1,2,3,4,5,6,7,9,8,10,11,12,13,14,15])] [] [] []) func226
def aKI:=cz w R [p0,p1,p2,p3,p4] (gd [(9,[64])] [(6003,[])] [(4,9)] [(11,[11,0,1,2,3,4,5,6,7,8,9,10,11])] [] [] [10,24,65,79,80]) func224
def aKJ:=cz w R [p0,p1,p2] (gd [] [(6001,[])] [(3,8)] [(4,[0,0,1,2,3,4,5,6,7,8,9,10,11,12]),(8,[21,0,1,2,3,4,5,6,7,9,10,11,12,13,14,8,15,16,17,18,19,20])] [] [] [6,23,32,46,81]) func227
def aKK:=cz w R [p0,p1] (gd [(13,[7])] [] [(4,12),(10,12),(21,19)] [(15,[25,0,1,2,3,4,5,6,7,8,9,10,11,12,13,14,15,16,17,18,19,20,21,22,23,24]),(17,[22,0,1,2,3,4,5,6,7,8,9,10,11,12,13,14,15,16,17,18,19,20,21]),(18,[24,0,1,2,3,4,5,6,7,8,9,10,11,12,13,14,15,16,17,18,19,20,21,22,23]),(20,[22,0,1,2,3,4,5,6,7,8,9,10,11,12,13,14,15,16,17,18,19,20,21]),(22,[21,0,1,2,3,4,5,6,7,8,9,10,11,12,13,14,15,16,17,18,19,20]),(26,[21,0,1,2,3,4,5,6,7,8,9,10,11,12,13,14,15,16,17,18,19,20])] [] [] [4,19,47,48,49,62,63,71,98,99,145,146,209,210]) func225
def aKL:=cz w R [p0] (gd [(2,[3])] [(11009,[])] [(7,7),(11,14)] [] [] [] [2,3,7,8,16,35,66,72,89]) func223
end
