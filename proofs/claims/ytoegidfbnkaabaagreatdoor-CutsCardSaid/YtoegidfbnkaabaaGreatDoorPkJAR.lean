/- A part of one proof (KS6, KS7, KS8, SlU, KS9, PW7, PW8, ShX2, KW1, KW2). -/
import Derived.Test.YtoegidfbnkaabaaGreatDoorPkJAQ
set_option linter.all false
set_option maxRecDepth 100000
set_option maxHeartbeats 8000000
open Option renaming some → O, none → V
open Go renaming Value → Y, World → Z
open Bool renaming true → A, false → G
open Go.Obj renaming cells → ae
open Go.Ending renaming returned → ah
open Go.Value renaming nilIface → ai, iface → aj, tuple → ak, pointer → aq
open Option.some renaming injEq → aZG
open Go.Calls renaming mono → aZJ
open Nat renaming le_refl → aZK, le_trans → aZL, strongRecOn → a1l
open List renaming drop_eq_getElem_cons → aZP, mem_cons → aZU, not_mem_nil → aZ2
open Go.Value renaming slice → aZT
open Go.Value.slice renaming injEq → aZZ
open Option renaming map_eq_some_iff → aZ7
open Go.Proofs.Tryz renaming prog → a9C
open Go.Proofs.Tryz
namespace Go.Proofs.YtoegidfbnkaabaaGreatDoor
open P
open Go.RowKit Sx
variable{D F:Nat->Prop}{K:Y->Prop}{X:Y->Z->Prop}{av o4 tv v vv:Y}{b base cap e f g j m mb n o pb so wb:Nat}{cs:Array Y}{t:Tm}{tr:Tr}{sX ρ:Nat->Nat}{vs xs:List Y}{w w' w1 w2:Z}{y:Operand}
section
variable{D:Nat->Prop}{ρ:Nat->Nat}{n sb so T:Nat}{cs:Array Y}
def aJm(hf:uZ so T cs):∀ (f:Nat) {tv v u:Y} {w:Z} {s:Sr} {a b:Tm} {r:Except jB (Bool×Sr)},gQ D ρ n sb so T cs tv w s->dM ρ n w u a->er a->dM ρ n w v b->er b ->
  s.fuel<=900000000->Cb f a b s=O r ->
  Calls a9C 218 #[pq sb so,u,v] w (EPost D w (wh D ρ n sb so T cs) r):=by
 intro f;induction f using a1l with
 | _ f ih=>
 intro tv v u w s a b r h ha IE hb Px hz hr;cases f with
 | zero=>simp [Cb] at hr
 | succ f=>
 rw[Cb] at hr;refine aIx ?_;refine(MU h hf zo).mono ?_;rintro e w1 ⟨L,z⟩;by_cases h0:s.fuel=0
 .rw[zip h0] at hr z;injection hr with hr;subst hr z;simp only[ends,PC];exact⟨L,J⟩
 rw[bZ h0] at hr z;obtain⟨rfl,z⟩:=z;have AD:=ha.bH L.toT;have iS:=hb.bH L.toT;have hdt:s.dec.tr=s.tr:=rfl;refine bE ?_;cases M:fG s.tr f a with
 | none=>rw[M] at hr;simp at hr
 | some a'=>
 cases R:fG s.tr f b with
 | none=>rw[M,R] at hr;cases a'<;>simp at hr
 | some F=>
 rw[M,R] at hr;refine aZJ (GB z.sv AD (f:=f) (by exact M)) ?_;rintro e w2 ⟨rfl,ua,rfl,H⟩;refine bE ?_;refine aZJ (GB z.sv iS (f:=f) (by exact R)) ?_;rintro e w3 ⟨rfl,ub,rfl,B⟩;have Xm:=vR h.ok IE M;have S9:=vR h.ok Px R;obtain⟨ut,ux,rfl⟩:=H.iface;obtain⟨vt,vx,rfl⟩:=B.iface;by_cases qd:A6 a'=A/\A6 F=A
 .obtain⟨i,C⟩:=qd;cases a' with
  | atom a=>cases i
  | int a=>cases i
  | var a=>cases i
  | comp name l=>
  cases F with
  | atom a=>cases C
  | int a=>cases C
  | var a=>cases C
  | comp S l'=>
  simp only at hr;obtain⟨ba,ava,vsa,M4,-,-⟩:=by unfold dM dI at H;exact H
  obtain⟨bb,avb,vsb,KA,-,-⟩:=by unfold dM dI at B;exact B
  injection M4 with e1 e2;injection KA with e3 e4;subst e1 e2 e3 e4;obtain⟨ao,cap,i,adN⟩:=E3 H;obtain⟨bo',aJl,C,adO⟩:=E3 B;refine du i C ?_;refine⟨fun x w'=>w'=w3,?_,?_⟩
  .refine⟨fun x w'=>w'=w3/\x 33 = .bool G,?_,?_⟩
   .exact eR
   .rintro x w' ⟨rfl,hx⟩ d;exact fa hx
  .rintro x w' rfl d;have Ta:=(bB.drew (bB.refl (fun _ _=>False) w')).block _ _ i (fun h=>h);have II:=(bB.drew (bB.refl (fun _ _=>False) w')).block _ _ C (fun h=>h);refine⟨fun x I=>Ext w' I/\name=S/\l.length=l'.length,?_,?_⟩
   .refine⟨fun x I=>Ext w' I/\x 58 = .bool (decide (¬ (name=S/\l.length=l'.length))),?_,?_⟩
    .by_cases hn:name=S
     .subst hn;refine du Ta II ?_;grind [bB.refl,Int.ofNat_inj,bB.drew]
     .refine du Ta II ?_;exact yF
    .rintro x I ⟨K,hx⟩ d2;by_cases xn:name=S/\l.length=l'.length
     .refine dH hx xn @not_true_eq_false @decide_false ?_;exact yF
     .rw[bZ xn] at hr;injection hr with hr;refine dH hx xn @not_false_eq_true @decide_true ?_;rw[<- hr];exact⟨yF,J,_,z.ext K⟩
   .rintro x I ⟨K,rfl,tS⟩ d2;rw[zip ⟨J,tS⟩] at hr;have adP:=K.ext _ _ i;refine cH adP ?_;unfold er at Xm S9;refine⟨fun m x E=>∃ j N E7,x 64=zi (j:Nat)/\j<=l.length/\m=l.length-j/\gQ D ρ n sb so T cs E7 E N/\dc D I E/\N.fuel<=900000000/\(∃ g,g<=f/\A5 g (l.drop j) (l'.drop j) N=O r),
     ⟨_,0,_,_,J,Nat.zero_le _,J,z.ext K,yF,by grind [Sr.dec],f,aZK _,hr⟩,?_⟩
    intro m x d E hI;refine toPr ?_;obtain⟨j,N,E7,hx,hj,rfl,h4,gW,AM,g,hg,o⟩:=hI;have GG:dc D w E:=L.trans ((dc.dZ K).trans gW);cases g with
    | zero=>simp [A5] at o
    | succ g=>
    by_cases hlt:j<l.length
    .have ql:j<l'.length:=zo;rw[aZP hlt,aZP ql,A5] at o;obtain⟨ab,S5,v3,rfl,mM,ID,DT⟩:=adN j hlt;obtain⟨Kx,cs4,v4,rfl,adQ,adR,vf⟩:=adO j ql;have Tb:dc D w' E:=(dc.dZ K).trans gW;have si:dc D w' E.drew:=yF;have kt:∀ (b:Nat) (c:Array Y) (U:Nat),¬ kT U->w'.heap[b]?=aM c U->E.drew.heap[b]?=aM c U:=(by grind [dc.bH]);have q1:=kt _ _ _ (by grind [kT]) i;have q2:=kt _ _ _ (by grind [kT]) C;have q3:=kt _ _ _ (by grind [kT]) mM;have q4:=kt _ _ _ (by grind [kT]) adQ;have ej:((j:Nat):Int).toNat=j:=zo;refine dH hx @ej @q1 (zA @q2 (zA @q3 (zA @q4 (zA ID adR)))) ?_;cases W:Cb g l[j] l'[j] N with
     | none=>rw[W] at o;cases o
     | some r1=>
     have KB:dc D E E.drew:=dc.dZ (bB.drew yF);refine aZJ (ih g zo (h4.ext (bB.drew yF)) (DT.bH si.toT) (by grind [IB]) (vf.bH si.toT) (by grind [IB]) AM W) ?_;rintro e w5 ⟨ud,X⟩;rw[W] at o;cases r1 with
     | error t=>
      cases o;have X:e=gR t:=X;subst X;cases t<;>exact⟨GG.trans yF,J⟩
     | ok p=>
      obtain⟨b1,s5⟩:=p;obtain⟨rfl,tv5,h5⟩:=X;simp only[P.Out.ee] at o;have Xp:=((SE g).tm W).2;cases b1 with
      | false=>
       cases o;refine bE ?_;exact⟨GG.trans yF,J,_,h5⟩
      | true=>
       refine cH hx ?_;exact⟨_,zo,j+1,s5,tv5,zs,zo,J,h5,gW.trans yF,zg,g,zo,zg⟩
    .have DQ:j=l.length:=zo;subst DQ;rw[List.drop_length,tS,List.drop_length,A5] at o
     .cases o;refine cH hx ?_;exact⟨GG,J,_,h4⟩
     grind
 .have hr:r = .ok (P.flat a' F,s.dec):=by
   cases a' with
   | comp x k=>cases F with
    | comp y l=>exact absurd ⟨J,J⟩ qd
    | _=>exact zg
   | _=>exact zg
  subst hr;have kK:∀ {x y:Operand},RD a9C (bo .eql 89 x y (aj ut ux) (aj vt vx)) w3 (fun v=>EPost D w (wh D ρ n sb so T cs) (.ok (P.flat a' F,s.dec)) (ah v) w3) (PX (EPost D w (wh D ρ n sb so T cs) (.ok (P.flat a' F,s.dec)))):=fun{x y}=>by
   rw[adK z.sv H B qd];exact⟨L,J,_,z⟩
  have Q:∀ {u:Nat} {x:Y} {t:Tm},dM ρ n w3 (aj u x) t->A6 t=G->¬ u=175:=fun{u x t} h hc=>by
   cases t with
   | atom a=>unfold dM dI at h;grind
   | int a=>unfold dM dI at h;grind
   | var a=>unfold dM dI at h;grind
   | comp a l=>cases hc
  by_cases i:A6 a'=A
  .have C:A6 F=false:=by
    grind
   have IJ:=Q B C;cases a' with
   | atom a=>cases i
   | int a=>cases i
   | var a=>cases i
   | comp name l=>
   obtain⟨ba,ava,vsa,M4,-,-⟩:=by unfold dM dI at H;exact H
   cases M4;refine cH IJ ?_;refine⟨fun _ _=>False,?_,by rintro _ _ h;exact h.elim⟩;refine⟨fun x w'=>w'=w3/\x 33 = .bool A,?_,?_⟩
   .exact eR
   .rintro x w' ⟨rfl,hx⟩ d;refine cH hx ?_;exact kK
  .have i:A6 a'=false:=zg;have Tc:=Q H i;by_cases IJ:vt=175
   .subst IJ;obtain⟨q,o⟩:∃ q,vx = .pointer q:=by
     cases F with
     | atom a=>unfold dM dI at B;grind
     | int a=>unfold dM dI at B;grind
     | var a=>unfold dM dI at B;grind
     | comp a l=>unfold dM dI at B;grind
    subst o;refine cH Tc ?_;refine⟨fun _ _=>False,?_,by rintro _ _ h;exact h.elim⟩;refine⟨fun x w'=>w'=w3/\x 33 = .bool A,?_,?_⟩
    .exact eR
    .rintro x w' ⟨rfl,hx⟩ d;refine cH hx ?_;exact kK
   .refine du Tc IJ ?_;refine⟨fun _ _=>False,?_,by rintro _ _ h;exact h.elim⟩;refine⟨fun x w'=>w'=w3/\x 33 = .bool A,?_,?_⟩
    .exact eR
    .rintro x w' ⟨rfl,hx⟩ d;refine cH hx ?_;exact kK
end
def Td(z:Int):IntKind.i64.wrap z=P.wrap64 z:=by
 grind [IntKind.wrap,IntKind.bits,IntKind.signed,P.wrap64]
def aJn(a b:Bool)(w:Z):(Op.equalIn Op.maxDepth 4 (.bool a) (.bool b)).run a9C w = .ok (a == b) w:=by
 cases a<;>cases b<;>kernel_rfl
def aJo{x:Operand}(a b:Bool):RD a9C (bo .neq 4 x y (.bool a) (.bool b)) w K X=K (.bool (decide (a≠b))):=
 gU (by
  simp [bo,eqGuard,binOp,Op.equal,Sem.run_bind,aJn];grind)
def aJp(name:Bs)(a b:Int)(w:Z):Calls a9C 222 #[.string (bs name),zi a,zi b] w fun e w'=>Ext w w'/\e=(match P.reckon name a b with | .ok z=>ah (zi z) | .error t=>gR t):=by
 refine aIy ?_;unfold P.reckon;by_cases i:name=[43]
 .subst i;refine bE ?_;rw[Td];exact yF
 rw[bZ i];by_cases j:name=[45]
 .subst j;refine bE ?_;rw[Td];exact yF
 rw[bZ j];by_cases k:name=[42]
 .subst k;refine bE ?_;rw[Td];exact yF
 rw[bZ k];refine iZ i j k ?_;by_cases c:b=0
 .rw[zip c];refine⟨fun _ _=>False,?_,by rintro _ _ h;exact h.elim⟩;refine cH c ?_;exact⟨yF,J⟩
 rw[bZ c];refine⟨fun _ w'=>w'=w,?_,?_⟩
 .exact fa c
 .rintro s w' rfl d;by_cases l:name=[47,47]
  .subst l;refine bE ?_;rw[aaO _ _ _ c,Td];exact yF
  rw[bZ l];refine cH l ?_;rw[VE _ _ _ c];obtain⟨m,hm⟩:=cd (a.tmod b);rw[<- hm];refine⟨fun s w1=>w1=w'/\s 7=zi (if m≠0/\(decide (m<0)≠decide (b<0)) then P.wrap64 (m+b) else m),?_,?_⟩
  .refine⟨fun s w1=>w1=w'/\s 43 = .bool (decide (m≠0/\(decide (m<0)≠decide (b<0)))),?_,?_⟩
   .by_cases n:m=0
    .refine cH n ?_;simp
    .refine cH n ?_;rw[aJo];grind [jd]
   .rintro s w1 ⟨rfl,f⟩ d;by_cases g:m≠0/\(decide (m<0)≠decide (b<0))
    .rw[zip g];rw[decide_eq_true g] at f;exact lP f @Td
    .rw[bZ g];rw[decide_eq_false g] at f;exact fa f
  exact yF
section
variable{D:Nat->Prop}{ρ:Nat->Nat}{n sb so T:Nat}{cs:Array Y}
abbrev StN(D:Nat->Prop)(ρ:Nat->Nat)(n sb so T:Nat)(cs:Array Y)(p:Int×Sr)(e:Ending)(w':Z):Prop:=
 e = ah (zi p.1)/\∃ tv,gQ D ρ n sb so T cs tv w' p.2
def adT(X:uZ so T cs):∀ (f:Nat) {tv v:Y} {w:Z} {s:Sr} {t:Tm} {r:Except jB (Int×Sr)},gQ D ρ n sb so T cs tv w s->dM ρ n w v t->er t->s.fuel<=1000000000->tR f t s=O r ->
  Calls a9C 219 #[pq sb so,v] w (EPost D w (StN D ρ n sb so T cs) r):=by
 intro f;induction f using a1l with
 | _ f ih=>
 intro tv v w s t r h hv dx E hr;cases f with
 | zero=>simp [tR] at hr
 | succ f=>
 rw[tR] at hr;refine aIz ?_;refine(MU h X E).mono ?_;rintro e w1 ⟨k,d⟩;by_cases K:s.fuel=0
 .rw[zip K] at hr d;injection hr with hr;subst hr d;simp only[ends,PC];exact⟨k,J⟩
 rw[bZ K] at hr d;obtain⟨rfl,d⟩:=d;have kz:=hv.bH k.toT;refine bE ?_;cases hw:fG s.tr f t with
 | none=>rw[hw] at hr;cases hr
 | some t'=>
 rw[hw] at hr;refine aZJ (GB d.sv kz (f:=f) (by exact hw)) ?_;rintro e w2 ⟨rfl,u,rfl,hu⟩;have L:=vR h.ok dx hw;cases t' with
 | atom a=>
  unfold dI at hu;subst hu;cases hr;refine bE ?_;exact⟨k,J⟩
 | int a=>
  unfold dI at hu;subst hu;cases hr;refine bE ?_;exact⟨k,J,_,d⟩
 | var j=>
  unfold dI at hu;obtain⟨hj,rfl⟩:=hu;cases hr;refine bE ?_;exact⟨k,J⟩
 | comp name args=>
  obtain⟨b,av,vs,rfl,-,-⟩:=by unfold dI at hu;exact hu
  obtain⟨ao,cap,gS,M⟩:=E3 hu;unfold er at L;have II:=(bB.drew (bB.refl (fun _ _=>False) w2)).block _ _ gS (fun h=>h);refine cH II ?_;refine aZJ (ana name args.length w2.drew) ?_;rintro e w3 ⟨rfl,rfl⟩;refine bE ?_;have oz:dc D w w2.drew:=yF;have fc:kP name args.length≠0->args.length=2:=fun h=>by
   unfold kP at h;grind
  by_cases o:kP name args.length=0
  .have hr:r = .error (.fault 8):=by
    grind
   subst hr;have g:¬ (0:Int)<((kP name args.length:Nat):Int):=zo;refine cH g ?_;exact⟨oz,J⟩
  .obtain⟨x,y,rfl⟩:∃ x y,args=[x,y]:=by
    have:=fc o
    match args,this with
    | [x,y],_=>grind
   have o:kP name 2≠0:=o;simp only[zip o] at hr;have g:(0:Int)<((kP name [x,y].length:Nat):Int):=by
    omega
   refine cH g ?_;obtain⟨ab,yN,v0,rfl,mM,M5,O8⟩:=M 0 zs;obtain⟨Kx,yO,v1,N,l,Te,F⟩:=M 1 zs;have N:ab=Kx:=zg;subst N;rw[mM] at l;cases l;have Q:Ext w2 w2.drew.drew:=yF;have H:∀ {w':Z},dc D w2 w'->w'.heap[b]?=aM #[aT name,.slice (O ⟨ab,0,V⟩) [x,y].length cap] 180:=(by grind [kT,dc.bH]);have R:∀ {w':Z},dc D w2 w'->w'.heap[ab]?=aM yN 89:=(by grind [kT,dc.bH]);refine⟨fun w'=>dc D w2 w',yF,?_⟩;refine toPr ?_;refine bE ?_;refine cO (pp b) (fun w' c=>eR) ?_;refine cO (aT name) (fun w' c=>by have:=H c;exact fa @this) ?_;refine bE ?_;refine cO (pq b 1) (fun w' c=>eR) ?_;refine cO (.slice (O ⟨ab,0,V⟩) [x,y].length cap) (fun w' c=>by have:=H c;exact fa @this) ?_;refine cO (pp ab) (fun w' c=>eR) ?_;refine cO v0 (fun w' c=>by have:=R c;exact lP @this M5) ?_;refine bE ?_;refine cO (pq b 1) (fun w' c=>eR) ?_;refine cO (.slice (O ⟨ab,0,V⟩) [x,y].length cap) (fun w' c=>by have:=H c;exact fa @this) ?_;refine cO (pq ab 1) (fun w' c=>eR) ?_;refine cO v1 (fun w' c=>by have:=R c;exact lP @this Te) ?_;have si:dc D w w2.drew.drew:=yF;have i:=MF L.2.2;cases p:tR f x s.dec with
   | none=>rw[p] at hr;cases hr
   | some r1=>
   rw[p] at hr;refine aZJ (ih f zo (d.ext Q) (O8.bH (qL.dZ Q)) i.1 (aZL (Nat.sub_le _ _) E) p) ?_;rintro e w5 ⟨ud,q⟩;cases r1 with
   | error t=>
    cases hr;have q:e=gR t:=q;subst q;cases t<;>exact fun _=>⟨yF,J⟩
   | ok p1=>
   obtain⟨S,s1⟩:=p1;obtain⟨rfl,Kz,g1⟩:=q;obtain⟨t1,t2,t3⟩:=Dv f (s:=s.dec) h.ok i.1 p;have U:dc D w2 w5:=yF;refine⟨U,?_⟩;simp only[P.Out.ee] at hr;cases I:tR f y s1 with
   | none=>rw[I] at hr;cases hr
   | some r2=>
   rw[I] at hr;have dX:s1.fuel<=1000000000:=aZL t2 (aZL (Nat.sub_le _ _) E);refine aZJ (ih f zo g1 (F.bH U.toT) i.2 dX I) ?_;rintro e w6 ⟨j5,B⟩;cases r2 with
   | error t=>
    cases hr;have B:e=gR t:=B;subst B;cases t<;>exact fun _=>⟨yF,J⟩
   | ok p2=>
   obtain⟨z2,s2⟩:=p2;obtain⟨rfl,xF,g2⟩:=B;refine⟨yF,?_⟩;simp only[P.Out.ee] at hr;refine aZJ (aJp name S z2 w6) ?_;rintro e w7 ⟨BX,C⟩;have m:dc D w w7:=yF;cases W:P.reckon name S z2 with
   | error t=>
    rw[W] at hr C;injection hr with hr;subst hr C;cases t<;>exact fun _=>⟨m,J⟩
   | ok z=>
    rw[W] at hr C;injection hr with hr;subst hr C;exact⟨m,J,_,g2.ext BX⟩
end
def fK.at'{a:TypeId}(h:fK F w a v vs)(c:j<vs.length):∃ b cs,v = cR b vs.length cs.size/\F b/\w.heap[b]?=aM cs a/\cs[j]?=vs[j]?:=by
 rcases h with⟨rfl,rfl⟩| ⟨b,cs,rfl,g1,g2,g3,g4⟩<;>grind
theorem fK.sl{d:TypeId}(h:fK F w d v vs):∃ a c,v = .slice a vs.length c:=by
 rcases h with⟨rfl,rfl⟩| ⟨b,cs,rfl,g1,g2,g3,g4⟩
 .exact⟨_,_,J⟩
 grind
section
variable{D:Nat->Prop}{ρ:Nat->Nat}{n sb so T:Nat}{cs:Array Y}
def aJs(name:Bs)(h:dM ρ n w v t):Calls a9C 220 #[aT name,v] w fun e w'=>e = ah (.bool (O0 name t))/\w'=w:=by
 refine aIA ?_;cases t with
 | atom a=>
  unfold dM dI at h;subst h;unfold O0;by_cases b:name=[110,111,110,118,97,114]
  .refine cH b ?_;simp
  .refine cH b ?_;grind
 | int a=>
  unfold dM dI at h;subst h;unfold O0;by_cases b:name=[110,111,110,118,97,114]
  .refine cH b ?_;simp
  .refine cH b ?_;grind
 | var i=>
  unfold dM dI at h;obtain⟨-,rfl⟩:=h;unfold O0;refine bE ?_;grind
 | comp a l=>
  unfold dM dI at h;obtain⟨_,_,_,rfl,-⟩:=h;unfold O0;refine bE ?_;grind
def adW{args:List Tm}(c:fK (fun _=>True) w 89 av vs)(ht:py ρ n w vs args)(d:j<args.length) :
  ∃ ab cap a v,av = cR ab args.length cap/\w.heap[ab]?=aM a 89/\a[j]?=O v/\dM ρ n w v args[j]:=by
 have e:=ht.length;obtain⟨v,f,g⟩:=ht.at j d;obtain⟨b,a,h,-,i,k⟩:=c.at' (j:=j) zo;exact⟨b,a.size,a,v,by rw[h,e],i,by rw[k];exact f,g⟩
def anA(o:uZ so T cs){s:Sr}{name:Bs}{args:List Tm}{r:Except jB (Bool×Sr)}(h:gQ D ρ n sb so T cs tv w s)(hD:∀ b,w.heap.size<=b->D b)
  (ha:fK (fun _=>True) w 89 av vs) (ht:py ρ n w vs args) (dx:jr args) (Q:jG name=args.length) (hz:s.cU<=900000000) (hr:xx f name args s=O r) :
  Calls a9C 213 #[pq sb so,aT name,av] w (EPost D w (wh D ρ n sb so T cs) r):=by
 have JF:s.tr.length+s.fuel<=900000000:=hz;have c:Ext w w.drew:=yF;have I:∀ b,w.drew.heap.size<=b->D b:=hD;have two:args.length=2->∃ ab cap q v0 v1,av = cR ab 2 cap/\w.heap[ab]?=aM q 89/\q[0]?=O v0/\q[1]?=O v1 /\
   dM ρ n w v0 (args.getD 0 default)/\dM ρ n w v1 (args.getD 1 default)/\er (args.getD 0 default)/\er (args.getD 1 default):=fun hl=>by
  obtain⟨x,y,rfl⟩:∃ x y,args=[x,y]:=match args,hl with
   | [x,y],_=>zg
  obtain⟨ab,cap,yN,v0,e0,g0,i,t0⟩:=adW ha ht (j:=0) zo;obtain⟨Kx,qZ,yO,v1,e1,g1,k,t1⟩:=adW ha ht (j:=1) zo;rw[e0] at e1;simp only[aZZ,aZG,Addr.mk.injEq,and_true,true_and] at e1;obtain⟨rfl,rfl⟩:=e1;grind [MF]
 refine aIB ?_;unfold xx at hr;by_cases R:name=[116,114,117,101]
 .subst R;rw[zip rfl] at hr;cases hr;refine⟨fun _ _=>False,?_,by rintro _ _ h;exact h.elim⟩;refine bE ?_;exact⟨yF,J,_,h⟩
 rw[bZ R] at hr;by_cases S:name=[61]
 .subst S;rw[zip rfl] at hr;obtain⟨ab,cap,q,v0,v1,rfl,g0,i,k,t0,t1,l,o1⟩:=two (by have:(2:Int)=args.length:=Q;omega);have E:=c.ext _ _ g0;refine⟨fun _ _=>False,?_,by rintro _ _ h;exact h.elim⟩;refine iZ @E @i @k ?_;refine aZJ (Pw o f (h.ext c) I (t0.bH (qL.dZ c)) l (t1.bH (qL.dZ c)) o1 hz hr) ?_;exact fun e w4 a=>(a.of yF).SW
 rw[bZ S] at hr;by_cases U:name=[92,61]
 .subst U;rw[zip rfl] at hr;obtain⟨ab,cap,q,v0,v1,rfl,g0,i,k,t0,t1,l,o1⟩:=two (by have:(2:Int)=args.length:=Q;omega);refine⟨fun _ _=>False,?_,by rintro _ _ h;exact h.elim⟩;refine bE ?_;refine aZJ (SY h o) ?_;rintro e w1 ⟨rfl,rfl⟩;have c:Ext w1 w1.drew:=yF;have E:=c.ext _ _ g0;refine dH @E @g0 @i @k ?_;cases g:lz f (args.getD 0 default) (args.getD 1 default) s with
  | none=>rw[g] at hr;cases hr
  | some K=>
  rw[g] at hr;refine aZJ (Pw o f (h.ext c) I (t0.bH (qL.dZ c)) l (t1.bH (qL.dZ c)) o1 hz g) ?_;rintro e w2 ⟨L,a⟩;cases K with
  | error t=>
   cases hr;have a:e=gR t:=a;subst a;cases t<;>exact⟨(dc.dZ c).trans L,J⟩
  | ok p=>
   obtain⟨b1,s1⟩:=p;obtain⟨rfl,Kz,F⟩:=a;cases hr;have hsu:=(MH f).tm g;have Xp:=((EN f).tm g).1;have aU0:s1.tr.length+s1.fuel<=s.tr.length+s.fuel:=Xp;refine bE ?_;refine aZJ (adw F o hsu.length_le zg) ?_;rintro e w3 ⟨rfl,eD,tv3,h3⟩;refine bE ?_;exact⟨(dc.dZ c).trans yF,J,_,h3⟩
 rw[bZ U] at hr;by_cases W:name=[61,61]
 .subst W;rw[zip rfl] at hr;obtain⟨ab,cap,q,v0,v1,rfl,g0,i,k,t0,t1,l,o1⟩:=two (by have:(2:Int)=args.length:=Q;omega);have E:=c.ext _ _ g0;refine⟨fun _ _=>False,?_,by rintro _ _ h;exact h.elim⟩;refine iZ @E @i @k ?_;refine aZJ (aJm o f (h.ext c) (t0.bH (qL.dZ c)) l (t1.bH (qL.dZ c)) o1 zo hr) ?_;exact fun e w4 a=>(a.of yF).SW
 rw[bZ W] at hr;by_cases X:name=[105,115]
 .subst X;rw[zip rfl] at hr;obtain⟨ab,cap,q,v0,v1,rfl,g0,i,k,t0,t1,l,o1⟩:=two (by have:(2:Int)=args.length:=Q;omega);have E:=c.ext _ _ g0;refine⟨fun _ _=>False,?_,by rintro _ _ h;exact h.elim⟩;refine bE ?_;refine⟨fun w'=>dc D w w',yF,?_⟩;refine toPr ?_;refine cO (pp ab) (fun w' B=>eR) ?_;refine cO v0 (fun w' B=>by have:=dc.bH B (by unfold kT;decide) g0;exact lP @this @i) ?_;refine du @E @k ?_;cases g:tR f (args.getD 1 default) s with
  | none=>rw[g] at hr;cases hr
  | some K=>
  rw[g] at hr;refine aZJ (adT o f (h.ext c) (t1.bH (qL.dZ c)) o1 zo g) ?_;rintro e w2 ⟨L,a⟩;have m:dc D w w2:=(dc.dZ c).trans L;cases K with
  | error t=>
   cases hr;have a:e=gR t:=a;subst a;cases t<;>exact fun _=>⟨m,J⟩
  | ok p=>
   obtain⟨z,s1⟩:=p;obtain⟨rfl,Kz,F⟩:=a;obtain⟨q1,q2,q3⟩:=Dv f h.ok o1 g;simp only[P.Out.ee] at hr;refine⟨m,?_⟩;refine bE ?_;refine⟨m,?_⟩;have hzi:dM ρ n w2 (aj 172 (zi z)) (.int z):=by unfold dM dI;rfl
   refine aZJ (Pw o f F (fun b hb=>hD b (aZL m.size hb)) (t0.bH m.toT) l hzi (by unfold er;exact q3) (show s1.tr.length+s1.fuel<=900000000 by grind) hr) ?_;exact fun e w4 a=>(a.of m).aIF
 rw[bZ X] at hr;by_cases C:name∈[[118,97,114],[110,111,110,118,97,114],[97,116,111,109],[105,110,116,101,103,101,114]]
 .rw[zip C] at hr;have AZ:args.length=1:=by
   have:jG name=1:=by
    simp only[aZU,aZ2,or_false] at C;rcases C with rfl | rfl | rfl | rfl<;>decide
   omega
  obtain⟨x,rfl⟩:∃ x,args=[x]:=match args,AZ with
   | [x],_=>⟨x,J⟩
  obtain⟨ab,cap,yN,v0,rfl,g0,i,t0⟩:=adW ha ht (j:=0) zs;have t0:dM ρ n w v0 x:=t0;refine⟨fun _ _=>False,?_,by rintro _ _ h;exact h.elim⟩;cases hw:fG s.tr f x with
  | none=>rw[show([x].getD 0 default)=x from J,hw] at hr;cases hr
  | some t'=>
  rw[show([x].getD 0 default)=x from J,hw] at hr;injection hr with hr;simp only[aZU,aZ2,or_false] at C;refine dH @R @S @U (zA @W @X) ?_;refine⟨fun s w'=>w'=w/\s 64 = .bool A,?_,?_⟩
  .rcases C with rfl | rfl | rfl | rfl<;>simp (disch:=first|assumption|omega|simp only[zS]<;>omega|decide) only[zB,simprocAttr,kJ]<;>simp
  .rintro s' w' ⟨rfl,M⟩ d;rw[M];refine du @g0 @i ?_;refine aZJ (GB h.sv t0 hw) ?_;rintro e w2 ⟨rfl,u,rfl,hu⟩;refine bE ?_;refine aZJ (aJs name hu) ?_;rintro e w3 ⟨rfl,rfl⟩;rw[<- hr];exact⟨yF,J,_,h⟩
 rw[bZ C] at hr;by_cases n7:name=[102,97,105,108]
 .subst n7;rw[zip rfl] at hr;cases hr;refine⟨fun _ _=>False,?_,by rintro _ _ h;exact h.elim⟩;refine bE ?_;refine⟨fun s w'=>w'=w/\s 64 = .bool G,?_,?_⟩
  .simp (disch:=first|assumption|omega|simp only[zS]<;>omega|decide) only[zB,simprocAttr,kJ,jd];simp
  .rintro s w' ⟨rfl,M⟩ d;refine cH M ?_;exact⟨yF,J,_,h⟩
 rw[bZ n7] at hr;simp only[aZU,aZ2,or_false,not_or] at C;obtain⟨m1,m2,m3,m4⟩:=C;have pY:args.length=2:=by
  have F:jG name=if name∈[[61],[92,61],[61,61],[105,115],[60],[62],[61,60],[62,61],[61,58,61]] then 2 else -1:=by
   unfold jG;grind
  omega
 obtain⟨ab,cap,q,v0,v1,rfl,g0,i,k,t0,t1,l,o1⟩:=two pY;refine⟨fun _ w'=>w'=w,?_,?_⟩
 .refine dH @R @S @U (zA @W @X) ?_;refine⟨fun s w'=>w'=w/\s 64 = .bool G,?_,?_⟩
  .exact AK @m1 @m2 @m3 @m4
  .rintro s w' ⟨rfl,M⟩ d;exact lP M @n7
 rintro s' w' rfl d;have c:Ext w' w'.drew:=yF;refine⟨fun w2=>dc D w' w2,yF,?_⟩;refine toPr ?_;refine cO (pp ab) (fun w2 B=>eR) ?_;refine cO v0 (fun w2 B=>by have:=dc.bH B (by unfold kT;decide) g0;exact lP @this @i) ?_;refine cO (pq ab 1) (fun w2 B=>eR) ?_;refine cO v1 (fun w2 B=>by have:=dc.bH B (by unfold kT;decide) g0;exact lP @this @k) ?_;cases g:tR f (args.getD 0 default) s with
 | none=>rw[g] at hr;cases hr
 | some K=>
 rw[g] at hr;refine aZJ (adT o f (h.ext c) (t0.bH (qL.dZ c)) l zo g) ?_;rintro e w2 ⟨L,a⟩;have m:dc D w' w2:=(dc.dZ c).trans L;cases K with
 | error t=>
  cases hr;have a:e=gR t:=a;subst a;cases t<;>exact fun _=>⟨m,J⟩
 | ok p=>
 obtain⟨z,s1⟩:=p;obtain⟨rfl,Kz,F⟩:=a;obtain⟨q1,q2,q3⟩:=Dv f h.ok l g;have q2:s1.fuel<=s.fuel:=q2;simp only[P.Out.ee] at hr;refine⟨m,?_⟩;cases iF:tR f (args.getD 1 default) s1 with
 | none=>rw[iF] at hr;cases hr
 | some r2=>
 rw[iF] at hr;refine aZJ (adT o f F (t1.bH m.toT) o1 zo iF) ?_;rintro e w3 ⟨eD,a⟩;have H:dc D w' w3:=yF;cases r2 with
 | error t=>
  cases hr;have a:e=gR t:=a;subst a;cases t<;>exact fun _=>⟨H,J⟩
 | ok p=>
 obtain⟨z2,s2⟩:=p;obtain⟨rfl,xF,N⟩:=a;cases hr;unfold alN;by_cases c1:name=[60]
 .refine cH @c1 ?_;exact⟨H,J,_,N⟩
 by_cases c2:name=[62]
 .refine cH @c2 ?_;exact⟨H,J,_,N⟩
 by_cases c3:name=[61,60]
 .refine cH @c3 ?_;exact⟨H,J,_,N⟩
 by_cases c4:name=[62,61]
 .refine cH @c4 ?_;exact⟨H,J,_,N⟩
 refine dH @c1 @c2 @c3 @c4 ?_;exact⟨H,zg,_,N⟩
end
def adY{name:Bs}{x0 f:Tm}(h:dM ρ n w (aj 175 (pp b)) (.comp name [x0,f])) :
  ∃ ab cap a c d,w.heap[b]?=aM #[aT name,cR ab 2 cap] 180/\w.heap[ab]?=aM a 89/\a[0]?=O c/\a[1]?=O d/\dM ρ n w c x0/\dM ρ n w d f:=by
 obtain⟨i,cap,j,g⟩:=E3 h;obtain⟨ab,a,c,rfl,k,l,m⟩:=g 0 zs;obtain⟨o,p,d,e,q,r,s⟩:=g 1 zs;exact yH
def aJw(ih:∀ g,g<=f->CW g){T:Nat}{s:Ws}{name:Bs}{x y:Tm}{r:Option Ws}(hx:xD tr wb pb so T cs)(hs:GC ρ n tr wb pb so T cs w s)
  (hu:dM ρ n w (aj 175 (pp b)) (.comp name [x,y])) (dx:er (.comp name [x,y]))
  (hB:s.cU<=900000100-60) (Am:s.seen.length<=s.out.length) (hr:yy tr (f+1) 91 x y s=O r) :
  Calls a9C 96 #[pp wb,pp b] w (Ba ρ n tr wb pb so T cs w (s.cU+30) r):=by
 obtain⟨nm,h⟩:=hs;refine aIn ?_;refine⟨fun m z w'=>∃ P k DR sep Cp B p,z 1=pp P/\z 4 = .int .u8 (sep:UInt8).toNat/\lI ρ n tr wb pb so T cs DR w' k/\mD wb pb w w' /\
  dM ρ n w' (aj 175 (pp P)) (.comp Cp [B,p])/\er (.comp Cp [B,p])/\m<=f+1/\yy tr m sep B p k=O r/\k.cU<=s.cU/\k.seen.length<=k.out.length,
  ⟨f+1,b,s,nm,91,name,x,y,J,J,h,bB.refl _ _,hu,dx,aZK _,hr,aZK _,Am⟩,?_⟩
 intro m z d w3 hI;refine toPr ?_;obtain⟨P,k,DR,sep,Cp,B,p,q,AM,h3,dU,M0,aJx,hm,j,ans,Kv⟩:=hI;have ant:k.cU=k.out.length+60*k.fuel:=rfl;obtain⟨ad3,aIX,aIY,eK,Mb⟩:=id h3.bu;have C:=aJx;unfold er at C;obtain⟨oH,IF⟩:=MF C.2.2;cases m with
 | zero=>simp [yy] at j
 | succ g=>
 rw[yy] at j;refine du q AM ?_;refine(MT h3 hx sep zo J).mono ?_;rintro e w4 ⟨⟨v4,rfl⟩,h4,eo⟩;have Xj:=dU.trans eo;have KE:=M0.bH (h3.kv hx eo).toT;obtain⟨ab,cap,yN,u0,u1,D,E,k3,Q,k5,R⟩:=adY KE;refine dH q @D @E @k3 ?_;have adF:(k.add [sep]).cU=k.cU+1:=Ws.oM ..;cases F:lE tr g B 0 (k.add [sep]) with
 | none=>simp [F,Wb] at j
 | some r1=>
 refine aZJ ((ih g zo).tm (least:=0) hx ⟨_,h4⟩ k5 oH zo (ow Kv) F) ?_;rintro e w5 mP;have mQ:=mP.of (B':=s.cU+30) Xj zo;cases r1 with
 | none=>
  simp only[F,Wb,aZG] at j;subst j;obtain⟨g1,rfl,g2⟩:=mQ;exact⟨g1,J,g2⟩
 | some o=>
  obtain⟨iP,rfl,M3,t⟩:=mQ;obtain⟨l1,l2⟩:=(J8 hx.tok g).tm _ _ _ _ oH zo (ow Kv) F;simp only[F,Wb] at j;have Xq:mD wb pb w4 w5:=mP.1;have Xs:=KE.bH (h4.kv hx Xq).toT;obtain⟨ab,cap,yN,u0,u1,D,E,k3,Q,k5,R⟩:=adY Xs;obtain⟨ad5,aU2,aU3,Th,aU4⟩:=id t.bu;have aJa:o.cU=o.out.length+60*o.fuel:=rfl;refine bE ?_;refine⟨fun H w'=>H 1=pp P/\w'=w5/\Wb (lE tr g p 0 (o.add [124])) (fun s=>O (O (s.add [93])))=O r,?_,?_⟩
  .refine dH q @D @E @Q ?_;cases hw:fG tr g p with
   | none=>simp [hw] at j
   | some t'=>
   rw[hw] at j;refine aZJ (GB t.st R hw) ?_;rintro e w6 ⟨rfl,u,rfl,l⟩;have aJy:=vR hx.tok IF hw;cases t' with
   | atom a=>
    unfold dI at l;subst l;refine bE ?_;dsimp only at j;by_cases S:a=[91,93]
    .rw[zip S] at j;refine cH S ?_;refine(MT t hx 93 zo J).mono ?_;rintro e w7 ⟨⟨v7,rfl⟩,h7,U⟩;cases j;exact⟨iP.trans U,J,_,h7⟩
    .rw[bZ S] at j;refine cH S ?_;exact⟨q,j⟩
   | int a=>
    unfold dI at l;subst l;refine bE ?_;exact⟨q,j⟩
   | var i=>
    unfold dI at l;obtain⟨hi,rfl⟩:=l;refine bE ?_;exact⟨q,j⟩
   | comp I W=>
    have K:=l;unfold dI at l;obtain⟨b2,ue,Sv,rfl,-⟩:=l;obtain⟨ao2,F5,q1,-⟩:=E3 K;refine cH @q1 ?_;refine⟨fun H w'=>w'=w6/\H 42 = .bool (decide (I=[46]/\W.length=2)),?_,?_⟩
    .by_cases hn:I=[46]
     .refine du @q1 hn ?_;simp [jd];omega
     .refine du @q1 hn ?_;grind
    .rintro H w' ⟨rfl,aJA⟩ d2;rw[aJA];dsimp only at j;by_cases X:I=[46]/\W.length=2
     .rw[FL _ _ X];obtain⟨x2,y2,rfl⟩:∃ x2 y2,W=[x2,y2]:=by
       match W,X.2 with
       | [x2,y2],_=>grind
      dsimp only at j;rw[zip X.1] at j;exact⟨g,zo,b2,o,M3,44,I,x2,y2,by grind [jd],by grind [jd],t,iP,K,aJy,zo,j,zo,l2⟩
     .rw[FM _ _ X];refine⟨by grind [jd],J,?_⟩;split at j
      .rename_i c d';have Hl:¬ I=[46]:=zg;rw[bZ Hl] at j;exact j
      .exact j
  .rintro H w' ⟨L,rfl,M⟩ d2;refine cH L ?_;refine(MT t hx 124 zo J).mono ?_;rintro e w7 ⟨⟨v7,rfl⟩,h7,U⟩;have aJB:=iP.trans U;have Xu:=Xs.bH (t.kv hx U).toT;obtain⟨ab,cap,yN,u0,u1,D,E,k3,Q,k5,R⟩:=adY Xu;refine dH L @D @E @Q ?_;have aU6:(o.add [124]).cU=o.cU+1:=Ws.oM ..;cases N:lE tr g p 0 (o.add [124]) with
   | none=>simp [N,Wb] at M
   | some r2=>
   refine aZJ ((ih g zo).tm (least:=0) hx ⟨_,h7⟩ R IF zo (ow l2) N) ?_;rintro e w8 Ky;have Wd:=Ky.of (B':=s.cU+30) aJB zo;cases r2 with
   | none=>
    simp only[N,Wb,aZG] at M;subst M;obtain⟨g1,rfl,g2⟩:=Wd;exact⟨g1,J,g2⟩
   | some s8=>
    obtain⟨Xv,rfl,nm8,h8⟩:=Wd;obtain⟨l3,l4⟩:=(J8 hx.tok g).tm _ _ _ _ IF zo (ow l2) N;simp only[N,Wb,aZG] at M;subst M;have aU8:s8.cU=s8.out.length+60*s8.fuel:=rfl;obtain⟨ad8,aVa,aVb,hb8,aVd⟩:=id h8.bu;refine bE ?_;refine(MT h8 hx 93 zo J).mono ?_;rintro e w9 ⟨⟨v9,rfl⟩,h9,B0⟩;exact⟨Xv.trans B0,J,_,h9⟩
def cw:∀ f,CW f:=by
 intro f;induction f using a1l with
 | _ f ih=>
  cases f with
  | zero=>
   exact⟨fun _ _ _ _ _ _ h=>by simp [lE] at h,fun _ _ _ _ _ _ h=>by simp [B8] at h,fun _ _ _ _ _ _ h=>by simp [yy] at h⟩
  | succ f=>
   have i:∀ g,g<=f->CW g:=zg;exact⟨fun a b c d e g h=>aIM zg a b c d e g h,fun a b c d e g h=>aIU i a b c d e g h,fun a b c d e g h=>aJw i a b c d e g h⟩
def aJC:(Tryz.prog.info? 89).map (fun i=>(i.zero,i.size,i.bytes))=O (O ai,1,16):=zk
def Pz(d:w.ownsRow base 89 1 v n xs){a:Y}
  (f:w.heap[b]?=aM #[a] 89) (q:a.oneCell'=A)
  (r:n<=100000000) (g:base<=w.heap.size) {K:Y->Z->Prop}
  (h:∀ v' w',w'.ownsRow base 89 1 v' (n+1) (xs++[a])->w.grownBy w' v.ownBlock->(v'.ownBlock=v.ownBlock\/∀ k,v'.ownBlock=O k->w.heap.size<=k)->K v' w') :
  WR a9C (Builtin.append_ #[82,82] 82 #[v,cR b 1 m]) w K X:=by
 obtain⟨i,j,c⟩:=aZ7.1 aJC;simp only[Prod.mk.injEq] at c;obtain⟨l,o,p⟩:=c;refine Sx.C3 (m:=1) (t:=82) (e:=89) zk j l o p J zo d f J (fun u hu=>?_) zo zo g h;grind
abbrev mG(ρ:Nat->Nat)(ids:List Nat):List Y:=ids.map fun i=>aj 87 (pp (ρ i))
def eO.at'{F:Nat->Prop}{w:Z}:∀ {xs:List Ex} {vs:List Y} (j:Nat) (a:j<xs.length),eO F w vs xs->∃ v,vs[j]?=O v/\eL F w v xs[j]
 | x::xs,vs,0,_,h=>by
  unfold eO at h;grind
 | x::xs,vs,j+1,a,h=>by
  unfold eO at h;obtain⟨u,r,rfl,c,b⟩:=h;simpa using eO.at' j zg b
def eO.E9{F:Nat->Prop}{w:Z}:∀ {xs:List Ex} {vs:List Y},eO F w vs xs->vs.length=xs.length
 | [],vs,h=>by unfold eO at h;subst h;rfl
 | x::xs,vs,h=>by
  unfold eO at h;obtain⟨u,r,rfl,b,a⟩:=h;simp [eO.E9 a]
def adZ(vs:List Nat):∀ (l:List Ex) (j:Nat) (a:j<l.length),nV vs (l.take (j+1))=nV vs (l.take j)++[P.made vs l[j]]
 | x::xs,0,_=>by simp [nV]
 | x::xs,j+1,a=>by
  have:=adZ vs xs j zg;simp only[List.take_succ_cons,nV,List.cons_append,List.getElem_cons_succ];rw[this]
def ad0{ρ:Nat->Nat}{n:Nat}{ids:List Nat}(M7:∀ i∈ids,i<n):∀ (N:Nat) (x:Ex),iA x<=N->gZ ids.length x->∀ {F f:Nat->Prop} {w:Z} {v vv:Y},eL F w v x->fK f w 89 vv (mG ρ ids) ->
  Calls a9C 32 #[v,vv] w fun e w'=>Ext w w'/\∃ u,e = ah u/\dI (Nu w w') ρ n w' u (P.made ids x)
 | 0,x,L,_,_,_,_,_,_,_,_=>by cases x;simp [iA] at L
 | N+1,.mk kind name k kv args,L,dx,F,f,w,v,vv,hv,vQ=>by
  have ih:=ad0 (ρ:=ρ) (n:=n) M7 N;unfold gZ at dx;obtain⟨o1,o2,o3,o4,o5,o6,o7,o8⟩:=dx;unfold eL at hv;obtain⟨b,av,di,rfl,hF,p,hs,hx⟩:=hv;unfold iA at L;obtain⟨m0,g⟩:=cd (P.made ids (.mk kind name k kv args));rw[<- g];unfold P.made at g;refine aIl ?_;by_cases B:kind=97
  .subst B;rw[zip rfl] at g;subst g;have C:((97:Nat):Int)=97:=rfl;refine du p @C ?_;refine⟨yF,?_⟩;unfold dI;grind
  .have aVe:¬ (kind:Int)=97:=zo;rw[bZ B] at g;by_cases Ap:kind=110
   .subst Ap;rw[zip rfl] at g;subst g;have C:((110:Nat):Int)=110:=rfl;refine du p @C ?_;refine⟨yF,_,J,?_⟩;unfold dI;rfl
   .have aVf:¬ (kind:Int)=110:=zo;rw[bZ Ap] at g;by_cases GJ:kind=118
    .subst GJ;rw[zip rfl] at g;subst g;have C:((118:Nat):Int)=118:=rfl;have Pq:=o4 J;have hl:(mG ρ ids).length=ids.length:=zs;obtain⟨gb,M,rfl,g1,g2,g3⟩:=vQ.at' (j:=kv) (by rw[hl];exact Pq);have Q:M[kv]?=O (aj 87 (pp (ρ ids[kv]))):=by
      grind
     have R:(kv:Int).toNat=kv:=zo;rw[hl];refine dH p @C @g2 (zA @Q @R) ?_;refine⟨yF,_,J,?_⟩;unfold dI;have S:ids.getD kv 0=ids[kv]:=zg;rw[S];exact⟨(by grind [List.getElem_mem]),J⟩
    .have aVg:¬ (kind:Int)=118:=zo;obtain⟨sa,sc,rfl⟩:=hs.sl;have Gm:=hx.E9;have lb:=bg p;rw[bZ GJ] at g;subst g;refine cH p ?_;refine⟨fun m z w'=>∃ j I vs,z 46=zi (j:Nat)/\j<=args.length/\m=args.length-j/\Ext w w'/\w'.heap[w.heap.size]?=aM #[aT name,I] 180 /\
      w'.ownsRow (w.heap.size+1) 89 1 I j vs/\iE (fun c=>w.heap.size<c/\c<w'.heap.size/\O c≠I.ownBlock) ρ n w' vs (nV ids (args.take j)),
      ⟨_,0,bV,[],J,Nat.zero_le _,J,yF,yH,World.ownsRow_nil _ _ _ _,by simp [nV];unfold iE;rfl⟩,?_⟩
     intro m z d w3 hI;refine toPr ?_;obtain⟨j,I,vs,T,hj,rfl,D,q3,r,U⟩:=hI;have s3:=D.size;have l3:=bg q3;obtain⟨s,rc,rfl⟩:=gV r;by_cases hlt:j<args.length
     .have ql:j<di.length:=zo;obtain⟨sb,IK,e1,e2,Q,e4⟩:=hs.at' ql;obtain⟨u,S,hu⟩:=eO.at' j hlt hx;rw[S] at e4;simp only[aZZ,true_and] at e1;obtain⟨rfl,rfl⟩:=e1;have jW:((j:Nat):Int).toNat=j:=zo;have W:=D.ext _ _ Q;refine dH T @W @e4 @jW ?_;refine⟨fun w'=>w'.heap[w.heap.size]?=aM #[aT name,.slice s j rc] 180,q3,?_⟩;refine bE ?_;refine cO (pq w.heap.size 1) (fun w' _=>eR) ?_;refine cO (.slice s j rc) (fun w' hS=>fa hS) ?_;have PA:iA args[j]<=N:=by
       have:∀ (l:List Ex) (j:Nat) (hj:j<l.length),iA l[j]<=fH l:=by
        intro l;induction l with
        | nil=>grind
        | cons a l ihl=>
         grind [fH]
       grind
      have X:Ext w w3.drew:=D.drew;have Mu:∀ {H:Nat->Prop} {y:Ex} {v':Y},eL H w v' y->eL H w3.drew v' y:=fun h=>eL.mono zg (by grind [bB.ext]) _ _ h;refine aZJ (ih args[j] PA (o8.at hlt) (Mu hu) (vQ.mono (fun _ h=>h) fun b cs _ p=>X.ext _ _ p)) ?_;rintro e q ⟨gW,u4,rfl,KE⟩;have s4:=gW.size;rw[BE] at s4;have K:Ext w3 q:=yF;have q4:=K.ext _ _ q3;have l4:=bg q4;refine⟨q4,?_⟩;obtain⟨tu,xu,rfl⟩:=KE.iface;refine bE ?_;have hX:Ext q (q.alloc (ae #[aj tu xu] 89)):=yF;refine⟨q4,?_⟩;have zV:=jJ (K.trans hX).ext r;refine Pz (base:=w.heap.size+1) zV (sx J) J zo (by rw[size_alloc];omega) ?_;intro v' w5 Il yu xH;have s5:=yu.size;rw[size_alloc] at s5;have kp:∀ c o,q.heap[c]?=O o->O c≠(aZT s j rc).ownBlock->w5.heap[c]?=O o:=(by grind [size_alloc,bg,World.grownBy.block,bB.ext]);have lo:∀ k,(aZT s j rc).ownBlock=O k->w.heap.size+1<=k/\k<w3.heap.size:=fun k hk=>r.lt k hk;have q5:=kp _ _ q4 (fun e=>by have:=lo _ e.symm;omega);have l5:=bg q5;obtain⟨PB,PD,rfl⟩:=gV Il;refine⟨q5,?_⟩;refine du @q5 T ?_;have mY:∀ c,c<q.heap.size->O c≠(aZT s j rc).ownBlock->O c≠(aZT PB (j+1) PD).ownBlock:=yH;refine⟨_,?_,j+1,.slice PB (j+1) PD,vs++[aj tu xu],zg,zo,J,?_,J,(by grind [JC]),?_⟩
      .omega
      .refine bB.bO ?_ yH;exact((D.trans K).trans hX).grow yu yH
      .rw[adZ ids args j hlt];have k5:∀ c o,c≠w.heap.size->O c≠(aZT s j rc).ownBlock->q.heap[c]?=O o->(bO w5 w.heap.size (ae #[aT name,.slice PB (j+1) PD] 180)).heap[c]?=O o:=yH;refine iE.snoc ?_ ?_
       .refine dI.mono (F:=Nu w3.drew q) (fun c E=>?_) zo zg (fun c cs t E _ ho=>?_) _ _ KE
        .exact yH
        exact yH
       .refine iE.mono (fun c E=>?_) zo zg (fun c cs t E _ ho=>?_) _ _ U
        .exact yH
        .exact k5 c _ (by have:=E.1;omega) E.2.2 (K.ext _ _ ho)
     .have fw:j=args.length:=zo;subst fw;rw[List.take_length] at U;refine cH T ?_;refine⟨D,?_⟩;refine⟨_,J,?_⟩;unfold dI;refine⟨_,_,vs,J,yH,q3,Et r (fun b p=>⟨by have:=(r.lt b p).1;omega,(r.lt b p).2⟩),?_⟩;exact iE.mono yH zo zg (fun _ _ _ _ _ h=>h) _ _ U
open Go.Proofs.YtoegidfbnkaabaaGreatDoor.Sx
section
variable{p0 p1 p2 p3 p4 p5 p6 p7:Y}{w:Z}{R:Ending->Z->Prop}
def aJE:=cz w R [p0,p1] (gc [(2,[4,9])] [] [10]) func228
def aJF:=cz w R [p0,p1] (gd [] [] [] [(0,[16,0,1,2,3,4,5,6,7,9,8,10,11,12,13,14,15])] [] [] []) func226
def aJG:=cz w R [p0,p1,p2,p3,p4] (gd [(9,[64])] [(6003,[])] [(4,9)] [(11,[11,0,1,2,3,4,5,6,7,8,9,10,11])] [] [] [10,24,65,79,80]) func224
def aJH:=cz w R [p0,p1,p2] (gd [] [(6001,[])] [(3,8)] [(4,[0,0,1,2,3,4,5,6,7,8,9,10,11,12]),(8,[21,0,1,2,3,4,5,6,7,9,10,11,12,13,14,8,15,16,17,18,19,20])] [] [] [6,23,32,46,81]) func227
def aJI:=cz w R [p0,p1] (gd [(13,[7])] [] [(4,12),(10,12),(21,19)] [(15,[25,0,1,2,3,4,5,6,7,8,9,10,11,12,13,14,15,16,17,18,19,20,21,22,23,24]),(17,[22,0,1,2,3,4,5,6,7,8,9,10,11,12,13,14,15,16,17,18,19,20,21]),(18,[24,0,1,2,3,4,5,6,7,8,9,10,11,12,13,14,15,16,17,18,19,20,21,22,23]),(20,[22,0,1,2,3,4,5,6,7,8,9,10,11,12,13,14,15,16,17,18,19,20,21]),(22,[21,0,1,2,3,4,5,6,7,8,9,10,11,12,13,14,15,16,17,18,19,20]),(26,[21,0,1,2,3,4,5,6,7,8,9,10,11,12,13,14,15,16,17,18,19,20])] [] [] [4,19,47,48,49,62,63,71,98,99,145,146,209,210]) func225
def aJJ:=cz w R [p0] (gd [(2,[3])] [(11009,[])] [(7,7),(11,14)] [] [] [] [2,3,7,8,16,35,66,72,89]) func223
end
def nY(w:Z)(a:TypeId)(v:Y)(vs:List Y):Prop:=
 (vs=[]/\v = bV) \/
 ∃ b o cap cs,v = .slice (O ⟨b,o,V⟩) vs.length cap/\w.heap[b]?=aM cs a/\vs.length<=cap/\(cs.toList.drop o).take vs.length=vs/\vs≠[]
theorem nY.of{a:TypeId}(h:fK F w a v vs)(c:vs≠[]):nY w a v vs:=by
 rcases h with h | ⟨b,cs,d,-,e,f,g⟩
 .grind
 .exact .inr yH
theorem nY.nil{a:TypeId}:nY w a bV []:=.inl ⟨J,J⟩
theorem nY.bH{a:TypeId}(h:nY w a v vs)(hw:∀ (b:Nat) (cs:Array Y),w.heap[b]?=aM cs a->w'.heap[b]?=aM cs a):nY w' a v vs:=by
 rcases h with h | ⟨b,o,cap,cs,c,d,e,f⟩
 .exact .inl h
 .exact .inr yH
theorem nY.at{a:TypeId}(h:nY w a v vs)(c:j<vs.length):∃ b o cap cs,v = .slice (O ⟨b,o,V⟩) vs.length cap/\w.heap[b]?=aM cs a/\cs[o+j]?=vs[j]?/\vs.length<=cap:=by
 rcases h with⟨rfl,-⟩| ⟨b,o,cap,cs,d,e,f,g,-⟩<;>grind
def nY.tail{a:TypeId}{x:Y}(h:nY w a (.slice (O ⟨b,o,V⟩) n cap) (x::vs))(d:vs≠[]):nY w a (sliced (O ⟨b,o,V⟩) 1 n cap 1) vs:=by
 rcases h with⟨h,-⟩| ⟨i,j,k,cs,c,e,f,g,-⟩
 .grind
 .simp only[aZZ,aZG,Addr.mk.injEq,and_true] at c;obtain⟨⟨rfl,rfl⟩,rfl,rfl⟩:=c;have m:vs.length≠0:=zg;simp only[List.length_cons] at f g;refine .inr ⟨b,o+1,cap-1,cs,?_,e,zo,?_,d⟩
  .unfold sliced;rw[bZ zo];simp [Addr.add]
  .cases p:cs.toList.drop o with
   | nil=>grind
   | cons y l=>
    grind [List.tail_drop]
def PE(w:Z)(v:Y):Option Bd->Prop
 | none=>v = aq V
 | some b=>dL (fun _=>True) w v b
def uf(ρ:Nat->Nat)(n:Nat)(w:Z):Y->List P.Goal->Prop
 | v,[]=>v = aq V
 | v,g::r=>∃ b a vv nx,v = aq (O ⟨b,0,V⟩)/\w.heap[b]?=O (ae #[a,vv,.int .i64 (g.cut:Nat),nx] 207 (0,0))/\PE w a g.EP /\
  fK (fun _=>True) w 89 vv (mG ρ g.vars)/\(∀ i∈g.vars,i<n)/\uf ρ n w nx r
def qn(ρ:Nat->Nat)(n:Nat)(w:Z):List Y->List nW->Prop
 | vs,[]=>vs=[]
 | vs,a::r=>∃ b cv av fV us rest,vs=[.int .i64 (a.mark:Nat),b,cv,av]++rest/\uf ρ n w b a.todo/\nY w 79 cv fV/\j9 (fun _=>True) w fV a.clauses /\
  fK (fun _=>True) w 89 av us/\py ρ n w us a.args/\qn ρ n w rest r
def Tn(T:Nat):Prop:=kT T\/T=9\/T=57\/T=121
def yM{p:Prop}(h:p:=by first | (unfold Tn kT;decide) | (unfold kT;decide)):p:=h
def eH(w w':Z):Prop:=∀ (b:Nat) (cs:Array Y) (T:Nat),¬ Tn T->w.heap[b]?=aM cs T->w'.heap[b]?=aM cs T
def dc.toI(h:dc D w w'):eH w w':=fun _ _ _ a b=>h.bH (fun h=>a (.inl h)) b
theorem eH.dZ(h:Ext w w'):eH w w':=fun _ _ _ _ a=>h.ext _ _ a
theorem eH.trans{a b c:Z}(h:eH a b)(k:eH b c):eH a c:=fun x cs T d e=>k x cs T d (h x cs T d e)
theorem eH.toT(h:eH w w'):Xa w w':=fun b cs t _ ht a=>h b cs t (by rcases ht with rfl | rfl<;>(first | (unfold Tn kT;decide) | (unfold kT;decide))) a
theorem eH.kX(h:eH w w'):∀ (b:Nat) (o:Obj),True->C5 o->w.heap[b]?=O o->w'.heap[b]?=O o:=fun b o _ a c=>by
 cases o with
 | cells cs t z=>
  obtain⟨ht,rfl⟩:=a;exact h b cs t (by rcases ht with rfl | rfl | rfl | rfl<;>(first | (unfold Tn kT;decide) | (unfold kT;decide))) c
 | _=>exact a.elim
def dL.iT(hk:eH w w'){b:Bd}(h:dL (fun _=>True) w v b):dL (fun _=>True) w' v b:=dL.mono zg hk.kX b v h
theorem PE.bH{w w':Z}(hk:eH w w'){v:Y}:∀ {o:Option Bd},PE w v o->PE w' v o
 | none,h=>h
 | some _,h=>dL.iT hk h
def fK.iT(hk:eH w w')(a:¬ Tn pb)(h:fK (fun _=>True) w pb v vs):fK (fun _=>True) w' pb v vs:=h.mono zg fun b cs _ c=>hk b cs pb a c
def EH.iT{w w':Z}(hk:eH w w'){v:Y}{c:Cl}(h:EH (fun _=>True) w v c):EH (fun _=>True) w' v c:=by
 obtain⟨b,av,bv,a,d,e,f,g,⟨us,i,j⟩,k⟩:=h;exact⟨b,av,bv,a,d,e,f,hk _ _ _ (yM) g,⟨us,fK.iT hk (yM) i,eO.mono zg hk.kX _ _ j⟩,dL.iT hk k⟩
def j9.iT{w w':Z}(hk:eH w w'):∀ {vs:List Y} {l:List Cl},j9 (fun _=>True) w vs l->j9 (fun _=>True) w' vs l
 | vs,[],h=>h
 | vs,c::l,⟨v,r,a,b,d⟩=>⟨v,r,a,b.iT hk,j9.iT hk d⟩
def eg(ρ:Nat->Nat)(n:Nat)(eG:Nat->Nat)(a:Nat):Prop:=n<=a/\∀ i,i<n->eG i=ρ i
theorem eg.refl(ρ:Nat->Nat)(n:Nat):eg ρ n ρ n:=⟨aZK _,zg⟩
theorem eg.trans{a b c:Nat->Nat}{i j k:Nat}(h:eg a i b j)(d:eg b j c k):eg a i c k:=⟨aZL h.1 d.1,fun x hx=>(d.2 x (Nat.lt_of_lt_of_le hx h.1)).trans (h.2 x hx)⟩
def anH(h:eg ρ n sX pb){l:List Nat}(a:∀ i∈l,i<n):mG sX l=mG ρ l:=by
 unfold mG;exact List.map_congr_left fun i b=>by rw[h.2 i (a i b)]
def py.PF(hk:eH w w')(hu:eg ρ n sX pb){l:List Tm}(h:py ρ n w vs l):py sX pb w' vs l:=iE.mono zg hu.1 hu.2 hk.toT _ _ h
def dM.PF(hk:eH w w')(hu:eg ρ n sX pb)(h:dM ρ n w v t):dM sX pb w' v t:=dI.mono zg hu.1 hu.2 hk.toT _ _ h
theorem uf.bH{ρ eG:Nat->Nat}{n a:Nat}{w w':Z}(hk:eH w w')(hu:eg ρ n eG a):∀ {l:List P.Goal} {v:Y},uf ρ n w v l->uf eG a w' v l
 | [],v,h=>h
 | g::r,v,⟨b,d,vv,nx,e,f,j,k,c,m⟩=>⟨b,d,vv,nx,e,hk _ _ _ (yM) f,j.bH hk,by rw[anH hu c];exact fK.iT hk (yM) k,
  fun i o=>Nat.lt_of_lt_of_le (c i o) hu.1,uf.bH hk hu m⟩
theorem qn.bH{ρ eG:Nat->Nat}{n c:Nat}{w w':Z}(hk:eH w w')(hu:eg ρ n eG c):∀ {l:List nW} {vs:List Y},qn ρ n w vs l->qn eG c w' vs l
 | [],vs,h=>h
 | a::r,vs,⟨d,cv,av,fV,us,rest,e,f,g,i,j,k,m⟩=>⟨d,cv,av,fV,us,rest,e,f.bH hk hu,g.bH fun b cs o=>hk b cs _ (yM) o,i.iT hk,
  fK.iT hk (yM) j,k.PF hk hu,qn.bH hk hu m⟩
def qn.len{ρ:Nat->Nat}{n:Nat}{w:Z}:∀ {l:List nW} {vs:List Y},qn ρ n w vs l->vs.length=l.length*4
 | [],vs,h=>by have h:vs=[]:=h;grind
 | a::r,vs,⟨d,cv,av,fV,us,rest,b,_,_,_,_,_,c⟩=>by
  rw[b,List.length_append,qn.len c];grind
def aJK:(Tryz.prog.info? 356).map (fun i=>(i.zero,i.size,i.bytes))=O (O (.agg #[zi 0,aq V,bV,bV]),4,64):=zk
def anI(c:w.ownsRow base 356 4 v n xs){l:List Y}
  (d:w.heap[b]?=aM l.toArray 356) (q:l.length=4) (r:∀ u∈l,u.oneCell'=A)
  (s:n<=900000000) (f:base<=w.heap.size) {K:Y->Z->Prop}
  (h:∀ v' w',w'.ownsRow base 356 4 v' (n+1) (xs++l)->w.grownBy w' v.ownBlock->(v'.ownBlock=v.ownBlock\/∀ k,v'.ownBlock=O k->w.heap.size<=k)->K v' w') :
  WR a9C (Builtin.append_ #[128,128] 128 #[v,cR b 1 m]) w K X:=by
 obtain⟨i,g,a⟩:=aZ7.1 aJK;simp only[Prod.mk.injEq] at a;obtain⟨j,o,p⟩:=a;exact Sx.C3 (m:=1) (t:=128) (e:=356) zk g j o p J zo c d zo zg zo zo f h
def Dm(D:Nat->Prop)(av:Y)(b:Nat):Prop:=D b/\av.ownBlock≠O b
theorem dc.up{D':Nat->Prop}(h:dc D w w')(a:∀ b,D b->D' b):dc D' w w':=bB.mono h fun b o _ hm=>⟨a b hm.1,hm.2⟩
theorem gQ.up{D':Nat->Prop}{T:Nat}{s:Sr}(h:gQ D ρ n pb so T cs tv w s)(a:∀ b,D b->D' b):gQ D' ρ n pb so T cs tv w s:=
 ⟨h.sv,(by grind [dv]),h.cell,h.row,(by grind [dr]),a _ h.ds,h.nd,h.lt,h.ok⟩
abbrev GL(mb:Nat)(todo av vv:Y):Array Y:=#[.map (O mb),.slice V 0 0,zi 0,todo,av,vv]
theorem Fb:uZ 1 130 (GL mb tv av vv):=⟨zs,.inl J⟩
structure j7(D:Nat->Prop)(ρ:Nat->Nat)(wb mb:Nat)(todo av vv tv:Y)(di:List Y)(w:Z)(k:Wk):Prop where
 st:gQ D ρ k.n wb 1 130 (GL mb todo av vv) tv w k.sr
 td:uf ρ k.n w todo k.todo
 ar:w.ownsRow 0 356 4 av k.bw.length di
 ag:qn ρ k.n w di k.bw
 da:∀ g,av.ownBlock=O g->D g
def PG(D:Nat->Prop)(ρ:Nat->Nat)(wb mb:Nat)(vv:Y)(w:Z)(k:Wk):Prop:=∃ todo av tv di,j7 D ρ wb mb todo av vv tv di w k
section
variable{D:Nat->Prop}{ρ:Nat->Nat}{wb mb:Nat}{todo av vv tv:Y}{di:List Y}{w w':Z}{k:Wk}
theorem j7.cell(h:j7 D ρ wb mb todo av vv tv di w k):w.heap[wb]?=aM #[.map (O mb),tv,zi (k.sr.fuel:Nat),todo,av,vv] 130:=h.st.cell
theorem j7.ext(h:j7 D ρ wb mb todo av vv tv di w k)(a:Ext w w'):j7 D ρ wb mb todo av vv tv di w' k:=
 ⟨h.st.ext a,h.td.bH (eH.dZ a) (eg.refl _ _),jJ a.ext h.ar,h.ag.bH (eH.dZ a) (eg.refl _ _),h.da⟩
theorem j7.DV(h:j7 D ρ wb mb todo av vv tv di w k)(a:av.ownBlock=O g):∃ cs,w.heap[g]?=aM cs 356:=by
 rcases h.ar.2 with⟨rfl,-⟩| ⟨b,cap,cur,rfl,-,c,-⟩
 .cases a
 grind [Value.ownBlock,aZG]
def j7.less(h:j7 D ρ wb mb todo av vv tv di w k):gQ (Dm D av) ρ k.n wb 1 130 (GL mb todo av vv) tv w k.sr:=by
 refine⟨h.st.sv,fun i b=>⟨h.st.dv i b,fun e=>?_⟩,h.st.cell,h.st.row,fun g c=>⟨h.st.dr g c,fun e=>?_⟩,⟨h.st.ds,fun e=>?_⟩,h.st.nd,h.st.lt,h.st.ok⟩
 .obtain⟨cs,a⟩:=h.DV e;obtain⟨ref,d,-⟩:=h.st.sv.var i b;grind
 .obtain⟨cs,a⟩:=h.DV e;exact absurd c (h.st.Xf a zo)
 .obtain⟨cs,a⟩:=h.DV e;have d:=h.cell;grind
def aJL{size:Nat}(h:w.ownsRow base e size v m xs)(a:dc (Dm D v) w w'):w'.ownsRow base e size v m xs:=by
 refine⟨h.1,?_⟩;rcases h.2 with g | ⟨b,cap,cur,rfl,c,d,f⟩
 .exact yH
 .exact .inr ⟨b,cap,cur,J,c,a.block _ _ d (fun hm=>hm.1.2 J),f⟩
def j7.store(h:j7 D ρ wb mb todo av vv tv di w k){s':Sr}(b:gQ (Dm D av) ρ k.n wb 1 130 (GL mb todo av vv) o4 w' s')(a:dc (Dm D av) w w') :
  j7 D ρ wb mb todo av vv o4 di w' { k with sr:=s' }/\dc D w w':=
 ⟨⟨b.up fun _ h=>h.1,h.td.bH a.toI (eg.refl _ _),aJL h.ar a,h.ag.bH a.toI (eg.refl _ _),h.da⟩,a.up fun _ h=>h.1⟩
def j7.KH(h:j7 D ρ wb mb todo av vv tv di w k){todo':Y}{l:List P.Goal}(c:uf ρ k.n w todo' l)
  (hw:w1=bO w wb (ae #[.map (O mb),tv,zi (k.sr.fuel:Nat),todo',av,vv] 130)):j7 D ρ wb mb todo' av vv tv di w1 { k with todo:=l }/\dc D w w1:=by
 obtain⟨b,a⟩:=h.st.cells (by grind [Fb]) (cs':=GL mb todo' av vv) (f:=k.sr.fuel);have e:bO w wb (ae (kg ((GL mb todo' av vv).setIfInBounds 1 tv) 1 (k.sr.fuel:Nat)) 130 (0,0))=w1:=zg;rw[e] at b a;refine⟨⟨b,c.bH a.toI (eg.refl _ _),?_,h.ag.bH a.toI (eg.refl _ _),h.da⟩,a⟩;rw[hw];refine Iz h.ar fun e=>?_;obtain⟨cs,d⟩:=h.DV e;have g:=h.cell;grind
def j7.KI(h:j7 D ρ wb mb todo av vv tv di w k){av':Y}{avs':List Y}{l:List nW}(hr:w1.ownsRow 0 356 4 av' l.length avs')
  (d:w.grownBy w1 av.ownBlock) (hv:av'.ownBlock=av.ownBlock\/∀ g,av'.ownBlock=O g->D g/\w.heap.size<=g) (q:qn ρ k.n w avs' l)
  (hw:w2=bO w1 wb (ae #[.map (O mb),tv,zi (k.sr.fuel:Nat),todo,av',vv] 130)) :
  j7 D ρ wb mb todo av' vv tv avs' w2 { k with bw:=l }/\dc D w w2/\w1.heap[wb]?=w.heap[wb]?:=by
 have s:=h.cell;have u:∀ (b:Nat) (c:Array Y) (U:Nat),w.heap[b]?=aM c U->U≠356->w1.heap[b]?=aM c U:=(by grind [bg,World.grownBy.block,DV]);have f1:dc D w w1:=⟨d.os,d.tape,d.output,d.size,fun b o i hm=>by
  rw[d.block b (bg i) (fun e=>?_)]
  .omega
  .obtain⟨cs,a⟩:=h.DV e.symm;rw[i] at a;exact hm ⟨h.da b e.symm,_,_,_,Option.some.inj a,.inr zg⟩⟩
 have s1:gQ D ρ k.n wb 1 130 (GL mb todo av vv) tv w1 k.sr:=by
  refine⟨h.st.sv.bH fun b c t ht i=>yH,h.st.dv,yH,?_,h.st.dr,h.st.ds,h.st.nd,h.st.lt,h.st.ok⟩;refine⟨h.st.row.1,?_⟩;rcases h.st.row.2 with a | ⟨b,cap,cur,j,p,r,x⟩<;>grind
 obtain⟨a,p⟩:=s1.cells (by grind [Fb]) (cs':=GL mb todo av' vv) (f:=k.sr.fuel);have e:bO w1 wb (ae (kg ((GL mb todo av' vv).setIfInBounds 1 tv) 1 (k.sr.fuel:Nat)) 130 (0,0))=w2:=zg;rw[e] at a p;have m:dc D w w2:=yF;refine⟨⟨a,h.td.bH m.toI (eg.refl _ _),?_,q.bH m.toI (eg.refl _ _),fun g y=>?_⟩,m,yH⟩
 .rw[hw];refine Iz hr fun e=>?_;rcases hr.2 with⟨j,-⟩| ⟨z,cap,cur,j,-,r,-⟩
  .rw[j] at e;cases e
  grind [Value.ownBlock,aZG]
 grind [da]
def uf.ptr{n:Nat}{v:Y}:∀ {l:List P.Goal},uf ρ n w v l->∃ p,v = .pointer p
 | [],h=>⟨V,h⟩
 | _::_,⟨b,_,_,_,h,_⟩=>⟨_,h⟩
def qn.snoc{n:Nat}{a:nW}{l0:List Y}:∀ {l:List nW} {vs:List Y},qn ρ n w vs l->qn ρ n w l0 [a]->qn ρ n w (vs++l0) (l++[a])
 | [],vs,h,b=>by have h:vs=[]:=h;grind
 | x::l,vs,⟨c,cv,av,fV,us,rest,k,d,e,f,g,i,j⟩,b=>⟨c,cv,av,fV,us,rest++l0,zg,d,e,f,g,i,qn.snoc j b⟩
def ad9(h:j7 D ρ wb mb todo av vv tv di w k)(hD:∀ b,w.heap.size<=b->D b){l:List P.Goal}(f:uf ρ k.n w o4 l)(s:k.bw.length<=900000000) :
  Calls a9C 226 #[pp wb,o4] w fun e w'=>e = ah (ak #[])/\dc D w w'/\∃ av' avs',j7 D ρ wb mb todo av' vv tv avs' w' (k.Wx l):=by
 have i:=h.cell;have lw:=bg i;obtain⟨j,rfl⟩:=f.ptr;have t:Ext w w.drew:=yF;refine aJF ?_;refine⟨fun w'=>w'.heap[wb]?=w.heap[wb]?,J,?_⟩;refine toPr ?_;refine bE ?_;refine cO (pq wb 4) (fun w' a=>eR) ?_;refine cO av (fun w' a=>by rw[i] at a;have:=bg a;exact fa a) ?_;refine bE ?_;refine cO (pq wb 1) (fun w' a=>eR) ?_;refine aZJ (SY (h.ext t).st Fb) ?_;rintro e w1 ⟨rfl,rfl⟩;refine⟨J,?_⟩;refine bE ?_;obtain⟨l0,m⟩:∃ l0:List Y,l0=[zi (k.sr.tr.length:Nat),.pointer j,bV,bV]:=⟨_,J⟩;obtain⟨w2,o⟩:=cd (w.drew.alloc (ae l0.toArray 356 (0,0)));have d:Ext w w2:=yF;have g2:w2.heap[w.heap.size]?=aM l0.toArray 356:=yH;have s2:w2.heap.size=w.heap.size+1:=yH;rw[m] at o;rw[<- o];have c:=h.ext d;have q2:=c.cell;refine anI c.ar g2 zg (by rw[m];intro u hu;simp only[aZU,aZ2,or_false] at hu;rcases hu with rfl | rfl | rfl | rfl<;>rfl) s zo ?_;intro v' w3 p x y;obtain⟨p3,d3,z⟩:=gV p;subst z;obtain⟨H,q⟩:=cd (bO w3 wb (ae #[.map (O mb),tv,zi (k.sr.fuel:Nat),todo,.slice p3 (k.bw.length+1) d3,vv] 130));have B:qn ρ k.n w2 (di++l0) (k.bw++[⟨k.sr.tr.length,l,[],[]⟩]):=by
  refine c.ag.snoc ⟨.pointer j,bV,bV,[],[],[],zg,f.bH (eH.dZ d) (eg.refl _ _),nY.nil,J,.inl ⟨J,J⟩,?_,J⟩;unfold py iE;rfl
 obtain⟨C,E,F⟩:=c.KI (l:=k.bw++[⟨k.sr.tr.length,l,[],[]⟩]) (by rw[List.length_append,List.length_singleton];exact p) x (y.imp id fun hx g r=>⟨hD g (by have:=hx g r;omega),hx g r⟩) B q;refine⟨yH,?_⟩;have c3:=F.trans q2;refine cH @c3 ?_;rw[<- q];exact⟨(dc.dZ d).trans E,_,_,C⟩
end
