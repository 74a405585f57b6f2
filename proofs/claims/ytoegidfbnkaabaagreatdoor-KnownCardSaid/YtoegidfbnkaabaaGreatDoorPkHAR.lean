/- A part of one proof (PW6, KS4, KS5, KS6, KS7, KS8, SlU, KS9). -/
import Derived.Test.YtoegidfbnkaabaaGreatDoorPkHAQ
set_option linter.all false
set_option maxRecDepth 100000
set_option maxHeartbeats 8000000
open Option renaming some → O, none → V
open Go renaming Value → Y, World → Z
open Bool renaming true → A, false → G
open Go.Ending renaming returned → ah
open Go.Value renaming iface → aj
open Option.some renaming injEq → aZ9
open Go.Calls renaming mono → a0c
open Nat renaming le_refl → a0d, le_trans → a0f, zero_le → a0r, sub_le → a1R, strongRecOn → a2f
open List renaming drop_eq_getElem_cons → a0h, mem_cons → a0n, not_mem_nil → a0v, drop_length → a01
open Go.Proofs.Tryz renaming prog → a95
namespace Go.Proofs.YtoegidfbnkaabaaGreatDoor
open P
open Go.RowKit Sx
variable{B B' b f i j n pb so wb:Nat}{F:Nat->Prop}{K:Y->Prop}{R:Ending->Z->Prop}{S av nm tv u v:Y}{X:Y->Z->Prop}{cs:Array Y}{out:Bs}{res:Z->Prop}{t:Tm}{tr:Tr}{vs:List Y}{w w3:Z}{y:Operand}{ρ:Nat->Nat}
def E9{name:Bs}{args:List Tm}(h:dL ρ n w (aj 175 (pp b)) (.comp name args)) :
  ∃ a cap,w.heap[b]?=aN #[aM name,.slice a args.length cap] 180 /\
   ∀ (j:Nat) (c:j<args.length),∃ ab cs v,a=O ⟨ab,0,V⟩/\w.heap[ab]?=aN cs 89/\cs[j]?=O v/\dL ρ n w v args[j]:=by
 unfold dL dH at h;obtain⟨g,av,vs,e,-,i,f,d⟩:=h;cases e;have k:=d.length;rcases f with⟨rfl,rfl⟩| ⟨ab,cs,rfl,-,g2,g3,g4⟩
 .exact yH
 .refine⟨O ⟨ab,0,V⟩,cs.size,yH,fun j c=>?_⟩;obtain⟨v,l,m⟩:=iG.at j c d;exact yH
theorem IB:∀ {l:List Tm} {j:Nat},ji l->(a:j<l.length)->ef l[j]
 | t::b,0,h,_=>by unfold ji at h;exact h.1
 | t::b,j+1,h,a=>by unfold ji at h;exact IB h.2 zg
abbrev adF(wb:Nat):Deferred:={ target:=.fn (.func 95) #[],args:=#[pp wb,.int .u8 41] }
def aJu(h:su w wb S nm out)(a:out.length+1<=1000000000)
  (hk:∀ w',su w' wb S nm (out++[41])->jH wb w w'->res w'):LV a95 res R [adF wb] .returning w:=by
 refine BG zk zs (Sx.CallsD.mono (ani h 41 a) ?_);rintro e d w' ⟨rfl,⟨v,rfl⟩,b,c⟩;exact hk w' b c
def aJv(h:su w wb S nm out)(a:out.length+1<=1000000000)
  (hk:∀ w',su w' wb S nm (out++[41])->jH wb w w'->R M0 w'):LV a95 res R [adF wb] (.panicking [{ v:=aj 134 (.agg #[]),recovered:=false }]) w:=by
 refine BG zk zs (Sx.CallsD.mono (ani h 41 a) ?_);rintro e d w' ⟨rfl,⟨v,rfl⟩,b,c⟩;exact hk w' b c
def anF{T:Nat}(hx:wS tr wb pb so T cs)(h:Bi ρ n tr wb pb so T cs w B V M0 w3)(d:B+1<=B')(b:B'<=1000000000) :
  LV a95 res (Bi ρ n tr wb pb so T cs w B' V) [adF wb] (.panicking [{ v:=aj 134 (.agg #[]),recovered:=false }]) w3:=by
 obtain⟨g1,-,g2,nm,out,g3,g4⟩:=h;refine aJv g3 zo fun w' c a=>?_;refine⟨g1.trans (a.toW pb),J,?_,nm,_,c,zg⟩;refine a.block _ _ g2 ?_;rintro (h | ⟨_,_,_,h⟩)
 .exact hx.ne h
 .injection h with _ h _;exact hx.T1 h
def aJw(ih:∀ g,g<=f->CW g){T:Nat}{s:Ws}{name:Bs}{args:List Tm}{least:Nat}{r:Option Ws}(hx:wS tr wb pb so T cs)(hs:GL ρ n tr wb pb so T cs w s)
  (hu:dL ρ n w (aj 175 (pp b)) (.comp name args)) (de:ef (.comp name args))
  (hB:s.cS<=900000100-60) (E:s.seen.length<=s.out.length) (hr:yR tr (f+1) name args least s=O r) :
  Calls a95 65 #[pp wb,pp b,zi least] w (Bi ρ n tr wb pb so T cs w (s.cS+30) r):=by
 obtain⟨nm,h⟩:=hs;obtain⟨ad,buf,GH,hb,dR⟩:=id h.bu;have lb:=bf hb;have Cd:s.cS=s.out.length+60*s.fuel:=rfl;obtain⟨ao,cap,F,IC⟩:=E9 hu;have vk:=de;unfold ef at vk;obtain⟨aVr,Gv,R⟩:=vk;rw[yR.eq_def] at hr;dsimp only at hr;have C:Ext w w.drew:=yF;have hd:=h.ext C;refine aI0 ?_;refine cG F ?_;refine(ano name args.length _).mono ?_;rintro e w1 ⟨rfl,rfl⟩;by_cases hp:kr name args.length=0
 .have Ht:¬ (0:Int)<((kr name args.length:Nat):Int):=zo;refine bD ?_;refine⟨fun x w'=>w'=w.drew/\x 101 = .bool (decide (name=[46]/\args.length=2)),?_,?_⟩
  .by_cases hn:name=[46]
   .refine dy F hn ?_;simp [jg];omega
   .refine dy F hn ?_;grind
  .rintro x w' ⟨rfl,aJx⟩ d;rw[aJx];by_cases hl:name=[46]/\args.length=2
   .rw[FU _ _ hl];obtain⟨x0,p,rfl⟩:∃ x0 p,args=[x0,p]:=by
     match args,hl.2 with
     | [x0,p],_=>grind
    have fy:kr name 2=0:=hp;simp only[fy,ne_eq,not_true_eq_false,if_false,zip hl.1] at hr;refine a0c ((ih f (a0d _)).list hx ⟨_,hd⟩ (hu.bI (qT.ea C)) de hB E hr) ?_;rintro e w2 gK;have jt:=gK.of (B':=s.cS+30) (bz.toM (M:=MW wb pb) C) (a0d _);cases r with
    | none=>
     obtain⟨g1,rfl,g2⟩:=jt;exact⟨g1,J,g2⟩
    | some s'=>
     obtain⟨g1,rfl,g2⟩:=jt;exact⟨g1,J,g2⟩
   .rw[FV _ _ hl];have lP:Wb (py tr f 40 args (s.add name)) (fun s=>O (O (s.add [41])))=O r:=by
     grind
    have DY:Ext w w.drew.drew:=C.drew;have xr:=h.ext DY;refine cG F ?_;refine(GN xr hx name zo).mono ?_;rintro e w2 ⟨⟨v2,rfl⟩,H,eU⟩;have S:ml wb pb w w2:=(bz.toM (M:=MW wb pb) DY).trans eU;have Fa:=(h.kv hx S) _ _ _ (.inl J) F;refine cG Fa ?_;refine⟨fun m x w'=>∃ j o DX,x 32=zi (j:Nat)/\j<=args.length/\m=args.length-j/\lI ρ n tr wb pb so T cs DX w' o/\ml wb pb w w' /\
     (∃ g,g<=f/\Wb (py tr g (if j=0 then 40 else 44) (args.drop j) o) (fun s=>O (O (s.add [41])))=O r)/\o.cS<=s.cS+20/\o.seen.length<=o.out.length,
     ⟨_,0,_,nm,J,a0r _,J,H,S,zg,by grind [Ws.oO],oA E⟩,?_⟩
    intro m x3 d3 w3 hI;refine toPr ?_;obtain⟨j,o,DX,Cn,hj,rfl,q,t,⟨g,hg,l⟩,anH,KA⟩:=hI;have anI:o.cS=o.out.length+60*o.fuel:=rfl;obtain⟨ad3,aJz,aJA,eK,Mi⟩:=id q.bu;have M8:=hu.bI (h.kv hx t).toT;by_cases hlt:j<args.length
    .obtain⟨ao3,U,KB,aJB⟩:=E9 M8;have aJC:=(h.kv hx t) _ _ _ (.inl J) F;rw[aJC] at KB;simp only[aZ9,Obj.cells.injEq,and_true,Array.mk.injEq,List.cons.injEq,Value.slice.injEq,true_and] at KB;obtain⟨rfl,rfl⟩:=KB;obtain⟨ab,S5,v3,rfl,mf,ID,DZ⟩:=aJB j hlt;rw[a0h hlt] at l;cases g with
     | zero=>simp [py,Wb] at l
     | succ g=>
     rw[py] at l;have Bj:((j:Nat):Int).toNat=j:=zo;have aJD:(if (1:Int)<((j:Nat):Int) then(1:Int) else((j:Nat):Int))=if j=0 then 0 else 1:=by
      omega
     refine dC @aiy Cn mf (zA ID aJD) ?_;obtain⟨sep,aJE⟩:∃ sep:UInt8,sep=if j=0 then 40 else 44:=⟨_,J⟩
     rw[<- aJE] at l;have M9:((List.getD [(40:UInt8),44] (Int.toNat (if j=0 then 0 else 1)) 0).toNat:Int)=sep.toNat:=by
      grind
     refine a0c (M1 (q.ext yF) hx sep zo M9) ?_;rintro e u ⟨⟨v4,rfl⟩,i,c⟩;have Xm:ml wb pb w u:=(t.trans (bz.drew (bz.refl _ _))).trans c;have vy:=DZ.bI (q.kv hx ((bz.drew (bz.refl _ _)).trans c)).toT;have IE:ef args[j]:=IB R hlt;have W:(o.add [sep]).cS=o.cS+1:=Ws.oO ..;cases a:ku tr g args[j] 0 (o.add [sep]) with
     | none=>simp [a,Wb] at l
     | some X=>
     refine bD ?_;refine a0c ((ih g zo).tm (least:=0) hx ⟨_,i⟩ vy IE zo (oA KA) a) ?_;rintro e w5 I;cases X with
     | none=>
      simp only[a,Wb,aZ9] at l;subst l;have B:=I.of (B':=s.cS+30) Xm zo;obtain⟨g1,rfl,g2⟩:=B;exact⟨g1,J,g2⟩
     | some K=>
      obtain⟨g1,rfl,Na,g2⟩:=I;obtain⟨l1,L⟩:=(Kc hx.tok g).tm _ _ _ _ IE zo (oA KA) a;simp only[a] at l;refine cG Cn ?_;refine⟨_,zo,j+1,K,Na,zg,zo,J,g2,Xm.trans g1,⟨g,zo,?_⟩,zo,L⟩;rw[bX zo];exact l
    .have hdj:args.drop j=[]:=zg;rw[hdj] at l;cases g with
     | zero=>simp [py,Wb] at l
     | succ g=>
     simp only[py,Wb,aZ9] at l;subst l;refine cG Cn ?_;refine(M1 q hx 41 zo J).mono ?_;rintro e u ⟨⟨v4,rfl⟩,i,c⟩;exact⟨t.trans c,J,_,i⟩
 .have Ht:(0:Int)<((kr name args.length:Nat):Int):=zo;obtain⟨x0,p,rfl⟩:∃ x0 p,args=[x0,p]:=by
   have H:args.length=2:=by
    by_cases H:args.length=2
    .omega
    .exact absurd (by unfold kr;grind) hp
   match args,H with
   | [x0,p],_=>grind
  have fy:kr name [x0,p].length=kr name 2:=rfl;rw[fy] at hp Ht ⊢;have gK:kr name 2<=2:=by
   grind [kr]
  obtain⟨oI,IF⟩:=Im R;dsimp only at hr;rw[zip hp] at hr;obtain⟨op,xj⟩:∃ op:Bs,op=if name=[109,111,100] then [32,109,111,100,32] else name:=⟨_,J⟩
  have Xn:op.length<=20:=zg;rw[<- xj] at hr;have N:∀ w',ml wb pb w w'->∃ ab cap y7 u0 u1,w'.heap[b]?=aN #[aM name,cM ab 2 cap] 180/\w'.heap[ab]?=aN y7 89/\y7[0]?=O u0/\y7[1]?=O u1/\dL ρ n w' u0 x0/\dL ρ n w' u1 p:=by
   intro w' hf;obtain⟨ao,cap,k1,P⟩:=E9 (hu.bI (h.kv hx hf).toT);obtain⟨ab,y7,u0,rfl,k3,k4,k5⟩:=P 0 zs;obtain⟨KC,y8,u1,e,k6,k7,k8⟩:=P 1 zs;exact yH
  by_cases jY:kr name 2<least
  .rw[zip jY] at hr;refine bD ?_;refine(M1 hd hx 40 zo J).mono ?_;rintro e w2 ⟨⟨v2,rfl⟩,H,eU⟩;have S:ml wb pb w w2:=(bz.toM (M:=MW wb pb) C).trans eU;obtain⟨ab,Gd,Fb,u0,u1,k1,P,k3,k4,k5,k6⟩:=N w2 S;refine iJ @k1 @P @k3 ?_;cases a:ku tr f x0 (kr name 2) (s.add [40]) with
   | none=>simp [a,Wb] at hr
   | some X=>
   have aVu:(s.add [40]).cS=s.cS+1:=Ws.oO ..;refine a0c ((ih f (a0d _)).tm hx ⟨_,H⟩ k5 oI zo (oA E) a) ?_;rintro e w3 I;have B:=I.of (B':=s.cS+1) S zo;cases X with
   | none=>
    simp only[a,Wb,aZ9] at hr;subst hr;obtain rfl:=B.2.1;exact anF hx B zo zo
   | some k=>
    obtain⟨t,rfl,D,q⟩:=B;obtain⟨l1,L⟩:=(Kc hx.tok f).tm _ _ _ _ oI zo (oA E) a;simp only[a] at hr;obtain⟨ab3,U,S5,u03,vW,q1,q2,q3,q4,q5,q6⟩:=N w3 t;have aJI:k.cS=k.out.length+60*k.fuel:=rfl;refine bD ?_;refine⟨fun _ w'=>lI ρ n tr wb pb so T cs D w' (k.add op)/\ml wb pb w3 w',?_,?_⟩
    .by_cases y:name=[109,111,100]
     .refine dy @q1 y ?_;rw[xj,zip y] at Xn ⊢;refine(GN q hx _ zo).mono ?_;rintro e u ⟨⟨v4,rfl⟩,i,c⟩;exact⟨i,c⟩
     .refine dy @q1 y ?_;rw[xj,bX y] at Xn ⊢;have S6:Ext w3 w3.drew:=yF;refine(GN (q.ext S6) hx _ zo).mono ?_;rintro e u ⟨⟨v4,rfl⟩,i,c⟩;exact⟨i,(bz.toM S6).trans c⟩
    .rintro _ u ⟨i,c⟩ d4;have S7:=t.trans c;obtain⟨ab4,aJK,cs4,u04,vX,q1,q2,q3,q4,q5,q6⟩:=N u S7;have y9:((kr name 2:Nat):Int)+1=((kr name 2+1:Nat):Int):=zo;refine dC @q1 @q2 @q4 y9 ?_;have W:(k.add op).cS=k.cS+op.length:=Ws.oO ..;cases z:ku tr f p (kr name 2+1) (k.add op) with
     | none=>simp [z,Wb] at hr
     | some r2=>
     refine a0c ((ih f (a0d _)).tm hx ⟨_,i⟩ q6 IF zo (oA L) z) ?_;rintro e w5 mB;have Q:=mB.of (B':=s.cS+1) S7 zo;cases r2 with
     | none=>
      simp only[z,Wb,aZ9] at hr;subst hr;obtain rfl:=Q.2.1;exact anF hx Q zo zo
     | some K=>
      obtain⟨iR,rfl,Na,h5⟩:=Q;obtain⟨l3,l4⟩:=(Kc hx.tok f).tm _ _ _ _ IF zo (oA L) z;simp only[z,Wb,aZ9] at hr;subst hr;have aJM:K.cS=K.out.length+60*K.fuel:=rfl;refine aJu h5.bu zo fun w6 hb6 Ax=>?_;exact⟨iR.trans (Ax.toW pb),J,Na,(by grind [lI.wr])⟩
  .rw[bX jY] at hr;obtain⟨ab,Gd,Fb,u0,u1,k1,P,k3,k4,k5,k6⟩:=N w.drew (bz.toM C);refine iJ @k1 @P @k3 ?_;cases a:ku tr f x0 (kr name 2) s with
   | none=>simp [a,Wb] at hr
   | some X=>
   refine a0c ((ih f (a0d _)).tm hx ⟨_,hd⟩ k5 oI zo E a) ?_;rintro e w3 I;have B:=I.of (B':=s.cS+1) (bz.toM (M:=MW wb pb) C) zo;cases X with
   | none=>
    simp only[a,Wb,aZ9] at hr;subst hr;have mB:=B.of (B':=s.cS+30) (bz.refl _ _) zo;obtain⟨g1,rfl,g2⟩:=mB;exact⟨g1,J,g2⟩
   | some k=>
    obtain⟨t,rfl,D,q⟩:=B;obtain⟨l1,L⟩:=(Kc hx.tok f).tm _ _ _ _ oI zo E a;simp only[a] at hr;obtain⟨ab3,U,S5,u03,vW,q1,q2,q3,q4,q5,q6⟩:=N w3 t;have aJI:k.cS=k.out.length+60*k.fuel:=rfl;refine bD ?_;refine⟨fun _ w'=>lI ρ n tr wb pb so T cs D w' (k.add op)/\ml wb pb w3 w',?_,?_⟩
    .by_cases y:name=[109,111,100]
     .refine dy @q1 y ?_;rw[xj,zip y] at Xn ⊢;refine(GN q hx _ zo).mono ?_;rintro e u ⟨⟨v4,rfl⟩,i,c⟩;exact⟨i,c⟩
     .refine dy @q1 y ?_;rw[xj,bX y] at Xn ⊢;have S6:Ext w3 w3.drew:=yF;refine(GN (q.ext S6) hx _ zo).mono ?_;rintro e u ⟨⟨v4,rfl⟩,i,c⟩;exact⟨i,(bz.toM S6).trans c⟩
    .rintro _ u ⟨i,c⟩ d4;have S7:=t.trans c;obtain⟨ab4,aJK,cs4,u04,vX,q1,q2,q3,q4,q5,q6⟩:=N u S7;have y9:((kr name 2:Nat):Int)+1=((kr name 2+1:Nat):Int):=zo;refine dC @q1 @q2 @q4 y9 ?_;have W:(k.add op).cS=k.cS+op.length:=Ws.oO ..;cases z:ku tr f p (kr name 2+1) (k.add op) with
     | none=>simp [z,Wb] at hr
     | some r2=>
     simp only[z,Wb,aZ9] at hr;refine a0c ((ih f (a0d _)).tm hx ⟨_,i⟩ q6 IF zo (oA L) z) ?_;rintro e w5 mB;have Q:=mB.of (B':=s.cS+30) S7 zo;subst hr;cases r2 with
     | none=>
      obtain⟨g1,rfl,g2⟩:=Q;exact⟨g1,J,g2⟩
     | some K=>
      obtain⟨g1,rfl,g2⟩:=Q;exact⟨g1,J,g2⟩
section
variable{D:Nat->Prop}{ρ:Nat->Nat}{n sb so T:Nat}{cs:Array Y}
def aJN(N:vu so T cs)(E:i<n):∀ (f:Nat) {tv v:Y} {w:Z} {s:Sr} {t:Tm} {r:Except jE (Bool×Sr)},gU D ρ n sb so T cs tv w s->dL ρ n w v t->ef t->s.fuel<=1000000000->yT f i t s=O r ->
  Calls a95 221 #[pq sb so,pp (ρ i),v] w (EPost D w (wU D ρ n sb so T cs) r):=by
 intro f;induction f using a2f with
 | _ f ih=>
 intro tv v w s t r h hv Q F hr;cases f with
 | zero=>simp [yT] at hr
 | succ f=>
 rw[yT] at hr;refine aI6 ?_;refine(M3 h N F).mono ?_;rintro e w1 ⟨l,c⟩;by_cases H:s.fuel=0
 .rw[zip H] at hr c;injection hr with hr;subst hr c;simp only[ends,PC];exact⟨l,J⟩
 rw[bX H] at hr c;obtain⟨rfl,c⟩:=c;have R:=hv.bI l.toT;refine bD ?_;cases hw:fA s.tr f t with
 | none=>rw[hw] at hr;cases hr
 | some S=>
 rw[hw] at hr;refine a0c (GJ c.sv R (f:=f) (by exact hw)) ?_;rintro e w2 ⟨rfl,u,rfl,hu⟩;have U:=tj h.ok Q hw;cases S with
 | atom a=>
  unfold dH at hu;subst hu;cases hr;refine bD ?_;exact⟨l,J,_,c⟩
 | int a=>
  unfold dH at hu;subst hu;cases hr;refine bD ?_;exact⟨l,J,_,c⟩
 | var j=>
  unfold dH at hu;obtain⟨z,rfl⟩:=hu;cases hr;obtain⟨ref,g1,-⟩:=c.sv.var j z;obtain⟨Xk,g2,-⟩:=c.sv.var i E;refine bD ?_;rw[awm zk g1 g2];refine⟨l,?_,_,c⟩;simp only[Ending.returned.injEq,Value.bool.injEq,decide_eq_decide];exact⟨fun e=>c.sv.inj _ _ z E e,zg⟩
 | comp name args=>
  obtain⟨b,av,vs,rfl,-,-⟩:=by unfold dH at hu;exact hu
  obtain⟨ao,cap,W,X⟩:=E9 hu;unfold ef at U;refine cG W ?_;refine⟨fun m x w'=>∃ j o I,x 29=zi (j:Nat)/\j<=args.length/\m=args.length-j/\gU D ρ n sb so T cs I w' o/\dc D w2 w'/\o.fuel<=1000000000/\(∃ g,g<=f/\Am g i (args.drop j) o=O r),
   ⟨_,0,_,_,J,a0r _,J,c,yF,a0f (a1R _ _) F,f,a0d _,hr⟩,?_⟩
  intro m x d w3 hI;refine toPr ?_;obtain⟨j,o,I,hx,z,rfl,K,L,EH,g,hg,k⟩:=hI;cases g with
  | zero=>simp [Am] at k
  | succ g=>
  by_cases hlt:j<args.length
  .rw[a0h hlt,Am] at k;obtain⟨ab,S5,v3,rfl,mf,ID,DZ⟩:=X j hlt;have Xo:=L.bI (by unfold lC;decide) mf;have B:=DZ.bI L.toT;have ej:((j:Nat):Int).toNat=j:=zo;refine dC hx @ej Xo ID ?_;cases q:yT g i args[j] o with
   | none=>rw[q] at k;cases k
   | some r1=>
   refine a0c (ih g zo K B (by grind [IB]) EH q) ?_;rintro e w4 ⟨fZ,y⟩;rw[q] at k;cases r1 with
   | error t=>
    cases k;have y:e=gV t:=y;subst y;cases t<;>exact⟨yF,J⟩
   | ok p=>
    obtain⟨b1,s4⟩:=p;obtain⟨rfl,C,M⟩:=y;simp only[P.Out.eh] at k;have hfu:=((Io g).tm q).2;cases b1 with
    | true=>
     cases k;refine bD ?_;exact⟨yF,J,_,M⟩
    | false=>
     refine cG hx ?_;refine⟨_,zo,j+1,s4,C,zs,zo,J,M,yF,?_,g,zo,zg⟩;grind
  .have Bj:j=args.length:=zo;subst Bj;rw[a01,Am] at k;cases k;refine cG hx ?_;exact⟨yF,J,_,K⟩
def aJQ(g:vu so T cs)(j:i<n){s:Sr}{r:Except jE (Bool×Sr)}(h:gU D ρ n sb so T cs tv w s)(hD:∀ b,w.heap.size<=b->D b)(hv:dL ρ n w v t)(k:ef t)(o:s.fuel<=1000000000)
  (y:i ∉ s.tr.map (·.1)) (z:s.tr.length<=900000000) (hr:tz f i t s=O r) :
  Calls a95 216 #[pq sb so,pp (ρ i),v] w (EPost D w (wU D ρ n sb so T cs) r):=by
 refine aI7 ?_;unfold tz at hr;cases a:yT f i t s with
 | none=>rw[a] at hr;cases hr
 | some q=>
 rw[a] at hr;refine a0c (aJN g j f h hv k o a) ?_;rintro e w1 ⟨c,d⟩;cases q with
 | error t=>
  cases hr;have d:e=gV t:=d;subst d;cases t<;>exact⟨c,J⟩
 | ok p=>
  obtain⟨b1,s1⟩:=p;obtain⟨rfl,B,l⟩:=d;have m:=((Io f).tm a).1;have m:s1.tr=s.tr:=m;simp only[P.Out.eh] at hr;cases b1 with
  | true=>
   cases hr;refine bD ?_;exact⟨c,J,_,l⟩
  | false=>
   cases hr;refine bD ?_;refine a0c (anC l g (fun b u=>hD b (a0f c.size u)) j (by grind [P.Pw]) zg (hv.bI c.toT) k zg) ?_;rintro e w2 ⟨rfl,C,E,x⟩;refine bD ?_;exact⟨yF,J,_,x⟩
end
section
variable{D:Nat->Prop}{ρ:Nat->Nat}{n sb so T:Nat}{cs:Array Y}
def adL{a b:Tm}(g:Ck ρ n tr w)(f:dL ρ n w u a)(c:dL ρ n w v b)(p:¬ (Be a=A/\Be b=A)){x:Operand} :
  RD a95 (bo .eql 89 x y u v) w K X=K (.bool (P.flat a b)):=by
 have d:yp a95 89=true:=zk;cases a with
 | atom a=>
  unfold dL dH at f;subst f;cases b with
  | atom b=>
   unfold dL dH at c;subst c;rw[awj d zk zk];grind [decide,P.flat]
  | int b=>unfold dL dH at c;subst c;exact C5 d zg _ _
  | var b=>unfold dL dH at c;obtain⟨_,rfl⟩:=c;exact C5 d zg _ _
  | comp m l=>unfold dL dH at c;obtain⟨_,_,_,rfl,-⟩:=c;exact C5 d zg _ _
 | int a=>
  unfold dL dH at f;subst f;cases b with
  | atom b=>unfold dL dH at c;subst c;exact C5 d zg _ _
  | int b=>
   unfold dL dH at c;subst c;rw[awk d zk zk];grind [decide,P.flat]
  | var b=>unfold dL dH at c;obtain⟨_,rfl⟩:=c;exact C5 d zg _ _
  | comp m l=>unfold dL dH at c;obtain⟨_,_,_,rfl,-⟩:=c;exact C5 d zg _ _
 | var i=>
  unfold dL dH at f;obtain⟨k,rfl⟩:=f;cases b with
  | atom b=>unfold dL dH at c;subst c;exact C5 d zg _ _
  | int b=>unfold dL dH at c;subst c;exact C5 d zg _ _
  | var j=>
   unfold dL dH at c;obtain⟨o,rfl⟩:=c;obtain⟨r,g1,-⟩:=g.var i k;obtain⟨s,g2,-⟩:=g.var j o;rw[awl d zk zk g1 g2];have:decide (ρ i=ρ j)=P.flat (.var i) (.var j):=by
    rw[P.flat];by_cases h:i=j
    .subst h;simp
    .have q:ρ i≠ρ j:=fun e=>h (g.inj i j k o e);simp [h,q]
   rw[this]
  | comp m l=>unfold dL dH at c;obtain⟨_,_,_,rfl,-⟩:=c;exact C5 d zg _ _
 | comp m l=>
  unfold dL dH at f;obtain⟨_,_,_,rfl,-⟩:=f;cases b with
  | atom b=>unfold dL dH at c;subst c;exact C5 d zg _ _
  | int b=>unfold dL dH at c;subst c;exact C5 d zg _ _
  | var j=>unfold dL dH at c;obtain⟨_,rfl⟩:=c;exact C5 d zg _ _
  | comp m' l'=>exact absurd ⟨J,J⟩ p
theorem dH.other{a:Tm}(b:dL ρ n w u a)(c:P.isVar a=G)(d:Be a=G):∃ ut x,u = aj ut x/\¬ ut=87/\¬ ut=175:=by
 cases a with
 | atom a=>unfold dL dH at b;grind
 | int a=>unfold dL dH at b;grind
 | var a=>cases c
 | comp a l=>cases d
def Pz(hf:vu so T cs):∀ (f:Nat) {tv v u:Y} {w:Z} {s:Sr} {a b:Tm} {r:Except jE (Bool×Sr)},gU D ρ n sb so T cs tv w s->(∀ b,w.heap.size<=b->D b)->dL ρ n w u a->ef a->dL ρ n w v b->ef b ->
  s.cS<=900000000->lH f a b s=O r ->
  Calls a95 210 #[pq sb so,u,v] w (EPost D w (wU D ρ n sb so T cs) r):=by
 intro f;induction f using a2f with
 | _ f ih=>
 intro tv v u w s a b r h hD ha IE N PA hz hr;have JH:s.tr.length+s.fuel<=900000000:=hz;cases f with
 | zero=>simp [lH] at hr
 | succ f=>
 rw[lH] at hr;refine aI8 ?_;refine(M3 h hf zo).mono ?_;rintro e w1 ⟨K,q⟩;by_cases h0:s.fuel=0
 .rw[zip h0] at hr q;injection hr with hr;subst hr q;simp only[ends,PC];exact⟨K,J⟩
 rw[bX h0] at hr q;obtain⟨rfl,q⟩:=q;have uL:=ha.bI K.toT;have iT:=N.bI K.toT;have hD1:∀ b,w1.heap.size<=b->D b:=fun b N=>hD b (a0f K.size N);have hdt:s.dec.tr=s.tr:=rfl;refine bD ?_;cases Q:fA s.tr f a with
 | none=>rw[Q] at hr;simp at hr
 | some a'=>
 cases W:fA s.tr f b with
 | none=>rw[Q,W] at hr;cases a'<;>simp at hr
 | some o=>
 rw[Q,W] at hr;refine a0c (GJ q.sv uL (f:=f) (by exact Q)) ?_;rintro e w2 ⟨rfl,ua,rfl,C⟩;refine bD ?_;refine a0c (GJ q.sv iT (f:=f) (by exact W)) ?_;rintro e w3 ⟨rfl,ub,rfl,E⟩;have Xq:=tj h.ok IE Q;have S8:=tj h.ok PA W;have Cc:∀ {i:Nat} {t:Tm} {x:Y} {w':Z},P.look i s.tr=V->i<n->dL ρ n w' x t->ef t->gU D ρ n sb so T cs tv w' s.dec->dc D w w'->tz f i t s.dec=O r ->
   Calls a95 216 #[pq sb so,pp (ρ i),x] w' (EPost D w (wU D ρ n sb so T cs) r):=fun{i t x w'} hl hi hx de hs hE F=>
  (aJQ hf hi hs (fun b N=>hD b (a0f hE.size N)) hx de (a0f (a1R _ _) zo) (acB hl) zg F).mono fun e w' H=>H.of hE
 by_cases M:P.isVar a'=A
 .cases a' with
  | atom a=>cases M
  | int a=>cases M
  | comp a l=>cases M
  | var i=>
  have wO:=Ip Q;unfold dL dH at C;obtain⟨hi,rfl⟩:=C;refine bD ?_;have Ky:dL ρ n w3 (aj 87 (pp (ρ i))) (.var i):=by unfold dL dH;grind
  rw[adL q.sv Ky E (by rintro ⟨h,_⟩;cases h)];by_cases z:P.isVar o=A
  .cases o with
   | atom a=>cases z
   | int a=>cases z
   | comp a l=>cases z
   | var j=>
   simp only[P.flat] at hr ⊢;by_cases nG:i=j
   .rw[zip nG] at hr;cases hr;have:(i == j)=true:=zg;refine cG @this ?_;exact⟨K,J,_,q⟩
   .rw[bX nG] at hr;have:(i == j)=false:=zg;refine cG @this ?_;refine a0c (Cc wO hi E S8 q K hr) ?_;exact fun e I H=>H.SW
  .have iz:P.flat (.var i) o=false:=by cases o<;>first | rfl | exact absurd J z
   rw[iz];have hr:tz f i o s.dec=O r:=by
    grind
   refine bD ?_;refine a0c (Cc wO hi E S8 q K hr) ?_;exact fun e I H=>H.SW
 .have M:P.isVar a'=false:=zg;have aJR:∃ ut x,ua = aj ut x/\¬ ut=87:=by
   cases a' with
   | atom a=>unfold dL dH at C;grind
   | int a=>unfold dL dH at C;grind
   | var a=>cases M
   | comp a l=>unfold dL dH at C;grind
  obtain⟨ut,ux,rfl,X⟩:=aJR;by_cases z:P.isVar o=A
  .cases o with
   | atom a=>cases z
   | int a=>cases z
   | comp a l=>cases z
   | var j=>
   have wO:=Ip W;unfold dL dH at E;obtain⟨hj,rfl⟩:=E;have hr:tz f j a' s.dec=O r:=by
    cases a' with
    | var j=>cases M
    | atom x=>omega
    | int x=>omega
    | comp x l=>omega
   refine cG X ?_;refine a0c (Cc wO hj C Xq q K hr) ?_;exact fun e I H=>H.SW
  have z:P.isVar o=false:=zg;have aJS:∃ vt x,ub = aj vt x/\¬ vt=87:=by
   cases o with
   | atom a=>unfold dL dH at E;grind
   | int a=>unfold dL dH at E;grind
   | var a=>cases z
   | comp a l=>unfold dL dH at E;grind
  obtain⟨vt,vx,rfl,Xt⟩:=aJS;by_cases qh:Be a'=A/\Be o=A
  .obtain⟨B,L⟩:=qh;cases a' with
   | atom a=>cases B
   | int a=>cases B
   | var a=>cases B
   | comp name l=>
   cases o with
   | atom a=>cases L
   | int a=>cases L
   | var a=>cases L
   | comp Cq l'=>
   simp only at hr;obtain⟨ba,ava,vsa,Nb,-,-⟩:=by unfold dL dH at C;exact C
   obtain⟨bb,avb,vsb,KF,-,-⟩:=by unfold dL dH at E;exact E
   injection Nb with e1 e2;injection KF with e3 e4;subst e1 e2 e3 e4;obtain⟨ao,cap,B,adP⟩:=E9 C;obtain⟨bo',aJW,L,adQ⟩:=E9 E;refine dC X Xt B L ?_;refine⟨fun x w'=>w'=w3,?_,?_⟩
   .refine⟨fun x w'=>w'=w3/\x 63 = .bool G,?_,?_⟩
    .exact eQ
    .rintro x w' ⟨rfl,hx⟩ d;exact fg hx
   .rintro x w' rfl d;have S9:=(bz.drew (bz.refl (fun _ _=>False) w')).block _ _ B (fun h=>h);have II:=(bz.drew (bz.refl (fun _ _=>False) w')).block _ _ L (fun h=>h);refine⟨fun x R=>Ext w' R/\name=Cq/\l.length=l'.length,?_,?_⟩
    .refine⟨fun x R=>Ext w' R/\x 88 = .bool (decide (¬ (name=Cq/\l.length=l'.length))),?_,?_⟩
     .by_cases hn:name=Cq
      .subst hn;refine dy S9 II ?_;grind [bz.refl,Int.ofNat_inj,bz.drew]
      .refine dy S9 II ?_;exact yF
     .rintro x R ⟨S,hx⟩ d2;by_cases xE:name=Cq/\l.length=l'.length
      .refine dC hx xE @not_true_eq_false @decide_false ?_;exact yF
      .rw[bX xE] at hr;cases hr;refine dC hx xE @not_false_eq_true @decide_true ?_;exact⟨yF,J,_,q.ext S⟩
    .rintro x R ⟨S,rfl,uf⟩ d2;rw[zip ⟨J,uf⟩] at hr;have adR:=S.ext _ _ B;refine cG adR ?_;unfold ef at Xq S8;refine⟨fun m x I=>∃ j sj Fe,x 94=zi (j:Nat)/\j<=l.length/\m=l.length-j/\gU D ρ n sb so T cs Fe I sj/\dc D R I/\sj.cS<=900000000/\(∃ g,g<=f/\nh g (l.drop j) (l'.drop j) sj=O r),
      ⟨_,0,_,_,J,a0r _,J,q.ext S,yF,by grind [Sr.cS,Sr.dec],f,a0d _,hr⟩,?_⟩
     intro m x d I hI;refine toPr ?_;obtain⟨j,sj,Fe,hx,hj,rfl,h4,fZ,AV,g,hg,F⟩:=hI;have GP:dc D w I:=K.trans ((dc.ea S).trans fZ);cases g with
     | zero=>simp [nh] at F
     | succ g=>
     by_cases hlt:j<l.length
     .have qq:j<l'.length:=zo;rw[a0h hlt,a0h qq,nh] at F;obtain⟨ab,S5,v3,rfl,mf,ID,DZ⟩:=adP j hlt;obtain⟨KC,cs4,v4,rfl,adS,adT,vy⟩:=adQ j qq;have Ta:dc D w' I:=(dc.ea S).trans fZ;have sx:dc D w' I.drew:=yF;have kt:∀ (b:Nat) (c:Array Y) (U:Nat),¬ lC U->w'.heap[b]?=aN c U->I.drew.heap[b]?=aN c U:=(by grind [dc.bI]);have q1:=kt _ _ _ (by grind [lC]) B;have q2:=kt _ _ _ (by grind [lC]) L;have q3:=kt _ _ _ (by grind [lC]) mf;have q4:=kt _ _ _ (by grind [lC]) adS;have ej:((j:Nat):Int).toNat=j:=zo;refine dC hx @ej @q1 (zA @q2 (zA @q3 (zA @q4 (zA ID adT)))) ?_;cases fU:lH g l[j] l'[j] sj with
      | none=>rw[fU] at F;cases F
      | some r1=>
      have KG:dc D I I.drew:=dc.ea (bz.drew yF);refine a0c (ih g zo (h4.ext (bz.drew yF)) (fun b N=>hD b (a0f GP.size N)) (DZ.bI sx.toT) (by grind [IB]) (vy.bI sx.toT) (by grind [IB]) AV fU) ?_;rintro e w5 ⟨lX,H⟩;rw[fU] at F;cases r1 with
      | error t=>
       cases F;have H:e=gV t:=H;subst H;cases t<;>exact⟨GP.trans yF,J⟩
      | ok p=>
       obtain⟨b1,s5⟩:=p;obtain⟨rfl,tv5,h5⟩:=H;simp only[P.Out.eh] at F;have Xu:=((EV g).tm fU).1;cases b1 with
       | false=>
        cases F;refine bD ?_;exact⟨GP.trans yF,J,_,h5⟩
       | true=>
        refine cG hx ?_;exact⟨_,zo,j+1,s5,tv5,zs,zo,J,h5,fZ.trans yF,zg,g,zo,zg⟩
     .have Bj:j=l.length:=zo;subst Bj;rw[a01,uf,a01,nh] at F
      .cases F;refine cG hx ?_;exact⟨GP,J,_,h4⟩
      grind
  .have hr:r = .ok (P.flat a' o,s.dec):=by
    cases a' with
    | var i=>cases M
    | atom x=>cases o with
     | var j=>cases z
     | atom y=>grind
     | int y=>grind
     | comp y l=>grind
    | int x=>cases o with
     | var j=>cases z
     | atom y=>grind
     | int y=>grind
     | comp y l=>grind
    | comp x k=>cases o with
     | var j=>cases z
     | atom y=>grind
     | int y=>grind
     | comp y l=>exact absurd ⟨J,J⟩ qh
   subst hr;have kR:∀ {x y:Operand},RD a95 (bo .eql 89 x y (aj ut ux) (aj vt vx)) w3 (fun v=>EPost D w (wU D ρ n sb so T cs) (.ok (P.flat a' o,s.dec)) (ah v) w3) (PX (EPost D w (wU D ρ n sb so T cs) (.ok (P.flat a' o,s.dec)))):=fun{x y}=>by
    rw[adL q.sv C E qh];exact⟨K,J,_,q⟩
   by_cases B:Be a'=A
   .have L:Be o=false:=by
     grind
    obtain⟨_,_,e0,-,IJ⟩:=E.other z L;cases e0;cases a' with
    | atom a=>cases B
    | int a=>cases B
    | var a=>cases B
    | comp name l=>
    obtain⟨ba,ava,vsa,Nb,-,-⟩:=by unfold dL dH at C;exact C
    cases Nb;refine iJ X Xt IJ ?_;refine⟨fun _ _=>False,?_,by rintro _ _ h;exact h.elim⟩;refine⟨fun x w'=>w'=w3/\x 63 = .bool A,?_,?_⟩
    .exact eQ
    .rintro x w' ⟨rfl,hx⟩ d;refine cG hx ?_;exact kR
   .have B:Be a'=false:=zg;obtain⟨_,_,e0,-,Tb⟩:=C.other M B;cases e0;by_cases IJ:vt=175
    .subst IJ;refine iJ X Xt Tb ?_;refine⟨fun _ _=>False,?_,by rintro _ _ h;exact h.elim⟩;refine⟨fun x w'=>w'=w3/\x 63 = .bool A,?_,?_⟩
     .exact eQ
     .rintro x w' ⟨rfl,hx⟩ d;refine cG hx ?_;exact kR
    .refine dC X Xt Tb IJ ?_;refine⟨fun _ _=>False,?_,by rintro _ _ h;exact h.elim⟩;refine⟨fun x w'=>w'=w3/\x 63 = .bool A,?_,?_⟩
     .exact eQ
     .rintro x w' ⟨rfl,hx⟩ d;refine cG hx ?_;exact kR
end
section
variable{D:Nat->Prop}{ρ:Nat->Nat}{n sb so T:Nat}{cs:Array Y}
def aJX(hf:vu so T cs):∀ (f:Nat) {tv v u:Y} {w:Z} {s:Sr} {a b:Tm} {r:Except jE (Bool×Sr)},gU D ρ n sb so T cs tv w s->dL ρ n w u a->ef a->dL ρ n w v b->ef b ->
  s.fuel<=900000000->Cb f a b s=O r ->
  Calls a95 218 #[pq sb so,u,v] w (EPost D w (wU D ρ n sb so T cs) r):=by
 intro f;induction f using a2f with
 | _ f ih=>
 intro tv v u w s a b r h ha IE hb PA hz hr;cases f with
 | zero=>simp [Cb] at hr
 | succ f=>
 rw[Cb] at hr;refine aI9 ?_;refine(M3 h hf zo).mono ?_;rintro e w1 ⟨L,z⟩;by_cases h0:s.fuel=0
 .rw[zip h0] at hr z;injection hr with hr;subst hr z;simp only[ends,PC];exact⟨L,J⟩
 rw[bX h0] at hr z;obtain⟨rfl,z⟩:=z;have uL:=ha.bI L.toT;have iT:=hb.bI L.toT;have hdt:s.dec.tr=s.tr:=rfl;refine bD ?_;cases M:fA s.tr f a with
 | none=>rw[M] at hr;simp at hr
 | some a'=>
 cases R:fA s.tr f b with
 | none=>rw[M,R] at hr;cases a'<;>simp at hr
 | some F=>
 rw[M,R] at hr;refine a0c (GJ z.sv uL (f:=f) (by exact M)) ?_;rintro e w2 ⟨rfl,ua,rfl,H⟩;refine bD ?_;refine a0c (GJ z.sv iT (f:=f) (by exact R)) ?_;rintro e w3 ⟨rfl,ub,rfl,B⟩;have Xq:=tj h.ok IE M;have S8:=tj h.ok PA R;obtain⟨ut,ux,rfl⟩:=H.iface;obtain⟨vt,vx,rfl⟩:=B.iface;by_cases qh:Be a'=A/\Be F=A
 .obtain⟨i,C⟩:=qh;cases a' with
  | atom a=>cases i
  | int a=>cases i
  | var a=>cases i
  | comp name l=>
  cases F with
  | atom a=>cases C
  | int a=>cases C
  | var a=>cases C
  | comp S l'=>
  simp only at hr;obtain⟨ba,ava,vsa,Nb,-,-⟩:=by unfold dL dH at H;exact H
  obtain⟨bb,avb,vsb,KF,-,-⟩:=by unfold dL dH at B;exact B
  injection Nb with e1 e2;injection KF with e3 e4;subst e1 e2 e3 e4;obtain⟨ao,cap,i,adP⟩:=E9 H;obtain⟨bo',aJW,C,adQ⟩:=E9 B;refine dy i C ?_;refine⟨fun x w'=>w'=w3,?_,?_⟩
  .refine⟨fun x w'=>w'=w3/\x 33 = .bool G,?_,?_⟩
   .exact eQ
   .rintro x w' ⟨rfl,hx⟩ d;exact fg hx
  .rintro x w' rfl d;have S9:=(bz.drew (bz.refl (fun _ _=>False) w')).block _ _ i (fun h=>h);have II:=(bz.drew (bz.refl (fun _ _=>False) w')).block _ _ C (fun h=>h);refine⟨fun x I=>Ext w' I/\name=S/\l.length=l'.length,?_,?_⟩
   .refine⟨fun x I=>Ext w' I/\x 58 = .bool (decide (¬ (name=S/\l.length=l'.length))),?_,?_⟩
    .by_cases hn:name=S
     .subst hn;refine dy S9 II ?_;grind [bz.refl,Int.ofNat_inj,bz.drew]
     .refine dy S9 II ?_;exact yF
    .rintro x I ⟨K,hx⟩ d2;by_cases xE:name=S/\l.length=l'.length
     .refine dC hx xE @not_true_eq_false @decide_false ?_;exact yF
     .rw[bX xE] at hr;injection hr with hr;refine dC hx xE @not_false_eq_true @decide_true ?_;rw[<- hr];exact⟨yF,J,_,z.ext K⟩
   .rintro x I ⟨K,rfl,uf⟩ d2;rw[zip ⟨J,uf⟩] at hr;have adR:=K.ext _ _ i;refine cG adR ?_;unfold ef at Xq S8;refine⟨fun m x E=>∃ j N Fe,x 64=zi (j:Nat)/\j<=l.length/\m=l.length-j/\gU D ρ n sb so T cs Fe E N/\dc D I E/\N.fuel<=900000000/\(∃ g,g<=f/\Bc g (l.drop j) (l'.drop j) N=O r),
     ⟨_,0,_,_,J,a0r _,J,z.ext K,yF,by grind [Sr.dec],f,a0d _,hr⟩,?_⟩
    intro m x d E hI;refine toPr ?_;obtain⟨j,N,Fe,hx,hj,rfl,h4,fZ,AV,g,hg,o⟩:=hI;have GP:dc D w E:=L.trans ((dc.ea K).trans fZ);cases g with
    | zero=>simp [Bc] at o
    | succ g=>
    by_cases hlt:j<l.length
    .have qq:j<l'.length:=zo;rw[a0h hlt,a0h qq,Bc] at o;obtain⟨ab,S5,v3,rfl,mf,ID,DZ⟩:=adP j hlt;obtain⟨KC,cs4,v4,rfl,adS,adT,vy⟩:=adQ j qq;have Ta:dc D w' E:=(dc.ea K).trans fZ;have sx:dc D w' E.drew:=yF;have kt:∀ (b:Nat) (c:Array Y) (U:Nat),¬ lC U->w'.heap[b]?=aN c U->E.drew.heap[b]?=aN c U:=(by grind [dc.bI]);have q1:=kt _ _ _ (by grind [lC]) i;have q2:=kt _ _ _ (by grind [lC]) C;have q3:=kt _ _ _ (by grind [lC]) mf;have q4:=kt _ _ _ (by grind [lC]) adS;have ej:((j:Nat):Int).toNat=j:=zo;refine dC hx @ej @q1 (zA @q2 (zA @q3 (zA @q4 (zA ID adT)))) ?_;cases W:Cb g l[j] l'[j] N with
     | none=>rw[W] at o;cases o
     | some r1=>
     have KG:dc D E E.drew:=dc.ea (bz.drew yF);refine a0c (ih g zo (h4.ext (bz.drew yF)) (DZ.bI sx.toT) (by grind [IB]) (vy.bI sx.toT) (by grind [IB]) AV W) ?_;rintro e w5 ⟨lX,X⟩;rw[W] at o;cases r1 with
     | error t=>
      cases o;have X:e=gV t:=X;subst X;cases t<;>exact⟨GP.trans yF,J⟩
     | ok p=>
      obtain⟨b1,s5⟩:=p;obtain⟨rfl,tv5,h5⟩:=X;simp only[P.Out.eh] at o;have Xu:=((SF g).tm W).2;cases b1 with
      | false=>
       cases o;refine bD ?_;exact⟨GP.trans yF,J,_,h5⟩
      | true=>
       refine cG hx ?_;exact⟨_,zo,j+1,s5,tv5,zs,zo,J,h5,fZ.trans yF,zg,g,zo,zg⟩
    .have Bj:j=l.length:=zo;subst Bj;rw[a01,uf,a01,Bc] at o
     .cases o;refine cG hx ?_;exact⟨GP,J,_,h4⟩
     grind
 .have hr:r = .ok (P.flat a' F,s.dec):=by
   cases a' with
   | comp x k=>cases F with
    | comp y l=>exact absurd ⟨J,J⟩ qh
    | _=>exact zg
   | _=>exact zg
  subst hr;have kR:∀ {x y:Operand},RD a95 (bo .eql 89 x y (aj ut ux) (aj vt vx)) w3 (fun v=>EPost D w (wU D ρ n sb so T cs) (.ok (P.flat a' F,s.dec)) (ah v) w3) (PX (EPost D w (wU D ρ n sb so T cs) (.ok (P.flat a' F,s.dec)))):=fun{x y}=>by
   rw[adL z.sv H B qh];exact⟨L,J,_,z⟩
  have Q:∀ {u:Nat} {x:Y} {t:Tm},dL ρ n w3 (aj u x) t->Be t=G->¬ u=175:=fun{u x t} h hc=>by
   cases t with
   | atom a=>unfold dL dH at h;grind
   | int a=>unfold dL dH at h;grind
   | var a=>unfold dL dH at h;grind
   | comp a l=>cases hc
  by_cases i:Be a'=A
  .have C:Be F=false:=by
    grind
   have IJ:=Q B C;cases a' with
   | atom a=>cases i
   | int a=>cases i
   | var a=>cases i
   | comp name l=>
   obtain⟨ba,ava,vsa,Nb,-,-⟩:=by unfold dL dH at H;exact H
   cases Nb;refine cG IJ ?_;refine⟨fun _ _=>False,?_,by rintro _ _ h;exact h.elim⟩;refine⟨fun x w'=>w'=w3/\x 33 = .bool A,?_,?_⟩
   .exact eQ
   .rintro x w' ⟨rfl,hx⟩ d;refine cG hx ?_;exact kR
  .have i:Be a'=false:=zg;have Tb:=Q H i;by_cases IJ:vt=175
   .subst IJ;obtain⟨q,o⟩:∃ q,vx = .pointer q:=by
     cases F with
     | atom a=>unfold dL dH at B;grind
     | int a=>unfold dL dH at B;grind
     | var a=>unfold dL dH at B;grind
     | comp a l=>unfold dL dH at B;grind
    subst o;refine cG Tb ?_;refine⟨fun _ _=>False,?_,by rintro _ _ h;exact h.elim⟩;refine⟨fun x w'=>w'=w3/\x 33 = .bool A,?_,?_⟩
    .exact eQ
    .rintro x w' ⟨rfl,hx⟩ d;refine cG hx ?_;exact kR
   .refine dy Tb IJ ?_;refine⟨fun _ _=>False,?_,by rintro _ _ h;exact h.elim⟩;refine⟨fun x w'=>w'=w3/\x 33 = .bool A,?_,?_⟩
    .exact eQ
    .rintro x w' ⟨rfl,hx⟩ d;refine cG hx ?_;exact kR
end
def Tc(z:Int):IntKind.i64.wrap z=P.wrap64 z:=by
 grind [IntKind.wrap,IntKind.bits,IntKind.signed,P.wrap64]
def Tryz.aJY(a b:Bool)(w:Z):(Op.equalIn Op.maxDepth 4 (.bool a) (.bool b)).run a95 w = .ok (a == b) w:=by
 cases a<;>cases b<;>kernel_rfl
def aJZ{x:Operand}(a b:Bool):RD a95 (bo .neq 4 x y (.bool a) (.bool b)) w K X=K (.bool (decide (a≠b))):=
 gW (by
  simp [bo,eqGuard,binOp,Op.equal,Sem.run_bind,Tryz.aJY];grind)
def aJ0(name:Bs)(a b:Int)(w:Z):Calls a95 222 #[.string (bs name),zi a,zi b] w fun e w'=>Ext w w'/\e=(match P.reckon name a b with | .ok z=>ah (zi z) | .error t=>gV t):=by
 refine aJa ?_;unfold P.reckon;by_cases i:name=[43]
 .subst i;refine bD ?_;rw[Tc];exact yF
 rw[bX i];by_cases j:name=[45]
 .subst j;refine bD ?_;rw[Tc];exact yF
 rw[bX j];by_cases k:name=[42]
 .subst k;refine bD ?_;rw[Tc];exact yF
 rw[bX k];refine iJ i j k ?_;by_cases c:b=0
 .rw[zip c];refine⟨fun _ _=>False,?_,by rintro _ _ h;exact h.elim⟩;refine cG c ?_;exact⟨yF,J⟩
 rw[bX c];refine⟨fun _ w'=>w'=w,?_,?_⟩
 .exact fg c
 .rintro s w' rfl d;by_cases l:name=[47,47]
  .subst l;refine bD ?_;rw[awo _ _ _ c,Tc];exact yF
  rw[bX l];refine cG l ?_;rw[aiz _ _ _ c];obtain⟨m,hm⟩:=b9 (a.tmod b);rw[<- hm];refine⟨fun s w1=>w1=w'/\s 7=zi (if m≠0/\(decide (m<0)≠decide (b<0)) then P.wrap64 (m+b) else m),?_,?_⟩
  .refine⟨fun s w1=>w1=w'/\s 43 = .bool (decide (m≠0/\(decide (m<0)≠decide (b<0)))),?_,?_⟩
   .by_cases n:m=0
    .refine cG n ?_;simp
    .refine cG n ?_;rw[aJZ];grind [jg]
   .rintro s w1 ⟨rfl,f⟩ d;by_cases g:m≠0/\(decide (m<0)≠decide (b<0))
    .rw[zip g];rw[decide_eq_true g] at f;exact lT f @Tc
    .rw[bX g];rw[decide_eq_false g] at f;exact fg f
  exact yF
section
variable{D:Nat->Prop}{ρ:Nat->Nat}{n sb so T:Nat}{cs:Array Y}
abbrev StN(D:Nat->Prop)(ρ:Nat->Nat)(n sb so T:Nat)(cs:Array Y)(p:Int×Sr)(e:Ending)(w':Z):Prop:=
 e = ah (zi p.1)/\∃ tv,gU D ρ n sb so T cs tv w' p.2
def adV(hf:vu so T cs):∀ (f:Nat) {tv v:Y} {w:Z} {s:Sr} {t:Tm} {r:Except jE (Int×Sr)},gU D ρ n sb so T cs tv w s->dL ρ n w v t->ef t->s.fuel<=1000000000->ue f t s=O r ->
  Calls a95 219 #[pq sb so,v] w (EPost D w (StN D ρ n sb so T cs) r):=by
 intro f;induction f using a2f with
 | _ f ih=>
 intro tv v w s t r h hv de E hr;cases f with
 | zero=>simp [ue] at hr
 | succ f=>
 rw[ue] at hr;refine aJb ?_;refine(M3 h hf E).mono ?_;rintro e w1 ⟨k,d⟩;by_cases L:s.fuel=0
 .rw[zip L] at hr d;injection hr with hr;subst hr d;simp only[ends,PC];exact⟨k,J⟩
 rw[bX L] at hr d;obtain⟨rfl,d⟩:=d;have kH:=hv.bI k.toT;refine bD ?_;cases hw:fA s.tr f t with
 | none=>rw[hw] at hr;cases hr
 | some t'=>
 rw[hw] at hr;refine a0c (GJ d.sv kH (f:=f) (by exact hw)) ?_;rintro e w2 ⟨rfl,u,rfl,hu⟩;have M:=tj h.ok de hw;cases t' with
 | atom a=>
  unfold dH at hu;subst hu;cases hr;refine bD ?_;exact⟨k,J⟩
 | int a=>
  unfold dH at hu;subst hu;cases hr;refine bD ?_;exact⟨k,J,_,d⟩
 | var j=>
  unfold dH at hu;obtain⟨hj,rfl⟩:=hu;cases hr;refine bD ?_;exact⟨k,J⟩
 | comp name args=>
  obtain⟨b,av,vs,rfl,-,-⟩:=by unfold dH at hu;exact hu
  obtain⟨ao,cap,gF,N⟩:=E9 hu;unfold ef at M;have II:=(bz.drew (bz.refl (fun _ _=>False) w2)).block _ _ gF (fun h=>h);refine cG II ?_;refine a0c (ano name args.length w2.drew) ?_;rintro e w3 ⟨rfl,rfl⟩;refine bD ?_;have sH:dc D w w2.drew:=yF;have fy:kr name args.length≠0->args.length=2:=fun h=>by
   unfold kr at h;grind
  by_cases o:kr name args.length=0
  .have hr:r = .error (.fault 8):=by
    grind
   subst hr;have g:¬ (0:Int)<((kr name args.length:Nat):Int):=zo;refine cG g ?_;exact⟨sH,J⟩
  .obtain⟨x,y,rfl⟩:∃ x y,args=[x,y]:=by
    have:=fy o
    match args,this with
    | [x,y],_=>grind
   have o:kr name 2≠0:=o;simp only[zip o] at hr;have g:(0:Int)<((kr name [x,y].length:Nat):Int):=by
    omega
   refine cG g ?_;obtain⟨ab,y7,v0,rfl,mf,F,Pb⟩:=N 0 zs;obtain⟨KC,y8,v1,Q,l,Td,H⟩:=N 1 zs;have Q:ab=KC:=zg;subst Q;rw[mf] at l;cases l;have R:Ext w2 w2.drew.drew:=yF;have I:∀ {w':Z},dc D w2 w'->w'.heap[b]?=aN #[aM name,.slice (O ⟨ab,0,V⟩) [x,y].length cap] 180:=(by grind [lC,dc.bI]);have S:∀ {w':Z},dc D w2 w'->w'.heap[ab]?=aN y7 89:=(by grind [lC,dc.bI]);refine⟨fun w'=>dc D w2 w',yF,?_⟩;refine toPr ?_;refine bD ?_;refine cQ (pp b) (fun w' c=>eQ) ?_;refine cQ (aM name) (fun w' c=>by have:=I c;exact fg @this) ?_;refine bD ?_;refine cQ (pq b 1) (fun w' c=>eQ) ?_;refine cQ (.slice (O ⟨ab,0,V⟩) [x,y].length cap) (fun w' c=>by have:=I c;exact fg @this) ?_;refine cQ (pp ab) (fun w' c=>eQ) ?_;refine cQ v0 (fun w' c=>by have:=S c;exact lT @this F) ?_;refine bD ?_;refine cQ (pq b 1) (fun w' c=>eQ) ?_;refine cQ (.slice (O ⟨ab,0,V⟩) [x,y].length cap) (fun w' c=>by have:=I c;exact fg @this) ?_;refine cQ (pq ab 1) (fun w' c=>eQ) ?_;refine cQ v1 (fun w' c=>by have:=S c;exact lT @this Td) ?_;have sx:dc D w w2.drew.drew:=yF;have i:=Im M.2.2;cases p:ue f x s.dec with
   | none=>rw[p] at hr;cases hr
   | some r1=>
   rw[p] at hr;refine a0c (ih f zo (d.ext R) (Pb.bI (qT.ea R)) i.1 (a0f (a1R _ _) E) p) ?_;rintro e w5 ⟨lX,q⟩;cases r1 with
   | error t=>
    cases hr;have q:e=gV t:=q;subst q;cases t<;>exact fun _=>⟨yF,J⟩
   | ok p1=>
   obtain⟨U,s1⟩:=p1;obtain⟨rfl,KE,g1⟩:=q;obtain⟨t1,t2,t3⟩:=DC f (s:=s.dec) h.ok i.1 p;have W:dc D w2 w5:=yF;refine⟨W,?_⟩;simp only[P.Out.eh] at hr;cases K:ue f y s1 with
   | none=>rw[K] at hr;cases hr
   | some r2=>
   rw[K] at hr;have dX:s1.fuel<=1000000000:=a0f t2 (a0f (a1R _ _) E);refine a0c (ih f zo g1 (H.bI W.toT) i.2 dX K) ?_;rintro e w6 ⟨jX,B⟩;cases r2 with
   | error t=>
    cases hr;have B:e=gV t:=B;subst B;cases t<;>exact fun _=>⟨yF,J⟩
   | ok p2=>
   obtain⟨z2,s2⟩:=p2;obtain⟨rfl,xO,g2⟩:=B;refine⟨yF,?_⟩;simp only[P.Out.eh] at hr;refine a0c (aJ0 name U z2 w6) ?_;rintro e w7 ⟨Gl,C⟩;have m:dc D w w7:=yF;cases X:P.reckon name U z2 with
   | error t=>
    rw[X] at hr C;injection hr with hr;subst hr C;cases t<;>exact fun _=>⟨m,J⟩
   | ok z=>
    rw[X] at hr C;injection hr with hr;subst hr C;exact⟨m,J,_,g2.ext Gl⟩
end
def fD.at'{a:TypeId}(h:fD F w a v vs)(c:j<vs.length):∃ b cs,v = cM b vs.length cs.size/\F b/\w.heap[b]?=aN cs a/\cs[j]?=vs[j]?:=by
 rcases h with⟨rfl,rfl⟩| ⟨b,cs,rfl,g1,g2,g3,g4⟩<;>grind
theorem fD.sl{d:TypeId}(h:fD F w d v vs):∃ a c,v = .slice a vs.length c:=by
 rcases h with⟨rfl,rfl⟩| ⟨b,cs,rfl,g1,g2,g3,g4⟩
 .exact⟨_,_,J⟩
 grind
section
variable{D:Nat->Prop}{ρ:Nat->Nat}{n sb so T:Nat}{cs:Array Y}
def aJ3(name:Bs)(h:dL ρ n w v t):Calls a95 220 #[aM name,v] w fun e w'=>e = ah (.bool (O3 name t))/\w'=w:=by
 refine aJc ?_;cases t with
 | atom a=>
  unfold dL dH at h;subst h;unfold O3;by_cases b:name=[110,111,110,118,97,114]
  .refine cG b ?_;simp
  .refine cG b ?_;grind
 | int a=>
  unfold dL dH at h;subst h;unfold O3;by_cases b:name=[110,111,110,118,97,114]
  .refine cG b ?_;simp
  .refine cG b ?_;grind
 | var i=>
  unfold dL dH at h;obtain⟨-,rfl⟩:=h;unfold O3;refine bD ?_;grind
 | comp a l=>
  unfold dL dH at h;obtain⟨_,_,_,rfl,-⟩:=h;unfold O3;refine bD ?_;grind
def adZ{args:List Tm}(c:fD (fun _=>True) w 89 av vs)(ht:pE ρ n w vs args)(d:j<args.length) :
  ∃ ab cap a v,av = cM ab args.length cap/\w.heap[ab]?=aN a 89/\a[j]?=O v/\dL ρ n w v args[j]:=by
 have e:=ht.length;obtain⟨v,f,g⟩:=ht.at j d;obtain⟨b,a,h,-,i,k⟩:=c.at' (j:=j) zo;exact⟨b,a.size,a,v,by rw[h,e],i,by rw[k];exact f,g⟩
def anO(o:vu so T cs){s:Sr}{name:Bs}{args:List Tm}{r:Except jE (Bool×Sr)}(h:gU D ρ n sb so T cs tv w s)(hD:∀ b,w.heap.size<=b->D b)
  (ha:fD (fun _=>True) w 89 av vs) (ht:pE ρ n w vs args) (de:ji args) (Q:jK name=args.length) (hz:s.cS<=900000000) (hr:xI f name args s=O r) :
  Calls a95 213 #[pq sb so,aM name,av] w (EPost D w (wU D ρ n sb so T cs) r):=by
 have JH:s.tr.length+s.fuel<=900000000:=hz;have c:Ext w w.drew:=yF;have I:∀ b,w.drew.heap.size<=b->D b:=hD;have two:args.length=2->∃ ab cap q v0 v1,av = cM ab 2 cap/\w.heap[ab]?=aN q 89/\q[0]?=O v0/\q[1]?=O v1 /\
   dL ρ n w v0 (args.getD 0 default)/\dL ρ n w v1 (args.getD 1 default)/\ef (args.getD 0 default)/\ef (args.getD 1 default):=fun hl=>by
  obtain⟨x,y,rfl⟩:∃ x y,args=[x,y]:=match args,hl with
   | [x,y],_=>zg
  obtain⟨ab,cap,y7,v0,e0,g0,i,t0⟩:=adZ ha ht (j:=0) zo;obtain⟨KC,rk,y8,v1,e1,g1,k,t1⟩:=adZ ha ht (j:=1) zo;rw[e0] at e1;simp only[Value.slice.injEq,aZ9,Addr.mk.injEq,and_true,true_and] at e1;obtain⟨rfl,rfl⟩:=e1;grind [Im]
 refine aJd ?_;unfold xI at hr;by_cases R:name=[116,114,117,101]
 .subst R;rw[zip rfl] at hr;cases hr;refine⟨fun _ _=>False,?_,by rintro _ _ h;exact h.elim⟩;refine bD ?_;exact⟨yF,J,_,h⟩
 rw[bX R] at hr;by_cases S:name=[61]
 .subst S;rw[zip rfl] at hr;obtain⟨ab,cap,q,v0,v1,rfl,g0,i,k,t0,t1,l,o1⟩:=two (by have:(2:Int)=args.length:=Q;omega);have E:=c.ext _ _ g0;refine⟨fun _ _=>False,?_,by rintro _ _ h;exact h.elim⟩;refine iJ @E @i @k ?_;refine a0c (Pz o f (h.ext c) I (t0.bI (qT.ea c)) l (t1.bI (qT.ea c)) o1 hz hr) ?_;exact fun e w4 a=>(a.of yF).SW
 rw[bX S] at hr;by_cases U:name=[92,61]
 .subst U;rw[zip rfl] at hr;obtain⟨ab,cap,q,v0,v1,rfl,g0,i,k,t0,t1,l,o1⟩:=two (by have:(2:Int)=args.length:=Q;omega);refine⟨fun _ _=>False,?_,by rintro _ _ h;exact h.elim⟩;refine bD ?_;refine a0c (SY h o) ?_;rintro e w1 ⟨rfl,rfl⟩;have c:Ext w1 w1.drew:=yF;have E:=c.ext _ _ g0;refine dC @E @g0 @i @k ?_;cases g:lH f (args.getD 0 default) (args.getD 1 default) s with
  | none=>rw[g] at hr;cases hr
  | some K=>
  rw[g] at hr;refine a0c (Pz o f (h.ext c) I (t0.bI (qT.ea c)) l (t1.bI (qT.ea c)) o1 hz g) ?_;rintro e w2 ⟨L,a⟩;cases K with
  | error t=>
   cases hr;have a:e=gV t:=a;subst a;cases t<;>exact⟨(dc.ea c).trans L,J⟩
  | ok p=>
   obtain⟨b1,s1⟩:=p;obtain⟨rfl,KE,F⟩:=a;cases hr;have hsu:=(MM f).tm g;have Xu:=((EV f).tm g).1;have aVw:s1.tr.length+s1.fuel<=s.tr.length+s.fuel:=Xu;refine bD ?_;refine a0c (adx F o hsu.length_le zg) ?_;rintro e w3 ⟨rfl,eI,tv3,h3⟩;refine bD ?_;exact⟨(dc.ea c).trans yF,J,_,h3⟩
 rw[bX U] at hr;by_cases W:name=[61,61]
 .subst W;rw[zip rfl] at hr;obtain⟨ab,cap,q,v0,v1,rfl,g0,i,k,t0,t1,l,o1⟩:=two (by have:(2:Int)=args.length:=Q;omega);have E:=c.ext _ _ g0;refine⟨fun _ _=>False,?_,by rintro _ _ h;exact h.elim⟩;refine iJ @E @i @k ?_;refine a0c (aJX o f (h.ext c) (t0.bI (qT.ea c)) l (t1.bI (qT.ea c)) o1 zo hr) ?_;exact fun e w4 a=>(a.of yF).SW
 rw[bX W] at hr;by_cases X:name=[105,115]
 .subst X;rw[zip rfl] at hr;obtain⟨ab,cap,q,v0,v1,rfl,g0,i,k,t0,t1,l,o1⟩:=two (by have:(2:Int)=args.length:=Q;omega);have E:=c.ext _ _ g0;refine⟨fun _ _=>False,?_,by rintro _ _ h;exact h.elim⟩;refine bD ?_;refine⟨fun w'=>dc D w w',yF,?_⟩;refine toPr ?_;refine cQ (pp ab) (fun w' B=>eQ) ?_;refine cQ v0 (fun w' B=>by have:=dc.bI B (by unfold lC;decide) g0;exact lT @this @i) ?_;refine dy @E @k ?_;cases g:ue f (args.getD 1 default) s with
  | none=>rw[g] at hr;cases hr
  | some K=>
  rw[g] at hr;refine a0c (adV o f (h.ext c) (t1.bI (qT.ea c)) o1 zo g) ?_;rintro e w2 ⟨L,a⟩;have m:dc D w w2:=(dc.ea c).trans L;cases K with
  | error t=>
   cases hr;have a:e=gV t:=a;subst a;cases t<;>exact fun _=>⟨m,J⟩
  | ok p=>
   obtain⟨z,s1⟩:=p;obtain⟨rfl,KE,F⟩:=a;obtain⟨q1,q2,q3⟩:=DC f h.ok o1 g;simp only[P.Out.eh] at hr;refine⟨m,?_⟩;refine bD ?_;refine⟨m,?_⟩;have hzi:dL ρ n w2 (aj 172 (zi z)) (.int z):=by unfold dL dH;rfl
   refine a0c (Pz o f F (fun b hb=>hD b (a0f m.size hb)) (t0.bI m.toT) l hzi (by unfold ef;exact q3) (show s1.tr.length+s1.fuel<=900000000 by grind) hr) ?_;exact fun e w4 a=>(a.of m).aJh
 rw[bX X] at hr;by_cases C:name∈[[118,97,114],[110,111,110,118,97,114],[97,116,111,109],[105,110,116,101,103,101,114]]
 .rw[zip C] at hr;have A7:args.length=1:=by
   have:jK name=1:=by
    simp only[a0n,a0v,or_false] at C;rcases C with rfl | rfl | rfl | rfl<;>decide
   omega
  obtain⟨x,rfl⟩:∃ x,args=[x]:=match args,A7 with
   | [x],_=>⟨x,J⟩
  obtain⟨ab,cap,y7,v0,rfl,g0,i,t0⟩:=adZ ha ht (j:=0) zs;have t0:dL ρ n w v0 x:=t0;refine⟨fun _ _=>False,?_,by rintro _ _ h;exact h.elim⟩;cases hw:fA s.tr f x with
  | none=>rw[show([x].getD 0 default)=x from J,hw] at hr;cases hr
  | some t'=>
  rw[show([x].getD 0 default)=x from J,hw] at hr;injection hr with hr;simp only[a0n,a0v,or_false] at C;refine dC @R @S @U (zA @W @X) ?_;refine⟨fun s w'=>w'=w/\s 64 = .bool A,?_,?_⟩
  .rcases C with rfl | rfl | rfl | rfl<;>simp (disch:=first|assumption|omega|simp only[zS]<;>omega|decide) only[zB,simprocAttr,lh]<;>simp
  .rintro s' w' ⟨rfl,M⟩ d;rw[M];refine dy @g0 @i ?_;refine a0c (GJ h.sv t0 hw) ?_;rintro e w2 ⟨rfl,u,rfl,hu⟩;refine bD ?_;refine a0c (aJ3 name hu) ?_;rintro e w3 ⟨rfl,rfl⟩;rw[<- hr];exact⟨yF,J,_,h⟩
 rw[bX C] at hr;by_cases n7:name=[102,97,105,108]
 .subst n7;rw[zip rfl] at hr;cases hr;refine⟨fun _ _=>False,?_,by rintro _ _ h;exact h.elim⟩;refine bD ?_;refine⟨fun s w'=>w'=w/\s 64 = .bool G,?_,?_⟩
  .simp (disch:=first|assumption|omega|simp only[zS]<;>omega|decide) only[zB,simprocAttr,lh,jg];simp
  .rintro s w' ⟨rfl,M⟩ d;refine cG M ?_;exact⟨yF,J,_,h⟩
 rw[bX n7] at hr;simp only[a0n,a0v,or_false,not_or] at C;obtain⟨m1,m2,m3,m4⟩:=C;have qf:args.length=2:=by
  have F:jK name=if name∈[[61],[92,61],[61,61],[105,115],[60],[62],[61,60],[62,61],[61,58,61]] then 2 else -1:=by
   unfold jK;grind
  omega
 obtain⟨ab,cap,q,v0,v1,rfl,g0,i,k,t0,t1,l,o1⟩:=two qf;refine⟨fun _ w'=>w'=w,?_,?_⟩
 .refine dC @R @S @U (zA @W @X) ?_;refine⟨fun s w'=>w'=w/\s 64 = .bool G,?_,?_⟩
  .exact zP @m1 @m2 @m3 @m4
  .rintro s w' ⟨rfl,M⟩ d;exact lT M @n7
 rintro s' w' rfl d;have c:Ext w' w'.drew:=yF;refine⟨fun w2=>dc D w' w2,yF,?_⟩;refine toPr ?_;refine cQ (pp ab) (fun w2 B=>eQ) ?_;refine cQ v0 (fun w2 B=>by have:=dc.bI B (by unfold lC;decide) g0;exact lT @this @i) ?_;refine cQ (pq ab 1) (fun w2 B=>eQ) ?_;refine cQ v1 (fun w2 B=>by have:=dc.bI B (by unfold lC;decide) g0;exact lT @this @k) ?_;cases g:ue f (args.getD 0 default) s with
 | none=>rw[g] at hr;cases hr
 | some K=>
 rw[g] at hr;refine a0c (adV o f (h.ext c) (t0.bI (qT.ea c)) l zo g) ?_;rintro e w2 ⟨L,a⟩;have m:dc D w' w2:=(dc.ea c).trans L;cases K with
 | error t=>
  cases hr;have a:e=gV t:=a;subst a;cases t<;>exact fun _=>⟨m,J⟩
 | ok p=>
 obtain⟨z,s1⟩:=p;obtain⟨rfl,KE,F⟩:=a;obtain⟨q1,q2,q3⟩:=DC f h.ok l g;have q2:s1.fuel<=s.fuel:=q2;simp only[P.Out.eh] at hr;refine⟨m,?_⟩;cases iU:ue f (args.getD 1 default) s1 with
 | none=>rw[iU] at hr;cases hr
 | some r2=>
 rw[iU] at hr;refine a0c (adV o f F (t1.bI m.toT) o1 zo iU) ?_;rintro e w3 ⟨eI,a⟩;have H:dc D w' w3:=yF;cases r2 with
 | error t=>
  cases hr;have a:e=gV t:=a;subst a;cases t<;>exact fun _=>⟨H,J⟩
 | ok p=>
 obtain⟨z2,s2⟩:=p;obtain⟨rfl,xO,N⟩:=a;cases hr;unfold alO;by_cases c1:name=[60]
 .refine cG @c1 ?_;exact⟨H,J,_,N⟩
 by_cases c2:name=[62]
 .refine cG @c2 ?_;exact⟨H,J,_,N⟩
 by_cases c3:name=[61,60]
 .refine cG @c3 ?_;exact⟨H,J,_,N⟩
 by_cases c4:name=[62,61]
 .refine cG @c4 ?_;exact⟨H,J,_,N⟩
 refine dC @c1 @c2 @c3 @c4 ?_;exact⟨H,zg,_,N⟩
end
