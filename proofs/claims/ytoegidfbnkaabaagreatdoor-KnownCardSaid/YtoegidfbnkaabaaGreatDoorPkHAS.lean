/- A part of one proof (PW7, PW8, ShX2, KW1, KW2, ShQ2, KW3, KW4). -/
import Derived.Test.YtoegidfbnkaabaaGreatDoorPkHAR
set_option linter.all false
set_option maxRecDepth 100000
set_option maxHeartbeats 8000000
open Option renaming some → O, none → V
open Go renaming Value → Y, World → Z
open Bool renaming true → A, false → G
open Go.Obj renaming cells → ae
open Go.Ending renaming returned → ah
open Go.Value renaming nilIface → ai, iface → aj, tuple → ak, pointer → aq
open Option.some renaming injEq → aZ9
open Go.Calls renaming mono → a0c
open Nat renaming le_refl → a0d, le_trans → a0f, zero_le → a0r, lt_of_lt_of_le → a0E
open List renaming drop_eq_getElem_cons → a0h, range' → a0X
open Go.Value renaming slice → a0m
open Go.Value.slice renaming injEq → a0s
open Option renaming map_eq_some_iff → a0B
open Go.World.grownBy renaming block → a1k
open Go.Proofs.Tryz renaming prog → a96
open Go.Proofs.Tryz
namespace Go.Proofs.YtoegidfbnkaabaaGreatDoor
open P
open Go.RowKit Sx
variable{B M b base c cap e f g j m mb n o pb so wb:Nat}{D F:Nat->Prop}{X:Y->Z->Prop}{av iv o4 o5 tv v vv:Y}{cs iC:Array Y}{t:Tm}{tr:Tr}{tF ρ:Nat->Nat}{vs xs:List Y}{w w' w1 w2:Z}
def ad4{name:Bs}{x0 f:Tm}(h:dL ρ n w (aj 175 (pp b)) (.comp name [x0,f])) :
  ∃ ab cap a c d,w.heap[b]?=aN #[aM name,cM ab 2 cap] 180/\w.heap[ab]?=aN a 89/\a[0]?=O c/\a[1]?=O d/\dL ρ n w c x0/\dL ρ n w d f:=by
 obtain⟨i,cap,j,g⟩:=E9 h;obtain⟨ab,a,c,rfl,k,l,m⟩:=g 0 zs;obtain⟨o,p,d,e,q,r,s⟩:=g 1 zs;exact yH
def aJ7(ih:∀ g,g<=f->CW g){T:Nat}{s:Ws}{name:Bs}{x y:Tm}{r:Option Ws}(hx:wS tr wb pb so T cs)(hs:GL ρ n tr wb pb so T cs w s)
  (hu:dL ρ n w (aj 175 (pp b)) (.comp name [x,y])) (de:ef (.comp name [x,y]))
  (hB:s.cS<=900000100-60) (Aw:s.seen.length<=s.out.length) (hr:vf tr (f+1) 91 x y s=O r) :
  Calls a96 96 #[pp wb,pp b] w (Bi ρ n tr wb pb so T cs w (s.cS+30) r):=by
 obtain⟨nm,h⟩:=hs;refine aIZ ?_;refine⟨fun m z w'=>∃ P k DX sep Cq B p,z 1=pp P/\z 4 = .int .u8 (sep:UInt8).toNat/\lI ρ n tr wb pb so T cs DX w' k/\ml wb pb w w' /\
  dL ρ n w' (aj 175 (pp P)) (.comp Cq [B,p])/\ef (.comp Cq [B,p])/\m<=f+1/\vf tr m sep B p k=O r/\k.cS<=s.cS/\k.seen.length<=k.out.length,
  ⟨f+1,b,s,nm,91,name,x,y,J,J,h,bz.refl _ _,hu,de,a0d _,hr,a0d _,Aw⟩,?_⟩
 intro m z d w3 hI;refine toPr ?_;obtain⟨P,k,DX,sep,Cq,B,p,q,AV,h3,dU,M8,aJ8,hm,j,anH,KA⟩:=hI;have anI:k.cS=k.out.length+60*k.fuel:=rfl;obtain⟨ad3,aJz,aJA,eK,Mi⟩:=id h3.bu;have C:=aJ8;unfold ef at C;obtain⟨oI,IF⟩:=Im C.2.2;cases m with
 | zero=>simp [vf] at j
 | succ g=>
 rw[vf] at j;refine dy q AV ?_;refine(M1 h3 hx sep zo J).mono ?_;rintro e w4 ⟨⟨v4,rfl⟩,h4,er⟩;have Xm:=dU.trans er;have KJ:=M8.bI (h3.kv hx er).toT;obtain⟨ab,cap,y7,u0,u1,D,E,k3,Q,k5,R⟩:=ad4 KJ;refine dC q @D @E @k3 ?_;have adG:(k.add [sep]).cS=k.cS+1:=Ws.oO ..;cases F:ku tr g B 0 (k.add [sep]) with
 | none=>simp [F,Wb] at j
 | some r1=>
 refine a0c ((ih g zo).tm (least:=0) hx ⟨_,h4⟩ k5 oI zo (oA KA) F) ?_;rintro e w5 jW;have lz:=jW.of (B':=s.cS+30) Xm zo;cases r1 with
 | none=>
  simp only[F,Wb,aZ9] at j;subst j;obtain⟨g1,rfl,g2⟩:=lz;exact⟨g1,J,g2⟩
 | some o=>
  obtain⟨iR,rfl,Na,t⟩:=lz;obtain⟨l1,l2⟩:=(Kc hx.tok g).tm _ _ _ _ oI zo (oA KA) F;simp only[F,Wb] at j;have Xv:ml wb pb w4 w5:=jW.1;have Xw:=KJ.bI (h4.kv hx Xv).toT;obtain⟨ab,cap,y7,u0,u1,D,E,k3,Q,k5,R⟩:=ad4 Xw;obtain⟨ad5,aVy,aVz,Tg,aVA⟩:=id t.bu;have aJM:o.cS=o.out.length+60*o.fuel:=rfl;refine bD ?_;refine⟨fun H w'=>H 1=pp P/\w'=w5/\Wb (ku tr g p 0 (o.add [124])) (fun s=>O (O (s.add [93])))=O r,?_,?_⟩
  .refine dC q @D @E @Q ?_;cases hw:fA tr g p with
   | none=>simp [hw] at j
   | some t'=>
   rw[hw] at j;refine a0c (GJ t.st R hw) ?_;rintro e w6 ⟨rfl,u,rfl,l⟩;have aJ9:=tj hx.tok IF hw;cases t' with
   | atom a=>
    unfold dH at l;subst l;refine bD ?_;dsimp only at j;by_cases S:a=[91,93]
    .rw[zip S] at j;refine cG S ?_;refine(M1 t hx 93 zo J).mono ?_;rintro e w7 ⟨⟨v7,rfl⟩,h7,U⟩;cases j;exact⟨iR.trans U,J,_,h7⟩
    .rw[bX S] at j;refine cG S ?_;exact⟨q,j⟩
   | int a=>
    unfold dH at l;subst l;refine bD ?_;exact⟨q,j⟩
   | var i=>
    unfold dH at l;obtain⟨hi,rfl⟩:=l;refine bD ?_;exact⟨q,j⟩
   | comp I W=>
    have K:=l;unfold dH at l;obtain⟨b2,uu,Su,rfl,-⟩:=l;obtain⟨ao2,Gd,q1,-⟩:=E9 K;refine cG @q1 ?_;refine⟨fun H w'=>w'=w6/\H 42 = .bool (decide (I=[46]/\W.length=2)),?_,?_⟩
    .by_cases hn:I=[46]
     .refine dy @q1 hn ?_;simp [jg];omega
     .refine dy @q1 hn ?_;grind
    .rintro H w' ⟨rfl,aKb⟩ d2;rw[aKb];dsimp only at j;by_cases X:I=[46]/\W.length=2
     .rw[FU _ _ X];obtain⟨x2,y2,rfl⟩:∃ x2 y2,W=[x2,y2]:=by
       match W,X.2 with
       | [x2,y2],_=>grind
      dsimp only at j;rw[zip X.1] at j;exact⟨g,zo,b2,o,Na,44,I,x2,y2,by grind [jg],by grind [jg],t,iR,K,aJ9,zo,j,zo,l2⟩
     .rw[FV _ _ X];refine⟨by grind [jg],J,?_⟩;split at j
      .rename_i c d';have Hn:¬ I=[46]:=zg;rw[bX Hn] at j;exact j
      .exact j
  .rintro H w' ⟨L,rfl,M⟩ d2;refine cG L ?_;refine(M1 t hx 124 zo J).mono ?_;rintro e w7 ⟨⟨v7,rfl⟩,h7,U⟩;have aKc:=iR.trans U;have Xy:=Xw.bI (t.kv hx U).toT;obtain⟨ab,cap,y7,u0,u1,D,E,k3,Q,k5,R⟩:=ad4 Xy;refine dC L @D @E @Q ?_;have aVC:(o.add [124]).cS=o.cS+1:=Ws.oO ..;cases N:ku tr g p 0 (o.add [124]) with
   | none=>simp [N,Wb] at M
   | some r2=>
   refine a0c ((ih g zo).tm (least:=0) hx ⟨_,h7⟩ R IF zo (oA l2) N) ?_;rintro e w8 KD;have Wg:=KD.of (B':=s.cS+30) aKc zo;cases r2 with
   | none=>
    simp only[N,Wb,aZ9] at M;subst M;obtain⟨g1,rfl,g2⟩:=Wg;exact⟨g1,J,g2⟩
   | some s8=>
    obtain⟨Xz,rfl,nm8,h8⟩:=Wg;obtain⟨l3,l4⟩:=(Kc hx.tok g).tm _ _ _ _ IF zo (oA l2) N;simp only[N,Wb,aZ9] at M;subst M;have aVE:s8.cS=s8.out.length+60*s8.fuel:=rfl;obtain⟨ad8,aVG,aVH,hb8,aVJ⟩:=id h8.bu;refine bD ?_;refine(M1 h8 hx 93 zo J).mono ?_;rintro e w9 ⟨⟨v9,rfl⟩,h9,B3⟩;exact⟨Xz.trans B3,J,_,h9⟩
def cw:∀ f,CW f:=by
 intro f;induction f using Nat.strongRecOn with
 | _ f ih=>
  cases f with
  | zero=>
   exact⟨fun _ _ _ _ _ _ h=>by simp [ku] at h,fun _ _ _ _ _ _ h=>by simp [yR] at h,fun _ _ _ _ _ _ h=>by simp [vf] at h⟩
  | succ f=>
   have i:∀ g,g<=f->CW g:=zg;exact⟨fun a b c d e g h=>aJo zg a b c d e g h,fun a b c d e g h=>aJw i a b c d e g h,fun a b c d e g h=>aJ7 i a b c d e g h⟩
def aKd:(Tryz.prog.info? 89).map (fun i=>(i.zero,i.size,i.bytes))=O (O ai,1,16):=zk
def PD(d:w.ownsRow base 89 1 v n xs){a:Y}
  (f:w.heap[b]?=aN #[a] 89) (q:a.oneCell'=A)
  (r:n<=100000000) (g:base<=w.heap.size) {K:Y->Z->Prop}
  (h:∀ v' w',w'.ownsRow base 89 1 v' (n+1) (xs++[a])->w.grownBy w' v.ownBlock->(v'.ownBlock=v.ownBlock\/∀ k,v'.ownBlock=O k->w.heap.size<=k)->K v' w') :
  WR a96 (Builtin.append_ #[82,82] 82 #[v,cM b 1 m]) w K X:=by
 obtain⟨i,j,c⟩:=a0B.1 aKd;simp only[Prod.mk.injEq] at c;obtain⟨l,o,p⟩:=c;refine Sx.C6 (m:=1) (t:=82) (e:=89) zk j l o p J zo d f J (fun u hu=>?_) zo zo g h;grind
abbrev mm(ρ:Nat->Nat)(ids:List Nat):List Y:=ids.map fun i=>aj 87 (pp (ρ i))
def eH.at'{F:Nat->Prop}{w:Z}:∀ {xs:List Ex} {vs:List Y} (j:Nat) (a:j<xs.length),eH F w vs xs->∃ v,vs[j]?=O v/\eG F w v xs[j]
 | x::xs,vs,0,_,h=>by
  unfold eH at h;grind
 | x::xs,vs,j+1,a,h=>by
  unfold eH at h;obtain⟨u,r,rfl,c,b⟩:=h;simpa using eH.at' j zg b
def eH.Fg{F:Nat->Prop}{w:Z}:∀ {xs:List Ex} {vs:List Y},eH F w vs xs->vs.length=xs.length
 | [],vs,h=>by unfold eH at h;subst h;rfl
 | x::xs,vs,h=>by
  unfold eH at h;obtain⟨u,r,rfl,b,a⟩:=h;simp [eH.Fg a]
def ad6(vs:List Nat):∀ (l:List Ex) (j:Nat) (a:j<l.length),mS vs (l.take (j+1))=mS vs (l.take j)++[P.made vs l[j]]
 | x::xs,0,_=>by simp [mS]
 | x::xs,j+1,a=>by
  have:=ad6 vs xs j zg;simp only[List.take_succ_cons,mS,List.cons_append,List.getElem_cons_succ];rw[this]
def XA{ρ:Nat->Nat}{n:Nat}{ids:List Nat}(IK:∀ i∈ids,i<n):∀ (N:Nat) (x:Ex),gH x<=N->gO ids.length x->∀ {F f:Nat->Prop} {w:Z} {v vv:Y},eG F w v x->fD f w 89 vv (mm ρ ids) ->
  Calls a96 32 #[v,vv] w fun e w'=>Ext w w'/\∃ u,e = ah u/\dH (Nu w w') ρ n w' u (P.made ids x)
 | 0,x,L,_,_,_,_,_,_,_,_=>by cases x;simp [gH] at L
 | N+1,.mk kind name k kv args,L,de,F,f,w,v,vv,hv,wh=>by
  have ih:=XA (ρ:=ρ) (n:=n) IK N;unfold gO at de;obtain⟨o1,o2,o3,o4,o5,o6,o7,o8⟩:=de;unfold eG at hv;obtain⟨b,av,di,rfl,hF,p,hs,hx⟩:=hv;unfold gH at L;obtain⟨m0,g⟩:=b9 (P.made ids (.mk kind name k kv args));rw[<- g];unfold P.made at g;refine aIT ?_;by_cases B:kind=97
  .subst B;rw[zip rfl] at g;subst g;have C:((97:Nat):Int)=97:=rfl;refine dy p @C ?_;refine⟨yF,?_⟩;unfold dH;grind
  .have aVK:¬ (kind:Int)=97:=zo;rw[bX B] at g;by_cases AD:kind=110
   .subst AD;rw[zip rfl] at g;subst g;have C:((110:Nat):Int)=110:=rfl;refine dy p @C ?_;refine⟨yF,_,J,?_⟩;unfold dH;rfl
   .have aVL:¬ (kind:Int)=110:=zo;rw[bX AD] at g;by_cases GR:kind=118
    .subst GR;rw[zip rfl] at g;subst g;have C:((118:Nat):Int)=118:=rfl;have Pu:=o4 J;have hl:(mm ρ ids).length=ids.length:=zs;obtain⟨gb,M,rfl,g1,g2,g3⟩:=wh.at' (j:=kv) (by rw[hl];exact Pu);have Q:M[kv]?=O (aj 87 (pp (ρ ids[kv]))):=by
      grind
     have R:(kv:Int).toNat=kv:=zo;rw[hl];refine dC p @C @g2 (zA @Q @R) ?_;refine⟨yF,_,J,?_⟩;unfold dH;have S:ids.getD kv 0=ids[kv]:=zg;rw[S];exact⟨(by grind [List.getElem_mem]),J⟩
    .have aVM:¬ (kind:Int)=118:=zo;obtain⟨sa,sc,rfl⟩:=hs.sl;have Gv:=hx.Fg;have lb:=bf p;rw[bX GR] at g;subst g;refine cG p ?_;refine⟨fun m z w'=>∃ j I vs,z 46=zi (j:Nat)/\j<=args.length/\m=args.length-j/\Ext w w'/\w'.heap[w.heap.size]?=aN #[aM name,I] 180 /\
      w'.ownsRow (w.heap.size+1) 89 1 I j vs/\iG (fun c=>w.heap.size<c/\c<w'.heap.size/\O c≠I.ownBlock) ρ n w' vs (mS ids (args.take j)),
      ⟨_,0,bH,[],J,a0r _,J,yF,yH,World.ownsRow_nil _ _ _ _,by simp [mS];unfold iG;rfl⟩,?_⟩
     intro m z d w3 hI;refine toPr ?_;obtain⟨j,I,vs,T,hj,rfl,D,q3,r,U⟩:=hI;have s3:=D.size;have l3:=bf q3;obtain⟨s,rc,rfl⟩:=gX r;by_cases hlt:j<args.length
     .have qq:j<di.length:=zo;obtain⟨sb,IL,e1,e2,Q,e4⟩:=hs.at' qq;obtain⟨u,S,hu⟩:=eH.at' j hlt hx;rw[S] at e4;simp only[a0s,true_and] at e1;obtain⟨rfl,rfl⟩:=e1;have jJ:((j:Nat):Int).toNat=j:=zo;have W:=D.ext _ _ Q;refine dC T @W @e4 @jJ ?_;refine⟨fun w'=>w'.heap[w.heap.size]?=aN #[aM name,.slice s j rc] 180,q3,?_⟩;refine bD ?_;refine cQ (pq w.heap.size 1) (fun w' _=>eQ) ?_;refine cQ (.slice s j rc) (fun w' hS=>fg hS) ?_;have PE:gH args[j]<=N:=by
       have:∀ (l:List Ex) (j:Nat) (hj:j<l.length),gH l[j]<=ft l:=by
        intro l;induction l with
        | nil=>grind
        | cons a l ihl=>
         grind [ft]
       grind
      have X:Ext w w3.drew:=D.drew;have MA:∀ {H:Nat->Prop} {y:Ex} {v':Y},eG H w v' y->eG H w3.drew v' y:=fun h=>eG.mono zg (by grind [bz.ext]) _ _ h;refine a0c (ih args[j] PE (o8.at hlt) (MA hu) (wh.mono (fun _ h=>h) fun b cs _ p=>X.ext _ _ p)) ?_;rintro e q ⟨fZ,u4,rfl,KJ⟩;have s4:=fZ.size;rw[BH] at s4;have K:Ext w3 q:=yF;have q4:=K.ext _ _ q3;have l4:=bf q4;refine⟨q4,?_⟩;obtain⟨tu,xu,rfl⟩:=KJ.iface;refine bD ?_;have hX:Ext q (q.alloc (ae #[aj tu xu] 89)):=yF;refine⟨q4,?_⟩;have Ag:=jM (K.trans hX).ext r;refine PD (base:=w.heap.size+1) Ag (qG J) J zo (by rw[size_alloc];omega) ?_;intro v' w5 Il yJ xQ;have s5:=yJ.size;rw[size_alloc] at s5;have kp:∀ c o,q.heap[c]?=O o->O c≠(a0m s j rc).ownBlock->w5.heap[c]?=O o:=(by grind [size_alloc,bf,a1k,bz.ext]);have lo:∀ k,(a0m s j rc).ownBlock=O k->w.heap.size+1<=k/\k<w3.heap.size:=fun k hk=>r.lt k hk;have q5:=kp _ _ q4 (fun e=>by have:=lo _ e.symm;omega);have l5:=bf q5;obtain⟨PF,PG,rfl⟩:=gX Il;refine⟨q5,?_⟩;refine dy @q5 T ?_;have mC:∀ c,c<q.heap.size->O c≠(a0m s j rc).ownBlock->O c≠(a0m PF (j+1) PG).ownBlock:=yH;refine⟨_,?_,j+1,.slice PF (j+1) PG,vs++[aj tu xu],zg,zo,J,?_,J,(by grind [JE]),?_⟩
      .omega
      .refine bz.bO ?_ yH;exact((D.trans K).trans hX).grow yJ yH
      .rw[ad6 ids args j hlt];have k5:∀ c o,c≠w.heap.size->O c≠(a0m s j rc).ownBlock->q.heap[c]?=O o->(bO w5 w.heap.size (ae #[aM name,.slice PF (j+1) PG] 180)).heap[c]?=O o:=yH;refine iG.snoc ?_ ?_
       .refine dH.mono (F:=Nu w3.drew q) (fun c E=>?_) zo zg (fun c cs t E _ ho=>?_) _ _ KJ
        .exact yH
        exact yH
       .refine iG.mono (fun c E=>?_) zo zg (fun c cs t E _ ho=>?_) _ _ U
        .exact yH
        .exact k5 c _ (by have:=E.1;omega) E.2.2 (K.ext _ _ ho)
     .have fx:j=args.length:=zo;subst fx;rw[List.take_length] at U;refine cG T ?_;refine⟨D,?_⟩;refine⟨_,J,?_⟩;unfold dH;refine⟨_,_,vs,J,yH,q3,EC r (fun b p=>⟨by have:=(r.lt b p).1;omega,(r.lt b p).2⟩),?_⟩;exact iG.mono yH zo zg (fun _ _ _ _ _ h=>h) _ _ U
open Go.Proofs.YtoegidfbnkaabaaGreatDoor.Sx
section
variable{p0 p1 p2 p3 p4 p5 p6 p7:Y}{w:Z}{R:Ending->Z->Prop}
def aKf:=cz w R [p0,p1] (gc [(2,[4,9])] [] [10]) func228
def aKg:=cz w R [p0,p1] (gd [] [] [] [(0,[16,0,1,2,3,4,5,6,7,9,8,10,11,12,13,14,15])] [] [] []) func226
def aKh:=cz w R [p0,p1,p2,p3,p4] (gd [(9,[64])] [(6003,[])] [(4,9)] [(11,[11,0,1,2,3,4,5,6,7,8,9,10,11])] [] [] [10,24,65,79,80]) func224
def aKi:=cz w R [p0,p1,p2] (gd [] [(6001,[])] [(3,8)] [(4,[0,0,1,2,3,4,5,6,7,8,9,10,11,12]),(8,[21,0,1,2,3,4,5,6,7,9,10,11,12,13,14,8,15,16,17,18,19,20])] [] [] [6,23,32,46,81]) func227
def aKj:=cz w R [p0,p1] (gd [(13,[7])] [] [(4,12),(10,12),(21,19)] [(15,[25,0,1,2,3,4,5,6,7,8,9,10,11,12,13,14,15,16,17,18,19,20,21,22,23,24]),(17,[22,0,1,2,3,4,5,6,7,8,9,10,11,12,13,14,15,16,17,18,19,20,21]),(18,[24,0,1,2,3,4,5,6,7,8,9,10,11,12,13,14,15,16,17,18,19,20,21,22,23]),(20,[22,0,1,2,3,4,5,6,7,8,9,10,11,12,13,14,15,16,17,18,19,20,21]),(22,[21,0,1,2,3,4,5,6,7,8,9,10,11,12,13,14,15,16,17,18,19,20]),(26,[21,0,1,2,3,4,5,6,7,8,9,10,11,12,13,14,15,16,17,18,19,20])] [] [] [4,19,47,48,49,62,63,71,98,99,145,146,209,210]) func225
def aKk:=cz w R [p0] (gd [(2,[3])] [(11009,[])] [(7,7),(11,14)] [] [] [] [2,3,7,8,16,35,66,72,89]) func223
end
def n9(w:Z)(a:TypeId)(v:Y)(vs:List Y):Prop:=
 (vs=[]/\v = bH) \/
 ∃ b o cap cs,v = .slice (O ⟨b,o,V⟩) vs.length cap/\w.heap[b]?=aN cs a/\vs.length<=cap/\(cs.toList.drop o).take vs.length=vs/\vs≠[]
theorem n9.of{a:TypeId}(h:fD F w a v vs)(c:vs≠[]):n9 w a v vs:=by
 rcases h with h | ⟨b,cs,d,-,e,f,g⟩
 .grind
 .exact .inr yH
theorem n9.nil{a:TypeId}:n9 w a bH []:=.inl ⟨J,J⟩
theorem n9.bI{a:TypeId}(h:n9 w a v vs)(hw:∀ (b:Nat) (cs:Array Y),w.heap[b]?=aN cs a->w'.heap[b]?=aN cs a):n9 w' a v vs:=by
 rcases h with h | ⟨b,o,cap,cs,c,d,e,f⟩
 .exact .inl h
 .exact .inr yH
theorem n9.at{a:TypeId}(h:n9 w a v vs)(c:j<vs.length):∃ b o cap cs,v = .slice (O ⟨b,o,V⟩) vs.length cap/\w.heap[b]?=aN cs a/\cs[o+j]?=vs[j]?/\vs.length<=cap:=by
 rcases h with⟨rfl,-⟩| ⟨b,o,cap,cs,d,e,f,g,-⟩<;>grind
def n9.tail{a:TypeId}{x:Y}(h:n9 w a (.slice (O ⟨b,o,V⟩) n cap) (x::vs))(d:vs≠[]):n9 w a (sliced (O ⟨b,o,V⟩) 1 n cap 1) vs:=by
 rcases h with⟨h,-⟩| ⟨i,j,k,cs,c,e,f,g,-⟩
 .grind
 .simp only[a0s,aZ9,Addr.mk.injEq,and_true] at c;obtain⟨⟨rfl,rfl⟩,rfl,rfl⟩:=c;have m:vs.length≠0:=zg;simp only[List.length_cons] at f g;refine .inr ⟨b,o+1,cap-1,cs,?_,e,zo,?_,d⟩
  .unfold sliced;rw[bX zo];simp [Addr.add]
  .cases p:cs.toList.drop o with
   | nil=>grind
   | cons y l=>
    grind [List.tail_drop]
def PH(w:Z)(v:Y):Option Bd->Prop
 | none=>v = aq V
 | some b=>dJ (fun _=>True) w v b
def uw(ρ:Nat->Nat)(n:Nat)(w:Z):Y->List P.Goal->Prop
 | v,[]=>v = aq V
 | v,g::r=>∃ b a vv nx,v = aq (O ⟨b,0,V⟩)/\w.heap[b]?=O (ae #[a,vv,.int .i64 (g.cut:Nat),nx] 207 (0,0))/\PH w a g.EX /\
  fD (fun _=>True) w 89 vv (mm ρ g.vars)/\(∀ i∈g.vars,i<n)/\uw ρ n w nx r
def qt(ρ:Nat->Nat)(n:Nat)(w:Z):List Y->List nY->Prop
 | vs,[]=>vs=[]
 | vs,a::r=>∃ b cv av fR us rest,vs=[.int .i64 (a.mark:Nat),b,cv,av]++rest/\uw ρ n w b a.todo/\n9 w 79 cv fR/\ko (fun _=>True) w fR a.clauses /\
  fD (fun _=>True) w 89 av us/\pE ρ n w us a.args/\qt ρ n w rest r
def Tl(T:Nat):Prop:=lC T\/T=9\/T=57\/T=121
def yM{p:Prop}(h:p:=by first | (unfold Tl lC;decide) | (unfold lC;decide)):p:=h
def eM(w w':Z):Prop:=∀ (b:Nat) (cs:Array Y) (T:Nat),¬ Tl T->w.heap[b]?=aN cs T->w'.heap[b]?=aN cs T
def dc.toI(h:dc D w w'):eM w w':=fun _ _ _ a b=>h.bI (fun h=>a (.inl h)) b
theorem eM.ea(h:Ext w w'):eM w w':=fun _ _ _ _ a=>h.ext _ _ a
theorem eM.trans{a b c:Z}(h:eM a b)(k:eM b c):eM a c:=fun x cs T d e=>k x cs T d (h x cs T d e)
theorem eM.toT(h:eM w w'):Xd w w':=fun b cs t _ ht a=>h b cs t (by rcases ht with rfl | rfl<;>(first | (unfold Tl lC;decide) | (unfold lC;decide))) a
theorem eM.ll(h:eM w w'):∀ (b:Nat) (o:Obj),True->C8 o->w.heap[b]?=O o->w'.heap[b]?=O o:=fun b o _ a c=>by
 cases o with
 | cells cs t z=>
  obtain⟨ht,rfl⟩:=a;exact h b cs t (by rcases ht with rfl | rfl | rfl | rfl<;>(first | (unfold Tl lC;decide) | (unfold lC;decide))) c
 | _=>exact a.elim
def dJ.iZ(hk:eM w w'){b:Bd}(h:dJ (fun _=>True) w v b):dJ (fun _=>True) w' v b:=dJ.mono zg hk.ll b v h
theorem PH.bI{w w':Z}(hk:eM w w'){v:Y}:∀ {o:Option Bd},PH w v o->PH w' v o
 | none,h=>h
 | some _,h=>dJ.iZ hk h
def fD.iZ(hk:eM w w')(a:¬ Tl pb)(h:fD (fun _=>True) w pb v vs):fD (fun _=>True) w' pb v vs:=h.mono zg fun b cs _ c=>hk b cs pb a c
def EP.iZ{w w':Z}(hk:eM w w'){v:Y}{c:Cl}(h:EP (fun _=>True) w v c):EP (fun _=>True) w' v c:=by
 obtain⟨b,av,bv,a,d,e,f,g,⟨us,i,j⟩,k⟩:=h;exact⟨b,av,bv,a,d,e,f,hk _ _ _ (yM) g,⟨us,fD.iZ hk (yM) i,eH.mono zg hk.ll _ _ j⟩,dJ.iZ hk k⟩
def ko.iZ{w w':Z}(hk:eM w w'):∀ {vs:List Y} {l:List Cl},ko (fun _=>True) w vs l->ko (fun _=>True) w' vs l
 | vs,[],h=>h
 | vs,c::l,⟨v,r,a,b,d⟩=>⟨v,r,a,b.iZ hk,ko.iZ hk d⟩
def eo(ρ:Nat->Nat)(n:Nat)(eL:Nat->Nat)(a:Nat):Prop:=n<=a/\∀ i,i<n->eL i=ρ i
theorem eo.refl(ρ:Nat->Nat)(n:Nat):eo ρ n ρ n:=⟨a0d _,zg⟩
theorem eo.trans{a b c:Nat->Nat}{i j k:Nat}(h:eo a i b j)(d:eo b j c k):eo a i c k:=⟨a0f h.1 d.1,fun x hx=>(d.2 x (a0E hx h.1)).trans (h.2 x hx)⟩
def anV(h:eo ρ n tF pb){l:List Nat}(a:∀ i∈l,i<n):mm tF l=mm ρ l:=by
 unfold mm;exact List.map_congr_left fun i b=>by rw[h.2 i (a i b)]
def pE.PI(hk:eM w w')(hu:eo ρ n tF pb){l:List Tm}(h:pE ρ n w vs l):pE tF pb w' vs l:=iG.mono zg hu.1 hu.2 hk.toT _ _ h
def dL.PI(hk:eM w w')(hu:eo ρ n tF pb)(h:dL ρ n w v t):dL tF pb w' v t:=dH.mono zg hu.1 hu.2 hk.toT _ _ h
theorem uw.bI{ρ eL:Nat->Nat}{n a:Nat}{w w':Z}(hk:eM w w')(hu:eo ρ n eL a):∀ {l:List P.Goal} {v:Y},uw ρ n w v l->uw eL a w' v l
 | [],v,h=>h
 | g::r,v,⟨b,d,vv,nx,e,f,j,k,c,m⟩=>⟨b,d,vv,nx,e,hk _ _ _ (yM) f,j.bI hk,by rw[anV hu c];exact fD.iZ hk (yM) k,
  fun i o=>a0E (c i o) hu.1,uw.bI hk hu m⟩
theorem qt.bI{ρ eL:Nat->Nat}{n c:Nat}{w w':Z}(hk:eM w w')(hu:eo ρ n eL c):∀ {l:List nY} {vs:List Y},qt ρ n w vs l->qt eL c w' vs l
 | [],vs,h=>h
 | a::r,vs,⟨d,cv,av,fR,us,rest,e,f,g,i,j,k,m⟩=>⟨d,cv,av,fR,us,rest,e,f.bI hk hu,g.bI fun b cs o=>hk b cs _ (yM) o,i.iZ hk,
  fD.iZ hk (yM) j,k.PI hk hu,qt.bI hk hu m⟩
def qt.len{ρ:Nat->Nat}{n:Nat}{w:Z}:∀ {l:List nY} {vs:List Y},qt ρ n w vs l->vs.length=l.length*4
 | [],vs,h=>by have h:vs=[]:=h;grind
 | a::r,vs,⟨d,cv,av,fR,us,rest,b,_,_,_,_,_,c⟩=>by
  rw[b,List.length_append,qt.len c];grind
def aKl:(Tryz.prog.info? 356).map (fun i=>(i.zero,i.size,i.bytes))=O (O (.agg #[zi 0,aq V,bH,bH]),4,64):=zk
def anW(c:w.ownsRow base 356 4 v n xs){l:List Y}
  (d:w.heap[b]?=aN l.toArray 356) (q:l.length=4) (r:∀ u∈l,u.oneCell'=A)
  (s:n<=900000000) (f:base<=w.heap.size) {K:Y->Z->Prop}
  (h:∀ v' w',w'.ownsRow base 356 4 v' (n+1) (xs++l)->w.grownBy w' v.ownBlock->(v'.ownBlock=v.ownBlock\/∀ k,v'.ownBlock=O k->w.heap.size<=k)->K v' w') :
  WR a96 (Builtin.append_ #[128,128] 128 #[v,cM b 1 m]) w K X:=by
 obtain⟨i,g,a⟩:=a0B.1 aKl;simp only[Prod.mk.injEq] at a;obtain⟨j,o,p⟩:=a;exact Sx.C6 (m:=1) (t:=128) (e:=356) zk g j o p J zo c d zo zg zo zo f h
def Dm(D:Nat->Prop)(av:Y)(b:Nat):Prop:=D b/\av.ownBlock≠O b
theorem dc.up{D':Nat->Prop}(h:dc D w w')(a:∀ b,D b->D' b):dc D' w w':=bz.mono h fun b o _ hm=>⟨a b hm.1,hm.2⟩
theorem gU.up{D':Nat->Prop}{T:Nat}{s:Sr}(h:gU D ρ n pb so T cs tv w s)(a:∀ b,D b->D' b):gU D' ρ n pb so T cs tv w s:=
 ⟨h.sv,(by grind [dv]),h.cell,h.row,(by grind [dr]),a _ h.ds,h.nd,h.lt,h.ok⟩
abbrev GS(mb:Nat)(todo av vv:Y):Array Y:=#[.map (O mb),.slice V 0 0,zi 0,todo,av,vv]
theorem Fi:vu 1 130 (GS mb tv av vv):=⟨zs,.inl J⟩
structure kl(D:Nat->Prop)(ρ:Nat->Nat)(wb mb:Nat)(todo av vv tv:Y)(di:List Y)(w:Z)(k:Wk):Prop where
 st:gU D ρ k.n wb 1 130 (GS mb todo av vv) tv w k.sr
 td:uw ρ k.n w todo k.todo
 ar:w.ownsRow 0 356 4 av k.br.length di
 ag:qt ρ k.n w di k.br
 da:∀ g,av.ownBlock=O g->D g
def PJ(D:Nat->Prop)(ρ:Nat->Nat)(wb mb:Nat)(vv:Y)(w:Z)(k:Wk):Prop:=∃ todo av tv di,kl D ρ wb mb todo av vv tv di w k
section
variable{D:Nat->Prop}{ρ:Nat->Nat}{wb mb:Nat}{todo av vv tv:Y}{di:List Y}{w w':Z}{k:Wk}
theorem kl.cell(h:kl D ρ wb mb todo av vv tv di w k):w.heap[wb]?=aN #[.map (O mb),tv,zi (k.sr.fuel:Nat),todo,av,vv] 130:=h.st.cell
theorem kl.ext(h:kl D ρ wb mb todo av vv tv di w k)(a:Ext w w'):kl D ρ wb mb todo av vv tv di w' k:=
 ⟨h.st.ext a,h.td.bI (eM.ea a) (eo.refl _ _),jM a.ext h.ar,h.ag.bI (eM.ea a) (eo.refl _ _),h.da⟩
theorem kl.D0(h:kl D ρ wb mb todo av vv tv di w k)(a:av.ownBlock=O g):∃ cs,w.heap[g]?=aN cs 356:=by
 rcases h.ar.2 with⟨rfl,-⟩| ⟨b,cap,cur,rfl,-,c,-⟩
 .cases a
 grind [Value.ownBlock,aZ9]
def kl.less(h:kl D ρ wb mb todo av vv tv di w k):gU (Dm D av) ρ k.n wb 1 130 (GS mb todo av vv) tv w k.sr:=by
 refine⟨h.st.sv,fun i b=>⟨h.st.dv i b,fun e=>?_⟩,h.st.cell,h.st.row,fun g c=>⟨h.st.dr g c,fun e=>?_⟩,⟨h.st.ds,fun e=>?_⟩,h.st.nd,h.st.lt,h.st.ok⟩
 .obtain⟨cs,a⟩:=h.D0 e;obtain⟨ref,d,-⟩:=h.st.sv.var i b;grind
 .obtain⟨cs,a⟩:=h.D0 e;exact absurd c (h.st.Xi a zo)
 .obtain⟨cs,a⟩:=h.D0 e;have d:=h.cell;grind
def aKm{size:Nat}(h:w.ownsRow base e size v m xs)(a:dc (Dm D v) w w'):w'.ownsRow base e size v m xs:=by
 refine⟨h.1,?_⟩;rcases h.2 with g | ⟨b,cap,cur,rfl,c,d,f⟩
 .exact yH
 .exact .inr ⟨b,cap,cur,J,c,a.block _ _ d (fun hm=>hm.1.2 J),f⟩
def kl.store(h:kl D ρ wb mb todo av vv tv di w k){s':Sr}(b:gU (Dm D av) ρ k.n wb 1 130 (GS mb todo av vv) o4 w' s')(a:dc (Dm D av) w w') :
  kl D ρ wb mb todo av vv o4 di w' { k with sr:=s' }/\dc D w w':=
 ⟨⟨b.up fun _ h=>h.1,h.td.bI a.toI (eo.refl _ _),aKm h.ar a,h.ag.bI a.toI (eo.refl _ _),h.da⟩,a.up fun _ h=>h.1⟩
def kl.KM(h:kl D ρ wb mb todo av vv tv di w k){todo':Y}{l:List P.Goal}(c:uw ρ k.n w todo' l)
  (hw:w1=bO w wb (ae #[.map (O mb),tv,zi (k.sr.fuel:Nat),todo',av,vv] 130)):kl D ρ wb mb todo' av vv tv di w1 { k with todo:=l }/\dc D w w1:=by
 obtain⟨b,a⟩:=h.st.cells (by grind [Fi]) (cs':=GS mb todo' av vv) (f:=k.sr.fuel);have e:bO w wb (ae (ky ((GS mb todo' av vv).setIfInBounds 1 tv) 1 (k.sr.fuel:Nat)) 130 (0,0))=w1:=zg;rw[e] at b a;refine⟨⟨b,c.bI a.toI (eo.refl _ _),?_,h.ag.bI a.toI (eo.refl _ _),h.da⟩,a⟩;rw[hw];refine Iz h.ar fun e=>?_;obtain⟨cs,d⟩:=h.D0 e;have g:=h.cell;grind
def kl.KN(h:kl D ρ wb mb todo av vv tv di w k){av':Y}{avs':List Y}{l:List nY}(hr:w1.ownsRow 0 356 4 av' l.length avs')
  (d:w.grownBy w1 av.ownBlock) (hv:av'.ownBlock=av.ownBlock\/∀ g,av'.ownBlock=O g->D g/\w.heap.size<=g) (q:qt ρ k.n w avs' l)
  (hw:w2=bO w1 wb (ae #[.map (O mb),tv,zi (k.sr.fuel:Nat),todo,av',vv] 130)) :
  kl D ρ wb mb todo av' vv tv avs' w2 { k with br:=l }/\dc D w w2/\w1.heap[wb]?=w.heap[wb]?:=by
 have s:=h.cell;have u:∀ (b:Nat) (c:Array Y) (U:Nat),w.heap[b]?=aN c U->U≠356->w1.heap[b]?=aN c U:=(by grind [bf,a1k,D0]);have f1:dc D w w1:=⟨d.os,d.tape,d.output,d.size,fun b o i hm=>by
  rw[d.block b (bf i) (fun e=>?_)]
  .omega
  .obtain⟨cs,a⟩:=h.D0 e.symm;rw[i] at a;exact hm ⟨h.da b e.symm,_,_,_,Option.some.inj a,.inr zg⟩⟩
 have s1:gU D ρ k.n wb 1 130 (GS mb todo av vv) tv w1 k.sr:=by
  refine⟨h.st.sv.bI fun b c t ht i=>yH,h.st.dv,yH,?_,h.st.dr,h.st.ds,h.st.nd,h.st.lt,h.st.ok⟩;refine⟨h.st.row.1,?_⟩;rcases h.st.row.2 with a | ⟨b,cap,cur,j,p,r,x⟩<;>grind
 obtain⟨a,p⟩:=s1.cells (by grind [Fi]) (cs':=GS mb todo av' vv) (f:=k.sr.fuel);have e:bO w1 wb (ae (ky ((GS mb todo av' vv).setIfInBounds 1 tv) 1 (k.sr.fuel:Nat)) 130 (0,0))=w2:=zg;rw[e] at a p;have m:dc D w w2:=yF;refine⟨⟨a,h.td.bI m.toI (eo.refl _ _),?_,q.bI m.toI (eo.refl _ _),fun g y=>?_⟩,m,yH⟩
 .rw[hw];refine Iz hr fun e=>?_;rcases hr.2 with⟨j,-⟩| ⟨z,cap,cur,j,-,r,-⟩
  .rw[j] at e;cases e
  grind [Value.ownBlock,aZ9]
 grind [da]
def uw.ptr{n:Nat}{v:Y}:∀ {l:List P.Goal},uw ρ n w v l->∃ p,v = .pointer p
 | [],h=>⟨V,h⟩
 | _::_,⟨b,_,_,_,h,_⟩=>⟨_,h⟩
def qt.snoc{n:Nat}{a:nY}{l0:List Y}:∀ {l:List nY} {vs:List Y},qt ρ n w vs l->qt ρ n w l0 [a]->qt ρ n w (vs++l0) (l++[a])
 | [],vs,h,b=>by have h:vs=[]:=h;grind
 | x::l,vs,⟨c,cv,av,fR,us,rest,k,d,e,f,g,i,j⟩,b=>⟨c,cv,av,fR,us,rest++l0,zg,d,e,f,g,i,qt.snoc j b⟩
def aeb(h:kl D ρ wb mb todo av vv tv di w k)(hD:∀ b,w.heap.size<=b->D b){l:List P.Goal}(f:uw ρ k.n w o4 l)(s:k.br.length<=900000000) :
  Calls a96 226 #[pp wb,o4] w fun e w'=>e = ah (ak #[])/\dc D w w'/\∃ av' avs',kl D ρ wb mb todo av' vv tv avs' w' (k.WA l):=by
 have i:=h.cell;have lw:=bf i;obtain⟨j,rfl⟩:=f.ptr;have t:Ext w w.drew:=yF;refine aKg ?_;refine⟨fun w'=>w'.heap[wb]?=w.heap[wb]?,J,?_⟩;refine toPr ?_;refine bD ?_;refine cQ (pq wb 4) (fun w' a=>eQ) ?_;refine cQ av (fun w' a=>by rw[i] at a;have:=bf a;exact fg a) ?_;refine bD ?_;refine cQ (pq wb 1) (fun w' a=>eQ) ?_;refine a0c (SY (h.ext t).st Fi) ?_;rintro e w1 ⟨rfl,rfl⟩;refine⟨J,?_⟩;refine bD ?_;obtain⟨l0,m⟩:∃ l0:List Y,l0=[zi (k.sr.tr.length:Nat),.pointer j,bH,bH]:=⟨_,J⟩;obtain⟨w2,o⟩:=b9 (w.drew.alloc (ae l0.toArray 356 (0,0)));have d:Ext w w2:=yF;have g2:w2.heap[w.heap.size]?=aN l0.toArray 356:=yH;have s2:w2.heap.size=w.heap.size+1:=yH;rw[m] at o;rw[<- o];have c:=h.ext d;have q2:=c.cell;refine anW c.ar g2 zg (by rw[m];intro u hu;simp only[List.mem_cons,List.not_mem_nil,or_false] at hu;rcases hu with rfl | rfl | rfl | rfl<;>rfl) s zo ?_;intro v' w3 p x y;obtain⟨p3,d3,z⟩:=gX p;subst z;obtain⟨H,q⟩:=b9 (bO w3 wb (ae #[.map (O mb),tv,zi (k.sr.fuel:Nat),todo,.slice p3 (k.br.length+1) d3,vv] 130));have B:qt ρ k.n w2 (di++l0) (k.br++[⟨k.sr.tr.length,l,[],[]⟩]):=by
  refine c.ag.snoc ⟨.pointer j,bH,bH,[],[],[],zg,f.bI (eM.ea d) (eo.refl _ _),n9.nil,J,.inl ⟨J,J⟩,?_,J⟩;unfold pE iG;rfl
 obtain⟨C,E,F⟩:=c.KN (l:=k.br++[⟨k.sr.tr.length,l,[],[]⟩]) (by rw[List.length_append,List.length_singleton];exact p) x (y.imp id fun hx g r=>⟨hD g (by have:=hx g r;omega),hx g r⟩) B q;refine⟨yH,?_⟩;have c3:=F.trans q2;refine cG @c3 ?_;rw[<- q];exact⟨(dc.ea d).trans E,_,_,C⟩
end
section
variable{p0 p1 p2 p3 p4 p5 p6 p7:Y}{w:Z}{R:Ending->Z->Prop}
def aKn:=cz w R [p0,p1] (gc [] [] []) func78
def aKo:=cz w R [p0] (gd [(3,[10])] [] [(5,9)] [] [] [] [11]) func39
def anX:=cz w R [p0] (gc [(3,[9])] [] [10]) func77
def anY:=cz w R [p0,p1] (gd [] [] [] [(2,[14,0,1,2,3,4,5,6,7,8,9,10,11,12,13])] [] [] []) func38
def anZ:=cz w R [p0,p1,p2] (gd [] [(12001,[])] [] [(6,[12,0,2,3,4,5,6,7,8,1,9,10,11,12,13])] [] [] [2,12,20,22,23,51,52,53,61]) func26
def aKp:=cz w R [p0,p1,p2] (gc [] [] [2,16]) func15
end
def xR(ρ:Nat->Nat)(n B:Nat)(i:Nat):Nat:=if i<n then ρ i else B+(i-n)
def XC(ρ:Nat->Nat)(n B m:Nat):eo ρ n (xR ρ n B) (n+m):=⟨zo,fun i a=>by unfold xR;grind⟩
def an0(m:Nat)(hm:m<=100000)(w:Z):Calls a96 77 #[zi (m:Nat)] w fun e w'=>Ext w w'/\w'.heap.size=w.heap.size+1+m /\
  ∃ cs,e = ah (cM w.heap.size m m)/\w'.heap[w.heap.size]?=aN cs 89/\cs.size=m /\
   ∀ j,j<m->cs[j]?=O (aj 87 (pp (w.heap.size+1+j)))/\w'.heap[w.heap.size+1+j]?=aN #[ai] 91:=by
 refine anX ?_;refine bD ?_;refine⟨fun q z w'=>∃ (j:Nat) (cs:Array Y),z 9=zi (j:Nat)/\j<=m/\q=m-j/\Ext w w'/\w'.heap.size=w.heap.size+1+j/\w'.heap[w.heap.size]?=aN cs 89/\cs.size=m /\
   ∀ i,i<j->cs[i]?=O (aj 87 (pp (w.heap.size+1+i)))/\w'.heap[w.heap.size+1+i]?=aN #[ai] 91,
  ⟨_,0,_,J,a0r _,J,(bz.refl _ _).alloc _,by rw[size_alloc],qG J,by simp [madeCells],fun i b=>zo⟩,?_⟩
 intro q z d w1 c;refine toPr ?_;obtain⟨j,cs,a,k,rfl,l,s1,g1,n,o⟩:=c;have p:=bf g1;by_cases hlt:j<m
 .have r:((j:Nat):Int)<(m:Int):=zo;have f:((j:Nat):Int).toNat=j:=zo;have g:j<cs.size:=zo;refine iJ a @f @g1 ?_;refine⟨_,zo,j+1,_,zs,zo,J,yF,yH,J,yH,fun i b=>?_⟩;exact yH
 .have h:j=m:=zo;subst h;refine cG a ?_;exact yH
def gU.fresh{T:Nat}{s:Sr}(h:gU D ρ n pb so T cs tv w s)(hD:∀ b,w.heap.size<=b->D b)(l:Ext w w')
  (hv:∀ j,j<m->w'.heap[w.heap.size+1+j]?=aN #[ai] 91):gU D (xR ρ n (w.heap.size+1)) (n+m) pb so T cs tv w' s:=by
 have hu:=XC ρ n (w.heap.size+1) m;have hold:∀ i,i<n->ρ i<w.heap.size:=fun i d=>by
  obtain⟨r,a,-⟩:=h.sv.var i d;exact yH
 have f:=h.ext l;refine⟨⟨fun i j d o e=>?_,fun i d=>?_⟩,fun i d=>?_,f.cell,?_,h.dr,h.ds,h.nd,fun p c=>a0E (h.lt p c) hu.1,h.ok⟩
 .unfold xR at e;by_cases a:i<n
  .by_cases g:j<n
   .rw[zip a,zip g] at e;exact h.sv.inj i j a g e
   grind
  grind
 .by_cases a:i<n
  .obtain⟨r,g1,g2⟩:=f.sv.var i a;refine⟨r,by rw[hu.2 i a];omega,?_⟩;cases k:P.look i s.tr with
   | none=>exact yH
   | some t=>rw[k] at g2;exact dH.mono zg hu.1 hu.2 (fun _ _ _ _ _ h=>h) t r g2
  .have k:P.look i s.tr=none:=P.Pw fun hm=>by
    obtain⟨p,c,rfl⟩:=List.mem_map.1 hm;exact a (h.lt p c)
   refine⟨ai,?_,zg⟩;unfold xR;rw[bX a];exact hv (i-n) zo
 .unfold xR;by_cases a:i<n
  .rw[zip a];grind [dv]
  exact yH
 .have e:qU (xR ρ n (w.heap.size+1)) s.tr=qU ρ s.tr:=by
   unfold qU;refine List.map_congr_left fun p c=>?_;rw[hu.2 p.1 (h.lt p (List.mem_reverse.1 c))]
  grind [row]
def kl.fresh{D:Nat->Prop}{ρ:Nat->Nat}{wb mb:Nat}{todo av vv tv:Y}{di:List Y}{w w':Z}{k:Wk}(h:kl D ρ wb mb todo av vv tv di w k)(hD:∀ b,w.heap.size<=b->D b){m:Nat}(a:Ext w w')
  (hv:∀ j,j<m->w'.heap[w.heap.size+1+j]?=aN #[ai] 91):kl D (xR ρ k.n (w.heap.size+1)) wb mb todo av vv tv di w' { k with n:=k.n+m }:=
 ⟨h.st.fresh hD a hv,h.td.bI (eM.ea a) (XC ρ k.n (w.heap.size+1) m),jM a.ext h.ar,h.ag.bI (eM.ea a) (XC ρ k.n (w.heap.size+1) m),h.da⟩
def an1(c:w'.heap[b]?=aN cs 89)(f:cs.size=m)
  (d:∀ j,j<m->cs[j]?=O (aj 87 (pp (B+j)))):fD (fun _=>True) w' 89 (cM b m m) (mm (xR ρ n B) (a0X n m)):=by
 have g:(mm (xR ρ n B) (a0X n m)).length=m:=zs;have e:cs.toList=mm (xR ρ n B) (a0X n m):=by
  apply List.ext_getElem?;intro j;by_cases a:j<m
  .rw[Array.getElem?_toList,d j a,List.getElem?_map,List.getElem?_range' a];simp only[xR,Option.map_some,Nat.mul_one,Nat.one_mul];grind
  grind
 exact .inr ⟨b,cs,zg,trivial,c,zo,zg⟩
def aKq{ids:List Nat}(S:∀ i∈ids,i<n){l:List Ex}(T:eZ ids.length l)(hl:l.length<=100)(hv:fD (fun _=>True) w 106 v vs)(hx:eH (fun _=>True) w vs l)
  (U:fD (fun _=>True) w 89 vv (mm ρ ids)) :
  Calls a96 228 #[v,vv] w fun e w'=>Ext w w'/\∃ u us,e = ah u/\fD (fun _=>True) w' 89 u us/\pE ρ n w' us (mS ids l):=by
 have W:=hx.Fg;obtain⟨av,ac,rfl⟩:=hv.sl;have hlen:vs.length=l.length:=W;rw[hlen];refine aKf ?_;refine bD ?_;refine⟨fun m z w'=>∃ j g us,z 9=zi (j:Nat)/\z 4=g/\j<=l.length/\m=l.length-j/\Ext w w'/\w'.ownsRow w.heap.size 89 1 g j us /\
   iG (fun c=>w.heap.size<=c/\c<w'.heap.size/\O c≠g.ownBlock) ρ n w' us (mS ids (l.take j)),
  ⟨_,0,bH,[],J,J,a0r _,J,yF,World.ownsRow_nil _ _ _ _,by simp [mS];unfold iG;rfl⟩,?_⟩
 intro m z d w3 X;refine toPr ?_;obtain⟨j,g,us,s,D,hj,rfl,a,p,x⟩:=X;have s3:=a.size;obtain⟨y,rc,rfl⟩:=gX p;by_cases hlt:j<l.length
 .have qq:j<vs.length:=zo;obtain⟨sb,IL,B,-,e3,E⟩:=hv.at' qq;obtain⟨u,e5,hu⟩:=eH.at' j hlt hx;rw[e5] at E;rw[hlen] at B;simp only[a0s,true_and] at B;obtain⟨rfl,rfl⟩:=B;have jJ:((j:Nat):Int).toNat=j:=zo;have C:=a.ext _ _ e3;refine dC s @C @E @jJ ?_;have MA:eG (fun _=>True) w3 u l[j]:=eG.mono zg (by grind [bz.ext]) _ _ hu;refine a0c (XA S (gH l[j]) l[j] (a0d _) (T.at hlt) MA (U.mono (fun _ h=>h) fun b cs _ hb=>a.ext _ _ hb)) ?_;rintro e f ⟨q,u4,rfl,H⟩;have s4:=q.size;obtain⟨I,K,rfl⟩:=H.iface;refine bD ?_;have L:Ext f (f.alloc (ae #[aj I K] 89)):=yF;have Ag:=jM (q.trans L).ext p;rw[D];refine PD (base:=w.heap.size) Ag (qG J) J zo (by rw[size_alloc];omega) ?_;intro v' w5 M N xQ;have s5:=N.size;rw[size_alloc] at s5;have kp:∀ c o,f.heap[c]?=O o->O c≠(a0m y j rc).ownBlock->w5.heap[c]?=O o:=(by grind [size_alloc,bf,a1k,bz.ext]);have lo:∀ k,(a0m y j rc).ownBlock=O k->w.heap.size<=k/\k<w3.heap.size:=fun k hk=>p.lt k hk;obtain⟨P,Q,rfl⟩:=gX M;have mC:∀ c,c<f.heap.size->O c≠(a0m y j rc).ownBlock->O c≠(a0m P (j+1) Q).ownBlock:=yH;refine cG s ?_;refine⟨_,?_,j+1,.slice P (j+1) Q,us++[aj I K],zg,zg,zo,J,?_,M,?_⟩
  .omega
  .exact((a.trans q).trans L).grow N yH
  .rw[ad6 ids l j hlt];refine iG.snoc ?_ ?_
   .refine dH.mono (F:=Nu w3 f) (fun c r=>?_) (a0d _) (fun _ _=>rfl) (fun c cs t r _ R=>?_) _ _ H<;>grind
   .refine iG.mono (fun c r=>?_) zo zg (fun c cs t r _ R=>?_) _ _ x
    .exact yH
    .exact kp c _ (q.ext _ _ R) r.2.2
 .have fx:j=l.length:=zo;subst fx;rw[List.take_length] at x;refine dy s D ?_;exact⟨a,_,us,J,EC p zg,x.toT⟩
section
variable{D:Nat->Prop}{ρ:Nat->Nat}{wb mb:Nat}{todo av vv tv:Y}{di:List Y}{w w':Z}{k:Wk}
theorem qt.take{n:Nat}:∀ {l:List nY} {vs:List Y} (m:Nat),qt ρ n w vs l->qt ρ n w (vs.take (m*4)) (l.take m)
 | l,vs,0,h=>by simp;rfl
 | [],vs,m+1,h=>by have h:vs=[]:=h;grind
 | a::l,vs,m+1,⟨b,cv,av,fR,us,rest,j,c,d,e,f,g,i⟩=>by
  refine⟨b,cv,av,fR,us,rest.take (m*4),?_,c,d,e,f,g,qt.take m i⟩;grind
theorem qt.at{n:Nat}:∀ {l:List nY} {vs:List Y} (m:Nat) (hm:m<l.length),qt ρ n w vs l->∃ b cv av fR us,(vs.drop (m*4)).take 4=[zi ((l[m]).mark:Nat),b,cv,av]/\uw ρ n w b (l[m]).todo /\
   n9 w 79 cv fR/\ko (fun _=>True) w fR (l[m]).clauses/\fD (fun _=>True) w 89 av us/\pE ρ n w us (l[m]).args
 | a::l,vs,0,_,⟨b,cv,av,fR,us,rest,d,e,f,g,h,i,c⟩=>zg
 | a::l,vs,m+1,hm,⟨b,cv,av,fR,us,rest,d,e,f,g,h,i,c⟩=>by
  obtain⟨j,o,av',p,k,g1,g2⟩:=qt.at m zg c;grind
def kl.forget(h:kl D ρ wb mb todo av vv tv di w k)(hm:m<=k.br.length){a:Option Addr}(b:av = .slice a k.br.length c)
  (hw:w1=bO w wb (ae #[.map (O mb),tv,zi (k.sr.fuel:Nat),todo,.slice a m c,vv] 130)) :
  kl D ρ wb mb todo (.slice a m c) vv tv (di.take (m*4)) w1 { k with br:=k.br.take m }/\dc D w w1:=by
 have i:=h.ag.len;have hr:w.ownsRow 0 356 4 (.slice a m c) m (di.take (m*4)):=by
  refine⟨zg,?_⟩;rcases h.ar.2 with⟨d,e⟩| ⟨g,cap,cur,d,e,j,n,o,p,q⟩<;>grind
 have f:w.grownBy w av.ownBlock:=⟨J,J,J,a0d _,yH⟩;obtain⟨r,s,-⟩:=h.KN (l:=k.br.take m) (av':=.slice a m c) (avs':=di.take (m*4)) zg f (.inl (by rw[b];cases a<;>rfl)) (h.ag.take m) hw;exact yF
def kl.again(h:kl D ρ wb mb todo av vv tv di w k)(hm:m<k.br.length)(o:av = cM g k.br.length c)(q:w.heap[g]?=aN iC 356)
  {cv:Y} {l:List Cl} (t:n9 w 79 cv xs) (u:ko (fun _=>True) w xs l) (d:w1=bO w g (ae (iC.setIfInBounds (m*4+2) cv) 356 (0,0)))
  (x:w2=bO w1 wb (ae #[.map (O mb),tv,zi (k.sr.fuel:Nat),todo,cM g (m+1) c,vv] 130)) :
  (∃ avs',kl D ρ wb mb todo (cM g (m+1) c) vv tv avs' w2 { k with br:=k.br.take m++[{ k.br[m] with clauses:=l }] })/\dc D w w2/\w1.heap[wb]?=w.heap[wb]?:=by
 have M:=h.ag.len;obtain⟨f,p,i,y,us,N,g2,g3,g4,g5,g6⟩:=h.ag.at m hm;have z:=bf q;obtain⟨a,B⟩:=b9 (di.take (m*4));have C:a.length=m*4:=zg;have P:w1.ownsRow 0 356 4 (cM g (m+1) c) (m+1) (a++[zi ((k.br[m]).mark:Nat),f,cv,i]):=by
  refine⟨zg,?_⟩;rcases h.ar.2 with⟨j,r⟩| ⟨E,cap,Q,j,r,s,R,F,H,S⟩
  .exact yH
  .rw[o] at j;have j:g=E/\c=cap:=zg;obtain⟨rfl,rfl⟩:=j;rw[q] at s;cases s;refine .inr ⟨g,c,_,J,r,by rw[d];exact pX J z,zo,F,by simpa using H,?_⟩;have T:iC.toList.take ((m+1)*4)=a++[zi ((k.br[m]).mark:Nat),f,p,i]:=by
    have U:iC.toList.take ((m+1)*4)=di.take ((m+1)*4):=by
     grind
    grind
   grind [Array.toList_setIfInBounds,List.take_set,List.set_append_right,Nat.add_sub_cancel_left]
 have I:w.grownBy w1 av.ownBlock:=⟨by rw[d];rfl,by rw[d];rfl,by rw[d];rfl,yH,fun b _ K=>by
  rw[d,jd (fun e=>K (by subst e;rw[o];rfl))]⟩
 have L:qt ρ k.n w (a++[zi ((k.br[m]).mark:Nat),f,cv,i]) (k.br.take m++[{ k.br[m] with clauses:=l }]):=by
  rw[B];exact(h.ag.take m).snoc ⟨f,cv,i,xs,us,[],J,g2,t,u,g5,g6,J⟩
 have W:(k.br.take m++[{ k.br[m] with clauses:=l }]).length=m+1:=by
  grind
 obtain⟨X,r2,r3⟩:=h.KN (l:=k.br.take m++[{ k.br[m] with clauses:=l }]) zg I (.inl (by rw[o];rfl)) L x;exact yH
def PM{w:Z}{size:Nat}{a:Option Addr}(h:w.ownsRow base e size (.slice a n c) n xs):n<=c/\∀ (m s:Nat),sliced a 0 m c s = .slice a m c:=by
 rcases h.2 with⟨d,f⟩| ⟨b,cap,cur,d,f,g,i,j,k,l⟩
 .cases d;exact⟨a0d _,(by grind [sliced])⟩
 grind [sliced,Addr.add]
theorem kl.dm(h:kl D ρ wb mb todo av vv tv di w k)(hD:∀ b,w.heap.size<=b->D b):∀ b,w.heap.size<=b->Dm D av b:=fun b a=>⟨hD b a,(by grind [bf,D0])⟩
abbrev Fj(D:Nat->Prop)(ρ:Nat->Nat)(n wb mb:Nat)(vv:Y)(p:Bool×Wk)(e:Ending)(w':Z):Prop:=
 e = ah (.bool p.1)/\∃ eL,eo ρ n eL p.2.n/\PJ D eL wb mb vv w' p.2
def an3(h:kl D ρ wb mb todo av vv tv di w k)(hD:∀ b,w.heap.size<=b->D b){us:List Y}{l:List Cl}{args:List Tm}{td:List P.Goal}{r:Except jE (Bool×Wk)}
  (hs:n9 w 79 o4 xs) (hc:ko (fun _=>True) w xs l) (ha:fD (fun _=>True) w 89 iv us) (ht:pE ρ k.n w us args) (de:ji args) (gT:∀ c∈l,yW M c/\c.args.length=args.length) (hM:M<=100000)
  (ry:uw ρ k.n w o5 td) (hm:m<=k.br.length) (nH:1<l.length->m<k.br.length) (hz:k.sr.cS<=800000000) (xS:k.br.length<=900000000) (hr:wq f args l td m k=O r) :
  Calls a96 224 #[pp wb,iv,o4,o5,zi (m:Nat)] w (EPost D w (Fj D ρ k.n wb mb vv) r):=by
 have JH:k.sr.tr.length+k.sr.fuel<=800000000:=hz;unfold wq at hr;refine aKh ?_;refine bD ?_;refine a0c (M3 h.less Fi zo) ?_;rintro e w1 ⟨N,F⟩;by_cases h0:k.sr.fuel=0
 .rw[zip h0] at hr F;injection hr with hr;subst hr F;exact⟨N.up fun _ h=>h.1,J⟩
 rw[bX h0] at hr F;obtain⟨rfl,F⟩:=F;obtain⟨z,N⟩:=h.store F N;cases l with
 | nil=>cases hr
 | cons c rest=>
 simp only at hr;obtain⟨cv,PK,rfl,jb,JY⟩:=hc;obtain⟨D1,aVS⟩:=gT c (List.mem_cons_self ..);obtain⟨lb,lo,Tn,lcs,rfl,VT,qF,aKs⟩:=hs.at (j:=0) zs;rw[Nat.add_zero] at qF;have Bm:=N.toI;have aKt:=Bm _ _ _ (yM) VT;refine dy aKt qF ?_;obtain⟨aa,ac,Q⟩:=gX z.ar;have c1:=z.cell;have lw1:=bf c1;have R:Ext w1 w1.drew:=yF;refine⟨fun _ w'=>∃ av' avs',kl D ρ wb mb todo av' vv tv avs' w' { k with sr:=k.sr.dec,br:=wo k.br m rest }/\dc D w w',?_,?_⟩
 .obtain⟨Px,iA⟩:=PM (by rw[Q] at z;exact z.ar:w1.ownsRow 0 356 4 (.slice aa k.br.length ac) k.br.length di);have lL:av = .slice aa k.br.length ac:=Q;cases rest with
  | nil=>
   have jb:PK=[]:=JY;subst jb;have To:(m:Int)<=(ac:Nat):=zo;refine iJ @c1 Q iA ?_;obtain⟨S,r2⟩:=z.forget hm lL J;exact⟨_,_,S,yF⟩
  | cons c2 rest=>
   obtain⟨cv2,XF,rfl,-,-⟩:=id JY;have wu:m<k.br.length:=zg;rcases z.ar.2 with⟨B,e2⟩| ⟨g,cap,cur,B,e2,hg,T,e5,e6,e7⟩
   .have e2:k.br.length=0:=e2;omega
   rw[Q] at B;cases B;have Dl:g≠wb:=zg;have aVT:(m:Int)<(k.br.length:Nat):=zo;obtain⟨sa,sc,za⟩:∃ sa sc,sliced (O ⟨lb,lo,V⟩) 1 (XF.length+1+1) Tn 1 = .slice sa (XF.length+1) sc:=⟨_,_,J⟩;have To:(m:Int)+1<=(ac:Nat):=zo;have PN:n9 w1 79 (.slice sa (XF.length+1) sc) (cv2::XF):=by
    rw[<- za];exact(hs.bI fun b cs H=>Bm _ _ _ (yM) H).tail zs
   refine dC @c1 Q hg (zA za iA) ?_;obtain⟨⟨avs',S⟩,r2,-⟩:=(z.ext R).again (m:=m) wu lL (R.ext _ _ hg) (PN.bI fun b cs H=>R.ext _ _ H) (ko.iZ (Bm.trans (eM.ea R)) JY) J J;have e3:((m:Int)+1).toNat=m+1:=zo;rw[e3];have T:wo k.br m (c2::rest)=k.br.take m++[{ k.br[m] with clauses:=c2::rest }]:=by
    grind [wo,List.getElem?_eq_getElem]
   rw[T];exact⟨_,avs',S,N.trans ((dc.ea R).trans r2)⟩
 .rintro s w2 ⟨uu,PO,h2,dM⟩ d;clear d;have s2:=dM.size;have VY:=dM.toI;obtain⟨cb,cav,cbv,XG,Tp,rfl,-,gF,⟨xus,lu,xo⟩,nE⟩:=jb;have Fa:=VY _ _ _ (yM) gF;have XH:=bf Fa;have hM5:c.vars.length<=100000:=a0f D1.vars hM;refine cG Fa ?_;refine a0c (an0 c.vars.length hM5 w2) ?_;rintro e w3 ⟨eI,s3,vcs,rfl,yO,Ct,XI⟩;have h3:=h2.fresh (fun b H=>hD b (a0f s2 H)) eI (fun j hj=>(XI j hj).2);have C:=an1 (ρ:=ρ) (n:=k.n) yO Ct (fun j hj=>(XI j hj).1);have U:eo ρ k.n (xR ρ k.n (w2.heap.size+1)) (k.n+c.vars.length):=XC _ _ _ _;have AB:dc D w w3:=yF;generalize xR ρ k.n (w2.heap.size+1)=eL at h3 C U;have KB:=eI.ext _ _ Fa;obtain⟨xa,xc,aKx⟩:=lu.sl;subst aKx;have Jz:xus.length=c.args.length:=eH.Fg xo;refine dy KB Jz ?_;cases hq:vg f (a0X k.n c.vars.length) args c.args k.sr.dec with
  | none=>rw[hq] at hr;cases hr
  | some q=>
  rw[hq] at hr;refine⟨fun n x a=>∃ j I Fe,x 64=zi (j:Nat)/\j<=c.args.length/\n=c.args.length-j/\kl D eL wb mb todo uu vv Fe PO a ⟨k.n+c.vars.length,I,k.todo,wo k.br m rest⟩/\dc D w3 a/\I.cS<=800000000 /\
    vg f (a0X k.n c.vars.length) (args.drop j) (c.args.drop j) I=O q,⟨_,0,_,_,J,a0r _,J,h3,yF,by grind [Sr.cS,Sr.dec],hq⟩,?_⟩
  intro n x d a hI;refine toPr ?_;obtain⟨j,I,Fe,XJ,hj,rfl,h4,fZ,XK,o⟩:=hI;have Ng:=AB.trans fZ;have K:=dc.toI Ng;have s4:=fZ.size;by_cases hlt:j<c.args.length
  .have wN:=D1.ql;have XL:j<args.length:=zo;obtain⟨sb,IL,B,-,e3,T⟩:=lu.at' (j:=j) zo;obtain⟨u,e5,hu⟩:=eH.at' j hlt xo;rw[e5] at T;rw[Jz] at B;simp only[a0s,true_and] at B;obtain⟨rfl,rfl⟩:=B;have uz:us.length=args.length:=ht.length;obtain⟨ub,ucs,u1,-,u3,u4⟩:=ha.at' (j:=j) zo;obtain⟨uv,u5,Nh⟩:=ht.at j XL;rw[u5] at u4;have jJ:((j:Nat):Int).toNat=j:=zo;have e34:=K _ _ _ (yM) e3;have AU:=K _ _ _ (yM) u3;have Cu:((j:Nat):Int)<(c.args.length:Nat):=zo;refine dC XJ @e34 @T @jJ ?_;have Tq:Ext a a.drew:=yF;refine⟨fun w'=>w'.heap[ub]?=a.heap[ub]?,J,?_⟩;rw[jx];refine cQ (pq wb 1) (fun w' t=>eQ) ?_;have aKA:((j:Nat):Int)<(us.length:Nat):=zo;refine cQ (pq ub j) (fun w' t=>by rw[AU] at t;have:=bf t;rw[u1,XJ];exact lT t @jJ) ?_;obtain⟨KE,xv1,W⟩:=Nh.iface;refine cQ uv (fun w' t=>by rw[AU] at t;have:=bf t;rw[W] at u4;exact zP t @jJ @u4 W) ?_;have IK:∀ i∈a0X k.n c.vars.length,i<k.n+c.vars.length:=zg;have hXe:eM w a.drew:=K.trans (eM.ea Tq);have hx4:eG (fun _=>True) a.drew u c.args[j]:=eG.mono zg hXe.ll _ _ hu;have E0:gO (a0X k.n c.vars.length).length c.args[j]:=by rw[List.length_range'];exact D1.args.at hlt
   refine a0c (XA IK (gH c.args[j]) c.args[j] zo E0 hx4 (C.iZ ((dc.toI fZ).trans (eM.ea Tq)) (yM))) ?_;rintro e L ⟨lX,u5v,rfl,Xw⟩;have EE:=lX.ext _ _ (Tq.ext _ _ AU);refine⟨yH,?_⟩;have y:Ext a L:=yF;have h5:=h4.ext y;have hD5:∀ b,L.heap.size<=b->D b:=fun b H=>hD b (by have:=y.size;omega);obtain⟨E,X,Ts⟩:∃ E,lH f args[j] (P.made (a0X k.n c.vars.length) c.args[j]) I=O E /\
     (match E with | .error e=>q = .error e | .ok p=>(if p.1=A then vg f (a0X k.n c.vars.length) (args.drop (j+1)) (c.args.drop (j+1)) p.2 else O (.ok (G,p.2)))=O q):=by
    rw[a0h hlt,a0h XL,vg] at o;cases hu:lH f args[j] (P.made (a0X k.n c.vars.length) c.args[j]) I with
    | none=>rw[hu] at o;cases o
    | some E=>
     rw[hu] at o;refine⟨E,J,?_⟩;cases E with
     | error e=>exact(Option.some.inj o).symm
     | ok p=>exact o
   refine a0c (Pz Fi f h5.less (h5.dm hD5) (dL.PI (K.trans (eM.ea y)) U Nh) (IB de XL) Xw.toT (SA _ _ E0) zg X) ?_;rintro e w6 ⟨jX,lz⟩;have qX:dc D a w6:=(dc.ea y).trans (jX.up fun _ h=>h.1);cases E with
   | error te=>
    subst Ts;have lz:e=gV te:=lz;subst lz;cases hr;cases te<;>exact fun _=>⟨yF,J⟩
   | ok p=>
    obtain⟨b1,s6⟩:=p;obtain⟨rfl,tv6,h6⟩:=lz;obtain⟨h6,Tt⟩:=h5.store h6 jX;have Xu:=((EV f).tm X).1;cases b1 with
    | false=>
     simp only[Bool.false_eq_true,if_false] at Ts;cases Ts;cases hr;refine bD ?_;exact⟨yF,J,eL,U,_,_,_,_,h6⟩
    | true=>
     simp only[if_true] at Ts;refine cG XJ ?_;exact⟨_,zo,j+1,s6,tv6,zg,zo,J,h6,yF,zg,Ts⟩
  .have fx:j=c.args.length:=zo;subst fx;have H6:args.drop c.args.length=[]:=zg;rw[H6,vg] at o
   .cases o;cases hr;have aKD:=K _ _ _ (yM) gF;have c4:=h4.cell;have lc4:=bf c4;obtain⟨tq,rfl⟩:=ry.ptr;obtain⟨xb,rfl,-⟩:=nE.shape;refine iJ XJ aKD @c4 ?_;obtain⟨L,oc⟩:=b9 (a.alloc (ae #[pp xb,cM w2.heap.size c.vars.length c.vars.length,zi (m:Nat),.pointer tq] 207));have y:Ext a L:=yF;have g5:L.heap[a.heap.size]?=aN #[pp xb,cM w2.heap.size c.vars.length c.vars.length,zi (m:Nat),.pointer tq] 207:=yH;rw[<- oc];have Tu:eM w L:=K.trans (eM.ea y);have IK:∀ i∈a0X k.n c.vars.length,i<k.n+c.vars.length:=zg;obtain⟨S,r2⟩:=(h4.ext y).KM (todo':=pp a.heap.size) (l:=⟨O c.body,a0X k.n c.vars.length,m⟩::td)
     ⟨_,_,_,_,J,g5,dJ.iZ Tu nE,C.iZ ((dc.toI fZ).trans (eM.ea y)) (yM),IK,ry.bI Tu U⟩ J
    exact⟨yF,J,eL,U,_,_,_,_,S⟩
   grind
end
