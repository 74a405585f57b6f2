/- A part of one proof (VP12, KR1, KD1). -/
import Derived.Test.YtoegidfbnkaabaaGreatDoorPkJBD
set_option linter.all false
set_option maxRecDepth 100000
set_option maxHeartbeats 8000000
open Option renaming some → O, none → V
open Go renaming Value → Y, World → Z
open Bool renaming true → A, false → G
open Go.Obj renaming cells → ae
open Go.Ending renaming returned → ah
open Go.Value renaming nilIface → ai, iface → aj, tuple → ak, pointer → aq
open Go.Calls renaming mono → aZJ
open Nat renaming le_refl → aZK, le_trans → aZL
open List renaming getElem?_eq_getElem → aZM, drop_eq_getElem_cons → aZP, mem_append → aZW, mem_singleton → aZ4, replicate → a0m, mem_of_getElem? → a0I, set_append_right → a2N, count_le_length → a27
open Go.Value renaming slice → aZT, string → aZ1
open Go.Instr renaming loadAt → aZX
open Except renaming ok → a1M, error → a3k
open Go.Proofs.Tryz renaming prog → a9P
namespace Go.Proofs.YtoegidfbnkaabaaGreatDoor
open P
open Go.RowKit Sx
variable{D:Nat->Prop}{R:Ending->Z->Prop}{X:Y->Z->Prop}{b base c cap e k n pb told:Nat}{cs:Array Y}{o4 tv v:Y}{out s:Bs}{sX ρ:Nat->Nat}{w w':Z}
def aha{M:Nat->Obj->Prop}{a b:Z}(h:bB M a b)(hx:∀ o,a.heap[k]?=O o->M k o)(c:Obj):bB M a (bO b k c):=
 ⟨h.os,h.tape,h.output,by rw[uC];exact h.size,(by grind [absurd,iY,bB.block])⟩
def aRo{P:Program}{T size:Nat}{K:Y->Z->Prop}(hu:P.underlying T=O (.slice e))(a:∀ w,(sizeOf e).run P w = .ok size w):WR P (Instr.buildSlice T 0 #[]) w K X=K (cR w.heap.size 0 0) (w.alloc (ae #[] e (0,0))):=by
 refine wU ?_;simp [Instr.buildSlice,run_underlying hu,a,Instr.fill,newRow,newObj,Sem.run];grind
def ahb(s:Bs)(w:Z)(e:Ending)(w':Z):Prop:=Ext w w'/\match rY s with
 | .ok (ps,c,n)=>∃ kb pb ab,e = ah (ak #[ptr kb,ai])/\xS w' kb pb ab n ps/\Fj w' ab c
 | .error (c,a)=>∃ b,e = ah (ak #[aq V,aj 73 (ptr b)])/\w'.heap[b]?=O (ae #[.int .i64 (c:Int),.int .i64 (a:Int)] 77 (0,0))
abbrev Jg(base:Nat)(w w':Z):Prop:=bB (fun b o=>base<=b/\((∃ es n,o = .map es n)\/∃ cs T,o = ae cs T (0,0)/\(T=187\/T=185\/T=196\/T=198))) w w'
def Jg.cells(h:Jg base w w'){T:Nat}(a:w.heap[b]?=aM cs T)(c:¬ (T=187\/T=185\/T=196\/T=198)):w'.heap[b]?=aM cs T:=
 (by grind [bB.block])
structure UT(w:Z)(rb eb kb:Nat):Prop where
 r:w.heap[rb]?=aM #[ptr kb] 108
 e:w.heap[eb]?=aM #[ai] 57
theorem UT.bH{rb kb:Nat}(h:UT w rb pb kb)(a:Jg base w w'):UT w' rb pb kb:=⟨a.cells h.r zo,a.cells h.e zo⟩
def aRp{d:Z}(h:∀ e w',ahb s w e w'->R e w'){a rb eb:Nat}(n:Ext w d)(o:rb=w.heap.size)(p:eb=w.heap.size+1)(f:d.heap[rb]?=aM #[o4] 108)(g:d.heap[eb]?=aM #[ai] 57)
  (q:d.heap[b]?=aM #[zi (c:Int),zi (a:Int)] 77) (r:rY s = .error (c,a)) :
  LV a9P (fun d=>RD a9P (aZX 108 (pp rb)) d (fun i=>RD a9P (aZX 57 (pp eb)) d (fun j=>R (ah (ak #[i,j])) d) NX) NX) R
   [{ target:=.fn (.func 66) #[pp rb,pp eb],args:=#[]++#[] }]
   (.panicking [{ v:=aj 73 (pp b),recovered:=false }]) d:=by
 refine aRc f g zo ?_;have t:=bg f;have u:=bg g;have k:(bO (bO d rb (ae #[aq V] 108)) (eb) (ae #[aj 73 (pp b)] 57)).heap[rb]?=aM #[aq V] 108:=by
  exact yH
 have l:eb<(bO d rb (ae #[aq V] 108)).heap.size:=yH;have m:(bO (bO d rb (ae #[aq V] 108)) (eb) (ae #[aj 73 (pp b)] 57)).heap[eb]?=aM #[aj 73 (pp b)] 57:=yH;have x:b≠rb:=by
  grind
 have y:b≠eb:=by
  grind
 refine du @k @m ?_;refine h _ _ ⟨yF,?_⟩;exact yH
theorem arP(e:Bs):∀ {l:List Bs} {q:Nat} {x:Bs},l[q]?=O x->(By e l)[q]?=O (if q+1<l.length then x++e else x)
 | [],_,_,h=>zg
 | [l],0,x,h=>by grind [By]
 | [l],q+1,x,h=>zg
 | l::m::ls,0,x,h=>by
  have:l=x:=zg;subst this;rw[By,zip zs];rfl
 | l::m::ls,q+1,x,h=>by
  rw[By,List.getElem?_cons_succ,arP e (by simpa using h)];simp
def arQ{r:Bs}{rs:List Bs}{k:Nat}{p:Pv}(h:rs≠[]):oO (r::rs) k p=match oy (gN 32 r) p with
  | none=>.error k
  | some p=>oO rs (k+1) p:=by
 cases rs with
 | nil=>grind
 | cons a b=>rfl
theorem lX.arR{p:Pv}(h:lX base w cap pb out tv p)(c:p.ask=V):out=[]↔p.dK=[]:=by
 have hk:∀ (n:Bs) (a:Nat),P.keyOf n a≠[]:=fun n a=>by unfold P.keyOf;simp
 cases h with
 | zero hk hm=>simp
 | pred b hm hu kL hD hr hv hC jS=>exact⟨zg,fun h=>by simp at h⟩
 | cl b hm hu kL hD hr hv hC oC hO jS eY=>exact⟨zg,fun h=>by simp at h⟩
 | ask b hm hD oC hO eY=>grind
def lX.aRq{p:Pv}(h:lX base w cap pb out tv p)(b:tv = aq V):p.cur=none:=by
 cases h with
 | zero hk hm=>rfl
 | pred a hm hu kL hD hr hv hC jS=>rfl
 | cl a hm hu kL hD hr hv hC oC hO jS eY=>grind
 | ask a hm hD oC hO eY=>grind
def aRr(s:Bs)(hT:Bx w)(hP:lH w)(hL:FB w):Calls a9P 34 #[aT s] w (ahb s w):=by
 suffices H:∀ R:Ending->Z->Prop,(∀ e w',ahb s w e w'->R e w')->Calls a9P 34 #[aT s] w R from H _ zg;intro R hR;refine aQ9 ?_;by_cases aYU:65536<s.length
 .have hli:(s.length:Int) > 65536:=zo;have lx:rY s = .error (1,0):=by grind [rY]
  refine cH hli ?_;obtain⟨w0,xM⟩:=cd (bO (bO (((w.alloc (ae #[aq V] 108)).alloc (ae #[ai] 57)).alloc (ae #[zi 1,zi 0] 77)) w.heap.size (ae #[aq V] 108)) (w.heap.size+1) (ae #[aj 73 (ptr (w.heap.size+1+1))] 57));rw[<- xM];have ox:Ext w w0:=yF;have q0:w0.heap[w.heap.size]?=aM #[aq V] 108:=yH;have q1:w0.heap[w.heap.size+1]?=aM #[aj 73 (ptr (w.heap.size+1+1))] 57:=yH;have q2:w0.heap[w.heap.size+1+1]?=aM #[zi 1,zi 0] 77:=yH;clear xM;refine arG ?_;refine du @q0 @q1 ?_;refine hR _ _ ⟨ox,?_⟩;grind
 .have hli:¬ (s.length:Int) > 65536:=zo;have iH:s.length<=1000000:=zo;refine cH hli ?_;obtain⟨w0,xM⟩:=cd ((w.alloc (ae #[aq V] 108)).alloc (ae #[ai] 57));rw[size_alloc,<- xM];have ox:Ext w w0:=yF;have s0:w0.heap.size=w.heap.size+2:=yH;have b0:w0.heap[w.heap.size]?=aM #[aq V] 108:=yH;have b1:w0.heap[w.heap.size+1]?=aM #[ai] 57:=yH;clear xM;obtain⟨rb,KX⟩:=cd w.heap.size;obtain⟨eb,KA⟩:=cd (w.heap.size+1);rw[<- KA,<- KX];rw[<- KX] at b0;rw[<- KA] at b1;refine aZJ (aRf s 10 w0 iH (hL.ext ox)) ?_;rintro e w1 ⟨rfl,jK⟩;obtain⟨L,K3⟩:=cd (gN 10 s);have lx:rY s=match oO L 1 ⟨[],G,V⟩with
   | .error k=>.error (5,k)
   | .ok p=>match p.ask with
    | some (c,n)=>.ok (p.dK,c,n)
    | none=>.error (5,L.length):=by grind [rY]
  have hLf:∀ l∈L,(10:UInt8) ∉ l/\l.length<=s.length:=by grind [adg]
  have hLn:L≠[]:=by grind [ag7]
  have hLl:L.length<=1000001:=by grind [US,a27]
  rw[<- K3] at jK ⊢;clear K3;have hN:0<L.length:=List.length_pos_iff.2 hLn;obtain⟨cs,jI⟩:=cd (((By [10] L).map fun s=>aZ1 (bs s)).toArray);have ag1:∀ (q:Nat) (x:Bs),L[q]?=O x->cs[q]?=O (aT (if q+1<L.length then x++[10] else x)):=(by grind [arP]);have dB:Ext w0 w1:=yF;have g1:w1.heap[w0.heap.size]?=aM cs 9:=yH;have s1:w1.heap.size=w.heap.size+3:=yH;clear jK;obtain⟨sb,yi⟩:=cd w0.heap.size;rw[<- yi] at g1 ⊢;have lsb:=bg g1;obtain⟨Lo,Y0⟩:∃ x,L[L.length-1]?=O x:=⟨_,aZM zo⟩;have gL:=ag1 _ _ Y0;rw[bZ zo] at gL;refine⟨fun z w'=>w'=w1/\∃ n c,z 4 = cR sb n c/\((n+1=L.length/\Lo=[]/\0<n)\/(n=L.length/\¬ (Lo=[]/\1<L.length))),?_,?_⟩
  .have eN:(L.length:Int)-1=((L.length-1:Nat):Int):=zo;have Yz:((L.length-1:Nat):Int)<(L.length:Int):=zo;have aRu:((L.length-1:Nat):Int)<=(L.length:Int):=zo;refine cH @eN ?_;refine⟨fun z w'=>w'=w1/\z 36 = .bool (decide (Lo=[]/\1<L.length)),?_,?_⟩
   .cases Lo with
    | nil=>
     by_cases DZ:1<L.length
     .have pk:((L.length-1:Nat):Int) > 0:=zo;exact AK @g1 gL Yz (zA pk (zA DZ @eN))
     .have pk:¬ ((L.length-1:Nat):Int) > 0:=zo;exact AK @g1 gL Yz (zA pk (zA DZ @eN))
    | cons x r=>
     have vB:decide (x::r=[])=false:=zs;have QM:¬ bs (x::r)=bs []:=zg;have xe:decide (x::r=[]/\1<L.length)=false:=zs;exact AK @g1 gL Yz (zA vB (zA QM (zA @eN xe))) (by intro q01 q11 q21 q31;simp (disch:=first|assumption|omega|simp only[zS]<;>omega|decide) only[zB,simprocAttr,kJ,q01,q11,q21,q31];simp)
   .rintro z w2 ⟨rfl,hz⟩ dd;rw[hz];by_cases hc:Lo=[]/\1<L.length
    .rw[decide_eq_true hc];refine du aRu @eN ?_;refine⟨L.length-1,L.length,?_,zg⟩;grind [aIH]
    .rw[decide_eq_false hc];refine bE ?_;grind
  .rintro z w2 ⟨rfl,n,c,hz,hn⟩ dd;refine cH hz ?_;have dS:=ox.trans dB;obtain⟨w3,rR⟩:=cd (bO ((w2.alloc (.map #[] 0)).alloc (ae #[.map (O w2.heap.size),aq V,zi 0] 187)) rb (ae #[ptr (w2.heap.size+1)] 108));have b02:=dB.ext _ _ b0;have b12:=dB.ext _ _ b1;have lr2:=bg b02;have le2:=bg b12;refine du @b02 hz ?_;rw[<- rR];have eD:Ext w w3:=yF;have pr3:w3.heap[rb]?=aM #[ptr (w2.heap.size+1)] 108:=yH;have pe3:w3.heap[eb]?=aM #[ai] 57:=yH;have ps3:w3.heap[sb]?=aM cs 9:=yH;have Y1:w3.heap[w2.heap.size+1]?=O (vu w2.heap.size (aq V) 0):=yH;have pm3:w3.heap[w2.heap.size]?=O (eI []):=by rw[rR,iY zo,LQ (by rw[size_alloc];omega)];exact sx J
   have s3:w3.heap.size=w2.heap.size+2:=yH;clear rR;obtain⟨pb,fY⟩:=cd w2.heap.size;obtain⟨kb,hkb⟩:=cd (w2.heap.size+1);rw[<- hkb] at pr3 Y1;rw[<- fY] at pm3 Y1;have BY:n<=L.length:=zo;refine⟨fun m z w'=>∃ q p key at_,z 45=zi ((q:Nat):Int)/\q<=n/\m=n-q/\z 6 = aT key/\z 7=at_/\Ext w w'/\UT w' rb eb kb/\w'.heap[sb]?=aM cs 9/\lX w.heap.size w' kb pb key at_ p/\oO L 1 ⟨[],G,V⟩=oO (L.drop q) (q+1) p/\p.Bd q/\q<L.length,
    ⟨_,0,⟨[],G,V⟩,[],aq V,J,Nat.zero_le _,J,J,J,eD,⟨pr3,pe3⟩,ps3,.zero Y1 pm3,J,⟨zg,zg⟩,hN⟩,?_⟩
   clear pr3 pe3 ps3 Y1 pm3 eD s3 b02 b12 lr2 le2;intro m z3 d3 w4 hI;refine toPr ?_;obtain⟨q,p,key,at_,Eb,hq,rfl,h6,h7,gW,Lp,uI,Hw,Y2,ny,aYX⟩:=hI;have Y3:=Lp.r;have aYY:=bg Y3;have aYZ:=bg Lp.e;have ls4:=bg uI;have xW:((q:Nat):Int).toNat=q:=zo;have xX:∀ {W:Z} {a b:Nat},Ext w4 W->W.heap[b]?=aM #[zi 5,zi ((a:Nat):Int)] 77->rY s = .error (5,a) ->
     LV a9P (fun W=>RD a9P (aZX 108 (pp rb)) W (fun r1=>RD a9P (aZX 57 (pp eb)) W (fun r2=>R (ah (ak #[r1,r2])) W) NX) NX) R
      [{ target:=.fn (.func 66) #[pp rb,pp eb],args:=#[]++#[] }] (.panicking [{ v:=aj 73 (pp b),recovered:=false }]) W:=fun{W a b} hE f G3=>
    aRp hR yF KX KA (hE.ext _ _ Lp.r) (hE.ext _ _ Lp.e) f G3
   by_cases hqn:q<n
   .have qR:((q:Nat):Int)<((n:Nat):Int):=zo;have hqL:q<L.length:=zo;obtain⟨r,hr⟩:∃ r,L[q]?=O r:=⟨_,aZM hqL⟩;have zK:L[q]=r:=zg;have hcq:=ag1 _ _ hr;obtain⟨hrn,hrl⟩:=hLf r (a0I hr);have NZ:L.drop q=r::L.drop (q+1):=by grind [aZP]
    refine dH Eb qR uI (zA hcq (zA @xW hz)) ?_;have hcut:∃ en:Bool,(en=A↔q+1<L.length)/\Calls a9P 68 #[aT (if q+1<L.length then r++[10] else r),aT [10]] w4 fun e w'=>e = ah (ak #[aT r,.bool en])/\w'=w4:=by
     by_cases hlt:q+1<L.length
     .rw[zip hlt];refine⟨A,zg,(arL _ 10 w4 zg).mono ?_⟩;rintro e w' ⟨rfl,rfl⟩;grind [aRg]
     .rw[bZ hlt];refine⟨G,zg,(arL _ 10 w4 zo).mono ?_⟩;rintro e w' ⟨rfl,rfl⟩;grind [aRh,Go.Lib.trimSuffix]
    obtain⟨en,hen,hcut⟩:=hcut;refine aZJ hcut ?_;rintro e Ed ⟨rfl,rfl⟩;refine bE ?_;refine aZJ (aRe r 32 Ed zo (hL.ext gW)) ?_;rintro e w5 ⟨rfl,nZ⟩;obtain⟨ws,GZ⟩:=cd (gN 32 r);have Cu:∀ l∈ws,l.length<=1000000:=by rw[GZ];intro l hl;have:=(adg 32 r l hl).2;omega
    have hwl:ws.length<=65537:=by grind [US,a27]
    have hwn:ws≠[]:=by grind [ag7]
    rw[<- GZ] at nZ ⊢;obtain⟨t,wr,rfl⟩:∃ a b,ws=a::b:=by
     cases ws with
     | nil=>grind
     | cons a b=>grind
    have qO:Ext Ed w5:=yF;have g5:w5.heap[Ed.heap.size]?=O (ag9 (t::wr)):=yH;clear nZ;obtain⟨wb,rm⟩:=cd Ed.heap.size;rw[<- rm] at g5 ⊢;have lw5:=bg g5;have Hb:((q:Nat):Int)+1=((q+1:Nat):Int):=zo;refine du Eb @Hb ?_;have aRA:IntKind.i64.wrap (((q:Nat):Int)+1)=((q+1:Nat):Int):=fa @Hb;try rw[List.length_cons]
    try rw[aRA]
    obtain⟨cw,hcw⟩:=cd (((t::wr).map fun s=>aZ1 (bs s)).toArray);have Bz:cw[0]?=O (aT t):=zg;have arV:∀ q,(hq:q<wr.length)->cw[q+1]?=O (aT (wr[q])):=zg;have tE:w5.heap[wb]?=aM cw 9:=zg;have ud:=gW.trans qO;have Hx:=Hw.ext qO;have Jh:=qO.ext _ _ Y3;have aY6:=qO.ext _ _ Lp.e;have aY7:=bg Jh;have U:=Hx.code;have yQ:kb<w5.heap.size:=by
     cases ha:p.ask with
     | none=>grind
     | some cn=>
      rw[ha] at U;grind
    have aRB:en=A->oy (t::wr) p=V->rY s = .error (5,q+1):=fun he hl=>by
     rw[lx,Y2,NZ,arQ (by
      intro e;have h1:=congrArg List.length e;grind),<- GZ,hl]
    have aY8:∀ p',en=A->oy (t::wr) p=O p'->oO L 1 ⟨[],G,V⟩=oO (L.drop (q+1)) (q+1+1) p':=fun p' he hl=>by
     rw[Y2,NZ,arQ (by
      intro e;have h1:=congrArg List.length e;grind),<- GZ,hl]
    have aY9:en=G->rY s = .error (5,q+1):=fun he=>by
     have h1:¬ q+1<L.length:=zg;have M:L.drop (q+1)=[]:=zg;have fI:L.length-1=q:=zo;rw[fI,hr] at Y0;injection Y0 with Y0;rcases hn with⟨h3,-⟩| ⟨h3,h4⟩
     .omega
     .rw[lx,Y2,NZ,M];show(match (if r=[]/\1<q+1 then a1M p else a3k (q+1)) with
       | a3k k=>a3k (5,k)
       | a1M p=>match p.ask with
        | some (c,n)=>a1M (p.dK,c,n)
        | none=>a3k (5,L.length))=_
      grind
    have CG:∀ {W:Z} {K:Y->Z->Prop} {X:List PanicEntry->Z->Prop},Ext Ed W->(∀ b wy,Ext Ed wy->wy.heap[b]?=aM #[zi 5,zi ((q+1:Nat):Int)] 77->X [{ v:=aj 73 (pp b),recovered:=false }] wy) ->
      Calls a9P 70 #[zi ((q+1:Nat):Int)] W (ends K X):=fun{W K X} hE hX=>by
     refine(UM _ W).mono ?_;rintro e wy ⟨Lq,b,rfl,f,-⟩;exact hX b wy yF f
    obtain⟨late,aZa⟩:∃ b:Prop,b=(p.ask≠V/\(t=Ci\/t=A9\/t=DM)):=⟨_,J⟩;refine⟨fun _ w'=>w'=w5/\en=A/\¬ late,?_,?_⟩
    .refine⟨fun z w'=>w'=w5/\∃ b,z 85 = .bool b/\(b=A->rY s = .error (5,q+1))/\(b=G->en=A/\¬ late),?_,?_⟩
     .cases aRC:en with
      | false=>
       refine bE ?_;grind
      | true=>
       cases ha:p.ask with
       | none=>
        rw[ha] at U;have U:w5.heap[kb]?=O (vu pb (aq V) 0):=U;refine du Jh U ?_;grind
       | some cn=>
        rw[ha] at U;obtain⟨ab,-,U⟩:=U;have ed:p.ask≠none:=zg;by_cases jQ:t=Ci
        .subst jQ;refine dH Jh U @tE Bz ?_;exact⟨A,J,fun _=>aRB aRC (W2 ed (.inl J)),zg⟩
        .have aZb:¬ bs t=bs [112,114,101,100]:=zg;by_cases sJ:t=A9
         .subst sJ;refine dH Jh U @tE Bz ?_;exact⟨A,J,(by grind [W2]),zg⟩
         .by_cases qC:t=DM
          .subst qC;refine dH Jh U @tE Bz ?_;exact⟨A,J,(by grind [W2]),zg⟩
          .refine dH Jh U @tE (zA Bz (zA jQ (zA sJ qC))) ?_;grind
     .rintro z5 w6 ⟨rfl,b,hzb,iS,Q⟩ dd;rw[hzb];cases b with
      | true=>
       refine du Eb @Hb ?_;exact CG qO fun b wy Lq f=>xX Lq f (iS J)
      | false=>
       refine bE ?_;grind
    .rintro z5 w6 ⟨rfl,aRE,xn⟩ dd;have y5:Ext w6 w6.drew:=yF;have qP:=qO;have EB:∀ {W:Z} {ahg:Bs} {at':Y} {p':Pv},Jg w.heap.size Ed W->lX w.heap.size W kb pb ahg at' p'->oy (t::wr) p=O p'->p'.Bd (q+1) ->
       Ext w W/\UT W rb eb kb/\W.heap[sb]?=aM cs 9/\lX w.heap.size W kb pb ahg at' p'/\oO L 1 ⟨[],G,V⟩=oO (L.drop (q+1)) (q+1+1) p'/\p'.Bd (q+1)/\q+1<L.length:=fun{W ahg at' p'} hF hX qw aRF=>
      ⟨⟨hF.os.trans gW.os,hF.tape.trans gW.tape,hF.output.trans gW.output,aZL gW.size hF.size,fun b o f _=>hF.block _ _ (gW.ext _ _ f) yH⟩,Lp.bH hF,hF.cells uI zo,hX,zg,aRF,hen.1 aRE⟩
     have Ha:=hT.ext ud;have uK:=hP.ext ud;refine⟨fun z w'=>w'=w6/\z 90 = .bool (decide (t=Ci/\wr.length=2)),?_,?_⟩
     .by_cases jQ:t=Ci
      .by_cases pY:wr.length=2
       .have gn:((wr.length+1:Nat):Int)=3:=zo;have hd:decide (t=Ci/\wr.length=2)=true:=zg;rw[hd];exact AK @tE Bz jQ gn
       .have gn:¬ ((wr.length+1:Nat):Int)=3:=zo;have hd:decide (t=Ci/\wr.length=2)=false:=zg;rw[hd];exact AK @tE Bz jQ gn
      .have hd:decide (t=Ci/\wr.length=2)=false:=zg;rw[hd];exact FU @tE Bz jQ
     .rintro z6 w7 ⟨rfl,aRG⟩ dd6;rw[aRG];by_cases sO:t=Ci/\wr.length=2
      .rw[decide_eq_true sO];obtain⟨jQ,pY⟩:=sO;obtain⟨a,b,rfl⟩:∃ a b,wr=[a,b]:=by
        match wr,pY with
        | [a,b],_=>grind
       subst jQ;have xl:p.ask=none:=zg;have qw:=aHV (a:=a) (b:=b) xl;have jw:cw[1]?=O (aT a):=zg;have rO:cw[2]?=O (aT b):=arV 1 zs;refine bE ?_;refine⟨fun w'=>Ext w7 w',y5,?_⟩;refine cO (pq wb 1) (fun w' d=>by have h9:=d.ext _ _ tE;have:=bg h9;exact fa h9) ?_;refine cO (aT a) (fun w' d=>by have h9:=d.ext _ _ tE;have:=bg h9;exact lP h9 jw) ?_;refine cO (pq wb 2) (fun w' d=>by have h9:=d.ext _ _ tE;have:=bg h9;exact fa h9) ?_;refine cO (aT b) (fun w' d=>by have h9:=d.ext _ _ tE;have:=bg h9;exact lP h9 rO) ?_;refine aZJ (agX a _ w7.drew (Cu a zs)) ?_;rintro e w8 ⟨vl,mm⟩;have vp:=y5.trans vl;cases UW:px a with
       | none=>
        rw[UW] at mm qw;obtain⟨b',rfl,M,h3⟩:=mm;exact fun _=>xX yF M zg
       | some nm=>
        rw[UW] at mm;subst mm;refine⟨vp,?_⟩;refine aZJ (N2 b 64 _ w8 (Cu b zs) zo (Ha.ext vp) (uK.ext vp)) ?_;rintro e w9 ⟨lJ,gI⟩;have sk:=vp.trans lJ;cases lV:j6 b 64 with
        | none=>
         rw[lV] at gI;rw[UW,lV] at qw;obtain⟨b',rfl,M,h3⟩:=gI;exact fun _=>xX yF M zg
        | some ar=>
         rw[lV] at gI;subst gI;rw[UW,lV] at qw;have kL:=Cg lV;have aRH:nm.length<=100:=by
          have:=(SL UW).2.1;grind [SL]
         refine aZJ (afm nm ar aRH zo w9) ?_;rintro e B ⟨rfl,rfl⟩;have Aw:=Hx.ext sk;obtain⟨l,NN,aRI⟩:=Aw.close;have N5:B.heap[kb]?=O (vu pb (aq V) 0):=by
          have:=Aw.code;rw[xl] at this;exact this
         have UX:=sk.ext _ _ Jh;have aZd:=bg N5;have aZe:=bg NN;have Qk:=aRI.find (name:=nm) (n:=ar) zo (j:=0);refine⟨fun _ w'=>w'=B/\fL (P.keyOf nm ar) l 0=V,?_,?_⟩
         .refine du UX N5 ?_;rw[KQ (k:=9) (e:=192) (z:=bV) zk zk zk NN (P.keyOf nm ar) A];cases hf:fL (P.keyOf nm ar) l 0 with
          | none=>simp (disch:=first|assumption|omega|simp only[zS]<;>omega|decide) only[zB,simprocAttr,kJ]
          | some kv=>
           obtain⟨k,v⟩:=kv;rw[hf] at Qk;obtain⟨p0,oI,-⟩:=Qk;refine bE ?_;have aRJ:p.dK.any (fun q=>q.name == nm && q.arity == ar)=true:=by
            grind
           exact CG yF fun b' wy Lq f=>xX Lq f zg
         .rintro z7 I ⟨rfl,hf⟩ d7;rw[hf] at Qk;have aRJ:p.dK.any (fun q=>q.name == nm && q.arity == ar)=false:=by
           cases han:p.dK.any (fun q=>q.name == nm && q.arity == ar) with
           | false=>rfl
           | true=>
            obtain⟨p0,h1,M⟩:=List.any_eq_true.1 han;grind
          refine du UX N5 ?_;rw[aRo (size:=1) zk (fun w=>FN zk w)];obtain⟨nI,ahh⟩:=cd (I.alloc (ae #[] 185));rw[<- ahh];have oz:Ext I nI:=by rw[ahh];exact(bB.refl _ _).alloc _
          have g12:nI.heap[I.heap.size]?=aM #[] 185:=yH;clear ahh;have Yo:=oz.ext _ _ NN;have aZf:=bg Yo;rw[aKw (k:=9) (e:=192) (z:=bV) zk zk zk Yo (P.keyOf nm ar) hf];obtain⟨C,y⟩:=cd (bO nI pb (eI (l++[(P.keyOf nm ar,bV)])));rw[<- y];have Qt:C.heap[pb]?=O (eI (l++[(P.keyOf nm ar,bV)])):=yH;refine bE ?_;rw[aKx (s:=P.keyOf nm ar) (u:=bV) Qt zg];have Cc:(l++[(P.keyOf nm ar,aZT V 0 0)]).set l.length (P.keyOf nm ar,cR I.heap.size 0 0)=l++[(P.keyOf nm ar,cR I.heap.size 0 0)]:=by
           rw[a2N _ _ (aZK _)];simp
          rw[Cc];have aZg:=bg Qt;obtain⟨I0,Y4⟩:=cd (bO C pb (eI (l++[(P.keyOf nm ar,cR I.heap.size 0 0)])));rw[<- Y4];have QN:bB (fun b _=>b=pb) I I0:=by
           rw[Y4,y];exact aha (aha yF yH _) yH _
          have aRM:I0.heap[I.heap.size]?=aM #[] 185:=by rw[Y4,iY zo,y,iY zo];omega
          have aRN:I0.heap[pb]?=O (eI (l++[(P.keyOf nm ar,cR I.heap.size 0 0)])):=yH;have aRO:=Aw.aRj xl zo NN hf QN aRM zo zo aRN;have CN:Jg w.heap.size Ed I0:=by
           refine⟨QN.os.trans (qP.trans sk).os,QN.tape.trans (qP.trans sk).tape,QN.output.trans (qP.trans sk).output,aZL (qP.trans sk).size QN.size,fun b o f hn=>QN.block _ _ ((qP.trans sk).ext _ _ f) fun e=>hn ?_⟩;have Q:=(qP.trans sk).ext _ _ f;rw[e,NN] at Q;injection Q with Q;exact⟨zo,.inl ⟨_,_,Q.symm⟩⟩
          clear Y4 y;have ahi:oy [Ci,a,b] p=O ⟨p.dK++[⟨nm,ar,[]⟩],G,V⟩:=zg;have UY:Pv.Bd (q+1) ⟨p.dK++[⟨nm,ar,[]⟩],G,V⟩:=by
           refine⟨fun x hx=>?_,zg⟩;rcases aZW.1 hx with hx | hx
           .exact(ny.mono zo).1 x hx
           .rw[aZ4] at hx;subst hx;exact⟨Nat.zero_le _,zg⟩
          refine du Eb @Hb ?_;exact⟨_,zo,q+1,_,_,_,J,zo,J,J,J,EB CN aRO ahi UY⟩
      .rw[decide_eq_false sO];refine bE ?_;refine⟨fun z w'=>w'=w7/\z 131 = .bool (decide (t=A9/\wr.length=1/\key≠[])),?_,?_⟩
       .by_cases jQ:t=A9
        .by_cases pY:wr.length=1
         .have gn:((wr.length+1:Nat):Int)=2:=zo;by_cases hky:key=[]
          .have hd:decide (t=A9/\wr.length=1/\key≠[])=false:=zg;rw[hd];exact AK @tE Bz jQ (zA gn (zA h6 hky))
          .have hd:decide (t=A9/\wr.length=1/\key≠[])=true:=zg;have aRP:¬ bs key=bs []:=zg;rw[hd];exact AK @tE Bz jQ (zA gn (zA h6 (zA hky aRP)))
         .have gn:¬ ((wr.length+1:Nat):Int)=2:=zo;have hd:decide (t=A9/\wr.length=1/\key≠[])=false:=zg;rw[hd];exact AK @tE Bz jQ gn
        .have hd:decide (t=A9/\wr.length=1/\key≠[])=false:=zg;rw[hd];exact FU @tE Bz jQ
       .rintro z7 w8 ⟨rfl,aRQ⟩ dd7;rw[aRQ];by_cases gL:t=A9/\wr.length=1/\key≠[]
        .rw[decide_eq_true gL];obtain⟨jQ,pY,hky⟩:=gL;obtain⟨a,rfl⟩:∃ a,wr=[a]:=by
          match wr,pY with
          | [a],_=>grind
         subst jQ;have xl:p.ask=none:=zg;have jw:cw[1]?=O (aT a):=zg;refine du @tE jw ?_;refine aZJ (N2 a 65 _ w8 zg zo Ha uK) ?_;rintro e w9 ⟨lJ,gI⟩;have arW:p.dK≠[]:=(by grind [lX.arR]);have qw:=aHW (a:=a) xl arW;cases nG:j6 a 65 with
         | none=>
          rw[nG] at gI qw;obtain⟨b',rfl,M,h3⟩:=gI;exact xX yF M zg
         | some slots=>
          rw[nG] at gI qw;subst gI;have hX9:=Hx.ext lJ;have aZi:w9.heap[kb]?=O (vu pb (aq V) 0):=by
           have:=hX9.code;rw[xl] at this;exact this
          have N6:=qP.trans lJ;have hs9:=(gW.trans N6).size;have aZj:=lJ.ext _ _ Jh;obtain⟨l,v,cbs,pl,S,D,YM,OH,hm9,hu,eP,jS,aZk,vU⟩:=hX9.aRk hs9 xl arW;obtain⟨va,vc,rfl⟩:=gV eP;have hfa:fL key (l++[(key,aZT va S.clauses.length vc)]) 0=O (0+l.length,.slice va S.clauses.length vc):=by rw[XO,hu];simp
          have aZl:S.clauses.length<=q:=(ny.1 S zg).1;rw[h6];refine bE ?_;obtain⟨B,N7⟩:=cd (w9.alloc (ae (Value.agg #[zi (slots:Int),bV]).cells 196 (0,0)));rw[<- N7];have Bp:Ext w9 B:=by rw[N7];exact(bB.refl _ _).alloc _
          have g10:B.heap[w9.heap.size]?=aM #[zi (slots:Int),bV] 196:=by rw[N7];exact sx J
          clear N7;have arZ:Ext w9 B.drew:=yF;have hSk:∀ {w':Z},Ext w9 w'->w'.heap[rb]?=aM #[ptr kb] 108/\w'.heap[kb]?=O (vu pb (aq V) 0)/\w'.heap[pb]?=O (eI (l++[(key,.slice va S.clauses.length vc)])):=(by grind [bB.ext]);refine⟨fun w'=>w'.heap[rb]?=aM #[ptr kb] 108/\w'.heap[kb]?=O (vu pb (aq V) 0)/\w'.heap[pb]?=O (eI (l++[(key,.slice va S.clauses.length vc)])),hSk arZ,?_⟩;refine cO (ptr kb) (fun w' d=>by have:=bg d.1;exact fa @d.1) ?_;refine cO (ptr kb) (fun w' d=>by have:=bg d.2.1;exact fa @d.2.1) ?_;refine cO (.map (O pb)) (fun w' d=>by have:=bg d.2.1;exact fa @d.2.1) ?_;refine cO (ptr kb) (fun w' d=>by have:=bg d.1;exact fa @d.1) ?_;refine cO (ptr kb) (fun w' d=>by have:=bg d.2.1;exact fa @d.2.1) ?_;refine cO (.map (O pb)) (fun w' d=>by have:=bg d.2.1;exact fa @d.2.1) ?_;refine cO (.slice va S.clauses.length vc) (fun w' d=>by rw[KQ (k:=9) (e:=192) (z:=bV) zk zk zk d.2.2 key G,hfa];rfl) ?_;refine bE ?_;obtain⟨I,y8⟩:=cd (B.drew.alloc (ae #[pp w9.heap.size] 185));have sZ:Ext B.drew I:=by rw[y8];exact(bB.refl _ _).alloc _
          have g11:I.heap[B.drew.heap.size]?=aM #[pp w9.heap.size] 185:=yH;rw[<- y8];have E:=arZ.trans sZ;have aRS:I.heap[B.heap.size]?=aM #[pp w9.heap.size] 185:=g11;clear y8;have UZ:=hSk E;have y9:=jJ E.ext eP;have aRT:I.heap[w9.heap.size]?=aM #[zi (slots:Int),bV] 196:=sZ.ext _ _ ((bB.drew (bB.refl (fun _ _=>False) B)).block _ _ g10 zg);have ar1:=E.size;refine⟨UZ,?_⟩;refine aq6 (base:=pl) y9 aRS zo zo fun v' nI ho N hv=>?_;obtain⟨Ee,Ef,rfl⟩:=gV ho;have Y5:nI.heap[pb]?=O (eI (l++[(key,.slice va S.clauses.length vc)])):=by
           rw[N.block _ (bg UZ.2.2) (fun e=>?_)]
           .grind
           .obtain⟨-,-,cs',h1⟩:=Ea y9 e.symm;rw[UZ.2.2] at h1;cases h1
          refine⟨⟨Fz y9 N zo UZ.1,Fz y9 N zo UZ.2.1,Y5⟩,?_⟩;rw[aom (k:=9) (e:=192) zk zk Y5 key hfa];have Cc:(l++[(key,aZT va S.clauses.length vc)]).set (0+l.length) (key,.slice Ee (S.clauses.length+1) Ef)=l++[(key,.slice Ee (S.clauses.length+1) Ef)]:=by
           rw[Nat.zero_add,a2N _ _ (aZK _)];simp
          rw[Cc];have aRU:=bg Y5;obtain⟨C,y⟩:=cd (bO nI pb (eI (l++[(key,.slice Ee (S.clauses.length+1) Ef)])));rw[<- y];have Qt:C.heap[pb]?=O (eI (l++[(key,.slice Ee (S.clauses.length+1) Ef)])):=by rw[y];exact pS J aRU
          have Lr:∀ {b T:Nat} {cs':Array Y},nI.heap[b]?=aM cs' T->C.heap[b]?=aM cs' T:=fun{b T cs'} f=>by
           rw[y,iY (fun e=>by rw[e,Y5] at f;cases f)];omega
          have ke:bB (fun b o=>b=pb\/(pl<=b/\∃ cs,o = ae cs 185 (0,0))) w9 C:=by
           refine⟨?_,?_,?_,?_,fun b o f zQ=>?_⟩
           .rw[y];exact N.os.trans E.os
           .rw[y];exact N.tape.trans E.tape
           .rw[y];exact N.output.trans E.output
           .rw[y,uC];exact aZL E.size N.size
           .have ed:b≠pb:=zo;rw[y,iY ed,N.block b (bg (E.ext _ _ f)) (fun e=>?_)]
            .exact E.ext _ _ f
            .obtain⟨h1,-,cs',M⟩:=Ea y9 e.symm;rw[E.ext _ _ f] at M;injection M with M;exact zQ (.inr ⟨h1,cs',M⟩)
          have aRV:∃ b,(aZT Ee (S.clauses.length+1) Ef).ownBlock=O b:=by
           rcases ho.2 with⟨-,h0⟩| ⟨g,cap,cur,h1,-⟩
           .omega
           .rw[h1];exact⟨g,J⟩
          have U0:C.ownsRow pl 185 1 (.slice Ee (S.clauses.length+1) Ef) (S.clauses.length+1) (Jf cbs++[ptr w9.heap.size]):=Fy ho fun b cs' _ f=>Lr f;have N8:=vU C _ w9.heap.size slots ke Qt U0 aRV (Lr (Fz y9 N zo aRT)) zo;have CN:Jg w.heap.size Ed C:=by
           refine⟨ke.os.trans N6.os,ke.tape.trans N6.tape,ke.output.trans N6.output,aZL N6.size ke.size,fun b o f zQ=>ke.block _ _ (N6.ext _ _ f) ?_⟩;have Q:=N6.ext _ _ f;rintro (e | ⟨h1,cs',M⟩)
           .rw[e,hm9] at Q;injection Q with Q;exact zQ ⟨zo,.inl ⟨_,_,Q.symm⟩⟩
           .exact zQ ⟨zo,.inr ⟨cs',_,M,zg⟩⟩
          have ahi:oy [A9,a] p=O ⟨D++[⟨S.name,S.arity,S.clauses++[⟨slots,[]⟩]⟩],A,V⟩:=by
           rw[qw,xl,YM];simp only[amS]
          have UY:Pv.Bd (q+1) ⟨D++[⟨S.name,S.arity,S.clauses++[⟨slots,[]⟩]⟩],A,V⟩:=by
           have h0:=(ny.mono (Nat.le_succ q)).1;rw[YM] at h0;refine⟨fun x hx=>?_,fun c n h=>(by cases h)⟩;rcases aZW.1 hx with hx | hx
           .exact h0 x (List.mem_append_left _ hx)
           .rw[aZ4] at hx;subst hx;refine⟨by simp;omega,fun c hc=>?_⟩;rcases aZW.1 hc with hc | hc
            .exact(h0 S zs).2 c hc
            .rw[aZ4] at hc;subst hc;have:=Cg nG;grind
          clear y;refine du Eb @Hb ?_;exact⟨_,zo,q+1,_,_,_,J,zo,J,J,J,EB CN N8 ahi UY⟩
        .rw[decide_eq_false gL];refine bE ?_;refine⟨fun z w'=>w'=w8/\z 166 = .bool (decide (t=DM/\wr.length=2)),?_,?_⟩
         .by_cases jQ:t=DM
          .by_cases pY:wr.length=2
           .have gn:((wr.length+1:Nat):Int)=3:=zo;have hd:decide (t=DM/\wr.length=2)=true:=zg;rw[hd];exact AK @tE Bz jQ gn
           .have gn:¬ ((wr.length+1:Nat):Int)=3:=zo;have hd:decide (t=DM/\wr.length=2)=false:=zg;rw[hd];exact AK @tE Bz jQ gn
          .have hd:decide (t=DM/\wr.length=2)=false:=zg;rw[hd];exact FU @tE Bz jQ
         .rintro z8 w9 ⟨rfl,aRX⟩ dd8;rw[aRX];by_cases Y6:t=DM/\wr.length=2
          .rw[decide_eq_true Y6];obtain⟨jQ,pY⟩:=Y6;obtain⟨a,b,rfl⟩:∃ a b,wr=[a,b]:=by
            match wr,pY with
            | [a,b],_=>grind
           subst jQ;have xl:p.ask=none:=zg;have jw:cw[1]?=O (aT a):=zg;have rO:cw[2]?=O (aT b):=arV 1 zs;refine du @tE jw ?_;refine aZJ (N2 a 65 _ w9 (Cu a zs) zo Ha uK) ?_;rintro e B ⟨Bp,gI⟩;have qw:=amT (a:=a) (b:=b) xl;cases nG:j6 a 65 with
           | none=>
            rw[nG] at gI qw;obtain⟨b',rfl,M,h3⟩:=gI;exact xX yF M zg
           | some slots=>
            rw[nG] at gI qw;subst gI;refine bE ?_;have Aw:=Hx.ext Bp;have N5:B.heap[kb]?=O (vu pb (aq V) 0):=by
             have:=Aw.code;rw[xl] at this;exact this
            have N9:=qP.trans Bp;have aRZ:=(gW.trans N9).size;have UX:=Bp.ext _ _ Jh;have N7:=Bp.ext _ _ tE;obtain⟨I,y8⟩:=cd (B.alloc (ae (Value.agg #[zi (slots:Int),bV]).cells 196 (0,0)));rw[<- y8];have sZ:Ext B I:=by rw[y8];exact(bB.refl _ _).alloc _
            have g11:I.heap[B.heap.size]?=aM #[zi (slots:Int),bV] 196:=by rw[y8];exact sx J
            clear y8;have U1:Ext I I.drew:=bB.drew yF;refine⟨fun w'=>w'.heap[rb]?=aM #[ptr kb] 108/\w'.heap[wb]?=aM cw 9/\w'.heap[B.heap.size]?=aM #[zi (slots:Int),bV] 196,⟨(sZ.trans U1).ext _ _ UX,(sZ.trans U1).ext _ _ N7,yH⟩,?_⟩;refine cO (ptr kb) (fun w' d=>by have:=bg d.1;exact fa @d.1) ?_;refine cO (ptr kb) (fun w' d=>by have:=bg d.1;exact fa @d.1) ?_;refine cO (pq wb 2) (fun w' d=>by have:=bg d.2.1;exact fa @d.2.1) ?_;refine cO (aT b) (fun w' d=>by have:=bg d.2.1;exact lP @d.2.1 rO) ?_;refine cO (pp B.heap.size) (fun w' d=>by have:=bg d.2.2;exact fa @d.2.2) ?_;refine cO (zi (slots:Int)) (fun w' d=>by have:=bg d.2.2;exact fa @d.2.2) ?_;have aZm:=Cg nG;have es1:(slots:Int)+1=((slots+1:Nat):Int):=zo;refine cO (zi ((slots+1:Nat):Int)) (fun w' d=>fa @es1) ?_;have KB:=Bp.trans (sZ.trans U1);refine aZJ (N2 b (slots+1) _ I.drew (Cu b zs) zo (Ha.ext KB) (uK.ext KB)) ?_;rintro e nI ⟨oz,Y7⟩;have ahk:=(sZ.trans U1).trans oz;cases lV:j6 b (slots+1) with
            | none=>
             rw[lV] at Y7;simp only[lV] at qw;obtain⟨b',rfl,M,h3⟩:=Y7;exact fun _=>xX yF M zg
            | some told=>
             rw[lV] at Y7;subst Y7;simp only[lV] at qw;have aR1:=ahk.ext _ _ UX;have Lk:=ahk.ext _ _ N5;have aZn:=(U1.trans oz).ext _ _ g11;have aZo:=bg Lk;refine⟨(by grind [bB.ext]),?_⟩;refine cH Lk ?_;have aZp:=bg N7;have lkk:=bg N5;have mf:wb≠kb:=zg;refine⟨⟨aR1,by rw[iY mf];grind [bB.ext],yH⟩,?_⟩;obtain⟨C,y⟩:=cd (bO nI kb (vu pb (ptr B.heap.size) (told:Int)));have uM:bB (fun b _=>b=kb) B C:=by
              rw[y];exact aha (yF) yH _
             have aR2:C.heap[kb]?=O (vu pb (ptr B.heap.size) (told:Int)):=yH;have aR3:C.heap[B.heap.size]?=aM #[zi (slots:Int),bV] 196:=yH;have N8:=Aw.aRm aRZ uM aR2 aR3 zo zg;have CN:Jg w.heap.size Ed C:=by
              refine⟨uM.os.trans N9.os,uM.tape.trans N9.tape,uM.output.trans N9.output,yH,fun b o f zQ=>uM.block _ _ (N9.ext _ _ f) fun e=>zQ ?_⟩;have Q:=N9.ext _ _ f;rw[e,N5] at Q;injection Q with Q;exact⟨zo,.inr ⟨_,_,Q.symm,.inl J⟩⟩
             have UY:Pv.Bd (q+1) ⟨p.dK,A,O (⟨slots,[]⟩,told)⟩:=⟨(ny.mono zo).1,zg⟩;subst y;refine du Eb @Hb ?_;obtain⟨k1,k2,-,k4,k5,k6⟩:=EB CN N8 qw UY;exact⟨_,zo,q+1,_,_,_,J,zo,J,h6,J,k1,k2,(N9.trans ahk).ext _ _ uI,k4,k5,k6⟩
          .rw[decide_eq_false Y6];have qw:=aHX (w0:=t) (r:=wr) (p:=p) zg sO (by grind [lX.arR]) Y6;by_cases xy:at_ = aq V
           .rw[Hx.aRq xy] at qw;refine du h7 xy ?_;exact CG qP fun b wy Lq f=>xX Lq f zg
           .obtain⟨ab,ol,insv,vs,c,rfl,AO,hO,oC,eY,vU⟩:=Hx.aRn xy;rw[AO] at qw;have QO:=hO.cell;have lab:=bg QO;obtain⟨xm,aZs⟩:=ny.cur AO;obtain⟨ia,ic,rfl⟩:=gV hO.row;refine cH h7 ?_;rw[h7];refine⟨fun w'=>w'.heap[ab]?=aM #[zi (c.slots:Int),.slice ia c.ins.length ic] 196,yH,?_⟩;refine cO (pq ab 1) (fun w' d=>by have:=bg d;exact fa d) ?_;refine cO (.slice ia c.ins.length ic) (fun w' d=>by have:=bg d;exact fa d) ?_;refine aZJ (aQQ (w:=w9.drew) (wb:=wb) (cb:=ab) (wd:=t) (ws:=wr) (slots:=c.slots) (insv:=.slice ia c.ins.length ic) (k:=((q+1:Nat):Int)) (yH) yH zo zg Cu (Ha.ext y5) (uK.ext y5)) ?_;rintro e B hi;obtain⟨Bp,hi⟩:=hi;have ahn:=y5.trans Bp;cases yX:uV c.slots (t::wr) with
            | none=>
             rw[yX] at hi;simp only[yX] at qw;obtain⟨b',rfl,M,h3⟩:=hi;exact fun _=>xX yF M zg
            | some i=>
             rw[yX] at hi;simp only[yX] at qw;obtain⟨cv,sv,rfl,lk,dR⟩:=hi;obtain⟨sa,sc,rfl⟩:=gV dR;have aR4:=ahn.ext _ _ QO;refine⟨aR4,?_⟩;have iX:=lk.cases;rcases iX with rfl | ⟨t1,u1,rfl⟩
             .refine bE ?_;obtain⟨I,y8⟩:=cd (B.alloc (ae #[aT i.word,aT i.name,ai,.slice sa i.s.length sc] 198));have sZ:Ext B I:=by rw[y8];exact(bB.refl _ _).alloc _
              have g11:I.heap[B.heap.size]?=O (ae [aZ1 (bs i.word),aT i.name,ai,.slice sa i.s.length sc].toArray 198 (0,0)):=yH;rw[<- y8];clear y8;have E:=ahn.trans sZ;have U2:=E.ext _ _ QO;have y9:=jJ E.ext hO.row;have ar1:=E.size;refine⟨U2,?_⟩;refine afP (base:=ol) y9 g11 J (by
               intro u hu;simp only[List.mem_cons,List.not_mem_nil,or_false] at hu;rcases hu with rfl | rfl | rfl | rfl<;>rfl) zo zo fun v' nI ho N hv=>?_
              obtain⟨Ee,Ef,rfl⟩:=gV ho;have Oa:=Fz y9 N zd U2;have aR5:=bg Oa;refine⟨Oa,?_⟩;refine cH Oa ?_;obtain⟨C,y⟩:=cd (bO nI ab (ae #[zi (c.slots:Int),.slice Ee (c.ins.length+1) Ef] 196));have aho:C.heap[ab]?=aM #[zi (c.slots:Int),.slice Ee (c.ins.length+1) Ef] 196:=yH;have Lr:∀ {b:Nat} {cs':Array Y} {T:Nat},T≠196->nI.heap[b]?=aM cs' T->C.heap[b]?=aM cs' T:=yH;have ke:bB (fun b o=>b=ab\/(ol<=b/\∃ cs,o = ae cs 198 (0,0))) w9 C:=by
               refine⟨?_,?_,?_,?_,fun b o f zQ=>?_⟩
               .rw[y];exact N.os.trans E.os
               .rw[y];exact N.tape.trans E.tape
               .rw[y];exact N.output.trans E.output
               .rw[y,uC];exact aZL E.size N.size
               .have ed:b≠ab:=zo;rw[y,iY ed,N.block b (bg (E.ext _ _ f)) (fun e=>?_)]
                .grind [bB.ext]
                .obtain⟨h1,-,cs',M⟩:=Ea y9 e.symm;grind [bB.ext]
              have U0:=Fy ho fun b cs' _ f=>Lr zd f;have hsi:vq C [aZ1 (bs i.word),aT i.name,ai,.slice sa i.s.length sc] [i]:=by
               refine⟨ai,.slice sa i.s.length sc,[],J,lk,(Et dR (F:=fun _=>True) zg).mono zg fun b cs' _ f=>?_,J⟩;exact Lr zo (Fz y9 N zo (sZ.ext _ _ f))
              have N8:=vU C _ _ i ke aho U0 hsi;have CN:Jg w.heap.size Ed C:=by
               refine⟨ke.os.trans qP.os,ke.tape.trans qP.tape,ke.output.trans qP.output,aZL qP.size ke.size,fun b o f zQ=>ke.block _ _ (qP.ext _ _ f) ?_⟩;have Q:=qP.ext _ _ f;rintro (e | ⟨h1,cs',M⟩)
               .rw[e,QO] at Q;injection Q with Q;have:=hO.low;grind
               grind
              obtain⟨k1,k2,k3,k4,k5,k6⟩:=EB CN N8 qw (ny.add i);subst y;refine du Eb @Hb ?_;exact⟨_,zo,q+1,_,_,_,J,zo,J,h6,J,k1,k2,k3,k4,k5,k6⟩
             .refine bE ?_;obtain⟨I,y8⟩:=cd (B.alloc (ae #[aT i.word,aT i.name,aj t1 u1,.slice sa i.s.length sc] 198));have sZ:Ext B I:=by rw[y8];exact(bB.refl _ _).alloc _
              have g11:I.heap[B.heap.size]?=O (ae [aZ1 (bs i.word),aT i.name,aj t1 u1,.slice sa i.s.length sc].toArray 198 (0,0)):=yH;rw[<- y8];clear y8;have E:=ahn.trans sZ;have U2:=E.ext _ _ QO;have y9:=jJ E.ext hO.row;have ar1:=E.size;refine⟨U2,?_⟩;refine afP (base:=ol) y9 g11 J (by
               intro u hu;simp only[List.mem_cons,List.not_mem_nil,or_false] at hu;rcases hu with rfl | rfl | rfl | rfl<;>rfl) zo zo fun v' nI ho N hv=>?_
              obtain⟨Ee,Ef,rfl⟩:=gV ho;have Oa:=Fz y9 N zd U2;have aR5:=bg Oa;refine⟨Oa,?_⟩;refine cH Oa ?_;obtain⟨C,y⟩:=cd (bO nI ab (ae #[zi (c.slots:Int),.slice Ee (c.ins.length+1) Ef] 196));have aho:C.heap[ab]?=aM #[zi (c.slots:Int),.slice Ee (c.ins.length+1) Ef] 196:=yH;have Lr:∀ {b:Nat} {cs':Array Y} {T:Nat},T≠196->nI.heap[b]?=aM cs' T->C.heap[b]?=aM cs' T:=yH;have ke:bB (fun b o=>b=ab\/(ol<=b/\∃ cs,o = ae cs 198 (0,0))) w9 C:=by
               refine⟨?_,?_,?_,?_,fun b o f zQ=>?_⟩
               .rw[y];exact N.os.trans E.os
               .rw[y];exact N.tape.trans E.tape
               .rw[y];exact N.output.trans E.output
               .rw[y,uC];exact aZL E.size N.size
               .have ed:b≠ab:=zo;rw[y,iY ed,N.block b (bg (E.ext _ _ f)) (fun e=>?_)]
                .grind [bB.ext]
                .obtain⟨h1,-,cs',M⟩:=Ea y9 e.symm;grind [bB.ext]
              have U0:=Fy ho fun b cs' _ f=>Lr zd f;have hsi:vq C [aZ1 (bs i.word),aT i.name,aj t1 u1,.slice sa i.s.length sc] [i]:=by
               refine⟨aj t1 u1,.slice sa i.s.length sc,[],J,lk,(Et dR (F:=fun _=>True) zg).mono zg fun b cs' _ f=>?_,J⟩;exact Lr zo (Fz y9 N zo (sZ.ext _ _ f))
              have N8:=vU C _ _ i ke aho U0 hsi;have CN:Jg w.heap.size Ed C:=by
               refine⟨ke.os.trans qP.os,ke.tape.trans qP.tape,ke.output.trans qP.output,aZL qP.size ke.size,fun b o f zQ=>ke.block _ _ (qP.ext _ _ f) ?_⟩;have Q:=qP.ext _ _ f;rintro (e | ⟨h1,cs',M⟩)
               .rw[e,QO] at Q;injection Q with Q;have:=hO.low;grind
               grind
              obtain⟨k1,k2,k3,k4,k5,k6⟩:=EB CN N8 qw (ny.add i);subst y;refine du Eb @Hb ?_;exact⟨_,zo,q+1,_,_,_,J,zo,J,h6,J,k1,k2,k3,k4,k5,k6⟩
   .have D4:q=n:=zo;subst D4;have qR:¬ ((q:Nat):Int)<((q:Nat):Int):=zo;have zu:q+1=L.length/\Lo=[]/\0<q:=by
     grind
    have dC:L.drop q=[Lo]:=by
     grind [aZP,List.drop_of_length_le,aZM]
    have aR6:oO L 1 ⟨[],G,V⟩ = .ok p:=by
     rw[Y2,dC];show(if Lo=[]/\1<q+1 then a1M p else a3k (q+1))=_;grind
    have U:=Hw.code;rw[aR6] at lx;refine du Eb qR ?_;cases ha:p.ask with
    | none=>
     rw[ha] at U;have lx:rY s = .error (5,L.length):=zg;have U:w4.heap[kb]?=O (vu pb (aq V) 0):=U;have Hb:((q:Nat):Int)+1=(L.length:Int):=zo;refine⟨fun _ _=>False,?_,fun _ _ h=>h.elim⟩;refine dH Y3 U hz @Hb ?_;refine(UM _ w4).mono ?_;rintro e wy ⟨Lq,b,rfl,f,-⟩;exact xX Lq f lx
    | some cn=>
     obtain⟨c0,n0⟩:=cn;rw[ha] at U;have lx:rY s = .ok (p.dK,c0,n0):=zg;obtain⟨ab,xy,U⟩:=U;have lkb:=bg U;have hR0:=Lp.r;have hEe:=Lp.e;obtain⟨Kx,hC,hA⟩:=Hw.done ha;have ot:=hC.1;refine⟨fun _ w'=>w'=w4,?_,?_⟩
     .exact lP Y3 U
     .rintro z5 w5 rfl dd5;refine du hR0 hEe ?_;have zK:rb≠eb:=zo;obtain⟨w6,oP⟩:=cd (bO (bO w5 rb (ae #[ptr kb] 108)) eb (ae #[ai] 57));have ar4:∀ (b:Nat) (o:Obj),w5.heap[b]?=O o->w6.heap[b]?=O o:=yH;have j5:Ext w w6:=yF;have r6:=ar4 _ _ hR0;have e6:=ar4 _ _ hEe;rw[<- oP];clear oP;refine arG ?_;refine du @r6 @e6 ?_;refine hR _ _ ⟨j5,?_⟩;rw[lx];exact⟨kb,pb,Kx,J,hC.bH (fun b cs T _ f=>yH) yH,hA.bH fun b cs T _ f=>yH⟩
def P.aR7{c:Co}(g:yL c)(ht:told<=c.slots):gA (0*1000000) { Iy c with sr:={ (Iy c).sr with fuel:=0 } }/\jD told (Iy c)/\∃ x,(Iy c).fs[(Iy c).f]?=O x/\x.ask=true:=by
 have e:∀ (i:Nat) (x:Fm),(Iy c).fs[i]?=O x->x=⟨c,a0m c.slots .nil,0,V,0,A⟩:=fun i x hx=>by
  have:x∈[(⟨c,a0m c.slots .nil,0,V,0,A⟩:Fm)]:=a0I hx;grind
 have hr:∀ y∈a0m c.slots Sl.nil,y = .nil:=zg;refine⟨⟨by show 0<1;omega,fun i x hx=>?_,(fun i a h=>by cases h),(fun i a h=>by cases h),(fun i j a b _ h=>by cases h),(by rw[Nat.zero_mul];exact aZK 0),(by rw[Nat.zero_mul];exact aZK 0),Nat.zero_le _,fun i x hx=>?_,fun i a h=>by cases h⟩,
  ⟨trivial,fun i x hx=>?_,(fun i a h=>by cases h),⟨trivial,trivial⟩,fun i x hx _=>?_⟩,_,J,J⟩
 .rw[e i x hx];exact⟨g,zs,fun y d=>by rw[hr y d];trivial,zg⟩
 .grind
 .rw[e i x hx];exact fun y d=>by rw[hr y d];trivial
 grind
structure aR8(w w':Z)(qb:Nat)(ps:List Pd)(c:Co)(n vb kb ab pb:Nat):Prop where
 cell:w'.heap[qb]?=aM (XR (Qn ps n vb kb ab pb) bV V) 121
 I2:w.heap.size<=vb
 ne:qb≠vb
 mem:∃ w2,Ext w w2/\Ext w2 w'/\w2.heap.size<=qb/\∀ (D:Nat->Prop) (ρ:Nat->Nat),(∀ b,w.heap.size<=b->D b)->(Qn ps n vb kb ab pb).Mem D ρ w2 (Iy c)
def ahq(t:Bs)(w:Z)(e:Ending)(w':Z):Prop:=Ext w w'/\match rY t with
 | .error (c,a)=>∃ b,e = ah (ak #[aq V,aj 73 (ptr b)])/\w'.heap[b]?=O (ae #[.int .i64 (c:Int),.int .i64 (a:Int)] 77 (0,0))
 | .ok (ps,c,n)=>∃ qb vb kb ab pb,e = ah (ak #[ptr qb,ai])/\aR8 w w' qb ps c n vb kb ab pb
def aR9(t:Bs)(g:Bx w)(i:lH w)(j:FB w)(q:∀ ps c n,rY t = .ok (ps,c,n)->c.slots<=64):Calls a9P 25 #[aT t] w (ahq t w):=by
 suffices H:∀ R:Ending->Z->Prop,(∀ e w',ahq t w e w'->R e w')->Calls a9P 25 #[aT t] w R from H _ zg;intro R d;refine aKJ ?_;refine(aRr t g i j).mono ?_;rintro e w1 ⟨k,f⟩;unfold ahq at d;cases hr:rY t with
 | error l=>
  obtain⟨c,a⟩:=l;rw[hr] at f d;obtain⟨b,rfl,r⟩:=f;refine bE ?_;grind
 | ok x=>
  obtain⟨ps,c,n⟩:=x;rw[hr] at f d;obtain⟨kb,pb,ab,rfl,hC,m⟩:=f;refine bE ?_;refine aZJ (aN3 hC m zg) ?_;rintro e w2 ⟨s,vb,rfl,u,hm⟩;have s1:=k.size;refine bE ?_;have lv:vb<w2.heap.size:=by
   obtain⟨φ,ψ,av,tv,di,h⟩:=hm (fun _=>True) (fun _=>0) fun _ _=>trivial;exact bg h.cell
  obtain⟨w3,o⟩:=cd (w2.alloc (ae #[aj 111 (pp vb),pq vb 1,.func (.func 36) #[pp vb] #[],bV,ai] 121));have p:Ext w2 w3:=yF;have g3:w3.heap[w2.heap.size]?=aM #[aj 111 (pp vb),pq vb 1,.func (.func 36) #[pp vb] #[],bV,ai] 121:=yH;rw[<- o];refine d _ _ ⟨yF,w2.heap.size,vb,kb,ab,pb,J,g3,zo,zo,w2,yF,p,aZK _,fun D ρ hD=>?_⟩;exact⟨zg,(by grind [eH.dZ,xS.bH,bB.ext])⟩
def xQ.Ny(hk:Nw D w w'){l:List Sl}(h:xQ D ρ n sX pb w v l):xQ D ρ n sX pb w' v l:=by
 rcases h with h | ⟨b,cap,row,c,d,e,f,g,i,a⟩
 .exact .inl h
 .exact .inr ⟨b,cap,row,c,d,hk.own _ _ a e,f,g.bH hk.Fi (eg.refl _ _),i,a⟩
def xQ.Nz{D':Nat->Prop}(a:∀ b,b<w.heap.size->D b->D' b){l:List Sl}(h:xQ D ρ n sX pb w v l):xQ D' ρ n sX pb w v l:=by
 rcases h with h | ⟨b,cap,row,c,d,e,f,g,i,j⟩
 .exact .inl h
 .exact .inr yH
def mU.Ny{D:Nat->Prop}{ρ:Nat->Nat}{n nf:Nat}{φ ψ:Nat->Nat}{w w':Z}(hk:Nw D w w'):∀ {l:List Ga} {vs:List Y},mU D ρ n φ ψ nf w vs l->mU D ρ n φ ψ nf w' vs l
 | [],vs,h=>h
 | a::r,vs,⟨c,av,fV,rest,d,e,f,g,i,j⟩=>⟨c,av,fV,rest,d,e,f.bH fun b cs k=>hk.Fi b cs _ (yM) k,g.bH hk.Fi,i.Ny hk,mU.Ny hk j⟩
def mU.Nz{D D':Nat->Prop}{ρ:Nat->Nat}{n nf:Nat}{φ ψ:Nat->Nat}{w:Z}(c:∀ b,b<w.heap.size->D b->D' b):∀ {l:List Ga} {vs:List Y},mU D ρ n φ ψ nf w vs l->mU D' ρ n φ ψ nf w vs l
 | [],vs,h=>h
 | a::r,vs,⟨d,av,fV,rest,e,f,g,i,j,k⟩=>⟨d,av,fV,rest,e,f,g,i,j.Nz c,mU.Nz c k⟩
theorem vmD(dK:List Pd)(told vb cb fm pb:Nat):Qa (Qn dK told vb cb fm pb) where
 bH:=by
  rintro D ρ w w' m ⟨⟨φ,ψ,av,tv,di,h⟩,h2⟩ hk;refine⟨⟨φ,ψ,av,tv,di,h.st.Ny hk,h.fl,fun i x hx=>?_,h.bk,h.dp,h.inj,aeP h.ar h.da hk.own,h.ag.Ny hk,h.da⟩,h2.bH hk.Fi fun l hm=>hk.map _ _ _ hm⟩;have hi:i<m.fs.length:=zg;exact(h.fs i x hx).bH hk.Fi (eg.refl _ _) (xP.refl _ _ _) hi (fun b hb=>h.bk i x b hx hb) fun cs hb=>hk.own _ _ (h.dp i hi) hb
 cut:=by
  rintro D D' ρ w m ⟨⟨φ,ψ,av,tv,di,h⟩,h2⟩ hd;refine⟨⟨φ,ψ,av,tv,di,h.st.Nz hd,h.fl,h.fs,h.bk,fun i hi=>?_,h.inj,h.ar,h.ag.Nz hd,fun g hg=>hd _ (aeQ h.ar hg) (h.da g hg)⟩,h2⟩;obtain⟨row,hr,-⟩:=(h.fs i _ (aZM hi)).row;exact hd _ yH (h.dp i hi)
