/- A part of one proof (VP12, KR1, KD1). -/
import Derived.Test.YtoegidfbnkaabaaGreatDoorPkIBE
set_option linter.all false
set_option maxRecDepth 100000
set_option maxHeartbeats 8000000
open Option renaming some → O, none → V
open Go renaming Value → Y, World → Z
open Bool renaming true → A, false → G
open Go.Obj renaming cells → ae
open Go.Ending renaming returned → ah
open Go.Value renaming nilIface → ai, iface → aj, tuple → ak, pointer → aq
open Go.Calls renaming mono → a1a
open Nat renaming le_refl → a1c, le_trans → a1d
open List renaming getElem?_eq_getElem → a1e, drop_eq_getElem_cons → a1h, mem_append → a1o, mem_singleton → a1x, replicate → a1N, mem_of_getElem? → a2i, set_append_right → a4s, count_le_length → a4G
open Go.Value renaming slice → a1n, string → a1u
open Go.Instr renaming loadAt → a1p
open Except renaming ok → a3t, error → a4T
open Go.Proofs.Tryz renaming prog → bbz
namespace Go.Proofs.YtoegidfbnkaabaaGreatDoor
open P
open Go.RowKit Sx
variable{D:Nat->Prop}{R:Ending->Z->Prop}{X:Y->Z->Prop}{b base c cap e k n pb told:Nat}{cs:Array Y}{o4 tv v:Y}{out:Bs}{ug ρ:Nat->Nat}{w':Z}
def aii{M:Nat->Obj->Prop}{a b:Z}(h:bB M a b)(hx:∀ o,a.heap[k]?=O o->M k o)(c:Obj):bB M a (bS b k c):=
 ⟨h.os,h.tape,h.output,by rw[vp];exact h.size,(by grind [absurd,jr,bB.block])⟩
def aSV{P:Program}{T size:Nat}{w:Z}{K:Y->Z->Prop}(hu:P.underlying T=O (.slice e))(a:∀ w,(sizeOf e).run P w = .ok size w):WR P (Instr.buildSlice T 0 #[]) w K X=K (cV w.heap.size 0 0) (w.alloc (ae #[] e (0,0))):=by
 refine xR ?_;simp [Instr.buildSlice,run_underlying hu,a,Instr.fill,newRow,newObj,Sem.run];grind
def aij(s:Bs)(w:Z)(e:Ending)(w':Z):Prop:=Ext w w'/\match tF s with
 | .ok (ps,c,n)=>∃ kb pb ab,e = ah (ak #[ptr kb,ai])/\yJ w' kb pb ab n ps/\F5 w' ab c
 | .error (c,a)=>∃ b,e = ah (ak #[aq V,aj 73 (ptr b)])/\w'.heap[b]?=O (ae #[.int .i64 (c:Int),.int .i64 (a:Int)] 77 (0,0))
abbrev Kc(base:Nat)(w w':Z):Prop:=bB (fun b o=>base<=b/\((∃ es n,o = .map es n)\/∃ cs T,o = ae cs T (0,0)/\(T=187\/T=185\/T=196\/T=198))) w w'
def Kc.cells{w:Z}(h:Kc base w w'){T:Nat}(a:w.heap[b]?=aN cs T)(c:¬ (T=187\/T=185\/T=196\/T=198)):w'.heap[b]?=aN cs T:=
 (by grind [bB.block])
structure VX(w:Z)(rb eb kb:Nat):Prop where
 r:w.heap[rb]?=aN #[ptr kb] 108
 e:w.heap[eb]?=aN #[ai] 57
theorem VX.bK{w:Z}{rb kb:Nat}(h:VX w rb pb kb)(a:Kc base w w'):VX w' rb pb kb:=⟨a.cells h.r zo,a.cells h.e zo⟩
def aSW{s:Bs}{w d:Z}(h:∀ e w',aij s w e w'->R e w'){a rb eb:Nat}(n:Ext w d)(o:rb=w.heap.size)(p:eb=w.heap.size+1)(f:d.heap[rb]?=aN #[o4] 108)(g:d.heap[eb]?=aN #[ai] 57)
  (q:d.heap[b]?=aN #[zi (c:Int),zi (a:Int)] 77) (r:tF s = .error (c,a)) :
  LV bbz (fun d=>RD bbz (a1p 108 (pp rb)) d (fun i=>RD bbz (a1p 57 (pp eb)) d (fun j=>R (ah (ak #[i,j])) d) NX) NX) R
   [{ target:=.fn (.func 66) #[pp rb,pp eb],args:=#[]++#[] }]
   (.panicking [{ v:=aj 73 (pp b),recovered:=false }]) d:=by
 refine aSJ f g zo ?_;have t:=bh f;have u:=bh g;have k:(bS (bS d rb (ae #[aq V] 108)) (eb) (ae #[aj 73 (pp b)] 57)).heap[rb]?=aN #[aq V] 108:=by
  exact yH
 have l:eb<(bS d rb (ae #[aq V] 108)).heap.size:=yH;have m:(bS (bS d rb (ae #[aq V] 108)) (eb) (ae #[aj 73 (pp b)] 57)).heap[eb]?=aN #[aj 73 (pp b)] 57:=yH;have x:b≠rb:=by
  grind
 have y:b≠eb:=by
  grind
 refine dF @k @m ?_;refine h _ _ ⟨yF,?_⟩;exact yH
theorem as7(e:Bs):∀ {l:List Bs} {q:Nat} {x:Bs},l[q]?=O x->(Ce e l)[q]?=O (if q+1<l.length then x++e else x)
 | [],_,_,h=>zg
 | [l],0,x,h=>by grind [Ce]
 | [l],q+1,x,h=>zg
 | l::m::ls,0,x,h=>by
  have:l=x:=zg;subst this;rw[Ce,zip zs];rfl
 | l::m::ls,q+1,x,h=>by
  rw[Ce,List.getElem?_cons_succ,as7 e (by simpa using h)];simp
def as8{r:Bs}{rs:List Bs}{k:Nat}{p:Pv}(h:rs≠[]):pP (r::rs) k p=match pf (gU 32 r) p with
  | none=>.error k
  | some p=>pP rs (k+1) p:=by
 cases rs with
 | nil=>grind
 | cons a b=>rfl
theorem mB.as9{w:Z}{p:Pv}(h:mB base w cap pb out tv p)(c:p.ask=V):out=[]↔p.dO=[]:=by
 have hk:∀ (n:Bs) (a:Nat),P.keyOf n a≠[]:=fun n a=>by unfold P.keyOf;simp
 cases h with
 | zero hk hm=>simp
 | pred b hm hu lp hD hr hv hC kg=>exact⟨zg,fun h=>by simp at h⟩
 | cl b hm hu lp hD hr hv hC pw hO kg fg=>exact⟨zg,fun h=>by simp at h⟩
 | ask b hm hD pw hO fg=>grind
def mB.aSX{w:Z}{p:Pv}(h:mB base w cap pb out tv p)(b:tv = aq V):p.cur=none:=by
 cases h with
 | zero hk hm=>rfl
 | pred a hm hu lp hD hr hv hC kg=>rfl
 | cl a hm hu lp hD hr hv hC pw hO kg fg=>grind
 | ask a hm hD pw hO fg=>grind
def aSY{w:Z}(s:Bs)(hT:Cd w)(hP:kZ w)(hL:Gp w):Calls bbz 34 #[aT s] w (aij s w):=by
 suffices H:∀ R:Ending->Z->Prop,(∀ e w',aij s w e w'->R e w')->Calls bbz 34 #[aT s] w R from H _ zg;intro R hR;refine aSG ?_;by_cases a0n:65536<s.length
 .have hli:(s.length:Int) > 65536:=zo;have lR:tF s = .error (1,0):=by grind [tF]
  refine cO hli ?_;obtain⟨w0,yB⟩:=cg (bS (bS (((w.alloc (ae #[aq V] 108)).alloc (ae #[ai] 57)).alloc (ae #[zi 1,zi 0] 77)) w.heap.size (ae #[aq V] 108)) (w.heap.size+1) (ae #[aj 73 (ptr (w.heap.size+1+1))] 57));rw[<- yB];have nZ:Ext w w0:=yF;have q0:w0.heap[w.heap.size]?=aN #[aq V] 108:=yH;have q1:w0.heap[w.heap.size+1]?=aN #[aj 73 (ptr (w.heap.size+1+1))] 57:=yH;have q2:w0.heap[w.heap.size+1+1]?=aN #[zi 1,zi 0] 77:=yH;clear yB;refine asX ?_;refine dF @q0 @q1 ?_;refine hR _ _ ⟨nZ,?_⟩;grind
 .have hli:¬ (s.length:Int) > 65536:=zo;have jd:s.length<=1000000:=zo;refine cO hli ?_;obtain⟨w0,yB⟩:=cg ((w.alloc (ae #[aq V] 108)).alloc (ae #[ai] 57));rw[size_alloc,<- yB];have nZ:Ext w w0:=yF;have s0:w0.heap.size=w.heap.size+2:=yH;have b0:w0.heap[w.heap.size]?=aN #[aq V] 108:=yH;have b1:w0.heap[w.heap.size+1]?=aN #[ai] 57:=yH;clear yB;obtain⟨rb,Mg⟩:=cg w.heap.size;obtain⟨eb,LD⟩:=cg (w.heap.size+1);rw[<- LD,<- Mg];rw[<- Mg] at b0;rw[<- LD] at b1;refine a1a (aSM s 10 w0 jd (hL.ext nZ)) ?_;rintro e w1 ⟨rfl,j3⟩;obtain⟨L,Mm⟩:=cg (gU 10 s);have lR:tF s=match pP L 1 ⟨[],G,V⟩with
   | .error k=>.error (5,k)
   | .ok p=>match p.ask with
    | some (c,n)=>.ok (p.dO,c,n)
    | none=>.error (5,L.length):=by grind [tF]
  have hLf:∀ l∈L,(10:UInt8) ∉ l/\l.length<=s.length:=by grind [aep]
  have hLn:L≠[]:=by grind [aie]
  have hLl:L.length<=1000001:=by grind [VV,a4G]
  rw[<- Mm] at j3 ⊢;clear Mm;have hN:0<L.length:=List.length_pos_iff.2 hLn;obtain⟨cs,jC⟩:=cg (((Ce [10] L).map fun s=>a1u (bs s)).toArray);have ah8:∀ (q:Nat) (x:Bs),L[q]?=O x->cs[q]?=O (aT (if q+1<L.length then x++[10] else x)):=(by grind [as7]);have dE:Ext w0 w1:=yF;have g1:w1.heap[w0.heap.size]?=aN cs 9:=yH;have s1:w1.heap.size=w.heap.size+3:=yH;clear j3;obtain⟨sb,xV⟩:=cg w0.heap.size;rw[<- xV] at g1 ⊢;have lsb:=bh g1;obtain⟨MH,ZZ⟩:∃ x,L[L.length-1]?=O x:=⟨_,a1e zo⟩;have gZ:=ah8 _ _ ZZ;rw[bI zo] at gZ;refine⟨fun z w'=>w'=w1/\∃ n c,z 4 = cV sb n c/\((n+1=L.length/\MH=[]/\0<n)\/(n=L.length/\¬ (MH=[]/\1<L.length))),?_,?_⟩
  .have eN:(L.length:Int)-1=((L.length-1:Nat):Int):=zo;have ZA:((L.length-1:Nat):Int)<(L.length:Int):=zo;have aS1:((L.length-1:Nat):Int)<=(L.length:Int):=zo;refine cO @eN ?_;refine⟨fun z w'=>w'=w1/\z 36 = .bool (decide (MH=[]/\1<L.length)),?_,?_⟩
   .cases MH with
    | nil=>
     by_cases EI:1<L.length
     .have qg:((L.length-1:Nat):Int) > 0:=zo;exact Bt @g1 gZ ZA (zA qg (zA EI @eN))
     .have qg:¬ ((L.length-1:Nat):Int) > 0:=zo;exact Bt @g1 gZ ZA (zA qg (zA EI @eN))
    | cons x r=>
     have wQ:decide (x::r=[])=false:=zs;have VW:¬ bs (x::r)=bs []:=zg;have xW:decide (x::r=[]/\1<L.length)=false:=zs;exact Bt @g1 gZ ZA (zA wQ (zA VW (zA @eN xW))) (by intro q01 q11 q21 q31;simp (disch:=first|assumption|omega|simp only[zS]<;>omega|decide) only[zB,simprocAttr,lE,q01,q11,q21,q31];simp)
   .rintro z w2 ⟨rfl,hz⟩ dd;rw[hz];by_cases hc:MH=[]/\1<L.length
    .rw[decide_eq_true hc];refine dF aS1 @eN ?_;refine⟨L.length-1,L.length,?_,zg⟩;grind [aJ3]
    .rw[decide_eq_false hc];refine bG ?_;grind
  .rintro z w2 ⟨rfl,n,c,hz,hn⟩ dd;refine cO hz ?_;have dU:=nZ.trans dE;obtain⟨w3,th⟩:=cg (bS ((w2.alloc (.map #[] 0)).alloc (ae #[.map (O w2.heap.size),aq V,zi 0] 187)) rb (ae #[ptr (w2.heap.size+1)] 108));have b02:=dE.ext _ _ b0;have b12:=dE.ext _ _ b1;have lr2:=bh b02;have le2:=bh b12;refine dF @b02 hz ?_;rw[<- th];have eK:Ext w w3:=yF;have pr3:w3.heap[rb]?=aN #[ptr (w2.heap.size+1)] 108:=yH;have pe3:w3.heap[eb]?=aN #[ai] 57:=yH;have ps3:w3.heap[sb]?=aN cs 9:=yH;have Z0:w3.heap[w2.heap.size+1]?=O (wu w2.heap.size (aq V) 0):=yH;have pm3:w3.heap[w2.heap.size]?=O (eO []):=by rw[th,jr zo,M9 (by rw[size_alloc];omega)];exact rR J
   have s3:w3.heap.size=w2.heap.size+2:=yH;clear th;obtain⟨pb,gn⟩:=cg w2.heap.size;obtain⟨kb,hkb⟩:=cg (w2.heap.size+1);rw[<- hkb] at pr3 Z0;rw[<- gn] at pm3 Z0;have CG:n<=L.length:=zo;refine⟨fun m z w'=>∃ q p key at_,z 45=zi ((q:Nat):Int)/\q<=n/\m=n-q/\z 6 = aT key/\z 7=at_/\Ext w w'/\VX w' rb eb kb/\w'.heap[sb]?=aN cs 9/\mB w.heap.size w' kb pb key at_ p/\pP L 1 ⟨[],G,V⟩=pP (L.drop q) (q+1) p/\p.Bd q/\q<L.length,
    ⟨_,0,⟨[],G,V⟩,[],aq V,J,Nat.zero_le _,J,J,J,eK,⟨pr3,pe3⟩,ps3,.zero Z0 pm3,J,⟨zg,zg⟩,hN⟩,?_⟩
   clear pr3 pe3 ps3 Z0 pm3 eK s3 b02 b12 lr2 le2;intro m z3 d3 w4 hI;refine toPr ?_;obtain⟨q,p,key,at_,EX,hq,rfl,h6,h7,gJ,MI,vA,IL,Z1,nW,a0q⟩:=hI;have Z2:=MI.r;have a0r:=bh Z2;have a0s:=bh MI.e;have ls4:=bh vA;have yN:((q:Nat):Int).toNat=q:=zo;have yO:∀ {W:Z} {a b:Nat},Ext w4 W->W.heap[b]?=aN #[zi 5,zi ((a:Nat):Int)] 77->tF s = .error (5,a) ->
     LV bbz (fun W=>RD bbz (a1p 108 (pp rb)) W (fun r1=>RD bbz (a1p 57 (pp eb)) W (fun r2=>R (ah (ak #[r1,r2])) W) NX) NX) R
      [{ target:=.fn (.func 66) #[pp rb,pp eb],args:=#[]++#[] }] (.panicking [{ v:=aj 73 (pp b),recovered:=false }]) W:=fun{W a b} hE f Ii=>
    aSW hR yF Mg LD (hE.ext _ _ MI.r) (hE.ext _ _ MI.e) f Ii
   by_cases hqn:q<n
   .have rN:((q:Nat):Int)<((n:Nat):Int):=zo;have hqL:q<L.length:=zo;obtain⟨r,hr⟩:∃ r,L[q]?=O r:=⟨_,a1e hqL⟩;have AE:L[q]=r:=zg;have hcq:=ah8 _ _ hr;obtain⟨hrn,hrl⟩:=hLf r (a2i hr);have O4:L.drop q=r::L.drop (q+1):=by grind [a1h]
    refine dM EX rN vA (zA hcq (zA @yN hz)) ?_;have hcut:∃ en:Bool,(en=A↔q+1<L.length)/\Calls bbz 68 #[aT (if q+1<L.length then r++[10] else r),aT [10]] w4 fun e w'=>e = ah (ak #[aT r,.bool en])/\w'=w4:=by
     by_cases hlt:q+1<L.length
     .rw[zip hlt];refine⟨A,zg,(as3 _ 10 w4 zg).mono ?_⟩;rintro e w' ⟨rfl,rfl⟩;grind [aSN]
     .rw[bI hlt];refine⟨G,zg,(as3 _ 10 w4 zo).mono ?_⟩;rintro e w' ⟨rfl,rfl⟩;grind [aSO,Go.Lib.trimSuffix]
    obtain⟨en,hen,hcut⟩:=hcut;refine a1a hcut ?_;rintro e EZ ⟨rfl,rfl⟩;refine bG ?_;refine a1a (aSL r 32 EZ zo (hL.ext gJ)) ?_;rintro e w5 ⟨rfl,oN⟩;obtain⟨ws,EL⟩:=cg (gU 32 r);have Dj:∀ l∈ws,l.length<=1000000:=by rw[EL];intro l hl;have:=(aep 32 r l hl).2;omega
    have hwl:ws.length<=65537:=by grind [VV,a4G]
    have hwn:ws≠[]:=by grind [aie]
    rw[<- EL] at oN ⊢;obtain⟨t,wr,rfl⟩:∃ a b,ws=a::b:=by
     cases ws with
     | nil=>grind
     | cons a b=>grind
    have rJ:Ext EZ w5:=yF;have g5:w5.heap[EZ.heap.size]?=O (aih (t::wr)):=yH;clear oN;obtain⟨wb,sk⟩:=cg EZ.heap.size;rw[<- sk] at g5 ⊢;have lw5:=bh g5;have Is:((q:Nat):Int)+1=((q+1:Nat):Int):=zo;refine dF EX @Is ?_;have aS7:IntKind.i64.wrap (((q:Nat):Int)+1)=((q+1:Nat):Int):=fm @Is;try rw[List.length_cons]
    try rw[aS7]
    obtain⟨cw,To⟩:=cg (((t::wr).map fun s=>a1u (bs s)).toArray);have Cf:cw[0]?=O (aT t):=zg;have atd:∀ q,(hq:q<wr.length)->cw[q+1]?=O (aT (wr[q])):=zg;have uw:w5.heap[wb]?=aN cw 9:=zg;have uf:=gJ.trans rJ;have IM:=IL.ext rJ;have Kd:=rJ.ext _ _ Z2;have a0z:=rJ.ext _ _ MI.e;have a0A:=bh Kd;have U:=IM.code;have yw:kb<w5.heap.size:=by
     cases ha:p.ask with
     | none=>grind
     | some cn=>
      rw[ha] at U;grind
    have aS8:en=A->pf (t::wr) p=V->tF s = .error (5,q+1):=fun he hl=>by
     rw[lR,Z1,O4,as8 (by
      intro e;have h1:=congrArg List.length e;grind),<- EL,hl]
    have a0B:∀ p',en=A->pf (t::wr) p=O p'->pP L 1 ⟨[],G,V⟩=pP (L.drop (q+1)) (q+1+1) p':=fun p' he hl=>by
     rw[Z1,O4,as8 (by
      intro e;have h1:=congrArg List.length e;grind),<- EL,hl]
    have a0C:en=G->tF s = .error (5,q+1):=fun he=>by
     have h1:¬ q+1<L.length:=zg;have M:L.drop (q+1)=[]:=zg;have gj:L.length-1=q:=zo;rw[gj,hr] at ZZ;injection ZZ with ZZ;rcases hn with⟨h3,-⟩| ⟨h3,h4⟩
     .omega
     .rw[lR,Z1,O4,M];show(match (if r=[]/\1<q+1 then a3t p else a4T (q+1)) with
       | a4T k=>a4T (5,k)
       | a3t p=>match p.ask with
        | some (c,n)=>a3t (p.dO,c,n)
        | none=>a4T (5,L.length))=_
      grind
    have Dx:∀ {W:Z} {K:Y->Z->Prop} {X:List PanicEntry->Z->Prop},Ext EZ W->(∀ b wy,Ext EZ wy->wy.heap[b]?=aN #[zi 5,zi ((q+1:Nat):Int)] 77->X [{ v:=aj 73 (pp b),recovered:=false }] wy) ->
      Calls bbz 70 #[zi ((q+1:Nat):Int)] W (ends K X):=fun{W K X} hE hX=>by
     refine(VO _ W).mono ?_;rintro e wy ⟨MJ,b,rfl,f,-⟩;exact hX b wy yF f
    obtain⟨late,a0D⟩:∃ b:Prop,b=(p.ask≠V/\(t=C5\/t=BU\/t=EA)):=⟨_,J⟩;refine⟨fun _ w'=>w'=w5/\en=A/\¬ late,?_,?_⟩
    .refine⟨fun z w'=>w'=w5/\∃ b,z 85 = .bool b/\(b=A->tF s = .error (5,q+1))/\(b=G->en=A/\¬ late),?_,?_⟩
     .cases aS9:en with
      | false=>
       refine bG ?_;grind
      | true=>
       cases ha:p.ask with
       | none=>
        rw[ha] at U;have U:w5.heap[kb]?=O (wu pb (aq V) 0):=U;refine dF Kd U ?_;grind
       | some cn=>
        rw[ha] at U;obtain⟨ab,-,U⟩:=U;have ed:p.ask≠none:=zg;by_cases ke:t=C5
        .subst ke;refine dM Kd U @uw Cf ?_;exact⟨A,J,fun _=>aS8 aS9 (X6 ed (.inl J)),zg⟩
        .have a0E:¬ bs t=bs [112,114,101,100]:=zg;by_cases tQ:t=BU
         .subst tQ;refine dM Kd U @uw Cf ?_;exact⟨A,J,(by grind [X6]),zg⟩
         .by_cases ru:t=EA
          .subst ru;refine dM Kd U @uw Cf ?_;exact⟨A,J,(by grind [X6]),zg⟩
          .refine dM Kd U @uw (zA Cf (zA ke (zA tQ ru))) ?_;grind
     .rintro z5 w6 ⟨rfl,b,hzb,jf,Q⟩ dd;rw[hzb];cases b with
      | true=>
       refine dF EX @Is ?_;exact Dx rJ fun b wy MJ f=>yO MJ f (jf J)
      | false=>
       refine bG ?_;grind
    .rintro z5 w6 ⟨rfl,aTb,yg⟩ dd;have Ad:Ext w6 w6.drew:=yF;have rK:=rJ;have Fp:∀ {W:Z} {aio:Bs} {at':Y} {p':Pv},Kc w.heap.size EZ W->mB w.heap.size W kb pb aio at' p'->pf (t::wr) p=O p'->p'.Bd (q+1) ->
       Ext w W/\VX W rb eb kb/\W.heap[sb]?=aN cs 9/\mB w.heap.size W kb pb aio at' p'/\pP L 1 ⟨[],G,V⟩=pP (L.drop (q+1)) (q+1+1) p'/\p'.Bd (q+1)/\q+1<L.length:=fun{W aio at' p'} hF hX rk aTc=>
      ⟨⟨hF.os.trans gJ.os,hF.tape.trans gJ.tape,hF.output.trans gJ.output,a1d gJ.size hF.size,fun b o f _=>hF.block _ _ (gJ.ext _ _ f) yH⟩,MI.bK hF,hF.cells vA zo,hX,zg,aTc,hen.1 aTb⟩
     have Iq:=hT.ext uf;have vE:=hP.ext uf;refine⟨fun z w'=>w'=w6/\z 90 = .bool (decide (t=C5/\wr.length=2)),?_,?_⟩
     .by_cases ke:t=C5
      .by_cases pG:wr.length=2
       .have gH:((wr.length+1:Nat):Int)=3:=zo;have hd:decide (t=C5/\wr.length=2)=true:=zg;rw[hd];exact Bt @uw Cf ke gH
       .have gH:¬ ((wr.length+1:Nat):Int)=3:=zo;have hd:decide (t=C5/\wr.length=2)=false:=zg;rw[hd];exact Bt @uw Cf ke gH
      .have hd:decide (t=C5/\wr.length=2)=false:=zg;rw[hd];exact Kw @uw Cf ke
     .rintro z6 w7 ⟨rfl,aTd⟩ dd6;rw[aTd];by_cases tU:t=C5/\wr.length=2
      .rw[decide_eq_true tU];obtain⟨ke,pG⟩:=tU;obtain⟨a,b,rfl⟩:∃ a b,wr=[a,b]:=by
        match wr,pG with
        | [a,b],_=>grind
       subst ke;have ye:p.ask=none:=zg;have rk:=aJb (a:=a) (b:=b) ye;have jF:cw[1]?=O (aT a):=zg;have rT:cw[2]?=O (aT b):=atd 1 zs;refine bG ?_;refine⟨fun w'=>Ext w7 w',Ad,?_⟩;refine cS (pq wb 1) (fun w' d=>by have h9:=d.ext _ _ uw;have:=bh h9;exact fm h9) ?_;refine cS (aT a) (fun w' d=>by have h9:=d.ext _ _ uw;have:=bh h9;exact mn h9 jF) ?_;refine cS (pq wb 2) (fun w' d=>by have h9:=d.ext _ _ uw;have:=bh h9;exact fm h9) ?_;refine cS (aT b) (fun w' d=>by have h9:=d.ext _ _ uw;have:=bh h9;exact mn h9 rT) ?_;refine a1a (ah5 a _ w7.drew (Dj a zs)) ?_;rintro e w8 ⟨we,mU⟩;have wo:=Ad.trans we;cases VZ:ql a with
       | none=>
        rw[VZ] at mU rk;obtain⟨b',rfl,M,h3⟩:=mU;exact fun _=>yO yF M zg
       | some nm=>
        rw[VZ] at mU;subst mU;refine⟨wo,?_⟩;refine a1a (O7 b 64 _ w8 (Dj b zs) zo (Iq.ext wo) (vE.ext wo)) ?_;rintro e w9 ⟨ns,gS⟩;have tL:=wo.trans ns;cases my:kz b 64 with
        | none=>
         rw[my] at gS;rw[VZ,my] at rk;obtain⟨b',rfl,M,h3⟩:=gS;exact fun _=>yO yF M zg
        | some ar=>
         rw[my] at gS;subst gS;rw[VZ,my] at rk;have lp:=CZ my;have aTe:nm.length<=100:=by
          have:=(TK VZ).2.1;grind [TK]
         refine a1a (agw nm ar aTe zo w9) ?_;rintro e B ⟨rfl,rfl⟩;have Bf:=IM.ext tL;obtain⟨l,OV,aTf⟩:=Bf.close;have Pa:B.heap[kb]?=O (wu pb (aq V) 0):=by
          have:=Bf.code;rw[ye] at this;exact this
         have V0:=tL.ext _ _ Kd;have a0G:=bh Pa;have a0H:=bh OV;have Jn:=aTf.find (name:=nm) (n:=ar) zo (j:=0);refine⟨fun _ w'=>w'=B/\fO (P.keyOf nm ar) l 0=V,?_,?_⟩
         .refine dF V0 Pa ?_;rw[LZ (k:=9) (e:=192) (z:=bX) zk zk zk OV (P.keyOf nm ar) A];cases hf:fO (P.keyOf nm ar) l 0 with
          | none=>simp (disch:=first|assumption|omega|simp only[zS]<;>omega|decide) only[zB,simprocAttr,lE]
          | some kv=>
           obtain⟨k,v⟩:=kv;rw[hf] at Jn;obtain⟨p0,pH,-⟩:=Jn;refine bG ?_;have aTg:p.dO.any (fun q=>q.name == nm && q.arity == ar)=true:=by
            grind
           exact Dx yF fun b' wy MJ f=>yO MJ f zg
         .rintro z7 I ⟨rfl,hf⟩ d7;rw[hf] at Jn;have aTg:p.dO.any (fun q=>q.name == nm && q.arity == ar)=false:=by
           cases han:p.dO.any (fun q=>q.name == nm && q.arity == ar) with
           | false=>rfl
           | true=>
            obtain⟨p0,h1,M⟩:=List.any_eq_true.1 han;grind
          refine dF V0 Pa ?_;rw[aSV (size:=1) zk (fun w=>GD zk w)];obtain⟨qx,aip⟩:=cg (I.alloc (ae #[] 185));rw[<- aip];have su:Ext I qx:=by rw[aip];exact(bB.refl _ _).alloc _
          have g12:qx.heap[I.heap.size]?=aN #[] 185:=yH;clear aip;have Zq:=su.ext _ _ OV;have a0I:=bh Zq;rw[aLS (k:=9) (e:=192) (z:=bX) zk zk zk Zq (P.keyOf nm ar) hf];obtain⟨C,y⟩:=cg (bS qx pb (eO (l++[(P.keyOf nm ar,bX)])));rw[<- y];have Rx:C.heap[pb]?=O (eO (l++[(P.keyOf nm ar,bX)])):=yH;refine bG ?_;rw[aLT (s:=P.keyOf nm ar) (u:=bX) Rx zg];have CT:(l++[(P.keyOf nm ar,a1n V 0 0)]).set l.length (P.keyOf nm ar,cV I.heap.size 0 0)=l++[(P.keyOf nm ar,cV I.heap.size 0 0)]:=by
           rw[a4s _ _ (a1c _)];simp
          rw[CT];have a0J:=bh Rx;obtain⟨JW,Z3⟩:=cg (bS C pb (eO (l++[(P.keyOf nm ar,cV I.heap.size 0 0)])));rw[<- Z3];have RR:bB (fun b _=>b=pb) I JW:=by
           rw[Z3,y];exact aii (aii yF yH _) yH _
          have aTj:JW.heap[I.heap.size]?=aN #[] 185:=by rw[Z3,jr zo,y,jr zo];omega
          have aTk:JW.heap[pb]?=O (eO (l++[(P.keyOf nm ar,cV I.heap.size 0 0)])):=yH;have aTl:=Bf.aSQ ye zo OV hf RR aTj zo zo aTk;have DD:Kc w.heap.size EZ JW:=by
           refine⟨RR.os.trans (rK.trans tL).os,RR.tape.trans (rK.trans tL).tape,RR.output.trans (rK.trans tL).output,a1d (rK.trans tL).size RR.size,fun b o f hn=>RR.block _ _ ((rK.trans tL).ext _ _ f) fun e=>hn ?_⟩;have Q:=(rK.trans tL).ext _ _ f;rw[e,OV] at Q;injection Q with Q;exact⟨zo,.inl ⟨_,_,Q.symm⟩⟩
          clear Z3 y;have aiq:pf [C5,a,b] p=O ⟨p.dO++[⟨nm,ar,[]⟩],G,V⟩:=zg;have V1:Pv.Bd (q+1) ⟨p.dO++[⟨nm,ar,[]⟩],G,V⟩:=by
           refine⟨fun x hx=>?_,zg⟩;rcases a1o.1 hx with hx | hx
           .exact(nW.mono zo).1 x hx
           .rw[a1x] at hx;subst hx;exact⟨Nat.zero_le _,zg⟩
          refine dF EX @Is ?_;exact⟨_,zo,q+1,_,_,_,J,zo,J,J,J,Fp DD aTl aiq V1⟩
      .rw[decide_eq_false tU];refine bG ?_;refine⟨fun z w'=>w'=w7/\z 131 = .bool (decide (t=BU/\wr.length=1/\key≠[])),?_,?_⟩
       .by_cases ke:t=BU
        .by_cases pG:wr.length=1
         .have gH:((wr.length+1:Nat):Int)=2:=zo;by_cases hky:key=[]
          .have hd:decide (t=BU/\wr.length=1/\key≠[])=false:=zg;rw[hd];exact Bt @uw Cf ke (zA gH (zA h6 hky))
          .have hd:decide (t=BU/\wr.length=1/\key≠[])=true:=zg;have aTm:¬ bs key=bs []:=zg;rw[hd];exact Bt @uw Cf ke (zA gH (zA h6 (zA hky aTm)))
         .have gH:¬ ((wr.length+1:Nat):Int)=2:=zo;have hd:decide (t=BU/\wr.length=1/\key≠[])=false:=zg;rw[hd];exact Bt @uw Cf ke gH
        .have hd:decide (t=BU/\wr.length=1/\key≠[])=false:=zg;rw[hd];exact Kw @uw Cf ke
       .rintro z7 w8 ⟨rfl,aTn⟩ dd7;rw[aTn];by_cases gZ:t=BU/\wr.length=1/\key≠[]
        .rw[decide_eq_true gZ];obtain⟨ke,pG,hky⟩:=gZ;obtain⟨a,rfl⟩:∃ a,wr=[a]:=by
          match wr,pG with
          | [a],_=>grind
         subst ke;have ye:p.ask=none:=zg;have jF:cw[1]?=O (aT a):=zg;refine dF @uw jF ?_;refine a1a (O7 a 65 _ w8 zg zo Iq vE) ?_;rintro e w9 ⟨ns,gS⟩;have ate:p.dO≠[]:=(by grind [mB.as9]);have rk:=aJc (a:=a) ye ate;cases om:kz a 65 with
         | none=>
          rw[om] at gS rk;obtain⟨b',rfl,M,h3⟩:=gS;exact yO yF M zg
         | some slots=>
          rw[om] at gS rk;subst gS;have hX9:=IM.ext ns;have a0L:w9.heap[kb]?=O (wu pb (aq V) 0):=by
           have:=hX9.code;rw[ye] at this;exact this
          have Pb:=rK.trans ns;have hs9:=(gJ.trans Pb).size;have a0M:=ns.ext _ _ Kd;obtain⟨l,v,cbs,pl,S,D,ZM,PU,hm9,hu,eS,kg,a0N,xt⟩:=hX9.aSR hs9 ye ate;obtain⟨va,vc,rfl⟩:=il eS;have hfa:fO key (l++[(key,a1n va S.clauses.length vc)]) 0=O (0+l.length,.slice va S.clauses.length vc):=by rw[YR,hu];simp
          have a0O:S.clauses.length<=q:=(nW.1 S zg).1;rw[h6];refine bG ?_;obtain⟨B,Pc⟩:=cg (w9.alloc (ae (Value.agg #[zi (slots:Int),bX]).cells 196 (0,0)));rw[<- Pc];have Ge:Ext w9 B:=by rw[Pc];exact(bB.refl _ _).alloc _
          have g10:B.heap[w9.heap.size]?=aN #[zi (slots:Int),bX] 196:=by rw[Pc];exact rR J
          clear Pc;have ath:Ext w9 B.drew:=yF;have hSk:∀ {w':Z},Ext w9 w'->w'.heap[rb]?=aN #[ptr kb] 108/\w'.heap[kb]?=O (wu pb (aq V) 0)/\w'.heap[pb]?=O (eO (l++[(key,.slice va S.clauses.length vc)])):=(by grind [bB.ext]);refine⟨fun w'=>w'.heap[rb]?=aN #[ptr kb] 108/\w'.heap[kb]?=O (wu pb (aq V) 0)/\w'.heap[pb]?=O (eO (l++[(key,.slice va S.clauses.length vc)])),hSk ath,?_⟩;refine cS (ptr kb) (fun w' d=>by have:=bh d.1;exact fm @d.1) ?_;refine cS (ptr kb) (fun w' d=>by have:=bh d.2.1;exact fm @d.2.1) ?_;refine cS (.map (O pb)) (fun w' d=>by have:=bh d.2.1;exact fm @d.2.1) ?_;refine cS (ptr kb) (fun w' d=>by have:=bh d.1;exact fm @d.1) ?_;refine cS (ptr kb) (fun w' d=>by have:=bh d.2.1;exact fm @d.2.1) ?_;refine cS (.map (O pb)) (fun w' d=>by have:=bh d.2.1;exact fm @d.2.1) ?_;refine cS (.slice va S.clauses.length vc) (fun w' d=>by rw[LZ (k:=9) (e:=192) (z:=bX) zk zk zk d.2.2 key G,hfa];rfl) ?_;refine bG ?_;obtain⟨I,Ag⟩:=cg (B.drew.alloc (ae #[pp w9.heap.size] 185));have Aa:Ext B.drew I:=by rw[Ag];exact(bB.refl _ _).alloc _
          have g11:I.heap[B.drew.heap.size]?=aN #[pp w9.heap.size] 185:=yH;rw[<- Ag];have E:=ath.trans Aa;have aTp:I.heap[B.heap.size]?=aN #[pp w9.heap.size] 185:=g11;clear Ag;have V2:=hSk E;have Ah:=jY E.ext eS;have aTq:I.heap[w9.heap.size]?=aN #[zi (slots:Int),bX] 196:=Aa.ext _ _ ((bB.drew (bB.refl (fun _ _=>False) B)).block _ _ g10 zg);have atj:=E.size;refine⟨V2,?_⟩;refine aso (base:=pl) Ah aTp zo zo fun v' qx ho N hv=>?_;obtain⟨E0,E1,rfl⟩:=il ho;have Z4:qx.heap[pb]?=O (eO (l++[(key,.slice va S.clauses.length vc)])):=by
           rw[N.block _ (bh V2.2.2) (fun e=>?_)]
           .grind
           .obtain⟨-,-,cs',h1⟩:=EW Ah e.symm;rw[V2.2.2] at h1;cases h1
          refine⟨⟨Gm Ah N zo V2.1,Gm Ah N zo V2.2.1,Z4⟩,?_⟩;rw[apC (k:=9) (e:=192) zk zk Z4 key hfa];have CT:(l++[(key,a1n va S.clauses.length vc)]).set (0+l.length) (key,.slice E0 (S.clauses.length+1) E1)=l++[(key,.slice E0 (S.clauses.length+1) E1)]:=by
           rw[Nat.zero_add,a4s _ _ (a1c _)];simp
          rw[CT];have aTr:=bh Z4;obtain⟨C,y⟩:=cg (bS qx pb (eO (l++[(key,.slice E0 (S.clauses.length+1) E1)])));rw[<- y];have Rx:C.heap[pb]?=O (eO (l++[(key,.slice E0 (S.clauses.length+1) E1)])):=by rw[y];exact qJ J aTr
          have MK:∀ {b T:Nat} {cs':Array Y},qx.heap[b]?=aN cs' T->C.heap[b]?=aN cs' T:=fun{b T cs'} f=>by
           rw[y,jr (fun e=>by rw[e,Z4] at f;cases f)];omega
          have kF:bB (fun b o=>b=pb\/(pl<=b/\∃ cs,o = ae cs 185 (0,0))) w9 C:=by
           refine⟨?_,?_,?_,?_,fun b o f AG=>?_⟩
           .rw[y];exact N.os.trans E.os
           .rw[y];exact N.tape.trans E.tape
           .rw[y];exact N.output.trans E.output
           .rw[y,vp];exact a1d E.size N.size
           .have ed:b≠pb:=zo;rw[y,jr ed,N.block b (bh (E.ext _ _ f)) (fun e=>?_)]
            .exact E.ext _ _ f
            .obtain⟨h1,-,cs',M⟩:=EW Ah e.symm;rw[E.ext _ _ f] at M;injection M with M;exact AG (.inr ⟨h1,cs',M⟩)
          have aTs:∃ b,(a1n E0 (S.clauses.length+1) E1).ownBlock=O b:=by
           rcases ho.2 with⟨-,h0⟩| ⟨g,cap,cur,h1,-⟩
           .omega
           .rw[h1];exact⟨g,J⟩
          have V3:C.ownsRow pl 185 1 (.slice E0 (S.clauses.length+1) E1) (S.clauses.length+1) (Kb cbs++[ptr w9.heap.size]):=Gl ho fun b cs' _ f=>MK f;have Pe:=xt C _ w9.heap.size slots kF Rx V3 aTs (MK (Gm Ah N zo aTq)) zo;have DD:Kc w.heap.size EZ C:=by
           refine⟨kF.os.trans Pb.os,kF.tape.trans Pb.tape,kF.output.trans Pb.output,a1d Pb.size kF.size,fun b o f AG=>kF.block _ _ (Pb.ext _ _ f) ?_⟩;have Q:=Pb.ext _ _ f;rintro (e | ⟨h1,cs',M⟩)
           .rw[e,hm9] at Q;injection Q with Q;exact AG ⟨zo,.inl ⟨_,_,Q.symm⟩⟩
           .exact AG ⟨zo,.inr ⟨cs',_,M,zg⟩⟩
          have aiq:pf [BU,a] p=O ⟨D++[⟨S.name,S.arity,S.clauses++[⟨slots,[]⟩]⟩],A,V⟩:=by
           rw[rk,ye,ZM];simp only[an6]
          have V1:Pv.Bd (q+1) ⟨D++[⟨S.name,S.arity,S.clauses++[⟨slots,[]⟩]⟩],A,V⟩:=by
           have h0:=(nW.mono (Nat.le_succ q)).1;rw[ZM] at h0;refine⟨fun x hx=>?_,fun c n h=>(by cases h)⟩;rcases a1o.1 hx with hx | hx
           .exact h0 x (List.mem_append_left _ hx)
           .rw[a1x] at hx;subst hx;refine⟨by simp;omega,fun c hc=>?_⟩;rcases a1o.1 hc with hc | hc
            .exact(h0 S zs).2 c hc
            .rw[a1x] at hc;subst hc;have:=CZ om;grind
          clear y;refine dF EX @Is ?_;exact⟨_,zo,q+1,_,_,_,J,zo,J,J,J,Fp DD Pe aiq V1⟩
        .rw[decide_eq_false gZ];refine bG ?_;refine⟨fun z w'=>w'=w8/\z 166 = .bool (decide (t=EA/\wr.length=2)),?_,?_⟩
         .by_cases ke:t=EA
          .by_cases pG:wr.length=2
           .have gH:((wr.length+1:Nat):Int)=3:=zo;have hd:decide (t=EA/\wr.length=2)=true:=zg;rw[hd];exact Bt @uw Cf ke gH
           .have gH:¬ ((wr.length+1:Nat):Int)=3:=zo;have hd:decide (t=EA/\wr.length=2)=false:=zg;rw[hd];exact Bt @uw Cf ke gH
          .have hd:decide (t=EA/\wr.length=2)=false:=zg;rw[hd];exact Kw @uw Cf ke
         .rintro z8 w9 ⟨rfl,aTt⟩ dd8;rw[aTt];by_cases Z5:t=EA/\wr.length=2
          .rw[decide_eq_true Z5];obtain⟨ke,pG⟩:=Z5;obtain⟨a,b,rfl⟩:∃ a b,wr=[a,b]:=by
            match wr,pG with
            | [a,b],_=>grind
           subst ke;have ye:p.ask=none:=zg;have jF:cw[1]?=O (aT a):=zg;have rT:cw[2]?=O (aT b):=atd 1 zs;refine dF @uw jF ?_;refine a1a (O7 a 65 _ w9 (Dj a zs) zo Iq vE) ?_;rintro e B ⟨Ge,gS⟩;have rk:=an7 (a:=a) (b:=b) ye;cases om:kz a 65 with
           | none=>
            rw[om] at gS rk;obtain⟨b',rfl,M,h3⟩:=gS;exact yO yF M zg
           | some slots=>
            rw[om] at gS rk;subst gS;refine bG ?_;have Bf:=IM.ext Ge;have Pa:B.heap[kb]?=O (wu pb (aq V) 0):=by
             have:=Bf.code;rw[ye] at this;exact this
            have Pf:=rK.trans Ge;have aTu:=(gJ.trans Pf).size;have V0:=Ge.ext _ _ Kd;have Pc:=Ge.ext _ _ uw;obtain⟨I,Ag⟩:=cg (B.alloc (ae (Value.agg #[zi (slots:Int),bX]).cells 196 (0,0)));rw[<- Ag];have Aa:Ext B I:=by rw[Ag];exact(bB.refl _ _).alloc _
            have g11:I.heap[B.heap.size]?=aN #[zi (slots:Int),bX] 196:=by rw[Ag];exact rR J
            clear Ag;have V4:Ext I I.drew:=bB.drew yF;refine⟨fun w'=>w'.heap[rb]?=aN #[ptr kb] 108/\w'.heap[wb]?=aN cw 9/\w'.heap[B.heap.size]?=aN #[zi (slots:Int),bX] 196,⟨(Aa.trans V4).ext _ _ V0,(Aa.trans V4).ext _ _ Pc,yH⟩,?_⟩;refine cS (ptr kb) (fun w' d=>by have:=bh d.1;exact fm @d.1) ?_;refine cS (ptr kb) (fun w' d=>by have:=bh d.1;exact fm @d.1) ?_;refine cS (pq wb 2) (fun w' d=>by have:=bh d.2.1;exact fm @d.2.1) ?_;refine cS (aT b) (fun w' d=>by have:=bh d.2.1;exact mn @d.2.1 rT) ?_;refine cS (pp B.heap.size) (fun w' d=>by have:=bh d.2.2;exact fm @d.2.2) ?_;refine cS (zi (slots:Int)) (fun w' d=>by have:=bh d.2.2;exact fm @d.2.2) ?_;have a0R:=CZ om;have es1:(slots:Int)+1=((slots+1:Nat):Int):=zo;refine cS (zi ((slots+1:Nat):Int)) (fun w' d=>fm @es1) ?_;have LF:=Ge.trans (Aa.trans V4);refine a1a (O7 b (slots+1) _ I.drew (Dj b zs) zo (Iq.ext LF) (vE.ext LF)) ?_;rintro e qx ⟨su,Z6⟩;have ais:=(Aa.trans V4).trans su;cases my:kz b (slots+1) with
            | none=>
             rw[my] at Z6;simp only[my] at rk;obtain⟨b',rfl,M,h3⟩:=Z6;exact fun _=>yO yF M zg
            | some told=>
             rw[my] at Z6;subst Z6;simp only[my] at rk;have aTw:=ais.ext _ _ V0;have MD:=ais.ext _ _ Pa;have a0S:=(V4.trans su).ext _ _ g11;have a0T:=bh MD;refine⟨(by grind [bB.ext]),?_⟩;refine cO MD ?_;have a0U:=bh Pc;have lkk:=bh Pa;have mH:wb≠kb:=zg;refine⟨⟨aTw,by rw[jr mH];grind [bB.ext],yH⟩,?_⟩;obtain⟨C,y⟩:=cg (bS qx kb (wu pb (ptr B.heap.size) (told:Int)));have vG:bB (fun b _=>b=kb) B C:=by
              rw[y];exact aii (yF) yH _
             have aTx:C.heap[kb]?=O (wu pb (ptr B.heap.size) (told:Int)):=yH;have aTy:C.heap[B.heap.size]?=aN #[zi (slots:Int),bX] 196:=yH;have Pe:=Bf.aST aTu vG aTx aTy zo zg;have DD:Kc w.heap.size EZ C:=by
              refine⟨vG.os.trans Pf.os,vG.tape.trans Pf.tape,vG.output.trans Pf.output,yH,fun b o f AG=>vG.block _ _ (Pf.ext _ _ f) fun e=>AG ?_⟩;have Q:=Pf.ext _ _ f;rw[e,Pa] at Q;injection Q with Q;exact⟨zo,.inr ⟨_,_,Q.symm,.inl J⟩⟩
             have V1:Pv.Bd (q+1) ⟨p.dO,A,O (⟨slots,[]⟩,told)⟩:=⟨(nW.mono zo).1,zg⟩;subst y;refine dF EX @Is ?_;obtain⟨k1,k2,-,k4,k5,k6⟩:=Fp DD Pe rk V1;exact⟨_,zo,q+1,_,_,_,J,zo,J,h6,J,k1,k2,(Pf.trans ais).ext _ _ vA,k4,k5,k6⟩
          .rw[decide_eq_false Z5];have rk:=aJd (w0:=t) (r:=wr) (p:=p) zg tU (by grind [mB.as9]) Z5;by_cases yl:at_ = aq V
           .rw[IM.aSX yl] at rk;refine dF h7 yl ?_;exact Dx rK fun b wy MJ f=>yO MJ f zg
           .obtain⟨ab,ol,insv,vs,c,rfl,Bz,hO,pw,fg,xt⟩:=IM.aSU yl;rw[Bz] at rk;have RS:=hO.cell;have lab:=bh RS;obtain⟨yf,a0X⟩:=nW.cur Bz;obtain⟨ia,ic,rfl⟩:=il hO.row;refine cO h7 ?_;rw[h7];refine⟨fun w'=>w'.heap[ab]?=aN #[zi (c.slots:Int),.slice ia c.ins.length ic] 196,yH,?_⟩;refine cS (pq ab 1) (fun w' d=>by have:=bh d;exact fm d) ?_;refine cS (.slice ia c.ins.length ic) (fun w' d=>by have:=bh d;exact fm d) ?_;refine a1a (aSn (w:=w9.drew) (wb:=wb) (cb:=ab) (wd:=t) (ws:=wr) (slots:=c.slots) (insv:=.slice ia c.ins.length ic) (k:=((q+1:Nat):Int)) (yH) yH zo zg Dj (Iq.ext Ad) (vE.ext Ad)) ?_;rintro e B hi;obtain⟨Ge,hi⟩:=hi;have aiv:=Ad.trans Ge;cases zW:vN c.slots (t::wr) with
            | none=>
             rw[zW] at hi;simp only[zW] at rk;obtain⟨b',rfl,M,h3⟩:=hi;exact fun _=>yO yF M zg
            | some i=>
             rw[zW] at hi;simp only[zW] at rk;obtain⟨cv,sv,rfl,lO,dY⟩:=hi;obtain⟨sa,sc,rfl⟩:=il dY;have aTz:=aiv.ext _ _ RS;refine⟨aTz,?_⟩;have jo:=lO.cases;rcases jo with rfl | ⟨t1,u1,rfl⟩
             .refine bG ?_;obtain⟨I,Ag⟩:=cg (B.alloc (ae #[aT i.word,aT i.name,ai,.slice sa i.s.length sc] 198));have Aa:Ext B I:=by rw[Ag];exact(bB.refl _ _).alloc _
              have g11:I.heap[B.heap.size]?=O (ae [a1u (bs i.word),aT i.name,ai,.slice sa i.s.length sc].toArray 198 (0,0)):=yH;rw[<- Ag];clear Ag;have E:=aiv.trans Aa;have V5:=E.ext _ _ RS;have Ah:=jY E.ext hO.row;have atj:=E.size;refine⟨V5,?_⟩;refine agY (base:=ol) Ah g11 J (by
               intro u hu;simp only[List.mem_cons,List.not_mem_nil,or_false] at hu;rcases hu with rfl | rfl | rfl | rfl<;>rfl) zo zo fun v' qx ho N hv=>?_
              obtain⟨E0,E1,rfl⟩:=il ho;have Pg:=Gm Ah N zd V5;have aTA:=bh Pg;refine⟨Pg,?_⟩;refine cO Pg ?_;obtain⟨C,y⟩:=cg (bS qx ab (ae #[zi (c.slots:Int),.slice E0 (c.ins.length+1) E1] 196));have aiw:C.heap[ab]?=aN #[zi (c.slots:Int),.slice E0 (c.ins.length+1) E1] 196:=yH;have MK:∀ {b:Nat} {cs':Array Y} {T:Nat},T≠196->qx.heap[b]?=aN cs' T->C.heap[b]?=aN cs' T:=yH;have kF:bB (fun b o=>b=ab\/(ol<=b/\∃ cs,o = ae cs 198 (0,0))) w9 C:=by
               refine⟨?_,?_,?_,?_,fun b o f AG=>?_⟩
               .rw[y];exact N.os.trans E.os
               .rw[y];exact N.tape.trans E.tape
               .rw[y];exact N.output.trans E.output
               .rw[y,vp];exact a1d E.size N.size
               .have ed:b≠ab:=zo;rw[y,jr ed,N.block b (bh (E.ext _ _ f)) (fun e=>?_)]
                .grind [bB.ext]
                .obtain⟨h1,-,cs',M⟩:=EW Ah e.symm;grind [bB.ext]
              have V3:=Gl ho fun b cs' _ f=>MK zd f;have hsi:wq C [a1u (bs i.word),aT i.name,ai,.slice sa i.s.length sc] [i]:=by
               refine⟨ai,.slice sa i.s.length sc,[],J,lO,(Fi dY (F:=fun _=>True) zg).mono zg fun b cs' _ f=>?_,J⟩;exact MK zo (Gm Ah N zo (Aa.ext _ _ f))
              have Pe:=xt C _ _ i kF aiw V3 hsi;have DD:Kc w.heap.size EZ C:=by
               refine⟨kF.os.trans rK.os,kF.tape.trans rK.tape,kF.output.trans rK.output,a1d rK.size kF.size,fun b o f AG=>kF.block _ _ (rK.ext _ _ f) ?_⟩;have Q:=rK.ext _ _ f;rintro (e | ⟨h1,cs',M⟩)
               .rw[e,RS] at Q;injection Q with Q;have:=hO.low;grind
               grind
              obtain⟨k1,k2,k3,k4,k5,k6⟩:=Fp DD Pe rk (nW.add i);subst y;refine dF EX @Is ?_;exact⟨_,zo,q+1,_,_,_,J,zo,J,h6,J,k1,k2,k3,k4,k5,k6⟩
             .refine bG ?_;obtain⟨I,Ag⟩:=cg (B.alloc (ae #[aT i.word,aT i.name,aj t1 u1,.slice sa i.s.length sc] 198));have Aa:Ext B I:=by rw[Ag];exact(bB.refl _ _).alloc _
              have g11:I.heap[B.heap.size]?=O (ae [a1u (bs i.word),aT i.name,aj t1 u1,.slice sa i.s.length sc].toArray 198 (0,0)):=yH;rw[<- Ag];clear Ag;have E:=aiv.trans Aa;have V5:=E.ext _ _ RS;have Ah:=jY E.ext hO.row;have atj:=E.size;refine⟨V5,?_⟩;refine agY (base:=ol) Ah g11 J (by
               intro u hu;simp only[List.mem_cons,List.not_mem_nil,or_false] at hu;rcases hu with rfl | rfl | rfl | rfl<;>rfl) zo zo fun v' qx ho N hv=>?_
              obtain⟨E0,E1,rfl⟩:=il ho;have Pg:=Gm Ah N zd V5;have aTA:=bh Pg;refine⟨Pg,?_⟩;refine cO Pg ?_;obtain⟨C,y⟩:=cg (bS qx ab (ae #[zi (c.slots:Int),.slice E0 (c.ins.length+1) E1] 196));have aiw:C.heap[ab]?=aN #[zi (c.slots:Int),.slice E0 (c.ins.length+1) E1] 196:=yH;have MK:∀ {b:Nat} {cs':Array Y} {T:Nat},T≠196->qx.heap[b]?=aN cs' T->C.heap[b]?=aN cs' T:=yH;have kF:bB (fun b o=>b=ab\/(ol<=b/\∃ cs,o = ae cs 198 (0,0))) w9 C:=by
               refine⟨?_,?_,?_,?_,fun b o f AG=>?_⟩
               .rw[y];exact N.os.trans E.os
               .rw[y];exact N.tape.trans E.tape
               .rw[y];exact N.output.trans E.output
               .rw[y,vp];exact a1d E.size N.size
               .have ed:b≠ab:=zo;rw[y,jr ed,N.block b (bh (E.ext _ _ f)) (fun e=>?_)]
                .grind [bB.ext]
                .obtain⟨h1,-,cs',M⟩:=EW Ah e.symm;grind [bB.ext]
              have V3:=Gl ho fun b cs' _ f=>MK zd f;have hsi:wq C [a1u (bs i.word),aT i.name,aj t1 u1,.slice sa i.s.length sc] [i]:=by
               refine⟨aj t1 u1,.slice sa i.s.length sc,[],J,lO,(Fi dY (F:=fun _=>True) zg).mono zg fun b cs' _ f=>?_,J⟩;exact MK zo (Gm Ah N zo (Aa.ext _ _ f))
              have Pe:=xt C _ _ i kF aiw V3 hsi;have DD:Kc w.heap.size EZ C:=by
               refine⟨kF.os.trans rK.os,kF.tape.trans rK.tape,kF.output.trans rK.output,a1d rK.size kF.size,fun b o f AG=>kF.block _ _ (rK.ext _ _ f) ?_⟩;have Q:=rK.ext _ _ f;rintro (e | ⟨h1,cs',M⟩)
               .rw[e,RS] at Q;injection Q with Q;have:=hO.low;grind
               grind
              obtain⟨k1,k2,k3,k4,k5,k6⟩:=Fp DD Pe rk (nW.add i);subst y;refine dF EX @Is ?_;exact⟨_,zo,q+1,_,_,_,J,zo,J,h6,J,k1,k2,k3,k4,k5,k6⟩
   .have EP:q=n:=zo;subst EP;have rN:¬ ((q:Nat):Int)<((q:Nat):Int):=zo;have DL:q+1=L.length/\MH=[]/\0<q:=by
     grind
    have dK:L.drop q=[MH]:=by
     grind [a1h,List.drop_of_length_le,a1e]
    have aTB:pP L 1 ⟨[],G,V⟩ = .ok p:=by
     rw[Z1,dK];show(if MH=[]/\1<q+1 then a3t p else a4T (q+1))=_;grind
    have U:=IL.code;rw[aTB] at lR;refine dF EX rN ?_;cases ha:p.ask with
    | none=>
     rw[ha] at U;have lR:tF s = .error (5,L.length):=zg;have U:w4.heap[kb]?=O (wu pb (aq V) 0):=U;have Is:((q:Nat):Int)+1=(L.length:Int):=zo;refine⟨fun _ _=>False,?_,fun _ _ h=>h.elim⟩;refine dM Z2 U hz @Is ?_;refine(VO _ w4).mono ?_;rintro e wy ⟨MJ,b,rfl,f,-⟩;exact yO MJ f lR
    | some cn=>
     obtain⟨c0,n0⟩:=cn;rw[ha] at U;have lR:tF s = .ok (p.dO,c0,n0):=zg;obtain⟨ab,yl,U⟩:=U;have lkb:=bh U;have hR0:=MI.r;have hEe:=MI.e;obtain⟨LA,hC,hA⟩:=IL.done ha;have oW:=hC.1;refine⟨fun _ w'=>w'=w4,?_,?_⟩
     .exact mn Z2 U
     .rintro z5 w5 rfl dd5;refine dF hR0 hEe ?_;have AE:rb≠eb:=zo;obtain⟨w6,pQ⟩:=cg (bS (bS w5 rb (ae #[ptr kb] 108)) eb (ae #[ai] 57));have atm:∀ (b:Nat) (o:Obj),w5.heap[b]?=O o->w6.heap[b]?=O o:=yH;have ln:Ext w w6:=yF;have r6:=atm _ _ hR0;have e6:=atm _ _ hEe;rw[<- pQ];clear pQ;refine asX ?_;refine dF @r6 @e6 ?_;refine hR _ _ ⟨ln,?_⟩;rw[lR];exact⟨kb,pb,LA,J,hC.bK (fun b cs T _ f=>yH) yH,hA.bK fun b cs T _ f=>yH⟩
def P.aTC{c:Co}(g:zG c)(ht:told<=c.slots):gL (0*1000000) { Jq c with sr:={ (Jq c).sr with fuel:=0 } }/\jS told (Jq c)/\∃ x,(Jq c).fs[(Jq c).f]?=O x/\x.ask=true:=by
 have e:∀ (i:Nat) (x:Fm),(Jq c).fs[i]?=O x->x=⟨c,a1N c.slots .nil,0,V,0,A⟩:=fun i x hx=>by
  have:x∈[(⟨c,a1N c.slots .nil,0,V,0,A⟩:Fm)]:=a2i hx;grind
 have hr:∀ y∈a1N c.slots Sl.nil,y = .nil:=zg;refine⟨⟨by show 0<1;omega,fun i x hx=>?_,(fun i a h=>by cases h),(fun i a h=>by cases h),(fun i j a b _ h=>by cases h),(by rw[Nat.zero_mul];exact a1c 0),(by rw[Nat.zero_mul];exact a1c 0),Nat.zero_le _,fun i x hx=>?_,fun i a h=>by cases h⟩,
  ⟨trivial,fun i x hx=>?_,(fun i a h=>by cases h),⟨trivial,trivial⟩,fun i x hx _=>?_⟩,_,J,J⟩
 .rw[e i x hx];exact⟨g,zs,fun y d=>by rw[hr y d];trivial,zg⟩
 .grind
 .rw[e i x hx];exact fun y d=>by rw[hr y d];trivial
 grind
structure aTD(w w':Z)(qb:Nat)(ps:List Pd)(c:Co)(n vb kb ab pb:Nat):Prop where
 cell:w'.heap[qb]?=aN (YV (Rs ps n vb kb ab pb) bX V) 121
 JY:w.heap.size<=vb
 ne:qb≠vb
 mem:∃ w2,Ext w w2/\Ext w2 w'/\w2.heap.size<=qb/\∀ (D:Nat->Prop) (ρ:Nat->Nat),(∀ b,w.heap.size<=b->D b)->(Rs ps n vb kb ab pb).Mem D ρ w2 (Jq c)
def aiy(t:Bs)(w:Z)(e:Ending)(w':Z):Prop:=Ext w w'/\match tF t with
 | .error (c,a)=>∃ b,e = ah (ak #[aq V,aj 73 (ptr b)])/\w'.heap[b]?=O (ae #[.int .i64 (c:Int),.int .i64 (a:Int)] 77 (0,0))
 | .ok (ps,c,n)=>∃ qb vb kb ab pb,e = ah (ak #[ptr qb,ai])/\aTD w w' qb ps c n vb kb ab pb
def aTE{w:Z}(t:Bs)(g:Cd w)(i:kZ w)(j:Gp w)(q:∀ ps c n,tF t = .ok (ps,c,n)->c.slots<=64):Calls bbz 25 #[aT t] w (aiy t w):=by
 suffices H:∀ R:Ending->Z->Prop,(∀ e w',aiy t w e w'->R e w')->Calls bbz 25 #[aT t] w R from H _ zg;intro R d;refine aL4 ?_;refine(aSY t g i j).mono ?_;rintro e w1 ⟨k,f⟩;unfold aiy at d;cases hr:tF t with
 | error l=>
  obtain⟨c,a⟩:=l;rw[hr] at f d;obtain⟨b,rfl,r⟩:=f;refine bG ?_;grind
 | ok x=>
  obtain⟨ps,c,n⟩:=x;rw[hr] at f d;obtain⟨kb,pb,ab,rfl,hC,m⟩:=f;refine bG ?_;refine a1a (aPA hC m zg) ?_;rintro e w2 ⟨s,vb,rfl,u,hm⟩;have s1:=k.size;refine bG ?_;have lv:vb<w2.heap.size:=by
   obtain⟨φ,ψ,av,tv,dw,h⟩:=hm (fun _=>True) (fun _=>0) fun _ _=>trivial;exact bh h.cell
  obtain⟨w3,o⟩:=cg (w2.alloc (ae #[aj 111 (pp vb),pq vb 1,.func (.func 36) #[pp vb] #[],bX,ai] 121));have p:Ext w2 w3:=yF;have g3:w3.heap[w2.heap.size]?=aN #[aj 111 (pp vb),pq vb 1,.func (.func 36) #[pp vb] #[],bX,ai] 121:=yH;rw[<- o];refine d _ _ ⟨yF,w2.heap.size,vb,kb,ab,pb,J,g3,zo,zo,w2,yF,p,a1c _,fun D ρ hD=>?_⟩;exact⟨zg,(by grind [eR.eo,yJ.bK,bB.ext])⟩
def yG.OI{w:Z}(hk:Rf D w w'){l:List Sl}(h:yG D ρ n ug pb w v l):yG D ρ n ug pb w' v l:=by
 rcases h with h | ⟨b,cap,row,c,d,e,f,g,i,a⟩
 .exact .inl h
 .exact .inr ⟨b,cap,row,c,d,hk.own _ _ a e,f,g.bK hk.F4 (eD.refl _ _),i,a⟩
def yG.OK{D':Nat->Prop}{w:Z}(a:∀ b,b<w.heap.size->D b->D' b){l:List Sl}(h:yG D ρ n ug pb w v l):yG D' ρ n ug pb w v l:=by
 rcases h with h | ⟨b,cap,row,c,d,e,f,g,i,j⟩
 .exact .inl h
 .exact .inr yH
def nF.OI{D:Nat->Prop}{ρ:Nat->Nat}{n nf:Nat}{φ ψ:Nat->Nat}{w w':Z}(hk:Rf D w w'):∀ {l:List Ga} {vs:List Y},nF D ρ n φ ψ nf w vs l->nF D ρ n φ ψ nf w' vs l
 | [],vs,h=>h
 | a::r,vs,⟨c,av,fZ,rest,d,e,f,g,i,j⟩=>⟨c,av,fZ,rest,d,e,f.bK fun b cs k=>hk.F4 b cs _ (yM) k,g.bK hk.F4,i.OI hk,nF.OI hk j⟩
def nF.OK{D D':Nat->Prop}{ρ:Nat->Nat}{n nf:Nat}{φ ψ:Nat->Nat}{w:Z}(c:∀ b,b<w.heap.size->D b->D' b):∀ {l:List Ga} {vs:List Y},nF D ρ n φ ψ nf w vs l->nF D' ρ n φ ψ nf w vs l
 | [],vs,h=>h
 | a::r,vs,⟨d,av,fZ,rest,e,f,g,i,j,k⟩=>⟨d,av,fZ,rest,e,f,g,i,j.OK c,nF.OK c k⟩
theorem vmD(dO:List Pd)(told vb cb fx pb:Nat):Y4 (Rs dO told vb cb fx pb) where
 bK:=by
  rintro D ρ w w' m ⟨⟨φ,ψ,av,tv,dw,h⟩,h2⟩ hk;refine⟨⟨φ,ψ,av,tv,dw,h.st.OI hk,h.fl,fun i x hx=>?_,h.bk,h.dp,h.inj,afW h.ar h.da hk.own,h.ag.OI hk,h.da⟩,h2.bK hk.F4 fun l hm=>hk.map _ _ _ hm⟩;have hi:i<m.fs.length:=zg;exact(h.fs i x hx).bK hk.F4 (eD.refl _ _) (yE.refl _ _ _) hi (fun b hb=>h.bk i x b hx hb) fun cs hb=>hk.own _ _ (h.dp i hi) hb
 cut:=by
  rintro D D' ρ w m ⟨⟨φ,ψ,av,tv,dw,h⟩,h2⟩ hd;refine⟨⟨φ,ψ,av,tv,dw,h.st.OK hd,h.fl,h.fs,h.bk,fun i hi=>?_,h.inj,h.ar,h.ag.OK hd,fun g hg=>hd _ (afX h.ar hg) (h.da g hg)⟩,h2⟩;obtain⟨row,hr,-⟩:=(h.fs i _ (a1e hi)).row;exact hd _ yH (h.dp i hi)
