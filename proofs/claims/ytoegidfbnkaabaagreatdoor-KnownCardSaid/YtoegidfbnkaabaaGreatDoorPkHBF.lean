/- A part of one proof (VP12, KR1, KD1). -/
import Derived.Test.YtoegidfbnkaabaaGreatDoorPkHBE
set_option linter.all false
set_option maxRecDepth 100000
set_option maxHeartbeats 8000000
open Option renaming some → O, none → V
open Go renaming Value → Y, World → Z
open Bool renaming true → A, false → G
open Go.Obj renaming cells → ae
open Go.Ending renaming returned → ah
open Go.Value renaming nilIface → ai, iface → aj, tuple → ak, pointer → aq
open Go.Calls renaming mono → a0c
open Nat renaming le_refl → a0d, le_trans → a0f
open List renaming getElem?_eq_getElem → a0e, drop_eq_getElem_cons → a0h, mem_append → a0q, mem_singleton → a0x, replicate → a0P, mem_of_getElem? → a06, set_append_right → a3o, count_le_length → a3C
open Go.Value renaming slice → a0m, string → a0u
open Go.Instr renaming loadAt → a0o
open Except renaming ok → a2q, error → a3O
open Go.Proofs.Tryz renaming prog → bak
namespace Go.Proofs.YtoegidfbnkaabaaGreatDoor
open P
open Go.RowKit Sx
variable{D:Nat->Prop}{R:Ending->Z->Prop}{X:Y->Z->Prop}{b base c cap e k n pb told:Nat}{cs:Array Y}{o4 tv v:Y}{out s:Bs}{tF ρ:Nat->Nat}{w w':Z}
def ahd{M:Nat->Obj->Prop}{a b:Z}(h:bz M a b)(hx:∀ o,a.heap[k]?=O o->M k o)(c:Obj):bz M a (bO b k c):=
 ⟨h.os,h.tape,h.output,by rw[uN];exact h.size,(by grind [absurd,jd,bz.block])⟩
def aSb{P:Program}{T size:Nat}{K:Y->Z->Prop}(hu:P.underlying T=O (.slice e))(a:∀ w,(sizeOf e).run P w = .ok size w):WR P (Instr.buildSlice T 0 #[]) w K X=K (cM w.heap.size 0 0) (w.alloc (ae #[] e (0,0))):=by
 refine xk ?_;simp [Instr.buildSlice,run_underlying hu,a,Instr.fill,newRow,newObj,Sem.run];grind
def ahe(s:Bs)(w:Z)(e:Ending)(w':Z):Prop:=Ext w w'/\match qo s with
 | .ok (ps,c,n)=>∃ kb pb ab,e = ah (ak #[ptr kb,ai])/\yf w' kb pb ab n ps/\Fu w' ab c
 | .error (c,a)=>∃ b,e = ah (ak #[aq V,aj 73 (ptr b)])/\w'.heap[b]?=O (ae #[.int .i64 (c:Int),.int .i64 (a:Int)] 77 (0,0))
abbrev Jh(base:Nat)(w w':Z):Prop:=bz (fun b o=>base<=b/\((∃ es n,o = .map es n)\/∃ cs T,o = ae cs T (0,0)/\(T=187\/T=185\/T=196\/T=198))) w w'
def Jh.cells(h:Jh base w w'){T:Nat}(a:w.heap[b]?=aN cs T)(c:¬ (T=187\/T=185\/T=196\/T=198)):w'.heap[b]?=aN cs T:=
 (by grind [bz.block])
structure UW(w:Z)(rb eb kb:Nat):Prop where
 r:w.heap[rb]?=aN #[ptr kb] 108
 e:w.heap[eb]?=aN #[ai] 57
theorem UW.bI{rb kb:Nat}(h:UW w rb pb kb)(a:Jh base w w'):UW w' rb pb kb:=⟨a.cells h.r zo,a.cells h.e zo⟩
def aSc{d:Z}(h:∀ e w',ahe s w e w'->R e w'){a rb eb:Nat}(n:Ext w d)(o:rb=w.heap.size)(p:eb=w.heap.size+1)(f:d.heap[rb]?=aN #[o4] 108)(g:d.heap[eb]?=aN #[ai] 57)
  (q:d.heap[b]?=aN #[zi (c:Int),zi (a:Int)] 77) (r:qo s = .error (c,a)) :
  LV bak (fun d=>RD bak (a0o 108 (pp rb)) d (fun i=>RD bak (a0o 57 (pp eb)) d (fun j=>R (ah (ak #[i,j])) d) NX) NX) R
   [{ target:=.fn (.func 66) #[pp rb,pp eb],args:=#[]++#[] }]
   (.panicking [{ v:=aj 73 (pp b),recovered:=false }]) d:=by
 refine aRZ f g zo ?_;have t:=bf f;have u:=bf g;have k:(bO (bO d rb (ae #[aq V] 108)) (eb) (ae #[aj 73 (pp b)] 57)).heap[rb]?=aN #[aq V] 108:=by
  exact yH
 have l:eb<(bO d rb (ae #[aq V] 108)).heap.size:=yH;have m:(bO (bO d rb (ae #[aq V] 108)) (eb) (ae #[aj 73 (pp b)] 57)).heap[eb]?=aN #[aj 73 (pp b)] 57:=yH;have x:b≠rb:=by
  grind
 have y:b≠eb:=by
  grind
 refine dy @k @m ?_;refine h _ _ ⟨yF,?_⟩;exact yH
theorem ar4(e:Bs):∀ {l:List Bs} {q:Nat} {x:Bs},l[q]?=O x->(BB e l)[q]?=O (if q+1<l.length then x++e else x)
 | [],_,_,h=>zg
 | [l],0,x,h=>by grind [BB]
 | [l],q+1,x,h=>zg
 | l::m::ls,0,x,h=>by
  have:l=x:=zg;subst this;rw[BB,zip zs];rfl
 | l::m::ls,q+1,x,h=>by
  rw[BB,List.getElem?_cons_succ,ar4 e (by simpa using h)];simp
def ar5{r:Bs}{rs:List Bs}{k:Nat}{p:Pv}(h:rs≠[]):oP (r::rs) k p=match oB (gP 32 r) p with
  | none=>.error k
  | some p=>oP rs (k+1) p:=by
 cases rs with
 | nil=>grind
 | cons a b=>rfl
theorem lZ.ar6{p:Pv}(h:lZ base w cap pb out tv p)(c:p.ask=V):out=[]↔p.dI=[]:=by
 have hk:∀ (n:Bs) (a:Nat),P.keyOf n a≠[]:=fun n a=>by unfold P.keyOf;simp
 cases h with
 | zero hk hm=>simp
 | pred b hm hu kT hD hr hv hC jY=>exact⟨zg,fun h=>by simp at h⟩
 | cl b hm hu kT hD hr hv hC oE hO jY eX=>exact⟨zg,fun h=>by simp at h⟩
 | ask b hm hD oE hO eX=>grind
def lZ.aSd{p:Pv}(h:lZ base w cap pb out tv p)(b:tv = aq V):p.cur=none:=by
 cases h with
 | zero hk hm=>rfl
 | pred a hm hu kT hD hr hv hC jY=>rfl
 | cl a hm hu kT hD hr hv hC oE hO jY eX=>grind
 | ask a hm hD oE hO eX=>grind
def aSe(s:Bs)(hT:AI w)(hP:kJ w)(hL:Ei w):Calls bak 34 #[aM s] w (ahe s w):=by
 suffices H:∀ R:Ending->Z->Prop,(∀ e w',ahe s w e w'->R e w')->Calls bak 34 #[aM s] w R from H _ zg;intro R hR;refine aRW ?_;by_cases aZp:65536<s.length
 .have hli:(s.length:Int) > 65536:=zo;have lG:qo s = .error (1,0):=by grind [qo]
  refine cG hli ?_;obtain⟨w0,xZ⟩:=b9 (bO (bO (((w.alloc (ae #[aq V] 108)).alloc (ae #[ai] 57)).alloc (ae #[zi 1,zi 0] 77)) w.heap.size (ae #[aq V] 108)) (w.heap.size+1) (ae #[aj 73 (ptr (w.heap.size+1+1))] 57));rw[<- xZ];have mU:Ext w w0:=yF;have q0:w0.heap[w.heap.size]?=aN #[aq V] 108:=yH;have q1:w0.heap[w.heap.size+1]?=aN #[aj 73 (ptr (w.heap.size+1+1))] 57:=yH;have q2:w0.heap[w.heap.size+1+1]?=aN #[zi 1,zi 0] 77:=yH;clear xZ;refine arV ?_;refine dy @q0 @q1 ?_;refine hR _ _ ⟨mU,?_⟩;grind
 .have hli:¬ (s.length:Int) > 65536:=zo;have iA:s.length<=1000000:=zo;refine cG hli ?_;obtain⟨w0,xZ⟩:=b9 ((w.alloc (ae #[aq V] 108)).alloc (ae #[ai] 57));rw[size_alloc,<- xZ];have mU:Ext w w0:=yF;have s0:w0.heap.size=w.heap.size+2:=yH;have b0:w0.heap[w.heap.size]?=aN #[aq V] 108:=yH;have b1:w0.heap[w.heap.size+1]?=aN #[ai] 57:=yH;clear xZ;obtain⟨rb,K4⟩:=b9 w.heap.size;obtain⟨eb,KF⟩:=b9 (w.heap.size+1);rw[<- KF,<- K4];rw[<- K4] at b0;rw[<- KF] at b1;refine a0c (aR2 s 10 w0 iA (hL.ext mU)) ?_;rintro e w1 ⟨rfl,jN⟩;obtain⟨L,K9⟩:=b9 (gP 10 s);have lG:qo s=match oP L 1 ⟨[],G,V⟩with
   | .error k=>.error (5,k)
   | .ok p=>match p.ask with
    | some (c,n)=>.ok (p.dI,c,n)
    | none=>.error (5,L.length):=by grind [qo]
  have hLf:∀ l∈L,(10:UInt8) ∉ l/\l.length<=s.length:=by grind [adg]
  have hLn:L≠[]:=by grind [aha]
  have hLl:L.length<=1000001:=by grind [UT,a3C]
  rw[<- K9] at jN ⊢;clear K9;have hN:0<L.length:=List.length_pos_iff.2 hLn;obtain⟨cs,jh⟩:=b9 (((BB [10] L).map fun s=>a0u (bs s)).toArray);have ag4:∀ (q:Nat) (x:Bs),L[q]?=O x->cs[q]?=O (aM (if q+1<L.length then x++[10] else x)):=(by grind [ar4]);have dB:Ext w0 w1:=yF;have g1:w1.heap[w0.heap.size]?=aN cs 9:=yH;have s1:w1.heap.size=w.heap.size+3:=yH;clear jN;obtain⟨sb,xp⟩:=b9 w0.heap.size;rw[<- xp] at g1 ⊢;have lsb:=bf g1;obtain⟨Lv,Y2⟩:∃ x,L[L.length-1]?=O x:=⟨_,a0e zo⟩;have gT:=ag4 _ _ Y2;rw[bX zo] at gT;refine⟨fun z w'=>w'=w1/\∃ n c,z 4 = cM sb n c/\((n+1=L.length/\Lv=[]/\0<n)\/(n=L.length/\¬ (Lv=[]/\1<L.length))),?_,?_⟩
  .have eN:(L.length:Int)-1=((L.length-1:Nat):Int):=zo;have YD:((L.length-1:Nat):Int)<(L.length:Int):=zo;have aSh:((L.length-1:Nat):Int)<=(L.length:Int):=zo;refine cG @eN ?_;refine⟨fun z w'=>w'=w1/\z 36 = .bool (decide (Lv=[]/\1<L.length)),?_,?_⟩
   .cases Lv with
    | nil=>
     by_cases D3:1<L.length
     .have pt:((L.length-1:Nat):Int) > 0:=zo;exact zP @g1 gT YD (zA pt (zA D3 @eN))
     .have pt:¬ ((L.length-1:Nat):Int) > 0:=zo;exact zP @g1 gT YD (zA pt (zA D3 @eN))
    | cons x r=>
     have vO:decide (x::r=[])=false:=zs;have UU:¬ bs (x::r)=bs []:=zg;have xr:decide (x::r=[]/\1<L.length)=false:=zs;exact zP @g1 gT YD (zA vO (zA UU (zA @eN xr))) (by intro q01 q11 q21 q31;simp (disch:=first|assumption|omega|simp only[zS]<;>omega|decide) only[zB,simprocAttr,lh,q01,q11,q21,q31];simp)
   .rintro z w2 ⟨rfl,hz⟩ dd;rw[hz];by_cases hc:Lv=[]/\1<L.length
    .rw[decide_eq_true hc];refine dy aSh @eN ?_;refine⟨L.length-1,L.length,?_,zg⟩;grind [aJj]
    .rw[decide_eq_false hc];refine bD ?_;grind
  .rintro z w2 ⟨rfl,n,c,hz,hn⟩ dd;refine cG hz ?_;have dM:=mU.trans dB;obtain⟨w3,rW⟩:=b9 (bO ((w2.alloc (.map #[] 0)).alloc (ae #[.map (O w2.heap.size),aq V,zi 0] 187)) rb (ae #[ptr (w2.heap.size+1)] 108));have b02:=dB.ext _ _ b0;have b12:=dB.ext _ _ b1;have lr2:=bf b02;have le2:=bf b12;refine dy @b02 hz ?_;rw[<- rW];have eI:Ext w w3:=yF;have pr3:w3.heap[rb]?=aN #[ptr (w2.heap.size+1)] 108:=yH;have pe3:w3.heap[eb]?=aN #[ai] 57:=yH;have ps3:w3.heap[sb]?=aN cs 9:=yH;have Y3:w3.heap[w2.heap.size+1]?=O (vJ w2.heap.size (aq V) 0):=yH;have pm3:w3.heap[w2.heap.size]?=O (eJ []):=by rw[rW,jd zo,LZ (by rw[size_alloc];omega)];exact qG J
   have s3:w3.heap.size=w2.heap.size+2:=yH;clear rW;obtain⟨pb,fW⟩:=b9 w2.heap.size;obtain⟨kb,hkb⟩:=b9 (w2.heap.size+1);rw[<- hkb] at pr3 Y3;rw[<- fW] at pm3 Y3;have B1:n<=L.length:=zo;refine⟨fun m z w'=>∃ q p key at_,z 45=zi ((q:Nat):Int)/\q<=n/\m=n-q/\z 6 = aM key/\z 7=at_/\Ext w w'/\UW w' rb eb kb/\w'.heap[sb]?=aN cs 9/\lZ w.heap.size w' kb pb key at_ p/\oP L 1 ⟨[],G,V⟩=oP (L.drop q) (q+1) p/\p.Bd q/\q<L.length,
    ⟨_,0,⟨[],G,V⟩,[],aq V,J,Nat.zero_le _,J,J,J,eI,⟨pr3,pe3⟩,ps3,.zero Y3 pm3,J,⟨zg,zg⟩,hN⟩,?_⟩
   clear pr3 pe3 ps3 Y3 pm3 eI s3 b02 b12 lr2 le2;intro m z3 d3 w4 hI;refine toPr ?_;obtain⟨q,p,key,at_,Eg,hq,rfl,h6,h7,fZ,Lw,uU,Hy,Y4,nE,aZs⟩:=hI;have Y5:=Lw.r;have aZt:=bf Y5;have aZu:=bf Lw.e;have ls4:=bf uU;have yi:((q:Nat):Int).toNat=q:=zo;have yj:∀ {W:Z} {a b:Nat},Ext w4 W->W.heap[b]?=aN #[zi 5,zi ((a:Nat):Int)] 77->qo s = .error (5,a) ->
     LV bak (fun W=>RD bak (a0o 108 (pp rb)) W (fun r1=>RD bak (a0o 57 (pp eb)) W (fun r2=>R (ah (ak #[r1,r2])) W) NX) NX) R
      [{ target:=.fn (.func 66) #[pp rb,pp eb],args:=#[]++#[] }] (.panicking [{ v:=aj 73 (pp b),recovered:=false }]) W:=fun{W a b} hE f G7=>
    aSc hR yF K4 KF (hE.ext _ _ Lw.r) (hE.ext _ _ Lw.e) f G7
   by_cases hqn:q<n
   .have qZ:((q:Nat):Int)<((n:Nat):Int):=zo;have hqL:q<L.length:=zo;obtain⟨r,hr⟩:∃ r,L[q]?=O r:=⟨_,a0e hqL⟩;have Ac:L[q]=r:=zg;have hcq:=ag4 _ _ hr;obtain⟨hrn,hrl⟩:=hLf r (a06 hr);have N2:L.drop q=r::L.drop (q+1):=by grind [a0h]
    refine dC Eg qZ uU (zA hcq (zA @yi hz)) ?_;have hcut:∃ en:Bool,(en=A↔q+1<L.length)/\Calls bak 68 #[aM (if q+1<L.length then r++[10] else r),aM [10]] w4 fun e w'=>e = ah (ak #[aM r,.bool en])/\w'=w4:=by
     by_cases hlt:q+1<L.length
     .rw[zip hlt];refine⟨A,zg,(ar0 _ 10 w4 zg).mono ?_⟩;rintro e w' ⟨rfl,rfl⟩;grind [aR3]
     .rw[bX hlt];refine⟨G,zg,(ar0 _ 10 w4 zo).mono ?_⟩;rintro e w' ⟨rfl,rfl⟩;grind [aR4,Go.Lib.trimSuffix]
    obtain⟨en,N8,hcut⟩:=hcut;refine a0c hcut ?_;rintro e Ej ⟨rfl,rfl⟩;refine bD ?_;refine a0c (aR1 r 32 Ej zo (hL.ext fZ)) ?_;rintro e w5 ⟨rfl,oc⟩;obtain⟨ws,D6⟩:=b9 (gP 32 r);have Cy:∀ l∈ws,l.length<=1000000:=by rw[D6];intro l hl;have:=(adg 32 r l hl).2;omega
    have hwl:ws.length<=65537:=by grind [UT,a3C]
    have hwn:ws≠[]:=by grind [aha]
    rw[<- D6] at oc ⊢;obtain⟨t,wr,rfl⟩:∃ a b,ws=a::b:=by
     cases ws with
     | nil=>grind
     | cons a b=>grind
    have qV:Ext Ej w5:=yF;have g5:w5.heap[Ej.heap.size]?=O (ahc (t::wr)):=yH;clear oc;obtain⟨wb,rB⟩:=b9 Ej.heap.size;rw[<- rB] at g5 ⊢;have lw5:=bf g5;have Ek:((q:Nat):Int)+1=((q+1:Nat):Int):=zo;refine dy Eg @Ek ?_;have aSm:IntKind.i64.wrap (((q:Nat):Int)+1)=((q+1:Nat):Int):=fg @Ek;try rw[List.length_cons]
    try rw[aSm]
    obtain⟨cw,Sn⟩:=b9 (((t::wr).map fun s=>a0u (bs s)).toArray);have BC:cw[0]?=O (aM t):=zg;have asa:∀ q,(hq:q<wr.length)->cw[q+1]?=O (aM (wr[q])):=zg;have tP:w5.heap[wb]?=aN cw 9:=zg;have lX:=fZ.trans qV;have Hz:=Hy.ext qV;have Ji:=qV.ext _ _ Y5;have aZB:=qV.ext _ _ Lw.e;have aZC:=bf Ji;have U:=Hz.code;have xS:kb<w5.heap.size:=by
     cases ha:p.ask with
     | none=>grind
     | some cn=>
      rw[ha] at U;grind
    have aSn:en=A->oB (t::wr) p=V->qo s = .error (5,q+1):=fun he hl=>by
     rw[lG,Y4,N2,ar5 (by
      intro e;have h1:=congrArg List.length e;grind),<- D6,hl]
    have aZD:∀ p',en=A->oB (t::wr) p=O p'->oP L 1 ⟨[],G,V⟩=oP (L.drop (q+1)) (q+1+1) p':=fun p' he hl=>by
     rw[Y4,N2,ar5 (by
      intro e;have h1:=congrArg List.length e;grind),<- D6,hl]
    have aZE:en=G->qo s = .error (5,q+1):=fun he=>by
     have h1:¬ q+1<L.length:=zg;have M:L.drop (q+1)=[]:=zg;have fU:L.length-1=q:=zo;rw[fU,hr] at Y2;injection Y2 with Y2;rcases hn with⟨h3,-⟩| ⟨h3,h4⟩
     .omega
     .rw[lG,Y4,N2,M];show(match (if r=[]/\1<q+1 then a2q p else a3O (q+1)) with
       | a3O k=>a3O (5,k)
       | a2q p=>match p.ask with
        | some (c,n)=>a2q (p.dI,c,n)
        | none=>a3O (5,L.length))=_
      grind
    have CL:∀ {W:Z} {K:Y->Z->Prop} {X:List PanicEntry->Z->Prop},Ext Ej W->(∀ b wy,Ext Ej wy->wy.heap[b]?=aN #[zi 5,zi ((q+1:Nat):Int)] 77->X [{ v:=aj 73 (pp b),recovered:=false }] wy) ->
      Calls bak 70 #[zi ((q+1:Nat):Int)] W (ends K X):=fun{W K X} hE hX=>by
     refine(UN _ W).mono ?_;rintro e wy ⟨Lx,b,rfl,f,-⟩;exact hX b wy yF f
    obtain⟨late,aZF⟩:∃ b:Prop,b=(p.ask≠V/\(t=Ci\/t=Bh\/t=DT)):=⟨_,J⟩;refine⟨fun _ w'=>w'=w5/\en=A/\¬ late,?_,?_⟩
    .refine⟨fun z w'=>w'=w5/\∃ b,z 85 = .bool b/\(b=A->qo s = .error (5,q+1))/\(b=G->en=A/\¬ late),?_,?_⟩
     .cases aSo:en with
      | false=>
       refine bD ?_;grind
      | true=>
       cases ha:p.ask with
       | none=>
        rw[ha] at U;have U:w5.heap[kb]?=O (vJ pb (aq V) 0):=U;refine dy Ji U ?_;grind
       | some cn=>
        rw[ha] at U;obtain⟨ab,-,U⟩:=U;have dZ:p.ask≠none:=zg;by_cases jU:t=Ci
        .subst jU;refine dC Ji U @tP BC ?_;exact⟨A,J,fun _=>aSn aSo (W7 dZ (.inl J)),zg⟩
        .have aZG:¬ bs t=bs [112,114,101,100]:=zg;by_cases sS:t=Bh
         .subst sS;refine dC Ji U @tP BC ?_;exact⟨A,J,(by grind [W7]),zg⟩
         .by_cases qK:t=DT
          .subst qK;refine dC Ji U @tP BC ?_;exact⟨A,J,(by grind [W7]),zg⟩
          .refine dC Ji U @tP (zA BC (zA jU (zA sS qK))) ?_;grind
     .rintro z5 w6 ⟨rfl,b,hzb,iT,Q⟩ dd;rw[hzb];cases b with
      | true=>
       refine dy Eg @Ek ?_;exact CL qV fun b wy Lx f=>yj Lx f (iT J)
      | false=>
       refine bD ?_;grind
    .rintro z5 w6 ⟨rfl,aSq,xE⟩ dd;have zu:Ext w6 w6.drew:=yF;have qX:=qV;have EI:∀ {W:Z} {ahj:Bs} {at':Y} {p':Pv},Jh w.heap.size Ej W->lZ w.heap.size W kb pb ahj at' p'->oB (t::wr) p=O p'->p'.Bd (q+1) ->
       Ext w W/\UW W rb eb kb/\W.heap[sb]?=aN cs 9/\lZ w.heap.size W kb pb ahj at' p'/\oP L 1 ⟨[],G,V⟩=oP (L.drop (q+1)) (q+1+1) p'/\p'.Bd (q+1)/\q+1<L.length:=fun{W ahj at' p'} hF hX om aSr=>
      ⟨⟨hF.os.trans fZ.os,hF.tape.trans fZ.tape,hF.output.trans fZ.output,a0f fZ.size hF.size,fun b o f _=>hF.block _ _ (fZ.ext _ _ f) yH⟩,Lw.bI hF,hF.cells uU zo,hX,zg,aSr,N8.1 aSq⟩
     have He:=hT.ext lX;have uY:=hP.ext lX;refine⟨fun z w'=>w'=w6/\z 90 = .bool (decide (t=Ci/\wr.length=2)),?_,?_⟩
     .by_cases jU:t=Ci
      .by_cases qf:wr.length=2
       .have gy:((wr.length+1:Nat):Int)=3:=zo;have hd:decide (t=Ci/\wr.length=2)=true:=zg;rw[hd];exact zP @tP BC jU gy
       .have gy:¬ ((wr.length+1:Nat):Int)=3:=zo;have hd:decide (t=Ci/\wr.length=2)=false:=zg;rw[hd];exact zP @tP BC jU gy
      .have hd:decide (t=Ci/\wr.length=2)=false:=zg;rw[hd];exact JB @tP BC jU
     .rintro z6 w7 ⟨rfl,aSs⟩ dd6;rw[aSs];by_cases sY:t=Ci/\wr.length=2
      .rw[decide_eq_true sY];obtain⟨jU,qf⟩:=sY;obtain⟨a,b,rfl⟩:∃ a b,wr=[a,b]:=by
        match wr,qf with
        | [a,b],_=>grind
       subst jU;have xD:p.ask=none:=zg;have om:=aIm (a:=a) (b:=b) xD;have js:cw[1]?=O (aM a):=zg;have rj:cw[2]?=O (aM b):=asa 1 zs;refine bD ?_;refine⟨fun w'=>Ext w7 w',zu,?_⟩;refine cQ (pq wb 1) (fun w' d=>by have h9:=d.ext _ _ tP;have:=bf h9;exact fg h9) ?_;refine cQ (aM a) (fun w' d=>by have h9:=d.ext _ _ tP;have:=bf h9;exact lT h9 js) ?_;refine cQ (pq wb 2) (fun w' d=>by have h9:=d.ext _ _ tP;have:=bf h9;exact fg h9) ?_;refine cQ (aM b) (fun w' d=>by have h9:=d.ext _ _ tP;have:=bf h9;exact lT h9 rj) ?_;refine a0c (ag1 a _ w7.drew (Cy a zs)) ?_;rintro e w8 ⟨sI,my⟩;have vH:=zu.trans sI;cases UY:pD a with
       | none=>
        rw[UY] at my om;obtain⟨b',rfl,M,h3⟩:=my;exact fun _=>yj yF M zg
       | some nm=>
        rw[UY] at my;subst my;refine⟨vH,?_⟩;refine a0c (N5 b 64 _ w8 (Cy b zs) zo (He.ext vH) (uY.ext vH)) ?_;rintro e w9 ⟨kK,gL⟩;have sJ:=vH.trans kK;cases lW:kh b 64 with
        | none=>
         rw[lW] at gL;rw[UY,lW] at om;obtain⟨b',rfl,M,h3⟩:=gL;exact fun _=>yj yF M zg
        | some ar=>
         rw[lW] at gL;subst gL;rw[UY,lW] at om;have kT:=Cg lW;have aSt:nm.length<=100:=by
          have:=(SL UY).2.1;grind [SL]
         refine a0c (afq nm ar aSt zo w9) ?_;rintro e B ⟨rfl,rfl⟩;have AL:=Hz.ext sJ;obtain⟨l,NS,aSu⟩:=AL.close;have N9:B.heap[kb]?=O (vJ pb (aq V) 0):=by
          have:=AL.code;rw[xD] at this;exact this
         have UZ:=sJ.ext _ _ Ji;have aZI:=bf N9;have aZJ:=bf NS;have Qp:=aSu.find (name:=nm) (n:=ar) zo (j:=0);refine⟨fun _ w'=>w'=B/\fH (P.keyOf nm ar) l 0=V,?_,?_⟩
         .refine dy UZ N9 ?_;rw[KV (k:=9) (e:=192) (z:=bH) zk zk zk NS (P.keyOf nm ar) A];cases hf:fH (P.keyOf nm ar) l 0 with
          | none=>simp (disch:=first|assumption|omega|simp only[zS]<;>omega|decide) only[zB,simprocAttr,lh]
          | some kv=>
           obtain⟨k,v⟩:=kv;rw[hf] at Qp;obtain⟨p0,oJ,-⟩:=Qp;refine bD ?_;have aSv:p.dI.any (fun q=>q.name == nm && q.arity == ar)=true:=by
            grind
           exact CL yF fun b' wy Lx f=>yj Lx f zg
         .rintro z7 I ⟨rfl,hf⟩ d7;rw[hf] at Qp;have aSv:p.dI.any (fun q=>q.name == nm && q.arity == ar)=false:=by
           cases han:p.dI.any (fun q=>q.name == nm && q.arity == ar) with
           | false=>rfl
           | true=>
            obtain⟨p0,h1,M⟩:=List.any_eq_true.1 han;grind
          refine dy UZ N9 ?_;rw[aSb (size:=1) zk (fun w=>FW zk w)];obtain⟨pK,ahk⟩:=b9 (I.alloc (ae #[] 185));rw[<- ahk];have sH:Ext I pK:=by rw[ahk];exact(bz.refl _ _).alloc _
          have g12:pK.heap[I.heap.size]?=aN #[] 185:=yH;clear ahk;have Ys:=sH.ext _ _ NS;have aZK:=bf Ys;rw[aK6 (k:=9) (e:=192) (z:=bH) zk zk zk Ys (P.keyOf nm ar) hf];obtain⟨C,y⟩:=b9 (bO pK pb (eJ (l++[(P.keyOf nm ar,bH)])));rw[<- y];have QA:C.heap[pb]?=O (eJ (l++[(P.keyOf nm ar,bH)])):=yH;refine bD ?_;rw[aK7 (s:=P.keyOf nm ar) (u:=bH) QA zg];have Cc:(l++[(P.keyOf nm ar,a0m V 0 0)]).set l.length (P.keyOf nm ar,cM I.heap.size 0 0)=l++[(P.keyOf nm ar,cM I.heap.size 0 0)]:=by
           rw[a3o _ _ (a0d _)];simp
          rw[Cc];have aZL:=bf QA;obtain⟨I1,Y6⟩:=b9 (bO C pb (eJ (l++[(P.keyOf nm ar,cM I.heap.size 0 0)])));rw[<- Y6];have QR:bz (fun b _=>b=pb) I I1:=by
           rw[Y6,y];exact ahd (ahd yF yH _) yH _
          have aSx:I1.heap[I.heap.size]?=aN #[] 185:=by rw[Y6,jd zo,y,jd zo];omega
          have aSy:I1.heap[pb]?=O (eJ (l++[(P.keyOf nm ar,cM I.heap.size 0 0)])):=yH;have aSz:=AL.aR6 xD zo NS hf QR aSx zo zo aSy;have CS:Jh w.heap.size Ej I1:=by
           refine⟨QR.os.trans (qX.trans sJ).os,QR.tape.trans (qX.trans sJ).tape,QR.output.trans (qX.trans sJ).output,a0f (qX.trans sJ).size QR.size,fun b o f hn=>QR.block _ _ ((qX.trans sJ).ext _ _ f) fun e=>hn ?_⟩;have Q:=(qX.trans sJ).ext _ _ f;rw[e,NS] at Q;injection Q with Q;exact⟨zo,.inl ⟨_,_,Q.symm⟩⟩
          clear Y6 y;have ahl:oB [Ci,a,b] p=O ⟨p.dI++[⟨nm,ar,[]⟩],G,V⟩:=zg;have U0:Pv.Bd (q+1) ⟨p.dI++[⟨nm,ar,[]⟩],G,V⟩:=by
           refine⟨fun x hx=>?_,zg⟩;rcases a0q.1 hx with hx | hx
           .exact(nE.mono zo).1 x hx
           .rw[a0x] at hx;subst hx;exact⟨Nat.zero_le _,zg⟩
          refine dy Eg @Ek ?_;exact⟨_,zo,q+1,_,_,_,J,zo,J,J,J,EI CS aSz ahl U0⟩
      .rw[decide_eq_false sY];refine bD ?_;refine⟨fun z w'=>w'=w7/\z 131 = .bool (decide (t=Bh/\wr.length=1/\key≠[])),?_,?_⟩
       .by_cases jU:t=Bh
        .by_cases qf:wr.length=1
         .have gy:((wr.length+1:Nat):Int)=2:=zo;by_cases hky:key=[]
          .have hd:decide (t=Bh/\wr.length=1/\key≠[])=false:=zg;rw[hd];exact zP @tP BC jU (zA gy (zA h6 hky))
          .have hd:decide (t=Bh/\wr.length=1/\key≠[])=true:=zg;have aSA:¬ bs key=bs []:=zg;rw[hd];exact zP @tP BC jU (zA gy (zA h6 (zA hky aSA)))
         .have gy:¬ ((wr.length+1:Nat):Int)=2:=zo;have hd:decide (t=Bh/\wr.length=1/\key≠[])=false:=zg;rw[hd];exact zP @tP BC jU gy
        .have hd:decide (t=Bh/\wr.length=1/\key≠[])=false:=zg;rw[hd];exact JB @tP BC jU
       .rintro z7 w8 ⟨rfl,aSB⟩ dd7;rw[aSB];by_cases gT:t=Bh/\wr.length=1/\key≠[]
        .rw[decide_eq_true gT];obtain⟨jU,qf,hky⟩:=gT;obtain⟨a,rfl⟩:∃ a,wr=[a]:=by
          match wr,qf with
          | [a],_=>grind
         subst jU;have xD:p.ask=none:=zg;have js:cw[1]?=O (aM a):=zg;refine dy @tP js ?_;refine a0c (N5 a 65 _ w8 zg zo He uY) ?_;rintro e w9 ⟨kK,gL⟩;have asc:p.dI≠[]:=(by grind [lZ.ar6]);have om:=aIn (a:=a) xD asc;cases nL:kh a 65 with
         | none=>
          rw[nL] at gL om;obtain⟨b',rfl,M,h3⟩:=gL;exact yj yF M zg
         | some slots=>
          rw[nL] at gL om;subst gL;have hX9:=Hz.ext kK;have aZM:w9.heap[kb]?=O (vJ pb (aq V) 0):=by
           have:=hX9.code;rw[xD] at this;exact this
          have Oa:=qX.trans kK;have hs9:=(fZ.trans Oa).size;have aZN:=kK.ext _ _ Ji;obtain⟨l,v,cbs,pl,S,D,YP,ON,hm9,hu,eO,jY,aZO,wu⟩:=hX9.aR7 hs9 xD asc;obtain⟨va,vc,rfl⟩:=gX eO;have hfa:fH key (l++[(key,a0m va S.clauses.length vc)]) 0=O (0+l.length,.slice va S.clauses.length vc):=by rw[XT,hu];simp
          have aZP:S.clauses.length<=q:=(nE.1 S zg).1;rw[h6];refine bD ?_;obtain⟨B,Ob⟩:=b9 (w9.alloc (ae (Value.agg #[zi (slots:Int),bH]).cells 196 (0,0)));rw[<- Ob];have FC:Ext w9 B:=by rw[Ob];exact(bz.refl _ _).alloc _
          have g10:B.heap[w9.heap.size]?=aN #[zi (slots:Int),bH] 196:=by rw[Ob];exact qG J
          clear Ob;have asf:Ext w9 B.drew:=yF;have hSk:∀ {w':Z},Ext w9 w'->w'.heap[rb]?=aN #[ptr kb] 108/\w'.heap[kb]?=O (vJ pb (aq V) 0)/\w'.heap[pb]?=O (eJ (l++[(key,.slice va S.clauses.length vc)])):=(by grind [bz.ext]);refine⟨fun w'=>w'.heap[rb]?=aN #[ptr kb] 108/\w'.heap[kb]?=O (vJ pb (aq V) 0)/\w'.heap[pb]?=O (eJ (l++[(key,.slice va S.clauses.length vc)])),hSk asf,?_⟩;refine cQ (ptr kb) (fun w' d=>by have:=bf d.1;exact fg @d.1) ?_;refine cQ (ptr kb) (fun w' d=>by have:=bf d.2.1;exact fg @d.2.1) ?_;refine cQ (.map (O pb)) (fun w' d=>by have:=bf d.2.1;exact fg @d.2.1) ?_;refine cQ (ptr kb) (fun w' d=>by have:=bf d.1;exact fg @d.1) ?_;refine cQ (ptr kb) (fun w' d=>by have:=bf d.2.1;exact fg @d.2.1) ?_;refine cQ (.map (O pb)) (fun w' d=>by have:=bf d.2.1;exact fg @d.2.1) ?_;refine cQ (.slice va S.clauses.length vc) (fun w' d=>by rw[KV (k:=9) (e:=192) (z:=bH) zk zk zk d.2.2 key G,hfa];rfl) ?_;refine bD ?_;obtain⟨I,zx⟩:=b9 (B.drew.alloc (ae #[pp w9.heap.size] 185));have zm:Ext B.drew I:=by rw[zx];exact(bz.refl _ _).alloc _
          have g11:I.heap[B.drew.heap.size]?=aN #[pp w9.heap.size] 185:=yH;rw[<- zx];have E:=asf.trans zm;have aSE:I.heap[B.heap.size]?=aN #[pp w9.heap.size] 185:=g11;clear zx;have U1:=hSk E;have zy:=jM E.ext eO;have aSF:I.heap[w9.heap.size]?=aN #[zi (slots:Int),bH] 196:=zm.ext _ _ ((bz.drew (bz.refl (fun _ _=>False) B)).block _ _ g10 zg);have ash:=E.size;refine⟨U1,?_⟩;refine arn (base:=pl) zy aSE zo zo fun v' pK ho N hv=>?_;obtain⟨El,Em,rfl⟩:=gX ho;have Y7:pK.heap[pb]?=O (eJ (l++[(key,.slice va S.clauses.length vc)])):=by
           rw[N.block _ (bf U1.2.2) (fun e=>?_)]
           .grind
           .obtain⟨-,-,cs',h1⟩:=Ef zy e.symm;rw[U1.2.2] at h1;cases h1
          refine⟨⟨FK zy N zo U1.1,FK zy N zo U1.2.1,Y7⟩,?_⟩;rw[aoA (k:=9) (e:=192) zk zk Y7 key hfa];have Cc:(l++[(key,a0m va S.clauses.length vc)]).set (0+l.length) (key,.slice El (S.clauses.length+1) Em)=l++[(key,.slice El (S.clauses.length+1) Em)]:=by
           rw[Nat.zero_add,a3o _ _ (a0d _)];simp
          rw[Cc];have aSG:=bf Y7;obtain⟨C,y⟩:=b9 (bO pK pb (eJ (l++[(key,.slice El (S.clauses.length+1) Em)])));rw[<- y];have QA:C.heap[pb]?=O (eJ (l++[(key,.slice El (S.clauses.length+1) Em)])):=by rw[y];exact pX J aSG
          have Ly:∀ {b T:Nat} {cs':Array Y},pK.heap[b]?=aN cs' T->C.heap[b]?=aN cs' T:=fun{b T cs'} f=>by
           rw[y,jd (fun e=>by rw[e,Y7] at f;cases f)];omega
          have kq:bz (fun b o=>b=pb\/(pl<=b/\∃ cs,o = ae cs 185 (0,0))) w9 C:=by
           refine⟨?_,?_,?_,?_,fun b o f Ae=>?_⟩
           .rw[y];exact N.os.trans E.os
           .rw[y];exact N.tape.trans E.tape
           .rw[y];exact N.output.trans E.output
           .rw[y,uN];exact a0f E.size N.size
           .have dZ:b≠pb:=zo;rw[y,jd dZ,N.block b (bf (E.ext _ _ f)) (fun e=>?_)]
            .exact E.ext _ _ f
            .obtain⟨h1,-,cs',M⟩:=Ef zy e.symm;rw[E.ext _ _ f] at M;injection M with M;exact Ae (.inr ⟨h1,cs',M⟩)
          have aSH:∃ b,(a0m El (S.clauses.length+1) Em).ownBlock=O b:=by
           rcases ho.2 with⟨-,h0⟩| ⟨g,cap,cur,h1,-⟩
           .omega
           .rw[h1];exact⟨g,J⟩
          have U2:C.ownsRow pl 185 1 (.slice El (S.clauses.length+1) Em) (S.clauses.length+1) (Jg cbs++[ptr w9.heap.size]):=FJ ho fun b cs' _ f=>Ly f;have Oc:=wu C _ w9.heap.size slots kq QA U2 aSH (Ly (FK zy N zo aSF)) zo;have CS:Jh w.heap.size Ej C:=by
           refine⟨kq.os.trans Oa.os,kq.tape.trans Oa.tape,kq.output.trans Oa.output,a0f Oa.size kq.size,fun b o f Ae=>kq.block _ _ (Oa.ext _ _ f) ?_⟩;have Q:=Oa.ext _ _ f;rintro (e | ⟨h1,cs',M⟩)
           .rw[e,hm9] at Q;injection Q with Q;exact Ae ⟨zo,.inl ⟨_,_,Q.symm⟩⟩
           .exact Ae ⟨zo,.inr ⟨cs',_,M,zg⟩⟩
          have ahl:oB [Bh,a] p=O ⟨D++[⟨S.name,S.arity,S.clauses++[⟨slots,[]⟩]⟩],A,V⟩:=by
           rw[om,xD,YP];simp only[am1]
          have U0:Pv.Bd (q+1) ⟨D++[⟨S.name,S.arity,S.clauses++[⟨slots,[]⟩]⟩],A,V⟩:=by
           have h0:=(nE.mono (Nat.le_succ q)).1;rw[YP] at h0;refine⟨fun x hx=>?_,fun c n h=>(by cases h)⟩;rcases a0q.1 hx with hx | hx
           .exact h0 x (List.mem_append_left _ hx)
           .rw[a0x] at hx;subst hx;refine⟨by simp;omega,fun c hc=>?_⟩;rcases a0q.1 hc with hc | hc
            .exact(h0 S zs).2 c hc
            .rw[a0x] at hc;subst hc;have:=Cg nL;grind
          clear y;refine dy Eg @Ek ?_;exact⟨_,zo,q+1,_,_,_,J,zo,J,J,J,EI CS Oc ahl U0⟩
        .rw[decide_eq_false gT];refine bD ?_;refine⟨fun z w'=>w'=w8/\z 166 = .bool (decide (t=DT/\wr.length=2)),?_,?_⟩
         .by_cases jU:t=DT
          .by_cases qf:wr.length=2
           .have gy:((wr.length+1:Nat):Int)=3:=zo;have hd:decide (t=DT/\wr.length=2)=true:=zg;rw[hd];exact zP @tP BC jU gy
           .have gy:¬ ((wr.length+1:Nat):Int)=3:=zo;have hd:decide (t=DT/\wr.length=2)=false:=zg;rw[hd];exact zP @tP BC jU gy
          .have hd:decide (t=DT/\wr.length=2)=false:=zg;rw[hd];exact JB @tP BC jU
         .rintro z8 w9 ⟨rfl,aSJ⟩ dd8;rw[aSJ];by_cases Y8:t=DT/\wr.length=2
          .rw[decide_eq_true Y8];obtain⟨jU,qf⟩:=Y8;obtain⟨a,b,rfl⟩:∃ a b,wr=[a,b]:=by
            match wr,qf with
            | [a,b],_=>grind
           subst jU;have xD:p.ask=none:=zg;have js:cw[1]?=O (aM a):=zg;have rj:cw[2]?=O (aM b):=asa 1 zs;refine dy @tP js ?_;refine a0c (N5 a 65 _ w9 (Cy a zs) zo He uY) ?_;rintro e B ⟨FC,gL⟩;have om:=am2 (a:=a) (b:=b) xD;cases nL:kh a 65 with
           | none=>
            rw[nL] at gL om;obtain⟨b',rfl,M,h3⟩:=gL;exact yj yF M zg
           | some slots=>
            rw[nL] at gL om;subst gL;refine bD ?_;have AL:=Hz.ext FC;have N9:B.heap[kb]?=O (vJ pb (aq V) 0):=by
             have:=AL.code;rw[xD] at this;exact this
            have Od:=qX.trans FC;have aSK:=(fZ.trans Od).size;have UZ:=FC.ext _ _ Ji;have Ob:=FC.ext _ _ tP;obtain⟨I,zx⟩:=b9 (B.alloc (ae (Value.agg #[zi (slots:Int),bH]).cells 196 (0,0)));rw[<- zx];have zm:Ext B I:=by rw[zx];exact(bz.refl _ _).alloc _
            have g11:I.heap[B.heap.size]?=aN #[zi (slots:Int),bH] 196:=by rw[zx];exact qG J
            clear zx;have U3:Ext I I.drew:=bz.drew yF;refine⟨fun w'=>w'.heap[rb]?=aN #[ptr kb] 108/\w'.heap[wb]?=aN cw 9/\w'.heap[B.heap.size]?=aN #[zi (slots:Int),bH] 196,⟨(zm.trans U3).ext _ _ UZ,(zm.trans U3).ext _ _ Ob,yH⟩,?_⟩;refine cQ (ptr kb) (fun w' d=>by have:=bf d.1;exact fg @d.1) ?_;refine cQ (ptr kb) (fun w' d=>by have:=bf d.1;exact fg @d.1) ?_;refine cQ (pq wb 2) (fun w' d=>by have:=bf d.2.1;exact fg @d.2.1) ?_;refine cQ (aM b) (fun w' d=>by have:=bf d.2.1;exact lT @d.2.1 rj) ?_;refine cQ (pp B.heap.size) (fun w' d=>by have:=bf d.2.2;exact fg @d.2.2) ?_;refine cQ (zi (slots:Int)) (fun w' d=>by have:=bf d.2.2;exact fg @d.2.2) ?_;have aZR:=Cg nL;have es1:(slots:Int)+1=((slots+1:Nat):Int):=zo;refine cQ (zi ((slots+1:Nat):Int)) (fun w' d=>fg @es1) ?_;have KG:=FC.trans (zm.trans U3);refine a0c (N5 b (slots+1) _ I.drew (Cy b zs) zo (He.ext KG) (uY.ext KG)) ?_;rintro e pK ⟨sH,Y9⟩;have ahn:=(zm.trans U3).trans sH;cases lW:kh b (slots+1) with
            | none=>
             rw[lW] at Y9;simp only[lW] at om;obtain⟨b',rfl,M,h3⟩:=Y9;exact fun _=>yj yF M zg
            | some told=>
             rw[lW] at Y9;subst Y9;simp only[lW] at om;have aSM:=ahn.ext _ _ UZ;have Lr:=ahn.ext _ _ N9;have aZS:=(U3.trans sH).ext _ _ g11;have aZT:=bf Lr;refine⟨(by grind [bz.ext]),?_⟩;refine cG Lr ?_;have aZU:=bf Ob;have lkk:=bf N9;have mi:wb≠kb:=zg;refine⟨⟨aSM,by rw[jd mi];grind [bz.ext],yH⟩,?_⟩;obtain⟨C,y⟩:=b9 (bO pK kb (vJ pb (ptr B.heap.size) (told:Int)));have vd:bz (fun b _=>b=kb) B C:=by
              rw[y];exact ahd (yF) yH _
             have aSN:C.heap[kb]?=O (vJ pb (ptr B.heap.size) (told:Int)):=yH;have aSO:C.heap[B.heap.size]?=aN #[zi (slots:Int),bH] 196:=yH;have Oc:=AL.aR9 aSK vd aSN aSO zo zg;have CS:Jh w.heap.size Ej C:=by
              refine⟨vd.os.trans Od.os,vd.tape.trans Od.tape,vd.output.trans Od.output,yH,fun b o f Ae=>vd.block _ _ (Od.ext _ _ f) fun e=>Ae ?_⟩;have Q:=Od.ext _ _ f;rw[e,N9] at Q;injection Q with Q;exact⟨zo,.inr ⟨_,_,Q.symm,.inl J⟩⟩
             have U0:Pv.Bd (q+1) ⟨p.dI,A,O (⟨slots,[]⟩,told)⟩:=⟨(nE.mono zo).1,zg⟩;subst y;refine dy Eg @Ek ?_;obtain⟨k1,k2,-,k4,k5,k6⟩:=EI CS Oc om U0;exact⟨_,zo,q+1,_,_,_,J,zo,J,h6,J,k1,k2,(Od.trans ahn).ext _ _ uU,k4,k5,k6⟩
          .rw[decide_eq_false Y8];have om:=aIo (w0:=t) (r:=wr) (p:=p) zg sY (by grind [lZ.ar6]) Y8;by_cases xJ:at_ = aq V
           .rw[Hz.aSd xJ] at om;refine dy h7 xJ ?_;exact CL qX fun b wy Lx f=>yj Lx f zg
           .obtain⟨ab,ol,insv,vs,c,rfl,AX,hO,oE,eX,wu⟩:=Hz.aSa xJ;rw[AX] at om;have QS:=hO.cell;have lab:=bf QS;obtain⟨sZ,aZX⟩:=nE.cur AX;obtain⟨ia,ic,rfl⟩:=gX hO.row;refine cG h7 ?_;rw[h7];refine⟨fun w'=>w'.heap[ab]?=aN #[zi (c.slots:Int),.slice ia c.ins.length ic] 196,yH,?_⟩;refine cQ (pq ab 1) (fun w' d=>by have:=bf d;exact fg d) ?_;refine cQ (.slice ia c.ins.length ic) (fun w' d=>by have:=bf d;exact fg d) ?_;refine a0c (aRD (w:=w9.drew) (wb:=wb) (cb:=ab) (wd:=t) (ws:=wr) (slots:=c.slots) (insv:=.slice ia c.ins.length ic) (k:=((q+1:Nat):Int)) (yH) yH zo zg Cy (He.ext zu) (uY.ext zu)) ?_;rintro e B hi;obtain⟨FC,hi⟩:=hi;have ahq:=zu.trans FC;cases zj:vl c.slots (t::wr) with
            | none=>
             rw[zj] at hi;simp only[zj] at om;obtain⟨b',rfl,M,h3⟩:=hi;exact fun _=>yj yF M zg
            | some i=>
             rw[zj] at hi;simp only[zj] at om;obtain⟨cv,sv,rfl,lD,dR⟩:=hi;obtain⟨sa,sc,rfl⟩:=gX dR;have aSP:=ahq.ext _ _ QS;refine⟨aSP,?_⟩;have jb:=lD.cases;rcases jb with rfl | ⟨t1,u1,rfl⟩
             .refine bD ?_;obtain⟨I,zx⟩:=b9 (B.alloc (ae #[aM i.word,aM i.name,ai,.slice sa i.s.length sc] 198));have zm:Ext B I:=by rw[zx];exact(bz.refl _ _).alloc _
              have g11:I.heap[B.heap.size]?=O (ae [a0u (bs i.word),aM i.name,ai,.slice sa i.s.length sc].toArray 198 (0,0)):=yH;rw[<- zx];clear zx;have E:=ahq.trans zm;have U4:=E.ext _ _ QS;have zy:=jM E.ext hO.row;have ash:=E.size;refine⟨U4,?_⟩;refine afS (base:=ol) zy g11 J (by
               intro u hu;simp only[List.mem_cons,List.not_mem_nil,or_false] at hu;rcases hu with rfl | rfl | rfl | rfl<;>rfl) zo zo fun v' pK ho N hv=>?_
              obtain⟨El,Em,rfl⟩:=gX ho;have Oe:=FK zy N zd U4;have aSQ:=bf Oe;refine⟨Oe,?_⟩;refine cG Oe ?_;obtain⟨C,y⟩:=b9 (bO pK ab (ae #[zi (c.slots:Int),.slice El (c.ins.length+1) Em] 196));have ahr:C.heap[ab]?=aN #[zi (c.slots:Int),.slice El (c.ins.length+1) Em] 196:=yH;have Ly:∀ {b:Nat} {cs':Array Y} {T:Nat},T≠196->pK.heap[b]?=aN cs' T->C.heap[b]?=aN cs' T:=yH;have kq:bz (fun b o=>b=ab\/(ol<=b/\∃ cs,o = ae cs 198 (0,0))) w9 C:=by
               refine⟨?_,?_,?_,?_,fun b o f Ae=>?_⟩
               .rw[y];exact N.os.trans E.os
               .rw[y];exact N.tape.trans E.tape
               .rw[y];exact N.output.trans E.output
               .rw[y,uN];exact a0f E.size N.size
               .have dZ:b≠ab:=zo;rw[y,jd dZ,N.block b (bf (E.ext _ _ f)) (fun e=>?_)]
                .grind [bz.ext]
                .obtain⟨h1,-,cs',M⟩:=Ef zy e.symm;grind [bz.ext]
              have U2:=FJ ho fun b cs' _ f=>Ly zd f;have hsi:vI C [a0u (bs i.word),aM i.name,ai,.slice sa i.s.length sc] [i]:=by
               refine⟨ai,.slice sa i.s.length sc,[],J,lD,(EC dR (F:=fun _=>True) zg).mono zg fun b cs' _ f=>?_,J⟩;exact Ly zo (FK zy N zo (zm.ext _ _ f))
              have Oc:=wu C _ _ i kq ahr U2 hsi;have CS:Jh w.heap.size Ej C:=by
               refine⟨kq.os.trans qX.os,kq.tape.trans qX.tape,kq.output.trans qX.output,a0f qX.size kq.size,fun b o f Ae=>kq.block _ _ (qX.ext _ _ f) ?_⟩;have Q:=qX.ext _ _ f;rintro (e | ⟨h1,cs',M⟩)
               .rw[e,QS] at Q;injection Q with Q;have:=hO.low;grind
               grind
              obtain⟨k1,k2,k3,k4,k5,k6⟩:=EI CS Oc om (nE.add i);subst y;refine dy Eg @Ek ?_;exact⟨_,zo,q+1,_,_,_,J,zo,J,h6,J,k1,k2,k3,k4,k5,k6⟩
             .refine bD ?_;obtain⟨I,zx⟩:=b9 (B.alloc (ae #[aM i.word,aM i.name,aj t1 u1,.slice sa i.s.length sc] 198));have zm:Ext B I:=by rw[zx];exact(bz.refl _ _).alloc _
              have g11:I.heap[B.heap.size]?=O (ae [a0u (bs i.word),aM i.name,aj t1 u1,.slice sa i.s.length sc].toArray 198 (0,0)):=yH;rw[<- zx];clear zx;have E:=ahq.trans zm;have U4:=E.ext _ _ QS;have zy:=jM E.ext hO.row;have ash:=E.size;refine⟨U4,?_⟩;refine afS (base:=ol) zy g11 J (by
               intro u hu;simp only[List.mem_cons,List.not_mem_nil,or_false] at hu;rcases hu with rfl | rfl | rfl | rfl<;>rfl) zo zo fun v' pK ho N hv=>?_
              obtain⟨El,Em,rfl⟩:=gX ho;have Oe:=FK zy N zd U4;have aSQ:=bf Oe;refine⟨Oe,?_⟩;refine cG Oe ?_;obtain⟨C,y⟩:=b9 (bO pK ab (ae #[zi (c.slots:Int),.slice El (c.ins.length+1) Em] 196));have ahr:C.heap[ab]?=aN #[zi (c.slots:Int),.slice El (c.ins.length+1) Em] 196:=yH;have Ly:∀ {b:Nat} {cs':Array Y} {T:Nat},T≠196->pK.heap[b]?=aN cs' T->C.heap[b]?=aN cs' T:=yH;have kq:bz (fun b o=>b=ab\/(ol<=b/\∃ cs,o = ae cs 198 (0,0))) w9 C:=by
               refine⟨?_,?_,?_,?_,fun b o f Ae=>?_⟩
               .rw[y];exact N.os.trans E.os
               .rw[y];exact N.tape.trans E.tape
               .rw[y];exact N.output.trans E.output
               .rw[y,uN];exact a0f E.size N.size
               .have dZ:b≠ab:=zo;rw[y,jd dZ,N.block b (bf (E.ext _ _ f)) (fun e=>?_)]
                .grind [bz.ext]
                .obtain⟨h1,-,cs',M⟩:=Ef zy e.symm;grind [bz.ext]
              have U2:=FJ ho fun b cs' _ f=>Ly zd f;have hsi:vI C [a0u (bs i.word),aM i.name,aj t1 u1,.slice sa i.s.length sc] [i]:=by
               refine⟨aj t1 u1,.slice sa i.s.length sc,[],J,lD,(EC dR (F:=fun _=>True) zg).mono zg fun b cs' _ f=>?_,J⟩;exact Ly zo (FK zy N zo (zm.ext _ _ f))
              have Oc:=wu C _ _ i kq ahr U2 hsi;have CS:Jh w.heap.size Ej C:=by
               refine⟨kq.os.trans qX.os,kq.tape.trans qX.tape,kq.output.trans qX.output,a0f qX.size kq.size,fun b o f Ae=>kq.block _ _ (qX.ext _ _ f) ?_⟩;have Q:=qX.ext _ _ f;rintro (e | ⟨h1,cs',M⟩)
               .rw[e,QS] at Q;injection Q with Q;have:=hO.low;grind
               grind
              obtain⟨k1,k2,k3,k4,k5,k6⟩:=EI CS Oc om (nE.add i);subst y;refine dy Eg @Ek ?_;exact⟨_,zo,q+1,_,_,_,J,zo,J,h6,J,k1,k2,k3,k4,k5,k6⟩
   .have D9:q=n:=zo;subst D9;have qZ:¬ ((q:Nat):Int)<((q:Nat):Int):=zo;have C2:q+1=L.length/\Lv=[]/\0<q:=by
     grind
    have dA:L.drop q=[Lv]:=by
     grind [a0h,List.drop_of_length_le,a0e]
    have aSR:oP L 1 ⟨[],G,V⟩ = .ok p:=by
     rw[Y4,dA];show(if Lv=[]/\1<q+1 then a2q p else a3O (q+1))=_;grind
    have U:=Hy.code;rw[aSR] at lG;refine dy Eg qZ ?_;cases ha:p.ask with
    | none=>
     rw[ha] at U;have lG:qo s = .error (5,L.length):=zg;have U:w4.heap[kb]?=O (vJ pb (aq V) 0):=U;have Ek:((q:Nat):Int)+1=(L.length:Int):=zo;refine⟨fun _ _=>False,?_,fun _ _ h=>h.elim⟩;refine dC Y5 U hz @Ek ?_;refine(UN _ w4).mono ?_;rintro e wy ⟨Lx,b,rfl,f,-⟩;exact yj Lx f lG
    | some cn=>
     obtain⟨c0,n0⟩:=cn;rw[ha] at U;have lG:qo s = .ok (p.dI,c0,n0):=zg;obtain⟨ab,xJ,U⟩:=U;have lkb:=bf U;have hR0:=Lw.r;have hEe:=Lw.e;obtain⟨KC,hC,hA⟩:=Hy.done ha;have oy:=hC.1;refine⟨fun _ w'=>w'=w4,?_,?_⟩
     .exact lT Y5 U
     .rintro z5 w5 rfl dd5;refine dy hR0 hEe ?_;have Ac:rb≠eb:=zo;obtain⟨w6,oQ⟩:=b9 (bO (bO w5 rb (ae #[ptr kb] 108)) eb (ae #[ai] 57));have asl:∀ (b:Nat) (o:Obj),w5.heap[b]?=O o->w6.heap[b]?=O o:=yH;have jX:Ext w w6:=yF;have r6:=asl _ _ hR0;have e6:=asl _ _ hEe;rw[<- oQ];clear oQ;refine arV ?_;refine dy @r6 @e6 ?_;refine hR _ _ ⟨jX,?_⟩;rw[lG];exact⟨kb,pb,KC,J,hC.bI (fun b cs T _ f=>yH) yH,hA.bI fun b cs T _ f=>yH⟩
def P.aST{c:Co}(g:y6 c)(ht:told<=c.slots):gD (0*1000000) { Iw c with sr:={ (Iw c).sr with fuel:=0 } }/\jG told (Iw c)/\∃ x,(Iw c).fs[(Iw c).f]?=O x/\x.ask=true:=by
 have e:∀ (i:Nat) (x:Fm),(Iw c).fs[i]?=O x->x=⟨c,a0P c.slots .nil,0,V,0,A⟩:=fun i x hx=>by
  have:x∈[(⟨c,a0P c.slots .nil,0,V,0,A⟩:Fm)]:=a06 hx;grind
 have hr:∀ y∈a0P c.slots Sl.nil,y = .nil:=zg;refine⟨⟨by show 0<1;omega,fun i x hx=>?_,(fun i a h=>by cases h),(fun i a h=>by cases h),(fun i j a b _ h=>by cases h),(by rw[Nat.zero_mul];exact a0d 0),(by rw[Nat.zero_mul];exact a0d 0),Nat.zero_le _,fun i x hx=>?_,fun i a h=>by cases h⟩,
  ⟨trivial,fun i x hx=>?_,(fun i a h=>by cases h),⟨trivial,trivial⟩,fun i x hx _=>?_⟩,_,J,J⟩
 .rw[e i x hx];exact⟨g,zs,fun y d=>by rw[hr y d];trivial,zg⟩
 .grind
 .rw[e i x hx];exact fun y d=>by rw[hr y d];trivial
 grind
structure aSU(w w':Z)(qb:Nat)(ps:List Pd)(c:Co)(n vb kb ab pb:Nat):Prop where
 cell:w'.heap[qb]?=aN (XX (Qt ps n vb kb ab pb) bH V) 121
 I3:w.heap.size<=vb
 ne:qb≠vb
 mem:∃ w2,Ext w w2/\Ext w2 w'/\w2.heap.size<=qb/\∀ (D:Nat->Prop) (ρ:Nat->Nat),(∀ b,w.heap.size<=b->D b)->(Qt ps n vb kb ab pb).Mem D ρ w2 (Iw c)
def aht(t:Bs)(w:Z)(e:Ending)(w':Z):Prop:=Ext w w'/\match qo t with
 | .error (c,a)=>∃ b,e = ah (ak #[aq V,aj 73 (ptr b)])/\w'.heap[b]?=O (ae #[.int .i64 (c:Int),.int .i64 (a:Int)] 77 (0,0))
 | .ok (ps,c,n)=>∃ qb vb kb ab pb,e = ah (ak #[ptr qb,ai])/\aSU w w' qb ps c n vb kb ab pb
def asm(t:Bs)(g:AI w)(i:kJ w)(j:Ei w)(q:∀ ps c n,qo t = .ok (ps,c,n)->c.slots<=64):Calls bak 25 #[aM t] w (aht t w):=by
 suffices H:∀ R:Ending->Z->Prop,(∀ e w',aht t w e w'->R e w')->Calls bak 25 #[aM t] w R from H _ zg;intro R d;refine aLj ?_;refine(aSe t g i j).mono ?_;rintro e w1 ⟨k,f⟩;unfold aht at d;cases hr:qo t with
 | error l=>
  obtain⟨c,a⟩:=l;rw[hr] at f d;obtain⟨b,rfl,r⟩:=f;refine bD ?_;grind
 | ok x=>
  obtain⟨ps,c,n⟩:=x;rw[hr] at f d;obtain⟨kb,pb,ab,rfl,hC,m⟩:=f;refine bD ?_;refine a0c (aOR hC m zg) ?_;rintro e w2 ⟨s,vb,rfl,u,hm⟩;have s1:=k.size;refine bD ?_;have lv:vb<w2.heap.size:=by
   obtain⟨φ,ψ,av,tv,di,h⟩:=hm (fun _=>True) (fun _=>0) fun _ _=>trivial;exact bf h.cell
  obtain⟨w3,o⟩:=b9 (w2.alloc (ae #[aj 111 (pp vb),pq vb 1,.func (.func 36) #[pp vb] #[],bH,ai] 121));have p:Ext w2 w3:=yF;have g3:w3.heap[w2.heap.size]?=aN #[aj 111 (pp vb),pq vb 1,.func (.func 36) #[pp vb] #[],bH,ai] 121:=yH;rw[<- o];refine d _ _ ⟨yF,w2.heap.size,vb,kb,ab,pb,J,g3,zo,zo,w2,yF,p,a0d _,fun D ρ hD=>?_⟩;exact⟨zg,(by grind [eM.ea,yf.bI,bz.ext])⟩
def yd.NB(hk:Qe D w w'){l:List Sl}(h:yd D ρ n tF pb w v l):yd D ρ n tF pb w' v l:=by
 rcases h with h | ⟨b,cap,row,c,d,e,f,g,i,a⟩
 .exact .inl h
 .exact .inr ⟨b,cap,row,c,d,hk.own _ _ a e,f,g.bI hk.Fs (eo.refl _ _),i,a⟩
def yd.ND{D':Nat->Prop}(a:∀ b,b<w.heap.size->D b->D' b){l:List Sl}(h:yd D ρ n tF pb w v l):yd D' ρ n tF pb w v l:=by
 rcases h with h | ⟨b,cap,row,c,d,e,f,g,i,j⟩
 .exact .inl h
 .exact .inr yH
def mX.NB{D:Nat->Prop}{ρ:Nat->Nat}{n nf:Nat}{φ ψ:Nat->Nat}{w w':Z}(hk:Qe D w w'):∀ {l:List Ga} {vs:List Y},mX D ρ n φ ψ nf w vs l->mX D ρ n φ ψ nf w' vs l
 | [],vs,h=>h
 | a::r,vs,⟨c,av,fR,rest,d,e,f,g,i,j⟩=>⟨c,av,fR,rest,d,e,f.bI fun b cs k=>hk.Fs b cs _ (yM) k,g.bI hk.Fs,i.NB hk,mX.NB hk j⟩
def mX.ND{D D':Nat->Prop}{ρ:Nat->Nat}{n nf:Nat}{φ ψ:Nat->Nat}{w:Z}(c:∀ b,b<w.heap.size->D b->D' b):∀ {l:List Ga} {vs:List Y},mX D ρ n φ ψ nf w vs l->mX D' ρ n φ ψ nf w vs l
 | [],vs,h=>h
 | a::r,vs,⟨d,av,fR,rest,e,f,g,i,j,k⟩=>⟨d,av,fR,rest,e,f,g,i,j.ND c,mX.ND c k⟩
theorem vmD(dI:List Pd)(told vb cb fm pb:Nat):X6 (Qt dI told vb cb fm pb) where
 bI:=by
  rintro D ρ w w' m ⟨⟨φ,ψ,av,tv,di,h⟩,h2⟩ hk;refine⟨⟨φ,ψ,av,tv,di,h.st.NB hk,h.fl,fun i x hx=>?_,h.bk,h.dp,h.inj,aeT h.ar h.da hk.own,h.ag.NB hk,h.da⟩,h2.bI hk.Fs fun l hm=>hk.map _ _ _ hm⟩;have hi:i<m.fs.length:=zg;exact(h.fs i x hx).bI hk.Fs (eo.refl _ _) (ya.refl _ _ _) hi (fun b hb=>h.bk i x b hx hb) fun cs hb=>hk.own _ _ (h.dp i hi) hb
 cut:=by
  rintro D D' ρ w m ⟨⟨φ,ψ,av,tv,di,h⟩,h2⟩ hd;refine⟨⟨φ,ψ,av,tv,di,h.st.ND hd,h.fl,h.fs,h.bk,fun i hi=>?_,h.inj,h.ar,h.ag.ND hd,fun g hg=>hd _ (aeU h.ar hg) (h.da g hg)⟩,h2⟩;obtain⟨row,hr,-⟩:=(h.fs i _ (a0e hi)).row;exact hd _ yH (h.dp i hi)
