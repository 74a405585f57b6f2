/- A part of one proof (VP12, KR1, KD1). -/
import Derived.Test.YtoegidfbnkaabaaGreatDoorPkLBD
set_option linter.all false
set_option maxRecDepth 100000
set_option maxHeartbeats 8000000
open Option renaming some → O, none → V
open Go renaming Value → Y, World → Z
open Bool renaming true → A, false → G
open Go.Obj renaming cells → ae
open Go.Ending renaming returned → ah
open Go.Value renaming nilIface → ai, iface → aj, tuple → ak, pointer → aq
open Go.Calls renaming mono → a1r
open Nat renaming le_refl → a1s, le_trans → a1t
open List renaming getElem?_eq_getElem → a1u, drop_eq_getElem_cons → a1y, mem_append → a1F, mem_singleton → a1K, replicate → a2a, mem_of_getElem? → a2z, set_append_right → a4D, count_le_length → a4S
open Go.Value renaming slice → a1D, string → a1N
open Go.Instr renaming loadAt → a1G
open Except renaming ok → a3f, error → a47
open Go.Proofs.Tryz renaming prog → bbM
namespace Go.Proofs.YtoegidfbnkaabaaGreatDoor
open P
open Go.RowKit Sx
variable{D:Nat->Prop}{R:Ending->Z->Prop}{X:Y->Z->Prop}{b base c cap e k n pb told:Nat}{cs:Array Y}{o4 tv v:Y}{out s:Bs}{ud ρ:Nat->Nat}{w w':Z}
def ah1{M:Nat->Obj->Prop}{a b:Z}(h:bB M a b)(hx:∀ o,a.heap[k]?=O o->M k o)(c:Obj):bB M a (bQ b k c):=
 ⟨h.os,h.tape,h.output,by rw[vf];exact h.size,(by grind [absurd,jb,bB.block])⟩
def aSu{P:Program}{T size:Nat}{K:Y->Z->Prop}(hu:P.underlying T=O (.slice e))(a:∀ w,(sizeOf e).run P w = .ok size w):WR P (Instr.buildSlice T 0 #[]) w K X=K (cS w.heap.size 0 0) (w.alloc (ae #[] e (0,0))):=by
 refine xF ?_;simp [Instr.buildSlice,run_underlying hu,a,Instr.fill,newRow,newObj,Sem.run];grind
def ah2(s:Bs)(w:Z)(e:Ending)(w':Z):Prop:=Ext w w'/\match rp s with
 | .ok (ps,c,n)=>∃ kb pb ab,e = ah (ak #[ptr kb,ai])/\yr w' kb pb ab n ps/\FO w' ab c
 | .error (c,a)=>∃ b,e = ah (ak #[aq V,aj 73 (ptr b)])/\w'.heap[b]?=O (ae #[.int .i64 (c:Int),.int .i64 (a:Int)] 77 (0,0))
abbrev JJ(base:Nat)(w w':Z):Prop:=bB (fun b o=>base<=b/\((∃ es n,o = .map es n)\/∃ cs T,o = ae cs T (0,0)/\(T=187\/T=185\/T=196\/T=198))) w w'
def JJ.cells(h:JJ base w w'){T:Nat}(a:w.heap[b]?=aO cs T)(c:¬ (T=187\/T=185\/T=196\/T=198)):w'.heap[b]?=aO cs T:=
 (by grind [bB.block])
structure VM(w:Z)(rb eb kb:Nat):Prop where
 r:w.heap[rb]?=aO #[ptr kb] 108
 e:w.heap[eb]?=aO #[ai] 57
theorem VM.bJ{rb kb:Nat}(h:VM w rb pb kb)(a:JJ base w w'):VM w' rb pb kb:=⟨a.cells h.r zo,a.cells h.e zo⟩
def aSv{d:Z}(h:∀ e w',ah2 s w e w'->R e w'){a rb eb:Nat}(n:Ext w d)(o:rb=w.heap.size)(p:eb=w.heap.size+1)(f:d.heap[rb]?=aO #[o4] 108)(g:d.heap[eb]?=aO #[ai] 57)
  (q:d.heap[b]?=aO #[zi (c:Int),zi (a:Int)] 77) (r:rp s = .error (c,a)) :
  LV bbM (fun d=>RD bbM (a1G 108 (pp rb)) d (fun i=>RD bbM (a1G 57 (pp eb)) d (fun j=>R (ah (ak #[i,j])) d) NX) NX) R
   [{ target:=.fn (.func 66) #[pp rb,pp eb],args:=#[]++#[] }]
   (.panicking [{ v:=aj 73 (pp b),recovered:=false }]) d:=by
 refine aSi f g zo ?_;have t:=bg f;have u:=bg g;have k:(bQ (bQ d rb (ae #[aq V] 108)) (eb) (ae #[aj 73 (pp b)] 57)).heap[rb]?=aO #[aq V] 108:=by
  exact yH
 have l:eb<(bQ d rb (ae #[aq V] 108)).heap.size:=yH;have m:(bQ (bQ d rb (ae #[aq V] 108)) (eb) (ae #[aj 73 (pp b)] 57)).heap[eb]?=aO #[aj 73 (pp b)] 57:=yH;have x:b≠rb:=by
  grind
 have y:b≠eb:=by
  grind
 refine dj @k @m ?_;refine h _ _ ⟨yF,?_⟩;exact yH
theorem asQ(e:Bs):∀ {l:List Bs} {q:Nat} {x:Bs},l[q]?=O x->(B2 e l)[q]?=O (if q+1<l.length then x++e else x)
 | [],_,_,h=>zg
 | [l],0,x,h=>by grind [B2]
 | [l],q+1,x,h=>zg
 | l::m::ls,0,x,h=>by
  have:l=x:=zg;subst this;rw[B2,zip zs];rfl
 | l::m::ls,q+1,x,h=>by
  rw[B2,List.getElem?_cons_succ,asQ e (by simpa using h)];simp
def asR{r:Bs}{rs:List Bs}{k:Nat}{p:Pv}(h:rs≠[]):kT (r::rs) k p=match mv (fK 32 r) p with
  | none=>.error k
  | some p=>kT rs (k+1) p:=by
 cases rs with
 | nil=>grind
 | cons a b=>rfl
theorem mz.asS{p:Pv}(h:mz base w cap pb out tv p)(c:p.ask=V):out=[]↔p.dG=[]:=by
 have hk:∀ (n:Bs) (a:Nat),P.keyOf n a≠[]:=fun n a=>by unfold P.keyOf;simp
 cases h with
 | zero hk hm=>simp
 | pred b hm hu ll hD hr hv hC j3=>exact⟨zg,fun h=>by simp at h⟩
 | cl b hm hu ll hD hr hv hC oZ hO j3 eZ=>exact⟨zg,fun h=>by simp at h⟩
 | ask b hm hD oZ hO eZ=>grind
def mz.aSw{p:Pv}(h:mz base w cap pb out tv p)(b:tv = aq V):p.cur=none:=by
 cases h with
 | zero hk hm=>rfl
 | pred a hm hu ll hD hr hv hC j3=>rfl
 | cl a hm hu ll hD hr hv hC oZ hO j3 eZ=>grind
 | ask a hm hD oZ hO eZ=>grind
def aSx(s:Bs)(hT:B0 w)(hP:lZ w)(hL:F7 w):Calls bbM 34 #[aT s] w (ah2 s w):=by
 suffices H:∀ R:Ending->Z->Prop,(∀ e w',ah2 s w e w'->R e w')->Calls bbM 34 #[aT s] w R from H _ zg;intro R hR;refine aSf ?_;by_cases a0g:65536<s.length
 .have hli:(s.length:Int) > 65536:=zo;have lQ:rp s = .error (1,0):=by grind [rp]
  refine cJ hli ?_;obtain⟨w0,yl⟩:=cg (bQ (bQ (((w.alloc (ae #[aq V] 108)).alloc (ae #[ai] 57)).alloc (ae #[zi 1,zi 0] 77)) w.heap.size (ae #[aq V] 108)) (w.heap.size+1) (ae #[aj 73 (ptr (w.heap.size+1+1))] 57));rw[<- yl];have oV:Ext w w0:=yF;have q0:w0.heap[w.heap.size]?=aO #[aq V] 108:=yH;have q1:w0.heap[w.heap.size+1]?=aO #[aj 73 (ptr (w.heap.size+1+1))] 57:=yH;have q2:w0.heap[w.heap.size+1+1]?=aO #[zi 1,zi 0] 77:=yH;clear yl;refine asH ?_;refine dj @q0 @q1 ?_;refine hR _ _ ⟨oV,?_⟩;grind
 .have hli:¬ (s.length:Int) > 65536:=zo;have iQ:s.length<=1000000:=zo;refine cJ hli ?_;obtain⟨w0,yl⟩:=cg ((w.alloc (ae #[aq V] 108)).alloc (ae #[ai] 57));rw[size_alloc,<- yl];have oV:Ext w w0:=yF;have s0:w0.heap.size=w.heap.size+2:=yH;have b0:w0.heap[w.heap.size]?=aO #[aq V] 108:=yH;have b1:w0.heap[w.heap.size+1]?=aO #[ai] 57:=yH;clear yl;obtain⟨rb,LA⟩:=cg w.heap.size;obtain⟨eb,Lc⟩:=cg (w.heap.size+1);rw[<- Lc,<- LA];rw[<- LA] at b0;rw[<- Lc] at b1;refine a1r (aSl s 10 w0 iQ (hL.ext oV)) ?_;rintro e w1 ⟨rfl,jP⟩;obtain⟨L,LG⟩:=cg (fK 10 s);have lQ:rp s=match kT L 1 ⟨[],G,V⟩with
   | .error k=>.error (5,k)
   | .ok p=>match p.ask with
    | some (c,n)=>.ok (p.dG,c,n)
    | none=>.error (5,L.length):=by grind [rp]
  have hLf:∀ l∈L,(10:UInt8) ∉ l/\l.length<=s.length:=by grind [aeb]
  have hLn:L≠[]:=by grind [ahY]
  have hLl:L.length<=1000001:=by grind [VJ,a4S]
  rw[<- LG] at jP ⊢;clear LG;have hN:0<L.length:=List.length_pos_iff.2 hLn;obtain⟨cs,jK⟩:=cg (((B2 [10] L).map fun s=>a1N (bs s)).toArray);have ahS:∀ (q:Nat) (x:Bs),L[q]?=O x->cs[q]?=O (aT (if q+1<L.length then x++[10] else x)):=(by grind [asQ]);have dF:Ext w0 w1:=yF;have g1:w1.heap[w0.heap.size]?=aO cs 9:=yH;have s1:w1.heap.size=w.heap.size+3:=yH;clear jP;obtain⟨sb,yG⟩:=cg w0.heap.size;rw[<- yG] at g1 ⊢;have lsb:=bg g1;obtain⟨Md,ZQ⟩:∃ x,L[L.length-1]?=O x:=⟨_,a1u zo⟩;have gN:=ahS _ _ ZQ;rw[bM zo] at gN;refine⟨fun z w'=>w'=w1/\∃ n c,z 4 = cS sb n c/\((n+1=L.length/\Md=[]/\0<n)\/(n=L.length/\¬ (Md=[]/\1<L.length))),?_,?_⟩
  .have eN:(L.length:Int)-1=((L.length-1:Nat):Int):=zo;have Zr:((L.length-1:Nat):Int)<(L.length:Int):=zo;have aSA:((L.length-1:Nat):Int)<=(L.length:Int):=zo;refine cJ @eN ?_;refine⟨fun z w'=>w'=w1/\z 36 = .bool (decide (Md=[]/\1<L.length)),?_,?_⟩
   .cases Md with
    | nil=>
     by_cases Eu:1<L.length
     .have pW:((L.length-1:Nat):Int) > 0:=zo;exact Bk @g1 gN Zr (zA pW (zA Eu @eN))
     .have pW:¬ ((L.length-1:Nat):Int) > 0:=zo;exact Bk @g1 gN Zr (zA pW (zA Eu @eN))
    | cons x r=>
     have vY:decide (x::r=[])=false:=zs;have OO:¬ bs (x::r)=bs []:=zg;have vi:decide (x::r=[]/\1<L.length)=false:=zs;exact Bk @g1 gN Zr (zA vY (zA OO (zA @eN vi))) (by intro q01 q11 q21 q31;simp (disch:=first|assumption|omega|simp only[zS]<;>omega|decide) only[zB,simprocAttr,kW,q01,q11,q21,q31];simp)
   .rintro z w2 ⟨rfl,hz⟩ dd;rw[hz];by_cases hc:Md=[]/\1<L.length
    .rw[decide_eq_true hc];refine dj aSA @eN ?_;refine⟨L.length-1,L.length,?_,zg⟩;grind [aJJ]
    .rw[decide_eq_false hc];refine bH ?_;grind
  .rintro z w2 ⟨rfl,n,c,hz,hn⟩ dd;refine cJ hz ?_;have dT:=oV.trans dF;obtain⟨w3,sW⟩:=cg (bQ ((w2.alloc (.map #[] 0)).alloc (ae #[.map (O w2.heap.size),aq V,zi 0] 187)) rb (ae #[ptr (w2.heap.size+1)] 108));have b02:=dF.ext _ _ b0;have b12:=dF.ext _ _ b1;have lr2:=bg b02;have le2:=bg b12;refine dj @b02 hz ?_;rw[<- sW];have eH:Ext w w3:=yF;have pr3:w3.heap[rb]?=aO #[ptr (w2.heap.size+1)] 108:=yH;have pe3:w3.heap[eb]?=aO #[ai] 57:=yH;have ps3:w3.heap[sb]?=aO cs 9:=yH;have ZR:w3.heap[w2.heap.size+1]?=O (vT w2.heap.size (aq V) 0):=yH;have pm3:w3.heap[w2.heap.size]?=O (eJ []):=by rw[sW,jb zo,MD (by rw[size_alloc];omega)];exact sK J
   have s3:w3.heap.size=w2.heap.size+2:=yH;clear sW;obtain⟨pb,fZ⟩:=cg w2.heap.size;obtain⟨kb,hkb⟩:=cg (w2.heap.size+1);rw[<- hkb] at pr3 ZR;rw[<- fZ] at pm3 ZR;have Cx:n<=L.length:=zo;refine⟨fun m z w'=>∃ q p key at_,z 45=zi ((q:Nat):Int)/\q<=n/\m=n-q/\z 6 = aT key/\z 7=at_/\Ext w w'/\VM w' rb eb kb/\w'.heap[sb]?=aO cs 9/\mz w.heap.size w' kb pb key at_ p/\kT L 1 ⟨[],G,V⟩=kT (L.drop q) (q+1) p/\p.Bd q/\q<L.length,
    ⟨_,0,⟨[],G,V⟩,[],aq V,J,Nat.zero_le _,J,J,J,eH,⟨pr3,pe3⟩,ps3,.zero ZR pm3,J,⟨zg,zg⟩,hN⟩,?_⟩
   clear pr3 pe3 ps3 ZR pm3 eH s3 b02 b12 lr2 le2;intro m z3 d3 w4 hI;refine toPr ?_;obtain⟨q,p,key,at_,EH,hq,rfl,h6,h7,gW,Me,vn,Io,ZS,nW,a0j⟩:=hI;have ZT:=Me.r;have a0k:=bg ZT;have a0l:=bg Me.e;have ls4:=bg vn;have yv:((q:Nat):Int).toNat=q:=zo;have yw:∀ {W:Z} {a b:Nat},Ext w4 W->W.heap[b]?=aO #[zi 5,zi ((a:Nat):Int)] 77->rp s = .error (5,a) ->
     LV bbM (fun W=>RD bbM (a1G 108 (pp rb)) W (fun r1=>RD bbM (a1G 57 (pp eb)) W (fun r2=>R (ah (ak #[r1,r2])) W) NX) NX) R
      [{ target:=.fn (.func 66) #[pp rb,pp eb],args:=#[]++#[] }] (.panicking [{ v:=aj 73 (pp b),recovered:=false }]) W:=fun{W a b} hE f Hs=>
    aSv hR yF LA Lc (hE.ext _ _ Me.r) (hE.ext _ _ Me.e) f Hs
   by_cases hqn:q<n
   .have rE:((q:Nat):Int)<((n:Nat):Int):=zo;have hqL:q<L.length:=zo;obtain⟨r,hr⟩:∃ r,L[q]?=O r:=⟨_,a1u hqL⟩;have Au:L[q]=r:=zg;have hcq:=ahS _ _ hr;obtain⟨hrn,hrl⟩:=hLf r (a2z hr);have OH:L.drop q=r::L.drop (q+1):=by grind [a1y]
    refine dB EH rE vn (zA hcq (zA @yv hz)) ?_;have hcut:∃ en:Bool,(en=A↔q+1<L.length)/\Calls bbM 68 #[aT (if q+1<L.length then r++[10] else r),aT [10]] w4 fun e w'=>e = ah (ak #[aT r,.bool en])/\w'=w4:=by
     by_cases hlt:q+1<L.length
     .rw[zip hlt];refine⟨A,zg,(asM _ 10 w4 zg).mono ?_⟩;rintro e w' ⟨rfl,rfl⟩;grind [aSm]
     .rw[bM hlt];refine⟨G,zg,(asM _ 10 w4 zo).mono ?_⟩;rintro e w' ⟨rfl,rfl⟩;grind [aSn,Go.Lib.trimSuffix]
    obtain⟨en,hen,hcut⟩:=hcut;refine a1r hcut ?_;rintro e EJ ⟨rfl,rfl⟩;refine bH ?_;refine a1r (aSk r 32 EJ zo (hL.ext gW)) ?_;rintro e w5 ⟨rfl,nE⟩;obtain⟨ws,Hn⟩:=cg (fK 32 r);have C7:∀ l∈ws,l.length<=1000000:=by rw[Hn];intro l hl;have:=(aeb 32 r l hl).2;omega
    have hwl:ws.length<=65537:=by grind [VJ,a4S]
    have hwn:ws≠[]:=by grind [ahY]
    rw[<- Hn] at nE ⊢;obtain⟨t,wr,rfl⟩:∃ a b,ws=a::b:=by
     cases ws with
     | nil=>grind
     | cons a b=>grind
    have rB:Ext EJ w5:=yF;have g5:w5.heap[EJ.heap.size]?=O (ah0 (t::wr)):=yH;clear nE;obtain⟨wb,rW⟩:=cg EJ.heap.size;rw[<- rW] at g5 ⊢;have lw5:=bg g5;have Hz:((q:Nat):Int)+1=((q+1:Nat):Int):=zo;refine dj EH @Hz ?_;have aSG:IntKind.i64.wrap (((q:Nat):Int)+1)=((q+1:Nat):Int):=fh @Hz;try rw[List.length_cons]
    try rw[aSG]
    obtain⟨cw,hcw⟩:=cg (((t::wr).map fun s=>a1N (bs s)).toArray);have B3:cw[0]?=O (aT t):=zg;have asW:∀ q,(hq:q<wr.length)->cw[q+1]?=O (aT (wr[q])):=zg;have uo:w5.heap[wb]?=aO cw 9:=zg;have tY:=gW.trans rB;have Ip:=Io.ext rB;have JK:=rB.ext _ _ ZT;have a0s:=rB.ext _ _ Me.e;have a0t:=bg JK;have U:=Ip.code;have zm:kb<w5.heap.size:=by
     cases ha:p.ask with
     | none=>grind
     | some cn=>
      rw[ha] at U;grind
    have aSH:en=A->mv (t::wr) p=V->rp s = .error (5,q+1):=fun he hl=>by
     rw[lQ,ZS,OH,asR (by
      intro e;have h1:=congrArg List.length e;grind),<- Hn,hl]
    have a0u:∀ p',en=A->mv (t::wr) p=O p'->kT L 1 ⟨[],G,V⟩=kT (L.drop (q+1)) (q+1+1) p':=fun p' he hl=>by
     rw[ZS,OH,asR (by
      intro e;have h1:=congrArg List.length e;grind),<- Hn,hl]
    have a0v:en=G->rp s = .error (5,q+1):=fun he=>by
     have h1:¬ q+1<L.length:=zg;have M:L.drop (q+1)=[]:=zg;have fX:L.length-1=q:=zo;rw[fX,hr] at ZQ;injection ZQ with ZQ;rcases hn with⟨h3,-⟩| ⟨h3,h4⟩
     .omega
     .rw[lQ,ZS,OH,M];show(match (if r=[]/\1<q+1 then a3f p else a47 (q+1)) with
       | a47 k=>a47 (5,k)
       | a3f p=>match p.ask with
        | some (c,n)=>a3f (p.dG,c,n)
        | none=>a47 (5,L.length))=_
      grind
    have Di:∀ {W:Z} {K:Y->Z->Prop} {X:List PanicEntry->Z->Prop},Ext EJ W->(∀ b wy,Ext EJ wy->wy.heap[b]?=aO #[zi 5,zi ((q+1:Nat):Int)] 77->X [{ v:=aj 73 (pp b),recovered:=false }] wy) ->
      Calls bbM 70 #[zi ((q+1:Nat):Int)] W (ends K X):=fun{W K X} hE hX=>by
     refine(VD _ W).mono ?_;rintro e wy ⟨Mf,b,rfl,f,-⟩;exact hX b wy yF f
    obtain⟨late,a0w⟩:∃ b:Prop,b=(p.ask≠V/\(t=CT\/t=BH\/t=Ef)):=⟨_,J⟩;refine⟨fun _ w'=>w'=w5/\en=A/\¬ late,?_,?_⟩
    .refine⟨fun z w'=>w'=w5/\∃ b,z 85 = .bool b/\(b=A->rp s = .error (5,q+1))/\(b=G->en=A/\¬ late),?_,?_⟩
     .cases aSI:en with
      | false=>
       refine bH ?_;grind
      | true=>
       cases ha:p.ask with
       | none=>
        rw[ha] at U;have U:w5.heap[kb]?=O (vT pb (aq V) 0):=U;refine dj JK U ?_;grind
       | some cn=>
        rw[ha] at U;obtain⟨ab,-,U⟩:=U;have ee:p.ask≠none:=zg;by_cases jN:t=CT
        .subst jN;refine dB JK U @uo B3 ?_;exact⟨A,J,fun _=>aSH aSI (XZ ee (.inl J)),zg⟩
        .have a0x:¬ bs t=bs [112,114,101,100]:=zg;by_cases sS:t=BH
         .subst sS;refine dB JK U @uo B3 ?_;exact⟨A,J,(by grind [XZ]),zg⟩
         .by_cases ri:t=Ef
          .subst ri;refine dB JK U @uo B3 ?_;exact⟨A,J,(by grind [XZ]),zg⟩
          .refine dB JK U @uo (zA B3 (zA jN (zA sS ri))) ?_;grind
     .rintro z5 w6 ⟨rfl,b,hzb,iS,Q⟩ dd;rw[hzb];cases b with
      | true=>
       refine dj EH @Hz ?_;exact Di rB fun b wy Mf f=>yw Mf f (iS J)
      | false=>
       refine bH ?_;grind
    .rintro z5 w6 ⟨rfl,aSK,xQ⟩ dd;have zI:Ext w6 w6.drew:=yF;have rC:=rB;have E5:∀ {W:Z} {ah7:Bs} {at':Y} {p':Pv},JJ w.heap.size EJ W->mz w.heap.size W kb pb ah7 at' p'->mv (t::wr) p=O p'->p'.Bd (q+1) ->
       Ext w W/\VM W rb eb kb/\W.heap[sb]?=aO cs 9/\mz w.heap.size W kb pb ah7 at' p'/\kT L 1 ⟨[],G,V⟩=kT (L.drop (q+1)) (q+1+1) p'/\p'.Bd (q+1)/\q+1<L.length:=fun{W ah7 at' p'} hF hX qZ aSL=>
      ⟨⟨hF.os.trans gW.os,hF.tape.trans gW.tape,hF.output.trans gW.output,a1t gW.size hF.size,fun b o f _=>hF.block _ _ (gW.ext _ _ f) yH⟩,Me.bJ hF,hF.cells vn zo,hX,zg,aSL,hen.1 aSK⟩
     have B1:=hT.ext tY;have vp:=hP.ext tY;refine⟨fun z w'=>w'=w6/\z 90 = .bool (decide (t=CT/\wr.length=2)),?_,?_⟩
     .by_cases jN:t=CT
      .by_cases qF:wr.length=2
       .have gz:((wr.length+1:Nat):Int)=3:=zo;have hd:decide (t=CT/\wr.length=2)=true:=zg;rw[hd];exact Bk @uo B3 jN gz
       .have gz:¬ ((wr.length+1:Nat):Int)=3:=zo;have hd:decide (t=CT/\wr.length=2)=false:=zg;rw[hd];exact Bk @uo B3 jN gz
      .have hd:decide (t=CT/\wr.length=2)=false:=zg;rw[hd];exact J5 @uo B3 jN
     .rintro z6 w7 ⟨rfl,aSM⟩ dd6;rw[aSM];by_cases tR:t=CT/\wr.length=2
      .rw[decide_eq_true tR];obtain⟨jN,qF⟩:=tR;obtain⟨a,b,rfl⟩:∃ a b,wr=[a,b]:=by
        match wr,qF with
        | [a,b],_=>grind
       subst jN;have xO:p.ask=none:=zg;have qZ:=aIX (a:=a) (b:=b) xO;have jz:cw[1]?=O (aT a):=zg;have sQ:cw[2]?=O (aT b):=asW 1 zs;refine bH ?_;refine⟨fun w'=>Ext w7 w',zI,?_⟩;refine cQ (pq wb 1) (fun w' d=>by have h9:=d.ext _ _ uo;have:=bg h9;exact fh h9) ?_;refine cQ (aT a) (fun w' d=>by have h9:=d.ext _ _ uo;have:=bg h9;exact lM h9 jz) ?_;refine cQ (pq wb 2) (fun w' d=>by have h9:=d.ext _ _ uo;have:=bg h9;exact fh h9) ?_;refine cQ (aT b) (fun w' d=>by have h9:=d.ext _ _ uo;have:=bg h9;exact lM h9 sQ) ?_;refine a1r (ahP a _ w7.drew (C7 a zs)) ?_;rintro e w8 ⟨vO,mT⟩;have vR:=zI.trans vO;cases VO:pG a with
       | none=>
        rw[VO] at mT qZ;obtain⟨b',rfl,M,h3⟩:=mT;exact fun _=>yw yF M zg
       | some nm=>
        rw[VO] at mT;subst mT;refine⟨vR,?_⟩;refine a1r (OL b 64 _ w8 (C7 b zs) zo (B1.ext vR) (vp.ext vR)) ?_;rintro e w9 ⟨nj,gI⟩;have tJ:=vR.trans nj;cases mw:ji b 64 with
        | none=>
         rw[mw] at gI;rw[VO,mw] at qZ;obtain⟨b',rfl,M,h3⟩:=gI;exact fun _=>yw yF M zg
        | some ar=>
         rw[mw] at gI;subst gI;rw[VO,mw] at qZ;have ll:=CP mw;have aSN:nm.length<=100:=by
          have:=(TE VO).2.1;grind [TE]
         refine a1r (agf nm ar aSN zo w9) ?_;rintro e B ⟨rfl,rfl⟩;have A5:=Ip.ext tJ;obtain⟨l,Oy,aSO⟩:=A5.close;have OP:B.heap[kb]?=O (vT pb (aq V) 0):=by
          have:=A5.code;rw[xO] at this;exact this
         have VP:=tJ.ext _ _ JK;have a0z:=bg OP;have a0A:=bg Oy;have Q6:=aSO.find (name:=nm) (n:=ar) zo (j:=0);refine⟨fun _ w'=>w'=B/\fL (P.keyOf nm ar) l 0=V,?_,?_⟩
         .refine dj VP OP ?_;rw[Lt (k:=9) (e:=192) (z:=bW) zk zk zk Oy (P.keyOf nm ar) A];cases hf:fL (P.keyOf nm ar) l 0 with
          | none=>simp (disch:=first|assumption|omega|simp only[zS]<;>omega|decide) only[zB,simprocAttr,kW]
          | some kv=>
           obtain⟨k,v⟩:=kv;rw[hf] at Q6;obtain⟨p0,pw,-⟩:=Q6;refine bH ?_;have aSP:p.dG.any (fun q=>q.name == nm && q.arity == ar)=true:=by
            grind
           exact Di yF fun b' wy Mf f=>yw Mf f zg
         .rintro z7 I ⟨rfl,hf⟩ d7;rw[hf] at Q6;have aSP:p.dG.any (fun q=>q.name == nm && q.arity == ar)=false:=by
           cases han:p.dG.any (fun q=>q.name == nm && q.arity == ar) with
           | false=>rfl
           | true=>
            obtain⟨p0,h1,M⟩:=List.any_eq_true.1 han;grind
          refine dj VP OP ?_;rw[aSu (size:=1) zk (fun w=>Gm zk w)];obtain⟨pL,ah8⟩:=cg (I.alloc (ae #[] 185));rw[<- ah8];have qP:Ext I pL:=by rw[ah8];exact(bB.refl _ _).alloc _
          have g12:pL.heap[I.heap.size]?=aO #[] 185:=yH;clear ah8;have Zh:=qP.ext _ _ Oy;have a0B:=bg Zh;rw[aLy (k:=9) (e:=192) (z:=bW) zk zk zk Zh (P.keyOf nm ar) hf];obtain⟨C,y⟩:=cg (bQ pL pb (eJ (l++[(P.keyOf nm ar,bW)])));rw[<- y];have Rf:C.heap[pb]?=O (eJ (l++[(P.keyOf nm ar,bW)])):=yH;refine bH ?_;rw[aLz (s:=P.keyOf nm ar) (u:=bW) Rf zg];have CM:(l++[(P.keyOf nm ar,a1D V 0 0)]).set l.length (P.keyOf nm ar,cS I.heap.size 0 0)=l++[(P.keyOf nm ar,cS I.heap.size 0 0)]:=by
           rw[a4D _ _ (a1s _)];simp
          rw[CM];have a0C:=bg Rf;obtain⟨Js,ZU⟩:=cg (bQ C pb (eJ (l++[(P.keyOf nm ar,cS I.heap.size 0 0)])));rw[<- ZU];have Rx:bB (fun b _=>b=pb) I Js:=by
           rw[ZU,y];exact ah1 (ah1 yF yH _) yH _
          have aSS:Js.heap[I.heap.size]?=aO #[] 185:=by rw[ZU,jb zo,y,jb zo];omega
          have aST:Js.heap[pb]?=O (eJ (l++[(P.keyOf nm ar,cS I.heap.size 0 0)])):=yH;have aSU:=A5.aSp xO zo Oy hf Rx aSS zo zo aST;have Dr:JJ w.heap.size EJ Js:=by
           refine⟨Rx.os.trans (rC.trans tJ).os,Rx.tape.trans (rC.trans tJ).tape,Rx.output.trans (rC.trans tJ).output,a1t (rC.trans tJ).size Rx.size,fun b o f hn=>Rx.block _ _ ((rC.trans tJ).ext _ _ f) fun e=>hn ?_⟩;have Q:=(rC.trans tJ).ext _ _ f;rw[e,Oy] at Q;injection Q with Q;exact⟨zo,.inl ⟨_,_,Q.symm⟩⟩
          clear ZU y;have ah9:mv [CT,a,b] p=O ⟨p.dG++[⟨nm,ar,[]⟩],G,V⟩:=zg;have VQ:Pv.Bd (q+1) ⟨p.dG++[⟨nm,ar,[]⟩],G,V⟩:=by
           refine⟨fun x hx=>?_,zg⟩;rcases a1F.1 hx with hx | hx
           .exact(nW.mono zo).1 x hx
           .rw[a1K] at hx;subst hx;exact⟨Nat.zero_le _,zg⟩
          refine dj EH @Hz ?_;exact⟨_,zo,q+1,_,_,_,J,zo,J,J,J,E5 Dr aSU ah9 VQ⟩
      .rw[decide_eq_false tR];refine bH ?_;refine⟨fun z w'=>w'=w7/\z 131 = .bool (decide (t=BH/\wr.length=1/\key≠[])),?_,?_⟩
       .by_cases jN:t=BH
        .by_cases qF:wr.length=1
         .have gz:((wr.length+1:Nat):Int)=2:=zo;by_cases hky:key=[]
          .have hd:decide (t=BH/\wr.length=1/\key≠[])=false:=zg;rw[hd];exact Bk @uo B3 jN (zA gz (zA h6 hky))
          .have hd:decide (t=BH/\wr.length=1/\key≠[])=true:=zg;have aSV:¬ bs key=bs []:=zg;rw[hd];exact Bk @uo B3 jN (zA gz (zA h6 (zA hky aSV)))
         .have gz:¬ ((wr.length+1:Nat):Int)=2:=zo;have hd:decide (t=BH/\wr.length=1/\key≠[])=false:=zg;rw[hd];exact Bk @uo B3 jN gz
        .have hd:decide (t=BH/\wr.length=1/\key≠[])=false:=zg;rw[hd];exact J5 @uo B3 jN
       .rintro z7 w8 ⟨rfl,aSW⟩ dd7;rw[aSW];by_cases gN:t=BH/\wr.length=1/\key≠[]
        .rw[decide_eq_true gN];obtain⟨jN,qF,hky⟩:=gN;obtain⟨a,rfl⟩:∃ a,wr=[a]:=by
          match wr,qF with
          | [a],_=>grind
         subst jN;have xO:p.ask=none:=zg;have jz:cw[1]?=O (aT a):=zg;refine dj @uo jz ?_;refine a1r (OL a 65 _ w8 zg zo B1 vp) ?_;rintro e w9 ⟨nj,gI⟩;have asX:p.dG≠[]:=(by grind [mz.asS]);have qZ:=aIY (a:=a) xO asX;cases oh:ji a 65 with
         | none=>
          rw[oh] at gI qZ;obtain⟨b',rfl,M,h3⟩:=gI;exact yw yF M zg
         | some slots=>
          rw[oh] at gI qZ;subst gI;have hX9:=Ip.ext nj;have a0E:w9.heap[kb]?=O (vT pb (aq V) 0):=by
           have:=hX9.code;rw[xO] at this;exact this
          have OQ:=rC.trans nj;have hs9:=(gW.trans OQ).size;have a0F:=nj.ext _ _ JK;obtain⟨l,v,cbs,pl,S,D,ZD,Pw,hm9,hu,eG,j3,a0G,xe⟩:=hX9.aSq hs9 xO asX;obtain⟨va,vc,rfl⟩:=gV eG;have hfa:fL key (l++[(key,a1D va S.clauses.length vc)]) 0=O (0+l.length,.slice va S.clauses.length vc):=by rw[YH,hu];simp
          have a0H:S.clauses.length<=q:=(nW.1 S zg).1;rw[h6];refine bH ?_;obtain⟨B,OR⟩:=cg (w9.alloc (ae (Value.agg #[zi (slots:Int),bW]).cells 196 (0,0)));rw[<- OR];have zD:Ext w9 B:=by rw[OR];exact(bB.refl _ _).alloc _
          have g10:B.heap[w9.heap.size]?=aO #[zi (slots:Int),bW] 196:=by rw[OR];exact sK J
          clear OR;have as0:Ext w9 B.drew:=yF;have hSk:∀ {w':Z},Ext w9 w'->w'.heap[rb]?=aO #[ptr kb] 108/\w'.heap[kb]?=O (vT pb (aq V) 0)/\w'.heap[pb]?=O (eJ (l++[(key,.slice va S.clauses.length vc)])):=(by grind [bB.ext]);refine⟨fun w'=>w'.heap[rb]?=aO #[ptr kb] 108/\w'.heap[kb]?=O (vT pb (aq V) 0)/\w'.heap[pb]?=O (eJ (l++[(key,.slice va S.clauses.length vc)])),hSk as0,?_⟩;refine cQ (ptr kb) (fun w' d=>by have:=bg d.1;exact fh @d.1) ?_;refine cQ (ptr kb) (fun w' d=>by have:=bg d.2.1;exact fh @d.2.1) ?_;refine cQ (.map (O pb)) (fun w' d=>by have:=bg d.2.1;exact fh @d.2.1) ?_;refine cQ (ptr kb) (fun w' d=>by have:=bg d.1;exact fh @d.1) ?_;refine cQ (ptr kb) (fun w' d=>by have:=bg d.2.1;exact fh @d.2.1) ?_;refine cQ (.map (O pb)) (fun w' d=>by have:=bg d.2.1;exact fh @d.2.1) ?_;refine cQ (.slice va S.clauses.length vc) (fun w' d=>by rw[Lt (k:=9) (e:=192) (z:=bW) zk zk zk d.2.2 key G,hfa];rfl) ?_;refine bH ?_;obtain⟨I,zM⟩:=cg (B.drew.alloc (ae #[pp w9.heap.size] 185));have zE:Ext B.drew I:=by rw[zM];exact(bB.refl _ _).alloc _
          have g11:I.heap[B.drew.heap.size]?=aO #[pp w9.heap.size] 185:=yH;rw[<- zM];have E:=as0.trans zE;have aSY:I.heap[B.heap.size]?=aO #[pp w9.heap.size] 185:=g11;clear zM;have VR:=hSk E;have zP:=jL E.ext eG;have aSZ:I.heap[w9.heap.size]?=aO #[zi (slots:Int),bW] 196:=zE.ext _ _ ((bB.drew (bB.refl (fun _ _=>False) B)).block _ _ g10 zg);have as3:=E.size;refine⟨VR,?_⟩;refine ar7 (base:=pl) zP aSY zo zo fun v' pL ho N hv=>?_;obtain⟨EK,EL,rfl⟩:=gV ho;have ZV:pL.heap[pb]?=O (eJ (l++[(key,.slice va S.clauses.length vc)])):=by
           rw[N.block _ (bg VR.2.2) (fun e=>?_)]
           .grind
           .obtain⟨-,-,cs',h1⟩:=EG zP e.symm;rw[VR.2.2] at h1;cases h1
          refine⟨⟨F5 zP N zo VR.1,F5 zP N zo VR.2.1,ZV⟩,?_⟩;rw[apq (k:=9) (e:=192) zk zk ZV key hfa];have CM:(l++[(key,a1D va S.clauses.length vc)]).set (0+l.length) (key,.slice EK (S.clauses.length+1) EL)=l++[(key,.slice EK (S.clauses.length+1) EL)]:=by
           rw[Nat.zero_add,a4D _ _ (a1s _)];simp
          rw[CM];have aS0:=bg ZV;obtain⟨C,y⟩:=cg (bQ pL pb (eJ (l++[(key,.slice EK (S.clauses.length+1) EL)])));rw[<- y];have Rf:C.heap[pb]?=O (eJ (l++[(key,.slice EK (S.clauses.length+1) EL)])):=by rw[y];exact qz J aS0
          have Mg:∀ {b T:Nat} {cs':Array Y},pL.heap[b]?=aO cs' T->C.heap[b]?=aO cs' T:=fun{b T cs'} f=>by
           rw[y,jb (fun e=>by rw[e,ZV] at f;cases f)];omega
          have ko:bB (fun b o=>b=pb\/(pl<=b/\∃ cs,o = ae cs 185 (0,0))) w9 C:=by
           refine⟨?_,?_,?_,?_,fun b o f Aw=>?_⟩
           .rw[y];exact N.os.trans E.os
           .rw[y];exact N.tape.trans E.tape
           .rw[y];exact N.output.trans E.output
           .rw[y,vf];exact a1t E.size N.size
           .have ee:b≠pb:=zo;rw[y,jb ee,N.block b (bg (E.ext _ _ f)) (fun e=>?_)]
            .exact E.ext _ _ f
            .obtain⟨h1,-,cs',M⟩:=EG zP e.symm;rw[E.ext _ _ f] at M;injection M with M;exact Aw (.inr ⟨h1,cs',M⟩)
          have aS1:∃ b,(a1D EK (S.clauses.length+1) EL).ownBlock=O b:=by
           rcases ho.2 with⟨-,h0⟩| ⟨g,cap,cur,h1,-⟩
           .omega
           .rw[h1];exact⟨g,J⟩
          have VT:C.ownsRow pl 185 1 (.slice EK (S.clauses.length+1) EL) (S.clauses.length+1) (JI cbs++[ptr w9.heap.size]):=F4 ho fun b cs' _ f=>Mg f;have OS:=xe C _ w9.heap.size slots ko Rf VT aS1 (Mg (F5 zP N zo aSZ)) zo;have Dr:JJ w.heap.size EJ C:=by
           refine⟨ko.os.trans OQ.os,ko.tape.trans OQ.tape,ko.output.trans OQ.output,a1t OQ.size ko.size,fun b o f Aw=>ko.block _ _ (OQ.ext _ _ f) ?_⟩;have Q:=OQ.ext _ _ f;rintro (e | ⟨h1,cs',M⟩)
           .rw[e,hm9] at Q;injection Q with Q;exact Aw ⟨zo,.inl ⟨_,_,Q.symm⟩⟩
           .exact Aw ⟨zo,.inr ⟨cs',_,M,zg⟩⟩
          have ah9:mv [BH,a] p=O ⟨D++[⟨S.name,S.arity,S.clauses++[⟨slots,[]⟩]⟩],A,V⟩:=by
           rw[qZ,xO,ZD];simp only[XX]
          have VQ:Pv.Bd (q+1) ⟨D++[⟨S.name,S.arity,S.clauses++[⟨slots,[]⟩]⟩],A,V⟩:=by
           have h0:=(nW.mono (Nat.le_succ q)).1;rw[ZD] at h0;refine⟨fun x hx=>?_,fun c n h=>(by cases h)⟩;rcases a1F.1 hx with hx | hx
           .exact h0 x (List.mem_append_left _ hx)
           .rw[a1K] at hx;subst hx;refine⟨by simp;omega,fun c hc=>?_⟩;rcases a1F.1 hc with hc | hc
            .exact(h0 S zs).2 c hc
            .rw[a1K] at hc;subst hc;have:=CP oh;grind
          clear y;refine dj EH @Hz ?_;exact⟨_,zo,q+1,_,_,_,J,zo,J,J,J,E5 Dr OS ah9 VQ⟩
        .rw[decide_eq_false gN];refine bH ?_;refine⟨fun z w'=>w'=w8/\z 166 = .bool (decide (t=Ef/\wr.length=2)),?_,?_⟩
         .by_cases jN:t=Ef
          .by_cases qF:wr.length=2
           .have gz:((wr.length+1:Nat):Int)=3:=zo;have hd:decide (t=Ef/\wr.length=2)=true:=zg;rw[hd];exact Bk @uo B3 jN gz
           .have gz:¬ ((wr.length+1:Nat):Int)=3:=zo;have hd:decide (t=Ef/\wr.length=2)=false:=zg;rw[hd];exact Bk @uo B3 jN gz
          .have hd:decide (t=Ef/\wr.length=2)=false:=zg;rw[hd];exact J5 @uo B3 jN
         .rintro z8 w9 ⟨rfl,aS2⟩ dd8;rw[aS2];by_cases ZW:t=Ef/\wr.length=2
          .rw[decide_eq_true ZW];obtain⟨jN,qF⟩:=ZW;obtain⟨a,b,rfl⟩:∃ a b,wr=[a,b]:=by
            match wr,qF with
            | [a,b],_=>grind
           subst jN;have xO:p.ask=none:=zg;have jz:cw[1]?=O (aT a):=zg;have sQ:cw[2]?=O (aT b):=asW 1 zs;refine dj @uo jz ?_;refine a1r (OL a 65 _ w9 (C7 a zs) zo B1 vp) ?_;rintro e B ⟨zD,gI⟩;have qZ:=anW (a:=a) (b:=b) xO;cases oh:ji a 65 with
           | none=>
            rw[oh] at gI qZ;obtain⟨b',rfl,M,h3⟩:=gI;exact yw yF M zg
           | some slots=>
            rw[oh] at gI qZ;subst gI;refine bH ?_;have A5:=Ip.ext zD;have OP:B.heap[kb]?=O (vT pb (aq V) 0):=by
             have:=A5.code;rw[xO] at this;exact this
            have OT:=rC.trans zD;have aS3:=(gW.trans OT).size;have VP:=zD.ext _ _ JK;have OR:=zD.ext _ _ uo;obtain⟨I,zM⟩:=cg (B.alloc (ae (Value.agg #[zi (slots:Int),bW]).cells 196 (0,0)));rw[<- zM];have zE:Ext B I:=by rw[zM];exact(bB.refl _ _).alloc _
            have g11:I.heap[B.heap.size]?=aO #[zi (slots:Int),bW] 196:=by rw[zM];exact sK J
            clear zM;have VU:Ext I I.drew:=bB.drew yF;refine⟨fun w'=>w'.heap[rb]?=aO #[ptr kb] 108/\w'.heap[wb]?=aO cw 9/\w'.heap[B.heap.size]?=aO #[zi (slots:Int),bW] 196,⟨(zE.trans VU).ext _ _ VP,(zE.trans VU).ext _ _ OR,yH⟩,?_⟩;refine cQ (ptr kb) (fun w' d=>by have:=bg d.1;exact fh @d.1) ?_;refine cQ (ptr kb) (fun w' d=>by have:=bg d.1;exact fh @d.1) ?_;refine cQ (pq wb 2) (fun w' d=>by have:=bg d.2.1;exact fh @d.2.1) ?_;refine cQ (aT b) (fun w' d=>by have:=bg d.2.1;exact lM @d.2.1 sQ) ?_;refine cQ (pp B.heap.size) (fun w' d=>by have:=bg d.2.2;exact fh @d.2.2) ?_;refine cQ (zi (slots:Int)) (fun w' d=>by have:=bg d.2.2;exact fh @d.2.2) ?_;have a0K:=CP oh;have es1:(slots:Int)+1=((slots+1:Nat):Int):=zo;refine cQ (zi ((slots+1:Nat):Int)) (fun w' d=>fh @es1) ?_;have Ld:=zD.trans (zE.trans VU);refine a1r (OL b (slots+1) _ I.drew (C7 b zs) zo (B1.ext Ld) (vp.ext Ld)) ?_;rintro e pL ⟨qP,ZX⟩;have aib:=(zE.trans VU).trans qP;cases mw:ji b (slots+1) with
            | none=>
             rw[mw] at ZX;simp only[mw] at qZ;obtain⟨b',rfl,M,h3⟩:=ZX;exact fun _=>yw yF M zg
            | some told=>
             rw[mw] at ZX;subst ZX;simp only[mw] at qZ;have aS5:=aib.ext _ _ VP;have L7:=aib.ext _ _ OP;have a0L:=(VU.trans qP).ext _ _ g11;have a0M:=bg L7;refine⟨(by grind [bB.ext]),?_⟩;refine cJ L7 ?_;have a0N:=bg OR;have lkk:=bg OP;have mJ:wb≠kb:=zg;refine⟨⟨aS5,by rw[jb mJ];grind [bB.ext],yH⟩,?_⟩;obtain⟨C,y⟩:=cg (bQ pL kb (vT pb (ptr B.heap.size) (told:Int)));have vu:bB (fun b _=>b=kb) B C:=by
              rw[y];exact ah1 (yF) yH _
             have aS6:C.heap[kb]?=O (vT pb (ptr B.heap.size) (told:Int)):=yH;have aS7:C.heap[B.heap.size]?=aO #[zi (slots:Int),bW] 196:=yH;have OS:=A5.aSs aS3 vu aS6 aS7 zo zg;have Dr:JJ w.heap.size EJ C:=by
              refine⟨vu.os.trans OT.os,vu.tape.trans OT.tape,vu.output.trans OT.output,yH,fun b o f Aw=>vu.block _ _ (OT.ext _ _ f) fun e=>Aw ?_⟩;have Q:=OT.ext _ _ f;rw[e,OP] at Q;injection Q with Q;exact⟨zo,.inr ⟨_,_,Q.symm,.inl J⟩⟩
             have VQ:Pv.Bd (q+1) ⟨p.dG,A,O (⟨slots,[]⟩,told)⟩:=⟨(nW.mono zo).1,zg⟩;subst y;refine dj EH @Hz ?_;obtain⟨k1,k2,-,k4,k5,k6⟩:=E5 Dr OS qZ VQ;exact⟨_,zo,q+1,_,_,_,J,zo,J,h6,J,k1,k2,(OT.trans aib).ext _ _ vn,k4,k5,k6⟩
          .rw[decide_eq_false ZW];have qZ:=aIZ (w0:=t) (r:=wr) (p:=p) zg tR (by grind [mz.asS]) ZW;by_cases xX:at_ = aq V
           .rw[Ip.aSw xX] at qZ;refine dj h7 xX ?_;exact Di rC fun b wy Mf f=>yw Mf f zg
           .obtain⟨ab,ol,insv,vs,c,rfl,Bo,hO,oZ,eZ,xe⟩:=Ip.aSt xX;rw[Bo] at qZ;have Ry:=hO.cell;have lab:=bg Ry;obtain⟨xP,a0Q⟩:=nW.cur Bo;obtain⟨ia,ic,rfl⟩:=gV hO.row;refine cJ h7 ?_;rw[h7];refine⟨fun w'=>w'.heap[ab]?=aO #[zi (c.slots:Int),.slice ia c.ins.length ic] 196,yH,?_⟩;refine cQ (pq ab 1) (fun w' d=>by have:=bg d;exact fh d) ?_;refine cQ (.slice ia c.ins.length ic) (fun w' d=>by have:=bg d;exact fh d) ?_;refine a1r (aRW (w:=w9.drew) (wb:=wb) (cb:=ab) (wd:=t) (ws:=wr) (slots:=c.slots) (insv:=.slice ia c.ins.length ic) (k:=((q+1:Nat):Int)) (yH) yH zo zg C7 (B1.ext zI) (vp.ext zI)) ?_;rintro e B hi;obtain⟨zD,hi⟩:=hi;have aie:=zI.trans zD;cases zy:rm c.slots (t::wr) with
            | none=>
             rw[zy] at hi;simp only[zy] at qZ;obtain⟨b',rfl,M,h3⟩:=hi;exact fun _=>yw yF M zg
            | some i=>
             rw[zy] at hi;simp only[zy] at qZ;obtain⟨cv,sv,rfl,lJ,dS⟩:=hi;obtain⟨sa,sc,rfl⟩:=gV dS;have aS8:=aie.ext _ _ Ry;refine⟨aS8,?_⟩;have iY:=lJ.cases;rcases iY with rfl | ⟨t1,u1,rfl⟩
             .refine bH ?_;obtain⟨I,zM⟩:=cg (B.alloc (ae #[aT i.word,aT i.name,ai,.slice sa i.s.length sc] 198));have zE:Ext B I:=by rw[zM];exact(bB.refl _ _).alloc _
              have g11:I.heap[B.heap.size]?=O (ae [a1N (bs i.word),aT i.name,ai,.slice sa i.s.length sc].toArray 198 (0,0)):=yH;rw[<- zM];clear zM;have E:=aie.trans zE;have VV:=E.ext _ _ Ry;have zP:=jL E.ext hO.row;have as3:=E.size;refine⟨VV,?_⟩;refine agI (base:=ol) zP g11 J (by
               intro u hu;simp only[List.mem_cons,List.not_mem_nil,or_false] at hu;rcases hu with rfl | rfl | rfl | rfl<;>rfl) zo zo fun v' pL ho N hv=>?_
              obtain⟨EK,EL,rfl⟩:=gV ho;have OU:=F5 zP N zd VV;have aS9:=bg OU;refine⟨OU,?_⟩;refine cJ OU ?_;obtain⟨C,y⟩:=cg (bQ pL ab (ae #[zi (c.slots:Int),.slice EK (c.ins.length+1) EL] 196));have aif:C.heap[ab]?=aO #[zi (c.slots:Int),.slice EK (c.ins.length+1) EL] 196:=yH;have Mg:∀ {b:Nat} {cs':Array Y} {T:Nat},T≠196->pL.heap[b]?=aO cs' T->C.heap[b]?=aO cs' T:=yH;have ko:bB (fun b o=>b=ab\/(ol<=b/\∃ cs,o = ae cs 198 (0,0))) w9 C:=by
               refine⟨?_,?_,?_,?_,fun b o f Aw=>?_⟩
               .rw[y];exact N.os.trans E.os
               .rw[y];exact N.tape.trans E.tape
               .rw[y];exact N.output.trans E.output
               .rw[y,vf];exact a1t E.size N.size
               .have ee:b≠ab:=zo;rw[y,jb ee,N.block b (bg (E.ext _ _ f)) (fun e=>?_)]
                .grind [bB.ext]
                .obtain⟨h1,-,cs',M⟩:=EG zP e.symm;grind [bB.ext]
              have VT:=F4 ho fun b cs' _ f=>Mg zd f;have hsi:vS C [a1N (bs i.word),aT i.name,ai,.slice sa i.s.length sc] [i]:=by
               refine⟨ai,.slice sa i.s.length sc,[],J,lJ,(EZ dS (F:=fun _=>True) zg).mono zg fun b cs' _ f=>?_,J⟩;exact Mg zo (F5 zP N zo (zE.ext _ _ f))
              have OS:=xe C _ _ i ko aif VT hsi;have Dr:JJ w.heap.size EJ C:=by
               refine⟨ko.os.trans rC.os,ko.tape.trans rC.tape,ko.output.trans rC.output,a1t rC.size ko.size,fun b o f Aw=>ko.block _ _ (rC.ext _ _ f) ?_⟩;have Q:=rC.ext _ _ f;rintro (e | ⟨h1,cs',M⟩)
               .rw[e,Ry] at Q;injection Q with Q;have:=hO.low;grind
               grind
              obtain⟨k1,k2,k3,k4,k5,k6⟩:=E5 Dr OS qZ (nW.add i);subst y;refine dj EH @Hz ?_;exact⟨_,zo,q+1,_,_,_,J,zo,J,h6,J,k1,k2,k3,k4,k5,k6⟩
             .refine bH ?_;obtain⟨I,zM⟩:=cg (B.alloc (ae #[aT i.word,aT i.name,aj t1 u1,.slice sa i.s.length sc] 198));have zE:Ext B I:=by rw[zM];exact(bB.refl _ _).alloc _
              have g11:I.heap[B.heap.size]?=O (ae [a1N (bs i.word),aT i.name,aj t1 u1,.slice sa i.s.length sc].toArray 198 (0,0)):=yH;rw[<- zM];clear zM;have E:=aie.trans zE;have VV:=E.ext _ _ Ry;have zP:=jL E.ext hO.row;have as3:=E.size;refine⟨VV,?_⟩;refine agI (base:=ol) zP g11 J (by
               intro u hu;simp only[List.mem_cons,List.not_mem_nil,or_false] at hu;rcases hu with rfl | rfl | rfl | rfl<;>rfl) zo zo fun v' pL ho N hv=>?_
              obtain⟨EK,EL,rfl⟩:=gV ho;have OU:=F5 zP N zd VV;have aS9:=bg OU;refine⟨OU,?_⟩;refine cJ OU ?_;obtain⟨C,y⟩:=cg (bQ pL ab (ae #[zi (c.slots:Int),.slice EK (c.ins.length+1) EL] 196));have aif:C.heap[ab]?=aO #[zi (c.slots:Int),.slice EK (c.ins.length+1) EL] 196:=yH;have Mg:∀ {b:Nat} {cs':Array Y} {T:Nat},T≠196->pL.heap[b]?=aO cs' T->C.heap[b]?=aO cs' T:=yH;have ko:bB (fun b o=>b=ab\/(ol<=b/\∃ cs,o = ae cs 198 (0,0))) w9 C:=by
               refine⟨?_,?_,?_,?_,fun b o f Aw=>?_⟩
               .rw[y];exact N.os.trans E.os
               .rw[y];exact N.tape.trans E.tape
               .rw[y];exact N.output.trans E.output
               .rw[y,vf];exact a1t E.size N.size
               .have ee:b≠ab:=zo;rw[y,jb ee,N.block b (bg (E.ext _ _ f)) (fun e=>?_)]
                .grind [bB.ext]
                .obtain⟨h1,-,cs',M⟩:=EG zP e.symm;grind [bB.ext]
              have VT:=F4 ho fun b cs' _ f=>Mg zd f;have hsi:vS C [a1N (bs i.word),aT i.name,aj t1 u1,.slice sa i.s.length sc] [i]:=by
               refine⟨aj t1 u1,.slice sa i.s.length sc,[],J,lJ,(EZ dS (F:=fun _=>True) zg).mono zg fun b cs' _ f=>?_,J⟩;exact Mg zo (F5 zP N zo (zE.ext _ _ f))
              have OS:=xe C _ _ i ko aif VT hsi;have Dr:JJ w.heap.size EJ C:=by
               refine⟨ko.os.trans rC.os,ko.tape.trans rC.tape,ko.output.trans rC.output,a1t rC.size ko.size,fun b o f Aw=>ko.block _ _ (rC.ext _ _ f) ?_⟩;have Q:=rC.ext _ _ f;rintro (e | ⟨h1,cs',M⟩)
               .rw[e,Ry] at Q;injection Q with Q;have:=hO.low;grind
               grind
              obtain⟨k1,k2,k3,k4,k5,k6⟩:=E5 Dr OS qZ (nW.add i);subst y;refine dj EH @Hz ?_;exact⟨_,zo,q+1,_,_,_,J,zo,J,h6,J,k1,k2,k3,k4,k5,k6⟩
   .have AP:q=n:=zo;subst AP;have rE:¬ ((q:Nat):Int)<((q:Nat):Int):=zo;have Ah:q+1=L.length/\Md=[]/\0<q:=by
     grind
    have dD:L.drop q=[Md]:=by
     grind [a1y,List.drop_of_length_le,a1u]
    have aTa:kT L 1 ⟨[],G,V⟩ = .ok p:=by
     rw[ZS,dD];show(if Md=[]/\1<q+1 then a3f p else a47 (q+1))=_;grind
    have U:=Io.code;rw[aTa] at lQ;refine dj EH rE ?_;cases ha:p.ask with
    | none=>
     rw[ha] at U;have lQ:rp s = .error (5,L.length):=zg;have U:w4.heap[kb]?=O (vT pb (aq V) 0):=U;have Hz:((q:Nat):Int)+1=(L.length:Int):=zo;refine⟨fun _ _=>False,?_,fun _ _ h=>h.elim⟩;refine dB ZT U hz @Hz ?_;refine(VD _ w4).mono ?_;rintro e wy ⟨Mf,b,rfl,f,-⟩;exact yw Mf f lQ
    | some cn=>
     obtain⟨c0,n0⟩:=cn;rw[ha] at U;have lQ:rp s = .ok (p.dG,c0,n0):=zg;obtain⟨ab,xX,U⟩:=U;have lkb:=bg U;have hR0:=Me.r;have hEe:=Me.e;obtain⟨K9,hC,hA⟩:=Io.done ha;have oT:=hC.1;refine⟨fun _ w'=>w'=w4,?_,?_⟩
     .exact lM ZT U
     .rintro z5 w5 rfl dd5;refine dj hR0 hEe ?_;have Au:rb≠eb:=zo;obtain⟨w6,pH⟩:=cg (bQ (bQ w5 rb (ae #[ptr kb] 108)) eb (ae #[ai] 57));have as6:∀ (b:Nat) (o:Obj),w5.heap[b]?=O o->w6.heap[b]?=O o:=yH;have lh:Ext w w6:=yF;have r6:=as6 _ _ hR0;have e6:=as6 _ _ hEe;rw[<- pH];clear pH;refine asH ?_;refine dj @r6 @e6 ?_;refine hR _ _ ⟨lh,?_⟩;rw[lQ];exact⟨kb,pb,K9,J,hC.bJ (fun b cs T _ f=>yH) yH,hA.bJ fun b cs T _ f=>yH⟩
def P.aTb{c:Co}(g:zc c)(ht:told<=c.slots):gA (0*1000000) { zf c with sr:={ (zf c).sr with fuel:=0 } }/\jG told (zf c)/\∃ x,(zf c).fs[(zf c).f]?=O x/\x.ask=true:=by
 have e:∀ (i:Nat) (x:Fm),(zf c).fs[i]?=O x->x=⟨c,a2a c.slots .nil,0,V,0,A⟩:=fun i x hx=>by
  have:x∈[(⟨c,a2a c.slots .nil,0,V,0,A⟩:Fm)]:=a2z hx;grind
 have hr:∀ y∈a2a c.slots Sl.nil,y = .nil:=zg;refine⟨⟨by show 0<1;omega,fun i x hx=>?_,(fun i a h=>by cases h),(fun i a h=>by cases h),(fun i j a b _ h=>by cases h),(by rw[Nat.zero_mul];exact a1s 0),(by rw[Nat.zero_mul];exact a1s 0),Nat.zero_le _,fun i x hx=>?_,fun i a h=>by cases h⟩,
  ⟨trivial,fun i x hx=>?_,(fun i a h=>by cases h),⟨trivial,trivial⟩,fun i x hx _=>?_⟩,_,J,J⟩
 .rw[e i x hx];exact⟨g,zs,fun y d=>by rw[hr y d];trivial,zg⟩
 .grind
 .rw[e i x hx];exact fun y d=>by rw[hr y d];trivial
 grind
structure aTc(w w':Z)(qb:Nat)(ps:List Pd)(c:Co)(n vb kb ab pb:Nat):Prop where
 cell:w'.heap[qb]?=aO (YK (Q9 ps n vb kb ab pb) bW V) 121
 Ju:w.heap.size<=vb
 ne:qb≠vb
 mem:∃ w2,Ext w w2/\Ext w2 w'/\w2.heap.size<=qb/\∀ (D:Nat->Prop) (ρ:Nat->Nat),(∀ b,w.heap.size<=b->D b)->(Q9 ps n vb kb ab pb).Mem D ρ w2 (zf c)
def aii(t:Bs)(w:Z)(e:Ending)(w':Z):Prop:=Ext w w'/\match rp t with
 | .error (c,a)=>∃ b,e = ah (ak #[aq V,aj 73 (ptr b)])/\w'.heap[b]?=O (ae #[.int .i64 (c:Int),.int .i64 (a:Int)] 77 (0,0))
 | .ok (ps,c,n)=>∃ qb vb kb ab pb,e = ah (ak #[ptr qb,ai])/\aTc w w' qb ps c n vb kb ab pb
def aTd(t:Bs)(g:B0 w)(i:lZ w)(j:F7 w)(q:∀ ps c n,rp t = .ok (ps,c,n)->c.slots<=64):Calls bbM 25 #[aT t] w (aii t w):=by
 suffices H:∀ R:Ending->Z->Prop,(∀ e w',aii t w e w'->R e w')->Calls bbM 25 #[aT t] w R from H _ zg;intro R d;refine aLL ?_;refine(aSx t g i j).mono ?_;rintro e w1 ⟨k,f⟩;unfold aii at d;cases hr:rp t with
 | error l=>
  obtain⟨c,a⟩:=l;rw[hr] at f d;obtain⟨b,rfl,r⟩:=f;refine bH ?_;grind
 | ok x=>
  obtain⟨ps,c,n⟩:=x;rw[hr] at f d;obtain⟨kb,pb,ab,rfl,hC,m⟩:=f;refine bH ?_;refine a1r (aO6 hC m zg) ?_;rintro e w2 ⟨s,vb,rfl,u,hm⟩;have s1:=k.size;refine bH ?_;have lv:vb<w2.heap.size:=by
   obtain⟨φ,ψ,av,tv,di,h⟩:=hm (fun _=>True) (fun _=>0) fun _ _=>trivial;exact bg h.cell
  obtain⟨w3,o⟩:=cg (w2.alloc (ae #[aj 111 (pp vb),pq vb 1,.func (.func 36) #[pp vb] #[],bW,ai] 121));have p:Ext w2 w3:=yF;have g3:w3.heap[w2.heap.size]?=aO #[aj 111 (pp vb),pq vb 1,.func (.func 36) #[pp vb] #[],bW,ai] 121:=yH;rw[<- o];refine d _ _ ⟨yF,w2.heap.size,vb,kb,ab,pb,J,g3,zo,zo,w2,yF,p,a1s _,fun D ρ hD=>?_⟩;exact⟨zg,(by grind [eO.ed,yr.bJ,bB.ext])⟩
def yp.Oi(hk:QW D w w'){l:List Sl}(h:yp D ρ n ud pb w v l):yp D ρ n ud pb w' v l:=by
 rcases h with h | ⟨b,cap,row,c,d,e,f,g,i,a⟩
 .exact .inl h
 .exact .inr ⟨b,cap,row,c,d,hk.own _ _ a e,f,g.bJ hk.FN (eu.refl _ _),i,a⟩
def yp.Oj{D':Nat->Prop}(a:∀ b,b<w.heap.size->D b->D' b){l:List Sl}(h:yp D ρ n ud pb w v l):yp D' ρ n ud pb w v l:=by
 rcases h with h | ⟨b,cap,row,c,d,e,f,g,i,j⟩
 .exact .inl h
 .exact .inr yH
def nF.Oi{D:Nat->Prop}{ρ:Nat->Nat}{n nf:Nat}{φ ψ:Nat->Nat}{w w':Z}(hk:QW D w w'):∀ {l:List Ga} {vs:List Y},nF D ρ n φ ψ nf w vs l->nF D ρ n φ ψ nf w' vs l
 | [],vs,h=>h
 | a::r,vs,⟨c,av,fV,rest,d,e,f,g,i,j⟩=>⟨c,av,fV,rest,d,e,f.bJ fun b cs k=>hk.FN b cs _ (yM) k,g.bJ hk.FN,i.Oi hk,nF.Oi hk j⟩
def nF.Oj{D D':Nat->Prop}{ρ:Nat->Nat}{n nf:Nat}{φ ψ:Nat->Nat}{w:Z}(c:∀ b,b<w.heap.size->D b->D' b):∀ {l:List Ga} {vs:List Y},nF D ρ n φ ψ nf w vs l->nF D' ρ n φ ψ nf w vs l
 | [],vs,h=>h
 | a::r,vs,⟨d,av,fV,rest,e,f,g,i,j,k⟩=>⟨d,av,fV,rest,e,f,g,i,j.Oj c,nF.Oj c k⟩
theorem vmD(dG:List Pd)(told vb cb fk pb:Nat):YT (Q9 dG told vb cb fk pb) where
 bJ:=by
  rintro D ρ w w' m ⟨⟨φ,ψ,av,tv,di,h⟩,h2⟩ hk;refine⟨⟨φ,ψ,av,tv,di,h.st.Oi hk,h.fl,fun i x hx=>?_,h.bk,h.dp,h.inj,afH h.ar h.da hk.own,h.ag.Oi hk,h.da⟩,h2.bJ hk.FN fun l hm=>hk.map _ _ _ hm⟩;have hi:i<m.fs.length:=zg;exact(h.fs i x hx).bJ hk.FN (eu.refl _ _) (yo.refl _ _ _) hi (fun b hb=>h.bk i x b hx hb) fun cs hb=>hk.own _ _ (h.dp i hi) hb
 cut:=by
  rintro D D' ρ w m ⟨⟨φ,ψ,av,tv,di,h⟩,h2⟩ hd;refine⟨⟨φ,ψ,av,tv,di,h.st.Oj hd,h.fl,h.fs,h.bk,fun i hi=>?_,h.inj,h.ar,h.ag.Oj hd,fun g hg=>hd _ (afI h.ar hg) (h.da g hg)⟩,h2⟩;obtain⟨row,hr,-⟩:=(h.fs i _ (a1u hi)).row;exact hd _ yH (h.dp i hi)
