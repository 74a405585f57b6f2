/- A part of one proof (VP12, KR1, KD1). -/
import Derived.Test.YtoegidfbnkaabaaGreatDoorPkKBE
set_option linter.all false
set_option maxRecDepth 100000
set_option maxHeartbeats 8000000
open Option renaming some → O, none → V
open Go renaming Value → Y, World → Z
open Bool renaming true → A, false → ae
open Go.Obj renaming cells → ah
open Go.Ending renaming returned → ai
open Go.Value renaming nilIface → aj, iface → ak, tuple → aq, pointer → au
open Go.Calls renaming mono → a0C
open Nat renaming le_refl → a0D, le_trans → a0E
open List renaming getElem?_eq_getElem → a0F, drop_eq_getElem_cons → a0I, mem_append → a0P, mem_singleton → a0Y, replicate → a1g, mem_of_getElem? → a1B, set_append_right → a3N, count_le_length → a33
open Go.Value renaming slice → a0M, string → a0U
open Go.Instr renaming loadAt → a0Q
open Except renaming ok → a2O, error → a4h
open Go.Proofs.Tryz renaming prog → baL
namespace Go.Proofs.YtoegidfbnkaabaaGreatDoor
open P
open Go.RowKit Sx
variable{D:Nat->Prop}{R:Ending->Z->Prop}{X:Y->Z->Prop}{b base c cap e k n pb told:Nat}{cs:Array Y}{o4 tv v:Y}{out s:Bs}{tS ρ:Nat->Nat}{w w':Z}
def ahN{M:Nat->Obj->Prop}{a b:Z}(h:bD M a b)(hx:∀ o,a.heap[k]?=O o->M k o)(c:Obj):bD M a (bT b k c):=
 ⟨h.os,h.tape,h.output,by rw[uY];exact h.size,(by grind [absurd,jh,bD.block])⟩
def aSv{P:Program}{T size:Nat}{K:Y->Z->Prop}(hu:P.underlying T=O (.slice e))(a:∀ w,(sizeOf e).run P w = .ok size w):WR P (Instr.buildSlice T 0 #[]) w K X=K (cU w.heap.size 0 0) (w.alloc (ah #[] e (0,0))):=by
 refine xB ?_;simp [Instr.buildSlice,run_underlying hu,a,Instr.fill,newRow,newObj,Sem.run];grind
def ahO(s:Bs)(w:Z)(e:Ending)(w':Z):Prop:=Ext w w'/\match ri s with
 | .ok (ps,c,n)=>∃ kb pb ab,e = ai (aq #[ptr kb,aj])/\yq w' kb pb ab n ps/\FC w' ab c
 | .error (c,a)=>∃ b,e = ai (aq #[au V,ak 73 (ptr b)])/\w'.heap[b]?=O (ah #[.int .i64 (c:Int),.int .i64 (a:Int)] 77 (0,0))
abbrev Js(base:Nat)(w w':Z):Prop:=bD (fun b o=>base<=b/\((∃ es n,o = .map es n)\/∃ cs T,o = ah cs T (0,0)/\(T=187\/T=185\/T=196\/T=198))) w w'
def Js.cells(h:Js base w w'){T:Nat}(a:w.heap[b]?=aP cs T)(c:¬ (T=187\/T=185\/T=196\/T=198)):w'.heap[b]?=aP cs T:=
 (by grind [bD.block])
structure Vj(w:Z)(rb eb kb:Nat):Prop where
 r:w.heap[rb]?=aP #[ptr kb] 108
 e:w.heap[eb]?=aP #[aj] 57
theorem Vj.bJ{rb kb:Nat}(h:Vj w rb pb kb)(a:Js base w w'):Vj w' rb pb kb:=⟨a.cells h.r zo,a.cells h.e zo⟩
def aSw{d:Z}(h:∀ e w',ahO s w e w'->R e w'){a rb eb:Nat}(n:Ext w d)(o:rb=w.heap.size)(p:eb=w.heap.size+1)(f:d.heap[rb]?=aP #[o4] 108)(g:d.heap[eb]?=aP #[aj] 57)
  (q:d.heap[b]?=aP #[zi (c:Int),zi (a:Int)] 77) (r:ri s = .error (c,a)) :
  LV baL (fun d=>RD baL (a0Q 108 (pp rb)) d (fun i=>RD baL (a0Q 57 (pp eb)) d (fun j=>R (ai (aq #[i,j])) d) NX) NX) R
   [{ target:=.fn (.func 66) #[pp rb,pp eb],args:=#[]++#[] }]
   (.panicking [{ v:=ak 73 (pp b),recovered:=false }]) d:=by
 refine aSj f g zo ?_;have t:=bn f;have u:=bn g;have k:(bT (bT d rb (ah #[au V] 108)) (eb) (ah #[ak 73 (pp b)] 57)).heap[rb]?=aP #[au V] 108:=by
  exact yH
 have l:eb<(bT d rb (ah #[au V] 108)).heap.size:=yH;have m:(bT (bT d rb (ah #[au V] 108)) (eb) (ah #[ak 73 (pp b)] 57)).heap[eb]?=aP #[ak 73 (pp b)] 57:=yH;have x:b≠rb:=by
  grind
 have y:b≠eb:=by
  grind
 refine dB @k @m ?_;refine h _ _ ⟨yF,?_⟩;exact yH
theorem asJ(e:Bs):∀ {l:List Bs} {q:Nat} {x:Bs},l[q]?=O x->(BJ e l)[q]?=O (if q+1<l.length then x++e else x)
 | [],_,_,h=>zg
 | [l],0,x,h=>by grind [BJ]
 | [l],q+1,x,h=>zg
 | l::m::ls,0,x,h=>by
  have:l=x:=zg;subst this;rw[BJ,zip zs];rfl
 | l::m::ls,q+1,x,h=>by
  rw[BJ,List.getElem?_cons_succ,asJ e (by simpa using h)];simp
def asK{r:Bs}{rs:List Bs}{k:Nat}{p:Pv}(h:rs≠[]):pk (r::rs) k p=match oN (gS 32 r) p with
  | none=>.error k
  | some p=>pk rs (k+1) p:=by
 cases rs with
 | nil=>grind
 | cons a b=>rfl
theorem mn.asL{p:Pv}(h:mn base w cap pb out tv p)(c:p.ask=V):out=[]↔p.preds=[]:=by
 have hk:∀ (n:Bs) (a:Nat),P.keyOf n a≠[]:=fun n a=>by unfold P.keyOf;simp
 cases h with
 | zero hk hm=>simp
 | pred b hm hu kU hD hr hv hC jT=>exact⟨zg,fun h=>by simp at h⟩
 | cl b hm hu kU hD hr hv hC oQ hO jT eW=>exact⟨zg,fun h=>by simp at h⟩
 | ask b hm hD oQ hO eW=>grind
def mn.aSx{p:Pv}(h:mn base w cap pb out tv p)(b:tv = au V):p.cur=none:=by
 cases h with
 | zero hk hm=>rfl
 | pred a hm hu kU hD hr hv hC jT=>rfl
 | cl a hm hu kU hD hr hv hC oQ hO jT eW=>grind
 | ask a hm hD oQ hO eW=>grind
def aSy(s:Bs)(hT:BI w)(hP:lP w)(hL:FT w):Calls baL 34 #[aW s] w (ahO s w):=by
 suffices H:∀ R:Ending->Z->Prop,(∀ e w',ahO s w e w'->R e w')->Calls baL 34 #[aW s] w R from H _ zg;intro R hR;refine aSg ?_;by_cases aZN:65536<s.length
 .have hli:(s.length:Int) > 65536:=zo;have lH:ri s = .error (1,0):=by grind [ri]
  refine cM hli ?_;obtain⟨w0,yj⟩:=ck (bT (bT (((w.alloc (ah #[au V] 108)).alloc (ah #[aj] 57)).alloc (ah #[zi 1,zi 0] 77)) w.heap.size (ah #[au V] 108)) (w.heap.size+1) (ah #[ak 73 (ptr (w.heap.size+1+1))] 57));rw[<- yj];have oM:Ext w w0:=yF;have q0:w0.heap[w.heap.size]?=aP #[au V] 108:=yH;have q1:w0.heap[w.heap.size+1]?=aP #[ak 73 (ptr (w.heap.size+1+1))] 57:=yH;have q2:w0.heap[w.heap.size+1+1]?=aP #[zi 1,zi 0] 77:=yH;clear yj;refine asA ?_;refine dB @q0 @q1 ?_;refine hR _ _ ⟨oM,?_⟩;grind
 .have hli:¬ (s.length:Int) > 65536:=zo;have iW:s.length<=1000000:=zo;refine cM hli ?_;obtain⟨w0,yj⟩:=ck ((w.alloc (ah #[au V] 108)).alloc (ah #[aj] 57));rw[size_alloc,<- yj];have oM:Ext w w0:=yF;have s0:w0.heap.size=w.heap.size+2:=yH;have b0:w0.heap[w.heap.size]?=aP #[au V] 108:=yH;have b1:w0.heap[w.heap.size+1]?=aP #[aj] 57:=yH;clear yj;obtain⟨rb,Lf⟩:=ck w.heap.size;obtain⟨eb,KQ⟩:=ck (w.heap.size+1);rw[<- KQ,<- Lf];rw[<- Lf] at b0;rw[<- KQ] at b1;refine a0C (aSm s 10 w0 iW (hL.ext oM)) ?_;rintro e w1 ⟨rfl,jS⟩;obtain⟨L,Lk⟩:=ck (gS 10 s);have lH:ri s=match pk L 1 ⟨[],ae,V⟩with
   | .error k=>.error (5,k)
   | .ok p=>match p.ask with
    | some (c,n)=>.ok (p.preds,c,n)
    | none=>.error (5,L.length):=by grind [ri]
  have hLf:∀ l∈L,(10:UInt8) ∉ l/\l.length<=s.length:=by grind [adR]
  have hLn:L≠[]:=by grind [ahK]
  have hLl:L.length<=1000001:=by grind [Vh,a33]
  rw[<- Lk] at jS ⊢;clear Lk;have hN:0<L.length:=List.length_pos_iff.2 hLn;obtain⟨cs,jP⟩:=ck (((BJ [10] L).map fun s=>a0U (bs s)).toArray);have ahE:∀ (q:Nat) (x:Bs),L[q]?=O x->cs[q]?=O (aW (if q+1<L.length then x++[10] else x)):=(by grind [asJ]);have dC:Ext w0 w1:=yF;have g1:w1.heap[w0.heap.size]?=aP cs 9:=yH;have s1:w1.heap.size=w.heap.size+3:=yH;clear jS;obtain⟨sb,yJ⟩:=ck w0.heap.size;rw[<- yJ] at g1 ⊢;have lsb:=bn g1;obtain⟨LH,Zq⟩:∃ x,L[L.length-1]?=O x:=⟨_,a0F zo⟩;have fx:=ahE _ _ Zq;rw[bO zo] at fx;refine⟨fun z w'=>w'=w1/\∃ n c,z 4 = cU sb n c/\((n+1=L.length/\LH=[]/\0<n)\/(n=L.length/\¬ (LH=[]/\1<L.length))),?_,?_⟩
  .have eN:(L.length:Int)-1=((L.length-1:Nat):Int):=zo;have Y0:((L.length-1:Nat):Int)<(L.length:Int):=zo;have aSB:((L.length-1:Nat):Int)<=(L.length:Int):=zo;refine cM @eN ?_;refine⟨fun z w'=>w'=w1/\z 36 = .bool (decide (LH=[]/\1<L.length)),?_,?_⟩
   .cases LH with
    | nil=>
     by_cases Ej:1<L.length
     .have pM:((L.length-1:Nat):Int) > 0:=zo;exact AV @g1 fx Y0 (zA pM (zA Ej @eN))
     .have pM:¬ ((L.length-1:Nat):Int) > 0:=zo;exact AV @g1 fx Y0 (zA pM (zA Ej @eN))
    | cons x r=>
     have vZ:decide (x::r=[])=false:=zs;have Vi:¬ bs (x::r)=bs []:=zg;have xG:decide (x::r=[]/\1<L.length)=false:=zs;exact AV @g1 fx Y0 (zA vZ (zA Vi (zA @eN xG))) (by intro q01 q11 q21 q31;simp (disch:=first|assumption|omega|simp only[zS]<;>omega|decide) only[zB,simprocAttr,lp,q01,q11,q21,q31];simp)
   .rintro z w2 ⟨rfl,hz⟩ dd;rw[hz];by_cases hc:LH=[]/\1<L.length
    .rw[decide_eq_true hc];refine dB aSB @eN ?_;refine⟨L.length-1,L.length,?_,zg⟩;grind [aJN]
    .rw[decide_eq_false hc];refine bF ?_;grind
  .rintro z w2 ⟨rfl,n,c,hz,hn⟩ dd;refine cM hz ?_;have dT:=oM.trans dC;obtain⟨w3,sI⟩:=ck (bT ((w2.alloc (.map #[] 0)).alloc (ah #[.map (O w2.heap.size),au V,zi 0] 187)) rb (ah #[ptr (w2.heap.size+1)] 108));have b02:=dC.ext _ _ b0;have b12:=dC.ext _ _ b1;have lr2:=bn b02;have le2:=bn b12;refine dB @b02 hz ?_;rw[<- sI];have eK:Ext w w3:=yF;have pr3:w3.heap[rb]?=aP #[ptr (w2.heap.size+1)] 108:=yH;have pe3:w3.heap[eb]?=aP #[aj] 57:=yH;have ps3:w3.heap[sb]?=aP cs 9:=yH;have Zr:w3.heap[w2.heap.size+1]?=O (vV w2.heap.size (au V) 0):=yH;have pm3:w3.heap[w2.heap.size]?=O (eP []):=by rw[sI,jh zo,Mi (by rw[size_alloc];omega)];exact tz J
   have s3:w3.heap.size=w2.heap.size+2:=yH;clear sI;obtain⟨pb,gk⟩:=ck w2.heap.size;obtain⟨kb,hkb⟩:=ck (w2.heap.size+1);rw[<- hkb] at pr3 Zr;rw[<- gk] at pm3 Zr;have Cf:n<=L.length:=zo;refine⟨fun m z w'=>∃ q p key at_,z 45=zi ((q:Nat):Int)/\q<=n/\m=n-q/\z 6 = aW key/\z 7=at_/\Ext w w'/\Vj w' rb eb kb/\w'.heap[sb]?=aP cs 9/\mn w.heap.size w' kb pb key at_ p/\pk L 1 ⟨[],ae,V⟩=pk (L.drop q) (q+1) p/\p.Bd q/\q<L.length,
    ⟨_,0,⟨[],ae,V⟩,[],au V,J,Nat.zero_le _,J,J,J,eK,⟨pr3,pe3⟩,ps3,.zero Zr pm3,J,⟨zg,zg⟩,hN⟩,?_⟩
   clear pr3 pe3 ps3 Zr pm3 eK s3 b02 b12 lr2 le2;intro m z3 d3 w4 hI;refine toPr ?_;obtain⟨q,p,key,at_,Ew,hq,rfl,h6,h7,gn,LK,vj,H6,Zs,nK,aZQ⟩:=hI;have Zt:=LK.r;have aZR:=bn Zt;have aZS:=bn LK.e;have ls4:=bn vj;have yu:((q:Nat):Int).toNat=q:=zo;have yv:∀ {U:Z} {a b:Nat},Ext w4 U->U.heap[b]?=aP #[zi 5,zi ((a:Nat):Int)] 77->ri s = .error (5,a) ->
     LV baL (fun U=>RD baL (a0Q 108 (pp rb)) U (fun r1=>RD baL (a0Q 57 (pp eb)) U (fun r2=>R (ai (aq #[r1,r2])) U) NX) NX) R
      [{ target:=.fn (.func 66) #[pp rb,pp eb],args:=#[]++#[] }] (.panicking [{ v:=ak 73 (pp b),recovered:=false }]) U:=fun{U a b} hE f Hi=>
    aSw hR yF Lf KQ (hE.ext _ _ LK.r) (hE.ext _ _ LK.e) f Hi
   by_cases hqn:q<n
   .have rv:((q:Nat):Int)<((n:Nat):Int):=zo;have hqL:q<L.length:=zo;obtain⟨r,hr⟩:∃ r,L[q]?=O r:=⟨_,a0F hqL⟩;have Af:L[q]=r:=zg;have hcq:=ahE _ _ hr;obtain⟨hrn,hrl⟩:=hLf r (a1B hr);have Oj:L.drop q=r::L.drop (q+1):=by grind [a0I]
    refine dL Ew rv vj (zA hcq (zA @yu hz)) ?_;have hcut:∃ en:Bool,(en=A↔q+1<L.length)/\Calls baL 68 #[aW (if q+1<L.length then r++[10] else r),aW [10]] w4 fun e w'=>e = ai (aq #[aW r,.bool en])/\w'=w4:=by
     by_cases hlt:q+1<L.length
     .rw[zip hlt];refine⟨A,zg,(asF _ 10 w4 zg).mono ?_⟩;rintro e w' ⟨rfl,rfl⟩;grind [aSn]
     .rw[bO hlt];refine⟨ae,zg,(asF _ 10 w4 zo).mono ?_⟩;rintro e w' ⟨rfl,rfl⟩;grind [aSo,Go.Lib.trimSuffix]
    obtain⟨en,hen,hcut⟩:=hcut;refine a0C hcut ?_;rintro e Ez ⟨rfl,rfl⟩;refine bF ?_;refine a0C (aSl r 32 Ez zo (hL.ext gn)) ?_;rintro e w5 ⟨rfl,ow⟩;obtain⟨ws,He⟩:=ck (gS 32 r);have CR:∀ l∈ws,l.length<=1000000:=by rw[He];intro l hl;have:=(adR 32 r l hl).2;omega
    have hwl:ws.length<=65537:=by grind [Vh,a33]
    have hwn:ws≠[]:=by grind [ahK]
    rw[<- He] at ow ⊢;obtain⟨t,wr,rfl⟩:∃ a b,ws=a::b:=by
     cases ws with
     | nil=>grind
     | cons a b=>grind
    have mZ:Ext Ez w5:=yF;have g5:w5.heap[Ez.heap.size]?=O (ahM (t::wr)):=yH;clear ow;obtain⟨wb,rK⟩:=ck Ez.heap.size;rw[<- rK] at g5 ⊢;have lw5:=bn g5;have EA:((q:Nat):Int)+1=((q+1:Nat):Int):=zo;refine dB Ew @EA ?_;have aSH:IntKind.i64.wrap (((q:Nat):Int)+1)=((q+1:Nat):Int):=fj @EA;try rw[List.length_cons]
    try rw[aSH]
    obtain⟨cw,hcw⟩:=ck (((t::wr).map fun s=>a0U (bs s)).toArray);have BK:cw[0]?=O (aW t):=zg;have asP:∀ q,(hq:q<wr.length)->cw[q+1]?=O (aW (wr[q])):=zg;have W:w5.heap[wb]?=aP cw 9:=zg;have rq:=gn.trans mZ;have H7:=H6.ext mZ;have Jt:=mZ.ext _ _ Zt;have aZY:=mZ.ext _ _ LK.e;have aZZ:=bn Jt;have S:=H7.code;have zc:kb<w5.heap.size:=by
     cases ha:p.ask with
     | none=>grind
     | some cn=>
      rw[ha] at S;grind
    have aSI:en=A->oN (t::wr) p=V->ri s = .error (5,q+1):=fun he hl=>by
     rw[lH,Zs,Oj,asK (by
      intro e;have h1:=congrArg List.length e;grind),<- He,hl]
    have aZ0:∀ p',en=A->oN (t::wr) p=O p'->pk L 1 ⟨[],ae,V⟩=pk (L.drop (q+1)) (q+1+1) p':=fun p' he hl=>by
     rw[Zs,Oj,asK (by
      intro e;have h1:=congrArg List.length e;grind),<- He,hl]
    have aZ1:en=ae->ri s = .error (5,q+1):=fun he=>by
     have h1:¬ q+1<L.length:=zg;have I:L.drop (q+1)=[]:=zg;have fS:L.length-1=q:=zo;rw[fS,hr] at Zq;injection Zq with Zq;rcases hn with⟨h3,-⟩| ⟨h3,h4⟩
     .omega
     .rw[lH,Zs,Oj,I];show(match (if r=[]/\1<q+1 then a2O p else a4h (q+1)) with
       | a4h k=>a4h (5,k)
       | a2O p=>match p.ask with
        | some (c,n)=>a2O (p.preds,c,n)
        | none=>a4h (5,L.length))=_
      grind
    have C5:∀ {U:Z} {K:Y->Z->Prop} {X:List PanicEntry->Z->Prop},Ext Ez U->(∀ b wy,Ext Ez wy->wy.heap[b]?=aP #[zi 5,zi ((q+1:Nat):Int)] 77->X [{ v:=ak 73 (pp b),recovered:=false }] wy) ->
      Calls baL 70 #[zi ((q+1:Nat):Int)] U (ends K X):=fun{U K X} hE hX=>by
     refine(Vb _ U).mono ?_;rintro e wy ⟨LM,b,rfl,f,-⟩;exact hX b wy yF f
    obtain⟨late,aZ2⟩:∃ b:Prop,b=(p.ask≠V/\(t=CC\/t=Bq\/t=D7)):=⟨_,J⟩;refine⟨fun _ w'=>w'=w5/\en=A/\¬ late,?_,?_⟩
    .refine⟨fun z w'=>w'=w5/\∃ b,z 85 = .bool b/\(b=A->ri s = .error (5,q+1))/\(b=ae->en=A/\¬ late),?_,?_⟩
     .cases aSJ:en with
      | false=>
       refine bF ?_;grind
      | true=>
       cases ha:p.ask with
       | none=>
        rw[ha] at S;have S:w5.heap[kb]?=O (vV pb (au V) 0):=S;refine dB Jt S ?_;grind
       | some cn=>
        rw[ha] at S;obtain⟨ab,-,S⟩:=S;have eh:p.ask≠none:=zg;by_cases jZ:t=CC
        .subst jZ;refine dL Jt S @W BK ?_;exact⟨A,J,fun _=>aSI aSJ (Xx eh (.inl J)),zg⟩
        .have aZ3:¬ bs t=bs [112,114,101,100]:=zg;by_cases tG:t=Bq
         .subst tG;refine dL Jt S @W BK ?_;exact⟨A,J,(by grind [Xx]),zg⟩
         .by_cases qT:t=D7
          .subst qT;refine dL Jt S @W BK ?_;exact⟨A,J,(by grind [Xx]),zg⟩
          .refine dL Jt S @W (zA BK (zA jZ (zA tG qT))) ?_;grind
     .rintro z5 w6 ⟨rfl,b,hzb,ja,N⟩ dd;rw[hzb];cases b with
      | true=>
       refine dB Ew @EA ?_;exact C5 mZ fun b wy LM f=>yv LM f (ja J)
      | false=>
       refine bF ?_;grind
    .rintro z5 w6 ⟨rfl,aSL,xQ⟩ dd;have zw:Ext w6 w6.drew:=yF;have pX:=mZ;have EU:∀ {U:Z} {ahT:Bs} {at':Y} {p':Pv},Js w.heap.size Ez U->mn w.heap.size U kb pb ahT at' p'->oN (t::wr) p=O p'->p'.Bd (q+1) ->
       Ext w U/\Vj U rb eb kb/\U.heap[sb]?=aP cs 9/\mn w.heap.size U kb pb ahT at' p'/\pk L 1 ⟨[],ae,V⟩=pk (L.drop (q+1)) (q+1+1) p'/\p'.Bd (q+1)/\q+1<L.length:=fun{U ahT at' p'} hF hX qO aSM=>
      ⟨⟨hF.os.trans gn.os,hF.tape.trans gn.tape,hF.output.trans gn.output,a0E gn.size hF.size,fun b o f _=>hF.block _ _ (gn.ext _ _ f) yH⟩,LK.bJ hF,hF.cells vj zo,hX,zg,aSM,hen.1 aSL⟩
     have Hq:=hT.ext rq;have vn:=hP.ext rq;refine⟨fun z w'=>w'=w6/\z 90 = .bool (decide (t=CC/\wr.length=2)),?_,?_⟩
     .by_cases jZ:t=CC
      .by_cases qu:wr.length=2
       .have gH:((wr.length+1:Nat):Int)=3:=zo;have hd:decide (t=CC/\wr.length=2)=true:=zg;rw[hd];exact AV @W BK jZ gH
       .have gH:¬ ((wr.length+1:Nat):Int)=3:=zo;have hd:decide (t=CC/\wr.length=2)=false:=zg;rw[hd];exact AV @W BK jZ gH
      .have hd:decide (t=CC/\wr.length=2)=false:=zg;rw[hd];exact JM @W BK jZ
     .rintro z6 w7 ⟨rfl,aSN⟩ dd6;rw[aSN];by_cases qY:t=CC/\wr.length=2
      .rw[decide_eq_true qY];obtain⟨jZ,qu⟩:=qY;obtain⟨a,b,rfl⟩:∃ a b,wr=[a,b]:=by
        match wr,qu with
        | [a,b],_=>grind
       subst jZ;have xO:p.ask=none:=zg;have qO:=aIZ (a:=a) (b:=b) xO;have jH:cw[1]?=O (aW a):=zg;have sw:cw[2]?=O (aW b):=asP 1 zs;refine bF ?_;refine⟨fun w'=>Ext w7 w',zw,?_⟩;refine cR (pq wb 1) (fun w' d=>by have h9:=d.ext _ _ W;have:=bn h9;exact fj h9) ?_;refine cR (aW a) (fun w' d=>by have h9:=d.ext _ _ W;have:=bn h9;exact lW h9 jH) ?_;refine cR (pq wb 2) (fun w' d=>by have h9:=d.ext _ _ W;have:=bn h9;exact fj h9) ?_;refine cR (aW b) (fun w' d=>by have h9:=d.ext _ _ W;have:=bn h9;exact lW h9 sw) ?_;refine a0C (ahB a _ w7.drew (CR a zs)) ?_;rintro e w8 ⟨ti,my⟩;have vT:=zw.trans ti;cases Vl:pS a with
       | none=>
        rw[Vl] at my qO;obtain⟨b',rfl,I,h3⟩:=my;exact fun _=>yv yF I zg
       | some nm=>
        rw[Vl] at my;subst my;refine⟨vT,?_⟩;refine a0C (On b 64 _ w8 (CR b zs) zo (Hq.ext vT) (vn.ext vT)) ?_;rintro e w9 ⟨ml,gP⟩;have tj:=vT.trans ml;cases mj:km b 64 with
        | none=>
         rw[mj] at gP;rw[Vl,mj] at qO;obtain⟨b',rfl,I,h3⟩:=gP;exact fun _=>yv yF I zg
        | some ar=>
         rw[mj] at gP;subst gP;rw[Vl,mj] at qO;have kU:=Cz mj;have aSO:nm.length<=100:=by
          have:=(Tb Vl).2.1;grind [Tb]
         refine a0C (afZ nm ar aSO zo w9) ?_;rintro e B ⟨rfl,rfl⟩;have yw:=H7.ext tj;obtain⟨l,Oa,aSP⟩:=yw.close;have Ot:B.heap[kb]?=O (vV pb (au V) 0):=by
          have:=yw.code;rw[xO] at this;exact this
         have Vn:=tj.ext _ _ Jt;have aZ5:=bn Ot;have aZ6:=bn Oa;have QK:=aSP.find (name:=nm) (n:=ar) zo (j:=0);refine⟨fun _ w'=>w'=B/\fP (P.keyOf nm ar) l 0=V,?_,?_⟩
         .refine dB Vn Ot ?_;rw[K7 (k:=9) (e:=192) (z:=b9) zk zk zk Oa (P.keyOf nm ar) A];cases hf:fP (P.keyOf nm ar) l 0 with
          | none=>simp (disch:=first|assumption|omega|simp only[zS]<;>omega|decide) only[zB,simprocAttr,lp]
          | some kv=>
           obtain⟨k,v⟩:=kv;rw[hf] at QK;obtain⟨p0,oY,-⟩:=QK;refine bF ?_;have aSQ:p.preds.any (fun q=>q.name == nm && q.arity == ar)=true:=by
            grind
           exact C5 yF fun b' wy LM f=>yv LM f zg
         .rintro z7 G ⟨rfl,hf⟩ d7;rw[hf] at QK;have aSQ:p.preds.any (fun q=>q.name == nm && q.arity == ar)=false:=by
           cases han:p.preds.any (fun q=>q.name == nm && q.arity == ar) with
           | false=>rfl
           | true=>
            obtain⟨p0,h1,I⟩:=List.any_eq_true.1 han;grind
          refine dB Vn Ot ?_;rw[aSv (size:=1) zk (fun w=>F6 zk w)];obtain⟨qd,ahU⟩:=ck (G.alloc (ah #[] 185));rw[<- ahU];have rL:Ext G qd:=by rw[ahU];exact(bD.refl _ _).alloc _
          have g12:qd.heap[G.heap.size]?=aP #[] 185:=yH;clear ahU;have YQ:=rL.ext _ _ Oa;have aZ7:=bn YQ;rw[aLC (k:=9) (e:=192) (z:=b9) zk zk zk YQ (P.keyOf nm ar) hf];obtain⟨C,y⟩:=ck (bT qd pb (eP (l++[(P.keyOf nm ar,b9)])));rw[<- y];have QT:C.heap[pb]?=O (eP (l++[(P.keyOf nm ar,b9)])):=yH;refine bF ?_;rw[aLD (s:=P.keyOf nm ar) (u:=b9) QT zg];have Cs:(l++[(P.keyOf nm ar,a0M V 0 0)]).set l.length (P.keyOf nm ar,cU G.heap.size 0 0)=l++[(P.keyOf nm ar,cU G.heap.size 0 0)]:=by
           rw[a3N _ _ (a0D _)];simp
          rw[Cs];have aZ8:=bn QT;obtain⟨Jc,Zu⟩:=ck (bT C pb (eP (l++[(P.keyOf nm ar,cU G.heap.size 0 0)])));rw[<- Zu];have Ra:bD (fun b _=>b=pb) G Jc:=by
           rw[Zu,y];exact ahN (ahN yF yH _) yH _
          have aSS:Jc.heap[G.heap.size]?=aP #[] 185:=by rw[Zu,jh zo,y,jh zo];omega
          have aST:Jc.heap[pb]?=O (eP (l++[(P.keyOf nm ar,cU G.heap.size 0 0)])):=yH;have aSU:=yw.aSq xO zo Oa hf Ra aSS zo zo aST;have Dc:Js w.heap.size Ez Jc:=by
           refine⟨Ra.os.trans (pX.trans tj).os,Ra.tape.trans (pX.trans tj).tape,Ra.output.trans (pX.trans tj).output,a0E (pX.trans tj).size Ra.size,fun b o f hn=>Ra.block _ _ ((pX.trans tj).ext _ _ f) fun e=>hn ?_⟩;have N:=(pX.trans tj).ext _ _ f;rw[e,Oa] at N;injection N with N;exact⟨zo,.inl ⟨_,_,N.symm⟩⟩
          clear Zu y;have ahV:oN [CC,a,b] p=O ⟨p.preds++[⟨nm,ar,[]⟩],ae,V⟩:=zg;have Vo:Pv.Bd (q+1) ⟨p.preds++[⟨nm,ar,[]⟩],ae,V⟩:=by
           refine⟨fun x hx=>?_,zg⟩;rcases a0P.1 hx with hx | hx
           .exact(nK.mono zo).1 x hx
           .rw[a0Y] at hx;subst hx;exact⟨Nat.zero_le _,zg⟩
          refine dB Ew @EA ?_;exact⟨_,zo,q+1,_,_,_,J,zo,J,J,J,EU Dc aSU ahV Vo⟩
      .rw[decide_eq_false qY];refine bF ?_;refine⟨fun z w'=>w'=w7/\z 131 = .bool (decide (t=Bq/\wr.length=1/\key≠[])),?_,?_⟩
       .by_cases jZ:t=Bq
        .by_cases qu:wr.length=1
         .have gH:((wr.length+1:Nat):Int)=2:=zo;by_cases hky:key=[]
          .have hd:decide (t=Bq/\wr.length=1/\key≠[])=false:=zg;rw[hd];exact AV @W BK jZ (zA gH (zA h6 hky))
          .have hd:decide (t=Bq/\wr.length=1/\key≠[])=true:=zg;have aSV:¬ bs key=bs []:=zg;rw[hd];exact AV @W BK jZ (zA gH (zA h6 (zA hky aSV)))
         .have gH:¬ ((wr.length+1:Nat):Int)=2:=zo;have hd:decide (t=Bq/\wr.length=1/\key≠[])=false:=zg;rw[hd];exact AV @W BK jZ gH
        .have hd:decide (t=Bq/\wr.length=1/\key≠[])=false:=zg;rw[hd];exact JM @W BK jZ
       .rintro z7 w8 ⟨rfl,aSW⟩ dd7;rw[aSW];by_cases fx:t=Bq/\wr.length=1/\key≠[]
        .rw[decide_eq_true fx];obtain⟨jZ,qu,hky⟩:=fx;obtain⟨a,rfl⟩:∃ a,wr=[a]:=by
          match wr,qu with
          | [a],_=>grind
         subst jZ;have xO:p.ask=none:=zg;have jH:cw[1]?=O (aW a):=zg;refine dB @W jH ?_;refine a0C (On a 65 _ w8 zg zo Hq vn) ?_;rintro e w9 ⟨ml,gP⟩;have asR:p.preds≠[]:=(by grind [mn.asL]);have qO:=aI0 (a:=a) xO asR;cases nU:km a 65 with
         | none=>
          rw[nU] at gP qO;obtain⟨b',rfl,I,h3⟩:=gP;exact yv yF I zg
         | some slots=>
          rw[nU] at gP qO;subst gP;have Zv:=H7.ext ml;have aZ9:w9.heap[kb]?=O (vV pb (au V) 0):=by
           have:=Zv.code;rw[xO] at this;exact this
          have Ou:=pX.trans ml;have hs9:=(gn.trans Ou).size;have a0a:=ml.ext _ _ Jt;obtain⟨l,v,cbs,pl,Q,D,Zc,O3,hm9,hu,eU,jT,a0b,wY⟩:=Zv.aSr hs9 xO asR;obtain⟨va,vc,rfl⟩:=ij eU;have hfa:fP key (l++[(key,a0M va Q.clauses.length vc)]) 0=O (0+l.length,.slice va Q.clauses.length vc):=by rw[Yi,hu];simp
          have a0c:Q.clauses.length<=q:=(nK.1 Q zg).1;rw[h6];refine bF ?_;obtain⟨B,Ov⟩:=ck (w9.alloc (ah (Value.agg #[zi (slots:Int),b9]).cells 196 (0,0)));rw[<- Ov];have C7:Ext w9 B:=by rw[Ov];exact(bD.refl _ _).alloc _
          have g10:B.heap[w9.heap.size]?=aP #[zi (slots:Int),b9] 196:=by rw[Ov];exact tz J
          clear Ov;have asT:Ext w9 B.drew:=yF;have hSk:∀ {w':Z},Ext w9 w'->w'.heap[rb]?=aP #[ptr kb] 108/\w'.heap[kb]?=O (vV pb (au V) 0)/\w'.heap[pb]?=O (eP (l++[(key,.slice va Q.clauses.length vc)])):=(by grind [bD.ext]);refine⟨fun w'=>w'.heap[rb]?=aP #[ptr kb] 108/\w'.heap[kb]?=O (vV pb (au V) 0)/\w'.heap[pb]?=O (eP (l++[(key,.slice va Q.clauses.length vc)])),hSk asT,?_⟩;refine cR (ptr kb) (fun w' d=>by have:=bn d.1;exact fj @d.1) ?_;refine cR (ptr kb) (fun w' d=>by have:=bn d.2.1;exact fj @d.2.1) ?_;refine cR (.map (O pb)) (fun w' d=>by have:=bn d.2.1;exact fj @d.2.1) ?_;refine cR (ptr kb) (fun w' d=>by have:=bn d.1;exact fj @d.1) ?_;refine cR (ptr kb) (fun w' d=>by have:=bn d.2.1;exact fj @d.2.1) ?_;refine cR (.map (O pb)) (fun w' d=>by have:=bn d.2.1;exact fj @d.2.1) ?_;refine cR (.slice va Q.clauses.length vc) (fun w' d=>by rw[K7 (k:=9) (e:=192) (z:=b9) zk zk zk d.2.2 key ae,hfa];rfl) ?_;refine bF ?_;obtain⟨G,zC⟩:=ck (B.drew.alloc (ah #[pp w9.heap.size] 185));have vQ:Ext B.drew G:=by rw[zC];exact(bD.refl _ _).alloc _
          have g11:G.heap[B.drew.heap.size]?=aP #[pp w9.heap.size] 185:=yH;rw[<- zC];have E:=asT.trans vQ;have aSZ:G.heap[B.heap.size]?=aP #[pp w9.heap.size] 185:=g11;clear zC;have Vp:=hSk E;have zD:=jQ E.ext eU;have aS0:G.heap[w9.heap.size]?=aP #[zi (slots:Int),b9] 196:=vQ.ext _ _ ((bD.drew (bD.refl (fun _ _=>False) B)).block _ _ g10 zg);have asV:=E.size;refine⟨Vp,?_⟩;refine ar0 (base:=pl) zD aSZ zo zo fun v' qd ho M hv=>?_;obtain⟨EB,EC,rfl⟩:=ij ho;have Zw:qd.heap[pb]?=O (eP (l++[(key,.slice va Q.clauses.length vc)])):=by
           rw[M.block _ (bn Vp.2.2) (fun e=>?_)]
           .grind
           .obtain⟨-,-,cs',h1⟩:=Ev zD e.symm;rw[Vp.2.2] at h1;cases h1
          refine⟨⟨FQ zD M zo Vp.1,FQ zD M zo Vp.2.1,Zw⟩,?_⟩;rw[api (k:=9) (e:=192) zk zk Zw key hfa];have Cs:(l++[(key,a0M va Q.clauses.length vc)]).set (0+l.length) (key,.slice EB (Q.clauses.length+1) EC)=l++[(key,.slice EB (Q.clauses.length+1) EC)]:=by
           rw[Nat.zero_add,a3N _ _ (a0D _)];simp
          rw[Cs];have aS1:=bn Zw;obtain⟨C,y⟩:=ck (bT qd pb (eP (l++[(key,.slice EB (Q.clauses.length+1) EC)])));rw[<- y];have QT:C.heap[pb]?=O (eP (l++[(key,.slice EB (Q.clauses.length+1) EC)])):=by rw[y];exact qo J aS1
          have LN:∀ {b T:Nat} {cs':Array Y},qd.heap[b]?=aP cs' T->C.heap[b]?=aP cs' T:=fun{b T cs'} f=>by
           rw[y,jh (fun e=>by rw[e,Zw] at f;cases f)];omega
          have ku:bD (fun b o=>b=pb\/(pl<=b/\∃ cs,o = ah cs 185 (0,0))) w9 C:=by
           refine⟨?_,?_,?_,?_,fun b o f Ah=>?_⟩
           .rw[y];exact M.os.trans E.os
           .rw[y];exact M.tape.trans E.tape
           .rw[y];exact M.output.trans E.output
           .rw[y,uY];exact a0E E.size M.size
           .have eh:b≠pb:=zo;rw[y,jh eh,M.block b (bn (E.ext _ _ f)) (fun e=>?_)]
            .exact E.ext _ _ f
            .obtain⟨h1,-,cs',I⟩:=Ev zD e.symm;rw[E.ext _ _ f] at I;injection I with I;exact Ah (.inr ⟨h1,cs',I⟩)
          have aS2:∃ b,(a0M EB (Q.clauses.length+1) EC).ownBlock=O b:=by
           rcases ho.2 with⟨-,h0⟩| ⟨g,cap,cur,h1,-⟩
           .omega
           .rw[h1];exact⟨g,J⟩
          have Vq:C.ownsRow pl 185 1 (.slice EB (Q.clauses.length+1) EC) (Q.clauses.length+1) (Jr cbs++[ptr w9.heap.size]):=FP ho fun b cs' _ f=>LN f;have Ow:=wY C _ w9.heap.size slots ku QT Vq aS2 (LN (FQ zD M zo aS0)) zo;have Dc:Js w.heap.size Ez C:=by
           refine⟨ku.os.trans Ou.os,ku.tape.trans Ou.tape,ku.output.trans Ou.output,a0E Ou.size ku.size,fun b o f Ah=>ku.block _ _ (Ou.ext _ _ f) ?_⟩;have N:=Ou.ext _ _ f;rintro (e | ⟨h1,cs',I⟩)
           .rw[e,hm9] at N;injection N with N;exact Ah ⟨zo,.inl ⟨_,_,N.symm⟩⟩
           .exact Ah ⟨zo,.inr ⟨cs',_,I,zg⟩⟩
          have ahV:oN [Bq,a] p=O ⟨D++[⟨Q.name,Q.arity,Q.clauses++[⟨slots,[]⟩]⟩],A,V⟩:=by
           rw[qO,xO,Zc];simp only[anO]
          have Vo:Pv.Bd (q+1) ⟨D++[⟨Q.name,Q.arity,Q.clauses++[⟨slots,[]⟩]⟩],A,V⟩:=by
           have h0:=(nK.mono (Nat.le_succ q)).1;rw[Zc] at h0;refine⟨fun x hx=>?_,fun c n h=>(by cases h)⟩;rcases a0P.1 hx with hx | hx
           .exact h0 x (List.mem_append_left _ hx)
           .rw[a0Y] at hx;subst hx;refine⟨by simp;omega,fun c hc=>?_⟩;rcases a0P.1 hc with hc | hc
            .exact(h0 Q zs).2 c hc
            .rw[a0Y] at hc;subst hc;have:=Cz nU;grind
          clear y;refine dB Ew @EA ?_;exact⟨_,zo,q+1,_,_,_,J,zo,J,J,J,EU Dc Ow ahV Vo⟩
        .rw[decide_eq_false fx];refine bF ?_;refine⟨fun z w'=>w'=w8/\z 166 = .bool (decide (t=D7/\wr.length=2)),?_,?_⟩
         .by_cases jZ:t=D7
          .by_cases qu:wr.length=2
           .have gH:((wr.length+1:Nat):Int)=3:=zo;have hd:decide (t=D7/\wr.length=2)=true:=zg;rw[hd];exact AV @W BK jZ gH
           .have gH:¬ ((wr.length+1:Nat):Int)=3:=zo;have hd:decide (t=D7/\wr.length=2)=false:=zg;rw[hd];exact AV @W BK jZ gH
          .have hd:decide (t=D7/\wr.length=2)=false:=zg;rw[hd];exact JM @W BK jZ
         .rintro z8 w9 ⟨rfl,aS3⟩ dd8;rw[aS3];by_cases Zx:t=D7/\wr.length=2
          .rw[decide_eq_true Zx];obtain⟨jZ,qu⟩:=Zx;obtain⟨a,b,rfl⟩:∃ a b,wr=[a,b]:=by
            match wr,qu with
            | [a,b],_=>grind
           subst jZ;have xO:p.ask=none:=zg;have jH:cw[1]?=O (aW a):=zg;have sw:cw[2]?=O (aW b):=asP 1 zs;refine dB @W jH ?_;refine a0C (On a 65 _ w9 (CR a zs) zo Hq vn) ?_;rintro e B ⟨C7,gP⟩;have qO:=anP (a:=a) (b:=b) xO;cases nU:km a 65 with
           | none=>
            rw[nU] at gP qO;obtain⟨b',rfl,I,h3⟩:=gP;exact yv yF I zg
           | some slots=>
            rw[nU] at gP qO;subst gP;refine bF ?_;have yw:=H7.ext C7;have Ot:B.heap[kb]?=O (vV pb (au V) 0):=by
             have:=yw.code;rw[xO] at this;exact this
            have Ox:=pX.trans C7;have aS4:=(gn.trans Ox).size;have Vn:=C7.ext _ _ Jt;have Ov:=C7.ext _ _ W;obtain⟨G,zC⟩:=ck (B.alloc (ah (Value.agg #[zi (slots:Int),b9]).cells 196 (0,0)));rw[<- zC];have vQ:Ext B G:=by rw[zC];exact(bD.refl _ _).alloc _
            have g11:G.heap[B.heap.size]?=aP #[zi (slots:Int),b9] 196:=by rw[zC];exact tz J
            clear zC;have Vr:Ext G G.drew:=bD.drew yF;refine⟨fun w'=>w'.heap[rb]?=aP #[ptr kb] 108/\w'.heap[wb]?=aP cw 9/\w'.heap[B.heap.size]?=aP #[zi (slots:Int),b9] 196,⟨(vQ.trans Vr).ext _ _ Vn,(vQ.trans Vr).ext _ _ Ov,yH⟩,?_⟩;refine cR (ptr kb) (fun w' d=>by have:=bn d.1;exact fj @d.1) ?_;refine cR (ptr kb) (fun w' d=>by have:=bn d.1;exact fj @d.1) ?_;refine cR (pq wb 2) (fun w' d=>by have:=bn d.2.1;exact fj @d.2.1) ?_;refine cR (aW b) (fun w' d=>by have:=bn d.2.1;exact lW @d.2.1 sw) ?_;refine cR (pp B.heap.size) (fun w' d=>by have:=bn d.2.2;exact fj @d.2.2) ?_;refine cR (zi (slots:Int)) (fun w' d=>by have:=bn d.2.2;exact fj @d.2.2) ?_;have a0f:=Cz nU;have es1:(slots:Int)+1=((slots+1:Nat):Int):=zo;refine cR (zi ((slots+1:Nat):Int)) (fun w' d=>fj @es1) ?_;have KR:=C7.trans (vQ.trans Vr);refine a0C (On b (slots+1) _ G.drew (CR b zs) zo (Hq.ext KR) (vn.ext KR)) ?_;rintro e qd ⟨rL,Zy⟩;have ahX:=(vQ.trans Vr).trans rL;cases mj:km b (slots+1) with
            | none=>
             rw[mj] at Zy;simp only[mj] at qO;obtain⟨b',rfl,I,h3⟩:=Zy;exact fun _=>yv yF I zg
            | some told=>
             rw[mj] at Zy;subst Zy;simp only[mj] at qO;have aS6:=ahX.ext _ _ Vn;have LB:=ahX.ext _ _ Ot;have a0g:=(Vr.trans rL).ext _ _ g11;have a0h:=bn LB;refine⟨(by grind [bD.ext]),?_⟩;refine cM LB ?_;have a0i:=bn Ov;have lkk:=bn Ot;have mC:wb≠kb:=zg;refine⟨⟨aS6,by rw[jh mC];grind [bD.ext],yH⟩,?_⟩;obtain⟨C,y⟩:=ck (bT qd kb (vV pb (ptr B.heap.size) (told:Int)));have vp:bD (fun b _=>b=kb) B C:=by
              rw[y];exact ahN (yF) yH _
             have aS7:C.heap[kb]?=O (vV pb (ptr B.heap.size) (told:Int)):=yH;have aS8:C.heap[B.heap.size]?=aP #[zi (slots:Int),b9] 196:=yH;have Ow:=yw.aSt aS4 vp aS7 aS8 zo zg;have Dc:Js w.heap.size Ez C:=by
              refine⟨vp.os.trans Ox.os,vp.tape.trans Ox.tape,vp.output.trans Ox.output,yH,fun b o f Ah=>vp.block _ _ (Ox.ext _ _ f) fun e=>Ah ?_⟩;have N:=Ox.ext _ _ f;rw[e,Ot] at N;injection N with N;exact⟨zo,.inr ⟨_,_,N.symm,.inl J⟩⟩
             have Vo:Pv.Bd (q+1) ⟨p.preds,A,O (⟨slots,[]⟩,told)⟩:=⟨(nK.mono zo).1,zg⟩;subst y;refine dB Ew @EA ?_;obtain⟨k1,k2,-,k4,k5,k6⟩:=EU Dc Ow qO Vo;exact⟨_,zo,q+1,_,_,_,J,zo,J,h6,J,k1,k2,(Ox.trans ahX).ext _ _ vj,k4,k5,k6⟩
          .rw[decide_eq_false Zx];have qO:=aI1 (w0:=t) (r:=wr) (p:=p) zg qY (by grind [mn.asL]) Zx;by_cases xW:at_ = au V
           .rw[H7.aSx xW] at qO;refine dB h7 xW ?_;exact C5 pX fun b wy LM f=>yv LM f zg
           .obtain⟨ab,ol,insv,vs,c,rfl,AZ,hO,oQ,eW,wY⟩:=H7.aSu xW;rw[AZ] at qO;have Rb:=hO.cell;have lab:=bn Rb;obtain⟨xP,a0l⟩:=nK.cur AZ;obtain⟨ia,ic,rfl⟩:=ij hO.row;refine cM h7 ?_;rw[h7];refine⟨fun w'=>w'.heap[ab]?=aP #[zi (c.slots:Int),.slice ia c.ins.length ic] 196,yH,?_⟩;refine cR (pq ab 1) (fun w' d=>by have:=bn d;exact fj d) ?_;refine cR (.slice ia c.ins.length ic) (fun w' d=>by have:=bn d;exact fj d) ?_;refine a0C (aRX (w:=w9.drew) (wb:=wb) (cb:=ab) (wd:=t) (ws:=wr) (slots:=c.slots) (insv:=.slice ia c.ins.length ic) (k:=((q+1:Nat):Int)) (yH) yH zo zg CR (Hq.ext zw) (vn.ext zw)) ?_;rintro e B hi;obtain⟨C7,hi⟩:=hi;have ah0:=zw.trans C7;cases zp:vE c.slots (t::wr) with
            | none=>
             rw[zp] at hi;simp only[zp] at qO;obtain⟨b',rfl,I,h3⟩:=hi;exact fun _=>yv yF I zg
            | some i=>
             rw[zp] at hi;simp only[zp] at qO;obtain⟨cv,sv,rfl,lC,dU⟩:=hi;obtain⟨sa,sc,rfl⟩:=ij dU;have aS9:=ah0.ext _ _ Rb;refine⟨aS9,?_⟩;have jg:=lC.cases;rcases jg with rfl | ⟨t1,u1,rfl⟩
             .refine bF ?_;obtain⟨G,zC⟩:=ck (B.alloc (ah #[aW i.word,aW i.name,aj,.slice sa i.s.length sc] 198));have vQ:Ext B G:=by rw[zC];exact(bD.refl _ _).alloc _
              have g11:G.heap[B.heap.size]?=O (ah [a0U (bs i.word),aW i.name,aj,.slice sa i.s.length sc].toArray 198 (0,0)):=yH;rw[<- zC];clear zC;have E:=ah0.trans vQ;have Vs:=E.ext _ _ Rb;have zD:=jQ E.ext hO.row;have asV:=E.size;refine⟨Vs,?_⟩;refine agu (base:=ol) zD g11 J (by
               intro u hu;simp only[List.mem_cons,List.not_mem_nil,or_false] at hu;rcases hu with rfl | rfl | rfl | rfl<;>rfl) zo zo fun v' qd ho M hv=>?_
              obtain⟨EB,EC,rfl⟩:=ij ho;have Oy:=FQ zD M zd Vs;have aTa:=bn Oy;refine⟨Oy,?_⟩;refine cM Oy ?_;obtain⟨C,y⟩:=ck (bT qd ab (ah #[zi (c.slots:Int),.slice EB (c.ins.length+1) EC] 196));have ah1:C.heap[ab]?=aP #[zi (c.slots:Int),.slice EB (c.ins.length+1) EC] 196:=yH;have LN:∀ {b:Nat} {cs':Array Y} {T:Nat},T≠196->qd.heap[b]?=aP cs' T->C.heap[b]?=aP cs' T:=yH;have ku:bD (fun b o=>b=ab\/(ol<=b/\∃ cs,o = ah cs 198 (0,0))) w9 C:=by
               refine⟨?_,?_,?_,?_,fun b o f Ah=>?_⟩
               .rw[y];exact M.os.trans E.os
               .rw[y];exact M.tape.trans E.tape
               .rw[y];exact M.output.trans E.output
               .rw[y,uY];exact a0E E.size M.size
               .have eh:b≠ab:=zo;rw[y,jh eh,M.block b (bn (E.ext _ _ f)) (fun e=>?_)]
                .grind [bD.ext]
                .obtain⟨h1,-,cs',I⟩:=Ev zD e.symm;grind [bD.ext]
              have Vq:=FP ho fun b cs' _ f=>LN zd f;have hsi:vU C [a0U (bs i.word),aW i.name,aj,.slice sa i.s.length sc] [i]:=by
               refine⟨aj,.slice sa i.s.length sc,[],J,lC,(EO dU (F:=fun _=>True) zg).mono zg fun b cs' _ f=>?_,J⟩;exact LN zo (FQ zD M zo (vQ.ext _ _ f))
              have Ow:=wY C _ _ i ku ah1 Vq hsi;have Dc:Js w.heap.size Ez C:=by
               refine⟨ku.os.trans pX.os,ku.tape.trans pX.tape,ku.output.trans pX.output,a0E pX.size ku.size,fun b o f Ah=>ku.block _ _ (pX.ext _ _ f) ?_⟩;have N:=pX.ext _ _ f;rintro (e | ⟨h1,cs',I⟩)
               .rw[e,Rb] at N;injection N with N;have:=hO.low;grind
               grind
              obtain⟨k1,k2,k3,k4,k5,k6⟩:=EU Dc Ow qO (nK.add i);subst y;refine dB Ew @EA ?_;exact⟨_,zo,q+1,_,_,_,J,zo,J,h6,J,k1,k2,k3,k4,k5,k6⟩
             .refine bF ?_;obtain⟨G,zC⟩:=ck (B.alloc (ah #[aW i.word,aW i.name,ak t1 u1,.slice sa i.s.length sc] 198));have vQ:Ext B G:=by rw[zC];exact(bD.refl _ _).alloc _
              have g11:G.heap[B.heap.size]?=O (ah [a0U (bs i.word),aW i.name,ak t1 u1,.slice sa i.s.length sc].toArray 198 (0,0)):=yH;rw[<- zC];clear zC;have E:=ah0.trans vQ;have Vs:=E.ext _ _ Rb;have zD:=jQ E.ext hO.row;have asV:=E.size;refine⟨Vs,?_⟩;refine agu (base:=ol) zD g11 J (by
               intro u hu;simp only[List.mem_cons,List.not_mem_nil,or_false] at hu;rcases hu with rfl | rfl | rfl | rfl<;>rfl) zo zo fun v' qd ho M hv=>?_
              obtain⟨EB,EC,rfl⟩:=ij ho;have Oy:=FQ zD M zd Vs;have aTa:=bn Oy;refine⟨Oy,?_⟩;refine cM Oy ?_;obtain⟨C,y⟩:=ck (bT qd ab (ah #[zi (c.slots:Int),.slice EB (c.ins.length+1) EC] 196));have ah1:C.heap[ab]?=aP #[zi (c.slots:Int),.slice EB (c.ins.length+1) EC] 196:=yH;have LN:∀ {b:Nat} {cs':Array Y} {T:Nat},T≠196->qd.heap[b]?=aP cs' T->C.heap[b]?=aP cs' T:=yH;have ku:bD (fun b o=>b=ab\/(ol<=b/\∃ cs,o = ah cs 198 (0,0))) w9 C:=by
               refine⟨?_,?_,?_,?_,fun b o f Ah=>?_⟩
               .rw[y];exact M.os.trans E.os
               .rw[y];exact M.tape.trans E.tape
               .rw[y];exact M.output.trans E.output
               .rw[y,uY];exact a0E E.size M.size
               .have eh:b≠ab:=zo;rw[y,jh eh,M.block b (bn (E.ext _ _ f)) (fun e=>?_)]
                .grind [bD.ext]
                .obtain⟨h1,-,cs',I⟩:=Ev zD e.symm;grind [bD.ext]
              have Vq:=FP ho fun b cs' _ f=>LN zd f;have hsi:vU C [a0U (bs i.word),aW i.name,ak t1 u1,.slice sa i.s.length sc] [i]:=by
               refine⟨ak t1 u1,.slice sa i.s.length sc,[],J,lC,(EO dU (F:=fun _=>True) zg).mono zg fun b cs' _ f=>?_,J⟩;exact LN zo (FQ zD M zo (vQ.ext _ _ f))
              have Ow:=wY C _ _ i ku ah1 Vq hsi;have Dc:Js w.heap.size Ez C:=by
               refine⟨ku.os.trans pX.os,ku.tape.trans pX.tape,ku.output.trans pX.output,a0E pX.size ku.size,fun b o f Ah=>ku.block _ _ (pX.ext _ _ f) ?_⟩;have N:=pX.ext _ _ f;rintro (e | ⟨h1,cs',I⟩)
               .rw[e,Rb] at N;injection N with N;have:=hO.low;grind
               grind
              obtain⟨k1,k2,k3,k4,k5,k6⟩:=EU Dc Ow qO (nK.add i);subst y;refine dB Ew @EA ?_;exact⟨_,zo,q+1,_,_,_,J,zo,J,h6,J,k1,k2,k3,k4,k5,k6⟩
   .have Em:q=n:=zo;subst Em;have rv:¬ ((q:Nat):Int)<((q:Nat):Int):=zo;have Dk:q+1=L.length/\LH=[]/\0<q:=by
     grind
    have dE:L.drop q=[LH]:=by
     grind [a0I,List.drop_of_length_le,a0F]
    have aTb:pk L 1 ⟨[],ae,V⟩ = .ok p:=by
     rw[Zs,dE];show(if LH=[]/\1<q+1 then a2O p else a4h (q+1))=_;grind
    have S:=H6.code;rw[aTb] at lH;refine dB Ew rv ?_;cases ha:p.ask with
    | none=>
     rw[ha] at S;have lH:ri s = .error (5,L.length):=zg;have S:w4.heap[kb]?=O (vV pb (au V) 0):=S;have EA:((q:Nat):Int)+1=(L.length:Int):=zo;refine⟨fun _ _=>False,?_,fun _ _ h=>h.elim⟩;refine dL Zt S hz @EA ?_;refine(Vb _ w4).mono ?_;rintro e wy ⟨LM,b,rfl,f,-⟩;exact yv LM f lH
    | some cn=>
     obtain⟨c0,n0⟩:=cn;rw[ha] at S;have lH:ri s = .ok (p.preds,c0,n0):=zg;obtain⟨ab,xW,S⟩:=S;have lkb:=bn S;have hR0:=LK.r;have hEe:=LK.e;obtain⟨KN,hC,hA⟩:=H6.done ha;have oJ:=hC.1;refine⟨fun _ w'=>w'=w4,?_,?_⟩
     .exact lW Zt S
     .rintro z5 w5 rfl dd5;refine dB hR0 hEe ?_;have Af:rb≠eb:=zo;obtain⟨w6,po⟩:=ck (bT (bT w5 rb (ah #[ptr kb] 108)) eb (ah #[aj] 57));have asY:∀ (b:Nat) (o:Obj),w5.heap[b]?=O o->w6.heap[b]?=O o:=yH;have j4:Ext w w6:=yF;have r6:=asY _ _ hR0;have e6:=asY _ _ hEe;rw[<- po];clear po;refine asA ?_;refine dB @r6 @e6 ?_;refine hR _ _ ⟨j4,?_⟩;rw[lH];exact⟨kb,pb,KN,J,hC.bJ (fun b cs T _ f=>yH) yH,hA.bJ fun b cs T _ f=>yH⟩
def P.asZ{c:Co}(g:vA c)(ht:told<=c.slots):gi (0*1000000) { GQ c with sr:={ (GQ c).sr with fuel:=0 } }/\iY told (GQ c)/\∃ x,(GQ c).fs[(GQ c).f]?=O x/\x.ask=true:=by
 have e:∀ (i:Nat) (x:Fm),(GQ c).fs[i]?=O x->x=⟨c,a1g c.slots .nil,0,V,0,A⟩:=fun i x hx=>by
  have:x∈[(⟨c,a1g c.slots .nil,0,V,0,A⟩:Fm)]:=a1B hx;grind
 have hr:∀ y∈a1g c.slots Sl.nil,y = .nil:=zg;refine⟨⟨by show 0<1;omega,fun i x hx=>?_,(fun i a h=>by cases h),(fun i a h=>by cases h),(fun i j a b _ h=>by cases h),(by rw[Nat.zero_mul];exact a0D 0),(by rw[Nat.zero_mul];exact a0D 0),Nat.zero_le _,fun i x hx=>?_,fun i a h=>by cases h⟩,
  ⟨trivial,fun i x hx=>?_,(fun i a h=>by cases h),⟨trivial,trivial⟩,fun i x hx _=>?_⟩,_,J,J⟩
 .rw[e i x hx];exact⟨g,zs,fun y d=>by rw[hr y d];trivial,zg⟩
 .grind
 .rw[e i x hx];exact fun y d=>by rw[hr y d];trivial
 grind
structure aTc(w w':Z)(qb:Nat)(ps:List Pd)(c:Co)(n vb kb ab pb:Nat):Prop where
 cell:w'.heap[qb]?=aP (Yl (QN ps n vb kb ab pb) b9 V) 121
 Je:w.heap.size<=vb
 ne:qb≠vb
 mem:∃ w2,Ext w w2/\Ext w2 w'/\w2.heap.size<=qb/\∀ (D:Nat->Prop) (ρ:Nat->Nat),(∀ b,w.heap.size<=b->D b)->(QN ps n vb kb ab pb).Mem D ρ w2 (GQ c)
def ah3(t:Bs)(w:Z)(e:Ending)(w':Z):Prop:=Ext w w'/\match ri t with
 | .error (c,a)=>∃ b,e = ai (aq #[au V,ak 73 (ptr b)])/\w'.heap[b]?=O (ah #[.int .i64 (c:Int),.int .i64 (a:Int)] 77 (0,0))
 | .ok (ps,c,n)=>∃ qb vb kb ab pb,e = ai (aq #[ptr qb,aj])/\aTc w w' qb ps c n vb kb ab pb
def aTd(t:Bs)(g:BI w)(i:lP w)(j:FT w)(q:∀ ps c n,ri t = .ok (ps,c,n)->c.slots<=64):Calls baL 25 #[aW t] w (ah3 t w):=by
 suffices H:∀ R:Ending->Z->Prop,(∀ e w',ah3 t w e w'->R e w')->Calls baL 25 #[aW t] w R from H _ zg;intro R d;refine aLP ?_;refine(aSy t g i j).mono ?_;rintro e w1 ⟨k,f⟩;unfold ah3 at d;cases hr:ri t with
 | error l=>
  obtain⟨c,a⟩:=l;rw[hr] at f d;obtain⟨b,rfl,r⟩:=f;refine bF ?_;grind
 | ok x=>
  obtain⟨ps,c,n⟩:=x;rw[hr] at f d;obtain⟨kb,pb,ab,rfl,hC,m⟩:=f;refine bF ?_;refine a0C (aO8 hC m zg) ?_;rintro e w2 ⟨s,vb,rfl,u,hm⟩;have s1:=k.size;refine bF ?_;have lv:vb<w2.heap.size:=by
   obtain⟨φ,ψ,av,tv,dk,h⟩:=hm (fun _=>True) (fun _=>0) fun _ _=>trivial;exact bn h.cell
  obtain⟨w3,o⟩:=ck (w2.alloc (ah #[ak 111 (pp vb),pq vb 1,.func (.func 36) #[pp vb] #[],b9,aj] 121));have p:Ext w2 w3:=yF;have g3:w3.heap[w2.heap.size]?=aP #[ak 111 (pp vb),pq vb 1,.func (.func 36) #[pp vb] #[],b9,aj] 121:=yH;rw[<- o];refine d _ _ ⟨yF,w2.heap.size,vb,kb,ab,pb,J,g3,zo,zo,w2,yF,p,a0D _,fun D ρ hD=>?_⟩;exact⟨zg,(by grind [eM.ed,yq.bJ,bD.ext])⟩
def yo.NY(hk:NW D w w'){l:List Sl}(h:yo D ρ n tS pb w v l):yo D ρ n tS pb w' v l:=by
 rcases h with h | ⟨b,cap,row,c,d,e,f,g,i,a⟩
 .exact .inl h
 .exact .inr ⟨b,cap,row,c,d,hk.own _ _ a e,f,g.bJ hk.FB (eC.refl _ _),i,a⟩
def yo.N0{D':Nat->Prop}(a:∀ b,b<w.heap.size->D b->D' b){l:List Sl}(h:yo D ρ n tS pb w v l):yo D' ρ n tS pb w v l:=by
 rcases h with h | ⟨b,cap,row,c,d,e,f,g,i,j⟩
 .exact .inl h
 .exact .inr yH
def ny.NY{D:Nat->Prop}{ρ:Nat->Nat}{n nf:Nat}{φ ψ:Nat->Nat}{w w':Z}(hk:NW D w w'):∀ {l:List Ga} {vs:List Y},ny D ρ n φ ψ nf w vs l->ny D ρ n φ ψ nf w' vs l
 | [],vs,h=>h
 | a::r,vs,⟨c,av,fX,rest,d,e,f,g,i,j⟩=>⟨c,av,fX,rest,d,e,f.bJ fun b cs k=>hk.FB b cs _ (yM) k,g.bJ hk.FB,i.NY hk,ny.NY hk j⟩
def ny.N0{D D':Nat->Prop}{ρ:Nat->Nat}{n nf:Nat}{φ ψ:Nat->Nat}{w:Z}(c:∀ b,b<w.heap.size->D b->D' b):∀ {l:List Ga} {vs:List Y},ny D ρ n φ ψ nf w vs l->ny D' ρ n φ ψ nf w vs l
 | [],vs,h=>h
 | a::r,vs,⟨d,av,fX,rest,e,f,g,i,j,k⟩=>⟨d,av,fX,rest,e,f,g,i,j.N0 c,ny.N0 c k⟩
theorem vmD(preds:List Pd)(told vb cb fA pb:Nat):QA (QN preds told vb cb fA pb) where
 bJ:=by
  rintro D ρ w w' m ⟨⟨φ,ψ,av,tv,dk,h⟩,h2⟩ hk;refine⟨⟨φ,ψ,av,tv,dk,h.st.NY hk,h.fl,fun i x hx=>?_,h.bk,h.dp,h.inj,afr h.ar h.da hk.own,h.ag.NY hk,h.da⟩,h2.bJ hk.FB fun l hm=>hk.map _ _ _ hm⟩;have hi:i<m.fs.length:=zg;exact(h.fs i x hx).bJ hk.FB (eC.refl _ _) (yn.refl _ _ _) hi (fun b hb=>h.bk i x b hx hb) fun cs hb=>hk.own _ _ (h.dp i hi) hb
 cut:=by
  rintro D D' ρ w m ⟨⟨φ,ψ,av,tv,dk,h⟩,h2⟩ hd;refine⟨⟨φ,ψ,av,tv,dk,h.st.N0 hd,h.fl,h.fs,h.bk,fun i hi=>?_,h.inj,h.ar,h.ag.N0 hd,fun g hg=>hd _ (afs h.ar hg) (h.da g hg)⟩,h2⟩;obtain⟨row,hr,-⟩:=(h.fs i _ (a0F hi)).row;exact hd _ yH (h.dp i hi)
