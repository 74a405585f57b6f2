/- A part of one proof (VP12, KR1, KD1). -/
import Derived.Test.YtoegidfbnkaabaaGreatDoorPkMBD
set_option linter.all false
set_option maxRecDepth 100000
set_option maxHeartbeats 8000000
open Option renaming some → O, none → V
open Go renaming Value → Y, World → Z
open Bool renaming true → G, false → ae
open Go.Obj renaming cells → ah
open Go.Ending renaming returned → ai
open Go.Value renaming nilIface → aj, iface → ak, tuple → aq, pointer → au
open Go.Calls renaming mono → a3L
open Nat renaming le_refl → a3O, le_trans → a3Q
open List renaming getElem?_eq_getElem → a3P, drop_eq_getElem_cons → a3U, mem_append → a3Z, mem_singleton → a35, replicate → a4r, mem_of_getElem? → a4O, set_append_right → a6Y, count_le_length → a7f
open Go.Value renaming slice → a3Y, string → a4a
open Go.Instr renaming loadAt → a32
open Except renaming ok → a55, error → a7r
open Go.Proofs.Tryz renaming prog → bdZ
namespace Go.Proofs.YtoegidfbnkaabaaGreatDoor
open P
open Go.RowKit Sx
variable{D:Nat->Prop}{R:Ending->Z->Prop}{X:Y->Z->Prop}{b base c e k k' n pb told:Nat}{cs:Array Y}{o4 tv v:Y}{out s:Bs}{ur ρ:Nat->Nat}{w w':Z}
def aja{M:Nat->Obj->Prop}{a b:Z}(h:bD M a b)(hx:∀ o,a.heap[k]?=O o->M k o)(c:Obj):bD M a (bR b k c):=
 ⟨h.os,h.tape,h.output,by rw[vy];exact h.size,(by grind [absurd,jg,bD.block])⟩
def aTX{P:Program}{T size:Nat}{K:Y->Z->Prop}(hu:P.underlying T=O (.slice e))(a:∀ w,(sizeOf e).run P w = .ok size w):WR P (Instr.buildSlice T 0 #[]) w K X=K (cS w.heap.size 0 0) (w.alloc (ah #[] e (0,0))):=by
 refine vw ?_;simp [Instr.buildSlice,run_underlying hu,a,Instr.fill,newRow,newObj,Sem.run];grind
def ajb(s:Bs)(w:Z)(e:Ending)(w':Z):Prop:=Ext w w'/\match rC s with
 | .ok (ps,c,n)=>∃ kb pb ab,e = ai (aq #[ptr kb,aj])/\yE w' kb pb ab n ps/\Gj w' ab c
 | .error (c,a)=>∃ b,e = ai (aq #[au V,ak 73 (ptr b)])/\w'.heap[b]?=O (ah #[.int .i64 (c:Int),.int .i64 (a:Int)] 77 (0,0))
abbrev Kd(base:Nat)(w w':Z):Prop:=bD (fun b o=>base<=b/\((∃ es n,o = .map es n)\/∃ cs T,o = ah cs T (0,0)/\(T=187\/T=185\/T=196\/T=198))) w w'
def Kd.cells(h:Kd base w w'){T:Nat}(a:w.heap[b]?=aO cs T)(c:¬ (T=187\/T=185\/T=196\/T=198)):w'.heap[b]?=aO cs T:=
 (by grind [bD.block])
structure WI(w:Z)(rb eb kb:Nat):Prop where
 r:w.heap[rb]?=aO #[ptr kb] 108
 e:w.heap[eb]?=aO #[aj] 57
theorem WI.bL{rb kb:Nat}(h:WI w rb pb kb)(a:Kd base w w'):WI w' rb pb kb:=⟨a.cells h.r zo,a.cells h.e zo⟩
def aTY{d:Z}(h:∀ e w',ajb s w e w'->R e w'){a rb eb:Nat}(n:Ext w d)(o:rb=w.heap.size)(p:eb=w.heap.size+1)(f:d.heap[rb]?=aO #[o4] 108)(g:d.heap[eb]?=aO #[aj] 57)
  (q:d.heap[b]?=aO #[zi (c:Int),zi (a:Int)] 77) (r:rC s = .error (c,a)) :
  LV bdZ (fun d=>RD bdZ (a32 108 (pp rb)) d (fun i=>RD bdZ (a32 57 (pp eb)) d (fun j=>R (ai (aq #[i,j])) d) NX) NX) R
   [{ target:=.fn (.func 66) #[pp rb,pp eb],args:=#[]++#[] }]
   (.panicking [{ v:=ak 73 (pp b),recovered:=false }]) d:=by
 refine aTL f g zo ?_;have t:=bn f;have u:=bn g;have k:(bR (bR d rb (ah #[au V] 108)) (eb) (ah #[ak 73 (pp b)] 57)).heap[rb]?=aO #[au V] 108:=by
  exact yH
 have l:eb<(bR d rb (ah #[au V] 108)).heap.size:=yH;have m:(bR (bR d rb (ah #[au V] 108)) (eb) (ah #[ak 73 (pp b)] 57)).heap[eb]?=aO #[ak 73 (pp b)] 57:=yH;have x:b≠rb:=by
  grind
 have y:b≠eb:=by
  grind
 refine dA @k @m ?_;refine h _ _ ⟨yF,?_⟩;exact yH
theorem aui(e:Bs):∀ {l:List Bs} {q:Nat} {x:Bs},l[q]?=O x->(Cg e l)[q]?=O (if q+1<l.length then x++e else x)
 | [],_,_,h=>zg
 | [l],0,x,h=>by grind [Cg]
 | [l],q+1,x,h=>zg
 | l::m::ls,0,x,h=>by
  have:l=x:=zg;subst this;rw[Cg,zip zs];rfl
 | l::m::ls,q+1,x,h=>by
  rw[Cg,List.getElem?_cons_succ,aui e (by simpa using h)];simp
def auj{r:Bs}{rs:List Bs}{k:Nat}{p:Pv}(h:rs≠[]):lh (r::rs) k p=match mF (fP 32 r) p with
  | none=>.error k
  | some p=>lh rs (k+1) p:=by
 cases rs with
 | nil=>grind
 | cons a b=>rfl
theorem mM.auk{p:Pv}(h:mM base w k' pb out tv p)(c:p.ask=V):out=[]↔p.dJ=[]:=by
 have hk:∀ (n:Bs) (a:Nat),P.keyOf n a≠[]:=fun n a=>by unfold P.keyOf;simp
 cases h with
 | zero hk hm=>simp
 | pred b hm hu lu hD hr hv hC j3=>exact⟨zg,fun h=>by simp at h⟩
 | cl b hm hu lu hD hr hv hC px hO j3 fc=>exact⟨zg,fun h=>by simp at h⟩
 | ask b hm hD px hO fc=>grind
def mM.aTZ{p:Pv}(h:mM base w k' pb out tv p)(b:tv = au V):p.cur=none:=by
 cases h with
 | zero hk hm=>rfl
 | pred a hm hu lu hD hr hv hC j3=>rfl
 | cl a hm hu lu hD hr hv hC px hO j3 fc=>grind
 | ask a hm hD px hO fc=>grind
def aT0(s:Bs)(hT:Cf w)(hP:mj w)(hL:GF w):Calls bdZ 34 #[aW s] w (ajb s w):=by
 suffices H:∀ R:Ending->Z->Prop,(∀ e w',ajb s w e w'->R e w')->Calls bdZ 34 #[aW s] w R from H _ zg;intro R hR;refine aTI ?_;by_cases a2n:65536<s.length
 .have WJ:(s.length:Int) > 65536:=zo;have lX:rC s = .error (1,0):=by grind [rC]
  refine cJ WJ ?_;obtain⟨w0,yx⟩:=cj (bR (bR (((w.alloc (ah #[au V] 108)).alloc (ah #[aj] 57)).alloc (ah #[zi 1,zi 0] 77)) w.heap.size (ah #[au V] 108)) (w.heap.size+1) (ah #[ak 73 (ptr (w.heap.size+1+1))] 57));rw[<- yx];have po:Ext w w0:=yF;have q0:w0.heap[w.heap.size]?=aO #[au V] 108:=yH;have q1:w0.heap[w.heap.size+1]?=aO #[ak 73 (ptr (w.heap.size+1+1))] 57:=yH;have q2:w0.heap[w.heap.size+1+1]?=aO #[zi 1,zi 0] 77:=yH;clear yx;refine at7 ?_;refine dA @q0 @q1 ?_;refine hR _ _ ⟨po,?_⟩;grind
 .have WJ:¬ (s.length:Int) > 65536:=zo;have iW:s.length<=1000000:=zo;refine cJ WJ ?_;obtain⟨w0,yx⟩:=cj ((w.alloc (ah #[au V] 108)).alloc (ah #[aj] 57));rw[size_alloc,<- yx];have po:Ext w w0:=yF;have s0:w0.heap.size=w.heap.size+2:=yH;have b0:w0.heap[w.heap.size]?=aO #[au V] 108:=yH;have b1:w0.heap[w.heap.size+1]?=aO #[aj] 57:=yH;clear yx;obtain⟨rb,Ml⟩:=cj w.heap.size;obtain⟨eb,LN⟩:=cj (w.heap.size+1);rw[<- LN,<- Ml];rw[<- Ml] at b0;rw[<- LN] at b1;refine a3L (aTO s 10 w0 iW (hL.ext po)) ?_;rintro e w1 ⟨rfl,jZ⟩;obtain⟨L,Mo⟩:=cj (fP 10 s);have lX:rC s=match lh L 1 ⟨[],ae,V⟩with
   | .error k=>.error (5,k)
   | .ok p=>match p.ask with
    | some (c,n)=>.ok (p.dJ,c,n)
    | none=>.error (5,L.length):=by grind [rC]
  have hLf:∀ l∈L,(10:UInt8) ∉ l/\l.length<=s.length:=by grind [afj]
  have hLn:L≠[]:=by grind [ai7]
  have hLl:L.length<=1000001:=by grind [WG,a7f]
  rw[<- Mo] at jZ ⊢;clear Mo;have hN:0<L.length:=List.length_pos_iff.2 hLn;obtain⟨cs,jr⟩:=cj (((Cg [10] L).map fun s=>a4a (bs s)).toArray);have ai2:∀ (q:Nat) (x:Bs),L[q]?=O x->cs[q]?=O (aW (if q+1<L.length then x++[10] else x)):=(by grind [aui]);have dF:Ext w0 w1:=yF;have g1:w1.heap[w0.heap.size]?=aO cs 9:=yH;have s1:w1.heap.size=w.heap.size+3:=yH;clear jZ;obtain⟨sb,yX⟩:=cj w0.heap.size;rw[<- yX] at g1 ⊢;have lsb:=bn g1;obtain⟨MM,aaF⟩:∃ x,L[L.length-1]?=O x:=⟨_,a3P zo⟩;have gU:=ai2 _ _ aaF;rw[bU zo] at gU;refine⟨fun z w'=>w'=w1/\∃ n c,z 4 = cS sb n c/\((n+1=L.length/\MM=[]/\0<n)\/(n=L.length/\¬ (MM=[]/\1<L.length))),?_,?_⟩
  .have eN:(L.length:Int)-1=((L.length-1:Nat):Int):=zo;have hNi:((L.length-1:Nat):Int)<(L.length:Int):=zo;have aT3:((L.length-1:Nat):Int)<=(L.length:Int):=zo;refine cJ @eN ?_;refine⟨fun z w'=>w'=w1/\z 36 = .bool (decide (MM=[]/\1<L.length)),?_,?_⟩
   .cases MM with
    | nil=>
     by_cases EW:1<L.length
     .have qe:((L.length-1:Nat):Int) > 0:=zo;exact AA @g1 gU hNi (zA qe (zA EW @eN))
     .have qe:¬ ((L.length-1:Nat):Int) > 0:=zo;exact AA @g1 gU hNi (zA qe (zA EW @eN))
    | cons x r=>
     have wS:decide (x::r=[])=false:=zs;have WH:¬ bs (x::r)=bs []:=zg;have xV:decide (x::r=[]/\1<L.length)=false:=zs;exact AA @g1 gU hNi (zA wS (zA WH (zA @eN xV))) (by intro q01 q11 q21 q31;simp (disch:=first|assumption|omega|simp only[zS]<;>omega|decide) only[zB,simprocAttr,kN,q01,q11,q21,q31];simp)
   .rintro z w2 ⟨rfl,hz⟩ dd;rw[hz];by_cases hc:MM=[]/\1<L.length
    .rw[decide_eq_true hc];refine dA aT3 @eN ?_;refine⟨L.length-1,L.length,?_,zg⟩;grind [aLh]
    .rw[decide_eq_false hc];refine bG ?_;grind
  .rintro z w2 ⟨rfl,n,c,hz,hn⟩ dd;refine cJ hz ?_;have dX:=po.trans dF;obtain⟨w3,tj⟩:=cj (bR ((w2.alloc (.map #[] 0)).alloc (ah #[.map (O w2.heap.size),au V,zi 0] 187)) rb (ah #[ptr (w2.heap.size+1)] 108));have b02:=dF.ext _ _ b0;have b12:=dF.ext _ _ b1;have lr2:=bn b02;have le2:=bn b12;refine dA @b02 hz ?_;rw[<- tj];have eI:Ext w w3:=yF;have pr3:w3.heap[rb]?=aO #[ptr (w2.heap.size+1)] 108:=yH;have pe3:w3.heap[eb]?=aO #[aj] 57:=yH;have ps3:w3.heap[sb]?=aO cs 9:=yH;have pk3:w3.heap[w2.heap.size+1]?=O (wI w2.heap.size (au V) 0):=yH;have pm3:w3.heap[w2.heap.size]?=O (eM []):=by rw[tj,jg zo,Nn (by rw[size_alloc];omega)];exact tW J
   have s3:w3.heap.size=w2.heap.size+2:=yH;clear tj;obtain⟨pb,gj⟩:=cj w2.heap.size;obtain⟨kb,hkb⟩:=cj (w2.heap.size+1);rw[<- hkb] at pr3 pk3;rw[<- gj] at pm3 pk3;have CT:n<=L.length:=zo;refine⟨fun m z w'=>∃ q p key at_,z 45=zi ((q:Nat):Int)/\q<=n/\m=n-q/\z 6 = aW key/\z 7=at_/\Ext w w'/\WI w' rb eb kb/\w'.heap[sb]?=aO cs 9/\mM w.heap.size w' kb pb key at_ p/\lh L 1 ⟨[],ae,V⟩=lh (L.drop q) (q+1) p/\p.Bd q/\q<L.length,
    ⟨_,0,⟨[],ae,V⟩,[],au V,J,Nat.zero_le _,J,J,J,eI,⟨pr3,pe3⟩,ps3,.zero pk3 pm3,J,⟨zg,zg⟩,hN⟩,?_⟩
   clear pr3 pe3 ps3 pk3 pm3 eI s3 b02 b12 lr2 le2;intro m z3 d3 w4 hI;refine toPr ?_;obtain⟨q,p,key,at_,Fa,hq,rfl,h6,h7,gT,MN,vF,IZ,aaH,nZ,a2q⟩:=hI;have aaI:=MN.r;have a2r:=bn aaI;have a2s:=bn MN.e;have ls4:=bn vF;have yK:((q:Nat):Int).toNat=q:=zo;have yN:∀ {S:Z} {a b:Nat},Ext w4 S->S.heap[b]?=aO #[zi 5,zi ((a:Nat):Int)] 77->rC s = .error (5,a) ->
     LV bdZ (fun S=>RD bdZ (a32 108 (pp rb)) S (fun r1=>RD bdZ (a32 57 (pp eb)) S (fun r2=>R (ai (aq #[r1,r2])) S) NX) NX) R
      [{ target:=.fn (.func 66) #[pp rb,pp eb],args:=#[]++#[] }] (.panicking [{ v:=ak 73 (pp b),recovered:=false }]) S:=fun{S a b} hE f Iq=>
    aTY hR yF Ml LN (hE.ext _ _ MN.r) (hE.ext _ _ MN.e) f Iq
   by_cases hqn:q<n
   .have rL:((q:Nat):Int)<((n:Nat):Int):=zo;have hqL:q<L.length:=zo;obtain⟨r,hr⟩:∃ r,L[q]?=O r:=⟨_,a3P hqL⟩;have AK:L[q]=r:=zg;have hcq:=ai2 _ _ hr;obtain⟨hrn,hrl⟩:=hLf r (a4O hr);have Pl:L.drop q=r::L.drop (q+1):=by grind [a3U]
    refine dG Fa rL vF (zA hcq (zA @yK hz)) ?_;have hcut:∃ en:Bool,(en=G↔q+1<L.length)/\Calls bdZ 68 #[aW (if q+1<L.length then r++[10] else r),aW [10]] w4 fun e w'=>e = ai (aq #[aW r,.bool en])/\w'=w4:=by
     by_cases hlt:q+1<L.length
     .rw[zip hlt];refine⟨G,zg,(aue _ 10 w4 zg).mono ?_⟩;rintro e w' ⟨rfl,rfl⟩;grind [aTP]
     .rw[bU hlt];refine⟨ae,zg,(aue _ 10 w4 zo).mono ?_⟩;rintro e w' ⟨rfl,rfl⟩;grind [aTQ,Go.Lib.trimSuffix]
    obtain⟨en,hen,hcut⟩:=hcut;refine a3L hcut ?_;rintro e Fc ⟨rfl,rfl⟩;refine bG ?_;refine a3L (aTN r 32 Fc zo (hL.ext gT)) ?_;rintro e w5 ⟨rfl,oO⟩;obtain⟨ws,Il⟩:=cj (fP 32 r);have Du:∀ l∈ws,l.length<=1000000:=by rw[Il];intro l hl;have:=(afj 32 r l hl).2;omega
    have hwl:ws.length<=65537:=by grind [WG,a7f]
    have hwn:ws≠[]:=by grind [ai7]
    rw[<- Il] at oO ⊢;obtain⟨t,wr,rfl⟩:∃ a b,ws=a::b:=by
     cases ws with
     | nil=>grind
     | cons a b=>grind
    have rI:Ext Fc w5:=yF;have g5:w5.heap[Fc.heap.size]?=O (ai9 (t::wr)):=yH;clear oO;obtain⟨wb,rZ⟩:=cj Fc.heap.size;rw[<- rZ] at g5 ⊢;have lw5:=bn g5;have IC:((q:Nat):Int)+1=((q+1:Nat):Int):=zo;refine dA Fa @IC ?_;have aT9:IntKind.i64.wrap (((q:Nat):Int)+1)=((q+1:Nat):Int):=eV @IC;try rw[List.length_cons]
    try rw[aT9]
    obtain⟨cw,hcw⟩:=cj (((t::wr).map fun s=>a4a (bs s)).toArray);have Ch:cw[0]?=O (aW t):=zg;have auo:∀ q,(hq:q<wr.length)->cw[q+1]?=O (aW (wr[q])):=zg;have U:w5.heap[wb]?=aO cw 9:=zg;have uo:=gT.trans rI;have I0:=IZ.ext rI;have Ke:=rI.ext _ _ aaI;have a2z:=rI.ext _ _ MN.e;have a2A:=bn Ke;have Q:=I0.code;have zP:kb<w5.heap.size:=by
     cases ha:p.ask with
     | none=>grind
     | some cn=>
      rw[ha] at Q;grind
    have aUa:en=G->mF (t::wr) p=V->rC s = .error (5,q+1):=fun he hl=>by
     rw[lX,aaH,Pl,auj (by
      intro e;have h1:=congrArg List.length e;grind),<- Il,hl]
    have a2B:∀ p',en=G->mF (t::wr) p=O p'->lh L 1 ⟨[],ae,V⟩=lh (L.drop (q+1)) (q+1+1) p':=fun p' he hl=>by
     rw[aaH,Pl,auj (by
      intro e;have h1:=congrArg List.length e;grind),<- Il,hl]
    have a2C:en=ae->rC s = .error (5,q+1):=fun he=>by
     have h1:¬ q+1<L.length:=zg;have I:L.drop (q+1)=[]:=zg;have fK:L.length-1=q:=zo;rw[fK,hr] at aaF;injection aaF with aaF;rcases hn with⟨h3,-⟩| ⟨h3,h4⟩
     .omega
     .rw[lX,aaH,Pl,I];show(match (if r=[]/\1<q+1 then a55 p else a7r (q+1)) with
       | a7r k=>a7r (5,k)
       | a55 p=>match p.ask with
        | some (c,n)=>a55 (p.dJ,c,n)
        | none=>a7r (5,L.length))=_
      grind
    have DH:∀ {S:Z} {K:Y->Z->Prop} {X:List PanicEntry->Z->Prop},Ext Fc S->(∀ b wy,Ext Fc wy->wy.heap[b]?=aO #[zi 5,zi ((q+1:Nat):Int)] 77->X [{ v:=ak 73 (pp b),recovered:=false }] wy) ->
      Calls bdZ 70 #[zi ((q+1:Nat):Int)] S (ends K X):=fun{S K X} hE hX=>by
     refine(WA _ S).mono ?_;rintro e wy ⟨MO,b,rfl,f,-⟩;exact hX b wy yF f
    obtain⟨late,a2D⟩:∃ b:Prop,b=(p.ask≠V/\(t=Dh\/t=BW\/t=EF)):=⟨_,J⟩;refine⟨fun _ w'=>w'=w5/\en=G/\¬ late,?_,?_⟩
    .refine⟨fun z w'=>w'=w5/\∃ b,z 85 = .bool b/\(b=G->rC s = .error (5,q+1))/\(b=ae->en=G/\¬ late),?_,?_⟩
     .cases aUb:en with
      | false=>
       refine bG ?_;grind
      | true=>
       cases ha:p.ask with
       | none=>
        rw[ha] at Q;have Q:w5.heap[kb]?=O (wI pb (au V) 0):=Q;refine dA Ke Q ?_;grind
       | some cn=>
        rw[ha] at Q;obtain⟨ab,-,Q⟩:=Q;have ef:p.ask≠none:=zg;by_cases W:t=Dh
        .subst W;refine dG Ke Q @U Ch ?_;exact⟨G,J,fun _=>aUa aUb (YO ef (.inl J)),zg⟩
        .have a2E:¬ bs t=bs [112,114,101,100]:=zg;by_cases sY:t=BW
         .subst sY;refine dG Ke Q @U Ch ?_;exact⟨G,J,(by grind [YO]),zg⟩
         .by_cases rq:t=EF
          .subst rq;refine dG Ke Q @U Ch ?_;exact⟨G,J,(by grind [YO]),zg⟩
          .refine dG Ke Q @U (zA Ch (zA W (zA sY rq))) ?_;grind
     .rintro z5 w6 ⟨rfl,b,hzb,iY,N⟩ dd;rw[hzb];cases b with
      | true=>
       refine dA Fa @IC ?_;exact DH rI fun b wy MO f=>yN MO f (iY J)
      | false=>
       refine bG ?_;grind
    .rintro z5 w6 ⟨rfl,aUd,yf⟩ dd;have Ag:Ext w6 w6.drew:=yF;have rJ:=rI;have FC:∀ {S:Z} {ajf:Bs} {at':Y} {p':Pv},Kd w.heap.size Fc S->mM w.heap.size S kb pb ajf at' p'->mF (t::wr) p=O p'->p'.Bd (q+1) ->
       Ext w S/\WI S rb eb kb/\S.heap[sb]?=aO cs 9/\mM w.heap.size S kb pb ajf at' p'/\lh L 1 ⟨[],ae,V⟩=lh (L.drop (q+1)) (q+1+1) p'/\p'.Bd (q+1)/\q+1<L.length:=fun{S ajf at' p'} hF hX ri aUe=>
      ⟨⟨hF.os.trans gT.os,hF.tape.trans gT.tape,hF.output.trans gT.output,a3Q gT.size hF.size,fun b o f _=>hF.block _ _ (gT.ext _ _ f) yH⟩,MN.bL hF,hF.cells vF zo,hX,zg,aUe,hen.1 aUd⟩
     have IB:=hT.ext uo;have vI:=hP.ext uo;refine⟨fun z w'=>w'=w6/\z 90 = .bool (decide (t=Dh/\wr.length=2)),?_,?_⟩
     .by_cases W:t=Dh
      .by_cases qM:wr.length=2
       .have gF:((wr.length+1:Nat):Int)=3:=zo;have hd:decide (t=Dh/\wr.length=2)=true:=zg;rw[hd];exact AA @U Ch W gF
       .have gF:¬ ((wr.length+1:Nat):Int)=3:=zo;have hd:decide (t=Dh/\wr.length=2)=false:=zg;rw[hd];exact AA @U Ch W gF
      .have hd:decide (t=Dh/\wr.length=2)=false:=zg;rw[hd];exact KA @U Ch W
     .rintro z6 w7 ⟨rfl,aUf⟩ dd6;rw[aUf];by_cases uf:t=Dh/\wr.length=2
      .rw[decide_eq_true uf];obtain⟨W,qM⟩:=uf;obtain⟨a,b,rfl⟩:∃ a b,wr=[a,b]:=by
        match wr,qM with
        | [a,b],_=>grind
       subst W;have yd:p.ask=none:=zg;have ri:=aKv (a:=a) (b:=b) yd;have jz:cw[1]?=O (aW a):=zg;have sX:cw[2]?=O (aW b):=auo 1 zs;refine bG ?_;refine⟨fun w'=>Ext w7 w',Ag,?_⟩;refine cQ (pq wb 1) (fun w' d=>by have h9:=d.ext _ _ U;have:=bn h9;exact eV h9) ?_;refine cQ (aW a) (fun w' d=>by have h9:=d.ext _ _ U;have:=bn h9;exact mv h9 jz) ?_;refine cQ (pq wb 2) (fun w' d=>by have h9:=d.ext _ _ U;have:=bn h9;exact eV h9) ?_;refine cQ (aW b) (fun w' d=>by have h9:=d.ext _ _ U;have:=bn h9;exact mv h9 sX) ?_;refine a3L (aiZ a _ w7.drew (Du a zs)) ?_;rintro e w8 ⟨tS,mY⟩;have wq:=Ag.trans tS;cases WM:nI a with
       | none=>
        rw[WM] at mY ri;obtain⟨b',rfl,I,h3⟩:=mY;exact fun _=>yN yF I zg
       | some nm=>
        rw[WM] at mY;subst mY;refine⟨wq,?_⟩;refine a3L (Pq b 64 _ w8 (Du b zs) zo (IB.ext wq) (vI.ext wq)) ?_;rintro e w9 ⟨mH,gN⟩;have tT:=wq.trans mH;cases mG:jv b 64 with
        | none=>
         rw[mG] at gN;rw[WM,mG] at ri;obtain⟨b',rfl,I,h3⟩:=gN;exact fun _=>yN yF I zg
        | some ar=>
         rw[mG] at gN;subst gN;rw[WM,mG] at ri;have lu:=De mG;have aUg:nm.length<=100:=by
          have:=(Uw WM).2.1;grind [Uw]
         refine a3L (ahp nm ar aUg zo w9) ?_;rintro e A ⟨rfl,rfl⟩;have Bi:=I0.ext tT;obtain⟨l,O9,aUh⟩:=Bi.close;have Pw:A.heap[kb]?=O (wI pb (au V) 0):=by
          have:=Bi.code;rw[yd] at this;exact this
         have WN:=tT.ext _ _ Ke;have a2G:=bn Pw;have a2H:=bn O9;have RW:=aUh.find (name:=nm) (n:=ar) zo (j:=0);refine⟨fun _ w'=>w'=A/\fQ (P.keyOf nm ar) l 0=V,?_,?_⟩
         .refine dA WN Pw ?_;rw[Md (k:=9) (e:=192) (z:=bW) zk zk zk O9 (P.keyOf nm ar) G];cases hf:fQ (P.keyOf nm ar) l 0 with
          | none=>simp (disch:=first|assumption|omega|simp only[zS]<;>omega|decide) only[zB,simprocAttr,kN]
          | some kv=>
           obtain⟨k,v⟩:=kv;rw[hf] at RW;obtain⟨p0,pH,-⟩:=RW;refine bG ?_;have aUi:p.dJ.any (fun q=>q.name == nm && q.arity == ar)=true:=by
            grind
           exact DH yF fun b' wy MO f=>yN MO f zg
         .rintro z7 E ⟨rfl,hf⟩ d7;rw[hf] at RW;have aUi:p.dJ.any (fun q=>q.name == nm && q.arity == ar)=false:=by
           cases han:p.dJ.any (fun q=>q.name == nm && q.arity == ar) with
           | false=>rfl
           | true=>
            obtain⟨p0,h1,I⟩:=List.any_eq_true.1 han;grind
          refine dA WN Pw ?_;rw[aTX (size:=1) zk (fun w=>Fo zk w)];obtain⟨oR,ajg⟩:=cj (E.alloc (ah #[] 185));rw[<- ajg];have rH:Ext E oR:=by rw[ajg];exact(bD.refl _ _).alloc _
          have g12:oR.heap[E.heap.size]?=aO #[] 185:=yH;clear ajg;have Z5:=rH.ext _ _ O9;have a2I:=bn Z5;rw[aM6 (k:=9) (e:=192) (z:=bW) zk zk zk Z5 (P.keyOf nm ar) hf];obtain⟨B,y⟩:=cj (bR oR pb (eM (l++[(P.keyOf nm ar,bW)])));rw[<- y];have R4:B.heap[pb]?=O (eM (l++[(P.keyOf nm ar,bW)])):=yH;refine bG ?_;rw[aM7 (s:=P.keyOf nm ar) (u:=bW) R4 zg];have Da:(l++[(P.keyOf nm ar,a3Y V 0 0)]).set l.length (P.keyOf nm ar,cS E.heap.size 0 0)=l++[(P.keyOf nm ar,cS E.heap.size 0 0)]:=by
           rw[a6Y _ _ (a3O _)];simp
          rw[Da];have a2J:=bn R4;obtain⟨Gt,aaJ⟩:=cj (bR B pb (eM (l++[(P.keyOf nm ar,cS E.heap.size 0 0)])));rw[<- aaJ];have Sm:bD (fun b _=>b=pb) E Gt:=by
           rw[aaJ,y];exact aja (aja yF yH _) yH _
          have aUl:Gt.heap[E.heap.size]?=aO #[] 185:=by rw[aaJ,jg zo,y,jg zo];omega
          have aUm:Gt.heap[pb]?=O (eM (l++[(P.keyOf nm ar,cS E.heap.size 0 0)])):=yH;have aUn:=Bi.aTS yd zo O9 hf Sm aUl zo zo aUm;have DN:Kd w.heap.size Fc Gt:=by
           refine⟨Sm.os.trans (rJ.trans tT).os,Sm.tape.trans (rJ.trans tT).tape,Sm.output.trans (rJ.trans tT).output,a3Q (rJ.trans tT).size Sm.size,fun b o f hn=>Sm.block _ _ ((rJ.trans tT).ext _ _ f) fun e=>hn ?_⟩;have N:=(rJ.trans tT).ext _ _ f;rw[e,O9] at N;injection N with N;exact⟨zo,.inl ⟨_,_,N.symm⟩⟩
          clear aaJ y;have ajh:mF [Dh,a,b] p=O ⟨p.dJ++[⟨nm,ar,[]⟩],ae,V⟩:=zg;have WO:Pv.Bd (q+1) ⟨p.dJ++[⟨nm,ar,[]⟩],ae,V⟩:=by
           refine⟨fun x hx=>?_,zg⟩;rcases a3Z.1 hx with hx | hx
           .exact(nZ.mono zo).1 x hx
           .rw[a35] at hx;subst hx;exact⟨Nat.zero_le _,zg⟩
          refine dA Fa @IC ?_;exact⟨_,zo,q+1,_,_,_,J,zo,J,J,J,FC DN aUn ajh WO⟩
      .rw[decide_eq_false uf];refine bG ?_;refine⟨fun z w'=>w'=w7/\z 131 = .bool (decide (t=BW/\wr.length=1/\key≠[])),?_,?_⟩
       .by_cases W:t=BW
        .by_cases qM:wr.length=1
         .have gF:((wr.length+1:Nat):Int)=2:=zo;by_cases hky:key=[]
          .have hd:decide (t=BW/\wr.length=1/\key≠[])=false:=zg;rw[hd];exact AA @U Ch W (zA gF (zA h6 hky))
          .have hd:decide (t=BW/\wr.length=1/\key≠[])=true:=zg;have aUo:¬ bs key=bs []:=zg;rw[hd];exact AA @U Ch W (zA gF (zA h6 (zA hky aUo)))
         .have gF:¬ ((wr.length+1:Nat):Int)=2:=zo;have hd:decide (t=BW/\wr.length=1/\key≠[])=false:=zg;rw[hd];exact AA @U Ch W gF
        .have hd:decide (t=BW/\wr.length=1/\key≠[])=false:=zg;rw[hd];exact KA @U Ch W
       .rintro z7 w8 ⟨rfl,aUp⟩ dd7;rw[aUp];by_cases gU:t=BW/\wr.length=1/\key≠[]
        .rw[decide_eq_true gU];obtain⟨W,qM,hky⟩:=gU;obtain⟨a,rfl⟩:∃ a,wr=[a]:=by
          match wr,qM with
          | [a],_=>grind
         subst W;have yd:p.ask=none:=zg;have jz:cw[1]?=O (aW a):=zg;refine dA @U jz ?_;refine a3L (Pq a 65 _ w8 zg zo IB vI) ?_;rintro e w9 ⟨mH,gN⟩;have aup:p.dJ≠[]:=(by grind [mM.auk]);have ri:=aKw (a:=a) yd aup;cases oq:jv a 65 with
         | none=>
          rw[oq] at gN ri;obtain⟨b',rfl,I,h3⟩:=gN;exact yN yF I zg
         | some slots=>
          rw[oq] at gN ri;subst gN;have hX9:=I0.ext mH;have a2L:w9.heap[kb]?=O (wI pb (au V) 0):=by
           have:=hX9.code;rw[yd] at this;exact this
          have Px:=rJ.trans mH;have hs9:=(gT.trans Px).size;have a2M:=mH.ext _ _ Ke;obtain⟨l,v,cbs,pl,q',D,hpd,Qn,hm9,hu,eT,j3,a2N,xr⟩:=hX9.aTT hs9 yd aup;obtain⟨va,vc,rfl⟩:=gZ eT;have hfa:fQ key (l++[(key,a3Y va q'.clauses.length vc)]) 0=O (0+l.length,.slice va q'.clauses.length vc):=by rw[Zx,hu];simp
          have a2O:q'.clauses.length<=q:=(nZ.1 q' zg).1;rw[h6];refine bG ?_;obtain⟨A,Py⟩:=cj (w9.alloc (ah (Value.agg #[zi (slots:Int),bW]).cells 196 (0,0)));rw[<- Py];have B9:Ext w9 A:=by rw[Py];exact(bD.refl _ _).alloc _
          have g10:A.heap[w9.heap.size]?=aO #[zi (slots:Int),bW] 196:=by rw[Py];exact tW J
          clear Py;have aus:Ext w9 A.drew:=yF;have hSk:∀ {w':Z},Ext w9 w'->w'.heap[rb]?=aO #[ptr kb] 108/\w'.heap[kb]?=O (wI pb (au V) 0)/\w'.heap[pb]?=O (eM (l++[(key,.slice va q'.clauses.length vc)])):=(by grind [bD.ext]);refine⟨fun w'=>w'.heap[rb]?=aO #[ptr kb] 108/\w'.heap[kb]?=O (wI pb (au V) 0)/\w'.heap[pb]?=O (eM (l++[(key,.slice va q'.clauses.length vc)])),hSk aus,?_⟩;refine cQ (ptr kb) (fun w' d=>by have:=bn d.1;exact eV @d.1) ?_;refine cQ (ptr kb) (fun w' d=>by have:=bn d.2.1;exact eV @d.2.1) ?_;refine cQ (.map (O pb)) (fun w' d=>by have:=bn d.2.1;exact eV @d.2.1) ?_;refine cQ (ptr kb) (fun w' d=>by have:=bn d.1;exact eV @d.1) ?_;refine cQ (ptr kb) (fun w' d=>by have:=bn d.2.1;exact eV @d.2.1) ?_;refine cQ (.map (O pb)) (fun w' d=>by have:=bn d.2.1;exact eV @d.2.1) ?_;refine cQ (.slice va q'.clauses.length vc) (fun w' d=>by rw[Md (k:=9) (e:=192) (z:=bW) zk zk zk d.2.2 key ae,hfa];rfl) ?_;refine bG ?_;obtain⟨E,Aj⟩:=cj (A.drew.alloc (ah #[pp w9.heap.size] 185));have Ad:Ext A.drew E:=by rw[Aj];exact(bD.refl _ _).alloc _
          have g11:E.heap[A.drew.heap.size]?=aO #[pp w9.heap.size] 185:=yH;rw[<- Aj];have C:=aus.trans Ad;have aUr:E.heap[A.heap.size]?=aO #[pp w9.heap.size] 185:=g11;clear Aj;have WQ:=hSk C;have Ak:=jK C.ext eT;have aUs:E.heap[w9.heap.size]?=aO #[zi (slots:Int),bW] 196:=Ad.ext _ _ ((bD.drew (bD.refl (fun _ _=>False) A)).block _ _ g10 zg);have auu:=C.size;refine⟨WQ,?_⟩;refine atv (base:=pl) Ak aUr zo zo fun v' oR ho M hv=>?_;obtain⟨Fe,Ff,rfl⟩:=gZ ho;have aaK:oR.heap[pb]?=O (eM (l++[(key,.slice va q'.clauses.length vc)])):=by
           rw[M.block _ (bn WQ.2.2) (fun e=>?_)]
           .grind
           .obtain⟨-,-,cs',h1⟩:=E9 Ak e.symm;rw[WQ.2.2] at h1;cases h1
          refine⟨⟨GC Ak M zo WQ.1,GC Ak M zo WQ.2.1,aaK⟩,?_⟩;rw[aqJ (k:=9) (e:=192) zk zk aaK key hfa];have Da:(l++[(key,a3Y va q'.clauses.length vc)]).set (0+l.length) (key,.slice Fe (q'.clauses.length+1) Ff)=l++[(key,.slice Fe (q'.clauses.length+1) Ff)]:=by
           rw[Nat.zero_add,a6Y _ _ (a3O _)];simp
          rw[Da];have aUt:=bn aaK;obtain⟨B,y⟩:=cj (bR oR pb (eM (l++[(key,.slice Fe (q'.clauses.length+1) Ff)])));rw[<- y];have R4:B.heap[pb]?=O (eM (l++[(key,.slice Fe (q'.clauses.length+1) Ff)])):=by rw[y];exact qI J aUt
          have MP:∀ {b T:Nat} {cs':Array Y},oR.heap[b]?=aO cs' T->B.heap[b]?=aO cs' T:=fun{b T cs'} f=>by
           rw[y,jg (fun e=>by rw[e,aaK] at f;cases f)];omega
          have kz:bD (fun b o=>b=pb\/(pl<=b/\∃ cs,o = ah cs 185 (0,0))) w9 B:=by
           refine⟨?_,?_,?_,?_,fun b o f AM=>?_⟩
           .rw[y];exact M.os.trans C.os
           .rw[y];exact M.tape.trans C.tape
           .rw[y];exact M.output.trans C.output
           .rw[y,vy];exact a3Q C.size M.size
           .have ef:b≠pb:=zo;rw[y,jg ef,M.block b (bn (C.ext _ _ f)) (fun e=>?_)]
            .exact C.ext _ _ f
            .obtain⟨h1,-,cs',I⟩:=E9 Ak e.symm;rw[C.ext _ _ f] at I;injection I with I;exact AM (.inr ⟨h1,cs',I⟩)
          have aUu:∃ b,(a3Y Fe (q'.clauses.length+1) Ff).ownBlock=O b:=by
           rcases ho.2 with⟨-,h0⟩| ⟨g,cap,cur,h1,-⟩
           .omega
           .rw[h1];exact⟨g,J⟩
          have WS:B.ownsRow pl 185 1 (.slice Fe (q'.clauses.length+1) Ff) (q'.clauses.length+1) (Kc cbs++[ptr w9.heap.size]):=GB ho fun b cs' _ f=>MP f;have Pz:=xr B _ w9.heap.size slots kz R4 WS aUu (MP (GC Ak M zo aUs)) zo;have DN:Kd w.heap.size Fc B:=by
           refine⟨kz.os.trans Px.os,kz.tape.trans Px.tape,kz.output.trans Px.output,a3Q Px.size kz.size,fun b o f AM=>kz.block _ _ (Px.ext _ _ f) ?_⟩;have N:=Px.ext _ _ f;rintro (e | ⟨h1,cs',I⟩)
           .rw[e,hm9] at N;injection N with N;exact AM ⟨zo,.inl ⟨_,_,N.symm⟩⟩
           .exact AM ⟨zo,.inr ⟨cs',_,I,zg⟩⟩
          have ajh:mF [BW,a] p=O ⟨D++[⟨q'.name,q'.arity,q'.clauses++[⟨slots,[]⟩]⟩],G,V⟩:=by
           rw[ri,yd,hpd];simp only[YN]
          have WO:Pv.Bd (q+1) ⟨D++[⟨q'.name,q'.arity,q'.clauses++[⟨slots,[]⟩]⟩],G,V⟩:=by
           have h0:=(nZ.mono (Nat.le_succ q)).1;rw[hpd] at h0;refine⟨fun x hx=>?_,fun c n h=>(by cases h)⟩;rcases a3Z.1 hx with hx | hx
           .exact h0 x (List.mem_append_left _ hx)
           .rw[a35] at hx;subst hx;refine⟨by simp;omega,fun c hc=>?_⟩;rcases a3Z.1 hc with hc | hc
            .exact(h0 q' zs).2 c hc
            .rw[a35] at hc;subst hc;have:=De oq;grind
          clear y;refine dA Fa @IC ?_;exact⟨_,zo,q+1,_,_,_,J,zo,J,J,J,FC DN Pz ajh WO⟩
        .rw[decide_eq_false gU];refine bG ?_;refine⟨fun z w'=>w'=w8/\z 166 = .bool (decide (t=EF/\wr.length=2)),?_,?_⟩
         .by_cases W:t=EF
          .by_cases qM:wr.length=2
           .have gF:((wr.length+1:Nat):Int)=3:=zo;have hd:decide (t=EF/\wr.length=2)=true:=zg;rw[hd];exact AA @U Ch W gF
           .have gF:¬ ((wr.length+1:Nat):Int)=3:=zo;have hd:decide (t=EF/\wr.length=2)=false:=zg;rw[hd];exact AA @U Ch W gF
          .have hd:decide (t=EF/\wr.length=2)=false:=zg;rw[hd];exact KA @U Ch W
         .rintro z8 w9 ⟨rfl,aUv⟩ dd8;rw[aUv];by_cases hqu:t=EF/\wr.length=2
          .rw[decide_eq_true hqu];obtain⟨W,qM⟩:=hqu;obtain⟨a,b,rfl⟩:∃ a b,wr=[a,b]:=by
            match wr,qM with
            | [a,b],_=>grind
           subst W;have yd:p.ask=none:=zg;have jz:cw[1]?=O (aW a):=zg;have sX:cw[2]?=O (aW b):=auo 1 zs;refine dA @U jz ?_;refine a3L (Pq a 65 _ w9 (Du a zs) zo IB vI) ?_;rintro e A ⟨B9,gN⟩;have ri:=apj (a:=a) (b:=b) yd;cases oq:jv a 65 with
           | none=>
            rw[oq] at gN ri;obtain⟨b',rfl,I,h3⟩:=gN;exact yN yF I zg
           | some slots=>
            rw[oq] at gN ri;subst gN;refine bG ?_;have Bi:=I0.ext B9;have Pw:A.heap[kb]?=O (wI pb (au V) 0):=by
             have:=Bi.code;rw[yd] at this;exact this
            have Kg:=rJ.trans B9;have aUw:=(gT.trans Kg).size;have WN:=B9.ext _ _ Ke;have Py:=B9.ext _ _ U;obtain⟨E,Aj⟩:=cj (A.alloc (ah (Value.agg #[zi (slots:Int),bW]).cells 196 (0,0)));rw[<- Aj];have Ad:Ext A E:=by rw[Aj];exact(bD.refl _ _).alloc _
            have g11:E.heap[A.heap.size]?=aO #[zi (slots:Int),bW] 196:=by rw[Aj];exact tW J
            clear Aj;have WT:Ext E E.drew:=bD.drew yF;refine⟨fun w'=>w'.heap[rb]?=aO #[ptr kb] 108/\w'.heap[wb]?=aO cw 9/\w'.heap[A.heap.size]?=aO #[zi (slots:Int),bW] 196,⟨(Ad.trans WT).ext _ _ WN,(Ad.trans WT).ext _ _ Py,yH⟩,?_⟩;refine cQ (ptr kb) (fun w' d=>by have:=bn d.1;exact eV @d.1) ?_;refine cQ (ptr kb) (fun w' d=>by have:=bn d.1;exact eV @d.1) ?_;refine cQ (pq wb 2) (fun w' d=>by have:=bn d.2.1;exact eV @d.2.1) ?_;refine cQ (aW b) (fun w' d=>by have:=bn d.2.1;exact mv @d.2.1 sX) ?_;refine cQ (pp A.heap.size) (fun w' d=>by have:=bn d.2.2;exact eV @d.2.2) ?_;refine cQ (zi (slots:Int)) (fun w' d=>by have:=bn d.2.2;exact eV @d.2.2) ?_;have a2R:=De oq;have es1:(slots:Int)+1=((slots+1:Nat):Int):=zo;refine cQ (zi ((slots+1:Nat):Int)) (fun w' d=>eV @es1) ?_;have LO:=B9.trans (Ad.trans WT);refine a3L (Pq b (slots+1) _ E.drew (Du b zs) zo (IB.ext LO) (vI.ext LO)) ?_;rintro e oR ⟨rH,aaM⟩;have ajj:=(Ad.trans WT).trans rH;cases mG:jv b (slots+1) with
            | none=>
             rw[mG] at aaM;simp only[mG] at ri;obtain⟨b',rfl,I,h3⟩:=aaM;exact fun _=>yN yF I zg
            | some told=>
             rw[mG] at aaM;subst aaM;simp only[mG] at ri;have aUy:=ajj.ext _ _ WN;have MH:=ajj.ext _ _ Pw;have a2S:=(WT.trans rH).ext _ _ g11;have a2T:=bn MH;refine⟨(by grind [bD.ext]),?_⟩;refine cJ MH ?_;have a2U:=bn Py;have lkk:=bn Pw;have mS:wb≠kb:=zg;refine⟨⟨aUy,by rw[jg mS];grind [bD.ext],yH⟩,?_⟩;obtain⟨B,y⟩:=cj (bR oR kb (wI pb (ptr A.heap.size) (told:Int)));have vK:bD (fun b _=>b=kb) A B:=by
              rw[y];exact aja (yF) yH _
             have aUz:B.heap[kb]?=O (wI pb (ptr A.heap.size) (told:Int)):=yH;have aUA:B.heap[A.heap.size]?=aO #[zi (slots:Int),bW] 196:=yH;have Pz:=Bi.aTV aUw vK aUz aUA zo zg;have DN:Kd w.heap.size Fc B:=by
              refine⟨vK.os.trans Kg.os,vK.tape.trans Kg.tape,vK.output.trans Kg.output,yH,fun b o f AM=>vK.block _ _ (Kg.ext _ _ f) fun e=>AM ?_⟩;have N:=Kg.ext _ _ f;rw[e,Pw] at N;injection N with N;exact⟨zo,.inr ⟨_,_,N.symm,.inl J⟩⟩
             have WO:Pv.Bd (q+1) ⟨p.dJ,G,O (⟨slots,[]⟩,told)⟩:=⟨(nZ.mono zo).1,zg⟩;subst y;refine dA Fa @IC ?_;obtain⟨k1,k2,-,k4,k5,k6⟩:=FC DN Pz ri WO;exact⟨_,zo,q+1,_,_,_,J,zo,J,h6,J,k1,k2,(Kg.trans ajj).ext _ _ vF,k4,k5,k6⟩
          .rw[decide_eq_false hqu];have ri:=aKx (w0:=t) (r:=wr) (p:=p) zg uf (by grind [mM.auk]) hqu;by_cases yl:at_ = au V
           .rw[I0.aTZ yl] at ri;refine dA h7 yl ?_;exact DH rJ fun b wy MO f=>yN MO f zg
           .obtain⟨ab,ol,insv,vs,c,rfl,BB,hO,px,fc,xr⟩:=I0.aTW yl;rw[BB] at ri;have Sn:=hO.cell;have lab:=bn Sn;obtain⟨ye,a2X⟩:=nZ.cur BB;obtain⟨ia,ic,rfl⟩:=gZ hO.row;refine cJ h7 ?_;rw[h7];refine⟨fun w'=>w'.heap[ab]?=aO #[zi (c.slots:Int),.slice ia c.ins.length ic] 196,yH,?_⟩;refine cQ (pq ab 1) (fun w' d=>by have:=bn d;exact eV d) ?_;refine cQ (.slice ia c.ins.length ic) (fun w' d=>by have:=bn d;exact eV d) ?_;refine a3L (aTp (w:=w9.drew) (wb:=wb) (cb:=ab) (wd:=t) (ws:=wr) (slots:=c.slots) (insv:=.slice ia c.ins.length ic) (k:=((q+1:Nat):Int)) (yH) yH zo zg Du (IB.ext Ag) (vI.ext Ag)) ?_;rintro e A hi;obtain⟨B9,hi⟩:=hi;have ajm:=Ag.trans B9;cases Ab:qi c.slots (t::wr) with
            | none=>
             rw[Ab] at hi;simp only[Ab] at ri;obtain⟨b',rfl,I,h3⟩:=hi;exact fun _=>yN yF I zg
            | some i=>
             rw[Ab] at hi;simp only[Ab] at ri;obtain⟨cv,sv,rfl,lR,dS⟩:=hi;obtain⟨sa,sc,rfl⟩:=gZ dS;have aUB:=ajm.ext _ _ Sn;refine⟨aUB,?_⟩;have je:=lR.cases;rcases je with rfl | ⟨t1,u1,rfl⟩
             .refine bG ?_;obtain⟨E,Aj⟩:=cj (A.alloc (ah #[aW i.word,aW i.name,aj,.slice sa i.s.length sc] 198));have Ad:Ext A E:=by rw[Aj];exact(bD.refl _ _).alloc _
              have g11:E.heap[A.heap.size]?=O (ah [a4a (bs i.word),aW i.name,aj,.slice sa i.s.length sc].toArray 198 (0,0)):=yH;rw[<- Aj];clear Aj;have C:=ajm.trans Ad;have WV:=C.ext _ _ Sn;have Ak:=jK C.ext hO.row;have auu:=C.size;refine⟨WV,?_⟩;refine ahS (base:=ol) Ak g11 J (by
               intro u hu;simp only[List.mem_cons,List.not_mem_nil,or_false] at hu;rcases hu with rfl | rfl | rfl | rfl<;>rfl) zo zo fun v' oR ho M hv=>?_
              obtain⟨Fe,Ff,rfl⟩:=gZ ho;have PD:=GC Ak M zd WV;have aUC:=bn PD;refine⟨PD,?_⟩;refine cJ PD ?_;obtain⟨B,y⟩:=cj (bR oR ab (ah #[zi (c.slots:Int),.slice Fe (c.ins.length+1) Ff] 196));have ajn:B.heap[ab]?=aO #[zi (c.slots:Int),.slice Fe (c.ins.length+1) Ff] 196:=yH;have MP:∀ {b:Nat} {cs':Array Y} {T:Nat},T≠196->oR.heap[b]?=aO cs' T->B.heap[b]?=aO cs' T:=yH;have kz:bD (fun b o=>b=ab\/(ol<=b/\∃ cs,o = ah cs 198 (0,0))) w9 B:=by
               refine⟨?_,?_,?_,?_,fun b o f AM=>?_⟩
               .rw[y];exact M.os.trans C.os
               .rw[y];exact M.tape.trans C.tape
               .rw[y];exact M.output.trans C.output
               .rw[y,vy];exact a3Q C.size M.size
               .have ef:b≠ab:=zo;rw[y,jg ef,M.block b (bn (C.ext _ _ f)) (fun e=>?_)]
                .grind [bD.ext]
                .obtain⟨h1,-,cs',I⟩:=E9 Ak e.symm;grind [bD.ext]
              have WS:=GB ho fun b cs' _ f=>MP zd f;have hsi:wu B [a4a (bs i.word),aW i.name,aj,.slice sa i.s.length sc] [i]:=by
               refine⟨aj,.slice sa i.s.length sc,[],J,lR,(Fy dS (F:=fun _=>True) zg).mono zg fun b cs' _ f=>?_,J⟩;exact MP zo (GC Ak M zo (Ad.ext _ _ f))
              have Pz:=xr B _ _ i kz ajn WS hsi;have DN:Kd w.heap.size Fc B:=by
               refine⟨kz.os.trans rJ.os,kz.tape.trans rJ.tape,kz.output.trans rJ.output,a3Q rJ.size kz.size,fun b o f AM=>kz.block _ _ (rJ.ext _ _ f) ?_⟩;have N:=rJ.ext _ _ f;rintro (e | ⟨h1,cs',I⟩)
               .rw[e,Sn] at N;injection N with N;have:=hO.low;grind
               grind
              obtain⟨k1,k2,k3,k4,k5,k6⟩:=FC DN Pz ri (nZ.add i);subst y;refine dA Fa @IC ?_;exact⟨_,zo,q+1,_,_,_,J,zo,J,h6,J,k1,k2,k3,k4,k5,k6⟩
             .refine bG ?_;obtain⟨E,Aj⟩:=cj (A.alloc (ah #[aW i.word,aW i.name,ak t1 u1,.slice sa i.s.length sc] 198));have Ad:Ext A E:=by rw[Aj];exact(bD.refl _ _).alloc _
              have g11:E.heap[A.heap.size]?=O (ah [a4a (bs i.word),aW i.name,ak t1 u1,.slice sa i.s.length sc].toArray 198 (0,0)):=yH;rw[<- Aj];clear Aj;have C:=ajm.trans Ad;have WV:=C.ext _ _ Sn;have Ak:=jK C.ext hO.row;have auu:=C.size;refine⟨WV,?_⟩;refine ahS (base:=ol) Ak g11 J (by
               intro u hu;simp only[List.mem_cons,List.not_mem_nil,or_false] at hu;rcases hu with rfl | rfl | rfl | rfl<;>rfl) zo zo fun v' oR ho M hv=>?_
              obtain⟨Fe,Ff,rfl⟩:=gZ ho;have PD:=GC Ak M zd WV;have aUC:=bn PD;refine⟨PD,?_⟩;refine cJ PD ?_;obtain⟨B,y⟩:=cj (bR oR ab (ah #[zi (c.slots:Int),.slice Fe (c.ins.length+1) Ff] 196));have ajn:B.heap[ab]?=aO #[zi (c.slots:Int),.slice Fe (c.ins.length+1) Ff] 196:=yH;have MP:∀ {b:Nat} {cs':Array Y} {T:Nat},T≠196->oR.heap[b]?=aO cs' T->B.heap[b]?=aO cs' T:=yH;have kz:bD (fun b o=>b=ab\/(ol<=b/\∃ cs,o = ah cs 198 (0,0))) w9 B:=by
               refine⟨?_,?_,?_,?_,fun b o f AM=>?_⟩
               .rw[y];exact M.os.trans C.os
               .rw[y];exact M.tape.trans C.tape
               .rw[y];exact M.output.trans C.output
               .rw[y,vy];exact a3Q C.size M.size
               .have ef:b≠ab:=zo;rw[y,jg ef,M.block b (bn (C.ext _ _ f)) (fun e=>?_)]
                .grind [bD.ext]
                .obtain⟨h1,-,cs',I⟩:=E9 Ak e.symm;grind [bD.ext]
              have WS:=GB ho fun b cs' _ f=>MP zd f;have hsi:wu B [a4a (bs i.word),aW i.name,ak t1 u1,.slice sa i.s.length sc] [i]:=by
               refine⟨ak t1 u1,.slice sa i.s.length sc,[],J,lR,(Fy dS (F:=fun _=>True) zg).mono zg fun b cs' _ f=>?_,J⟩;exact MP zo (GC Ak M zo (Ad.ext _ _ f))
              have Pz:=xr B _ _ i kz ajn WS hsi;have DN:Kd w.heap.size Fc B:=by
               refine⟨kz.os.trans rJ.os,kz.tape.trans rJ.tape,kz.output.trans rJ.output,a3Q rJ.size kz.size,fun b o f AM=>kz.block _ _ (rJ.ext _ _ f) ?_⟩;have N:=rJ.ext _ _ f;rintro (e | ⟨h1,cs',I⟩)
               .rw[e,Sn] at N;injection N with N;have:=hO.low;grind
               grind
              obtain⟨k1,k2,k3,k4,k5,k6⟩:=FC DN Pz ri (nZ.add i);subst y;refine dA Fa @IC ?_;exact⟨_,zo,q+1,_,_,_,J,zo,J,h6,J,k1,k2,k3,k4,k5,k6⟩
   .have A2:q=n:=zo;subst A2;have rL:¬ ((q:Nat):Int)<((q:Nat):Int):=zo;have DU:q+1=L.length/\MM=[]/\0<q:=by
     grind
    have dI:L.drop q=[MM]:=by
     grind [a3U,List.drop_of_length_le,a3P]
    have aUD:lh L 1 ⟨[],ae,V⟩ = .ok p:=by
     rw[aaH,dI];show(if MM=[]/\1<q+1 then a55 p else a7r (q+1))=_;grind
    have Q:=IZ.code;rw[aUD] at lX;refine dA Fa rL ?_;cases ha:p.ask with
    | none=>
     rw[ha] at Q;have lX:rC s = .error (5,L.length):=zg;have Q:w4.heap[kb]?=O (wI pb (au V) 0):=Q;have IC:((q:Nat):Int)+1=(L.length:Int):=zo;refine⟨fun _ _=>False,?_,fun _ _ h=>h.elim⟩;refine dG aaI Q hz @IC ?_;refine(WA _ w4).mono ?_;rintro e wy ⟨MO,b,rfl,f,-⟩;exact yN MO f lX
    | some cn=>
     obtain⟨c0,n0⟩:=cn;rw[ha] at Q;have lX:rC s = .ok (p.dJ,c0,n0):=zg;obtain⟨ab,yl,Q⟩:=Q;have lkb:=bn Q;have hR0:=MN.r;have hEe:=MN.e;obtain⟨LH,hC,hA⟩:=IZ.done ha;have o9:=hC.1;refine⟨fun _ w'=>w'=w4,?_,?_⟩
     .exact mv aaI Q
     .rintro z5 w5 rfl dd5;refine dA hR0 hEe ?_;have AK:rb≠eb:=zo;obtain⟨w6,pN⟩:=cj (bR (bR w5 rb (ah #[ptr kb] 108)) eb (ah #[aj] 57));have auy:∀ (b:Nat) (o:Obj),w5.heap[b]?=O o->w6.heap[b]?=O o:=yH;have kq:Ext w w6:=yF;have r6:=auy _ _ hR0;have e6:=auy _ _ hEe;rw[<- pN];clear pN;refine at7 ?_;refine dA @r6 @e6 ?_;refine hR _ _ ⟨kq,?_⟩;rw[lX];exact⟨kb,pb,LH,J,hC.bL (fun b cs T _ f=>yH) yH,hA.bL fun b cs T _ f=>yH⟩
def P.aUE{c:Co}(g:zE c)(ht:told<=c.slots):gH (0*1000000) { BX c with sr:={ (BX c).sr with fuel:=0 } }/\jS told (BX c)/\∃ x,(BX c).fs[(BX c).f]?=O x/\x.ask=true:=by
 have e:∀ (i:Nat) (x:Fm),(BX c).fs[i]?=O x->x=⟨c,a4r c.slots .nil,0,V,0,G⟩:=fun i x hx=>by
  have:x∈[(⟨c,a4r c.slots .nil,0,V,0,G⟩:Fm)]:=a4O hx;grind
 have hr:∀ y∈a4r c.slots Sl.nil,y = .nil:=zg;refine⟨⟨by show 0<1;omega,fun i x hx=>?_,(fun i a h=>by cases h),(fun i a h=>by cases h),(fun i j a b _ h=>by cases h),(by rw[Nat.zero_mul];exact a3O 0),(by rw[Nat.zero_mul];exact a3O 0),Nat.zero_le _,fun i x hx=>?_,fun i a h=>by cases h⟩,
  ⟨trivial,fun i x hx=>?_,(fun i a h=>by cases h),⟨trivial,trivial⟩,fun i x hx _=>?_⟩,_,J,J⟩
 .rw[e i x hx];exact⟨g,zs,fun y d=>by rw[hr y d];trivial,zg⟩
 .grind
 .rw[e i x hx];exact fun y d=>by rw[hr y d];trivial
 grind
structure aUF(w w':Z)(qb:Nat)(ps:List Pd)(c:Co)(n vb kb ab pb:Nat):Prop where
 cell:w'.heap[qb]?=aO (ZA (RZ ps n vb kb ab pb) bW V) 121
 J0:w.heap.size<=vb
 ne:qb≠vb
 mem:∃ w2,Ext w w2/\Ext w2 w'/\w2.heap.size<=qb/\∀ (D:Nat->Prop) (ρ:Nat->Nat),(∀ b,w.heap.size<=b->D b)->(RZ ps n vb kb ab pb).Mem D ρ w2 (BX c)
def ajp(t:Bs)(w:Z)(e:Ending)(w':Z):Prop:=Ext w w'/\match rC t with
 | .error (c,a)=>∃ b,e = ai (aq #[au V,ak 73 (ptr b)])/\w'.heap[b]?=O (ah #[.int .i64 (c:Int),.int .i64 (a:Int)] 77 (0,0))
 | .ok (ps,c,n)=>∃ qb vb kb ab pb,e = ai (aq #[ptr qb,aj])/\aUF w w' qb ps c n vb kb ab pb
def aUG(t:Bs)(g:Cf w)(i:mj w)(j:GF w)(q:∀ ps c n,rC t = .ok (ps,c,n)->c.slots<=64):Calls bdZ 25 #[aW t] w (ajp t w):=by
 suffices H:∀ R:Ending->Z->Prop,(∀ e w',ajp t w e w'->R e w')->Calls bdZ 25 #[aW t] w R from H _ zg;intro R d;refine aNj ?_;refine(aT0 t g i j).mono ?_;rintro e w1 ⟨k,f⟩;unfold ajp at d;cases hr:rC t with
 | error l=>
  obtain⟨c,a⟩:=l;rw[hr] at f d;obtain⟨b,rfl,r⟩:=f;refine bG ?_;grind
 | ok x=>
  obtain⟨ps,c,n⟩:=x;rw[hr] at f d;obtain⟨kb,pb,ab,rfl,hC,m⟩:=f;refine bG ?_;refine a3L (aQD hC m zg) ?_;rintro e w2 ⟨s,vb,rfl,u,hm⟩;have s1:=k.size;refine bG ?_;have lv:vb<w2.heap.size:=by
   obtain⟨φ,ψ,av,tv,dk,h⟩:=hm (fun _=>True) (fun _=>0) fun _ _=>trivial;exact bn h.cell
  obtain⟨w3,o⟩:=cj (w2.alloc (ah #[ak 111 (pp vb),pq vb 1,.func (.func 36) #[pp vb] #[],bW,aj] 121));have p:Ext w2 w3:=yF;have g3:w3.heap[w2.heap.size]?=aO #[ak 111 (pp vb),pq vb 1,.func (.func 36) #[pp vb] #[],bW,aj] 121:=yH;rw[<- o];refine d _ _ ⟨yF,w2.heap.size,vb,kb,ab,pb,J,g3,zo,zo,w2,yF,p,a3O _,fun D ρ hD=>?_⟩;exact⟨zg,(by grind [eJ.ea,yE.bL,bD.ext])⟩
def yC.OX(hk:OW D w w'){l:List Sl}(h:yC D ρ n ur pb w v l):yC D ρ n ur pb w' v l:=by
 rcases h with h | ⟨b,cap,row,c,d,e,f,g,i,a⟩
 .exact .inl h
 .exact .inr ⟨b,cap,row,c,d,hk.own _ _ a e,f,g.bL hk.Gi (eu.refl _ _),i,a⟩
def yC.OY{D':Nat->Prop}(a:∀ b,b<w.heap.size->D b->D' b){l:List Sl}(h:yC D ρ n ur pb w v l):yC D' ρ n ur pb w v l:=by
 rcases h with h | ⟨b,cap,row,c,d,e,f,g,i,j⟩
 .exact .inl h
 .exact .inr yH
def nJ.OX{D:Nat->Prop}{ρ:Nat->Nat}{n nf:Nat}{φ ψ:Nat->Nat}{w w':Z}(hk:OW D w w'):∀ {l:List Ga} {vs:List Y},nJ D ρ n φ ψ nf w vs l->nJ D ρ n φ ψ nf w' vs l
 | [],vs,h=>h
 | a::r,vs,⟨c,av,fX,rest,d,e,f,g,i,j⟩=>⟨c,av,fX,rest,d,e,f.bL fun b cs k=>hk.Gi b cs _ (yM) k,g.bL hk.Gi,i.OX hk,nJ.OX hk j⟩
def nJ.OY{D D':Nat->Prop}{ρ:Nat->Nat}{n nf:Nat}{φ ψ:Nat->Nat}{w:Z}(c:∀ b,b<w.heap.size->D b->D' b):∀ {l:List Ga} {vs:List Y},nJ D ρ n φ ψ nf w vs l->nJ D' ρ n φ ψ nf w vs l
 | [],vs,h=>h
 | a::r,vs,⟨d,av,fX,rest,e,f,g,i,j,k⟩=>⟨d,av,fX,rest,e,f,g,i,j.OY c,nJ.OY c k⟩
theorem vmD(dJ:List Pd)(told vb cb fw pb:Nat):Vv (RZ dJ told vb cb fw pb) where
 bL:=by
  rintro D ρ w w' m ⟨⟨φ,ψ,av,tv,dk,h⟩,h2⟩ hk;refine⟨⟨φ,ψ,av,tv,dk,h.st.OX hk,h.fl,fun i x hx=>?_,h.bk,h.dp,h.inj,agQ h.ar h.da hk.own,h.ag.OX hk,h.da⟩,h2.bL hk.Gi fun l hm=>hk.map _ _ _ hm⟩;have hi:i<m.fs.length:=zg;exact(h.fs i x hx).bL hk.Gi (eu.refl _ _) (yB.refl _ _ _) hi (fun b hb=>h.bk i x b hx hb) fun cs hb=>hk.own _ _ (h.dp i hi) hb
 cut:=by
  rintro D D' ρ w m ⟨⟨φ,ψ,av,tv,dk,h⟩,h2⟩ hd;refine⟨⟨φ,ψ,av,tv,dk,h.st.OY hd,h.fl,h.fs,h.bk,fun i hi=>?_,h.inj,h.ar,h.ag.OY hd,fun g hg=>hd _ (agR h.ar hg) (h.da g hg)⟩,h2⟩;obtain⟨row,hr,-⟩:=(h.fs i _ (a3P hi)).row;exact hd _ yH (h.dp i hi)
