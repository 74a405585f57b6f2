/- A part of one proof (ShQ2, KW3, KW4, KW5, KW6). -/
import Derived.Test.YtoegidfbnkaabaaGreatDoorPkKAS
set_option linter.all false
set_option maxRecDepth 100000
set_option maxHeartbeats 8000000
open Option renaming some → O, none → V
open Go renaming Value → Y, World → Z
open Bool renaming true → A, false → ae
open Go.Obj renaming cells → ah
open Go.Ending renaming returned → ai
open Go.Value renaming nilIface → aj, iface → ak, pointer → au
open Option.some renaming injEq → a0z
open Go.Calls renaming mono → a0C
open Nat renaming le_refl → a0D, le_trans → a0E
open List renaming drop_eq_getElem_cons → a0I, range' → a1m, getElem_cons_zero → a2t, getElem_cons_succ → a2U
open Go.Value renaming slice → a0M
open Go.Instr renaming loadAt → a0Q, fieldAt → a1q
open Go.Value.slice renaming injEq → a0S
open Go.Proofs.Tryz renaming prog → baz
namespace Go.Proofs.YtoegidfbnkaabaaGreatDoor
open P
open Go.Proofs.YtoegidfbnkaabaaGreatDoor.Sx
variable{B M b base c cap e f g i j k' m mb n pb so xb:Nat}{D:Nat->Prop}{K:Y->Prop}{X:Y->Z->Prop}{cs iK:Array Y}{iv o4 o5 tv v vv:Y}{gI:List Bd}{fw:List Nat}{vs xs:List Y}{w w' w1 w2 w3:Z}{y:Operand}{ρ:Nat->Nat}
section
variable{p0 p1 p2 p3 p4 p5 p6 p7:Y}{w:Z}{R:Ending->Z->Prop}
def aKS:=cz w R [p0,p1] (gc [] [] []) Tryz.func78
def aKT:=cz w R [p0] (gd [(3,[10])] [] [(5,9)] [] [] [] [11]) Tryz.func39
def aoC:=cz w R [p0] (gc [(3,[9])] [] [10]) Tryz.func77
def aoD:=cz w R [p0,p1] (gd [] [] [] [(2,[14,0,1,2,3,4,5,6,7,8,9,10,11,12,13])] [] [] []) Tryz.func38
def aoE:=cz w R [p0,p1,p2] (gd [] [(12001,[])] [] [(6,[12,0,2,3,4,5,6,7,8,1,9,10,11,12,13])] [] [] [2,12,20,22,23,51,52,53,61]) Tryz.func26
def aKU:=cz w R [p0,p1,p2] (gc [] [] [2,16]) Tryz.func15
end
open Go.RowKit Sx
def ye(ρ:Nat->Nat)(n B:Nat)(i:Nat):Nat:=if i<n then ρ i else B+(i-n)
def XZ(ρ:Nat->Nat)(n B m:Nat):eC ρ n (ye ρ n B) (n+m):=⟨zo,fun i a=>by unfold ye;grind⟩
def aoF(m:Nat)(hm:m<=100000)(w:Z):Calls baz 77 #[zi (m:Nat)] w fun e w'=>Ext w w'/\w'.heap.size=w.heap.size+1+m /\
  ∃ cs,e = ai (cU w.heap.size m m)/\w'.heap[w.heap.size]?=aP cs 89/\cs.size=m /\
   ∀ j,j<m->cs[j]?=O (ak 87 (pp (w.heap.size+1+j)))/\w'.heap[w.heap.size+1+j]?=aP #[aj] 91:=by
 refine aoC ?_;refine bF ?_;refine⟨fun q z w'=>∃ (j:Nat) (cs:Array Y),z 9=zi (j:Nat)/\j<=m/\q=m-j/\Ext w w'/\w'.heap.size=w.heap.size+1+j/\w'.heap[w.heap.size]?=aP cs 89/\cs.size=m /\
   ∀ i,i<j->cs[i]?=O (ak 87 (pp (w.heap.size+1+i)))/\w'.heap[w.heap.size+1+i]?=aP #[aj] 91,
  ⟨_,0,_,J,Nat.zero_le _,J,(bD.refl _ _).alloc _,by rw[size_alloc],tz J,by simp [madeCells],fun i b=>zo⟩,?_⟩
 intro q z d w1 c;refine toPr ?_;obtain⟨j,cs,a,k,rfl,l,s1,g1,n,o⟩:=c;have p:=bn g1;by_cases hlt:j<m
 .have r:((j:Nat):Int)<(m:Int):=zo;have f:((j:Nat):Int).toNat=j:=zo;have g:j<cs.size:=zo;refine jt a @f @g1 ?_;refine⟨_,zo,j+1,_,zs,zo,J,yF,yH,J,yH,fun i b=>?_⟩;exact yH
 .have h:j=m:=zo;subst h;refine cM a ?_;exact yH
def gV.fresh{T:Nat}{s:Sr}(h:gV D ρ n pb so T cs tv w s)(hD:∀ b,w.heap.size<=b->D b)(l:Ext w w')
  (hv:∀ j,j<m->w'.heap[w.heap.size+1+j]?=aP #[aj] 91):gV D (ye ρ n (w.heap.size+1)) (n+m) pb so T cs tv w' s:=by
 have hu:=XZ ρ n (w.heap.size+1) m;have hold:∀ i,i<n->ρ i<w.heap.size:=fun i d=>by
  obtain⟨r,a,-⟩:=h.sv.var i d;exact yH
 have f:=h.ext l;refine⟨⟨fun i j d o e=>?_,fun i d=>?_⟩,fun i d=>?_,f.cell,?_,h.dr,h.ds,h.nd,fun p c=>Nat.lt_of_lt_of_le (h.lt p c) hu.1,h.ok⟩
 .unfold ye at e;by_cases a:i<n
  .by_cases g:j<n
   .rw[zip a,zip g] at e;exact h.sv.inj i j a g e
   grind
  grind
 .by_cases a:i<n
  .obtain⟨r,g1,g2⟩:=f.sv.var i a;refine⟨r,by rw[hu.2 i a];omega,?_⟩;cases k:P.look i s.tr with
   | none=>exact yH
   | some t=>rw[k] at g2;exact dK.mono zg hu.1 hu.2 (fun _ _ _ _ _ h=>h) t r g2
  .have k:P.look i s.tr=none:=P.PS fun hm=>by
    obtain⟨p,c,rfl⟩:=List.mem_map.1 hm;exact a (h.lt p c)
   refine⟨aj,?_,zg⟩;unfold ye;rw[bO a];exact hv (i-n) zo
 .unfold ye;by_cases a:i<n
  .rw[zip a];grind [dv]
  exact yH
 .have e:rp (ye ρ n (w.heap.size+1)) s.tr=rp ρ s.tr:=by
   unfold rp;refine List.map_congr_left fun p c=>?_;rw[hu.2 p.1 (h.lt p (List.mem_reverse.1 c))]
  grind [row]
def ko.fresh{D:Nat->Prop}{ρ:Nat->Nat}{wb mb:Nat}{todo av vv tv:Y}{dk:List Y}{w w':Z}{k:Wk}(h:ko D ρ wb mb todo av vv tv dk w k)(hD:∀ b,w.heap.size<=b->D b){m:Nat}(a:Ext w w')
  (hv:∀ j,j<m->w'.heap[w.heap.size+1+j]?=aP #[aj] 91):ko D (ye ρ k.n (w.heap.size+1)) wb mb todo av vv tv dk w' { k with n:=k.n+m }:=
 ⟨h.st.fresh hD a hv,h.td.bJ (eM.ed a) (XZ ρ k.n (w.heap.size+1) m),jQ a.ext h.ar,h.ag.bJ (eM.ed a) (XZ ρ k.n (w.heap.size+1) m),h.da⟩
def aoG(c:w'.heap[b]?=aP cs 89)(f:cs.size=m)
  (d:∀ j,j<m->cs[j]?=O (ak 87 (pp (B+j)))):fO (fun _=>True) w' 89 (cU b m m) (mY (ye ρ n B) (a1m n m)):=by
 have g:(mY (ye ρ n B) (a1m n m)).length=m:=zs;have e:cs.toList=mY (ye ρ n B) (a1m n m):=by
  apply List.ext_getElem?;intro j;by_cases a:j<m
  .rw[Array.getElem?_toList,d j a,List.getElem?_map,List.getElem?_range' a];simp only[ye,Option.map_some,Nat.mul_one,Nat.one_mul];grind
  grind
 exact .inr ⟨b,cs,zg,trivial,c,zo,zg⟩
def aKV(R:∀ i∈fw,i<n){l:List Ex}(S:fg fw.length l)(hl:l.length<=100)(hv:fO (fun _=>True) w 106 v vs)(hx:eT (fun _=>True) w vs l)
  (T:fO (fun _=>True) w 89 vv (mY ρ fw)) :
  Calls baz 228 #[v,vv] w fun e w'=>Ext w w'/\∃ u us,e = ai u/\fO (fun _=>True) w' 89 u us/\pU ρ n w' us (oq fw l):=by
 have U:=hx.Ft;obtain⟨av,ac,rfl⟩:=hv.sl;have hlen:vs.length=l.length:=U;rw[hlen];refine aKK ?_;refine bF ?_;refine⟨fun m z w'=>∃ j g us,z 9=zi (j:Nat)/\z 4=g/\j<=l.length/\m=l.length-j/\Ext w w'/\w'.ownsRow w.heap.size 89 1 g j us /\
   iP (fun c=>w.heap.size<=c/\c<w'.heap.size/\O c≠g.ownBlock) ρ n w' us (oq fw (l.take j)),
  ⟨_,0,b9,[],J,J,Nat.zero_le _,J,yF,World.ownsRow_nil _ _ _ _,by simp [oq];unfold iP;rfl⟩,?_⟩
 intro m z d w3 W;refine toPr ?_;obtain⟨j,g,us,s,D,hj,rfl,a,p,x⟩:=W;have s3:=a.size;obtain⟨y,rc,rfl⟩:=ij p;by_cases hlt:j<l.length
 .have X:j<vs.length:=zo;obtain⟨sb,IX,B,-,e3,E⟩:=hv.at' X;obtain⟨u,e5,hu⟩:=eT.at' j hlt hx;rw[e5] at E;rw[hlen] at B;simp only[a0S,true_and] at B;obtain⟨rfl,rfl⟩:=B;have j8:((j:Nat):Int).toNat=j:=zo;have C:=a.ext _ _ e3;refine dL s @C @E @j8 ?_;have MO:eR (fun _=>True) w3 u l[j]:=eR.mono zg (by grind [bD.ext]) _ _ hu;refine a0C (aeI R (iH l[j]) l[j] (a0D _) (S.at hlt) MO (T.mono (fun _ h=>h) fun b cs _ hb=>a.ext _ _ hb)) ?_;rintro e f ⟨q,u4,rfl,G⟩;have s4:=q.size;obtain⟨H,I,rfl⟩:=G.iface;refine bF ?_;have K:Ext f (f.alloc (ah #[ak H I] 89)):=yF;have Aj:=jQ (q.trans K).ext p;rw[D];refine PZ (base:=w.heap.size) Aj (tz J) J zo (by rw[size_alloc];omega) ?_;intro v' w5 L M yd;have s5:=M.size;rw[size_alloc] at s5;have kp:∀ c o,f.heap[c]?=O o->O c≠(a0M y j rc).ownBlock->w5.heap[c]?=O o:=(by grind [size_alloc,bn,World.grownBy.block,bD.ext]);have lo:∀ k,(a0M y j rc).ownBlock=O k->w.heap.size<=k/\k<w3.heap.size:=fun k hk=>p.lt k hk;obtain⟨N,P,rfl⟩:=ij L;have nB:∀ c,c<f.heap.size->O c≠(a0M y j rc).ownBlock->O c≠(a0M N (j+1) P).ownBlock:=yH;refine cM s ?_;refine⟨_,?_,j+1,.slice N (j+1) P,us++[ak H I],zg,zg,zo,J,?_,L,?_⟩
  .omega
  .exact((a.trans q).trans K).grow M yH
  .rw[aeH fw l j hlt];refine iP.snoc ?_ ?_
   .refine dK.mono (F:=Nu w3 f) (fun c r=>?_) (a0D _) (fun _ _=>rfl) (fun c cs t r _ Q=>?_) _ _ G<;>grind
   .refine iP.mono (fun c r=>?_) zo zg (fun c cs t r _ Q=>?_) _ _ x
    .exact yH
    .exact kp c _ (q.ext _ _ Q) r.2.2
 .have fD:j=l.length:=zo;subst fD;rw[List.take_length] at x;refine dB s D ?_;exact⟨a,_,us,J,EO p zg,x.toT⟩
section
variable{D:Nat->Prop}{ρ:Nat->Nat}{wb mb:Nat}{todo av vv tv:Y}{dk:List Y}{w w':Z}{k:Wk}
theorem qH.take{n:Nat}:∀ {l:List nO} {vs:List Y} (m:Nat),qH ρ n w vs l->qH ρ n w (vs.take (m*4)) (l.take m)
 | l,vs,0,h=>by simp;rfl
 | [],vs,m+1,h=>by have h:vs=[]:=h;grind
 | a::l,vs,m+1,⟨b,cv,av,fX,us,rest,j,c,d,e,f,g,i⟩=>by
  refine⟨b,cv,av,fX,us,rest.take (m*4),?_,c,d,e,f,g,qH.take m i⟩;grind
theorem qH.at{n:Nat}:∀ {l:List nO} {vs:List Y} (m:Nat) (hm:m<l.length),qH ρ n w vs l->∃ b cv av fX us,(vs.drop (m*4)).take 4=[zi ((l[m]).mark:Nat),b,cv,av]/\uJ ρ n w b (l[m]).todo /\
   ou w 79 cv fX/\kr (fun _=>True) w fX (l[m]).clauses/\fO (fun _=>True) w 89 av us/\pU ρ n w us (l[m]).args
 | a::l,vs,0,_,⟨b,cv,av,fX,us,rest,d,e,f,g,h,i,c⟩=>zg
 | a::l,vs,m+1,hm,⟨b,cv,av,fX,us,rest,d,e,f,g,h,i,c⟩=>by
  obtain⟨j,o,av',p,k,g1,g2⟩:=qH.at m zg c;grind
def ko.forget(h:ko D ρ wb mb todo av vv tv dk w k)(hm:m<=k.br.length){a:Option Addr}(b:av = .slice a k.br.length c)
  (hw:w1=bT w wb (ah #[.map (O mb),tv,zi (k.sr.fuel:Nat),todo,.slice a m c,vv] 130)) :
  ko D ρ wb mb todo (.slice a m c) vv tv (dk.take (m*4)) w1 { k with br:=k.br.take m }/\di D w w1:=by
 have i:=h.ag.len;have hr:w.ownsRow 0 356 4 (.slice a m c) m (dk.take (m*4)):=by
  refine⟨zg,?_⟩;rcases h.ar.2 with⟨d,e⟩| ⟨g,cap,cur,d,e,j,n,o,p,q⟩<;>grind
 have f:w.grownBy w av.ownBlock:=⟨J,J,J,a0D _,yH⟩;obtain⟨r,s,-⟩:=h.KY (l:=k.br.take m) (av':=.slice a m c) (avs':=dk.take (m*4)) zg f (.inl (by rw[b];cases a<;>rfl)) (h.ag.take m) hw;exact yF
def ko.again(h:ko D ρ wb mb todo av vv tv dk w k)(hm:m<k.br.length)(o:av = cU g k.br.length c)(q:w.heap[g]?=aP iK 356)
  {cv:Y} {l:List Cl} (t:ou w 79 cv xs) (u:kr (fun _=>True) w xs l) (d:w1=bT w g (ah (iK.setIfInBounds (m*4+2) cv) 356 (0,0)))
  (x:w2=bT w1 wb (ah #[.map (O mb),tv,zi (k.sr.fuel:Nat),todo,cU g (m+1) c,vv] 130)) :
  (∃ avs',ko D ρ wb mb todo (cU g (m+1) c) vv tv avs' w2 { k with br:=k.br.take m++[{ k.br[m] with clauses:=l }] })/\di D w w2/\w1.heap[wb]?=w.heap[wb]?:=by
 have L:=h.ag.len;obtain⟨f,p,i,y,us,M,g2,g3,g4,g5,g6⟩:=h.ag.at m hm;have z:=bn q;obtain⟨a,B⟩:=ck (dk.take (m*4));have C:a.length=m*4:=zg;have N:w1.ownsRow 0 356 4 (cU g (m+1) c) (m+1) (a++[zi ((k.br[m]).mark:Nat),f,cv,i]):=by
  refine⟨zg,?_⟩;rcases h.ar.2 with⟨j,r⟩| ⟨E,cap,P,j,r,s,Q,F,G,R⟩
  .exact yH
  .rw[o] at j;have j:g=E/\c=cap:=zg;obtain⟨rfl,rfl⟩:=j;rw[q] at s;cases s;refine .inr ⟨g,c,_,J,r,by rw[d];exact qo J z,zo,F,by simpa using G,?_⟩;have S:iK.toList.take ((m+1)*4)=a++[zi ((k.br[m]).mark:Nat),f,p,i]:=by
    have T:iK.toList.take ((m+1)*4)=dk.take ((m+1)*4):=by
     grind
    grind
   grind [Array.toList_setIfInBounds,List.take_set,List.set_append_right,Nat.add_sub_cancel_left]
 have H:w.grownBy w1 av.ownBlock:=⟨by rw[d];rfl,by rw[d];rfl,by rw[d];rfl,yH,fun b _ I=>by
  rw[d,jh (fun e=>I (by subst e;rw[o];rfl))]⟩
 have K:qH ρ k.n w (a++[zi ((k.br[m]).mark:Nat),f,cv,i]) (k.br.take m++[{ k.br[m] with clauses:=l }]):=by
  rw[B];exact(h.ag.take m).snoc ⟨f,cv,i,xs,us,[],J,g2,t,u,g5,g6,J⟩
 have U:(k.br.take m++[{ k.br[m] with clauses:=l }]).length=m+1:=by
  grind
 obtain⟨W,X,r3⟩:=h.KY (l:=k.br.take m++[{ k.br[m] with clauses:=l }]) zg H (.inl (by rw[o];rfl)) K x;exact yH
def P8{w:Z}{size:Nat}{a:Option Addr}(h:w.ownsRow base e size (.slice a n c) n xs):n<=c/\∀ (m s:Nat),sliced a 0 m c s = .slice a m c:=by
 rcases h.2 with⟨d,f⟩| ⟨b,cap,cur,d,f,g,i,j,k,l⟩
 .cases d;exact⟨a0D _,(by grind [sliced])⟩
 grind [sliced,Addr.add]
theorem ko.dm(h:ko D ρ wb mb todo av vv tv dk w k)(hD:∀ b,w.heap.size<=b->D b):∀ b,w.heap.size<=b->Dm D av b:=fun b a=>⟨hD b a,(by grind [bn,Eg])⟩
abbrev Fw(D:Nat->Prop)(ρ:Nat->Nat)(n wb mb:Nat)(vv:Y)(p:Bool×Wk)(e:Ending)(w':Z):Prop:=
 e = ai (.bool p.1)/\∃ eO,eC ρ n eO p.2.n/\P5 D eO wb mb vv w' p.2
def aoI(h:ko D ρ wb mb todo av vv tv dk w k)(hD:∀ b,w.heap.size<=b->D b){us:List Y}{l:List Cl}{args:List Tm}{td:List P.Goal}{r:Except iM (Bool×Wk)}
  (hs:ou w 79 o4 xs) (hc:kr (fun _=>True) w xs l) (ha:fO (fun _=>True) w 89 iv us) (ht:pU ρ k.n w us args) (dj:iX args) (fx:∀ c∈l,sN M c/\c.args.length=args.length) (hM:M<=100000)
  (mD:uJ ρ k.n w o5 td) (hm:m<=k.br.length) (nP:1<l.length->m<k.br.length) (hz:k.sr.cW<=800000000) (zc:k.br.length<=900000000) (hr:sL f args l td m k=O r) :
  Calls baz 224 #[pp wb,iv,o4,o5,zi (m:Nat)] w (EPost D w (Fw D ρ k.n wb mb vv) r):=by
 have JU:k.sr.tr.length+k.sr.fuel<=800000000:=hz;unfold sL at hr;refine aKM ?_;refine bF ?_;refine a0C (No h.less Fv zo) ?_;rintro e w1 ⟨L,F⟩;by_cases h0:k.sr.fuel=0
 .rw[zip h0] at hr F;injection hr with hr;subst hr F;exact⟨L.up fun _ h=>h.1,J⟩
 rw[bO h0] at hr F;obtain⟨rfl,F⟩:=F;obtain⟨z,L⟩:=h.store F L;cases l with
 | nil=>cases hr
 | cons c rest=>
 simp only at hr;obtain⟨cv,P6,rfl,jg,J7⟩:=hc;obtain⟨Eh,aWe⟩:=fx c (List.mem_cons_self ..);obtain⟨lb,lo,TN,lcs,rfl,Wc,qQ,aKX⟩:=hs.at (j:=0) zs;rw[Nat.add_zero] at qQ;have Bu:=L.toI;have aKY:=Bu _ _ _ (yM) Wc;refine dB aKY qQ ?_;obtain⟨aa,ac,N⟩:=ij z.ar;have c1:=z.cell;have lw1:=bn c1;have Q:Ext w1 w1.drew:=yF;refine⟨fun _ w'=>∃ av' avs',ko D ρ wb mb todo av' vv tv avs' w' { k with sr:=k.sr.dec,br:=rH k.br m rest }/\di D w w',?_,?_⟩
 .obtain⟨PT,iW⟩:=P8 (by rw[N] at z;exact z.ar:w1.ownsRow 0 356 4 (.slice aa k.br.length ac) k.br.length dk);have kN:av = .slice aa k.br.length ac:=N;cases rest with
  | nil=>
   have jg:P6=[]:=J7;subst jg;have TO:(m:Int)<=(ac:Nat):=zo;refine jt @c1 N iW ?_;obtain⟨R,r2⟩:=z.forget hm kN J;exact⟨_,_,R,yF⟩
  | cons c2 rest=>
   obtain⟨cv2,X3,rfl,-,-⟩:=id J7;have wY:m<k.br.length:=zg;rcases z.ar.2 with⟨B,e2⟩| ⟨g,cap,cur,B,e2,hg,S,e5,e6,e7⟩
   .have e2:k.br.length=0:=e2;omega
   rw[N] at B;cases B;have DE:g≠wb:=zg;have aWf:(m:Int)<(k.br.length:Nat):=zo;obtain⟨sa,sc,ze⟩:∃ sa sc,sliced (O ⟨lb,lo,V⟩) 1 (X3.length+1+1) TN 1 = .slice sa (X3.length+1) sc:=⟨_,_,J⟩;have TO:(m:Int)+1<=(ac:Nat):=zo;have P9:ou w1 79 (.slice sa (X3.length+1) sc) (cv2::X3):=by
    rw[<- ze];exact(hs.bJ fun b cs G=>Bu _ _ _ (yM) G).tail zs
   refine dL @c1 N hg (zA ze iW) ?_;obtain⟨⟨avs',R⟩,r2,-⟩:=(z.ext Q).again (m:=m) wY kN (Q.ext _ _ hg) (P9.bJ fun b cs G=>Q.ext _ _ G) (kr.iJ (Bu.trans (eM.ed Q)) J7) J J;have e3:((m:Int)+1).toNat=m+1:=zo;rw[e3];have S:rH k.br m (c2::rest)=k.br.take m++[{ k.br[m] with clauses:=c2::rest }]:=by
    grind [rH,List.getElem?_eq_getElem]
   rw[S];exact⟨_,avs',R,L.trans ((di.ed Q).trans r2)⟩
 .rintro s w2 ⟨uI,Qa,h2,dT⟩ d;clear d;have s2:=dT.size;have Wh:=dT.toI;obtain⟨cb,cav,cbv,X4,TP,rfl,-,gX,⟨xus,lY,xF⟩,nK⟩:=jg;have KK:=Wh _ _ _ (yM) gX;have X5:=bn KK;have hM5:c.vars.length<=100000:=a0E Eh.vars hM;refine cM KK ?_;refine a0C (aoF c.vars.length hM5 w2) ?_;rintro e w3 ⟨eK,s3,vcs,rfl,yX,CM,X6⟩;have h3:=h2.fresh (fun b G=>hD b (a0E s2 G)) eK (fun j hj=>(X6 j hj).2);have C:=aoG (ρ:=ρ) (n:=k.n) yX CM (fun j hj=>(X6 j hj).1);have T:eC ρ k.n (ye ρ k.n (w2.heap.size+1)) (k.n+c.vars.length):=XZ _ _ _ _;have CL:di D w w3:=yF;generalize ye ρ k.n (w2.heap.size+1)=eO at h3 C T;have KM:=eK.ext _ _ KK;obtain⟨xa,xc,aK2⟩:=lY.sl;subst aK2;have JJ:xus.length=c.args.length:=eT.Ft xF;refine dB KM JJ ?_;cases hq:rf f (a1m k.n c.vars.length) args c.args k.sr.dec with
  | none=>rw[hq] at hr;cases hr
  | some q=>
  rw[hq] at hr;refine⟨fun n x a=>∃ j H Fq,x 64=zi (j:Nat)/\j<=c.args.length/\n=c.args.length-j/\ko D eO wb mb todo uI vv Fq Qa a ⟨k.n+c.vars.length,H,k.todo,rH k.br m rest⟩/\di D w3 a/\H.cW<=800000000 /\
    rf f (a1m k.n c.vars.length) (args.drop j) (c.args.drop j) H=O q,⟨_,0,_,_,J,Nat.zero_le _,J,h3,yF,by grind [Sr.cW,Sr.dec],hq⟩,?_⟩
  intro n x d a hI;refine toPr ?_;obtain⟨j,H,Fq,X7,hj,rfl,h4,gn,X8,o⟩:=hI;have aK3:=CL.trans gn;have I:=di.toI aK3;have s4:=gn.size;by_cases hlt:j<c.args.length
  .have xf:=Eh.qC;have X9:j<args.length:=zo;obtain⟨sb,IX,B,-,e3,S⟩:=lY.at' (j:=j) zo;obtain⟨u,e5,hu⟩:=eT.at' j hlt xF;rw[e5] at S;rw[JJ] at B;simp only[a0S,true_and] at B;obtain⟨rfl,rfl⟩:=B;have uL:us.length=args.length:=ht.length;obtain⟨ub,ucs,u1,-,u3,u4⟩:=ha.at' (j:=j) zo;obtain⟨uv,u5,ND⟩:=ht.at j X9;rw[u5] at u4;have j8:((j:Nat):Int).toNat=j:=zo;have e34:=I _ _ _ (yM) e3;have AW:=I _ _ _ (yM) u3;have yf:((j:Nat):Int)<(c.args.length:Nat):=zo;refine dL X7 @e34 @S @j8 ?_;have TQ:Ext a a.drew:=yF;refine⟨fun w'=>w'.heap[ub]?=a.heap[ub]?,J,?_⟩;rw[jF];refine cR (pq wb 1) (fun w' t=>eS) ?_;have aK6:((j:Nat):Int)<(us.length:Nat):=zo;refine cR (pq ub j) (fun w' t=>by rw[AW] at t;have:=bn t;rw[u1,X7];exact lW t @j8) ?_;obtain⟨KP,xv1,U⟩:=ND.iface;refine cR uv (fun w' t=>by rw[AW] at t;have:=bn t;rw[U] at u4;exact AV t @j8 @u4 U) ?_;have NA:∀ i∈a1m k.n c.vars.length,i<k.n+c.vars.length:=zg;have hXe:eM w a.drew:=I.trans (eM.ed TQ);have hx4:eR (fun _=>True) a.drew u c.args[j]:=eR.mono zg hXe.lx _ _ hu;have Cu:ir (a1m k.n c.vars.length).length c.args[j]:=by rw[List.length_range'];exact Eh.args.at hlt
   refine a0C (aeI NA (iH c.args[j]) c.args[j] zo Cu hx4 (C.iJ ((di.toI gn).trans (eM.ed TQ)) (yM))) ?_;rintro e K ⟨rq,u5v,rfl,XU⟩;have ER:=rq.ext _ _ (TQ.ext _ _ AW);refine⟨yH,?_⟩;have y:Ext a K:=yF;have h5:=h4.ext y;have hD5:∀ b,K.heap.size<=b->D b:=fun b G=>hD b (by have:=y.size;omega);obtain⟨E,W,X⟩:∃ E,gY f args[j] (P.made (a1m k.n c.vars.length) c.args[j]) H=O E /\
     (match E with | .error e=>q = .error e | .ok p=>(if p.1=A then rf f (a1m k.n c.vars.length) (args.drop (j+1)) (c.args.drop (j+1)) p.2 else O (.ok (ae,p.2)))=O q):=by
    rw[a0I hlt,a0I X9,rf] at o;cases hu:gY f args[j] (P.made (a1m k.n c.vars.length) c.args[j]) H with
    | none=>rw[hu] at o;cases o
    | some E=>
     rw[hu] at o;refine⟨E,J,?_⟩;cases E with
     | error e=>exact(Option.some.inj o).symm
     | ok p=>exact o
   refine a0C (PV Fv f h5.less (h5.dm hD5) (dN.P4 (I.trans (eM.ed y)) T ND) (IM dj X9) XU.toT (WQ _ _ Cu) zg W) ?_;rintro e w6 ⟨j4,me⟩;have pX:di D a w6:=(di.ed y).trans (j4.up fun _ h=>h.1);cases E with
   | error te=>
    subst X;have me:e=gW te:=me;subst me;cases hr;cases te<;>exact fun _=>⟨yF,J⟩
   | ok p=>
    obtain⟨b1,s6⟩:=p;obtain⟨rfl,tv6,h6⟩:=me;obtain⟨h6,TS⟩:=h5.store h6 j4;have XS:=((DP f).tm W).1;cases b1 with
    | false=>
     simp only[Bool.false_eq_true,if_false] at X;cases X;cases hr;refine bF ?_;exact⟨yF,J,eO,T,_,_,_,_,h6⟩
    | true=>
     simp only[if_true] at X;refine cM X7 ?_;exact⟨_,zo,j+1,s6,tv6,zg,zo,J,h6,yF,zg,X⟩
  .have fD:j=c.args.length:=zo;subst fD;have Ii:args.drop c.args.length=[]:=zg;rw[Ii,rf] at o
   .cases o;cases hr;have aK9:=I _ _ _ (yM) gX;have c4:=h4.cell;have lc4:=bn c4;obtain⟨tq,rfl⟩:=mD.ptr;obtain⟨xb,rfl,-⟩:=nK.shape;refine jt X7 aK9 @c4 ?_;obtain⟨K,ow⟩:=ck (a.alloc (ah #[pp xb,cU w2.heap.size c.vars.length c.vars.length,zi (m:Nat),.pointer tq] 207));have y:Ext a K:=yF;have g5:K.heap[a.heap.size]?=aP #[pp xb,cU w2.heap.size c.vars.length c.vars.length,zi (m:Nat),.pointer tq] 207:=yH;rw[<- ow];have TU:eM w K:=I.trans (eM.ed y);have NA:∀ i∈a1m k.n c.vars.length,i<k.n+c.vars.length:=zg;obtain⟨R,r2⟩:=(h4.ext y).KX (todo':=pp a.heap.size) (l:=⟨O c.body,a1m k.n c.vars.length,m⟩::td)
     ⟨_,_,_,_,J,g5,dM.iJ TU nK,C.iJ ((di.toI gn).trans (eM.ed y)) (yM),NA,mD.bJ TU T⟩ J
    exact⟨yF,J,eO,T,_,_,_,_,R⟩
   grind
end
def P.keyOf(name:Bs)(n:Nat):Bs:=name++[47,UInt8.ofNat (48+n)]
theorem P.aeR{a b:Bs}(e:n<80)(hm:m<80):P.keyOf a n=P.keyOf b m↔a=b/\n=m:=by
 unfold P.keyOf;constructor
 .intro h;obtain⟨d,c⟩:=List.append_inj' h J;refine⟨d,?_⟩;injection c with _ c;injection c with c _;have:=congrArg UInt8.toNat c;grind [UInt8.toNat_ofNat']
 grind
def wrap32(n:Nat)(a:n<80):IntKind.i32.wrap (48+(n:Int))=((48+n:Nat):Int):=by
 grind [IntKind.wrap,IntKind.bits,IntKind.signed]
def aoN(name:Bs)(n:Nat)(b:name.length<=100)(a:n<80)(w:Z):Calls baz 78 #[aW name,zi (n:Nat)] w fun e w'=>e = ai (aW (P.keyOf name n))/\w'=w:=by
 refine aKS ?_;refine bF ?_;rw[Mh _ _ zg];refine bF ?_;rw[wrap32 n a,ajg zk zk zo,Mh _ _ zg];exact⟨by grind [P.keyOf,List.append_assoc],J⟩
def G5(base:List Cl)(name:Bs)(n:Nat):List Cl:=base.filter fun c=>c.name == name && c.args.length == n
def Bv(w:Z)(mb:Nat)(base:List Cl):Prop:=∃ es c,w.heap[mb]?=O (.map es c)/\Mn es.toList/\∀ (name:Bs) (n:Nat),n<=4->match AT (P.keyOf name n) es.toList 0 with
 | none=>G5 base name n=[]
 | some (_,v)=>G5 base name n≠[]/\∃ vs,fO (fun _=>True) w 79 v vs/\kr (fun _=>True) w vs (G5 base name n)
theorem Bv.bJ{base:List Cl}(h:Bv w mb base)(hk:eM w w')(hm:∀ es c,w.heap[mb]?=O (.map es c)->w'.heap[mb]?=O (.map es c)):Bv w' mb base:=by
 obtain⟨es,c,e,a,b⟩:=h;refine⟨es,c,yH,a,fun name n d=>?_⟩;have:=b name n d;split at this
 .omega
 .rename_i i v hx;obtain⟨g1,vs,g2,g3⟩:=this;exact⟨g1,vs,g2.iJ hk (yM),g3.iJ hk⟩
theorem Bv.fr{base:List Cl}(h:Bv w mb base)(a:di D w w'):Bv w' mb base:=
 h.bJ (di.toI a) fun es c hm=>a.block _ _ hm (by rintro ⟨_,cs',b,z,d,e⟩;grind)
def aoO{x:Operand}(a:Option Addr)(n c:Nat):RD baz (bo .eql 68 x y (.slice a n c) b9) w K X=K (.bool a.isNone):=
 ig (by cases a<;>kernel_rfl)
section
variable{D:Nat->Prop}{ρ:Nat->Nat}{wb mb:Nat}{todo av vv tv:Y}{dk:List Y}{w w':Z}{k:Wk}
def ko.part(h:ko D ρ wb mb todo av vv tv dk w k){q:Except iM (Bool×Sr)}{r:Except iM (Bool×Wk)}(hr:P.Out.bind (O q) (fun p=>O (.ok (p.1,{ k with sr:=p.2 })))=O r){e:Ending}
  (a:EPost (Dm D av) w (xj (Dm D av) ρ k.n wb 1 130 (G2 mb todo av vv)) q e w'):EPost D w (Fw D ρ k.n wb mb vv) r e w':=by
 obtain⟨b,a⟩:=a;cases q with
 | error t=>
  cases hr;exact⟨b.up fun _ h=>h.1,a⟩
 | ok p=>
  cases hr;obtain⟨rfl,g,c⟩:=a;obtain⟨d,f⟩:=h.store c b;exact⟨f,J,ρ,eC.refl _ _,_,_,_,_,d⟩
def EPost.aeS{r:Except iM (Bool×Wk)}{e:Ending}(h:EPost D w (Fw D ρ n wb mb vv) r e w') :
 ends (fun x w'=>EPost D w (Fw D ρ n wb mb vv) r (ai x) w') (PC (EPost D w (Fw D ρ n wb mb vv) r)) e w':=h.tail zg
def aLa(h:ko D ρ wb mb todo av vv tv dk w k)(hD:∀ b,w.heap.size<=b->D b){base:List Cl}(hB:Bv w mb base)(fx:∀ c∈base,sN M c)(hM:M<=100000){name:Bs}{args:List Ex}
  (o:dM (fun _=>True) w o5 (.mk pb name args gI)) (hv:fO (fun _=>True) w 89 o4 (mY ρ fw)) (Qd:∀ i∈fw,i<k.n) (eW:eY fw.length M (.mk pb name args gI))
  (hz:k.sr.cW<=800000000) (zc:k.br.length<900000000) {r:Except iM (Bool×Wk)} (hr:E8 base f name args fw k=O r) :
  Calls baz 227 #[pp wb,o5,o4] w (EPost D w (Fw D ρ k.n wb mb vv) r):=by
 have JU:k.sr.tr.length+k.sr.fuel<=800000000:=hz;unfold dM at o;obtain⟨gb,gav,gpv,gus,gps,rfl,-,Qe,TV,B,-,-⟩:=o;unfold eY at eW;obtain⟨my,-,-,Fb,Cu,-,-,-⟩:=eW;have lgb:=bn Qe;have hc:=h.cell;have lwb:=bn hc;refine aKN ?_;have A2:gus.length=args.length:=eT.Ft B;obtain⟨ga,gc,aLe⟩:=TV.sl;subst aLe;refine cM Qe ?_;refine a0C (aKV Qd Cu zo TV B hv) ?_;rintro e w1 ⟨dC,u,us,rfl,nT,kQ⟩;have C:=h.ext dC;have E:=dC.ext _ _ Qe;have aWm:=bn E;have F:=C.cell;have aWn:=bn F;have s1:=dC.size;have uL:us.length=args.length:=by rw[kQ.length,(IA fw args Cu).2]
 obtain⟨ua,uc,ND⟩:=nT.sl;subst ND;have aK6:(us.length:Int)=(args.length:Nat):=zo;refine cM E ?_;refine a0C (MK name) ?_;rintro e a ⟨rfl,rfl⟩;refine bF ?_;have dE:Ext a a.drew:=yF;have aLg:Ext w a.drew:=yF;unfold E8 at hr;by_cases ht:jx name=args.length
 .rw[zip ht] at hr;have Bl:jx name=(us.length:Int):=zo;refine dB Bl E ?_;cases hq:uy f name (oq fw args) k.sr with
  | none=>rw[hq] at hr;cases hr
  | some q=>
  rw[hq] at hr;have G:=C.ext dE;refine a0C (aot Fv (r:=q) G.less (by grind [BU,ko.dm]) (nT.mono zg yH) (kQ.bJ (rn.ed dE)) (by grind [IA]) (by grind [IA]) zo hq) ?_;rintro e w2 H;have H:=G.part hr H;exact EPost.aeS (H.of yF)
 .rw[bO ht] at hr;have Bl:¬ jx name=(us.length:Int):=zo;refine dB Bl E ?_;have hdw:a.drew.heap=a.heap:=rfl;refine⟨fun w'=>w'.heap[wb]?=a.heap[wb]?/\w'.heap[gb]?=a.heap[gb]?,yH,?_⟩;rw[jF];refine cR (pp wb) (fun w' j=>eS) ?_;refine cR (.map (O mb)) (fun w' j=>by have p:=j.1;rw[F] at p;have:=bn p;exact fj p) ?_;rw[jF];refine cR (pq gb 1) (fun w' j=>eS) ?_;refine cR (aW name) (fun w' j=>by have p:=j.2;rw[E] at p;have:=bn p;exact fj p) ?_;refine bF ?_;refine a0C (aoN name us.length zo zo _) ?_;rintro e w2 ⟨rfl,rfl⟩;refine⟨yH,?_⟩;rw[uL];have G:=C.ext dE;obtain⟨es,ec,b1,b2,x⟩:=hB.fr (D:=D) (di.ed aLg);have x:=x name args.length zo;have iV:(base.filter fun c=>c.name == name && c.args.length == args.length)=G5 base name args.length:=rfl;rw[iV] at hr;have xg:∀ {K:Y->Prop} {X:Y->Z->Prop},RD baz (Instr.lookup 125 (.map (O mb)) (.string (bs (P.keyOf name args.length))) ae) a.drew K X=(match AT (P.keyOf name args.length) es.toList 0 with
    | some (_,v)=>K v
    | none=>K (.slice V 0 0)):=fun{K X}=>by
   rw[ajl (k:=9) (e:=68) zk zk (z:=b9) zk b1 b2];rfl
  rw[xg];cases I:AT (P.keyOf name args.length) es.toList 0 with
  | none=>
   rw[I] at x;rw[show G5 base name args.length=[] from x] at hr;cases hr;refine⟨fun _ _=>False,?_,by rintro _ _ h;exact h.elim⟩;show RD _ _ _ _ _;rw[aoO];refine bF ?_;exact⟨yF,J⟩
  | some iv=>
   obtain⟨i,v⟩:=iv;rw[I] at x;obtain⟨eh,vs,CM,jP⟩:=(x:G5 base name args.length≠[]/\∃ vs,fO (fun _=>True) a.drew 79 v vs/\kr (fun _=>True) a.drew vs (G5 base name args.length));obtain⟨l,hl⟩:=ck (G5 base name args.length);have hr:sL f (oq fw args) l k.todo k.br.length { k with br:=k.br++[⟨k.sr.tr.length,k.todo,l,oq fw args⟩] }=O r:=by
    grind
   rw[<- hl] at jP eh;have L:vs≠[]:=by
    rintro rfl;cases l with
    | nil=>grind
    | cons c0 l0=>obtain⟨_,_,h0,-⟩:=jP;grind
   obtain⟨vb,vcs,rfl,-,yX,-,-⟩:=CM.resolve_left zg;refine⟨fun _ w'=>w'=a.drew,?_,?_⟩
   .show RD _ _ _ _ _;rw[aoO];exact eS
   .rintro s w3 rfl d;clear d;have c1d:a.drew.heap[wb]?=_:=F;obtain⟨aa,ac,gD⟩:=ij G.ar;obtain⟨tq,N⟩:=G.td.ptr;refine dB @c1d gD ?_;refine⟨fun w'=>w'.heap[wb]?=a.heap[wb]?,J,?_⟩;refine toPr ?_;rw[jF];refine cR (pq wb 4) (fun w' j=>eS) ?_;refine cR av (fun w' j=>by rw[F] at j;have:=bn j;exact lW j gD) ?_;rw[jF];refine cR (pq wb 1) (fun w' j=>eS) ?_;rw[jF];refine cR (pq wb 3) (fun w' j=>eS) ?_;refine cR (.pointer tq) (fun w' j=>by rw[F] at j;have:=bn j;exact lW j N) ?_;have Ed:Ext a a.drew.drew:=yF;refine a0C (Tn (C.ext Ed).st Fv) ?_;rintro e w4 ⟨rfl,rfl⟩;refine⟨J,?_⟩;refine bF ?_;obtain⟨l0,qQ⟩:∃ l0:List Y,l0=[zi (k.sr.tr.length:Nat),.pointer tq,cU vb vs.length vcs.size,.slice ua args.length uc]:=⟨_,J⟩;obtain⟨y,ow⟩:=ck (a.drew.drew.alloc (ah l0.toArray 356 (0,0)));have NG:Ext a y:=yF;have g5:y.heap[a.heap.size]?=aP l0.toArray 356:=yH;have s5:y.heap.size=a.heap.size+1:=yH;rw[qQ] at ow;rw[<- ow];have Q:=C.ext NG;have q5:=Q.cell;refine aoB (n:=k.br.length) Q.ar g5 zg (by rw[qQ];intro u hu;simp only[List.mem_cons,List.not_mem_nil,or_false] at hu;rcases hu with rfl | rfl | rfl | rfl<;>rfl) zo zo ?_;intro v' w6 R pN A5;obtain⟨p6,d6,e6⟩:=ij R;subst e6;obtain⟨w7,Ya⟩:=ck (bT w6 wb (ah #[.map (O mb),tv,zi (k.sr.fuel:Nat),todo,.slice p6 (k.br.length+1) d6,vv] 130));have S:eM a.drew y:=fun b cs T hT o=>yH;have U:=CM.iJ S (yM);have W:=jP.iJ S;have t:=nT.mono (F':=fun _=>True) (fun _ _=>trivial) fun b cs _ o=>NG.ext _ _ o;have aoW:=kQ.bJ (rn.ed NG);rw[uL] at t;have kN:qH ρ k.n y (dk++l0) (k.br++[⟨k.sr.tr.length,k.todo,l,oq fw args⟩]):=by
     refine Q.ag.snoc ⟨.pointer tq,_,_,vs,us,[],zg,?_,ou.of U L,W,t,aoW,J⟩;rw[<- N];exact Q.td
    obtain⟨r1,r2,r3⟩:=Q.KY (l:=k.br++[⟨k.sr.tr.length,k.todo,l,oq fw args⟩]) (by rw[List.length_append,List.length_singleton];exact R) pN (A5.imp id fun hx g hg=>⟨hD g (by have:=hx g hg;omega),hx g hg⟩) kN Ya;refine⟨yH,?_⟩;have c6:=r3.trans q5;have l6:=bn c6;refine cM @c6 ?_;rw[<- Ya];have aoX:di D w w7:=(di.ed (dC.trans NG)).trans r2;have Yb:eM y w7:=di.toI r2;have xV:=IA fw args Cu;refine a0C (aoI (k:={ k with br:=k.br++[⟨k.sr.tr.length,k.todo,l,oq fw args⟩] }) (M:=M) (f:=f) (m:=k.br.length) (l:=l) (args:=oq fw args) (td:=k.todo) (r:=r) r1 (fun b o=>hD b (a0E aoX.size o))
     (ou.of (U.iJ Yb (yM)) L) (W.iJ Yb) (t.iJ Yb (yM)) (pU.P4 Yb (eC.refl _ _) aoW) xV.1 (fun c hc=>?_) hM r1.td zs zg hz zg hr) ?_
    .grind
    .rintro e w8 H;exact EPost.aeS (H.of aoX)
end
def gF.CN{F:Nat->Prop}{w:Z}:∀ {l:List Bd} {us:List Y} (j:Nat) (a:j<l.length),gF F w us l->∃ u,us[j]?=O u/\dM F w u l[j]
 | x::l,us,0,_,h=>by
  unfold gF at h;grind
 | x::l,us,j+1,a,h=>by
  unfold gF at h;obtain⟨v,r,rfl,c,b⟩:=h;simpa using gF.CN j zg b
def gF.G6{F:Nat->Prop}{w:Z}:∀ {l:List Bd} {us:List Y},gF F w us l->us.length=l.length
 | [],us,h=>by unfold gF at h;subst h;rfl
 | x::l,us,h=>by
  unfold gF at h;obtain⟨v,r,rfl,b,a⟩:=h;simp [gF.G6 a]
section
variable{D:Nat->Prop}{ρ:Nat->Nat}{wb mb:Nat}{todo av vv tv:Y}{dk:List Y}{w w':Z}{k:Wk}
def partAt{us:List Y}{tv:Y}(c:fO (fun _=>True) w 84 tv us)(hx:gF (fun _=>True) w us gI)(d:j<gI.length) :
  ∃ pb a xb,tv = cU pb gI.length a.size/\w.heap[pb]?=aP a 84/\a[j]?=O (pp xb)/\dM (fun _=>True) w (pp xb) gI[j]:=by
 have f:=hx.G6;obtain⟨b,cs,g,-,h,i⟩:=c.at' (j:=j) zo;obtain⟨u,k,e⟩:=hx.CN j d;obtain⟨xb,rfl,-⟩:=e.shape;exact yH
def S3(a pb b:Nat)(w3 w':Z):Prop:=w'.heap[a]?=w3.heap[a]?/\w'.heap[pb]?=w3.heap[pb]?/\w'.heap[b]?=w3.heap[b]?
theorem S3.of{w':Z}(h:Ext w3 w'){b p g:Obj}(a:w3.heap[cap]?=O b)(c:w3.heap[pb]?=O p)(d:w3.heap[k']?=O g):S3 cap pb k' w3 w':=
 ⟨by rw[a];exact h.ext _ _ a,by rw[c];exact h.ext _ _ c,by rw[d];exact h.ext _ _ d⟩
def Qf{tv vv av:Y}(d:w3.heap[cap]?=aP #[tv,vv,av,cU pb n so] 149)
  (c:w3.heap[pb]?=aP iK 84) (f:i<n) (hx:iK[i]?=O (pp xb)) (hv:v=zi (i:Nat)) (hk:K (pp xb)) :
  NC (pp cap) fun x=>uU baz (a1q 149 x 3) (S3 cap pb k' w3) fun x=>uU baz (a0Q 147 x) (S3 cap pb k' w3) fun x=>uU baz (Instr.indexAt 147 x v) (S3 cap pb k' w3) fun x=>
   uU baz (a0Q 84 x) (S3 cap pb k' w3) K:=by
 have e:(i:Int).toNat=i:=zo;have g:(i:Int)<(n:Nat):=zo;rw[jF];refine cR (pq cap 3) (fun w' b=>eS) ?_;refine cR (cU pb n so) (fun w' b=>by have a:=b.1;rw[d] at a;have:=bn a;exact fj a) ?_;refine cR (pq pb i) (fun w' b=>by have a:=b.2.1;rw[c] at a;have:=bn a;rw[hv];exact lW a @e) ?_;refine cR (pp xb) (fun w' b=>by have a:=b.2.1;rw[c] at a;have:=bn a;exact lW a hx) ?_;omega
def Qh{tv vv av:Y}{a:Option Addr}(e:w3.heap[k']?=aP #[tv,.slice a n c,vv,av] 207)(hk:K (.slice a n c)) :
  NC (pp k') fun x=>uU baz (a1q 207 x 1) (S3 cap pb k' w3) fun x=>uU baz (a0Q 82 x) (S3 cap pb k' w3) K:=by
 rw[jF];refine cR (pq k' 1) (fun w' d=>eS) ?_;refine cR (.slice a n c) (fun w' d=>by have b:=d.2.2;rw[e] at b;have:=bn b;exact fj b) ?_;omega
def Yc{tv vv av:Y}{z:Int}(c:w3.heap[k']?=aP #[tv,vv,zi z,av] 207)(hk:K (zi z)) :
  NC (pp k') fun x=>uU baz (a1q 207 x 2) (S3 cap pb k' w3) fun x=>uU baz (a0Q 3 x) (S3 cap pb k' w3) K:=by
 rw[jF];refine cR (pq k' 2) (fun w' b=>eS) ?_;refine cR (zi z) (fun w' b=>by have a:=b.2.2;rw[c] at a;have:=bn a;exact fj a) ?_;omega
def aLi(h:ko D ρ wb mb todo av vv tv dk w k)(hD:∀ b,w.heap.size<=b->D b){base:List Cl}(hB:Bv w mb base)(fx:∀ c∈base,sN M c)(hM:M<=100000)
 {g:P.Goal} (hgq:w.heap[cap]?=aP #[o4,iv,zi (g.cut:Nat),o5] 207) (Il:P3 w o4 g.Bm) (C:fO (fun _=>True) w 89 iv (mY ρ g.vars)) (L:∀ i∈g.vars,i<k.n)
  (hcut:g.cut<=k.br.length) (eW:∀ b,g.Bm=O b->eY g.vars.length M b) (hz:k.sr.cW<=800000000) (zc:k.br.length<900000000) {r:Except iM (Bool×Wk)} (hr:y5 base f g k=O r) :
  Calls baz 225 #[pp wb,pp cap] w (EPost D w (Fw D ρ k.n wb mb vv) r):=by
 have JU:k.sr.tr.length+k.sr.fuel<=800000000:=hz;unfold y5 at hr;refine aKO ?_;refine bF ?_;refine a0C (No h.less Fv zo) ?_;rintro e w1 ⟨H,dF⟩;by_cases h0:k.sr.fuel=0
 .rw[zip h0] at hr dF;injection hr with hr;subst hr dF;exact⟨H.up fun _ h=>h.1,J⟩
 rw[bO h0] at hr dF;obtain⟨rfl,dF⟩:=dF;obtain⟨o,H⟩:=h.store dF H;have I:eM w w1:=di.toI H;have s1:=H.size;have x:=I _ _ _ (yM) hgq;have lq1:=bn x;have U:=o.cell;have lw1:=bn U;have dE:Ext w1 w1.drew:=yF;obtain⟨aa,ac,gD⟩:=ij o.ar;obtain⟨PT,iW⟩:=P8 (by rw[gD] at o;exact o.ar:w1.ownsRow 0 356 4 (.slice aa k.br.length ac) k.br.length dk);have qx:(g.cut:Int)<=(ac:Nat):=zo;have Ty:∀ b,w1.heap.size<=b->D b:=yH;have ao0:∀ {w2:Z},w2=bT w1.drew wb (ah #[.map (O mb),tv,zi (k.sr.dec.fuel:Nat),todo,.slice aa g.cut ac,vv] 130) ->
   EPost D w (Fw D ρ k.n wb mb vv) (.ok (A,{ k with sr:=k.sr.dec,br:=k.br.take g.cut })) (ai (.bool A)) w2:=fun{w2} j3=>by
  obtain⟨N,r2⟩:=(o.ext dE).forget hcut gD j3;exact⟨yF,J,ρ,eC.refl _ _,_,_,_,_,N⟩
 cases DE:g.Bm with
 | none=>
  rw[DE] at hr Il;have hwv:o4 = .pointer none:=Il;subst hwv;cases hr;refine dL x @U gD iW ?_;exact ao0 J
 | some b=>
  rw[DE] at hr Il;obtain⟨kind,name,args,parts⟩:=b;have eW:=eW _ DE;have Il:dM (fun _=>True) w o4 (.mk kind name args parts):=Il;have ao1:=Il.iJ I;have rK:=ao1;unfold dM at rK;obtain⟨bb,bav,bpv,bus,Yd,rfl,-,y,hba,jJ,F,G⟩:=rK;have lbb:=bn y;have ao4:=eW;unfold eY at ao4;obtain⟨my,nA,⟨Kt,Ku,Kv⟩,Fb,Cu,jr,jT,xV⟩:=ao4;dsimp only at hr;refine dL x @U gD y ?_;have kk:∀ c:Nat,c<256->((kind:Int)=(c:Nat)↔kind=c):=zg;by_cases k33:kind=33
  .subst k33;rw[zip rfl] at hr;cases hr;refine dL x @U gD iW ?_;exact ao0 J
  rw[bO k33] at hr;have aLm:¬ ((kind:Int)=33):=zo;refine cM @aLm ?_;by_cases k44:kind=44
  .subst k44;rw[zip rfl] at hr;cases hr;have Cf:Yd.length=parts.length:=G.G6;obtain⟨pa,pc,W⟩:=F.sl;subst W;refine dB y Cf ?_;refine⟨fun n s w3=>∃ (j:Nat) (tdv:Y),s 7=zi ((j:Int)-1)/\j<=parts.length/\n=j/\ko D ρ wb mb tdv av vv tv dk w3 { k with sr:=k.sr.dec,todo:=((parts.drop j).map fun p=>⟨O p,g.vars,g.cut⟩)++k.todo }/\di D w1 w3,
    ⟨_,parts.length,todo,J,a0D _,J,by simpa using o,bD.refl _ _⟩,?_⟩
   intro j s d w3 hI;refine toPr ?_;obtain⟨j',tdv,h7,hj,rfl,t,eK⟩:=hI;clear d;have K0:eM w1 w3:=di.toI eK;have c3:=t.cell;have lw3:=bn c3;obtain⟨z,rfl⟩:=t.td.ptr;by_cases hj0:j=0
   .subst hj0;refine cM h7 ?_;rw[List.drop_zero] at t;exact⟨yF,J,ρ,eC.refl _ _,_,_,_,_,t⟩
   .obtain⟨i,rfl⟩:∃ i,j=i+1:=⟨j-1,zo⟩;have hi:i<parts.length:=zo;have e7:((i+1:Nat):Int)-1=(i:Nat):=zo;rw[e7] at h7;obtain⟨pb,CO,xb,p1,p2,p3,p4⟩:=partAt F G hi;injection p1 with p1 _ K;subst p1 K;rw[Cf] at y;have Q:=K0 _ _ _ (yM) p2;have R:=K0 _ _ _ (yM) y;have q3:=K0 _ _ _ (yM) x;have ei:((i:Nat):Int).toNat=i:=zo;obtain⟨q,gc,X⟩:=C.sl;subst X;refine cM h7 ?_;refine⟨S3 bb pb cap w3,⟨J,J,J⟩,?_⟩;refine Qf R Q hi p3 h7 ?_;refine Qh q3 ?_;refine Yc q3 ?_;have lX:((i:Nat):Int)<=100000:=zo;refine dB @c3 h7 ?_;obtain⟨m,ow⟩:=ck (w3.drew.alloc (ah #[pp xb,.slice q (mY ρ g.vars).length gc,zi (g.cut:Nat),.pointer z] 207));have Bw:Ext w3 m:=yF;have g5:m.heap[w3.heap.size]?=aP #[pp xb,.slice q (mY ρ g.vars).length gc,zi (g.cut:Nat),.pointer z] 207:=yH;rw[<- ow];have TU:eM w1 m:=K0.trans (eM.ed Bw);obtain⟨N,r2⟩:=(t.ext Bw).KX (todo':=pp w3.heap.size) (l:=⟨O parts[i],g.vars,g.cut⟩::(((parts.drop (i+1)).map fun p=>⟨O p,g.vars,g.cut⟩)++k.todo))
     ⟨_,_,_,_,J,g5,dM.iJ TU p4,C.iJ (I.trans TU) (yM),L,t.td.bJ (eM.ed Bw) (eC.refl _ _)⟩ J
    refine⟨(by grind [S3.of]),i,zo,i,pp w3.heap.size,zs,zo,J,?_,yF⟩;grind [a0I]
  rw[bO k44] at hr;have aLo:¬ ((kind:Int)=44):=zo;refine cM @aLo ?_;by_cases Kt:kind=59
  .subst Kt;obtain⟨pa,pc,W⟩:=F.sl;have Cf:Yd.length=parts.length:=G.G6;have h2:=Kt J;subst W
   match parts,h2 with
   | [pA,pB],_=>
   obtain⟨pb,CO,S,p1,p2,p3,p4⟩:=partAt F G (j:=0) zs;obtain⟨Ye,Yf,xb,K,K4,p3',TZ⟩:=partAt F G (j:=1) zs;rw[p1] at K;simp only[a0S,a0z,Addr.mk.injEq,and_true,true_and] at K;obtain⟨rfl,-⟩:=K;rw[p2] at K4;simp only[a0z,Obj.cells.injEq,and_true] at K4;subst K4;rw[p1] at y;simp only[a2t,a2U] at p4 TZ;obtain⟨q,gc,X⟩:=C.sl;subst X;obtain⟨z,rfl⟩:=o.td.ptr;refine bF ?_;refine⟨S3 bb pb cap w1,⟨J,J,J⟩,?_⟩;refine Qf y p2 (i:=1) zs p3' J ?_;refine Qh x ?_;refine Yc x ?_;refine cM @U ?_;obtain⟨w2,j3⟩:=ck (w1.drew.alloc (ah #[pp xb,.slice q (mY ρ g.vars).length gc,zi (g.cut:Nat),.pointer z] 207));have rL:Ext w1 w2:=yF;have g2:w2.heap[w1.heap.size]?=aP #[pp xb,.slice q (mY ρ g.vars).length gc,zi (g.cut:Nat),.pointer z] 207:=yH;rw[<- j3];have NI:eM w1 w2:=eM.ed rL;refine⟨(by grind [S3.of]),?_⟩;have A2:uJ ρ k.n w2 (pp w1.heap.size) (⟨O pB,g.vars,g.cut⟩::k.todo):=
    ⟨_,_,_,_,J,g2,dM.iJ NI TZ,C.iJ (I.trans NI) (yM),L,o.td.bJ NI (eC.refl _ _)⟩
   refine a0C (aeM (o.ext rL) yH A2 zg) ?_;rintro e w3 ⟨rfl,T0,rM,ao8,t⟩;have rN:di D w1 w3:=(di.ed rL).trans T0;have u:eM w1 w3:=di.toI rN;have R:=u _ _ _ (yM) y;have Q:=u _ _ _ (yM) p2;have q3:=u _ _ _ (yM) x;have c3:=t.cell;have lw3:=bn c3;refine⟨S3 bb pb cap w3,⟨J,J,J⟩,?_⟩;refine Qf R Q (i:=0) zs p3 J ?_;refine Qh q3 ?_;refine Yc q3 ?_;refine cM @c3 ?_;obtain⟨a,jw⟩:=ck (w3.drew.alloc (ah #[pp S,.slice q (mY ρ g.vars).length gc,zi (g.cut:Nat),.pointer z] 207));have E:Ext w3 a:=yF;have g4:a.heap[w3.heap.size]?=aP #[pp S,.slice q (mY ρ g.vars).length gc,zi (g.cut:Nat),.pointer z] 207:=yH;rw[<- jw];have hK4:eM w1 a:=u.trans (eM.ed E);refine⟨(by grind [S3.of]),?_⟩;obtain⟨N,r2⟩:=(t.ext E).KX (todo':=pp w3.heap.size) (l:=⟨O pA,g.vars,g.cut⟩::k.todo)
    ⟨_,_,_,_,J,g4,dM.iJ hK4 p4,C.iJ (I.trans hK4) (yM),L,o.td.bJ hK4 (eC.refl _ _)⟩ J
   cases hr;exact⟨H.trans yF,J,ρ,eC.refl _ _,_,_,_,_,N⟩
  rw[bO Kt] at hr;have aLp:¬ ((kind:Int)=59):=zo;refine cM @aLp ?_;by_cases Ku:kind=63
  .subst Ku;obtain⟨pa,pc,W⟩:=F.sl;have Cf:Yd.length=parts.length:=G.G6;have h2:=Ku J;subst W
   match parts,h2 with
   | [pA,pB,pC],_=>
   obtain⟨pb,CO,S,p1,p2,p3,p4⟩:=partAt F G (j:=0) zs;obtain⟨Ye,Yf,xb,K,K4,p3',TZ⟩:=partAt F G (j:=1) zs;obtain⟨aWv,aWw,xc,NK,NL,CP,T3⟩:=partAt F G (j:=2) zs;rw[p1] at K NK;simp only[a0S,a0z,Addr.mk.injEq,and_true,true_and] at K NK;obtain⟨rfl,-⟩:=K;obtain⟨rfl,-⟩:=NK;rw[p2] at K4 NL;simp only[a0z,Obj.cells.injEq,and_true] at K4 NL;subst K4 NL;rw[p1] at y;simp only[a2t,a2U] at p4 TZ T3;obtain⟨q,gc,X⟩:=C.sl;subst X;obtain⟨z,rfl⟩:=o.td.ptr;refine bF ?_;refine⟨S3 bb pb cap w1,⟨J,J,J⟩,?_⟩;refine Qf y p2 (i:=2) zs CP J ?_;refine Qh x ?_;refine Yc x ?_;refine cM @U ?_;obtain⟨w2,j3⟩:=ck (w1.drew.alloc (ah #[pp xc,.slice q (mY ρ g.vars).length gc,zi (g.cut:Nat),.pointer z] 207));have rL:Ext w1 w2:=yF;have g2:w2.heap[w1.heap.size]?=aP #[pp xc,.slice q (mY ρ g.vars).length gc,zi (g.cut:Nat),.pointer z] 207:=yH;rw[<- j3];have NI:eM w1 w2:=eM.ed rL;refine⟨(by grind [S3.of]),?_⟩;have A2:uJ ρ k.n w2 (pp w1.heap.size) (⟨O pC,g.vars,g.cut⟩::k.todo):=
    ⟨_,_,_,_,J,g2,dM.iJ NI T3,C.iJ (I.trans NI) (yM),L,o.td.bJ NI (eC.refl _ _)⟩
   refine a0C (aeM (o.ext rL) yH A2 zg) ?_;rintro e w3 ⟨rfl,T0,rM,ao8,t⟩;have rN:di D w1 w3:=(di.ed rL).trans T0;have u:eM w1 w3:=di.toI rN;have R:=u _ _ _ (yM) y;have Q:=u _ _ _ (yM) p2;have q3:=u _ _ _ (yM) x;have c3:=t.cell;refine dL @c3 @R @Q (zA @p3' @q3) ?_;obtain⟨a,jw⟩:=ck (w3.drew.alloc (ah (Value.agg #[pp xb,.slice q (mY ρ g.vars).length gc,zi (g.cut:Nat),.pointer z]).cells 207 (0,0)));have E:Ext w3 a:=yF;have g4:a.heap[w3.heap.size]?=aP #[pp xb,.slice q (mY ρ g.vars).length gc,zi (g.cut:Nat),.pointer z] 207:=by rw[jw];exact tz (yH)
   rw[<- jw];have bb4:=E.ext _ _ R;have p24:=E.ext _ _ Q;have q4:=E.ext _ _ q3;have c4:=E.ext _ _ c3;have lw4:=bn c4;refine⟨S3 bb pb cap a,⟨J,J,J⟩,?_⟩;refine Qf bb4 p24 (i:=0) zs p3 J ?_;refine Qh q4 ?_;refine cM @c4 ?_;obtain⟨m,ow⟩:=ck (a.drew.alloc (ah #[au V,b9,zi (k.br.length:Nat),pp w3.heap.size] 207));have mZ:Ext a m:=yF;have s5:m.heap.size=a.heap.size+1:=yH;have g5:m.heap[a.heap.size]?=aP #[au V,b9,zi (k.br.length:Nat),pp w3.heap.size] 207:=yH;rw[<- ow];obtain⟨B,po⟩:=ck (m.alloc (ah #[pp S,.slice q (mY ρ g.vars).length gc,zi (k.br.length:Nat),pp a.heap.size] 207));have TS:Ext m B:=yF;have g6:B.heap[m.heap.size]?=aP #[pp S,.slice q (mY ρ g.vars).length gc,zi (k.br.length:Nat),pp a.heap.size] 207:=yH;rw[<- po];have Ei:Ext w3 B:=yF;have T:eM w1 B:=u.trans (eM.ed Ei);refine⟨(by grind [S3.of]),(by grind [S3.of,bD.trans]),?_⟩;have gl:uJ ρ k.n B (pp m.heap.size) (⟨O pA,g.vars,k.br.length⟩::⟨V,[],k.br.length⟩::⟨O pB,g.vars,g.cut⟩::k.todo):=
    ⟨_,_,_,_,J,g6,dM.iJ T p4,C.iJ (I.trans T) (yM),L,_,_,_,_,J,TS.ext _ _ g5,J,.inl ⟨J,J⟩,(fun _ h=>by cases h),
     _,_,_,_,J,(mZ.trans TS).ext _ _ g4,dM.iJ T TZ,C.iJ (I.trans T) (yM),L,o.td.bJ T (eC.refl _ _)⟩
   rw[s5] at gl;obtain⟨N,r2⟩:=(t.ext Ei).KX gl J;cases hr;exact⟨H.trans (rN.trans yF),J,ρ,eC.refl _ _,_,_,_,_,N⟩
  rw[bO Ku] at hr;have aLr:¬ ((kind:Int)=63):=zo;refine cM @aLr ?_;by_cases Kv:kind=126
  .subst Kv;obtain⟨pa,pc,W⟩:=F.sl;have Cf:Yd.length=parts.length:=G.G6;have h2:=Kv J;subst W
   match parts,h2 with
   | [pA],_=>
   obtain⟨pb,CO,S,p1,p2,p3,p4⟩:=partAt F G (j:=0) zs;rw[p1] at y;simp only[a2t] at p4;obtain⟨q,gc,X⟩:=C.sl;subst X;obtain⟨z,rfl⟩:=o.td.ptr;refine cM @U ?_;refine a0C (aeM o Ty o.td zg) ?_;rintro e w3 ⟨rfl,rN,rM,ao8,t⟩;have u:eM w1 w3:=di.toI rN;have R:=u _ _ _ (yM) y;have Q:=u _ _ _ (yM) p2;have q3:=u _ _ _ (yM) x;have c3:=t.cell;refine bF ?_;obtain⟨wf,CR⟩:=ck (w3.alloc (ah #[.int .u8 103,aW [102,97,105,108],b9,b9] 149 (0,0)));have aWx:Ext w3 wf:=yF;have sf:wf.heap.size=w3.heap.size+1:=yH;have gf:wf.heap[w3.heap.size]?=aP #[.int .u8 103,aW [102,97,105,108],b9,b9] 149:=yH;rw[<- CR];obtain⟨a,jw⟩:=ck (wf.alloc (ah (Value.agg #[pp w3.heap.size,b9,zi 0,au V]).cells 207 (0,0)));have g4:a.heap[wf.heap.size]?=aP #[pp w3.heap.size,b9,zi 0,au V] 207:=by rw[jw];exact tz J
   rw[<- jw];have E:Ext w3 a:=yF;have bb4:=E.ext _ _ R;have p24:=E.ext _ _ Q;have q4:=E.ext _ _ q3;have c4:=E.ext _ _ c3;have lw4:=bn c4;refine⟨S3 bb pb cap a,⟨J,J,J⟩,?_⟩;refine Qf bb4 p24 (i:=0) zs p3 J ?_;refine Qh q4 ?_;refine cM @c4 ?_;obtain⟨m,ow⟩:=ck (a.drew.alloc (ah #[au V,b9,zi (k.br.length:Nat),pp wf.heap.size] 207));have mZ:Ext a m:=yF;have s5:m.heap.size=a.heap.size+1:=yH;have g5:m.heap[a.heap.size]?=aP #[au V,b9,zi (k.br.length:Nat),pp wf.heap.size] 207:=yH;rw[<- ow];obtain⟨B,po⟩:=ck (m.alloc (ah #[pp S,.slice q (mY ρ g.vars).length gc,zi (k.br.length:Nat),pp a.heap.size] 207));have TS:Ext m B:=yF;have g6:B.heap[m.heap.size]?=aP #[pp S,.slice q (mY ρ g.vars).length gc,zi (k.br.length:Nat),pp a.heap.size] 207:=yH;rw[<- po];have pX:Ext a B:=yF;have Ei:Ext w3 B:=yF;have T:eM w1 B:=u.trans (eM.ed Ei);refine⟨(by grind [S3.of]),(by grind [S3.of]),?_⟩;have Yg:dM (fun _=>True) B (pp w3.heap.size) yA:=by
    unfold yA dM;exact⟨_,_,_,[],[],J,trivial,yH,.inl ⟨J,J⟩,by unfold eT;rfl,.inl ⟨J,J⟩,by unfold gF;rfl⟩
   have gl:uJ ρ k.n B (pp m.heap.size) [⟨O pA,g.vars,k.br.length⟩,⟨V,[],k.br.length⟩,⟨O yA,[],0⟩]:=
    ⟨_,_,_,_,J,g6,dM.iJ T p4,C.iJ (I.trans T) (yM),L,_,_,_,_,J,TS.ext _ _ g5,J,.inl ⟨J,J⟩,(fun _ h=>by cases h),
     _,_,_,_,J,pX.ext _ _ g4,Yg,.inl ⟨J,J⟩,(fun _ h=>by cases h),J⟩
   rw[s5] at gl;obtain⟨N,r2⟩:=(t.ext Ei).KX gl J;cases hr;exact⟨H.trans (rN.trans yF),J,ρ,eC.refl _ _,_,_,_,_,N⟩
  rw[bO Kv] at hr;have aLs:¬ ((kind:Int)=126):=zo;refine dB @aLs x ?_;refine a0C (aLa o Ty (hB.fr H) fx hM ao1 (C.iJ I (yM)) L eW (by grind [Sr.cW,Sr.dec]) zc hr) ?_;rintro e w2 hp;exact EPost.aeS (hp.of H)
end
