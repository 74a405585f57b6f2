/- A part of one proof (KW5, KW6, KW7, KM1). -/
import Derived.Test.YtoegidfbnkaabaaGreatDoorPkHAS
set_option linter.all false
set_option maxRecDepth 100000
set_option maxHeartbeats 8000000
open Option renaming some → O, none → V
open Go renaming Value → Y, World → Z
open Bool renaming true → A, false → G
open Go.Obj renaming cells → ae
open Go.Ending renaming returned → ah
open Go.Value renaming tuple → ak, pointer → aq
open Option.some renaming injEq → aZ9
open Go.Calls renaming mono → a0c
open Nat renaming le_trans → a0f
open Go.Instr renaming loadAt → a0o, fieldAt → a0Z
open Go.Value.slice renaming injEq → a0s
open List renaming toList_toArray → a1T, getElem_cons_zero → a1Y, getElem_cons_succ → a2v
open Go.MapKept renaming run_setObj_map → a1X
open Go.Proofs.Tryz renaming prog → a97
namespace Go.Proofs.YtoegidfbnkaabaaGreatDoor
open P
open Go.RowKit Sx
variable{B M c cap d f i j k' m mb n pb so xb:Nat}{D:Nat->Prop}{K:Y->Prop}{X:Y->Z->Prop}{iv o4 o5 u v z:Y}{gz:List Bd}{iC:Array Y}{fQ:List Nat}{w w' w3:Z}{y:Operand}
def P.keyOf(name:Bs)(n:Nat):Bs:=name++[47,UInt8.ofNat (48+n)]
theorem P.aeg{a b:Bs}(e:n<80)(hm:m<80):P.keyOf a n=P.keyOf b m↔a=b/\n=m:=by
 unfold P.keyOf;constructor
 .intro h;obtain⟨d,c⟩:=List.append_inj' h J;refine⟨d,?_⟩;injection c with _ c;injection c with c _;have:=congrArg UInt8.toNat c;grind [UInt8.toNat_ofNat']
 grind
def wrap32(n:Nat)(a:n<80):IntKind.i32.wrap (48+(n:Int))=((48+n:Nat):Int):=by
 grind [IntKind.wrap,IntKind.bits,IntKind.signed]
def an8(name:Bs)(n:Nat)(b:name.length<=100)(a:n<80)(w:Z):Calls a97 78 #[aM name,zi (n:Nat)] w fun e w'=>e = ah (aM (P.keyOf name n))/\w'=w:=by
 refine aKn ?_;refine bD ?_;rw[LY _ _ zg];refine bD ?_;rw[wrap32 n a,aiA zk zk zo,LY _ _ zg];exact⟨by grind [P.keyOf,List.append_assoc],J⟩
def GV(base:List Cl)(name:Bs)(n:Nat):List Cl:=base.filter fun c=>c.name == name && c.args.length == n
def Bn(w:Z)(mb:Nat)(base:List Cl):Prop:=∃ es c,w.heap[mb]?=O (.map es c)/\Ma es.toList/\∀ (name:Bs) (n:Nat),n<=4->match AT (P.keyOf name n) es.toList 0 with
 | none=>GV base name n=[]
 | some (_,v)=>GV base name n≠[]/\∃ vs,fD (fun _=>True) w 79 v vs/\ko (fun _=>True) w vs (GV base name n)
theorem Bn.bI{base:List Cl}(h:Bn w mb base)(hk:eM w w')(hm:∀ es c,w.heap[mb]?=O (.map es c)->w'.heap[mb]?=O (.map es c)):Bn w' mb base:=by
 obtain⟨es,c,e,a,b⟩:=h;refine⟨es,c,yH,a,fun name n d=>?_⟩;have:=b name n d;split at this
 .omega
 .rename_i i v hx;obtain⟨g1,vs,g2,g3⟩:=this;exact⟨g1,vs,g2.iZ hk (yM),g3.iZ hk⟩
theorem Bn.fr{base:List Cl}(h:Bn w mb base)(a:dc D w w'):Bn w' mb base:=
 h.bI (dc.toI a) fun es c hm=>a.block _ _ hm (by rintro ⟨_,cs',b,z,d,e⟩;grind)
def an9{x:Operand}(a:Option Addr)(n c:Nat):RD a97 (bo .eql 68 x y (.slice a n c) bH) w K X=K (.bool a.isNone):=
 gW (by cases a<;>kernel_rfl)
section
variable{D:Nat->Prop}{ρ:Nat->Nat}{wb mb:Nat}{todo av vv tv:Y}{di:List Y}{w w':Z}{k:Wk}
def kl.part(h:kl D ρ wb mb todo av vv tv di w k){q:Except jE (Bool×Sr)}{r:Except jE (Bool×Wk)}(hr:P.Out.bind (O q) (fun p=>O (.ok (p.1,{ k with sr:=p.2 })))=O r){e:Ending}
  (a:EPost (Dm D av) w (wU (Dm D av) ρ k.n wb 1 130 (GS mb todo av vv)) q e w'):EPost D w (Fj D ρ k.n wb mb vv) r e w':=by
 obtain⟨b,a⟩:=a;cases q with
 | error t=>
  cases hr;exact⟨b.up fun _ h=>h.1,a⟩
 | ok p=>
  cases hr;obtain⟨rfl,g,c⟩:=a;obtain⟨d,f⟩:=h.store c b;exact⟨f,J,ρ,eo.refl _ _,_,_,_,_,d⟩
def EPost.aeh{r:Except jE (Bool×Wk)}{e:Ending}(h:EPost D w (Fj D ρ n wb mb vv) r e w') :
 ends (fun x w'=>EPost D w (Fj D ρ n wb mb vv) r (ah x) w') (PC (EPost D w (Fj D ρ n wb mb vv) r)) e w':=h.tail zg
def aKE(h:kl D ρ wb mb todo av vv tv di w k)(hD:∀ b,w.heap.size<=b->D b){base:List Cl}(hB:Bn w mb base)(gT:∀ c∈base,yW M c)(hM:M<=100000){name:Bs}{args:List Ex}
  (o:dJ (fun _=>True) w o5 (.mk pb name args gz)) (hv:fD (fun _=>True) w 89 o4 (mm ρ fQ)) (PS:∀ i∈fQ,i<k.n) (eX:eV fQ.length M (.mk pb name args gz))
  (hz:k.sr.cS<=800000000) (xS:k.br.length<900000000) {r:Except jE (Bool×Wk)} (hr:Kj base f name args fQ k=O r) :
  Calls a97 227 #[pp wb,o5,o4] w (EPost D w (Fj D ρ k.n wb mb vv) r):=by
 have JH:k.sr.tr.length+k.sr.fuel<=800000000:=hz;unfold dJ at o;obtain⟨gb,gav,gpv,gus,gps,rfl,-,PT,Tv,B,-,-⟩:=o;unfold eV at eX;obtain⟨my,-,-,Gv,E0,-,-,-⟩:=eX;have lgb:=bf PT;have hc:=h.cell;have lwb:=bf hc;refine aKi ?_;have AY:gus.length=args.length:=eH.Fg B;obtain⟨ga,gc,aKI⟩:=Tv.sl;subst aKI;refine cG PT ?_;refine a0c (aKq PS E0 zo Tv B hv) ?_;rintro e w1 ⟨dB,u,us,rfl,mW,kP⟩;have C:=h.ext dB;have E:=dB.ext _ _ PT;have aV0:=bf E;have F:=C.cell;have aV1:=bf F;have s1:=dB.size;have uz:us.length=args.length:=by rw[kP.length,(Ke fQ args E0).2]
 obtain⟨ua,uc,Nh⟩:=mW.sl;subst Nh;have aKA:(us.length:Int)=(args.length:Nat):=zo;refine cG E ?_;refine a0c (Mx name) ?_;rintro e a ⟨rfl,rfl⟩;refine bD ?_;have dA:Ext a a.drew:=yF;have aKK:Ext w a.drew:=yF;unfold Kj at hr;by_cases ht:jK name=args.length
 .rw[zip ht] at hr;have Bf:jK name=(us.length:Int):=zo;refine dy Bf E ?_;cases hq:xI f name (mS fQ args) k.sr with
  | none=>rw[hq] at hr;cases hr
  | some q=>
  rw[hq] at hr;have H:=C.ext dA;refine a0c (anO Fi (r:=q) H.less (by grind [BH,kl.dm]) (mW.mono zg yH) (kP.bI (qT.ea dA)) (by grind [Ke]) (by grind [Ke]) zo hq) ?_;rintro e w2 I;have I:=H.part hr I;exact EPost.aeh (I.of yF)
 .rw[bX ht] at hr;have Bf:¬ jK name=(us.length:Int):=zo;refine dy Bf E ?_;have hdw:a.drew.heap=a.heap:=rfl;refine⟨fun w'=>w'.heap[wb]?=a.heap[wb]?/\w'.heap[gb]?=a.heap[gb]?,yH,?_⟩;rw[jx];refine cQ (pp wb) (fun w' j=>eQ) ?_;refine cQ (.map (O mb)) (fun w' j=>by have p:=j.1;rw[F] at p;have:=bf p;exact fg p) ?_;rw[jx];refine cQ (pq gb 1) (fun w' j=>eQ) ?_;refine cQ (aM name) (fun w' j=>by have p:=j.2;rw[E] at p;have:=bf p;exact fg p) ?_;refine bD ?_;refine a0c (an8 name us.length zo zo _) ?_;rintro e w2 ⟨rfl,rfl⟩;refine⟨yH,?_⟩;rw[uz];have H:=C.ext dA;obtain⟨es,ec,b1,b2,x⟩:=hB.fr (D:=D) (dc.ea aKK);have x:=x name args.length zo;have iz:(base.filter fun c=>c.name == name && c.args.length == args.length)=GV base name args.length:=rfl;rw[iz] at hr;have wO:∀ {K:Y->Prop} {X:Y->Z->Prop},RD a97 (Instr.lookup 125 (.map (O mb)) (.string (bs (P.keyOf name args.length))) G) a.drew K X=(match AT (P.keyOf name args.length) es.toList 0 with
    | some (_,v)=>K v
    | none=>K (.slice V 0 0)):=fun{K X}=>by
   rw[aiF (k:=9) (e:=68) zk zk (z:=bH) zk b1 b2];rfl
  rw[wO];cases L:AT (P.keyOf name args.length) es.toList 0 with
  | none=>
   rw[L] at x;rw[show GV base name args.length=[] from x] at hr;cases hr;refine⟨fun _ _=>False,?_,by rintro _ _ h;exact h.elim⟩;show RD _ _ _ _ _;rw[an9];refine bD ?_;exact⟨yF,J⟩
  | some iv=>
   obtain⟨i,v⟩:=iv;rw[L] at x;obtain⟨dZ,vs,Ct,jh⟩:=(x:GV base name args.length≠[]/\∃ vs,fD (fun _=>True) a.drew 79 v vs/\ko (fun _=>True) a.drew vs (GV base name args.length));obtain⟨l,hl⟩:=b9 (GV base name args.length);have hr:wq f (mS fQ args) l k.todo k.br.length { k with br:=k.br++[⟨k.sr.tr.length,k.todo,l,mS fQ args⟩] }=O r:=by
    grind
   rw[<- hl] at jh dZ;have N:vs≠[]:=by
    rintro rfl;cases l with
    | nil=>grind
    | cons c0 l0=>obtain⟨_,_,h0,-⟩:=jh;grind
   obtain⟨vb,vcs,rfl,-,yO,-,-⟩:=Ct.resolve_left zg;refine⟨fun _ w'=>w'=a.drew,?_,?_⟩
   .show RD _ _ _ _ _;rw[an9];exact eQ
   .rintro s w3 rfl d;clear d;have c1d:a.drew.heap[wb]?=_:=F;obtain⟨aa,ac,gi⟩:=gX H.ar;obtain⟨tq,Q⟩:=H.td.ptr;refine dy @c1d gi ?_;refine⟨fun w'=>w'.heap[wb]?=a.heap[wb]?,J,?_⟩;refine toPr ?_;rw[jx];refine cQ (pq wb 4) (fun w' j=>eQ) ?_;refine cQ av (fun w' j=>by rw[F] at j;have:=bf j;exact lT j gi) ?_;rw[jx];refine cQ (pq wb 1) (fun w' j=>eQ) ?_;rw[jx];refine cQ (pq wb 3) (fun w' j=>eQ) ?_;refine cQ (.pointer tq) (fun w' j=>by rw[F] at j;have:=bf j;exact lT j Q) ?_;have DY:Ext a a.drew.drew:=yF;refine a0c (SY (C.ext DY).st Fi) ?_;rintro e w4 ⟨rfl,rfl⟩;refine⟨J,?_⟩;refine bD ?_;obtain⟨l0,qF⟩:∃ l0:List Y,l0=[zi (k.sr.tr.length:Nat),.pointer tq,cM vb vs.length vcs.size,.slice ua args.length uc]:=⟨_,J⟩;obtain⟨y,oc⟩:=b9 (a.drew.drew.alloc (ae l0.toArray 356 (0,0)));have Cv:Ext a y:=yF;have g5:y.heap[a.heap.size]?=aN l0.toArray 356:=yH;have s5:y.heap.size=a.heap.size+1:=yH;rw[qF] at oc;rw[<- oc];have R:=C.ext Cv;have q5:=R.cell;refine anW (n:=k.br.length) R.ar g5 zg (by rw[qF];intro u hu;simp only[List.mem_cons,List.not_mem_nil,or_false] at hu;rcases hu with rfl | rfl | rfl | rfl<;>rfl) zo zo ?_;intro v' w6 S pw AZ;obtain⟨p6,d6,e6⟩:=gX S;subst e6;obtain⟨w7,XM⟩:=b9 (bO w6 wb (ae #[.map (O mb),tv,zi (k.sr.fuel:Nat),todo,.slice p6 (k.br.length+1) d6,vv] 130));have U:eM a.drew y:=fun b cs T hT o=>yH;have W:=Ct.iZ U (yM);have aog:=jh.iZ U;have t:=mW.mono (F':=fun _=>True) (fun _ _=>trivial) fun b cs _ o=>Cv.ext _ _ o;have aoh:=kP.bI (qT.ea Cv);rw[uz] at t;have lL:qt ρ k.n y (di++l0) (k.br++[⟨k.sr.tr.length,k.todo,l,mS fQ args⟩]):=by
     refine R.ag.snoc ⟨.pointer tq,_,_,vs,us,[],zg,?_,n9.of W N,aog,t,aoh,J⟩;rw[<- Q];exact R.td
    obtain⟨r1,r2,r3⟩:=R.KN (l:=k.br++[⟨k.sr.tr.length,k.todo,l,mS fQ args⟩]) (by rw[List.length_append,List.length_singleton];exact S) pw (AZ.imp id fun hx g hg=>⟨hD g (by have:=hx g hg;omega),hx g hg⟩) lL XM;refine⟨yH,?_⟩;have c6:=r3.trans q5;have l6:=bf c6;refine cG @c6 ?_;rw[<- XM];have aoi:dc D w w7:=(dc.ea (dB.trans Cv)).trans r2;have XN:eM y w7:=dc.toI r2;have yX:=Ke fQ args E0;refine a0c (an3 (k:={ k with br:=k.br++[⟨k.sr.tr.length,k.todo,l,mS fQ args⟩] }) (M:=M) (f:=f) (m:=k.br.length) (l:=l) (args:=mS fQ args) (td:=k.todo) (r:=r) r1 (fun b o=>hD b (a0f aoi.size o))
     (n9.of (W.iZ XN (yM)) N) (aog.iZ XN) (t.iZ XN (yM)) (pE.PI XN (eo.refl _ _) aoh) yX.1 (fun c hc=>?_) hM r1.td zs zg hz zg hr) ?_
    .grind
    .rintro e w8 I;exact EPost.aeh (I.of aoi)
end
def gx.Cw{F:Nat->Prop}{w:Z}:∀ {l:List Bd} {us:List Y} (j:Nat) (a:j<l.length),gx F w us l->∃ u,us[j]?=O u/\dJ F w u l[j]
 | x::l,us,0,_,h=>by
  unfold gx at h;grind
 | x::l,us,j+1,a,h=>by
  unfold gx at h;obtain⟨v,r,rfl,c,b⟩:=h;simpa using gx.Cw j zg b
def gx.GW{F:Nat->Prop}{w:Z}:∀ {l:List Bd} {us:List Y},gx F w us l->us.length=l.length
 | [],us,h=>by unfold gx at h;subst h;rfl
 | x::l,us,h=>by
  unfold gx at h;obtain⟨v,r,rfl,b,a⟩:=h;simp [gx.GW a]
section
variable{D:Nat->Prop}{ρ:Nat->Nat}{wb mb:Nat}{todo av vv tv:Y}{di:List Y}{w w':Z}{k:Wk}
def partAt{us:List Y}{tv:Y}(c:fD (fun _=>True) w 84 tv us)(hx:gx (fun _=>True) w us gz)(d:j<gz.length) :
  ∃ pb a xb,tv = cM pb gz.length a.size/\w.heap[pb]?=aN a 84/\a[j]?=O (pp xb)/\dJ (fun _=>True) w (pp xb) gz[j]:=by
 have f:=hx.GW;obtain⟨b,cs,g,-,h,i⟩:=c.at' (j:=j) zo;obtain⟨u,k,e⟩:=hx.Cw j d;obtain⟨xb,rfl,-⟩:=e.shape;exact yH
def S3(a pb b:Nat)(w3 w':Z):Prop:=w'.heap[a]?=w3.heap[a]?/\w'.heap[pb]?=w3.heap[pb]?/\w'.heap[b]?=w3.heap[b]?
theorem S3.of{w':Z}(h:Ext w3 w'){b p g:Obj}(a:w3.heap[cap]?=O b)(c:w3.heap[pb]?=O p)(d:w3.heap[k']?=O g):S3 cap pb k' w3 w':=
 ⟨by rw[a];exact h.ext _ _ a,by rw[c];exact h.ext _ _ c,by rw[d];exact h.ext _ _ d⟩
def PU{tv vv av:Y}(d:w3.heap[cap]?=aN #[tv,vv,av,cM pb n so] 149)
  (c:w3.heap[pb]?=aN iC 84) (f:i<n) (hx:iC[i]?=O (pp xb)) (hv:v=zi (i:Nat)) (hk:K (pp xb)) :
  NC (pp cap) fun x=>uI a97 (a0Z 149 x 3) (S3 cap pb k' w3) fun x=>uI a97 (a0o 147 x) (S3 cap pb k' w3) fun x=>uI a97 (Instr.indexAt 147 x v) (S3 cap pb k' w3) fun x=>
   uI a97 (a0o 84 x) (S3 cap pb k' w3) K:=by
 have e:(i:Int).toNat=i:=zo;have g:(i:Int)<(n:Nat):=zo;rw[jx];refine cQ (pq cap 3) (fun w' b=>eQ) ?_;refine cQ (cM pb n so) (fun w' b=>by have a:=b.1;rw[d] at a;have:=bf a;exact fg a) ?_;refine cQ (pq pb i) (fun w' b=>by have a:=b.2.1;rw[c] at a;have:=bf a;rw[hv];exact lT a @e) ?_;refine cQ (pp xb) (fun w' b=>by have a:=b.2.1;rw[c] at a;have:=bf a;exact lT a hx) ?_;omega
def PW{tv vv av:Y}{a:Option Addr}(e:w3.heap[k']?=aN #[tv,.slice a n c,vv,av] 207)(hk:K (.slice a n c)) :
  NC (pp k') fun x=>uI a97 (a0Z 207 x 1) (S3 cap pb k' w3) fun x=>uI a97 (a0o 82 x) (S3 cap pb k' w3) K:=by
 rw[jx];refine cQ (pq k' 1) (fun w' d=>eQ) ?_;refine cQ (.slice a n c) (fun w' d=>by have b:=d.2.2;rw[e] at b;have:=bf b;exact fg b) ?_;omega
def XO{tv vv av:Y}{z:Int}(c:w3.heap[k']?=aN #[tv,vv,zi z,av] 207)(hk:K (zi z)) :
  NC (pp k') fun x=>uI a97 (a0Z 207 x 2) (S3 cap pb k' w3) fun x=>uI a97 (a0o 3 x) (S3 cap pb k' w3) K:=by
 rw[jx];refine cQ (pq k' 2) (fun w' b=>eQ) ?_;refine cQ (zi z) (fun w' b=>by have a:=b.2.2;rw[c] at a;have:=bf a;exact fg a) ?_;omega
def aKM(h:kl D ρ wb mb todo av vv tv di w k)(hD:∀ b,w.heap.size<=b->D b){base:List Cl}(hB:Bn w mb base)(gT:∀ c∈base,yW M c)(hM:M<=100000)
 {g:P.Goal} (hgq:w.heap[cap]?=aN #[o4,iv,zi (g.cut:Nat),o5] 207) (H9:PH w o4 g.EX) (C:fD (fun _=>True) w 89 iv (mm ρ g.vars)) (N:∀ i∈g.vars,i<k.n)
  (hcut:g.cut<=k.br.length) (eX:∀ b,g.EX=O b->eV g.vars.length M b) (hz:k.sr.cS<=800000000) (xS:k.br.length<900000000) {r:Except jE (Bool×Wk)} (hr:DD base f g k=O r) :
  Calls a97 225 #[pp wb,pp cap] w (EPost D w (Fj D ρ k.n wb mb vv) r):=by
 have JH:k.sr.tr.length+k.sr.fuel<=800000000:=hz;unfold DD at hr;refine aKj ?_;refine bD ?_;refine a0c (M3 h.less Fi zo) ?_;rintro e w1 ⟨I,dD⟩;by_cases h0:k.sr.fuel=0
 .rw[zip h0] at hr dD;injection hr with hr;subst hr dD;exact⟨I.up fun _ h=>h.1,J⟩
 rw[bX h0] at hr dD;obtain⟨rfl,dD⟩:=dD;obtain⟨o,I⟩:=h.store dD I;have K:eM w w1:=dc.toI I;have s1:=I.size;have x:=K _ _ _ (yM) hgq;have lq1:=bf x;have W:=o.cell;have lw1:=bf W;have dA:Ext w1 w1.drew:=yF;obtain⟨aa,ac,gi⟩:=gX o.ar;obtain⟨Px,iA⟩:=PM (by rw[gi] at o;exact o.ar:w1.ownsRow 0 356 4 (.slice aa k.br.length ac) k.br.length di);have qh:(g.cut:Int)<=(ac:Nat):=zo;have hD1:∀ b,w1.heap.size<=b->D b:=yH;have aol:∀ {w2:Z},w2=bO w1.drew wb (ae #[.map (O mb),tv,zi (k.sr.dec.fuel:Nat),todo,.slice aa g.cut ac,vv] 130) ->
   EPost D w (Fj D ρ k.n wb mb vv) (.ok (A,{ k with sr:=k.sr.dec,br:=k.br.take g.cut })) (ah (.bool A)) w2:=fun{w2} jV=>by
  obtain⟨Q,r2⟩:=(o.ext dA).forget hcut gi jV;exact⟨yF,J,ρ,eo.refl _ _,_,_,_,_,Q⟩
 cases Dl:g.EX with
 | none=>
  rw[Dl] at hr H9;have hwv:o4 = .pointer none:=H9;subst hwv;cases hr;refine dC x @W gi iA ?_;exact aol J
 | some b=>
  rw[Dl] at hr H9;obtain⟨kind,name,args,parts⟩:=b;have eX:=eX _ Dl;have H9:dJ (fun _=>True) w o4 (.mk kind name args parts):=H9;have aom:=H9.iZ K;have rB:=aom;unfold dJ at rB;obtain⟨bb,bav,bpv,bus,XP,rfl,-,y,hba,jA,F,H⟩:=rB;have lbb:=bf y;have aon:=eX;unfold eV at aon;obtain⟨my,nA,⟨O4,O5,O6⟩,Gv,E0,jc,jY,yX⟩:=aon;dsimp only at hr;refine dC x @W gi y ?_;have kk:∀ c:Nat,c<256->((kind:Int)=(c:Nat)↔kind=c):=zg;by_cases k33:kind=33
  .subst k33;rw[zip rfl] at hr;cases hr;refine dC x @W gi iA ?_;exact aol J
  rw[bX k33] at hr;have aKQ:¬ ((kind:Int)=33):=zo;refine cG @aKQ ?_;by_cases k44:kind=44
  .subst k44;rw[zip rfl] at hr;cases hr;have B1:XP.length=parts.length:=H.GW;obtain⟨pa,pc,X⟩:=F.sl;subst X;refine dy y B1 ?_;refine⟨fun n s w3=>∃ (j:Nat) (tdv:Y),s 7=zi ((j:Int)-1)/\j<=parts.length/\n=j/\kl D ρ wb mb tdv av vv tv di w3 { k with sr:=k.sr.dec,todo:=((parts.drop j).map fun p=>⟨O p,g.vars,g.cut⟩)++k.todo }/\dc D w1 w3,
    ⟨_,parts.length,todo,J,Nat.le_refl _,J,by simpa using o,bz.refl _ _⟩,?_⟩
   intro j s d w3 hI;refine toPr ?_;obtain⟨j',tdv,h7,hj,rfl,t,eI⟩:=hI;clear d;have KP:eM w1 w3:=dc.toI eI;have c3:=t.cell;have lw3:=bf c3;obtain⟨z,rfl⟩:=t.td.ptr;by_cases hj0:j=0
   .subst hj0;refine cG h7 ?_;rw[List.drop_zero] at t;exact⟨yF,J,ρ,eo.refl _ _,_,_,_,_,t⟩
   .obtain⟨i,rfl⟩:∃ i,j=i+1:=⟨j-1,zo⟩;have hi:i<parts.length:=zo;have e7:((i+1:Nat):Int)-1=(i:Nat):=zo;rw[e7] at h7;obtain⟨pb,Cx,xb,p1,p2,p3,p4⟩:=partAt F H hi;injection p1 with p1 _ L;subst p1 L;rw[B1] at y;have R:=KP _ _ _ (yM) p2;have S:=KP _ _ _ (yM) y;have q3:=KP _ _ _ (yM) x;have ei:((i:Nat):Int).toNat=i:=zo;obtain⟨q,gc,Nn⟩:=C.sl;subst Nn;refine cG h7 ?_;refine⟨S3 bb pb cap w3,⟨J,J,J⟩,?_⟩;refine PU S R hi p3 h7 ?_;refine PW q3 ?_;refine XO q3 ?_;have kS:((i:Nat):Int)<=100000:=zo;refine dy @c3 h7 ?_;obtain⟨m,oc⟩:=b9 (w3.drew.alloc (ae #[pp xb,.slice q (mm ρ g.vars).length gc,zi (g.cut:Nat),.pointer z] 207));have Bo:Ext w3 m:=yF;have g5:m.heap[w3.heap.size]?=aN #[pp xb,.slice q (mm ρ g.vars).length gc,zi (g.cut:Nat),.pointer z] 207:=yH;rw[<- oc];have Tu:eM w1 m:=KP.trans (eM.ea Bo);obtain⟨Q,r2⟩:=(t.ext Bo).KM (todo':=pp w3.heap.size) (l:=⟨O parts[i],g.vars,g.cut⟩::(((parts.drop (i+1)).map fun p=>⟨O p,g.vars,g.cut⟩)++k.todo))
     ⟨_,_,_,_,J,g5,dJ.iZ Tu p4,C.iZ (K.trans Tu) (yM),N,t.td.bI (eM.ea Bo) (eo.refl _ _)⟩ J
    refine⟨(by grind [S3.of]),i,zo,i,pp w3.heap.size,zs,zo,J,?_,yF⟩;grind [List.drop_eq_getElem_cons]
  rw[bX k44] at hr;have aKS:¬ ((kind:Int)=44):=zo;refine cG @aKS ?_;by_cases O4:kind=59
  .subst O4;obtain⟨pa,pc,X⟩:=F.sl;have B1:XP.length=parts.length:=H.GW;have h2:=O4 J;subst X
   match parts,h2 with
   | [pA,pB],_=>
   obtain⟨pb,Cx,T,p1,p2,p3,p4⟩:=partAt F H (j:=0) zs;obtain⟨XQ,XR,xb,L,KS,p3',Ty⟩:=partAt F H (j:=1) zs;rw[p1] at L;simp only[a0s,aZ9,Addr.mk.injEq,and_true,true_and] at L;obtain⟨rfl,-⟩:=L;rw[p2] at KS;simp only[aZ9,Obj.cells.injEq,and_true] at KS;subst KS;rw[p1] at y;simp only[a1Y,a2v] at p4 Ty;obtain⟨q,gc,Nn⟩:=C.sl;subst Nn;obtain⟨z,rfl⟩:=o.td.ptr;refine bD ?_;refine⟨S3 bb pb cap w1,⟨J,J,J⟩,?_⟩;refine PU y p2 (i:=1) zs p3' J ?_;refine PW x ?_;refine XO x ?_;refine cG @W ?_;obtain⟨w2,jV⟩:=b9 (w1.drew.alloc (ae #[pp xb,.slice q (mm ρ g.vars).length gc,zi (g.cut:Nat),.pointer z] 207));have sH:Ext w1 w2:=yF;have g2:w2.heap[w1.heap.size]?=aN #[pp xb,.slice q (mm ρ g.vars).length gc,zi (g.cut:Nat),.pointer z] 207:=yH;rw[<- jV];have No:eM w1 w2:=eM.ea sH;refine⟨(by grind [S3.of]),?_⟩;have AY:uw ρ k.n w2 (pp w1.heap.size) (⟨O pB,g.vars,g.cut⟩::k.todo):=
    ⟨_,_,_,_,J,g2,dJ.iZ No Ty,C.iZ (K.trans No) (yM),N,o.td.bI No (eo.refl _ _)⟩
   refine a0c (aeb (o.ext sH) yH AY zg) ?_;rintro e w3 ⟨rfl,Tz,rC,aor,t⟩;have rD:dc D w1 w3:=(dc.ea sH).trans Tz;have u:eM w1 w3:=dc.toI rD;have S:=u _ _ _ (yM) y;have R:=u _ _ _ (yM) p2;have q3:=u _ _ _ (yM) x;have c3:=t.cell;have lw3:=bf c3;refine⟨S3 bb pb cap w3,⟨J,J,J⟩,?_⟩;refine PU S R (i:=0) zs p3 J ?_;refine PW q3 ?_;refine XO q3 ?_;refine cG @c3 ?_;obtain⟨a,ja⟩:=b9 (w3.drew.alloc (ae #[pp T,.slice q (mm ρ g.vars).length gc,zi (g.cut:Nat),.pointer z] 207));have E:Ext w3 a:=yF;have g4:a.heap[w3.heap.size]?=aN #[pp T,.slice q (mm ρ g.vars).length gc,zi (g.cut:Nat),.pointer z] 207:=yH;rw[<- ja];have hK4:eM w1 a:=u.trans (eM.ea E);refine⟨(by grind [S3.of]),?_⟩;obtain⟨Q,r2⟩:=(t.ext E).KM (todo':=pp w3.heap.size) (l:=⟨O pA,g.vars,g.cut⟩::k.todo)
    ⟨_,_,_,_,J,g4,dJ.iZ hK4 p4,C.iZ (K.trans hK4) (yM),N,o.td.bI hK4 (eo.refl _ _)⟩ J
   cases hr;exact⟨I.trans yF,J,ρ,eo.refl _ _,_,_,_,_,Q⟩
  rw[bX O4] at hr;have aKT:¬ ((kind:Int)=59):=zo;refine cG @aKT ?_;by_cases O5:kind=63
  .subst O5;obtain⟨pa,pc,X⟩:=F.sl;have B1:XP.length=parts.length:=H.GW;have h2:=O5 J;subst X
   match parts,h2 with
   | [pA,pB,pC],_=>
   obtain⟨pb,Cx,T,p1,p2,p3,p4⟩:=partAt F H (j:=0) zs;obtain⟨XQ,XR,xb,L,KS,p3',Ty⟩:=partAt F H (j:=1) zs;obtain⟨aV9,aWa,xc,q1',Nq,GZ,TA⟩:=partAt F H (j:=2) zs;rw[p1] at L q1';simp only[a0s,aZ9,Addr.mk.injEq,and_true,true_and] at L q1';obtain⟨rfl,-⟩:=L;obtain⟨rfl,-⟩:=q1';rw[p2] at KS Nq;simp only[aZ9,Obj.cells.injEq,and_true] at KS Nq;subst KS Nq;rw[p1] at y;simp only[a1Y,a2v] at p4 Ty TA;obtain⟨q,gc,Nn⟩:=C.sl;subst Nn;obtain⟨z,rfl⟩:=o.td.ptr;refine bD ?_;refine⟨S3 bb pb cap w1,⟨J,J,J⟩,?_⟩;refine PU y p2 (i:=2) zs GZ J ?_;refine PW x ?_;refine XO x ?_;refine cG @W ?_;obtain⟨w2,jV⟩:=b9 (w1.drew.alloc (ae #[pp xc,.slice q (mm ρ g.vars).length gc,zi (g.cut:Nat),.pointer z] 207));have sH:Ext w1 w2:=yF;have g2:w2.heap[w1.heap.size]?=aN #[pp xc,.slice q (mm ρ g.vars).length gc,zi (g.cut:Nat),.pointer z] 207:=yH;rw[<- jV];have No:eM w1 w2:=eM.ea sH;refine⟨(by grind [S3.of]),?_⟩;have AY:uw ρ k.n w2 (pp w1.heap.size) (⟨O pC,g.vars,g.cut⟩::k.todo):=
    ⟨_,_,_,_,J,g2,dJ.iZ No TA,C.iZ (K.trans No) (yM),N,o.td.bI No (eo.refl _ _)⟩
   refine a0c (aeb (o.ext sH) yH AY zg) ?_;rintro e w3 ⟨rfl,Tz,rC,aor,t⟩;have rD:dc D w1 w3:=(dc.ea sH).trans Tz;have u:eM w1 w3:=dc.toI rD;have S:=u _ _ _ (yM) y;have R:=u _ _ _ (yM) p2;have q3:=u _ _ _ (yM) x;have c3:=t.cell;refine dC @c3 @S @R (zA @p3' @q3) ?_;obtain⟨a,ja⟩:=b9 (w3.drew.alloc (ae (Value.agg #[pp xb,.slice q (mm ρ g.vars).length gc,zi (g.cut:Nat),.pointer z]).cells 207 (0,0)));have E:Ext w3 a:=yF;have g4:a.heap[w3.heap.size]?=aN #[pp xb,.slice q (mm ρ g.vars).length gc,zi (g.cut:Nat),.pointer z] 207:=by rw[ja];exact qG (yH)
   rw[<- ja];have bb4:=E.ext _ _ S;have p24:=E.ext _ _ R;have q4:=E.ext _ _ q3;have c4:=E.ext _ _ c3;have lw4:=bf c4;refine⟨S3 bb pb cap a,⟨J,J,J⟩,?_⟩;refine PU bb4 p24 (i:=0) zs p3 J ?_;refine PW q4 ?_;refine cG @c4 ?_;obtain⟨m,oc⟩:=b9 (a.drew.alloc (ae #[aq V,bH,zi (k.br.length:Nat),pp w3.heap.size] 207));have qV:Ext a m:=yF;have s5:m.heap.size=a.heap.size+1:=yH;have g5:m.heap[a.heap.size]?=aN #[aq V,bH,zi (k.br.length:Nat),pp w3.heap.size] 207:=yH;rw[<- oc];obtain⟨B,oQ⟩:=b9 (m.alloc (ae #[pp T,.slice q (mm ρ g.vars).length gc,zi (k.br.length:Nat),pp a.heap.size] 207));have Tt:Ext m B:=yF;have g6:B.heap[m.heap.size]?=aN #[pp T,.slice q (mm ρ g.vars).length gc,zi (k.br.length:Nat),pp a.heap.size] 207:=yH;rw[<- oQ];have D2:Ext w3 B:=yF;have U:eM w1 B:=u.trans (eM.ea D2);refine⟨(by grind [S3.of]),(by grind [S3.of,bz.trans]),?_⟩;have gl:uw ρ k.n B (pp m.heap.size) (⟨O pA,g.vars,k.br.length⟩::⟨V,[],k.br.length⟩::⟨O pB,g.vars,g.cut⟩::k.todo):=
    ⟨_,_,_,_,J,g6,dJ.iZ U p4,C.iZ (K.trans U) (yM),N,_,_,_,_,J,Tt.ext _ _ g5,J,.inl ⟨J,J⟩,(fun _ h=>by cases h),
     _,_,_,_,J,(qV.trans Tt).ext _ _ g4,dJ.iZ U Ty,C.iZ (K.trans U) (yM),N,o.td.bI U (eo.refl _ _)⟩
   rw[s5] at gl;obtain⟨Q,r2⟩:=(t.ext D2).KM gl J;cases hr;exact⟨I.trans (rD.trans yF),J,ρ,eo.refl _ _,_,_,_,_,Q⟩
  rw[bX O5] at hr;have aKV:¬ ((kind:Int)=63):=zo;refine cG @aKV ?_;by_cases O6:kind=126
  .subst O6;obtain⟨pa,pc,X⟩:=F.sl;have B1:XP.length=parts.length:=H.GW;have h2:=O6 J;subst X
   match parts,h2 with
   | [pA],_=>
   obtain⟨pb,Cx,T,p1,p2,p3,p4⟩:=partAt F H (j:=0) zs;rw[p1] at y;simp only[a1Y] at p4;obtain⟨q,gc,Nn⟩:=C.sl;subst Nn;obtain⟨z,rfl⟩:=o.td.ptr;refine cG @W ?_;refine a0c (aeb o hD1 o.td zg) ?_;rintro e w3 ⟨rfl,rD,rC,aor,t⟩;have u:eM w1 w3:=dc.toI rD;have S:=u _ _ _ (yM) y;have R:=u _ _ _ (yM) p2;have q3:=u _ _ _ (yM) x;have c3:=t.cell;refine bD ?_;obtain⟨wf,Cy⟩:=b9 (w3.alloc (ae #[.int .u8 103,aM [102,97,105,108],bH,bH] 149 (0,0)));have aWb:Ext w3 wf:=yF;have sf:wf.heap.size=w3.heap.size+1:=yH;have gf:wf.heap[w3.heap.size]?=aN #[.int .u8 103,aM [102,97,105,108],bH,bH] 149:=yH;rw[<- Cy];obtain⟨a,ja⟩:=b9 (wf.alloc (ae (Value.agg #[pp w3.heap.size,bH,zi 0,aq V]).cells 207 (0,0)));have g4:a.heap[wf.heap.size]?=aN #[pp w3.heap.size,bH,zi 0,aq V] 207:=by rw[ja];exact qG J
   rw[<- ja];have E:Ext w3 a:=yF;have bb4:=E.ext _ _ S;have p24:=E.ext _ _ R;have q4:=E.ext _ _ q3;have c4:=E.ext _ _ c3;have lw4:=bf c4;refine⟨S3 bb pb cap a,⟨J,J,J⟩,?_⟩;refine PU bb4 p24 (i:=0) zs p3 J ?_;refine PW q4 ?_;refine cG @c4 ?_;obtain⟨m,oc⟩:=b9 (a.drew.alloc (ae #[aq V,bH,zi (k.br.length:Nat),pp wf.heap.size] 207));have qV:Ext a m:=yF;have s5:m.heap.size=a.heap.size+1:=yH;have g5:m.heap[a.heap.size]?=aN #[aq V,bH,zi (k.br.length:Nat),pp wf.heap.size] 207:=yH;rw[<- oc];obtain⟨B,oQ⟩:=b9 (m.alloc (ae #[pp T,.slice q (mm ρ g.vars).length gc,zi (k.br.length:Nat),pp a.heap.size] 207));have Tt:Ext m B:=yF;have g6:B.heap[m.heap.size]?=aN #[pp T,.slice q (mm ρ g.vars).length gc,zi (k.br.length:Nat),pp a.heap.size] 207:=yH;rw[<- oQ];have qX:Ext a B:=yF;have D2:Ext w3 B:=yF;have U:eM w1 B:=u.trans (eM.ea D2);refine⟨(by grind [S3.of]),(by grind [S3.of]),?_⟩;have PY:dJ (fun _=>True) B (pp w3.heap.size) zJ:=by
    unfold zJ dJ;exact⟨_,_,_,[],[],J,trivial,yH,.inl ⟨J,J⟩,by unfold eH;rfl,.inl ⟨J,J⟩,by unfold gx;rfl⟩
   have gl:uw ρ k.n B (pp m.heap.size) [⟨O pA,g.vars,k.br.length⟩,⟨V,[],k.br.length⟩,⟨O zJ,[],0⟩]:=
    ⟨_,_,_,_,J,g6,dJ.iZ U p4,C.iZ (K.trans U) (yM),N,_,_,_,_,J,Tt.ext _ _ g5,J,.inl ⟨J,J⟩,(fun _ h=>by cases h),
     _,_,_,_,J,qX.ext _ _ g4,PY,.inl ⟨J,J⟩,(fun _ h=>by cases h),J⟩
   rw[s5] at gl;obtain⟨Q,r2⟩:=(t.ext D2).KM gl J;cases hr;exact⟨I.trans (rD.trans yF),J,ρ,eo.refl _ _,_,_,_,_,Q⟩
  rw[bX O6] at hr;have aKW:¬ ((kind:Int)=126):=zo;refine dy @aKW x ?_;refine a0c (aKE o hD1 (hB.fr I) gT hM aom (C.iZ K (yM)) N eX (by grind [Sr.cS,Sr.dec]) xS hr) ?_;rintro e w2 hp;exact EPost.aeh (hp.of I)
end
section
variable{D:Nat->Prop}{ρ:Nat->Nat}{wb mb:Nat}{todo av vv tv:Y}{di:List Y}{w w':Z}{k:Wk}
def kl.place(h:kl D ρ wb mb todo av vv tv di w k)(hm:m<k.br.length):∃ g ac cur a cv b fR us,av = cM g k.br.length ac/\k.br.length<=ac/\w.heap[g]?=aN cur 356/\cur.size=ac*4 /\
  cur[m*4]?=O (zi ((k.br[m]).mark:Nat))/\cur[m*4+1]?=O a/\cur[m*4+2]?=O cv/\cur[m*4+3]?=O b /\
  uw ρ k.n w a (k.br[m]).todo/\n9 w 79 cv fR/\ko (fun _=>True) w fR (k.br[m]).clauses/\fD (fun _=>True) w 89 b us/\pE ρ k.n w us (k.br[m]).args:=by
 obtain⟨a,cv,b,fR,us,o,g2,g3,g4,g5,g6⟩:=h.ag.at m hm;rcases h.ar.2 with⟨-,c⟩| ⟨g,cap,cur,d,c,e,f,p,i,q⟩
 .exact yH
 .have l:∀ j,j<4->cur[m*4+j]?=[Value.int .i64 ((k.br[m]).mark:Nat),a,cv,b][j]?:=zg;exact⟨g,cap,cur,a,cv,b,fR,us,d,f,e,i,l 0 zo,zg,zg,zg,g2,g3,g4,g5,g6⟩
end
section
variable{D:Nat->Prop}{ρ:Nat->Nat}{wb mb:Nat}{vv:Y}{w w':Z}{k:Wk}
def aKX(h:PJ D ρ wb mb vv w k)(hD:∀ b,w.heap.size<=b->D b){base:List Cl}(hB:Bn w mb base)(gT:∀ c∈base,yW M c)(hM:M<=100000)(L:B<=800000000)
  (hg:lN M B k) {r:Except jE (Bool×Wk)} (hr:kO base d f A k=O r) :
  Calls a97 223 #[pp wb] w (EPost D w (Fj D ρ k.n wb mb vv) r):=by
 refine aKk ?_;refine⟨fun n s w1=>∃ (ok:Bool) (F:Nat->Nat) (j:Wk),s 3 = .bool ok/\eo ρ k.n F j.n/\PJ D F wb mb vv w1 j/\dc D w w1/\lN M B { j with todo:=if ok then j.todo else [] }/\kO base d n ok j=O r,
  ⟨f,A,ρ,k,J,eo.refl _ _,h,yF,hg,hr⟩,?_⟩
 intro n s dd w1 hI;clear dd;obtain⟨ok,F,j,h3,uB,IN,dB,I,u⟩:=hI;cases n with
 | zero=>simp [kO] at u
 | succ n=>
 have s1:=dB.size;have H4:∀ {q:Except jE (Bool×Wk)} {z:Nat->Nat} {n2:Nat} {w2:Z} {e:Ending} {w3:Z} {r0:P.Out (Bool×Wk)},eo ρ k.n z n2->dc D w w2->EPost D w2 (Fj D z n2 wb mb vv) q e w3->r0=O q ->
   P.Out.bind r0 (fun p=>kO base d n p.1 p.2)=O r->(∀ p,q = .ok p->lN M B { p.2 with todo:=if p.1 then p.2.todo else [] }) ->
   ends (fun x w'=>∃ m,m<n+1/\∃ (ok:Bool) (F:Nat->Nat) (j:Wk),(jg [(3,x)]) 3 = .bool ok/\eo ρ k.n F j.n/\PJ D F wb mb vv w' j/\dc D w w'/\lN M B { j with todo:=if ok then j.todo else [] }/\kO base d m ok j=O r)
    (PC (EPost D w (Fj D ρ k.n wb mb vv) r)) e w3:=by
  intro q z n2 w2 e w3 r0 hu hE t hq0 y aos;rw[hq0] at y;obtain⟨S,t⟩:=t;cases q with
  | error te=>
   cases y;have t:e=gV te:=t;subst t;cases te<;>exact⟨yF,J⟩
  | ok p=>
   obtain⟨rfl,ρ3,M8,PZ⟩:=t;exact⟨n,Nat.lt_succ_self _,p.1,ρ3,p.2,J,hu.trans M8,PZ,yF,zg,y⟩
 obtain⟨todo,av,tv,di,K⟩:=IN;have c1:=K.cell;have Cd:j.sr.tr.length+j.sr.fuel<=800000000:=a0f I.cS L;have MO:j.br.length+j.sr.fuel<=800000000:=a0f I.nj L;refine⟨fun _ w2=>∃ (z:Nat->Nat) (l:Wk),eo ρ k.n z l.n/\PJ D z wb mb vv w2 l/\dc D w w2/\lN M B l/\∃ m,m<n+1/\(kO base d (m+1) A l=O r),?_,?_⟩
 .cases ok with
  | true=>
   refine cG h3 ?_;exact⟨F,j,uB,⟨_,_,_,_,K⟩,dB,I,n,Nat.lt_succ_self _,u⟩
  | false=>
   simp only[Bool.false_eq_true,if_false] at I;obtain⟨aa,ac,N⟩:=gX K.ar;refine iJ h3 @c1 N ?_;rw[kO] at u;by_cases hle:j.br.length=0
   .have hlt:(j.br.length:Int)-1<0:=zo;rw[List.eq_nil_of_length_eq_zero hle] at u;cases u;refine cG hlt ?_;exact⟨dB,J,F,uB,_,_,_,_,K⟩
   have hlt:¬ (j.br.length:Int)-1<0:=zo;obtain⟨m,hm⟩:∃ m,j.br.length=m+1:=⟨j.br.length-1,zo⟩;have wu:m<j.br.length:=zo;have P0:j.br.getLast?=O j.br[m]:=zg;rw[P0] at u;obtain⟨g,ac',cur,tp,cv,wZ,fR,us,e1,e2,xy,jc,q0,q1,q2,q3,i1,i2,i3,i4,i5⟩:=K.place wu;rw[N] at e1;simp only[a0s,true_and] at e1;obtain⟨rfl,rfl⟩:=e1;have lg:=bf xy;have aeo:(j.br.length:Int)-1=(m:Nat):=zo;have Ns:((m:Nat):Int).toNat=m:=zo;rw[aeo] at hlt ⊢;obtain⟨u1,u2,u3,u4⟩:=I.iF P0;have dA:Ext w1 w1.drew:=yF;have hm4:m*4<ac*4:=zo;have hmi:((m:Nat):Int)<(j.br.length:Nat):=zo;refine dC hlt @c1 N (zA @Ns (zA xy @q0)) ?_;refine a0c (adx (K.ext dA).less Fi u3 zo) ?_;rintro e w2 ⟨rfl,T,xO,mh⟩;obtain⟨C,Ta⟩:=(K.ext dA).store mh T;have sH:dc D w1 w2:=(dc.ea dA).trans Ta;have U:eM w1 w2:=dc.toI sH;have H:w2.heap[g]?=aN cur 356:=T.block _ _ xy (by rintro ⟨⟨-,W⟩,-⟩;rw[N] at W;exact W J);have lg2:=bf H;have c2:=C.cell;have l2:=bf c2;have s2:=sH.size;obtain⟨tq,rfl⟩:=i1.ptr;obtain⟨aa',aWf,X⟩:=i4.sl;obtain⟨XG,cvn,Tp,jb⟩:∃ a n c,cv = .slice a n c:=by
    rcases i2 with⟨-,rfl⟩| ⟨b,o,cap,cs,rfl,-⟩<;>exact zg
   have Nq:=q2;have GZ:=q3;rw[jb] at Nq;rw[X] at GZ;refine dy H @Nq ?_;have lL:=u1.ag _ _ u2;by_cases sZ:(j.br[m]).clauses=[]
   .have:fR=[]:=by rw[sZ] at i3;exact i3
    subst this;have TB:cv = bH:=by
     rcases i2 with⟨-,h⟩| ⟨b,o,cap,cs,-,-,-,-,h⟩<;>grind
    rw[jb] at TB;cases TB;simp only[sZ] at u;have To:((m:Nat):Int)<=(ac:Nat):=zo;obtain⟨Px,iA⟩:=PM (by have:=C.ar;grind:w2.ownsRow 0 356 4 (cM g j.br.length ac) j.br.length di);refine dC H @q1 @c2 (zA N iA) ?_;obtain⟨w3,rW⟩:=b9 (bO w2 wb (ae #[.map (O mb),xO,zi (j.sr.fuel:Nat),.pointer tq,cM g j.br.length ac,vv] 130));obtain⟨B2,S⟩:=C.KM (w1:=w3) (i1.bI U (eo.refl _ _)) zg;obtain⟨Q,ja⟩:=b9 (bO w2 wb (ae #[.map (O mb),xO,zi (j.sr.fuel:Nat),.pointer tq,cM g m ac,vv] 130));obtain⟨hx4,fZ⟩:=B2.forget (m:=m) (w1:=Q) (Nat.le_of_lt wu) N (by grind [Rt]);have hfu:(j.sr.iF (j.br[m]).mark).fuel=j.sr.fuel:=rfl;rw[hfu,<- ja];have aow:=I.back P0;have LR:j.br.dropLast=j.br.take m:=by grind [List.dropLast_eq_take,Nat.add_sub_cancel]
    rw[LR] at aow u;refine⟨F,{ j with sr:=j.sr.iF (j.br[m]).mark,todo:=(j.br[m]).todo,br:=j.br.take m },uB,⟨_,_,_,_,hx4⟩,yF,aow,?_⟩;cases n with
    | zero=>grind [kO]
    | succ n=>grind
   .have jh:fR≠[]:=by
     rintro rfl;cases hx:(j.br[m]).clauses with
     | nil=>grind
     | cons c0 l0=>rw[hx] at i3;obtain⟨_,_,h0,-⟩:=i3;grind
    obtain⟨cb,co,aK1,ccs,KU,gF,-,-,-⟩:=i2.resolve_left zg;rw[jb] at KU;cases KU;have u:P.Out.bind (wq d (j.br[m]).args (j.br[m]).clauses (j.br[m]).todo m { j with sr:=j.sr.iF (j.br[m]).mark }) (fun p=>kO base d n p.1 p.2)=O r:=by
     grind
    have DY:Ext w2 w2.drew:=yF;refine dC H @q1 @Nq @GZ ?_;obtain⟨q,y,-⟩:∃ q,wq d (j.br[m]).args (j.br[m]).clauses (j.br[m]).todo m { j with sr:=j.sr.iF (j.br[m]).mark }=O q/\True:=by
     cases hx:wq d (j.br[m]).args (j.br[m]).clauses (j.br[m]).todo m { j with sr:=j.sr.iF (j.br[m]).mark } with
     | none=>rw[hx] at u;cases u
     | some q=>grind
    have TC:eM w1 w2.drew:=U.trans (eM.ea DY);refine a0c (an3 (C.ext DY) yH (M:=M) (f:=d) (m:=m) (r:=q) ((by grind:n9 w1 79 (.slice (O ⟨cb,co,V⟩) fR.length Tp) fR).bI fun b cs W=>TC _ _ _ (yM) W) (i3.iZ TC)
     (X ▸ i4.iZ TC (yM)) (i5.PI TC (eo.refl _ _)) lL.args lL.cls hM (i1.bI TC (eo.refl _ _)) (Nat.le_of_lt wu) zg (a0f u1.cS L) zg y) ?_
    rintro e w3 t;refine H4 uB yF t y u fun p t=>?_;subst t;have po:m=j.br.length-1:=zo;have TD:wq d (j.br[m]).args (j.br[m]).clauses (j.br[m]).todo (j.br.length-1) { j with sr:=j.sr.iF (j.br[m]).mark }=O (.ok p):=by rw[<- po];exact y
    exact(I.again P0 TD).1
 .rintro s2 w2 ⟨z,l,Fk,⟨aox,uu,xO,PO,C⟩,T,H,m,hmn,E⟩ d2;clear d2;have c2:=C.cell;have l2:=bf c2;have alZ:l.sr.tr.length+l.sr.fuel<=800000000:=a0f H.cS L;have aWh:l.br.length+l.sr.fuel<=800000000:=a0f H.nj L;have s02:=T.size;rw[kO] at E;cases R:l.todo with
  | nil=>
   rw[R] at E;cases E;have htv:aox = .pointer none:=by have:=C.td;rw[R] at this;exact this
   subst htv;refine cG @c2 ?_;obtain⟨wf,Cy⟩:=b9 (w2.alloc (ae #[.int .u8 103,aM [102,97,105,108],bH,bH] 149 (0,0)));have aWj:Ext w2 wf:=yF;have gf:wf.heap[w2.heap.size]?=aN #[.int .u8 103,aM [102,97,105,108],bH,bH] 149:=yH;have sf:wf.heap.size=w2.heap.size+1:=yH;obtain⟨Q,ja⟩:=b9 (wf.alloc (ae #[pp w2.heap.size,bH,zi 0,aq V] 207));have g4:Q.heap[wf.heap.size]?=aN #[pp w2.heap.size,bH,zi 0,aq V] 207:=yH;have aK3:Ext w2 Q:=yF;rw[<- Cy,<- ja,<- sf];have PY:dJ (fun _=>True) Q (pp w2.heap.size) zJ:=by
    unfold zJ dJ;exact⟨_,_,_,[],[],J,trivial,yH,.inl ⟨J,J⟩,by unfold eH;rfl,.inl ⟨J,J⟩,by unfold gx;rfl⟩
   have gl:uw z l.n Q (pp wf.heap.size) [⟨O zJ,[],0⟩]:=⟨_,_,_,_,J,g4,PY,.inl ⟨J,J⟩,zg,J⟩;obtain⟨r1,r2⟩:=(C.ext aK3).KM gl J;exact⟨yF,J,z,Fk,_,_,_,_,r1⟩
  | cons g rest=>
   rw[R] at E;simp only at E;obtain⟨gb,wv,gv,nx,rfl,EZ,Dl,mj,GX,ME⟩:∃ b wv gv nx,aox=pp b/\w2.heap[b]?=aN #[wv,gv,zi (g.cut:Nat),nx] 207/\PH w2 wv g.EX /\
     fD (fun _=>True) w2 89 gv (mm z g.vars)/\(∀ i∈g.vars,i<l.n)/\uw z l.n w2 nx rest:=by have:=C.td;rw[R] at this;exact this
   have lgb:=bf EZ;obtain⟨nq,rfl⟩:=ME.ptr;refine dy @c2 EZ ?_;obtain⟨B2,S⟩:=C.KM ME J;have D3:ni M l.n l.br.length (g::rest):=by rw[<- R];exact H.todo
   have hgk:lN M B { l with todo:=g::rest }:=by rw[<- R];omega
   obtain⟨q,y⟩:∃ q,DD base d g { l with todo:=rest }=O q:=by
    cases hx:DD base d g { l with todo:=rest } with
    | none=>rw[hx] at E;cases E
    | some q=>grind
   have hr3:P.Out.bind (DD base d g { l with todo:=rest }) (fun p=>kO base d n p.1 p.2)=O r:=by
    rw[y] at E ⊢;cases q with
    | error e=>exact E
    | ok p=>exact aHq E zo zo
   have KP:eM w2 _:=dc.toI S;refine a0c (aKM (r:=q) (f:=d) B2 (fun b W=>hD b (by have:=S.size;omega)) ((hB.fr T).fr S) gT hM (KP _ _ _ (yM) EZ) (Dl.bI KP) (mj.iZ KP (yM)) GX D3.1 D3.2.2.1 (a0f H.cS L) (by show l.br.length<_;omega) y) ?_;rintro e w3 t;refine H4 Fk yF t y hr3 fun p t=>?_;subst t;exact(al0 hgk C.st.ok gT y).1
end
namespace Sx
open Go
def oC(l:List (List UInt8×Y))(i:Nat):List MapEntry:=match l with
 | []=>[]
 | (s,v)::r=>{ key:=.string (bs s),val:=v,born:=i }::oC r (i+1)
def eJ(l:List (List UInt8×Y)):Obj:=.map (oC l 0).toArray l.length
def fH(s:List UInt8):List (List UInt8×Y)->Nat->Option (Nat×Y)
 | [],_=>V
 | (u,v)::r,i=>if u=s then O (i,v) else fH s r (i+1)
theorem P1:∀ (l:List (List UInt8×Y)) (i:Nat),Ma (oC l i)
 | [],_=>fun e he=>by cases he
 | (s,v)::r,i=>fun e he=>by
  rcases List.mem_cons.1 he with rfl | he
  .grind
  .exact P1 r (i+1) e he
def aK5(s:List UInt8):RA (aM s)=O s:=rfl
def P2(s:List UInt8):∀ (l:List (List UInt8×Y)) (i j:Nat),AT s (oC l i) j=fH s l j
 | [],_,_=>rfl
 | (u,v)::r,i,j=>by
  unfold oC AT fH;rw[aK5,P2 s r (i+1) (j+1)];grind
def aeq(s:List UInt8)(v:Y):∀ (l:List (List UInt8×Y)) (i:Nat),oC l i++[{ key:=aM s,val:=v,born:=i+l.length }]=oC (l++[(s,v)]) i
 | [],i=>rfl
 | (u,x)::r,i=>by
  show _::(oC r (i+1)++_)=_::oC (r++[(s,v)]) (i+1);rw[<- aeq s v r (i+1)];grind
def XS{s:List UInt8}:∀ {l:List (List UInt8×Y)} {i j:Nat} {v:Y},fH s l i=O (j,v)->i<=j/\l[j-i]?=O (s,v)
 | [],_,_,_,h=>by cases h
 | (u,x)::r,i,j,v,h=>by
  unfold fH at h;split at h
  .grind
  .obtain⟨a,b⟩:=XS h;grind
theorem XT(s t:List UInt8)(v:Y):∀ (l:List (List UInt8×Y)) (i:Nat),fH s (l++[(t,v)]) i=match fH s l i with | some p=>O p | none=>if t=s then O (i+l.length,v) else V
 | [],i=>by simp [fH]
 | (u,x)::r,i=>by
  show fH s ((u,x)::(r++[(t,v)])) i=_;unfold fH;split
  .rfl
  .rw[XT s t v r (i+1)];grind
def aoz{s t:List UInt8}{v u:Y}:∀ {l:List (List UInt8×Y)} {i j:Nat},fH t l i=O (j,u)->fH s (l.set (j-i) (t,v)) i=if s=t then O (j,v) else fH s l i
 | [],_,_,h=>by cases h
 | (x,y)::r,i,j,h=>by
  unfold fH at h;split at h
  .rename_i hx;simp only[aZ9,Prod.mk.injEq] at h;obtain⟨rfl,rfl⟩:=h;subst hx;rw[Nat.sub_self,List.set_cons_zero];unfold fH;grind
  .rename_i hx;have b:=(XS h).1;rw[show j-i=(j-(i+1))+1 by omega,List.set_cons_succ];unfold fH;by_cases a:x=s
   .grind
   .rw[bX a,bX a,aoz h]
def aer{s:List UInt8}{v u:Y}{g:MapEntry->MapEntry}(a:∀ b,g { key:=aM s,val:=u,born:=b }={ key:=aM s,val:=v,born:=b }) :
  ∀ {l:List (List UInt8×Y)} {i j:Nat},l[j]?=O (s,u)->(oC l i).modify j g=oC (l.set j (s,v)) i
 | (x,y)::r,i,0,h=>by
  simp only[List.getElem?_cons_zero,aZ9,Prod.mk.injEq] at h;obtain⟨rfl,rfl⟩:=h;simp only[oC,List.set_cons_zero,List.modify_zero_cons,a]
 | (x,y)::r,i,j+1,h=>by
  have h:r[j]?=O (s,u):=zg;simp only[oC,List.set_cons_succ,List.modify_succ_cons,aer a h]
section
variable{P:Program}{w:Z}{X:Y->Z->Prop}{l:List (List UInt8×Y)}{r:Nat}
def KV{t k e:TypeId}{z:Y}{K:Y->Prop}(ht:AS P t=O (k,e))(a:vT P k=A)(c:zK P e=O z)(d:w.heap[r]?=O (eJ l))(s:List UInt8)(b:Bool) :
  RD P (Instr.lookup t (.map (O r)) (aM s) b) w K X =
   match fH s l 0 with
   | some (_,v)=>K (if b then ak #[v,.bool A] else v)
   | none=>K (if b then ak #[z,.bool G] else z):=by
 rw[aiF ht a c d (by grind [P1])];rw[a1T,P2];grind
def xX{t k e:TypeId}{K:Z->Prop}(ht:AS P t=O (k,e))(a:vT P k=A)(hm:w.heap[r]?=O (eJ l))(s:List UInt8)(b:fH s l 0=V)(v:Y) :
  WU P (Instr.mapUpdate t (.map (O r)) (aM s) v) w K X=K (bO w r (eJ (l++[(s,v)]))):=by
 rw[aws ht a hm (by grind [P1]) s (by rw[a1T,P2];omega) v]
 congr 2
 unfold eJ;have:=aeq s v l 0;grind
def aoA{t k e:TypeId}{K:Z->Prop}(ht:AS P t=O (k,e))(d:vT P k=A)(hm:w.heap[r]?=O (eJ l))(s:List UInt8)(a:fH s l 0=O (i,u))(v:Y) :
  WU P (Instr.mapUpdate t (.map (O r)) (aM s) v) w K X=K (bO w r (eJ (l.set i (s,v)))):=by
 rw[awt ht d hm (by grind [P1]) s (by rw[a1T,P2];exact a) v]
 congr 2
 unfold eJ;have c:=(XS a).2;rw[Nat.sub_zero] at c;rw[List.length_set,<- aer (g:=fun e=>{ e with key:=aM s,val:=v }) (fun b=>rfl) c];grind
def aK6{t k e:TypeId}{K:Y->Z->Prop}(ht:AS P t=O (k,e))(a:vT P k=A)(d:zK P e=O z)(hm:w.heap[r]?=O (eJ l))(s:List UInt8)(f:fH s l 0=V) :
  WR P (Instr.mapEntry t (.map (O r)) (aM s)) w K X=K (ak #[z,zi l.length]) (bO w r (eJ (l++[(s,z)]))):=by
 have g:=VI (P:=P) (w:=w) (b:=false) (n:=9999) (t:=k) (s:=bs s) a;have c:=VJ (P:=P) (w:=w) a s (es:=(oC l 0).toArray.toList) (by simpa using P1 l 0);rw[a1T,P2,f] at c;have h:bO w r (eJ (l++[(s,z)]))=bO w r (.map ((oC l 0).toArray.push { key:=aM s,val:=z,born:=l.length }) (l.length+1)):=by
  unfold eJ;have:=aeq s z l 0;grind
 rw[h];refine xk ?_;simp [Instr.mapEntry,run_underlying (F0 ht),F1 (show w.heap[r]?=O (.map (oC l 0).toArray l.length) from hm),g,c,Eu d,a1X _ (show w.heap[r]?=O (.map (oC l 0).toArray l.length) from hm),bO,goInt]
def find_born{i:Nat}:∀ {l:List (List UInt8×Y)} {j:Nat},i<l.length->(oC l j).findIdx? (fun e=>(e.born:Int) == ((j+i:Nat):Int))=O i
 | [],_,h=>zg
 | (u,x)::r,j,h=>by
  unfold oC;rw[List.findIdx?_cons];cases i with
  | zero=>simp
  | succ i=>
   have a:(j:Int)≠((j+(i+1):Nat):Int):=zo;have b:=find_born (i:=i) (l:=r) (j:=j+1) zg;grind
def aK7{t:TypeId}{K:Z->Prop}(hm:w.heap[r]?=O (eJ l)){s:List UInt8}(a:l[i]?=O (s,u))(v:Y) :
  WU P (Instr.entryStore t (.map (O r)) (zi i) v) w K X=K (bO w r (eJ (l.set i (s,v)))):=by
 have d:=(List.getElem?_eq_some_iff.1 a).1;have c:=find_born (l:=l) (j:=0) d;rw[Nat.zero_add] at c;have f:bO w r (eJ (l.set i (s,v)))=bO w r (.map ((oC l 0).toArray.modify i fun e=>{ e with val:=v }) l.length):=by
  unfold eJ;rw[List.length_set,<- aer (g:=fun e=>{ e with val:=v }) (fun b=>rfl) a];grind
 rw[f];refine Rn ?_;simp [Instr.entryStore,F1 (show w.heap[r]?=O (.map (oC l 0).toArray l.length) from hm),c,a1X _ (show w.heap[r]?=O (.map (oC l 0).toArray l.length) from hm),bO,asInt,asIntOf]
end
end Sx
