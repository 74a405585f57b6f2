/- A part of one proof (KW4, KW5, KW6, KW7). -/
import Derived.Test.YtoegidfbnkaabaaGreatDoorPkIAS
set_option linter.all false
set_option maxRecDepth 100000
set_option maxHeartbeats 8000000
open Option renaming some → O, none → V
open Go renaming Value → Y, World → Z
open Bool renaming true → A, false → G
open Go.Obj renaming cells → ae
open Go.Ending renaming returned → ah
open Go.Value renaming pointer → aq
open Option.some renaming injEq → a07
open Go.Calls renaming mono → a1a
open Nat renaming le_trans → a1d
open List renaming drop_eq_getElem_cons → a1h, range' → a1W, getElem_cons_zero → a22, getElem_cons_succ → a3z
open Go.Instr renaming loadAt → a1p, fieldAt → a1Y
open Go.Value.slice renaming injEq → a1r
open Go.Proofs.Tryz renaming prog → bbn
namespace Go.Proofs.YtoegidfbnkaabaaGreatDoor
open P
open Go.RowKit Sx
variable{B M base c cap d e f g i j k' mb n pb so xb:Nat}{D:Nat->Prop}{K:Y->Prop}{X:Y->Z->Prop}{iv o4 o5 v:Y}{gI:List Bd}{ft:List Nat}{iL:Array Y}{w' w1 w2 w3:Z}{xs:List Y}{y:Operand}
section
variable{D:Nat->Prop}{ρ:Nat->Nat}{wb mb:Nat}{todo av vv tv:Y}{dw:List Y}{w w':Z}{k:Wk}
theorem qZ.take{n:Nat}:∀ {l:List oJ} {vs:List Y} (m:Nat),qZ ρ n w vs l->qZ ρ n w (vs.take (m*4)) (l.take m)
 | l,vs,0,h=>by simp;rfl
 | [],vs,m+1,h=>by have h:vs=[]:=h;grind
 | a::l,vs,m+1,⟨b,cv,av,fZ,us,rest,j,c,d,e,f,g,i⟩=>by
  refine⟨b,cv,av,fZ,us,rest.take (m*4),?_,c,d,e,f,g,qZ.take m i⟩;grind
theorem qZ.at{n:Nat}:∀ {l:List oJ} {vs:List Y} (m:Nat) (hm:m<l.length),qZ ρ n w vs l->∃ b cv av fZ us,(vs.drop (m*4)).take 4=[zi ((l[m]).mark:Nat),b,cv,av]/\uS ρ n w b (l[m]).todo /\
   oM w 79 cv fZ/\kE (fun _=>True) w fZ (l[m]).clauses/\fJ (fun _=>True) w 89 av us/\qp ρ n w us (l[m]).args
 | a::l,vs,0,_,⟨b,cv,av,fZ,us,rest,d,e,f,g,h,i,c⟩=>zg
 | a::l,vs,m+1,hm,⟨b,cv,av,fZ,us,rest,d,e,f,g,h,i,c⟩=>by
  obtain⟨j,o,av',p,k,g1,g2⟩:=qZ.at m zg c;grind
def kA.forget(h:kA D ρ wb mb todo av vv tv dw w k){m:Nat}(hm:m<=k.bz.length){a:Option Addr}(b:av = .slice a k.bz.length c)
  (hw:w1=bS w wb (ae #[.map (O mb),tv,zi (k.sr.fuel:Nat),todo,.slice a m c,vv] 130)) :
  kA D ρ wb mb todo (.slice a m c) vv tv (dw.take (m*4)) w1 { k with bz:=k.bz.take m }/\di D w w1:=by
 have i:=h.ag.len;have hr:w.ownsRow 0 356 4 (.slice a m c) m (dw.take (m*4)):=by
  refine⟨zg,?_⟩;rcases h.ar.2 with⟨d,e⟩| ⟨g,cap,cur,d,e,j,n,o,p,q⟩<;>grind
 have f:w.grownBy w av.ownBlock:=⟨J,J,J,Nat.le_refl _,yH⟩;obtain⟨r,s,-⟩:=h.LP (l:=k.bz.take m) (av':=.slice a m c) (avs':=dw.take (m*4)) zg f (.inl (by rw[b];cases a<;>rfl)) (h.ag.take m) hw;exact yF
def kA.again(h:kA D ρ wb mb todo av vv tv dw w k){m:Nat}(hm:m<k.bz.length)(o:av = cV g k.bz.length c)(q:w.heap[g]?=aN iL 356)
  {cv:Y} {l:List Cl} (t:oM w 79 cv xs) (u:kE (fun _=>True) w xs l) (d:w1=bS w g (ae (iL.setIfInBounds (m*4+2) cv) 356 (0,0)))
  (x:w2=bS w1 wb (ae #[.map (O mb),tv,zi (k.sr.fuel:Nat),todo,cV g (m+1) c,vv] 130)) :
  (∃ avs',kA D ρ wb mb todo (cV g (m+1) c) vv tv avs' w2 { k with bz:=k.bz.take m++[{ k.bz[m] with clauses:=l }] })/\di D w w2/\w1.heap[wb]?=w.heap[wb]?:=by
 have M:=h.ag.len;obtain⟨f,p,i,y,us,N,g2,g3,g4,g5,g6⟩:=h.ag.at m hm;have z:=bh q;obtain⟨a,B⟩:=cg (dw.take (m*4));have C:a.length=m*4:=zg;have P:w1.ownsRow 0 356 4 (cV g (m+1) c) (m+1) (a++[zi ((k.bz[m]).mark:Nat),f,cv,i]):=by
  refine⟨zg,?_⟩;rcases h.ar.2 with⟨j,r⟩| ⟨E,cap,Q,j,r,s,R,F,H,S⟩
  .exact yH
  .rw[o] at j;have j:g=E/\c=cap:=zg;obtain⟨rfl,rfl⟩:=j;rw[q] at s;cases s;refine .inr ⟨g,c,_,J,r,by rw[d];exact qJ J z,zo,F,by simpa using H,?_⟩;have T:iL.toList.take ((m+1)*4)=a++[zi ((k.bz[m]).mark:Nat),f,p,i]:=by
    have U:iL.toList.take ((m+1)*4)=dw.take ((m+1)*4):=by
     grind
    grind
   grind [Array.toList_setIfInBounds,List.take_set,List.set_append_right,Nat.add_sub_cancel_left]
 have I:w.grownBy w1 av.ownBlock:=⟨by rw[d];rfl,by rw[d];rfl,by rw[d];rfl,yH,fun b _ K=>by
  rw[d,jr (fun e=>K (by subst e;rw[o];rfl))]⟩
 have L:qZ ρ k.n w (a++[zi ((k.bz[m]).mark:Nat),f,cv,i]) (k.bz.take m++[{ k.bz[m] with clauses:=l }]):=by
  rw[B];exact(h.ag.take m).snoc ⟨f,cv,i,xs,us,[],J,g2,t,u,g5,g6,J⟩
 have W:(k.bz.take m++[{ k.bz[m] with clauses:=l }]).length=m+1:=by
  grind
 obtain⟨X,r2,r3⟩:=h.LP (l:=k.bz.take m++[{ k.bz[m] with clauses:=l }]) zg I (.inl (by rw[o];rfl)) L x;exact yH
def QP{w:Z}{size:Nat}{a:Option Addr}(h:w.ownsRow base e size (.slice a n c) n xs):n<=c/\∀ (m s:Nat),sliced a 0 m c s = .slice a m c:=by
 rcases h.2 with⟨d,f⟩| ⟨b,cap,cur,d,f,g,i,j,k,l⟩
 .cases d;exact⟨Nat.le_refl _,(by grind [sliced])⟩
 grind [sliced,Addr.add]
theorem kA.dm(h:kA D ρ wb mb todo av vv tv dw w k)(hD:∀ b,w.heap.size<=b->D b):∀ b,w.heap.size<=b->Dm D av b:=fun b a=>⟨hD b a,(by grind [bh,EF])⟩
abbrev FY(D:Nat->Prop)(ρ:Nat->Nat)(n wb mb:Nat)(vv:Y)(p:Bool×Wk)(e:Ending)(w':Z):Prop:=
 e = ah (.bool p.1)/\∃ eQ,eD ρ n eQ p.2.n/\QM D eQ wb mb vv w' p.2
def ao1(h:kA D ρ wb mb todo av vv tv dw w k)(hD:∀ b,w.heap.size<=b->D b){m:Nat}{us:List Y}{l:List Cl}{args:List Tm}{td:List P.Goal}{r:Except jQ (Bool×Wk)}
  (hs:oM w 79 o4 xs) (hc:kE (fun _=>True) w xs l) (ha:fJ (fun _=>True) w 89 iv us) (ht:qp ρ k.n w us args) (dj:jy args) (gZ:∀ c∈l,zx M c/\c.args.length=args.length) (hM:M<=100000)
  (r9:uS ρ k.n w o5 td) (hm:m<=k.bz.length) (oc:1<l.length->m<k.bz.length) (hz:k.sr.cW<=800000000) (yw:k.bz.length<=900000000) (hr:xr f args l td m k=O r) :
  Calls bbn 224 #[pp wb,iv,o4,o5,zi (m:Nat)] w (EPost D w (FY D ρ k.n wb mb vv) r):=by
 have KC:k.sr.tr.length+k.sr.fuel<=800000000:=hz;unfold xr at hr;refine aK2 ?_;refine bG ?_;refine a1a (Of h.less FX zo) ?_;rintro e w1 ⟨N,F⟩;by_cases h0:k.sr.fuel=0
 .rw[zip h0] at hr F;injection hr with hr;subst hr F;exact⟨N.up fun _ h=>h.1,J⟩
 rw[bI h0] at hr F;obtain⟨rfl,F⟩:=F;obtain⟨z,N⟩:=h.store F N;cases l with
 | nil=>cases hr
 | cons c rest=>
 simp only at hr;obtain⟨cv,QN,rfl,jo,KR⟩:=hc;obtain⟨EG,aWP⟩:=gZ c (List.mem_cons_self ..);obtain⟨lb,lo,Up,lcs,rfl,WV,rp,aLd⟩:=hs.at (j:=0) zs;rw[Nat.add_zero] at rp;have BZ:=N.toI;have aLe:=BZ _ _ _ (yM) WV;refine dF aLe rp ?_;obtain⟨aa,ac,Q⟩:=il z.ar;have c1:=z.cell;have lw1:=bh c1;have R:Ext w1 w1.drew:=yF;refine⟨fun _ w'=>∃ av' avs',kA D ρ wb mb todo av' vv tv avs' w' { k with sr:=k.sr.dec,bz:=xp k.bz m rest }/\di D w w',?_,?_⟩
 .obtain⟨QB,jd⟩:=QP (by rw[Q] at z;exact z.ar:w1.ownsRow 0 356 4 (.slice aa k.bz.length ac) k.bz.length dw);have lZ:av = .slice aa k.bz.length ac:=Q;cases rest with
  | nil=>
   have jo:QN=[]:=KR;subst jo;have Uq:(m:Int)<=(ac:Nat):=zo;refine jk @c1 Q jd ?_;obtain⟨S,r2⟩:=z.forget hm lZ J;exact⟨_,_,S,yF⟩
  | cons c2 rest=>
   obtain⟨cv2,YC,rfl,-,-⟩:=id KR;have xt:m<k.bz.length:=zg;rcases z.ar.2 with⟨B,e2⟩| ⟨g,cap,cur,B,e2,hg,T,e5,e6,e7⟩
   .have e2:k.bz.length=0:=e2;omega
   rw[Q] at B;cases B;have D3:g≠wb:=zg;have aWQ:(m:Int)<(k.bz.length:Nat):=zo;obtain⟨sa,sc,zM⟩:∃ sa sc,sliced (O ⟨lb,lo,V⟩) 1 (YC.length+1+1) Up 1 = .slice sa (YC.length+1) sc:=⟨_,_,J⟩;have Uq:(m:Int)+1<=(ac:Nat):=zo;have QQ:oM w1 79 (.slice sa (YC.length+1) sc) (cv2::YC):=by
    rw[<- zM];exact(hs.bK fun b cs H=>BZ _ _ _ (yM) H).tail zs
   refine dM @c1 Q hg (zA zM jd) ?_;obtain⟨⟨avs',S⟩,r2,-⟩:=(z.ext R).again (m:=m) xt lZ (R.ext _ _ hg) (QQ.bK fun b cs H=>R.ext _ _ H) (kE.jn (BZ.trans (eR.eo R)) KR) J J;have e3:((m:Int)+1).toNat=m+1:=zo;rw[e3];have T:xp k.bz m (c2::rest)=k.bz.take m++[{ k.bz[m] with clauses:=c2::rest }]:=by
    grind [xp,List.getElem?_eq_getElem]
   rw[T];exact⟨_,avs',S,N.trans ((di.eo R).trans r2)⟩
 .rintro s w2 ⟨uR,QR,h2,dU⟩ d;clear d;have s2:=dU.size;have W0:=dU.toI;obtain⟨cb,cav,cbv,YD,Ur,rfl,-,gN,⟨xus,lJ,xU⟩,nW⟩:=jo;have FP:=W0 _ _ _ (yM) gN;have YE:=bh FP;have hM5:c.vars.length<=100000:=a1d EG.vars hM;refine cO FP ?_;refine a1a (aoY c.vars.length hM5 w2) ?_;rintro e w3 ⟨eK,s3,vcs,rfl,zm,De,YF⟩;have h3:=h2.fresh (fun b H=>hD b (a1d s2 H)) eK (fun j hj=>(YF j hj).2);have C:=aoZ (ρ:=ρ) (n:=k.n) zm De (fun j hj=>(YF j hj).1);have U:eD ρ k.n (yv ρ k.n (w2.heap.size+1)) (k.n+c.vars.length):=Yz _ _ _ _;have Hy:di D w w3:=yF;generalize yv ρ k.n (w2.heap.size+1)=eQ at h3 C U;have Lz:=eK.ext _ _ FP;obtain⟨xa,xc,aLi⟩:=lJ.sl;subst aLi;have Kt:xus.length=c.args.length:=eM.FV xU;refine dF Lz Kt ?_;cases hq:vI f (a1W k.n c.vars.length) args c.args k.sr.dec with
  | none=>rw[hq] at hr;cases hr
  | some q=>
  rw[hq] at hr;refine⟨fun n x a=>∃ j I FT,x 64=zi (j:Nat)/\j<=c.args.length/\n=c.args.length-j/\kA D eQ wb mb todo uR vv FT QR a ⟨k.n+c.vars.length,I,k.todo,xp k.bz m rest⟩/\di D w3 a/\I.cW<=800000000 /\
    vI f (a1W k.n c.vars.length) (args.drop j) (c.args.drop j) I=O q,⟨_,0,_,_,J,Nat.zero_le _,J,h3,yF,by grind [Sr.cW,Sr.dec],hq⟩,?_⟩
  intro n x d a hI;refine toPr ?_;obtain⟨j,I,FT,YG,hj,rfl,h4,gJ,YH,o⟩:=hI;have aLj:=Hy.trans gJ;have K:=di.toI aLj;have s4:=gJ.size;by_cases hlt:j<c.args.length
  .have xA:=EG.qT;have YI:j<args.length:=zo;obtain⟨sb,JF,B,-,e3,T⟩:=lJ.at' (j:=j) zo;obtain⟨u,e5,hu⟩:=eM.at' j hlt xU;rw[e5] at T;rw[Kt] at B;simp only[a1r,true_and] at B;obtain⟨rfl,rfl⟩:=B;have uU:us.length=args.length:=ht.length;obtain⟨ub,ucs,u1,-,u3,u4⟩:=ha.at' (j:=j) zo;obtain⟨uv,u5,Ou⟩:=ht.at j YI;rw[u5] at u4;have jV:((j:Nat):Int).toNat=j:=zo;have e34:=K _ _ _ (yM) e3;have Bw:=K _ _ _ (yM) u3;have Df:((j:Nat):Int)<(c.args.length:Nat):=zo;refine dM YG @e34 @T @jV ?_;have Us:Ext a a.drew:=yF;refine⟨fun w'=>w'.heap[ub]?=a.heap[ub]?,J,?_⟩;rw[jI];refine cS (pq wb 1) (fun w' t=>eV) ?_;have aLm:((j:Nat):Int)<(us.length:Nat):=zo;refine cS (pq ub j) (fun w' t=>by rw[Bw] at t;have:=bh t;rw[u1,YG];exact mn t @jV) ?_;obtain⟨LC,xv1,W⟩:=Ou.iface;refine cS uv (fun w' t=>by rw[Bw] at t;have:=bh t;rw[W] at u4;exact Bt t @jV @u4 W) ?_;have JE:∀ i∈a1W k.n c.vars.length,i<k.n+c.vars.length:=zg;have hXe:eR w a.drew:=K.trans (eR.eo Us);have hx4:eL (fun _=>True) a.drew u c.args[j]:=eL.mono zg hXe.lG _ _ hu;have FG:gR (a1W k.n c.vars.length).length c.args[j]:=by rw[List.length_range'];exact EG.args.at hlt
   refine a1a (Yx JE (gy c.args[j]) c.args[j] zo FG hx4 (C.jn ((di.toI gJ).trans (eR.eo Us)) (yM))) ?_;rintro e L ⟨uf,u5v,rfl,Yt⟩;have Fk:=uf.ext _ _ (Us.ext _ _ Bw);refine⟨yH,?_⟩;have y:Ext a L:=yF;have h5:=h4.ext y;have hD5:∀ b,L.heap.size<=b->D b:=fun b H=>hD b (by have:=y.size;omega);obtain⟨E,X,Ut⟩:∃ E,lS f args[j] (P.made (a1W k.n c.vars.length) c.args[j]) I=O E /\
     (match E with | .error e=>q = .error e | .ok p=>(if p.1=A then vI f (a1W k.n c.vars.length) (args.drop (j+1)) (c.args.drop (j+1)) p.2 else O (.ok (G,p.2)))=O q):=by
    rw[a1h hlt,a1h YI,vI] at o;cases hu:lS f args[j] (P.made (a1W k.n c.vars.length) c.args[j]) I with
    | none=>rw[hu] at o;cases o
    | some E=>
     rw[hu] at o;refine⟨E,J,?_⟩;cases E with
     | error e=>exact(Option.some.inj o).symm
     | ok p=>exact o
   refine a1a (QD FX f h5.less (h5.dm hD5) (dR.QL (K.trans (eR.eo y)) U Ou) (Ju dj YI) Yt.toT (Tz _ _ FG) zg X) ?_;rintro e w6 ⟨ln,oC⟩;have rK:di D a w6:=(di.eo y).trans (ln.up fun _ h=>h.1);cases E with
   | error te=>
    subst Ut;have oC:e=ig te:=oC;subst oC;cases hr;cases te<;>exact fun _=>⟨yF,J⟩
   | ok p=>
    obtain⟨b1,s6⟩:=p;obtain⟨rfl,tv6,h6⟩:=oC;obtain⟨h6,Uu⟩:=h5.store h6 ln;have Yr:=((FB f).tm X).1;cases b1 with
    | false=>
     simp only[Bool.false_eq_true,if_false] at Ut;cases Ut;cases hr;refine bG ?_;exact⟨yF,J,eQ,U,_,_,_,_,h6⟩
    | true=>
     simp only[if_true] at Ut;refine cO YG ?_;exact⟨_,zo,j+1,s6,tv6,zg,zo,J,h6,yF,zg,Ut⟩
  .have fD:j=c.args.length:=zo;subst fD;have IX:args.drop c.args.length=[]:=zg;rw[IX,vI] at o
   .cases o;cases hr;have aLp:=K _ _ _ (yM) gN;have c4:=h4.cell;have lc4:=bh c4;obtain⟨tq,rfl⟩:=r9.ptr;obtain⟨xb,rfl,-⟩:=nW.shape;refine jk YG aLp @c4 ?_;obtain⟨L,oN⟩:=cg (a.alloc (ae #[pp xb,cV w2.heap.size c.vars.length c.vars.length,zi (m:Nat),.pointer tq] 207));have y:Ext a L:=yF;have g5:L.heap[a.heap.size]?=aN #[pp xb,cV w2.heap.size c.vars.length c.vars.length,zi (m:Nat),.pointer tq] 207:=yH;rw[<- oN];have Uv:eR w L:=K.trans (eR.eo y);have JE:∀ i∈a1W k.n c.vars.length,i<k.n+c.vars.length:=zg;obtain⟨S,r2⟩:=(h4.ext y).LO (todo':=pp a.heap.size) (l:=⟨O c.body,a1W k.n c.vars.length,m⟩::td)
     ⟨_,_,_,_,J,g5,dP.jn Uv nW,C.jn ((di.toI gJ).trans (eR.eo y)) (yM),JE,r9.bK Uv U⟩ J
    exact⟨yF,J,eQ,U,_,_,_,_,S⟩
   grind
end
def P.keyOf(name:Bs)(n:Nat):Bs:=name++[47,UInt8.ofNat (48+n)]
theorem P.afi{a b:Bs}{m:Nat}(e:n<80)(hm:m<80):P.keyOf a n=P.keyOf b m↔a=b/\n=m:=by
 unfold P.keyOf;constructor
 .intro h;obtain⟨d,c⟩:=List.append_inj' h J;refine⟨d,?_⟩;injection c with _ c;injection c with c _;have:=congrArg UInt8.toNat c;grind [UInt8.toNat_ofNat']
 grind
def wrap32(n:Nat)(a:n<80):IntKind.i32.wrap (48+(n:Int))=((48+n:Nat):Int):=by
 grind [IntKind.wrap,IntKind.bits,IntKind.signed]
def ao8(name:Bs)(n:Nat)(b:name.length<=100)(a:n<80)(w:Z):Calls bbn 78 #[aT name,zi (n:Nat)] w fun e w'=>e = ah (aT (P.keyOf name n))/\w'=w:=by
 refine aK8 ?_;refine bG ?_;rw[M8 _ _ zg];refine bG ?_;rw[wrap32 n a,ajH zk zk zo,M8 _ _ zg];exact⟨by grind [P.keyOf,List.append_assoc],J⟩
def HU(base:List Cl)(name:Bs)(n:Nat):List Cl:=base.filter fun c=>c.name == name && c.args.length == n
def B0(w:Z)(mb:Nat)(base:List Cl):Prop:=∃ es c,w.heap[mb]?=O (.map es c)/\Nf es.toList/\∀ (name:Bs) (n:Nat),n<=4->match Bq (P.keyOf name n) es.toList 0 with
 | none=>HU base name n=[]
 | some (_,v)=>HU base name n≠[]/\∃ vs,fJ (fun _=>True) w 79 v vs/\kE (fun _=>True) w vs (HU base name n)
theorem B0.bK{w:Z}{base:List Cl}(h:B0 w mb base)(hk:eR w w')(hm:∀ es c,w.heap[mb]?=O (.map es c)->w'.heap[mb]?=O (.map es c)):B0 w' mb base:=by
 obtain⟨es,c,e,a,b⟩:=h;refine⟨es,c,yH,a,fun name n d=>?_⟩;have:=b name n d;split at this
 .omega
 .rename_i i v hx;obtain⟨g1,vs,g2,g3⟩:=this;exact⟨g1,vs,g2.jn hk (yM),g3.jn hk⟩
theorem B0.fr{w:Z}{base:List Cl}(h:B0 w mb base)(a:di D w w'):B0 w' mb base:=
 h.bK (di.toI a) fun es c hm=>a.block _ _ hm (by rintro ⟨_,cs',b,z,d,e⟩;grind)
def ao9{w:Z}{x:Operand}(a:Option Addr)(n c:Nat):RD bbn (bo .eql 68 x y (.slice a n c) bX) w K X=K (.bool a.isNone):=
 ij (by cases a<;>kernel_rfl)
section
variable{D:Nat->Prop}{ρ:Nat->Nat}{wb mb:Nat}{todo av vv tv:Y}{dw:List Y}{w w':Z}{k:Wk}
def kA.part(h:kA D ρ wb mb todo av vv tv dw w k){q:Except jQ (Bool×Sr)}{r:Except jQ (Bool×Wk)}(hr:P.Out.bind (O q) (fun p=>O (.ok (p.1,{ k with sr:=p.2 })))=O r){e:Ending}
  (a:EPost (Dm D av) w (xG (Dm D av) ρ k.n wb 1 130 (HH mb todo av vv)) q e w'):EPost D w (FY D ρ k.n wb mb vv) r e w':=by
 obtain⟨b,a⟩:=a;cases q with
 | error t=>
  cases hr;exact⟨b.up fun _ h=>h.1,a⟩
 | ok p=>
  cases hr;obtain⟨rfl,g,c⟩:=a;obtain⟨d,f⟩:=h.store c b;exact⟨f,J,ρ,eD.refl _ _,_,_,_,_,d⟩
def EPost.afj{r:Except jQ (Bool×Wk)}{e:Ending}(h:EPost D w (FY D ρ n wb mb vv) r e w') :
 ends (fun x w'=>EPost D w (FY D ρ n wb mb vv) r (ah x) w') (PC (EPost D w (FY D ρ n wb mb vv) r)) e w':=h.tail zg
def aLq(h:kA D ρ wb mb todo av vv tv dw w k)(hD:∀ b,w.heap.size<=b->D b){base:List Cl}(hB:B0 w mb base)(gZ:∀ c∈base,zx M c)(hM:M<=100000){name:Bs}{args:List Ex}
  (o:dP (fun _=>True) w o5 (.mk pb name args gI)) (hv:fJ (fun _=>True) w 89 o4 (mM ρ ft)) (QU:∀ i∈ft,i<k.n) (fg:fe ft.length M (.mk pb name args gI))
  (hz:k.sr.cW<=800000000) (yw:k.bz.length<900000000) {r:Except jQ (Bool×Wk)} (hr:Lb base f name args ft k=O r) :
  Calls bbn 227 #[pp wb,o5,o4] w (EPost D w (FY D ρ k.n wb mb vv) r):=by
 have KC:k.sr.tr.length+k.sr.fuel<=800000000:=hz;unfold dP at o;obtain⟨gb,gav,gpv,gus,gps,rfl,-,QV,Uw,B,-,-⟩:=o;unfold fe at fg;obtain⟨mU,-,-,Hf,FG,-,-,-⟩:=fg;have lgb:=bh QV;have hc:=h.cell;have lwb:=bh hc;refine aK3 ?_;have BA:gus.length=args.length:=eM.FV B;obtain⟨ga,gc,aLu⟩:=Uw.sl;subst aLu;refine cO QV ?_;refine a1a (aLb QU FG zo Uw B hv) ?_;rintro e w1 ⟨dE,u,us,rfl,nE,ld⟩;have C:=h.ext dE;have E:=dE.ext _ _ QV;have aWX:=bh E;have F:=C.cell;have aWY:=bh F;have s1:=dE.size;have uU:us.length=args.length:=by rw[ld.length,(K6 ft args FG).2]
 obtain⟨ua,uc,Ou⟩:=nE.sl;subst Ou;have aLm:(us.length:Int)=(args.length:Nat):=zo;refine cO E ?_;refine a1a (NL name) ?_;rintro e a ⟨rfl,rfl⟩;refine bG ?_;have dK:Ext a a.drew:=yF;have aLw:Ext w a.drew:=yF;unfold Lb at hr;by_cases ht:jW name=args.length
 .rw[zip ht] at hr;have BQ:jW name=(us.length:Int):=zo;refine dF BQ E ?_;cases hq:yk f name (km ft args) k.sr with
  | none=>rw[hq] at hr;cases hr
  | some q=>
  rw[hq] at hr;have H:=C.ext dK;refine a1a (aoM FX (r:=q) H.less (by grind [Ck,kA.dm]) (nE.mono zg yH) (ld.bK (rH.eo dK)) (by grind [K6]) (by grind [K6]) zo hq) ?_;rintro e w2 I;have I:=H.part hr I;exact EPost.afj (I.of yF)
 .rw[bI ht] at hr;have BQ:¬ jW name=(us.length:Int):=zo;refine dF BQ E ?_;have hdw:a.drew.heap=a.heap:=rfl;refine⟨fun w'=>w'.heap[wb]?=a.heap[wb]?/\w'.heap[gb]?=a.heap[gb]?,yH,?_⟩;rw[jI];refine cS (pp wb) (fun w' j=>eV) ?_;refine cS (.map (O mb)) (fun w' j=>by have p:=j.1;rw[F] at p;have:=bh p;exact fm p) ?_;rw[jI];refine cS (pq gb 1) (fun w' j=>eV) ?_;refine cS (aT name) (fun w' j=>by have p:=j.2;rw[E] at p;have:=bh p;exact fm p) ?_;refine bG ?_;refine a1a (ao8 name us.length zo zo _) ?_;rintro e w2 ⟨rfl,rfl⟩;refine⟨yH,?_⟩;rw[uU];have H:=C.ext dK;obtain⟨es,ec,b1,b2,x⟩:=hB.fr (D:=D) (di.eo aLw);have x:=x name args.length zo;have iV:(base.filter fun c=>c.name == name && c.args.length == args.length)=HU base name args.length:=rfl;rw[iV] at hr;have xB:∀ {K:Y->Prop} {X:Y->Z->Prop},RD bbn (Instr.lookup 125 (.map (O mb)) (.string (bs (P.keyOf name args.length))) G) a.drew K X=(match Bq (P.keyOf name args.length) es.toList 0 with
    | some (_,v)=>K v
    | none=>K (.slice V 0 0)):=fun{K X}=>by
   rw[ajM (k:=9) (e:=68) zk zk (z:=bX) zk b1 b2];rfl
  rw[xB];cases L:Bq (P.keyOf name args.length) es.toList 0 with
  | none=>
   rw[L] at x;rw[show HU base name args.length=[] from x] at hr;cases hr;refine⟨fun _ _=>False,?_,by rintro _ _ h;exact h.elim⟩;show RD _ _ _ _ _;rw[ao9];refine bG ?_;exact⟨yF,J⟩
  | some iv=>
   obtain⟨i,v⟩:=iv;rw[L] at x;obtain⟨ed,vs,De,jC⟩:=(x:HU base name args.length≠[]/\∃ vs,fJ (fun _=>True) a.drew 79 v vs/\kE (fun _=>True) a.drew vs (HU base name args.length));obtain⟨l,hl⟩:=cg (HU base name args.length);have hr:xr f (km ft args) l k.todo k.bz.length { k with bz:=k.bz++[⟨k.sr.tr.length,k.todo,l,km ft args⟩] }=O r:=by
    grind
   rw[<- hl] at jC ed;have N:vs≠[]:=by
    rintro rfl;cases l with
    | nil=>grind
    | cons c0 l0=>obtain⟨_,_,h0,-⟩:=jC;grind
   obtain⟨vb,vcs,rfl,-,zm,-,-⟩:=De.resolve_left zg;refine⟨fun _ w'=>w'=a.drew,?_,?_⟩
   .show RD _ _ _ _ _;rw[ao9];exact eV
   .rintro s w3 rfl d;clear d;have c1d:a.drew.heap[wb]?=_:=F;obtain⟨aa,ac,gx⟩:=il H.ar;obtain⟨tq,Q⟩:=H.td.ptr;refine dF @c1d gx ?_;refine⟨fun w'=>w'.heap[wb]?=a.heap[wb]?,J,?_⟩;refine toPr ?_;rw[jI];refine cS (pq wb 4) (fun w' j=>eV) ?_;refine cS av (fun w' j=>by rw[F] at j;have:=bh j;exact mn j gx) ?_;rw[jI];refine cS (pq wb 1) (fun w' j=>eV) ?_;rw[jI];refine cS (pq wb 3) (fun w' j=>eV) ?_;refine cS (.pointer tq) (fun w' j=>by rw[F] at j;have:=bh j;exact mn j Q) ?_;have ED:Ext a a.drew.drew:=yF;refine a1a (TY (C.ext ED).st FX) ?_;rintro e w4 ⟨rfl,rfl⟩;refine⟨J,?_⟩;refine bG ?_;obtain⟨l0,rp⟩:∃ l0:List Y,l0=[zi (k.sr.tr.length:Nat),.pointer tq,cV vb vs.length vcs.size,.slice ua args.length uc]:=⟨_,J⟩;obtain⟨y,oN⟩:=cg (a.drew.drew.alloc (ae l0.toArray 356 (0,0)));have Dg:Ext a y:=yF;have g5:y.heap[a.heap.size]?=aN l0.toArray 356:=yH;have s5:y.heap.size=a.heap.size+1:=yH;rw[rp] at oN;rw[<- oN];have R:=C.ext Dg;have q5:=R.cell;refine aoU (n:=k.bz.length) R.ar g5 zg (by rw[rp];intro u hu;simp only[List.mem_cons,List.not_mem_nil,or_false] at hu;rcases hu with rfl | rfl | rfl | rfl<;>rfl) zo zo ?_;intro v' w6 S qh BB;obtain⟨p6,d6,e6⟩:=il S;subst e6;obtain⟨w7,YJ⟩:=cg (bS w6 wb (ae #[.map (O mb),tv,zi (k.sr.fuel:Nat),todo,.slice p6 (k.bz.length+1) d6,vv] 130));have U:eR a.drew y:=fun b cs T hT o=>yH;have W:=De.jn U (yM);have aph:=jC.jn U;have t:=nE.mono (F':=fun _=>True) (fun _ _=>trivial) fun b cs _ o=>Dg.ext _ _ o;have api:=ld.bK (rH.eo Dg);rw[uU] at t;have lZ:qZ ρ k.n y (dw++l0) (k.bz++[⟨k.sr.tr.length,k.todo,l,km ft args⟩]):=by
     refine R.ag.snoc ⟨.pointer tq,_,_,vs,us,[],zg,?_,oM.of W N,aph,t,api,J⟩;rw[<- Q];exact R.td
    obtain⟨r1,r2,r3⟩:=R.LP (l:=k.bz++[⟨k.sr.tr.length,k.todo,l,km ft args⟩]) (by rw[List.length_append,List.length_singleton];exact S) qh (BB.imp id fun hx g hg=>⟨hD g (by have:=hx g hg;omega),hx g hg⟩) lZ YJ;refine⟨yH,?_⟩;have c6:=r3.trans q5;have l6:=bh c6;refine cO @c6 ?_;rw[<- YJ];have apj:di D w w7:=(di.eo (dE.trans Dg)).trans r2;have YK:eR y w7:=di.toI r2;have zy:=K6 ft args FG;refine a1a (ao1 (k:={ k with bz:=k.bz++[⟨k.sr.tr.length,k.todo,l,km ft args⟩] }) (M:=M) (f:=f) (m:=k.bz.length) (l:=l) (args:=km ft args) (td:=k.todo) (r:=r) r1 (fun b o=>hD b (a1d apj.size o))
     (oM.of (W.jn YK (yM)) N) (aph.jn YK) (t.jn YK (yM)) (qp.QL YK (eD.refl _ _) api) zy.1 (fun c hc=>?_) hM r1.td zs zg hz zg hr) ?_
    .grind
    .rintro e w8 I;exact EPost.afj (I.of apj)
end
def gF.Dh{F:Nat->Prop}{w:Z}:∀ {l:List Bd} {us:List Y} (j:Nat) (a:j<l.length),gF F w us l->∃ u,us[j]?=O u/\dP F w u l[j]
 | x::l,us,0,_,h=>by
  unfold gF at h;grind
 | x::l,us,j+1,a,h=>by
  unfold gF at h;obtain⟨v,r,rfl,c,b⟩:=h;simpa using gF.Dh j zg b
def gF.HW{F:Nat->Prop}{w:Z}:∀ {l:List Bd} {us:List Y},gF F w us l->us.length=l.length
 | [],us,h=>by unfold gF at h;subst h;rfl
 | x::l,us,h=>by
  unfold gF at h;obtain⟨v,r,rfl,b,a⟩:=h;simp [gF.HW a]
section
variable{D:Nat->Prop}{ρ:Nat->Nat}{wb mb:Nat}{todo av vv tv:Y}{dw:List Y}{w w':Z}{k:Wk}
def partAt{us:List Y}{tv:Y}(c:fJ (fun _=>True) w 84 tv us)(hx:gF (fun _=>True) w us gI)(d:j<gI.length) :
  ∃ pb a xb,tv = cV pb gI.length a.size/\w.heap[pb]?=aN a 84/\a[j]?=O (pp xb)/\dP (fun _=>True) w (pp xb) gI[j]:=by
 have f:=hx.HW;obtain⟨b,cs,g,-,h,i⟩:=c.at' (j:=j) zo;obtain⟨u,k,e⟩:=hx.Dh j d;obtain⟨xb,rfl,-⟩:=e.shape;exact yH
def S3(a pb b:Nat)(w3 w':Z):Prop:=w'.heap[a]?=w3.heap[a]?/\w'.heap[pb]?=w3.heap[pb]?/\w'.heap[b]?=w3.heap[b]?
theorem S3.of{w':Z}(h:Ext w3 w'){b p g:Obj}(a:w3.heap[cap]?=O b)(c:w3.heap[pb]?=O p)(d:w3.heap[k']?=O g):S3 cap pb k' w3 w':=
 ⟨by rw[a];exact h.ext _ _ a,by rw[c];exact h.ext _ _ c,by rw[d];exact h.ext _ _ d⟩
def QW{tv vv av:Y}(d:w3.heap[cap]?=aN #[tv,vv,av,cV pb n so] 149)
  (c:w3.heap[pb]?=aN iL 84) (f:i<n) (hx:iL[i]?=O (pp xb)) (hv:v=zi (i:Nat)) (hk:K (pp xb)) :
  NC (pp cap) fun x=>vi bbn (a1Y 149 x 3) (S3 cap pb k' w3) fun x=>vi bbn (a1p 147 x) (S3 cap pb k' w3) fun x=>vi bbn (Instr.indexAt 147 x v) (S3 cap pb k' w3) fun x=>
   vi bbn (a1p 84 x) (S3 cap pb k' w3) K:=by
 have e:(i:Int).toNat=i:=zo;have g:(i:Int)<(n:Nat):=zo;rw[jI];refine cS (pq cap 3) (fun w' b=>eV) ?_;refine cS (cV pb n so) (fun w' b=>by have a:=b.1;rw[d] at a;have:=bh a;exact fm a) ?_;refine cS (pq pb i) (fun w' b=>by have a:=b.2.1;rw[c] at a;have:=bh a;rw[hv];exact mn a @e) ?_;refine cS (pp xb) (fun w' b=>by have a:=b.2.1;rw[c] at a;have:=bh a;exact mn a hx) ?_;omega
def QY{tv vv av:Y}{a:Option Addr}(e:w3.heap[k']?=aN #[tv,.slice a n c,vv,av] 207)(hk:K (.slice a n c)) :
  NC (pp k') fun x=>vi bbn (a1Y 207 x 1) (S3 cap pb k' w3) fun x=>vi bbn (a1p 82 x) (S3 cap pb k' w3) K:=by
 rw[jI];refine cS (pq k' 1) (fun w' d=>eV) ?_;refine cS (.slice a n c) (fun w' d=>by have b:=d.2.2;rw[e] at b;have:=bh b;exact fm b) ?_;omega
def YL{tv vv av:Y}{z:Int}(c:w3.heap[k']?=aN #[tv,vv,zi z,av] 207)(hk:K (zi z)) :
  NC (pp k') fun x=>vi bbn (a1Y 207 x 2) (S3 cap pb k' w3) fun x=>vi bbn (a1p 3 x) (S3 cap pb k' w3) K:=by
 rw[jI];refine cS (pq k' 2) (fun w' b=>eV) ?_;refine cS (zi z) (fun w' b=>by have a:=b.2.2;rw[c] at a;have:=bh a;exact fm a) ?_;omega
def aLy(h:kA D ρ wb mb todo av vv tv dw w k)(hD:∀ b,w.heap.size<=b->D b){base:List Cl}(hB:B0 w mb base)(gZ:∀ c∈base,zx M c)(hM:M<=100000)
 {g:P.Goal} (hgq:w.heap[cap]?=aN #[o4,iv,zi (g.cut:Nat),o5] 207) (I0:QK w o4 g.FD) (C:fJ (fun _=>True) w 89 iv (mM ρ g.vars)) (N:∀ i∈g.vars,i<k.n)
  (hcut:g.cut<=k.bz.length) (fg:∀ b,g.FD=O b->fe g.vars.length M b) (hz:k.sr.cW<=800000000) (yw:k.bz.length<900000000) {r:Except jQ (Bool×Wk)} (hr:Ei base f g k=O r) :
  Calls bbn 225 #[pp wb,pp cap] w (EPost D w (FY D ρ k.n wb mb vv) r):=by
 have KC:k.sr.tr.length+k.sr.fuel<=800000000:=hz;unfold Ei at hr;refine aK4 ?_;refine bG ?_;refine a1a (Of h.less FX zo) ?_;rintro e w1 ⟨I,dI⟩;by_cases h0:k.sr.fuel=0
 .rw[zip h0] at hr dI;injection hr with hr;subst hr dI;exact⟨I.up fun _ h=>h.1,J⟩
 rw[bI h0] at hr dI;obtain⟨rfl,dI⟩:=dI;obtain⟨o,I⟩:=h.store dI I;have K:eR w w1:=di.toI I;have s1:=I.size;have x:=K _ _ _ (yM) hgq;have lq1:=bh x;have W:=o.cell;have lw1:=bh W;have dK:Ext w1 w1.drew:=yF;obtain⟨aa,ac,gx⟩:=il o.ar;obtain⟨QB,jd⟩:=QP (by rw[gx] at o;exact o.ar:w1.ownsRow 0 356 4 (.slice aa k.bz.length ac) k.bz.length dw);have qQ:(g.cut:Int)<=(ac:Nat):=zo;have hD1:∀ b,w1.heap.size<=b->D b:=yH;have apm:∀ {w2:Z},w2=bS w1.drew wb (ae #[.map (O mb),tv,zi (k.sr.dec.fuel:Nat),todo,.slice aa g.cut ac,vv] 130) ->
   EPost D w (FY D ρ k.n wb mb vv) (.ok (A,{ k with sr:=k.sr.dec,bz:=k.bz.take g.cut })) (ah (.bool A)) w2:=fun{w2} jx=>by
  obtain⟨Q,r2⟩:=(o.ext dK).forget hcut gx jx;exact⟨yF,J,ρ,eD.refl _ _,_,_,_,_,Q⟩
 cases D3:g.FD with
 | none=>
  rw[D3] at hr I0;have hwv:o4 = .pointer none:=I0;subst hwv;cases hr;refine dM x @W gx jd ?_;exact apm J
 | some b=>
  rw[D3] at hr I0;obtain⟨kind,name,args,parts⟩:=b;have fg:=fg _ D3;have I0:dP (fun _=>True) w o4 (.mk kind name args parts):=I0;have apn:=I0.jn K;have sk:=apn;unfold dP at sk;obtain⟨bb,bav,bpv,bus,YM,rfl,-,y,hba,jL,F,H⟩:=sk;have lbb:=bh y;have apo:=fg;unfold fe at apo;obtain⟨mU,nT,⟨Qa,Qb,Qc⟩,Hf,FG,jh,kg,zy⟩:=apo;dsimp only at hr;refine dM x @W gx y ?_;have kk:∀ c:Nat,c<256->((kind:Int)=(c:Nat)↔kind=c):=zg;by_cases k33:kind=33
  .subst k33;rw[zip rfl] at hr;cases hr;refine dM x @W gx jd ?_;exact apm J
  rw[bI k33] at hr;have aLC:¬ ((kind:Int)=33):=zo;refine cO @aLC ?_;by_cases k44:kind=44
  .subst k44;rw[zip rfl] at hr;cases hr;have CG:YM.length=parts.length:=H.HW;obtain⟨pa,pc,X⟩:=F.sl;subst X;refine dF y CG ?_;refine⟨fun n s w3=>∃ (j:Nat) (tdv:Y),s 7=zi ((j:Int)-1)/\j<=parts.length/\n=j/\kA D ρ wb mb tdv av vv tv dw w3 { k with sr:=k.sr.dec,todo:=((parts.drop j).map fun p=>⟨O p,g.vars,g.cut⟩)++k.todo }/\di D w1 w3,
    ⟨_,parts.length,todo,J,Nat.le_refl _,J,by simpa using o,bB.refl _ _⟩,?_⟩
   intro j s d w3 hI;refine toPr ?_;obtain⟨j',tdv,h7,hj,rfl,t,eK⟩:=hI;clear d;have LR:eR w1 w3:=di.toI eK;have c3:=t.cell;have lw3:=bh c3;obtain⟨z,rfl⟩:=t.td.ptr;by_cases hj0:j=0
   .subst hj0;refine cO h7 ?_;rw[List.drop_zero] at t;exact⟨yF,J,ρ,eD.refl _ _,_,_,_,_,t⟩
   .obtain⟨i,rfl⟩:∃ i,j=i+1:=⟨j-1,zo⟩;have hi:i<parts.length:=zo;have e7:((i+1:Nat):Int)-1=(i:Nat):=zo;rw[e7] at h7;obtain⟨pb,Di,xb,p1,p2,p3,p4⟩:=partAt F H hi;injection p1 with p1 _ L;subst p1 L;rw[CG] at y;have R:=LR _ _ _ (yM) p2;have S:=LR _ _ _ (yM) y;have q3:=LR _ _ _ (yM) x;have ei:((i:Nat):Int).toNat=i:=zo;obtain⟨q,gc,Ow⟩:=C.sl;subst Ow;refine cO h7 ?_;refine⟨S3 bb pb cap w3,⟨J,J,J⟩,?_⟩;refine QW S R hi p3 h7 ?_;refine QY q3 ?_;refine YL q3 ?_;have mr:((i:Nat):Int)<=100000:=zo;refine dF @c3 h7 ?_;obtain⟨m,oN⟩:=cg (w3.drew.alloc (ae #[pp xb,.slice q (mM ρ g.vars).length gc,zi (g.cut:Nat),.pointer z] 207));have B1:Ext w3 m:=yF;have g5:m.heap[w3.heap.size]?=aN #[pp xb,.slice q (mM ρ g.vars).length gc,zi (g.cut:Nat),.pointer z] 207:=yH;rw[<- oN];have Uv:eR w1 m:=LR.trans (eR.eo B1);obtain⟨Q,r2⟩:=(t.ext B1).LO (todo':=pp w3.heap.size) (l:=⟨O parts[i],g.vars,g.cut⟩::(((parts.drop (i+1)).map fun p=>⟨O p,g.vars,g.cut⟩)++k.todo))
     ⟨_,_,_,_,J,g5,dP.jn Uv p4,C.jn (K.trans Uv) (yM),N,t.td.bK (eR.eo B1) (eD.refl _ _)⟩ J
    refine⟨(by grind [S3.of]),i,zo,i,pp w3.heap.size,zs,zo,J,?_,yF⟩;grind [a1h]
  rw[bI k44] at hr;have aLE:¬ ((kind:Int)=44):=zo;refine cO @aLE ?_;by_cases Qa:kind=59
  .subst Qa;obtain⟨pa,pc,X⟩:=F.sl;have CG:YM.length=parts.length:=H.HW;have h2:=Qa J;subst X
   match parts,h2 with
   | [pA,pB],_=>
   obtain⟨pb,Di,T,p1,p2,p3,p4⟩:=partAt F H (j:=0) zs;obtain⟨YN,YO,xb,L,LW,p3',Uz⟩:=partAt F H (j:=1) zs;rw[p1] at L;simp only[a1r,a07,Addr.mk.injEq,and_true,true_and] at L;obtain⟨rfl,-⟩:=L;rw[p2] at LW;simp only[a07,Obj.cells.injEq,and_true] at LW;subst LW;rw[p1] at y;simp only[a22,a3z] at p4 Uz;obtain⟨q,gc,Ow⟩:=C.sl;subst Ow;obtain⟨z,rfl⟩:=o.td.ptr;refine bG ?_;refine⟨S3 bb pb cap w1,⟨J,J,J⟩,?_⟩;refine QW y p2 (i:=1) zs p3' J ?_;refine QY x ?_;refine YL x ?_;refine cO @W ?_;obtain⟨w2,jx⟩:=cg (w1.drew.alloc (ae #[pp xb,.slice q (mM ρ g.vars).length gc,zi (g.cut:Nat),.pointer z] 207));have su:Ext w1 w2:=yF;have g2:w2.heap[w1.heap.size]?=aN #[pp xb,.slice q (mM ρ g.vars).length gc,zi (g.cut:Nat),.pointer z] 207:=yH;rw[<- jx];have Ox:eR w1 w2:=eR.eo su;refine⟨(by grind [S3.of]),?_⟩;have BA:uS ρ k.n w2 (pp w1.heap.size) (⟨O pB,g.vars,g.cut⟩::k.todo):=
    ⟨_,_,_,_,J,g2,dP.jn Ox Uz,C.jn (K.trans Ox) (yM),N,o.td.bK Ox (eD.refl _ _)⟩
   refine a1a (afd (o.ext su) yH BA zg) ?_;rintro e w3 ⟨rfl,UA,sw,apt,t⟩;have oO:di D w1 w3:=(di.eo su).trans UA;have u:eR w1 w3:=di.toI oO;have S:=u _ _ _ (yM) y;have R:=u _ _ _ (yM) p2;have q3:=u _ _ _ (yM) x;have c3:=t.cell;have lw3:=bh c3;refine⟨S3 bb pb cap w3,⟨J,J,J⟩,?_⟩;refine QW S R (i:=0) zs p3 J ?_;refine QY q3 ?_;refine YL q3 ?_;refine cO @c3 ?_;obtain⟨a,jB⟩:=cg (w3.drew.alloc (ae #[pp T,.slice q (mM ρ g.vars).length gc,zi (g.cut:Nat),.pointer z] 207));have E:Ext w3 a:=yF;have g4:a.heap[w3.heap.size]?=aN #[pp T,.slice q (mM ρ g.vars).length gc,zi (g.cut:Nat),.pointer z] 207:=yH;rw[<- jB];have hK4:eR w1 a:=u.trans (eR.eo E);refine⟨(by grind [S3.of]),?_⟩;obtain⟨Q,r2⟩:=(t.ext E).LO (todo':=pp w3.heap.size) (l:=⟨O pA,g.vars,g.cut⟩::k.todo)
    ⟨_,_,_,_,J,g4,dP.jn hK4 p4,C.jn (K.trans hK4) (yM),N,o.td.bK hK4 (eD.refl _ _)⟩ J
   cases hr;exact⟨I.trans yF,J,ρ,eD.refl _ _,_,_,_,_,Q⟩
  rw[bI Qa] at hr;have aLF:¬ ((kind:Int)=59):=zo;refine cO @aLF ?_;by_cases Qb:kind=63
  .subst Qb;obtain⟨pa,pc,X⟩:=F.sl;have CG:YM.length=parts.length:=H.HW;have h2:=Qb J;subst X
   match parts,h2 with
   | [pA,pB,pC],_=>
   obtain⟨pb,Di,T,p1,p2,p3,p4⟩:=partAt F H (j:=0) zs;obtain⟨YN,YO,xb,L,LW,p3',Uz⟩:=partAt F H (j:=1) zs;obtain⟨aW6,aW7,xc,q1',Oz,H5,UB⟩:=partAt F H (j:=2) zs;rw[p1] at L q1';simp only[a1r,a07,Addr.mk.injEq,and_true,true_and] at L q1';obtain⟨rfl,-⟩:=L;obtain⟨rfl,-⟩:=q1';rw[p2] at LW Oz;simp only[a07,Obj.cells.injEq,and_true] at LW Oz;subst LW Oz;rw[p1] at y;simp only[a22,a3z] at p4 Uz UB;obtain⟨q,gc,Ow⟩:=C.sl;subst Ow;obtain⟨z,rfl⟩:=o.td.ptr;refine bG ?_;refine⟨S3 bb pb cap w1,⟨J,J,J⟩,?_⟩;refine QW y p2 (i:=2) zs H5 J ?_;refine QY x ?_;refine YL x ?_;refine cO @W ?_;obtain⟨w2,jx⟩:=cg (w1.drew.alloc (ae #[pp xc,.slice q (mM ρ g.vars).length gc,zi (g.cut:Nat),.pointer z] 207));have su:Ext w1 w2:=yF;have g2:w2.heap[w1.heap.size]?=aN #[pp xc,.slice q (mM ρ g.vars).length gc,zi (g.cut:Nat),.pointer z] 207:=yH;rw[<- jx];have Ox:eR w1 w2:=eR.eo su;refine⟨(by grind [S3.of]),?_⟩;have BA:uS ρ k.n w2 (pp w1.heap.size) (⟨O pC,g.vars,g.cut⟩::k.todo):=
    ⟨_,_,_,_,J,g2,dP.jn Ox UB,C.jn (K.trans Ox) (yM),N,o.td.bK Ox (eD.refl _ _)⟩
   refine a1a (afd (o.ext su) yH BA zg) ?_;rintro e w3 ⟨rfl,UA,sw,apt,t⟩;have oO:di D w1 w3:=(di.eo su).trans UA;have u:eR w1 w3:=di.toI oO;have S:=u _ _ _ (yM) y;have R:=u _ _ _ (yM) p2;have q3:=u _ _ _ (yM) x;have c3:=t.cell;refine dM @c3 @S @R (zA @p3' @q3) ?_;obtain⟨a,jB⟩:=cg (w3.drew.alloc (ae (Value.agg #[pp xb,.slice q (mM ρ g.vars).length gc,zi (g.cut:Nat),.pointer z]).cells 207 (0,0)));have E:Ext w3 a:=yF;have g4:a.heap[w3.heap.size]?=aN #[pp xb,.slice q (mM ρ g.vars).length gc,zi (g.cut:Nat),.pointer z] 207:=by rw[jB];exact rR (yH)
   rw[<- jB];have bb4:=E.ext _ _ S;have p24:=E.ext _ _ R;have q4:=E.ext _ _ q3;have c4:=E.ext _ _ c3;have lw4:=bh c4;refine⟨S3 bb pb cap a,⟨J,J,J⟩,?_⟩;refine QW bb4 p24 (i:=0) zs p3 J ?_;refine QY q4 ?_;refine cO @c4 ?_;obtain⟨m,oN⟩:=cg (a.drew.alloc (ae #[aq V,bX,zi (k.bz.length:Nat),pp w3.heap.size] 207));have rJ:Ext a m:=yF;have s5:m.heap.size=a.heap.size+1:=yH;have g5:m.heap[a.heap.size]?=aN #[aq V,bX,zi (k.bz.length:Nat),pp w3.heap.size] 207:=yH;rw[<- oN];obtain⟨B,pQ⟩:=cg (m.alloc (ae #[pp T,.slice q (mM ρ g.vars).length gc,zi (k.bz.length:Nat),pp a.heap.size] 207));have Uu:Ext m B:=yF;have g6:B.heap[m.heap.size]?=aN #[pp T,.slice q (mM ρ g.vars).length gc,zi (k.bz.length:Nat),pp a.heap.size] 207:=yH;rw[<- pQ];have EH:Ext w3 B:=yF;have U:eR w1 B:=u.trans (eR.eo EH);refine⟨(by grind [S3.of]),(by grind [S3.of,bB.trans]),?_⟩;have gl:uS ρ k.n B (pp m.heap.size) (⟨O pA,g.vars,k.bz.length⟩::⟨V,[],k.bz.length⟩::⟨O pB,g.vars,g.cut⟩::k.todo):=
    ⟨_,_,_,_,J,g6,dP.jn U p4,C.jn (K.trans U) (yM),N,_,_,_,_,J,Uu.ext _ _ g5,J,.inl ⟨J,J⟩,(fun _ h=>by cases h),
     _,_,_,_,J,(rJ.trans Uu).ext _ _ g4,dP.jn U Uz,C.jn (K.trans U) (yM),N,o.td.bK U (eD.refl _ _)⟩
   rw[s5] at gl;obtain⟨Q,r2⟩:=(t.ext EH).LO gl J;cases hr;exact⟨I.trans (oO.trans yF),J,ρ,eD.refl _ _,_,_,_,_,Q⟩
  rw[bI Qb] at hr;have aLH:¬ ((kind:Int)=63):=zo;refine cO @aLH ?_;by_cases Qc:kind=126
  .subst Qc;obtain⟨pa,pc,X⟩:=F.sl;have CG:YM.length=parts.length:=H.HW;have h2:=Qc J;subst X
   match parts,h2 with
   | [pA],_=>
   obtain⟨pb,Di,T,p1,p2,p3,p4⟩:=partAt F H (j:=0) zs;rw[p1] at y;simp only[a22] at p4;obtain⟨q,gc,Ow⟩:=C.sl;subst Ow;obtain⟨z,rfl⟩:=o.td.ptr;refine cO @W ?_;refine a1a (afd o hD1 o.td zg) ?_;rintro e w3 ⟨rfl,oO,sw,apt,t⟩;have u:eR w1 w3:=di.toI oO;have S:=u _ _ _ (yM) y;have R:=u _ _ _ (yM) p2;have q3:=u _ _ _ (yM) x;have c3:=t.cell;refine bG ?_;obtain⟨wf,Dj⟩:=cg (w3.alloc (ae #[.int .u8 103,aT [102,97,105,108],bX,bX] 149 (0,0)));have aW8:Ext w3 wf:=yF;have sf:wf.heap.size=w3.heap.size+1:=yH;have gf:wf.heap[w3.heap.size]?=aN #[.int .u8 103,aT [102,97,105,108],bX,bX] 149:=yH;rw[<- Dj];obtain⟨a,jB⟩:=cg (wf.alloc (ae (Value.agg #[pp w3.heap.size,bX,zi 0,aq V]).cells 207 (0,0)));have g4:a.heap[wf.heap.size]?=aN #[pp w3.heap.size,bX,zi 0,aq V] 207:=by rw[jB];exact rR J
   rw[<- jB];have E:Ext w3 a:=yF;have bb4:=E.ext _ _ S;have p24:=E.ext _ _ R;have q4:=E.ext _ _ q3;have c4:=E.ext _ _ c3;have lw4:=bh c4;refine⟨S3 bb pb cap a,⟨J,J,J⟩,?_⟩;refine QW bb4 p24 (i:=0) zs p3 J ?_;refine QY q4 ?_;refine cO @c4 ?_;obtain⟨m,oN⟩:=cg (a.drew.alloc (ae #[aq V,bX,zi (k.bz.length:Nat),pp wf.heap.size] 207));have rJ:Ext a m:=yF;have s5:m.heap.size=a.heap.size+1:=yH;have g5:m.heap[a.heap.size]?=aN #[aq V,bX,zi (k.bz.length:Nat),pp wf.heap.size] 207:=yH;rw[<- oN];obtain⟨B,pQ⟩:=cg (m.alloc (ae #[pp T,.slice q (mM ρ g.vars).length gc,zi (k.bz.length:Nat),pp a.heap.size] 207));have Uu:Ext m B:=yF;have g6:B.heap[m.heap.size]?=aN #[pp T,.slice q (mM ρ g.vars).length gc,zi (k.bz.length:Nat),pp a.heap.size] 207:=yH;rw[<- pQ];have rK:Ext a B:=yF;have EH:Ext w3 B:=yF;have U:eR w1 B:=u.trans (eR.eo EH);refine⟨(by grind [S3.of]),(by grind [S3.of]),?_⟩;have YP:dP (fun _=>True) B (pp w3.heap.size) An:=by
    unfold An dP;exact⟨_,_,_,[],[],J,trivial,yH,.inl ⟨J,J⟩,by unfold eM;rfl,.inl ⟨J,J⟩,by unfold gF;rfl⟩
   have gl:uS ρ k.n B (pp m.heap.size) [⟨O pA,g.vars,k.bz.length⟩,⟨V,[],k.bz.length⟩,⟨O An,[],0⟩]:=
    ⟨_,_,_,_,J,g6,dP.jn U p4,C.jn (K.trans U) (yM),N,_,_,_,_,J,Uu.ext _ _ g5,J,.inl ⟨J,J⟩,(fun _ h=>by cases h),
     _,_,_,_,J,rK.ext _ _ g4,YP,.inl ⟨J,J⟩,(fun _ h=>by cases h),J⟩
   rw[s5] at gl;obtain⟨Q,r2⟩:=(t.ext EH).LO gl J;cases hr;exact⟨I.trans (oO.trans yF),J,ρ,eD.refl _ _,_,_,_,_,Q⟩
  rw[bI Qc] at hr;have aLI:¬ ((kind:Int)=126):=zo;refine dF @aLI x ?_;refine a1a (aLq o hD1 (hB.fr I) gZ hM apn (C.jn K (yM)) N fg (by grind [Sr.cW,Sr.dec]) yw hr) ?_;rintro e w2 hp;exact EPost.afj (hp.of I)
end
section
variable{D:Nat->Prop}{ρ:Nat->Nat}{wb mb:Nat}{todo av vv tv:Y}{dw:List Y}{w w':Z}{k:Wk}
def kA.place(h:kA D ρ wb mb todo av vv tv dw w k){m:Nat}(hm:m<k.bz.length):∃ g ac cur a cv b fZ us,av = cV g k.bz.length ac/\k.bz.length<=ac/\w.heap[g]?=aN cur 356/\cur.size=ac*4 /\
  cur[m*4]?=O (zi ((k.bz[m]).mark:Nat))/\cur[m*4+1]?=O a/\cur[m*4+2]?=O cv/\cur[m*4+3]?=O b /\
  uS ρ k.n w a (k.bz[m]).todo/\oM w 79 cv fZ/\kE (fun _=>True) w fZ (k.bz[m]).clauses/\fJ (fun _=>True) w 89 b us/\qp ρ k.n w us (k.bz[m]).args:=by
 obtain⟨a,cv,b,fZ,us,o,g2,g3,g4,g5,g6⟩:=h.ag.at m hm;rcases h.ar.2 with⟨-,c⟩| ⟨g,cap,cur,d,c,e,f,p,i,q⟩
 .exact yH
 .have l:∀ j,j<4->cur[m*4+j]?=[Value.int .i64 ((k.bz[m]).mark:Nat),a,cv,b][j]?:=zg;exact⟨g,cap,cur,a,cv,b,fZ,us,d,f,e,i,l 0 zo,zg,zg,zg,g2,g3,g4,g5,g6⟩
end
section
variable{D:Nat->Prop}{ρ:Nat->Nat}{wb mb:Nat}{vv:Y}{w w':Z}{k:Wk}
def aLJ(h:QM D ρ wb mb vv w k)(hD:∀ b,w.heap.size<=b->D b){base:List Cl}(hB:B0 w mb base)(gZ:∀ c∈base,zx M c)(hM:M<=100000)(L:B<=800000000)
  (hg:me M B k) {r:Except jQ (Bool×Wk)} (hr:kY base d f A k=O r) :
  Calls bbn 223 #[pp wb] w (EPost D w (FY D ρ k.n wb mb vv) r):=by
 refine aK5 ?_;refine⟨fun n s w1=>∃ (ok:Bool) (F:Nat->Nat) (j:Wk),s 3 = .bool ok/\eD ρ k.n F j.n/\QM D F wb mb vv w1 j/\di D w w1/\me M B { j with todo:=if ok then j.todo else [] }/\kY base d n ok j=O r,
  ⟨f,A,ρ,k,J,eD.refl _ _,h,yF,hg,hr⟩,?_⟩
 intro n s dd w1 hI;clear dd;obtain⟨ok,F,j,h3,uW,JH,dE,I,u⟩:=hI;cases n with
 | zero=>simp [kY] at u
 | succ n=>
 have s1:=dE.size;have IV:∀ {q:Except jQ (Bool×Wk)} {z:Nat->Nat} {n2:Nat} {w2:Z} {e:Ending} {w3:Z} {r0:P.Out (Bool×Wk)},eD ρ k.n z n2->di D w w2->EPost D w2 (FY D z n2 wb mb vv) q e w3->r0=O q ->
   P.Out.bind r0 (fun p=>kY base d n p.1 p.2)=O r->(∀ p,q = .ok p->me M B { p.2 with todo:=if p.1 then p.2.todo else [] }) ->
   ends (fun x w'=>∃ m,m<n+1/\∃ (ok:Bool) (F:Nat->Nat) (j:Wk),(jv [(3,x)]) 3 = .bool ok/\eD ρ k.n F j.n/\QM D F wb mb vv w' j/\di D w w'/\me M B { j with todo:=if ok then j.todo else [] }/\kY base d m ok j=O r)
    (PC (EPost D w (FY D ρ k.n wb mb vv) r)) e w3:=by
  intro q z n2 w2 e w3 r0 hu hE t hq0 y apu;rw[hq0] at y;obtain⟨S,t⟩:=t;cases q with
  | error te=>
   cases y;have t:e=ig te:=t;subst t;cases te<;>exact⟨yF,J⟩
  | ok p=>
   obtain⟨rfl,ρ3,Ol,QZ⟩:=t;exact⟨n,Nat.lt_succ_self _,p.1,ρ3,p.2,J,hu.trans Ol,QZ,yF,zg,y⟩
 obtain⟨todo,av,tv,dw,K⟩:=JH;have c1:=K.cell;have CU:j.sr.tr.length+j.sr.fuel<=800000000:=a1d I.cW L;have N4:j.bz.length+j.sr.fuel<=800000000:=a1d I.nL L;refine⟨fun _ w2=>∃ (z:Nat->Nat) (l:Wk),eD ρ k.n z l.n/\QM D z wb mb vv w2 l/\di D w w2/\me M B l/\∃ m,m<n+1/\(kY base d (m+1) A l=O r),?_,?_⟩
 .cases ok with
  | true=>
   refine cO h3 ?_;exact⟨F,j,uW,⟨_,_,_,_,K⟩,dE,I,n,Nat.lt_succ_self _,u⟩
  | false=>
   simp only[Bool.false_eq_true,if_false] at I;obtain⟨aa,ac,N⟩:=il K.ar;refine jk h3 @c1 N ?_;rw[kY] at u;by_cases hle:j.bz.length=0
   .have hlt:(j.bz.length:Int)-1<0:=zo;rw[List.eq_nil_of_length_eq_zero hle] at u;cases u;refine cO hlt ?_;exact⟨dE,J,F,uW,_,_,_,_,K⟩
   have hlt:¬ (j.bz.length:Int)-1<0:=zo;obtain⟨m,hm⟩:∃ m,j.bz.length=m+1:=⟨j.bz.length-1,zo⟩;have xt:m<j.bz.length:=zo;have Q0:j.bz.getLast?=O j.bz[m]:=zg;rw[Q0] at u;obtain⟨g,ac',cur,tp,cv,xJ,fZ,us,e1,e2,x7,jh,q0,q1,q2,q3,i1,i2,i3,i4,i5⟩:=K.place xt;rw[N] at e1;simp only[a1r,true_and] at e1;obtain⟨rfl,rfl⟩:=e1;have lg:=bh x7;have afq:(j.bz.length:Int)-1=(m:Nat):=zo;have OB:((m:Nat):Int).toNat=m:=zo;rw[afq] at hlt ⊢;obtain⟨u1,u2,u3,u4⟩:=I.iS Q0;have dK:Ext w1 w1.drew:=yF;have hm4:m*4<ac*4:=zo;have hmi:((m:Nat):Int)<(j.bz.length:Nat):=zo;refine dM hlt @c1 N (zA @OB (zA x7 @q0)) ?_;refine a1a (aeG (K.ext dK).less FX u3 zo) ?_;rintro e w2 ⟨rfl,T,yr,mG⟩;obtain⟨C,Ud⟩:=(K.ext dK).store mG T;have su:di D w1 w2:=(di.eo dK).trans Ud;have U:eR w1 w2:=di.toI su;have H:w2.heap[g]?=aN cur 356:=T.block _ _ x7 (by rintro ⟨⟨-,W⟩,-⟩;rw[N] at W;exact W J);have lg2:=bh H;have c2:=C.cell;have l2:=bh c2;have s2:=su.size;obtain⟨tq,rfl⟩:=i1.ptr;obtain⟨aa',aXc,X⟩:=i4.sl;obtain⟨YD,cvn,Ur,jo⟩:∃ a n c,cv = .slice a n c:=by
    rcases i2 with⟨-,rfl⟩| ⟨b,o,cap,cs,rfl,-⟩<;>exact zg
   have Oz:=q2;have H5:=q3;rw[jo] at Oz;rw[X] at H5;refine dF H @Oz ?_;have lZ:=u1.ag _ _ u2;by_cases yf:(j.bz[m]).clauses=[]
   .have:fZ=[]:=by rw[yf] at i3;exact i3
    subst this;have UC:cv = bX:=by
     rcases i2 with⟨-,h⟩| ⟨b,o,cap,cs,-,-,-,-,h⟩<;>grind
    rw[jo] at UC;cases UC;simp only[yf] at u;have Uq:((m:Nat):Int)<=(ac:Nat):=zo;obtain⟨QB,jd⟩:=QP (by have:=C.ar;grind:w2.ownsRow 0 356 4 (cV g j.bz.length ac) j.bz.length dw);refine dM H @q1 @c2 (zA N jd) ?_;obtain⟨w3,th⟩:=cg (bS w2 wb (ae #[.map (O mb),yr,zi (j.sr.fuel:Nat),.pointer tq,cV g j.bz.length ac,vv] 130));obtain⟨CH,S⟩:=C.LO (w1:=w3) (i1.bK U (eD.refl _ _)) zg;obtain⟨Q,jB⟩:=cg (bS w2 wb (ae #[.map (O mb),yr,zi (j.sr.fuel:Nat),.pointer tq,cV g m ac,vv] 130));obtain⟨hx4,gJ⟩:=CH.forget (m:=m) (w1:=Q) (Nat.le_of_lt xt) N (by grind [Sw]);have hfu:(j.sr.iS (j.bz[m]).mark).fuel=j.sr.fuel:=rfl;rw[hfu,<- jB];have apy:=I.back Q0;have M1:j.bz.dropLast=j.bz.take m:=by grind [List.dropLast_eq_take,Nat.add_sub_cancel]
    rw[M1] at apy u;refine⟨F,{ j with sr:=j.sr.iS (j.bz[m]).mark,todo:=(j.bz[m]).todo,bz:=j.bz.take m },uW,⟨_,_,_,_,hx4⟩,yF,apy,?_⟩;cases n with
    | zero=>grind [kY]
    | succ n=>grind
   .have jC:fZ≠[]:=by
     rintro rfl;cases hx:(j.bz[m]).clauses with
     | nil=>grind
     | cons c0 l0=>rw[hx] at i3;obtain⟨_,_,h0,-⟩:=i3;grind
    obtain⟨cb,co,aLN,ccs,LY,gN,-,-,-⟩:=i2.resolve_left zg;rw[jo] at LY;cases LY;have u:P.Out.bind (xr d (j.bz[m]).args (j.bz[m]).clauses (j.bz[m]).todo m { j with sr:=j.sr.iS (j.bz[m]).mark }) (fun p=>kY base d n p.1 p.2)=O r:=by
     grind
    have ED:Ext w2 w2.drew:=yF;refine dM H @q1 @Oz @H5 ?_;obtain⟨q,y,-⟩:∃ q,xr d (j.bz[m]).args (j.bz[m]).clauses (j.bz[m]).todo m { j with sr:=j.sr.iS (j.bz[m]).mark }=O q/\True:=by
     cases hx:xr d (j.bz[m]).args (j.bz[m]).clauses (j.bz[m]).todo m { j with sr:=j.sr.iS (j.bz[m]).mark } with
     | none=>rw[hx] at u;cases u
     | some q=>grind
    have UD:eR w1 w2.drew:=U.trans (eR.eo ED);refine a1a (ao1 (C.ext ED) yH (M:=M) (f:=d) (m:=m) (r:=q) ((by grind:oM w1 79 (.slice (O ⟨cb,co,V⟩) fZ.length Ur) fZ).bK fun b cs W=>UD _ _ _ (yM) W) (i3.jn UD)
     (X ▸ i4.jn UD (yM)) (i5.QL UD (eD.refl _ _)) lZ.args lZ.cls hM (i1.bK UD (eD.refl _ _)) (Nat.le_of_lt xt) zg (a1d u1.cW L) zg y) ?_
    rintro e w3 t;refine IV uW yF t y u fun p t=>?_;subst t;have qf:m=j.bz.length-1:=zo;have Lq:xr d (j.bz[m]).args (j.bz[m]).clauses (j.bz[m]).todo (j.bz.length-1) { j with sr:=j.sr.iS (j.bz[m]).mark }=O (.ok p):=by rw[<- qf];exact y
    exact(I.again Q0 Lq).1
 .rintro s2 w2 ⟨z,l,FZ,⟨apz,uR,yr,QR,C⟩,T,H,m,hmn,E⟩ d2;clear d2;have c2:=C.cell;have l2:=bh c2;have am1:l.sr.tr.length+l.sr.fuel<=800000000:=a1d H.cW L;have aXe:l.bz.length+l.sr.fuel<=800000000:=a1d H.nL L;have s02:=T.size;rw[kY] at E;cases R:l.todo with
  | nil=>
   rw[R] at E;cases E;have htv:apz = .pointer none:=by have:=C.td;rw[R] at this;exact this
   subst htv;refine cO @c2 ?_;obtain⟨wf,Dj⟩:=cg (w2.alloc (ae #[.int .u8 103,aT [102,97,105,108],bX,bX] 149 (0,0)));have aXg:Ext w2 wf:=yF;have gf:wf.heap[w2.heap.size]?=aN #[.int .u8 103,aT [102,97,105,108],bX,bX] 149:=yH;have sf:wf.heap.size=w2.heap.size+1:=yH;obtain⟨Q,jB⟩:=cg (wf.alloc (ae #[pp w2.heap.size,bX,zi 0,aq V] 207));have g4:Q.heap[wf.heap.size]?=aN #[pp w2.heap.size,bX,zi 0,aq V] 207:=yH;have aLP:Ext w2 Q:=yF;rw[<- Dj,<- jB,<- sf];have YP:dP (fun _=>True) Q (pp w2.heap.size) An:=by
    unfold An dP;exact⟨_,_,_,[],[],J,trivial,yH,.inl ⟨J,J⟩,by unfold eM;rfl,.inl ⟨J,J⟩,by unfold gF;rfl⟩
   have gl:uS z l.n Q (pp wf.heap.size) [⟨O An,[],0⟩]:=⟨_,_,_,_,J,g4,YP,.inl ⟨J,J⟩,zg,J⟩;obtain⟨r1,r2⟩:=(C.ext aLP).LO gl J;exact⟨yF,J,z,FZ,_,_,_,_,r1⟩
  | cons g rest=>
   rw[R] at E;simp only at E;obtain⟨gb,wv,gv,nx,rfl,FF,D3,mJ,H0,NS⟩:∃ b wv gv nx,apz=pp b/\w2.heap[b]?=aN #[wv,gv,zi (g.cut:Nat),nx] 207/\QK w2 wv g.FD /\
     fJ (fun _=>True) w2 89 gv (mM z g.vars)/\(∀ i∈g.vars,i<l.n)/\uS z l.n w2 nx rest:=by have:=C.td;rw[R] at this;exact this
   have lgb:=bh FF;obtain⟨nq,rfl⟩:=NS.ptr;refine dF @c2 FF ?_;obtain⟨CH,S⟩:=C.LO NS J;have EI:nK M l.n l.bz.length (g::rest):=by rw[<- R];exact H.todo
   have hgk:me M B { l with todo:=g::rest }:=by rw[<- R];omega
   obtain⟨q,y⟩:∃ q,Ei base d g { l with todo:=rest }=O q:=by
    cases hx:Ei base d g { l with todo:=rest } with
    | none=>rw[hx] at E;cases E
    | some q=>grind
   have hr3:P.Out.bind (Ei base d g { l with todo:=rest }) (fun p=>kY base d n p.1 p.2)=O r:=by
    rw[y] at E ⊢;cases q with
    | error e=>exact E
    | ok p=>exact aIc E zo zo
   have LR:eR w2 _:=di.toI S;refine a1a (aLy (r:=q) (f:=d) CH (fun b W=>hD b (by have:=S.size;omega)) ((hB.fr T).fr S) gZ hM (LR _ _ _ (yM) FF) (D3.bK LR) (mJ.jn LR (yM)) H0 EI.1 EI.2.2.1 (a1d H.cW L) (by show l.bz.length<_;omega) y) ?_;rintro e w3 t;refine IV FZ yF t y hr3 fun p t=>?_;subst t;exact(am2 hgk C.st.ok gZ y).1
end
