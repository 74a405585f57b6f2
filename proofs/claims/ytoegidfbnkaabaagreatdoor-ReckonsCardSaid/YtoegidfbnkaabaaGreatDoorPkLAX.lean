/- A part of one proof (KV10, KV11, KV12, KV13, KV14). -/
import Derived.Test.YtoegidfbnkaabaaGreatDoorPkLAW
set_option linter.all false
set_option maxRecDepth 100000
set_option maxHeartbeats 8000000
open Option renaming some → O, none → V
open Go renaming Value → Y, World → Z
open Bool renaming true → A, false → G
open Go.Obj renaming cells → ae
open Go.Ending renaming returned → ah
open Go.Value renaming nilIface → ai, iface → aj
open Go.Calls renaming mono → a1r
open List renaming getElem?_eq_getElem → a1u, getElem_mem → a1S, length_singleton → a2e, getElem_cons_zero → a3o
open Option.some renaming inj → a1w
open Go.World renaming ownsRow_nil → a1Q
open Nat renaming lt_of_lt_of_le → a1W
open Go.Proofs.Tryz renaming prog → bbF
namespace Go.Proofs.YtoegidfbnkaabaaGreatDoor
open P
open Go.RowKit Sx
variable{D:Nat->Prop}{R:Ending->Z->Prop}{W w w':Z}{X:Y->Z->Prop}{fk b base cb d g j k m n o pb told:Nat}{dG:List Pd}{r:Except jE (Bool×Vm)}{t:Tm}{v:Y}{xs:List Y}
def agf(name:Bs)(n:Nat)(b:name.length<=100)(a:n<80)(w:Z):Calls bbF 71 #[aT name,zi (n:Nat)] w fun e w'=>e = ah (aT (P.keyOf name n))/\w'=w:=by
 refine aNI ?_;refine bH ?_;rw[B9 _ _ zg];refine bH ?_;rw[wrap32 n a,ajv zk zk zo,B9 _ _ zg];exact⟨by rw[P.keyOf,List.append_assoc];rfl,J⟩
def Tryz.aOD:(Tryz.prog.info? 20).map (fun i=>(i.zero,i.size,i.bytes))=O (O ai,1,16):=zk
def aOE(d:w.ownsRow base 20 1 v n xs){a:Y}
  (f:w.heap[b]?=aO #[a] 20) (p:a.oneCell'=A)
  (q:n<=100000000) (g:base<=w.heap.size) {K:Y->Z->Prop}
  (h:∀ v' w',w'.ownsRow base 20 1 v' (n+1) (xs++[a])->w.grownBy w' v.ownBlock->(v'.ownBlock=v.ownBlock\/∀ k,v'.ownBlock=O k->w.heap.size<=k)->K v' w') :
  WR bbF (Builtin.append_ #[200,200] 200 #[v,cS b 1 m]) w K X:=by
 obtain⟨i,hi,c⟩:=Option.map_eq_some_iff.1 Tryz.aOD;simp only[Prod.mk.injEq] at c;obtain⟨j,l,o⟩:=c;refine Sx.DC (m:=1) (t:=200) (e:=20) zk hi j l o J zo d f J (fun u hu=>?_) zo zo g h;grind
def agh{T size:Nat}(a:Ext w W)(how:W.ownsRow w.heap.size T size v n xs)(c:W.grownBy w' v.ownBlock):Ext w w':=by
 have:=a.size;have:=c.size;refine⟨c.os.trans a.os,c.tape.trans a.tape,c.output.trans a.output,zo,fun b o d _=>?_⟩;have lb:=bg d;rw[c.block b zo (fun he=>?_)]
 .exact a.ext _ _ d
 .rcases how.2 with⟨e,-⟩| ⟨g,cap,cur,f,g2,g3,g4⟩
  .rw[e] at he;cases he
  .rw[f] at he;injection he with he;grind
structure yr(w:Z)(cb pb fk told:Nat)(dG:List Pd):Prop where
 cell:w.heap[cb]?=aO #[.map (O pb),pp fk,zi (told:Nat)] 187
 dG:UC w pb dG
theorem yr.bJ{w w':Z}{cb pb fk told:Nat}{dG:List Pd}(h:yr w cb pb fk told dG)(hk:eO w w')(hm:∀ l,w.heap[pb]?=O (eJ l)->w'.heap[pb]?=O (eJ l)):yr w' cb pb fk told dG:=
 ⟨hk _ _ _ (yM) h.cell,h.dG.bJ hk hm⟩
theorem yr.fr(h:yr w cb pb fk told dG)(a:dc D w w'):yr w' cb pb fk told dG:=
 h.bJ (dc.toI a) fun l hm=>a.block _ _ hm (by rintro ⟨_,cs',c,z,b,d⟩;cases b)
def P.aqu(dG:List Pd)(i:P.In)(m:Vm):P.Out (Bool×Vm):=match dG.find? fun p=>p.name == i.name && p.arity == i.s.length with
 | none=>O (.error (.fault 10))
 | some p=>match p.clauses with
  | []=>O (.ok (G,m))
  | l=>match m.enter l (i.s.map m.slot) m.f m.pc m.bw.length with
   | none=>V
   | some m=>O (.ok (A,m))
section
variable{D:Nat->Prop}{ρ:Nat->Nat}{e:AX}{av tv:Y}{di:List Y}{w w':Z}{m:Vm}
def aOF(h:gi D ρ e av tv di w m)(hD:∀ b,w.heap.size<=b->D b)(hC:yr w e.cb pb fk told dG)(tz:∀ p∈dG,∀ c∈p.clauses,c.slots<=64){x:Fm}(hx:m.fs[m.f]?=O x){i:P.In}(hi:A2 w g o i)
  (hk:∀ k∈i.s,k<x.slots.length) (xl:i.s.length<=60) (mT:i.name.length<=20) (lV:m.bw.length<=900000000) (hr:P.aqu dG i m=O r) :
  Calls bbF 215 #[pp e.vb,pq g o] w (EPost D w (si D ρ m.n e.vb e.cb e.fk) r):=by
 suffices H:∀ R:Ending->Z->Prop,(∀ Q w',EPost D w (si D ρ m.n e.vb e.cb e.fk) r Q w'->R Q w')->Calls bbF 215 #[pp e.vb,pq g o] w R from H _ fun _ _ h=>h;intro R hR;refine aM8 ?_;obtain⟨cur,S,ho,iw,vM,aNt,sv,dX,mG⟩:=hi;have lg:=bg S;obtain⟨na,nc,mX⟩:∃ a c,sv = .slice a i.s.length c:=by
  obtain⟨a,c,h⟩:=mG.sl;exact⟨a,c,by simpa using h⟩
 subst mX;have c0:=h.cell;obtain⟨⟨Dd,iT,-,-⟩,-,T,mN,FR,FT⟩:=h.fs _ _ hx;have aYo:∀ a,a<m.fs.length->e.ψ a<w.heap.size:=fun a ha=>by
  obtain⟨-,-,row,I,-⟩:=h.fs a _ (a1u ha);exact yH
 obtain⟨us,og,L⟩:∃ us:List Y,us.length=i.s.length/\∀ j (U:j<i.s.length),us[j]?=T[i.s[j]]?/\∃ u,us[j]?=O u/\zx ρ m.n w u (m.slot i.s[j]):=by
  refine⟨i.s.map fun k=>(T[k]?).getD ai,zs,fun j U=>?_⟩;obtain⟨row,v,q1,q2,q3,q4⟩:=h.Q2 hx (hk _ (a1S U));rw[mN] at q1;cases q1;have:(i.s.map fun k=>(T[k]?).getD ai)[j]?=O v:=by
   rw[List.getElem?_map,a1u U];simp [q3]
  exact⟨by rw[this,q3],v,this,q4⟩
 refine dj S dX ?_;refine⟨fun n z q=>∃ (j:Nat) (rX:Y),z 14=zi (j:Nat)/\z 5=rX/\j<=i.s.length/\n=i.s.length-j/\Ext w q/\q.ownsRow w.heap.size 20 1 rX j (us.take j),⟨_,0,bW,J,J,Nat.zero_le _,J,yF,by grind [a1Q]⟩,?_⟩;intro n z dz q hI;clear dz;refine toPr ?_;obtain⟨j,rX,Dg,I,U,rfl,t,how⟩:=hI;obtain⟨pa,pc,FW⟩:=gV how;subst FW;have LH:=t.ext _ _ c0;have Ot:=t.ext _ _ iT;have sd:=t.ext _ _ mN;have hgj:=t.ext _ _ S;have lcj:=bg LH;have aYq:=bg Ot;have lrj:=bg sd;have lgj:=bg hgj;have sj:=t.size;by_cases hlt:j<i.s.length
 .have C4:((j:Nat):Int)<(i.s.length:Int):=zo;have j6:((j:Nat):Int).toNat=j:=zo;obtain⟨nb,xx,fX,px,uZ,-⟩:=Lz mG hlt;simp only[Value.slice.injEq,true_and] at fX;obtain⟨rfl,rfl⟩:=fX;have Oq:=t.ext _ _ px;have pJ:((i.s[j]:Nat):Int).toNat=i.s[j]:=zo;have vW:((i.s[j]:Nat):Int)<(x.slots.length:Int):=zg;obtain⟨e1,u,e2,hu⟩:=L j hlt;have hru:T[i.s[j]]?=O u:=zg;have GL:us.take (j+1)=us.take j++[u]:=by
   grind [List.take_add_one]
  have UN:u.oneCell'=true:=by rcases hu.one with rfl | ⟨_,_,rfl⟩<;>rfl
  rcases hu.one with rfl | ⟨ut,ux,rfl⟩;all_goals
   refine dB Dg I C4 (zA Oq (zA uZ (zA @j6 (zA LH (zA Ot (zA sd (zA hru @pJ))))))) ?_;refine aOE (jL yH how) yH UN zo (by rw[size_alloc];omega) ?_;intro v' w' tT jA D2;obtain⟨Df,pc',Jn⟩:=gV tT;subst Jn;refine cJ Dg ?_;exact⟨i.s.length-(j+1),zo,j+1,_,by first | rfl | simp [jg],by first | rfl | simp [jg],zo,J,agh yF (jL yH how) jA,by rw[GL];exact tT⟩
 .have fp:j=i.s.length:=zo;subst fp;refine dj Dg I ?_;rw[List.take_of_length_le zo] at how;obtain⟨oY,l,j3,B⟩:=hC;have aYs:=bg oY;have B:=B i.name i.s.length zo;have F:∀ {w2:Z} {b:Nat} {o:Obj},Ext w w2->w.heap[b]?=O o->w2.heap[b]?=O o:=yF;refine⟨fun w'=>Ext w w',t.drew,?_⟩;rw[jx];refine cQ (pp e.vb) (fun w' C=>eT) ?_;refine cQ (pp e.cb) (fun w' C=>by have E:=F C c0;have:=bg E;exact fh E) ?_;rw[jx];refine cQ (pp e.cb) (fun w' C=>eT) ?_;refine cQ (.map (O pb)) (fun w' C=>by have E:=F C oY;have:=bg E;exact fh E) ?_;rw[jx];refine cQ (pq g (o+1)) (fun w' C=>eT) ?_;refine cQ (aT i.name) (fun w' C=>by have E:=F C S;have:=bg E;exact lM E @vM) ?_;rw[I];refine bH ?_;refine a1r (agf i.name i.s.length zo zo _) ?_;rintro Q w2 ⟨rfl,rfl⟩;refine⟨t.drew,?_⟩;have tI:Ext w q.drew:=t.drew;have xm:∀ {K:Y->Prop} {X:Y->Z->Prop},RD bbF (Instr.lookup 184 (.map (O pb)) (.string (bs (P.keyOf i.name i.s.length))) G) q.drew K X=(match fL (P.keyOf i.name i.s.length) l 0 with
    | some (_,v)=>K v
    | none=>K (.slice V 0 0)):=fun{K X}=>by
   rw[Lt (k:=9) (e:=192) zk zk (z:=bW) zk (tI.ext _ _ j3)];grind
  rw[xm];unfold P.aqu at hr;cases Q6:fL (P.keyOf i.name i.s.length) l 0 with
  | none=>
   rw[Q6] at B;have B:dG.find? (fun p=>p.name == i.name && p.arity == i.s.length)=none:=B;rw[B] at hr;cases hr;refine⟨fun _ _=>False,?_,by rintro _ _ h;exact h.elim⟩;show RD _ _ _ _ _;rw[afX];refine bH ?_;exact hR _ _ ⟨yF,J⟩
  | some iv=>
   obtain⟨iv1,v⟩:=iv;rw[Q6] at B;obtain⟨p,hp,pbk,aOJ,aYu,vs,rfl,xk,aYv,hpt,jK⟩:=B;rw[hp] at hr;simp only at hr;refine⟨fun _ w'=>w'=q.drew,?_,?_⟩
   .show RD _ _ _ _ _;rw[afX];exact eT
   rintro s w3 rfl d;clear d;by_cases ee:p.clauses=[]
   .have rf:(p.clauses.length:Int)=0:=zg;rw[ee] at hr;cases hr;refine cJ rf ?_;exact hR _ _ ⟨yF,J,ρ,eu.refl _ _,_,_,_,_,_,h.ext tI⟩
   .have rf:¬ (p.clauses.length:Int)=0:=fun h=>ee (List.eq_nil_of_length_eq_zero zo);obtain⟨m',pV,hr⟩:∃ m',m.enter p.clauses (i.s.map m.slot) m.f m.pc m.bw.length=O m'/\r = .ok (A,m'):=by
     grind
    obtain⟨aa,ac,gx⟩:=gV h.ar;have M:q.drew.heap[e.vb]?=_:=LH;rw[gx] at M;refine dj rf @M ?_;have W:Ext w q.drew.drew:=tI.drew;have Ob:vs.length=p.clauses.length:=jK.1;have aYw:vs≠[]:=zg;have hso:oK q.drew.drew 185 (cS pbk p.clauses.length aOJ) vs:=.inr yH;have aOL:yp D ρ m.n e.ψ m.fs.length q.drew.drew (.slice pa i.s.length pc) (i.s.map m.slot):=by
     have hsm:C9 ρ m.n q.drew.drew us.toArray (i.s.map m.slot):=fun a y N=>by
      rw[List.getElem?_map] at N;cases hq:i.s[a]? with
      | none=>grind
      | some k=>
       rw[hq] at N;obtain⟨ha,WV⟩:=List.getElem?_eq_some_iff.1 hq;obtain⟨-,u,g1,g2⟩:=L a ha;rw[WV] at g2;cases N;exact⟨u,zg,g2.bJ (eO.ed W) (eu.refl _ _)⟩
     rcases how.2 with⟨h1,h2⟩| ⟨b,cap,Qx,h1,h2,h3,h4,I,h6,h7⟩
     .have:i.s=[]:=zg;exact .inl zg
     .rw[h1];refine .inr ⟨b,cap,Qx,zs,zg,h3,zo,fun a y N=>?_,zg⟩;obtain⟨u,g1,g2⟩:=hsm a y N;grind
    have Qi:p∈dG:=zg;refine a1r (apZ (h.ext W) yH (l:=p.clauses) (args:=i.s.map m.slot) (f:=m.f) (pc:=m.pc) (n:=m.bw.length) (m':=m') hso (jK.bJ (eO.ed W)) aOL h.fl zo lV zg zg pV) ?_;rintro Q w4 ⟨rfl,gW,h4⟩;refine bH ?_;subst hr;have hn:m'.n=m.n:=by
     unfold Vm.enter at pV;grind
    exact hR _ _ ⟨(dc.ed W).trans gW,J,ρ,⟨zg,zg⟩,h4⟩
end
def P.Dh(l:List Tm):Except jE (List Tm)->Except jE (List Tm)
 | .ok r=>.ok (l++r)
 | .error e=>.error e
def P.agl(m:Vm)(k:Nat)(r:List Nat):m.iK (k::r)=match P.vL (m.slot k) with | .error e=>.error e | .ok t=>P.Dh [t] (m.iK r):=by
 rw[Vm.iK];cases m.slot k with
 | term t=>simp only[P.vL];cases m.iK r<;>rfl
 | nil=>rfl
 | level n=>rfl
def P.agm{m:Vm}{ks:List Nat}(c:j<ks.length){a:List Tm}(h:m.iK ks=P.Dh a (m.iK (ks.drop j))) :
  match P.vL (m.slot ks[j]) with | .error t=>m.iK ks = .error t | .ok t=>m.iK ks=P.Dh (a++[t]) (m.iK (ks.drop (j+1))):=by
 rw[List.drop_eq_getElem_cons c,P.agl] at h;cases b:P.vL (m.slot ks[j]) with
 | error t=>rw[b] at h;exact h
 | ok t=>
  rw[b] at h;simp only at h ⊢;rw[h];cases m.iK (ks.drop (j+1))<;>simp [P.Dh]
def P.Y8{y:Sl}(h:P.vL y = .ok t):y = .term t:=by
 cases y with
 | term u=>grind [P.vL]
 | nil=>cases h
 | level n=>cases h
theorem P.Y9{m:Vm}{x:Fm}(hx:m.fs[m.f]?=O x)(b:∀ y∈x.slots,AL y)(k:Nat)(h:P.vL (m.slot k) = .ok t):eA t:=by
 have h:=P.Y8 h;unfold Vm.slot at h;rw[hx] at h;simp only[List.getD_eq_getElem?_getD] at h;cases a:x.slots[k]? with
 | none=>grind
 | some y=>
  rw[a] at h;have h:y = .term t:=h;subst h;exact b _ (List.mem_of_getElem? a)
section
variable{D:Nat->Prop}{ρ:Nat->Nat}{e:AX}{av tv:Y}{di:List Y}{w w':Z}{m:Vm}
def gi.part(h:gi D ρ e av tv di w m){q:Except jE (Bool×Sr)}(hr:P.Out.bind (O q) (fun p=>O (.ok (p.1,{ m with sr:=p.2 })))=O r){b:Ending}
  (a:EPost (Dn D av w) w (xp (Dn D av w) ρ m.n e.vb 1 116 (Ho e.cb (pp (e.φ m.f)) (zi (m.pc:Nat)) av)) q b w'):EPost D w (si D ρ m.n e.vb e.cb e.fk) r b w':=by
 obtain⟨c,a⟩:=a;cases q with
 | error t=>
  cases hr;exact⟨c.up fun _ h=>h.1,a⟩
 | ok p=>
  cases hr;obtain⟨rfl,j,d⟩:=a;obtain⟨g,i⟩:=h.store d c;exact⟨i,J,ρ,eu.refl _ _,_,_,_,_,_,g⟩
theorem EPost.agn{D:Nat->Prop}{w:Z}{α:Type}{Q:α->Ending->Z->Prop}(f:∀ {a e w},Q a e w->∃ v,e = ah v){r:Except jE α}{b:Ending}{w':Z}(h:EPost D w Q r b w')(d:∀ b w',EPost D w Q r b w'->R b w') :
  ends (fun x w'=>R (ah x) w') (PC R) b w':=by
 cases b with
 | returned v=>exact d _ _ h
 | panicked c=>exact d _ _ h
 | outgrown=>
  obtain⟨-,h⟩:=h;cases r with
  | ok a=>grind
  | error t=>cases t<;>cases h
def EPost.aqy{D:Nat->Prop}{w:Z}{α:Type}{Q:α->Ending->Z->Prop}(f:∀ {a e w},Q a e w->∃ v,e = ah v){r:Except jE α}{b:Ending}{w':Z}(h:EPost D w Q r b w')(d:∀ b w',EPost D w Q r b w'->R b w') :
  ends (fun x w'=>R (ah x) w') (Mm R) b w':=by
 cases b with
 | returned v=>exact d _ _ h
 | panicked c=>exact fun _=>d _ _ h
 | outgrown=>
  obtain⟨-,h⟩:=h;cases r with
  | ok a=>grind
  | error t=>cases t<;>cases h
structure LM(m:Vm)(x:Fm)(i:P.In):Prop where
 hx:m.fs[m.f]?=O x
 ok:uH x.code.slots i
 sl:x.code.slots<=x.slots.length
 tm:∀ y∈x.slots,AL y
 cV:m.sr.cV<=800000000
 bw:m.bw.length<900000000
 small:∀ k∈i.s,k<100000
def Za(h:gi D ρ e av tv di w m)(hD:∀ b,w.heap.size<=b->D b){x:Fm}{i:P.In}(hi:A2 w g o i)(hH:LM m x i)(hw:i.word=P.rS\/i.word=Ft\/i.word=tj\/i.word=pF)
 (hr:vz dG d i m=O r) :
  Calls bbF 207 #[pp e.vb,pq g o] w (EPost D w (si D ρ m.n e.vb e.cb e.fk) r):=by
 suffices H:∀ R:Ending->Z->Prop,(∀ T w',EPost D w (si D ρ m.n e.vb e.cb e.fk) r T w'->R T w')->Calls bbF 207 #[pp e.vb,pq g o] w R from H _ fun _ _ h=>h;intro R hR;obtain⟨hx,N,iQ,vA,hz,lV,-⟩:=hH;obtain⟨word,name,con,s⟩:=i;simp only at hw;have c0:=h.cell;obtain⟨⟨Dd,u,-,-⟩,-,qR,z,FR,FT⟩:=h.fs _ _ hx;obtain⟨cur,B,ho,C,vM,⟨cv,U,W⟩,sv,p,X⟩:=hi;simp only at C vM W p X U;have l:Ext w w.drew:=yF;have lr:=bg z;have P0:s.length=1:=N.one zg;have rq:=N.sl (by rcases hw with h | h | h | h<;>(simp only[h];decide)) (by rcases hw with h | h | h | h<;>(simp only[h];decide));simp only at rq;obtain⟨k,rfl⟩:∃ k,s=[k]:=by match s,P0 with | [k],_=>grind
 have hk:k<x.slots.length:=a1W (rq k (List.mem_singleton.2 J)) iQ;obtain⟨nb,xx,mX,K,E,-⟩:=Lz X (j:=0) zs;simp only[a2e,a3o] at mX E;subst mX;have L:((k:Nat):Int).toNat=k:=zo;have vW:((k:Nat):Int)<(x.slots.length:Int):=zo;refine QZ ?_;unfold vz at hr;simp only[List.getD_cons_zero] at hr;have M:∀ {eM:Nat->Nat} {F:Nat} {I:Z} {v:Y} {y:Sl},Ext w I->eu ρ m.n eM F->gi D eM e av tv di I { m with n:=F }->zx eM F I v y->r = .ok (A,{ m.set k y with n:=F }) ->
   R (ah (.bool A)) (bQ I (e.ψ m.f) (ae (qR.setIfInBounds k v) 20 (0,0))):=by
  intro eM F I v y hE hu Q hy hr;subst hr;obtain⟨r1,r2⟩:=Q.apU (hE.ext _ _ z) (k:=k) hy J;exact hR _ _ ⟨(dc.ed hE).trans r2,J,eM,hu,_,_,_,_,_,r1⟩
 rcases hw with rfl | rfl | rfl | rfl
 .have q:cur[o]?=O (aT [110,101,119]):=C;rw[zip rfl] at hr;have hr:=(a1w hr).symm;refine dB @c0 u B (zA @q (zA p (zA K (zA E (zA @L z))))) ?_;have K3:Ext w (w.alloc (ae #[ai] 91)):=yF;obtain⟨eM,hu,hn,Q⟩:=h.fresh hD K3 yH;refine M K3 hu Q ?_ hr;show dK eM (m.n+1) (w.alloc (ae #[ai] 91)) (aj 87 (pp w.heap.size)) (.var m.n);unfold dK dI;exact yH
 .have q:cur[o]?=O (aT [112,117,116]):=C;rw[bM zd,zip zd] at hr;have hr:=(a1w hr).symm;obtain⟨t,rfl,ht,htc⟩:=N.con (.inl J);have UQ:dK ρ m.n w.drew cv t:=W.dZ;obtain⟨ct,cx,rfl⟩:=UQ.iface;refine dB @c0 u B (zA @q (zA p (zA K (zA E (zA @L (zA U z)))))) ?_;exact M l (eu.refl _ _) (h.ext l) (y:=.term t) UQ hr
 .have q:cur[o]?=O (aT [109,97,114,107]):=C
  iterate 7 rw[bM zd] at hr
  rw[zip rfl] at hr;have hr:=(a1w hr).symm;refine dB @c0 u B (zA @q p) ?_;refine⟨fun w'=>Ext w w',l,?_⟩;rw[jx];refine cQ (pq g (o+3)) (fun w' a=>eT) ?_;refine cQ (cS nb 1 xx.size) (fun w' a=>by have c:=a.ext _ _ B;have:=bg c;exact lM c p) ?_;refine cQ (pp nb) (fun w' a=>eT) ?_;refine cQ (zi (k:Nat)) (fun w' a=>by have c:=a.ext _ _ K;have:=bg c;exact lM c E) ?_;refine dB @c0 u @L z ?_;refine⟨l,?_⟩;rw[hx] at hr;exact M l (eu.refl _ _) (h.ext l) (y:=.level x.entry) J hr
 .have q:cur[o]?=O (aT [108,101,118,101,108]):=C
  iterate 8 rw[bM zd] at hr
  rw[zip rfl] at hr;have hr:=(a1w hr).symm;obtain⟨aa,ac,gx⟩:=gV h.ar;have S:=c0;rw[gx] at S;refine dB @S u B (zA @q p) ?_;refine⟨fun w'=>Ext w w',l,?_⟩;rw[jx];refine cQ (pq g (o+3)) (fun w' a=>eT) ?_;refine cQ (cS nb 1 xx.size) (fun w' a=>by have c:=a.ext _ _ B;have:=bg c;exact lM c p) ?_;refine cQ (pp nb) (fun w' a=>eT) ?_;refine cQ (zi (k:Nat)) (fun w' a=>by have c:=a.ext _ _ K;have:=bg c;exact lM c E) ?_;refine dB @S u @L z ?_;refine⟨l,?_⟩;exact M l (eu.refl _ _) (h.ext l) (y:=.level m.bw.length) J hr
end
section
variable{D:Nat->Prop}{ρ:Nat->Nat}{e:AX}{av tv:Y}{di:List Y}{w w':Z}{m:Vm}
theorem P.agp{t:Tm}(ht:eA t):∀ {l:List Tm},jt l->jt (l++[t])
 | [],_=>by simp only[List.nil_append];unfold jt;exact⟨ht,by unfold jt;trivial⟩
 | a::l,h=>by
  unfold jt at h;show jt (a::(l++[t]));unfold jt;exact⟨h.1,P.agp ht h.2⟩
theorem P.agq{m:Vm}{x:Fm}(hx:m.fs[m.f]?=O x)(a:∀ y∈x.slots,AL y){i:P.In}(h:m.at i k = .ok t):eA t:=by
 grind [P.afO,P.Y9,Y9,afO]
def agr
  (h:gi D ρ e av tv di w m) (hD:∀ b,w.heap.size<=b->D b) {x:Fm} {i:P.In} (hi:A2 w g o i) (hH:LM m x i) (hw:i.word=D6\/i.word=Fu\/i.word=IW)
 (hr:vz dG d i m=O r) :
  Calls bbF 207 #[pp e.vb,pq g o] w (EPost D w (si D ρ m.n e.vb e.cb e.fk) r):=by
 suffices H:∀ R:Ending->Z->Prop,(∀ f w',EPost D w (si D ρ m.n e.vb e.cb e.fk) r f w'->R f w')->Calls bbF 207 #[pp e.vb,pq g o] w R from H _ fun _ _ h=>h;intro R C;obtain⟨hx,y,iQ,vA,hz,lV,-⟩:=hH;have L:=hi;obtain⟨word,name,con,s⟩:=i;simp only at hw;have c0:=h.cell;obtain⟨⟨Dd,S,-,-⟩,-,qR,mN,FR,FT⟩:=h.fs _ _ hx;obtain⟨cur,M,ho,N,vM,⟨cv,W,X⟩,sv,dX,mG⟩:=hi;simp only at N vM X dX mG W;have l:Ext w w.drew:=yF;refine QZ ?_;unfold vz at hr;dsimp only at hr;have rq:=y.sl (by rcases hw with h | h | h<;>(simp only[h];decide)) (by rcases hw with h | h | h<;>(simp only[h];decide));simp only at rq;have Q7:∀ k∈s,k<x.slots.length:=zg;have xl:=y.qL;simp only at xl;have US:∀ {a:Bool×Vm} {e1:Ending} {w1:Z},si D ρ m.n e.vb e.cb e.fk a e1 w1->∃ v,e1 = ah v:=zg;rcases hw with rfl | rfl | rfl
 .have E:cur[o]?=O (aT [99,111,110,115,116]):=N
  iterate 2 rw[bM zd] at hr
  rw[zip zd] at hr;have P0:s.length=1:=y.one zg;obtain⟨t0,rfl,KE,htc⟩:=y.con (.inr J);have UQ:dK ρ m.n w cv t0:=X.dZ;obtain⟨ct,cx,rfl⟩:=UQ.iface;refine dB @c0 S M @E ?_;refine⟨fun w'=>Ext w w',l,?_⟩;rw[jx];refine cQ (pq e.vb 1) (fun w' Q=>eT) ?_;rw[jx];refine cQ (pq g (o+2)) (fun w' Q=>eT) ?_;refine cQ (aj ct cx) (fun w' Q=>by have h9:=Q.ext _ _ M;have:=bg h9;exact lM h9 W) ?_;have T:=h.ext l;refine a1r (YX T hx (L.bJ (eO.ed l)) (k:=0) zg (by grind [a1S]) zo) ?_;rintro f w2 ⟨rfl,c⟩;have j:Ext w w.drew.drew:=l.drew;cases F:m.at ⟨D6,name,O t0,s⟩ 0 with
  | error t=>
   rw[F] at hr c;have hr:=(a1w hr);subst hr;have c:f=gP t:=c;subst c;cases t<;>exact fun _=>C _ _ ⟨yF,J⟩
  | ok t=>
  rw[F] at hr c;obtain⟨v,rfl,hv⟩:=c;have hr:P.Out.bind (lS d t t0 m.sr) (fun p=>O (.ok (p.1,{ m with sr:=p.2 })))=O r:=hr;refine⟨j,?_⟩;cases z:lS d t t0 m.sr with
  | none=>rw[z] at hr;cases hr
  | some q=>
  rw[z] at hr;have I:=h.ext j;refine a1r (Qj Da d I.less (I.dn hD) hv (by grind [P.agq]) (UQ.bJ (ry.ed j)) KE zo z) ?_;intro f w3 c;have c:=I.part hr c;exact EPost.aqy US (c.of (dc.ed j)) C
 .have E:cur[o]?=O (aT [115,97,109,101]):=N
  iterate 3 rw[bM zd] at hr
  rw[zip zd] at hr;have K:s.length=2:=y.same J;refine dB @c0 S M @E ?_;refine⟨fun w'=>Ext w w',l,?_⟩;rw[jx];refine cQ (pq e.vb 1) (fun w' Q=>eT) ?_;have T:=h.ext l;refine a1r (YX T hx (L.bJ (eO.ed l)) (k:=0) zg (by grind [a1S]) zo) ?_;rintro f w2 ⟨rfl,c⟩;have j:Ext w w.drew.drew:=l.drew;cases F:m.at ⟨Fu,name,con,s⟩ 0 with
  | error t=>
   rw[F] at hr c;have hr:=(a1w hr);subst hr;have c:f=gP t:=c;subst c;cases t<;>exact fun _=>C _ _ ⟨yF,J⟩
  | ok t=>
  rw[F] at hr c;obtain⟨v,rfl,hv⟩:=c;refine⟨j,?_⟩;have I:=h.ext j;have B:Ext w w.drew.drew.drew:=j.drew;refine a1r (YX I hx (L.bJ (eO.ed j)) (k:=1) zg (by grind [a1S]) zo) ?_;rintro f w2 ⟨rfl,c⟩;simp only[IS] at hr;cases Dx:m.at ⟨Fu,name,con,s⟩ 1 with
  | error t=>
   rw[Dx] at hr c;have hr:=(a1w hr);subst hr;have c:f=gP t:=c;subst c;cases t<;>exact fun _=>C _ _ ⟨yF,J⟩
  | ok u=>
  rw[Dx] at hr c;obtain⟨v2,rfl,j4⟩:=c;refine⟨B,?_⟩;have hr:P.Out.bind (lS d t u m.sr) (fun p=>O (.ok (p.1,{ m with sr:=p.2 })))=O r:=hr;cases z:lS d t u m.sr with
  | none=>rw[z] at hr;cases hr
  | some q=>
  rw[z] at hr;have U:=h.ext B;refine a1r (Qj Da d U.less (U.dn hD) (hv.bJ (ry.ed yF)) (by grind [P.agq]) j4 (by grind [P.agq]) zo z) ?_;intro f w3 c;have c:=U.part hr c;exact EPost.aqy US (c.of (dc.ed B)) C
 .have E:cur[o]?=O (aT [115,112,108,105,116]):=N
  iterate 5 rw[bM zd] at hr
  rw[zip zd] at hr;have K:2<=s.length:=y.two (.inr J);refine dB @c0 S M @E ?_;have Kb:m.sr.tr.length+m.sr.fuel<=800000000:=hz;refine a1r (aNs h hD hx L (d:=d) (r:=r) K Q7 xl y.TA (by grind [adt]) zo ?_) ?_
  .rw[<- hr];rfl
  .intro f w3 c;grind [EPost.agn]
def aOM
  (h:gi D ρ e av tv di w m) (hD:∀ b,w.heap.size<=b->D b) {x:Fm} {i:P.In} (hi:A2 w g o i) (hH:LM m x i) (hw:i.word=mr)
 (hr:vz dG d i m=O r) :
  Calls bbF 207 #[pp e.vb,pq g o] w (EPost D w (si D ρ m.n e.vb e.cb e.fk) r):=by
 suffices H:∀ R:Ending->Z->Prop,(∀ y w',EPost D w (si D ρ m.n e.vb e.cb e.fk) r y w'->R y w')->Calls bbF 207 #[pp e.vb,pq g o] w R from H _ fun _ _ h=>h;intro R U;obtain⟨hx,M,iQ,vA,hz,lV,-⟩:=hH;have qk:=hi;obtain⟨word,name,con,s⟩:=i;simp only at hw;have c0:=h.cell;obtain⟨⟨Dd,iT,-,-⟩,-,qR,W,FR,FT⟩:=h.fs _ _ hx;obtain⟨cur,X,ho,iw,vM,⟨cv,iY,lJ⟩,sv,dX,mG⟩:=hi;simp only at iw vM lJ dX mG iY;refine QZ ?_;unfold vz at hr;dsimp only at hr;subst hw;have rq:=M.sl (by simp only;decide) (by simp only;decide);simp only at rq;have Q7:∀ k∈s,k<x.slots.length:=zg;have xl:=M.qL;simp only at xl;have om:cur[o]?=O (aT [116,101,115,116]):=iw
 iterate 6 rw[bM zd] at hr
 rw[zip zd] at hr;have aYx:jw name=s.length:=M.test J;obtain⟨na,nc,mX⟩:∃ a c,sv = .slice a s.length c:=by
  obtain⟨a,c,h⟩:=mG.sl;exact⟨a,c,by simpa using h⟩
 subst mX;have US:∀ {a:Bool×Vm} {e1:Ending} {w1:Z},si D ρ m.n e.vb e.cb e.fk a e1 w1->∃ v,e1 = ah v:=zg;refine dB @c0 iT X (zA @om dX) ?_;refine⟨fun n z C=>∃ (j:Nat) (N:Y) (us:List Y) (l:List Tm),z 128=zi (j:Nat)/\z 8=N/\j<=s.length/\n=s.length-j/\Ext w C/\C.ownsRow w.heap.size 89 1 N j us/\us.length=j/\qe ρ m.n w us l/\jt l/\m.iK s=P.Dh l (m.iK (s.drop j)),
  ⟨_,0,bW,[],[],J,J,Nat.zero_le _,J,yF,a1Q _ _ _ _,J,by unfold qe iG;rfl,by unfold jt;trivial,by rw[List.drop_zero];cases m.iK s<;>rfl⟩,?_⟩
 intro n z dz C hI;clear dz;refine toPr ?_;obtain⟨j,N,us,l,F,Q,hj,rfl,E,how,uO,S,T,I⟩:=hI;obtain⟨pa,pc,FW⟩:=gV how;subst FW;have sj:=E.size;have K:Ext w C.drew:=E.drew;by_cases hlt:j<s.length
 .have C4:(j:Int)<(s.length:Int):=zo;refine jc F Q C4 ?_;have T9:=h.ext E;refine a1r (afP T9 hx (qk.bJ (eO.ed E)) (k:=j) hlt (by grind [a1S]) zo) ?_;rintro y w2 ⟨rfl,row,v,eG,L,-,f⟩;have B:=P.agm hlt I;simp only at f;rw[E.ext _ _ W] at eG;cases eG;cases u:P.vL (m.slot s[j]) with
  | error t=>
   rw[u] at f B;rw[show m.iK s = .error t from B] at hr;have hr:=(a1w hr);subst hr;have f:y=gP t:=f;subst f;cases t<;>exact U _ _ ⟨yF,J⟩
  | ok t=>
   rw[u] at f B;have B:m.iK s=P.Dh (l++[t]) (m.iK (s.drop (j+1))):=B;have f:y = ah v:=f;subst f;obtain⟨agw,v2,q1,q2,q3,q4⟩:=h.Q2 hx (Q7 _ (a1S hlt));rw[W] at q1;cases q1;rw[q3] at L;injection L with L;subst L;rw[P.Y8 u] at q4;have q4:dK ρ m.n w v2 t:=q4;have aqA:eA t:=(by grind [P.Y9]);have UN:v2.oneCell'=true:=by obtain⟨a,b,rfl⟩:=q4.iface;rfl
   obtain⟨vt,vx,UU⟩:=q4.iface;rw[UU];refine dj F Q ?_;rw[<- UU];have De:(C.drew.alloc (ae #[v2] 89)).ownsRow w.heap.size 89 1 (.slice pa j pc) j us:=jL yH how;refine Qm De yH UN zo (yH) ?_;intro v' w' tT jA D2;obtain⟨Df,pc',Jn⟩:=gV tT;subst Jn;refine cJ F ?_;refine⟨s.length-(j+1),zo,j+1,_,us++[v2],l++[t],zg,zg,zo,J,agh yF De jA,tT,zg,S.snoc q4,?_,B⟩;grind [P.agp]
 .have fp:j=s.length:=zo;subst fp;rw[List.drop_length] at I;have I:m.iK s = .ok l:=by grind [Vm.iK,P.Dh]
  rw[I] at hr;have rH:=K.ext _ _ X;refine dB F Q rH @vM ?_;have hr:P.Out.bind (xW d name l m.sr) (fun p=>O (.ok (p.1,{ m with sr:=p.2 })))=O r:=hr;cases u:xW d name l m.sr with
  | none=>rw[u] at hr;cases hr
  | some q=>
  rw[u] at hr;have vi:=h.ext K;have uF:l.length=s.length:=by rw[<- S.length,uO]
  refine a1r (aoB Da (r:=q) vi.less (by grind [Ca,gi.dn]) ((Uy how uO.symm).mono zg yH) (S.bJ (ry.ed K)) T zo zo u) ?_;intro y w3 f;have f:=vi.part hr f;exact EPost.agn US (f.of (dc.ed K)) U
end
section
variable{D:Nat->Prop}{ρ:Nat->Nat}{e:AX}{av tv:Y}{di:List Y}{w w':Z}{m:Vm}
def aON
  (h:gi D ρ e av tv di w m) (hD:∀ b,w.heap.size<=b->D b) {x:Fm} {i:P.In} (hi:A2 w g o i) (hH:LM m x i) (hw:i.word=IV)
 (hr:vz dG d i m=O r) :
  Calls bbF 207 #[pp e.vb,pq g o] w (EPost D w (si D ρ m.n e.vb e.cb e.fk) r):=by
 suffices H:∀ R:Ending->Z->Prop,(∀ E w',EPost D w (si D ρ m.n e.vb e.cb e.fk) r E w'->R E w')->Calls bbF 207 #[pp e.vb,pq g o] w R from H _ fun _ _ h=>h;intro R hR;obtain⟨hx,I,iQ,vA,hz,lV,-⟩:=hH;have qk:=hi;obtain⟨word,name,con,s⟩:=i;simp only at hw;have c0:=h.cell;obtain⟨⟨Dd,iT,-,-⟩,-,qR,mN,FR,FT⟩:=h.fs _ _ hx;obtain⟨cur,hg,ho,iw,vM,⟨cv,iY,lJ⟩,sv,dX,mG⟩:=hi;simp only at iw vM lJ dX mG iY;have lg:=bg hg;refine QZ ?_;unfold vz at hr;dsimp only at hr;subst hw;have rq:=I.sl (by simp only;decide) (by simp only;decide);simp only at rq;have Q7:∀ k∈s,k<x.slots.length:=zg;have xl:=I.qL;have mT:=I.TA;simp only at xl mT;have om:cur[o]?=O (aT [109,97,107,101]):=iw
 iterate 4 rw[bM zd] at hr
 rw[zip zd] at hr;have h2s:2<=s.length:=I.two (.inl J);obtain⟨L,LG⟩:=cg (s.length-1);have tM:s.tail.length=L:=zg;obtain⟨nb,xx,mX,px,aOO,xQ⟩:=Lz mG (j:=0) zo;subst mX;have afR:(1:Int)<=(s.length:Int):=zo;have zp:sliced (O ⟨nb,0,V⟩) 1 s.length xx.size 1 = .slice (O ⟨nb,1,V⟩) L (xx.size-1):=by
  unfold sliced;rw[bM zo,LG];simp [Addr.add]
 refine dB @c0 iT hg (zA @om (zA dX (zA @vM zp))) ?_;obtain⟨wc,Y7⟩:=cg (w.alloc (ae #[aT name,bW] 180));have hEc:Ext w wc:=yF;have sc:wc.heap.size=w.heap.size+1:=yH;have qH:wc.heap[w.heap.size]?=aO #[aT name,bW] 180:=yH;rw[<- Y7];refine⟨fun n z c=>∃ (j:Nat) (rX:Y) (us:List Y) (f:List Tm),z 88=zi (j:Nat)/\j<=L/\n=L-j/\Ext w c/\w.heap.size<c.heap.size/\c.heap[w.heap.size]?=aO #[aT name,rX] 180 /\
   c.ownsRow (w.heap.size+1) 89 1 rX j us/\us.length=j/\qe ρ m.n w us f/\jt f/\m.iK s.tail=P.Dh f (m.iK (s.tail.drop j)),
  ⟨_,0,bW,[],[],J,Nat.zero_le _,J,hEc,zo,qH,a1Q _ _ _ _,J,by unfold qe iG;rfl,by unfold jt;trivial,by rw[List.drop_zero];cases m.iK s.tail<;>rfl⟩,?_⟩
 intro n z dz c hI;clear dz;refine toPr ?_;obtain⟨j,rX,us,f,K,hj,rfl,p,jr,M,how,uO,kU,agv,N⟩:=hI;obtain⟨pa,pc,FW⟩:=gV how;subst FW;have sj:=p.size;have Q:Ext w c.drew:=p.drew;have Yt:=bg M;by_cases hlt:j<L
 .have C4:(j:Int)<(L:Int):=zo;refine dj K C4 ?_;refine⟨fun w'=>w'.heap[w.heap.size]?=c.heap[w.heap.size]?,J,?_⟩;try rw[jx]
  refine cQ (pq w.heap.size 1) (fun w' S=>eT) ?_;refine cQ (.slice pa j pc) (fun w' S=>by rw[M] at S;have:=bg S;exact fh S) ?_;try rw[K]
  refine bH ?_;have T9:=h.ext Q;have Qb:j+1<s.length:=zo;rw[show(j:Int)+1=((j+1:Nat):Int) by omega];refine a1r (afP T9 hx (qk.bJ (eO.ed Q)) (k:=j+1) Qb (by grind [a1S]) zo) ?_;rintro E w2 ⟨rfl,row,v,eG,U,-,l⟩;have UO:Ext w c.drew.drew:=Q.drew;have q:=P.agm (j:=j) zo N;have htg:s.tail[j]' zo=s[j+1]:=zs;rw[htg] at q;simp only at l;rw[Q.ext _ _ mN] at eG;cases eG;cases hq:P.vL (m.slot s[j+1]) with
  | error t=>
   rw[hq] at l q;rw[show m.iK s.tail = .error t from q] at hr;have hr:=(a1w hr);subst hr;have l:E=gP t:=l;subst l;cases t<;>exact fun _=>hR _ _ ⟨yF,J⟩
  | ok t=>
   rw[hq] at l q;have q:m.iK s.tail=P.Dh (f++[t]) (m.iK (s.tail.drop (j+1))):=q;have l:E = ah v:=l;subst l;obtain⟨agw,v2,q1,q2,q3,q4⟩:=h.Q2 hx (Q7 _ (a1S Qb));rw[mN] at q1;cases q1;rw[q3] at U;injection U with U;subst U;rw[P.Y8 hq] at q4;have q4:dK ρ m.n w v2 t:=q4;have aqA:eA t:=(by grind [P.Y9]);have UN:v2.oneCell'=true:=by obtain⟨a,b,rfl⟩:=q4.iface;rfl
   obtain⟨vt,vx,UU⟩:=q4.iface;rw[UU];refine bH ?_;rw[<- UU];obtain⟨F,rk⟩:=cg (c.drew.drew.alloc (ae #[v2] 89));have u:Ext c F:=yF;have sA:F.heap.size=c.heap.size+1:=yH;have hnA:F.heap[c.heap.size]?=aO #[v2] 89:=yH;have hcA:=u.ext _ _ M;have De:F.ownsRow (w.heap.size+1) 89 1 (.slice pa j pc) j us:=jL u.ext how;try rw[<- rk]
   refine Qm De hnA UN zo zo ?_;intro v' w' tT C D2;obtain⟨Df,pc',Jn⟩:=gV tT;subst Jn;have MP:∀ {b:Nat} {cs:Array Y} {T:Nat},T≠89->F.heap[b]?=aO cs T->w'.heap[b]?=aO cs T:=fun{b cs T} hT W=>by
    rw[C.block b (bg W) (fun he=>?_)]
    .omega
    .rcases De.2 with⟨X,-⟩| ⟨b',cap,Qx,B,g2,g3,g4⟩
     .rw[X] at he;cases he
     .rw[B] at he;injection he with he;grind
   have oy:=MP zd hcA;have lc':=bg oy;have sw':=C.size;refine⟨yH,?_⟩;refine dj K oy ?_;obtain⟨wE,Ov⟩:=cg (bQ w' w.heap.size (ae #[aT name,.slice Df (j+1) pc'] 180));have af4:bQ w' w.heap.size (ae (po #[aT name,.slice pa j pc] 1 (Value.slice Df (j+1) pc').cells.toList) 180 (0,0))=wE:=Ov.symm;first | rw[<- Ov] | rw[af4] | skip
   have hbE:∀ {b:Nat} {cs:Array Y} {T:Nat},T≠180->w'.heap[b]?=aO cs T->wE.heap[b]?=aO cs T:=yH;refine⟨L-(j+1),zo,j+1,.slice Df (j+1) pc',us++[v2],f++[t],zs,zo,J,?_,zo,J,?_,zg,kU.snoc q4,P.agp aqA agv,q⟩
   .have Jo:=p.trans u;rw[Ov];refine⟨C.os.trans Jo.os,C.tape.trans Jo.tape,C.output.trans Jo.output,yH,fun b o W hm=>?_⟩;have lb:=bg W;have hbA:=Jo.ext _ _ W;rw[jb zo,C.block b zo (fun he=>?_)]
    .exact yH
    .rcases De.2 with⟨X,-⟩| ⟨b',cap,Qx,B,g2,g3,g4⟩
     .rw[X] at he;cases he
     .rw[B] at he;injection he with he;grind
   .refine⟨tT.1,?_⟩;rcases tT.2 with X | ⟨b,cap,Qx,B,g2,g3,g4⟩
    .exact yH
    .exact .inr ⟨b,cap,Qx,B,g2,yH,g4⟩
 .have fp:j=L:=zo;subst fp;rw[<- tM,List.drop_length] at N;have N:m.iK s.tail = .ok f:=by grind [Vm.iK,P.Dh]
  rw[N] at hr;have hgj:=p.ext _ _ hg;have Oq:=p.ext _ _ px;have sd:=p.ext _ _ mN;have xN:s[0]<x.slots.length:=Q7 _ (a1S _);have pJ:((s[0]:Nat):Int).toNat=s[0]:=zo;have vW:((s[0]:Nat):Int)<(x.slots.length:Int):=zo;have hr:r = .ok (A,m.set (s.getD 0 0) (.term (.comp name f))):=(a1w hr).symm;have B:s.getD 0 0=s[0]:=zg;rw[B] at hr;refine dB K hgj dX (zA Oq (zA aOO (zA @pJ sd))) ?_;have af5:dK ρ m.n c (aj 175 (pp w.heap.size)) (.comp name f):=by
   unfold dK dI;exact⟨w.heap.size,_,us,J,trivial,M,Uy how uO.symm,kU.bJ (ry.ed p)⟩
  obtain⟨r1,r2⟩:=(h.ext p).apU sd (k:=s[0]) (y:=.term (.comp name f)) af5 J;subst hr;exact hR _ _ ⟨yF,J,ρ,eu.refl _ _,_,_,_,_,_,r1⟩
end
section
variable{D:Nat->Prop}{ρ:Nat->Nat}{e:AX}{av tv:Y}{di:List Y}{w w':Z}{m:Vm}
def agy
  (h:gi D ρ e av tv di w m) (hD:∀ b,w.heap.size<=b->D b) {x:Fm} {i:P.In} (hi:A2 w g o i) (hH:LM m x i) (hw:i.word=jR\/i.word=jm\/i.word=kE)
 (hr:vz dG d i m=O r) :
  Calls bbF 207 #[pp e.vb,pq g o] w (EPost D w (si D ρ m.n e.vb e.cb e.fk) r):=by
 suffices H:∀ R:Ending->Z->Prop,(∀ en w',EPost D w (si D ρ m.n e.vb e.cb e.fk) r en w'->R en w')->Calls bbF 207 #[pp e.vb,pq g o] w R from H _ fun _ _ h=>h;intro R N;obtain⟨hx,dA,iQ,vA,hz,lV,-⟩:=hH;have qk:=hi;obtain⟨word,name,con,s⟩:=i;simp only at hw;have c0:=h.cell;obtain⟨⟨Dd,E,-,-⟩,-,qR,Q,FR,FT⟩:=h.fs _ _ hx;obtain⟨cur,p,ho,iw,vM,⟨cv,iY,lJ⟩,sv,y,mG⟩:=hi;simp only at iw vM lJ y mG iY;have dD:Ext w w.drew:=yF;have l0:=bg c0;have lf:=bg E;have lr:=bg Q;have lg:=bg p;refine QZ ?_;unfold vz at hr;dsimp only at hr;have P0:s.length=1:=dA.one zg;obtain⟨k,rfl⟩:∃ k,s=[k]:=by match s,P0 with | [k],_=>grind
 have rq:=dA.sl;simp only at rq;obtain⟨nb,xx,mX,F,I,-⟩:=Lz mG (j:=0) zs;simp only[a2e,a3o] at mX I;subst mX;have lnb:=bg F;have pJ:((k:Nat):Int).toNat=k:=zo;obtain⟨aa,ac,q⟩:=gV h.ar;have L:=c0;rw[q] at L;simp only[List.getD_cons_zero] at hr;obtain⟨Qh,UH⟩:=Qy (by rw[q] at h;exact h.ar:w.ownsRow 0 342 5 (.slice aa m.bw.length ac) m.bw.length di);rcases hw with rfl | rfl | rfl
 .have B:cur[o]?=O (aT [116,114,121]):=iw
  iterate 10 rw[bM zd] at hr
  rw[zip rfl] at hr;have hr:=(a1w hr).symm;refine dB @L E p (zA @B y) ?_;have C:∀ {w1:Z},Ext w w1->Q1 342 w w1:=fun h b cs T _ S=>h.ext _ _ S;refine⟨fun w'=>Q1 342 w w',C dD,?_⟩;rw[jx];refine cQ (pq e.vb 5) (fun w' a=>eT) ?_;refine cQ (.slice aa m.bw.length ac) (fun w' a=>by have c:=a _ _ _ zo L;have:=bg c;exact fh c) ?_;rw[jx];refine cQ (pq e.vb 1) (fun w' a=>eT) ?_;rw[jx];refine cQ (pq e.vb 3) (fun w' a=>eT) ?_;refine cQ (pp (e.φ m.f)) (fun w' a=>by have c:=a _ _ _ zo L;have:=bg c;exact fh c) ?_;rw[jx];refine cQ (pq g (o+3)) (fun w' a=>eT) ?_;refine cQ (cS nb 1 xx.size) (fun w' a=>by have c:=a _ _ _ zo p;have:=bg c;exact lM c y) ?_;refine cQ (pp nb) (fun w' a=>eT) ?_;refine cQ (zi (k:Nat)) (fun w' a=>by have c:=a _ _ _ zo F;have:=bg c;exact lM c I) ?_;refine a1r (TR (h.ext dD).st Da) ?_;rintro en w1 ⟨rfl,rfl⟩;refine⟨C dD,?_⟩;refine bH ?_;obtain⟨U,BA⟩:∃ U:List Y,U=[zi (m.sr.tr.length:Nat),pp (e.φ m.f),zi (k:Nat),bW,bW]:=⟨_,J⟩;obtain⟨w2,jZ⟩:=cg (w.drew.alloc (ae U.toArray 342 (0,0)));have dT:Ext w w2:=yF;have g2:w2.heap[w.heap.size]?=aO U.toArray 342:=yH;have s2:w2.heap.size=w.heap.size+1:=yH;rw[BA] at jZ;rw[<- jZ];have h2:=h.ext dT;have q2:=h2.cell;rw[q] at q2;have W:=h2.ar;rw[q] at W;refine⟨C dT,?_⟩;refine apY W g2 zg (by rw[BA];intro u hu;simp only[List.mem_cons,List.not_mem_nil,or_false] at hu;rcases hu with rfl | rfl | rfl | rfl | rfl<;>rfl) zo zo ?_;intro v' w3 K5 Bz El;obtain⟨p3,d3,e3⟩:=gV K5;subst e3;have LC:nF D ρ m.n e.φ e.ψ m.fs.length w2 U [⟨m.sr.tr.length,m.f,k,[],[]⟩]:=
   ⟨bW,bW,[],[],zg,h.fl,oK.nil,⟨J,zg⟩,.inl ⟨J,J⟩,J⟩
  obtain⟨w4,jo⟩:=cg (bQ w3 e.vb (ae #[pp e.cb,tv,zi (m.sr.fuel:Nat),pp (e.φ m.f),zi (m.pc:Nat),.slice p3 (m.bw.length+1) d3] 116));obtain⟨X,r2,r3,r4⟩:=h2.Ll (l:=m.bw++[⟨m.sr.tr.length,m.f,k,[],[]⟩]) (by rw[List.length_append,a2e];exact K5) (by rw[q];exact Bz) (by rw[q];exact El.imp id fun hx g p=>⟨hD g (by have:=hx g p;omega),hx g p⟩) (h2.ag.snoc LC) jo;have c3:=r4.trans q2;refine⟨fun b cs T hT S=>by
   rw[Bz.block b (by have:=bg S;omega) (fun he=>by rw[<- q] at he;exact h.YV S hT he.symm)];exact dT.ext _ _ S,?_⟩
  refine cJ @c3 ?_;have Lx:bQ w3 e.vb (ae (po #[pp e.cb,tv,zi (m.sr.fuel:Nat),pp (e.φ m.f),zi (m.pc:Nat),.slice aa m.bw.length ac] 5 (Value.slice p3 (m.bw.length+1) d3).cells.toList) 116 (0,0))=w4:=jo.symm;first | rw[Lx] | rw[<- jo]
  subst hr;exact N _ _ ⟨(dc.ed dT).trans r2,J,ρ,eu.refl _ _,_,_,_,_,_,X⟩
 .have B:cur[o]?=O (aT [106,117,109,112]):=iw
  iterate 11 rw[bM zd] at hr
  rw[zip rfl] at hr;have hr:=(a1w hr).symm;refine dB @c0 E p (zA @B (zA y (zA F I))) ?_;obtain⟨X,r2⟩:=h.own (w':=bQ w e.vb (ae #[pp e.cb,tv,zi (m.sr.fuel:Nat),pp (e.φ m.f),zi (k:Nat),av] 116)) (f':=m.f) (pc':=k) yF yH h.fl;subst hr;exact N _ _ ⟨r2,J,ρ,eu.refl _ _,_,_,_,_,_,X⟩
 .have B:cur[o]?=O (aT [99,117,116]):=iw
  iterate 9 rw[bM zd] at hr
  rw[zip rfl] at hr;have hk:k<x.slots.length:=a1W (rq zd zd k (List.mem_singleton.2 J)) iQ;have vW:((k:Nat):Int)<(x.slots.length:Int):=zo;obtain⟨aYz,v,q1,q2,q3,q4⟩:=h.Q2 hx hk;rw[Q] at q1;cases q1;have Di:∀ {K:Prop},(r = .error (.fault 5)->K)->(m.slot k = .nil\/∃ t,m.slot k = .term t)->K:=zg;cases kl:m.slot k with
  | nil=>
   rw[kl] at q4 hr;have q4:v = ai:=q4;subst q4;cases hr;refine dB @c0 E p (zA @B (zA y (zA F (zA I (zA @pJ (zA Q @q3)))))) ?_;refine⟨fun _ _=>False,?_,by rintro _ _ h;exact h.elim⟩;refine bH ?_;exact N _ _ ⟨yF,J⟩
  | term t=>
   rw[kl] at q4 hr;cases hr;have q4:dK ρ m.n w v t:=q4;obtain⟨T,u,rfl,hT⟩:∃ T u,v = aj T u/\T≠201:=by
    cases t with
    | var i=>unfold dK dI at q4;grind
    | atom s=>unfold dK dI at q4;grind
    | int s=>unfold dK dI at q4;grind
    | comp s l=>unfold dK dI at q4;grind
   refine dB @c0 E p (zA @B (zA y (zA F (zA I (zA @pJ (zA Q (zA @q3 hT))))))) ?_;refine⟨fun _ _=>False,?_,by rintro _ _ h;exact h.elim⟩;refine bH ?_;exact N _ _ ⟨yF,J⟩
  | level n=>
   rw[kl] at q4 hr;have hr:=(a1w hr).symm;have q4:v = aj 201 (zi (n:Nat)):=q4;subst q4;obtain⟨M,hM⟩:=cg (min n m.bw.length);rw[<- hM] at hr;have hmx:(if (m.bw.length:Int)<(n:Int) then(m.bw.length:Int) else(n:Int))=(M:Int):=zo;have hMc:(M:Int)<=(ac:Int):=zo;refine dB @L E p (zA @B (zA y (zA F (zA I (zA @pJ (zA Q @q3)))))) ?_;refine⟨fun _ w'=>w'=w,?_,?_⟩
   .exact eT
   rintro z w2 rfl d2;clear d2;refine dB @aju @L hmx UH ?_;obtain⟨X,r2,-⟩:=(h.ext dD).forget (k:=M) (w1:=bQ w2.drew e.vb (ae #[pp e.cb,tv,zi (m.sr.fuel:Nat),pp (e.φ m.f),zi (m.pc:Nat),.slice aa M ac] 116)) zo q J;subst hr;exact N _ _ ⟨yF,J,ρ,eu.refl _ _,_,_,_,_,_,X⟩
def aqC
  (h:gi D ρ e av tv di w m) (hD:∀ b,w.heap.size<=b->D b) {x:Fm} {i:P.In} (hi:A2 w g o i) (Q:LM m x i) (hw:i.word=xf\/i.word=NA) (hC:yr w e.cb pb fk told dG) (tz:∀ p∈dG,∀ c∈p.clauses,zc c)
 (hr:vz dG d i m=O r) :
  Calls bbF 207 #[pp e.vb,pq g o] w (EPost D w (si D ρ m.n e.vb e.cb e.fk) r):=by
 suffices H:∀ R:Ending->Z->Prop,(∀ B w',EPost D w (si D ρ m.n e.vb e.cb e.fk) r B w'->R B w')->Calls bbF 207 #[pp e.vb,pq g o] w R from H _ fun _ _ h=>h;intro R I;obtain⟨hx,C,S,vA,hz,lV,-⟩:=Q;have T:=hi;obtain⟨word,name,con,s⟩:=i;simp only at hw;have c0:=h.cell;obtain⟨⟨Dd,q,-,-⟩,-,qR,U,FR,FT⟩:=h.fs _ _ hx;obtain⟨cur,u,ho,E,W,⟨cv,X,lJ⟩,sv,dX,mG⟩:=hi;simp only at E W lJ dX mG X;have K:Ext w w.drew:=yF;have l0:=bg c0;have lf:=bg q;have lr:=bg U;have lg:=bg u;refine QZ ?_;unfold vz at hr;dsimp only at hr;have L:=C.sl;simp only at L;have M:=C.qL;simp only at M;have US:∀ {a:Bool×Vm} {N:Ending} {w1:Z},si D ρ m.n e.vb e.cb e.fk a N w1->∃ v,N = ah v:=zg;rcases hw with rfl | rfl
 .have y:cur[o]?=O (aT [99,97,108,108]):=E
  iterate 12 rw[bM zd] at hr
  rw[zip rfl] at hr;refine dB @c0 q u @y ?_;refine a1r (aOF h hD hC (by grind [zc.sl]) hx T (r:=r) (fun k hk=>a1W (L zd zd k hk) S) M C.TA zo hr) ?_;intro B w3 hp;grind [EPost.agn]
 .have y:cur[o]?=O (aT [114,101,116]):=E
  iterate 13 rw[bM zd] at hr
  rw[zip zd,hx] at hr;simp only at hr;cases F:x.back with
  | none=>
   rw[F] at hr q;cases hr;simp (disch:=first|assumption|omega|simp only[zS]<;>omega|decide) only[zB,simprocAttr,kW,c0,q,u,y,BR];refine⟨fun _ _=>False,?_,by rintro _ _ h;exact h.elim⟩;simp (disch:=first|assumption|omega|simp only[zS]<;>omega|decide) only[zB,simprocAttr,kW,c0,q,BR];exact I _ _ ⟨yF,J⟩
  | some b=>
   rw[F] at hr q;have hr:=(a1w hr).symm;have py:=h.bk _ _ _ hx F;simp (disch:=first|assumption|omega|simp only[zS]<;>omega|decide) only[zB,simprocAttr,kW,c0,q,u,y,BR];refine⟨fun _ w'=>w'=w,?_,?_⟩
   .simp (disch:=first|assumption|omega|simp only[zS]<;>omega|decide) only[zB,simprocAttr,kW,c0,q,BR]
   rintro z w2 rfl d2;clear d2;have t:=c0;refine⟨fun w'=>Ext w2 w',K,?_⟩;rw[jx];refine cQ (pq e.vb 3) (fun w' j=>eT) ?_;refine cQ (pp (e.φ m.f)) (fun w' j=>by have l:=j.ext _ _ t;have:=bg l;exact fh l) ?_;rw[jx];refine cQ (pq (e.φ m.f) 3) (fun w' j=>eT) ?_;refine cQ (pp (e.φ b)) (fun w' j=>by have l:=j.ext _ _ q;have:=bg l;simp (disch:=first|assumption|omega|simp only[zS]<;>omega|decide) only[zB,simprocAttr,kW,l,BR]) ?_;rw[jx];refine cQ (pq e.vb 3) (fun w' j=>eT) ?_;refine cQ (pp (e.φ m.f)) (fun w' j=>by have l:=j.ext _ _ t;have:=bg l;exact fh l) ?_;rw[jx];refine cQ (pq (e.φ m.f) 4) (fun w' j=>eT) ?_;refine cQ (zi (x.pc:Nat)) (fun w' j=>by have l:=j.ext _ _ q;have:=bg l;exact fh l) ?_;rw[jx];refine cQ (pq e.vb 3) (fun w' j=>eT) ?_;refine cJ @t ?_;obtain⟨r1,r2⟩:=(h.ext K).own (w':=bQ w2.drew e.vb (ae #[pp e.cb,tv,zi (m.sr.fuel:Nat),pp (e.φ b),zi (x.pc:Nat),av] 116)) (f':=b) (pc':=x.pc) yF yH py;subst hr;exact I _ _ ⟨yF,J,ρ,eu.refl _ _,_,_,_,_,_,r1⟩
end
