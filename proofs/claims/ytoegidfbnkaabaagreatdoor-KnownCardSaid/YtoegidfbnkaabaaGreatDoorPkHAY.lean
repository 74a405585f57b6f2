/- A part of one proof (KV10, KV11, KV12, KV13, KV14). -/
import Derived.Test.YtoegidfbnkaabaaGreatDoorPkHAX
set_option linter.all false
set_option maxRecDepth 100000
set_option maxHeartbeats 8000000
open Option renaming some → O, none → V
open Go renaming Value → Y, World → Z
open Bool renaming true → A, false → G
open Go.Obj renaming cells → ae
open Go.Ending renaming returned → ah
open Go.Value renaming nilIface → ai, iface → aj
open Go.Calls renaming mono → a0c
open List renaming getElem?_eq_getElem → a0e, getElem_mem → a0D, length_singleton → a0S, getElem_cons_zero → a1Y
open Option.some renaming inj → a0g
open Go.World renaming ownsRow_nil → a0z
open Nat renaming lt_of_lt_of_le → a0E
open Go.Proofs.Tryz renaming prog → bac
namespace Go.Proofs.YtoegidfbnkaabaaGreatDoor
open P
open Go.RowKit Sx
variable{D:Nat->Prop}{R:Ending->Z->Prop}{W w w':Z}{X:Y->Z->Prop}{fm b base cb d g j k m n o pb told:Nat}{dI:List Pd}{r:Except jE (Bool×Vm)}{t:Tm}{v:Y}{xs:List Y}
def afq(name:Bs)(n:Nat)(b:name.length<=100)(a:n<80)(w:Z):Calls bac 71 #[aM name,zi (n:Nat)] w fun e w'=>e = ah (aM (P.keyOf name n))/\w'=w:=by
 refine aNt ?_;refine bD ?_;rw[LY _ _ zg];refine bD ?_;rw[wrap32 n a,aiA zk zk zo,LY _ _ zg];exact⟨by rw[P.keyOf,List.append_assoc];rfl,J⟩
def Tryz.aOo:(Tryz.prog.info? 20).map (fun i=>(i.zero,i.size,i.bytes))=O (O ai,1,16):=zk
def aOp(d:w.ownsRow base 20 1 v n xs){a:Y}
  (f:w.heap[b]?=aN #[a] 20) (q:a.oneCell'=A)
  (r:n<=100000000) (g:base<=w.heap.size) {K:Y->Z->Prop}
  (h:∀ v' w',w'.ownsRow base 20 1 v' (n+1) (xs++[a])->w.grownBy w' v.ownBlock->(v'.ownBlock=v.ownBlock\/∀ k,v'.ownBlock=O k->w.heap.size<=k)->K v' w') :
  WR bac (Builtin.append_ #[200,200] 200 #[v,cM b 1 m]) w K X:=by
 obtain⟨i,j,c⟩:=Option.map_eq_some_iff.1 Tryz.aOo;simp only[Prod.mk.injEq] at c;obtain⟨l,o,p⟩:=c;refine Sx.C6 (m:=1) (t:=200) (e:=20) zk j l o p J zo d f J (fun u hu=>?_) zo zo g h;grind
def afr{T size:Nat}(a:Ext w W)(e:W.ownsRow w.heap.size T size v n xs)(c:W.grownBy w' v.ownBlock):Ext w w':=by
 have:=a.size;have:=c.size;refine⟨c.os.trans a.os,c.tape.trans a.tape,c.output.trans a.output,zo,fun b o d _=>?_⟩;have lb:=bf d;rw[c.block b zo (fun he=>?_)]
 .exact a.ext _ _ d
 .rcases e.2 with⟨f,-⟩| ⟨h,cap,cur,g,g2,g3,g4⟩
  .rw[f] at he;cases he
  .rw[g] at he;injection he with he;grind
structure yf(w:Z)(cb pb fm told:Nat)(dI:List Pd):Prop where
 cell:w.heap[cb]?=aN #[.map (O pb),pp fm,zi (told:Nat)] 187
 dI:TK w pb dI
theorem yf.bI{w w':Z}{cb pb fm told:Nat}{dI:List Pd}(h:yf w cb pb fm told dI)(hk:eM w w')(hm:∀ l,w.heap[pb]?=O (eJ l)->w'.heap[pb]?=O (eJ l)):yf w' cb pb fm told dI:=
 ⟨hk _ _ _ (yM) h.cell,h.dI.bI hk hm⟩
theorem yf.fr(h:yf w cb pb fm told dI)(a:dc D w w'):yf w' cb pb fm told dI:=
 h.bI (dc.toI a) fun l hm=>a.block _ _ hm (by rintro ⟨_,cs',c,z,b,d⟩;cases b)
def P.apL(dI:List Pd)(i:P.In)(m:Vm):P.Out (Bool×Vm):=match dI.find? fun p=>p.name == i.name && p.arity == i.s.length with
 | none=>O (.error (.fault 10))
 | some p=>match p.clauses with
  | []=>O (.ok (G,m))
  | l=>match m.enter l (i.s.map m.slot) m.f m.pc m.br.length with
   | none=>V
   | some m=>O (.ok (A,m))
section
variable{D:Nat->Prop}{ρ:Nat->Nat}{e:AE}{av tv:Y}{di:List Y}{w w':Z}{m:Vm}
def aOq(h:fX D ρ e av tv di w m)(hD:∀ b,w.heap.size<=b->D b)(hC:yf w e.cb pb fm told dI)(se:∀ p∈dI,∀ c∈p.clauses,c.slots<=64){x:Fm}(hx:m.fs[m.f]?=O x){i:P.In}(hi:AH w g o i)
  (hk:∀ k∈i.s,k<x.slots.length) (wN:i.s.length<=60) (my:i.name.length<=20) (lL:m.br.length<=900000000) (hr:P.apL dI i m=O r) :
  Calls bac 215 #[pp e.vb,pq g o] w (EPost D w (rI D ρ m.n e.vb e.cb e.fm) r):=by
 suffices H:∀ R:Ending->Z->Prop,(∀ S w',EPost D w (rI D ρ m.n e.vb e.cb e.fm) r S w'->R S w')->Calls bac 215 #[pp e.vb,pq g o] w R from H _ fun _ _ h=>h;intro R hR;refine aMT ?_;obtain⟨cur,T,ho,iw,vD,aNd,sv,dX,mh⟩:=hi;have lg:=bf T;obtain⟨na,nc,mC⟩:∃ a c,sv = .slice a i.s.length c:=by
  obtain⟨a,c,h⟩:=mh.sl;exact⟨a,c,by simpa using h⟩
 subst mC;have c0:=h.cell;obtain⟨⟨CF,iH,-,-⟩,-,U,mn,Fx,Fy⟩:=h.fs _ _ hx;have aXy:∀ a,a<m.fs.length->e.ψ a<w.heap.size:=fun a ha=>by
  obtain⟨-,-,row,I,-⟩:=h.fs a _ (a0e ha);exact yH
 obtain⟨us,mW,L⟩:∃ us:List Y,us.length=i.s.length/\∀ j (W:j<i.s.length),us[j]?=U[i.s[j]]?/\∃ u,us[j]?=O u/\zh ρ m.n w u (m.slot i.s[j]):=by
  refine⟨i.s.map fun k=>(U[k]?).getD ai,zs,fun j W=>?_⟩;obtain⟨row,v,q1,q2,q3,q4⟩:=h.Ql hx (hk _ (a0D W));rw[mn] at q1;cases q1;have:(i.s.map fun k=>(U[k]?).getD ai)[j]?=O v:=by
   rw[List.getElem?_map,a0e W];simp [q3]
  exact⟨by rw[this,q3],v,this,q4⟩
 refine dy T dX ?_;refine⟨fun n z q=>∃ (j:Nat) (rC:Y),z 14=zi (j:Nat)/\z 5=rC/\j<=i.s.length/\n=i.s.length-j/\Ext w q/\q.ownsRow w.heap.size 20 1 rC j (us.take j),⟨_,0,bH,J,J,Nat.zero_le _,J,yF,by grind [a0z]⟩,?_⟩;intro n z dz q hI;clear dz;refine toPr ?_;obtain⟨j,rC,CJ,I,W,rfl,t,M⟩:=hI;obtain⟨pa,pc,FB⟩:=gX M;subst FB;have La:=t.ext _ _ c0;have NL:=t.ext _ _ iH;have rG:=t.ext _ _ mn;have hgj:=t.ext _ _ T;have lcj:=bf La;have aXA:=bf NL;have lrj:=bf rG;have lgj:=bf hgj;have sj:=t.size;by_cases hlt:j<i.s.length
 .have Cu:((j:Nat):Int)<(i.s.length:Int):=zo;have jJ:((j:Nat):Int).toNat=j:=zo;obtain⟨nb,xd,fU,oK,uJ,-⟩:=K3 mh hlt;simp only[Value.slice.injEq,true_and] at fU;obtain⟨rfl,rfl⟩:=fU;have NK:=t.ext _ _ oK;have oS:((i.s[j]:Nat):Int).toNat=i.s[j]:=zo;have vM:((i.s[j]:Nat):Int)<(x.slots.length:Int):=zg;obtain⟨e1,u,e2,hu⟩:=L j hlt;have hru:U[i.s[j]]?=O u:=zg;have Dt:us.take (j+1)=us.take j++[u]:=by
   grind [List.take_add_one]
  have TY:u.oneCell'=true:=by rcases hu.one with rfl | ⟨_,_,rfl⟩<;>rfl
  rcases hu.one with rfl | ⟨ut,ux,rfl⟩;all_goals
   refine dC CJ I Cu (zA NK (zA uJ (zA @jJ (zA La (zA NL (zA rG (zA hru @oS))))))) ?_;refine aOp (jM yH M) yH TY zo (by rw[size_alloc];omega) ?_;intro v' w' ti jz DE;obtain⟨CH,pc',IW⟩:=gX ti;subst IW;refine cG CJ ?_;exact⟨i.s.length-(j+1),zo,j+1,_,by first | rfl | simp [jg],by first | rfl | simp [jg],zo,J,afr yF (jM yH M) jz,by rw[Dt];exact ti⟩
 .have fx:j=i.s.length:=zo;subst fx;refine dy CJ I ?_;rw[List.take_of_length_le zo] at M;obtain⟨oD,l,jY,B⟩:=hC;have aXC:=bf oD;have B:=B i.name i.s.length zo;have F:∀ {w2:Z} {b:Nat} {o:Obj},Ext w w2->w.heap[b]?=O o->w2.heap[b]?=O o:=yF;refine⟨fun w'=>Ext w w',t.drew,?_⟩;rw[jx];refine cQ (pp e.vb) (fun w' C=>eQ) ?_;refine cQ (pp e.cb) (fun w' C=>by have E:=F C c0;have:=bf E;exact fg E) ?_;rw[jx];refine cQ (pp e.cb) (fun w' C=>eQ) ?_;refine cQ (.map (O pb)) (fun w' C=>by have E:=F C oD;have:=bf E;exact fg E) ?_;rw[jx];refine cQ (pq g (o+1)) (fun w' C=>eQ) ?_;refine cQ (aM i.name) (fun w' C=>by have E:=F C T;have:=bf E;exact lT E @vD) ?_;rw[I];refine bD ?_;refine a0c (afq i.name i.s.length zo zo _) ?_;rintro S w2 ⟨rfl,rfl⟩;refine⟨t.drew,?_⟩;have sx:Ext w q.drew:=t.drew;have wO:∀ {K:Y->Prop} {X:Y->Z->Prop},RD bac (Instr.lookup 184 (.map (O pb)) (.string (bs (P.keyOf i.name i.s.length))) G) q.drew K X=(match fH (P.keyOf i.name i.s.length) l 0 with
    | some (_,v)=>K v
    | none=>K (.slice V 0 0)):=fun{K X}=>by
   rw[KV (k:=9) (e:=192) zk zk (z:=bH) zk (sx.ext _ _ jY)];grind
  rw[wO];unfold P.apL at hr;cases Qp:fH (P.keyOf i.name i.s.length) l 0 with
  | none=>
   rw[Qp] at B;have B:dI.find? (fun p=>p.name == i.name && p.arity == i.s.length)=none:=B;rw[B] at hr;cases hr;refine⟨fun _ _=>False,?_,by rintro _ _ h;exact h.elim⟩;show RD _ _ _ _ _;rw[ae8];refine bD ?_;exact hR _ _ ⟨yF,J⟩
  | some iv=>
   obtain⟨iv1,v⟩:=iv;rw[Qp] at B;obtain⟨p,hp,pbk,aOu,aXE,vs,rfl,wK,aXF,hpt,jh⟩:=B;rw[hp] at hr;simp only at hr;refine⟨fun _ w'=>w'=q.drew,?_,?_⟩
   .show RD _ _ _ _ _;rw[ae8];exact eQ
   rintro s w3 rfl d;clear d;by_cases dZ:p.clauses=[]
   .have qF:(p.clauses.length:Int)=0:=zg;rw[dZ] at hr;cases hr;refine cG qF ?_;exact hR _ _ ⟨yF,J,ρ,eo.refl _ _,_,_,_,_,_,h.ext sx⟩
   .have qF:¬ (p.clauses.length:Int)=0:=fun h=>dZ (List.eq_nil_of_length_eq_zero zo);obtain⟨m',po,hr⟩:∃ m',m.enter p.clauses (i.s.map m.slot) m.f m.pc m.br.length=O m'/\r = .ok (A,m'):=by
     grind
    obtain⟨aa,ac,gi⟩:=gX h.ar;have N:q.drew.heap[e.vb]?=_:=La;rw[gi] at N;refine dy qF @N ?_;have TZ:Ext w q.drew.drew:=sx.drew;have IP:vs.length=p.clauses.length:=jh.1;have aXG:vs≠[]:=zg;have hso:n9 q.drew.drew 185 (cM pbk p.clauses.length aOu) vs:=.inr yH;have aOw:yd D ρ m.n e.ψ m.fs.length q.drew.drew (.slice pa i.s.length pc) (i.s.map m.slot):=by
     have hsm:CB ρ m.n q.drew.drew us.toArray (i.s.map m.slot):=fun a y Q=>by
      rw[List.getElem?_map] at Q;cases hq:i.s[a]? with
      | none=>grind
      | some k=>
       rw[hq] at Q;obtain⟨ha,VV⟩:=List.getElem?_eq_some_iff.1 hq;obtain⟨-,u,g1,g2⟩:=L a ha;rw[VV] at g2;cases Q;exact⟨u,zg,g2.bI (eM.ea TZ) (eo.refl _ _)⟩
     rcases M.2 with⟨h1,h2⟩| ⟨b,cap,PL,h1,h2,h3,h4,I,h6,h7⟩
     .have:i.s=[]:=zg;exact .inl zg
     .rw[h1];refine .inr ⟨b,cap,PL,zs,zg,h3,zo,fun a y Q=>?_,zg⟩;obtain⟨u,g1,g2⟩:=hsm a y Q;grind
    have Py:p∈dI:=zg;refine a0c (apf (h.ext TZ) yH (l:=p.clauses) (args:=i.s.map m.slot) (f:=m.f) (pc:=m.pc) (n:=m.br.length) (m':=m') hso (jh.bI (eM.ea TZ)) aOw h.fl zo lL zg zg po) ?_;rintro S w4 ⟨rfl,fZ,h4⟩;refine bD ?_;subst hr;have hn:m'.n=m.n:=by
     unfold Vm.enter at po;grind
    exact hR _ _ ⟨(dc.ea TZ).trans fZ,J,ρ,⟨zg,zg⟩,h4⟩
end
def P.CK(l:List Tm):Except jE (List Tm)->Except jE (List Tm)
 | .ok r=>.ok (l++r)
 | .error e=>.error e
def P.afv(m:Vm)(k:Nat)(r:List Nat):m.iL (k::r)=match P.vC (m.slot k) with | .error e=>.error e | .ok t=>P.CK [t] (m.iL r):=by
 rw[Vm.iL];cases m.slot k with
 | term t=>simp only[P.vC];cases m.iL r<;>rfl
 | nil=>rfl
 | level n=>rfl
def P.afw{m:Vm}{ks:List Nat}(c:j<ks.length){a:List Tm}(h:m.iL ks=P.CK a (m.iL (ks.drop j))) :
  match P.vC (m.slot ks[j]) with | .error t=>m.iL ks = .error t | .ok t=>m.iL ks=P.CK (a++[t]) (m.iL (ks.drop (j+1))):=by
 rw[List.drop_eq_getElem_cons c,P.afv] at h;cases b:P.vC (m.slot ks[j]) with
 | error t=>rw[b] at h;exact h
 | ok t=>
  rw[b] at h;simp only at h ⊢;rw[h];cases m.iL (ks.drop (j+1))<;>simp [P.CK]
def P.Yk{y:Sl}(h:P.vC y = .ok t):y = .term t:=by
 cases y with
 | term u=>grind [P.vC]
 | nil=>cases h
 | level n=>cases h
theorem P.Yl{m:Vm}{x:Fm}(hx:m.fs[m.f]?=O x)(b:∀ y∈x.slots,Aq y)(k:Nat)(h:P.vC (m.slot k) = .ok t):ef t:=by
 have h:=P.Yk h;unfold Vm.slot at h;rw[hx] at h;simp only[List.getD_eq_getElem?_getD] at h;cases a:x.slots[k]? with
 | none=>grind
 | some y=>
  rw[a] at h;have h:y = .term t:=h;subst h;exact b _ (List.mem_of_getElem? a)
section
variable{D:Nat->Prop}{ρ:Nat->Nat}{e:AE}{av tv:Y}{di:List Y}{w w':Z}{m:Vm}
def fX.part(h:fX D ρ e av tv di w m){q:Except jE (Bool×Sr)}(hr:P.Out.bind (O q) (fun p=>O (.ok (p.1,{ m with sr:=p.2 })))=O r){b:Ending}
  (a:EPost (Dn D av w) w (wU (Dn D av w) ρ m.n e.vb 1 116 (G4 e.cb (pp (e.φ m.f)) (zi (m.pc:Nat)) av)) q b w'):EPost D w (rI D ρ m.n e.vb e.cb e.fm) r b w':=by
 obtain⟨c,a⟩:=a;cases q with
 | error t=>
  cases hr;exact⟨c.up fun _ h=>h.1,a⟩
 | ok p=>
  cases hr;obtain⟨rfl,j,d⟩:=a;obtain⟨g,i⟩:=h.store d c;exact⟨i,J,ρ,eo.refl _ _,_,_,_,_,_,g⟩
theorem EPost.afx{D:Nat->Prop}{w:Z}{α:Type}{Q:α->Ending->Z->Prop}(f:∀ {a e w},Q a e w->∃ v,e = ah v){r:Except jE α}{b:Ending}{w':Z}(h:EPost D w Q r b w')(d:∀ b w',EPost D w Q r b w'->R b w') :
  ends (fun x w'=>R (ah x) w') (PC R) b w':=by
 cases b with
 | returned v=>exact d _ _ h
 | panicked c=>exact d _ _ h
 | outgrown=>
  obtain⟨-,h⟩:=h;cases r with
  | ok a=>grind
  | error t=>cases t<;>cases h
def EPost.apP{D:Nat->Prop}{w:Z}{α:Type}{Q:α->Ending->Z->Prop}(f:∀ {a e w},Q a e w->∃ v,e = ah v){r:Except jE α}{b:Ending}{w':Z}(h:EPost D w Q r b w')(d:∀ b w',EPost D w Q r b w'->R b w') :
  ends (fun x w'=>R (ah x) w') (LB R) b w':=by
 cases b with
 | returned v=>exact d _ _ h
 | panicked c=>exact fun _=>d _ _ h
 | outgrown=>
  obtain⟨-,h⟩:=h;cases r with
  | ok a=>grind
  | error t=>cases t<;>cases h
structure Lc(m:Vm)(x:Fm)(i:P.In):Prop where
 hx:m.fs[m.f]?=O x
 ok:um x.code.slots i
 sl:x.code.slots<=x.slots.length
 tm:∀ y∈x.slots,Aq y
 cS:m.sr.cS<=800000000
 br:m.br.length<900000000
 small:∀ k∈i.s,k<100000
def Ym(h:fX D ρ e av tv di w m)(hD:∀ b,w.heap.size<=b->D b){x:Fm}{i:P.In}(hi:AH w g o i)(hH:Lc m x i)(hw:i.word=P.ug\/i.word=E3\/i.word=vh\/i.word=qO)
 (hr:vi dI d i m=O r) :
  Calls bac 207 #[pp e.vb,pq g o] w (EPost D w (rI D ρ m.n e.vb e.cb e.fm) r):=by
 suffices H:∀ R:Ending->Z->Prop,(∀ T w',EPost D w (rI D ρ m.n e.vb e.cb e.fm) r T w'->R T w')->Calls bac 207 #[pp e.vb,pq g o] w R from H _ fun _ _ h=>h;intro R hR;obtain⟨hx,N,iA,vj,hz,lL,-⟩:=hH;obtain⟨word,name,con,s⟩:=i;simp only at hw;have c0:=h.cell;obtain⟨⟨CF,u,-,-⟩,-,qu,z,Fx,Fy⟩:=h.fs _ _ hx;obtain⟨cur,B,ho,C,vD,⟨cv,U,W⟩,sv,p,X⟩:=hi;simp only at C vD W p X U;have l:Ext w w.drew:=yF;have lr:=bf z;have O9:s.length=1:=N.one zg;have qP:=N.sl (by rcases hw with h | h | h | h<;>(simp only[h];decide)) (by rcases hw with h | h | h | h<;>(simp only[h];decide));simp only at qP;obtain⟨k,rfl⟩:∃ k,s=[k]:=by match s,O9 with | [k],_=>grind
 have hk:k<x.slots.length:=a0E (qP k (List.mem_singleton.2 J)) iA;obtain⟨nb,xd,mC,K,E,-⟩:=K3 X (j:=0) zs;simp only[a0S,a1Y] at mC E;subst mC;have L:((k:Nat):Int).toNat=k:=zo;have vM:((k:Nat):Int)<(x.slots.length:Int):=zo;refine Qi ?_;unfold vi at hr;simp only[List.getD_cons_zero] at hr;have M:∀ {eL:Nat->Nat} {F:Nat} {I:Z} {v:Y} {y:Sl},Ext w I->eo ρ m.n eL F->fX D eL e av tv di I { m with n:=F }->zh eL F I v y->r = .ok (A,{ m.set k y with n:=F }) ->
   R (ah (.bool A)) (bO I (e.ψ m.f) (ae (qu.setIfInBounds k v) 20 (0,0))):=by
  intro eL F I v y hE hu Q hy hr;subst hr;obtain⟨r1,r2⟩:=Q.ao9 (hE.ext _ _ z) (k:=k) hy J;exact hR _ _ ⟨(dc.ea hE).trans r2,J,eL,hu,_,_,_,_,_,r1⟩
 rcases hw with rfl | rfl | rfl | rfl
 .have q:cur[o]?=O (aM [110,101,119]):=C;rw[zip rfl] at hr;have hr:=(a0g hr).symm;refine dC @c0 u B (zA @q (zA p (zA K (zA E (zA @L z))))) ?_;have Kx:Ext w (w.alloc (ae #[ai] 91)):=yF;obtain⟨eL,hu,hn,Q⟩:=h.fresh hD Kx yH;refine M Kx hu Q ?_ hr;show dL eL (m.n+1) (w.alloc (ae #[ai] 91)) (aj 87 (pp w.heap.size)) (.var m.n);unfold dL dH;exact yH
 .have q:cur[o]?=O (aM [112,117,116]):=C;rw[bX zd,zip zd] at hr;have hr:=(a0g hr).symm;obtain⟨t,rfl,ht,htc⟩:=N.con (.inl J);have T3:dL ρ m.n w.drew cv t:=W.ep;obtain⟨ct,cx,rfl⟩:=T3.iface;refine dC @c0 u B (zA @q (zA p (zA K (zA E (zA @L (zA U z)))))) ?_;exact M l (eo.refl _ _) (h.ext l) (y:=.term t) T3 hr
 .have q:cur[o]?=O (aM [109,97,114,107]):=C
  iterate 7 rw[bX zd] at hr
  rw[zip rfl] at hr;have hr:=(a0g hr).symm;refine dC @c0 u B (zA @q p) ?_;refine⟨fun w'=>Ext w w',l,?_⟩;rw[jx];refine cQ (pq g (o+3)) (fun w' a=>eQ) ?_;refine cQ (cM nb 1 xd.size) (fun w' a=>by have c:=a.ext _ _ B;have:=bf c;exact lT c p) ?_;refine cQ (pp nb) (fun w' a=>eQ) ?_;refine cQ (zi (k:Nat)) (fun w' a=>by have c:=a.ext _ _ K;have:=bf c;exact lT c E) ?_;refine dC @c0 u @L z ?_;refine⟨l,?_⟩;rw[hx] at hr;exact M l (eo.refl _ _) (h.ext l) (y:=.level x.entry) J hr
 .have q:cur[o]?=O (aM [108,101,118,101,108]):=C
  iterate 8 rw[bX zd] at hr
  rw[zip rfl] at hr;have hr:=(a0g hr).symm;obtain⟨aa,ac,gi⟩:=gX h.ar;have S:=c0;rw[gi] at S;refine dC @S u B (zA @q p) ?_;refine⟨fun w'=>Ext w w',l,?_⟩;rw[jx];refine cQ (pq g (o+3)) (fun w' a=>eQ) ?_;refine cQ (cM nb 1 xd.size) (fun w' a=>by have c:=a.ext _ _ B;have:=bf c;exact lT c p) ?_;refine cQ (pp nb) (fun w' a=>eQ) ?_;refine cQ (zi (k:Nat)) (fun w' a=>by have c:=a.ext _ _ K;have:=bf c;exact lT c E) ?_;refine dC @S u @L z ?_;refine⟨l,?_⟩;exact M l (eo.refl _ _) (h.ext l) (y:=.level m.br.length) J hr
end
section
variable{D:Nat->Prop}{ρ:Nat->Nat}{e:AE}{av tv:Y}{di:List Y}{w w':Z}{m:Vm}
theorem P.afz{t:Tm}(ht:ef t):∀ {l:List Tm},ji l->ji (l++[t])
 | [],_=>by simp only[List.nil_append];unfold ji;exact⟨ht,by unfold ji;trivial⟩
 | a::l,h=>by
  unfold ji at h;show ji (a::(l++[t]));unfold ji;exact⟨h.1,P.afz ht h.2⟩
theorem P.afA{m:Vm}{x:Fm}(hx:m.fs[m.f]?=O x)(a:∀ y∈x.slots,Aq y){i:P.In}(h:m.at i k = .ok t):ef t:=by
 grind [P.ae0,P.Yl,Yl,ae0]
def afB
  (h:fX D ρ e av tv di w m) (hD:∀ b,w.heap.size<=b->D b) {x:Fm} {i:P.In} (W:AH w g o i) (hH:Lc m x i) (hw:i.word=DK\/i.word=E5\/i.word=Is)
 (hr:vi dI d i m=O r) :
  Calls bac 207 #[pp e.vb,pq g o] w (EPost D w (rI D ρ m.n e.vb e.cb e.fm) r):=by
 suffices H:∀ R:Ending->Z->Prop,(∀ f w',EPost D w (rI D ρ m.n e.vb e.cb e.fm) r f w'->R f w')->Calls bac 207 #[pp e.vb,pq g o] w R from H _ fun _ _ h=>h;intro R E;obtain⟨hx,y,iA,vj,hz,lL,-⟩:=hH;have M:=W;obtain⟨word,name,con,s⟩:=i;simp only at hw;have c0:=h.cell;obtain⟨⟨CF,T,-,-⟩,-,qu,mn,Fx,Fy⟩:=h.fs _ _ hx;obtain⟨cur,N,ho,Q,vD,⟨cv,X,lD⟩,sv,dX,mh⟩:=W;simp only at Q vD lD dX mh X;have l:Ext w w.drew:=yF;refine Qi ?_;unfold vi at hr;dsimp only at hr;have qP:=y.sl (by rcases hw with h | h | h<;>(simp only[h];decide)) (by rcases hw with h | h | h<;>(simp only[h];decide));simp only at qP;have Qq:∀ k∈s,k<x.slots.length:=zg;have wN:=y.ql;simp only at wN;have T5:∀ {a:Bool×Vm} {e1:Ending} {w1:Z},rI D ρ m.n e.vb e.cb e.fm a e1 w1->∃ v,e1 = ah v:=zg;rcases hw with rfl | rfl | rfl
 .have F:cur[o]?=O (aM [99,111,110,115,116]):=Q
  iterate 2 rw[bX zd] at hr
  rw[zip zd] at hr;have O9:s.length=1:=y.one zg;obtain⟨t0,rfl,Kf,htc⟩:=y.con (.inr J);have T3:dL ρ m.n w cv t0:=lD.ep;obtain⟨ct,cx,rfl⟩:=T3.iface;refine dC @c0 T N @F ?_;refine⟨fun w'=>Ext w w',l,?_⟩;rw[jx];refine cQ (pq e.vb 1) (fun w' S=>eQ) ?_;rw[jx];refine cQ (pq g (o+2)) (fun w' S=>eQ) ?_;refine cQ (aj ct cx) (fun w' S=>by have h9:=S.ext _ _ N;have:=bf h9;exact lT h9 X) ?_;have U:=h.ext l;refine a0c (Ya U hx (M.bI (eM.ea l)) (k:=0) zg (by grind [a0D]) zo) ?_;rintro f w2 ⟨rfl,c⟩;have j:Ext w w.drew.drew:=l.drew;cases I:m.at ⟨DK,name,O t0,s⟩ 0 with
  | error t=>
   rw[I] at hr c;have hr:=(a0g hr);subst hr;have c:f=gV t:=c;subst c;cases t<;>exact fun _=>E _ _ ⟨yF,J⟩
  | ok t=>
  rw[I] at hr c;obtain⟨v,rfl,hv⟩:=c;have hr:P.Out.bind (lH d t t0 m.sr) (fun p=>O (.ok (p.1,{ m with sr:=p.2 })))=O r:=hr;refine⟨j,?_⟩;cases z:lH d t t0 m.sr with
  | none=>rw[z] at hr;cases hr
  | some q=>
  rw[z] at hr;have K:=h.ext j;refine a0c (Pz CC d K.less (K.dn hD) hv (by grind [P.afA]) (T3.bI (qT.ea j)) Kf zo z) ?_;intro f w3 c;have c:=K.part hr c;exact EPost.apP T5 (c.of (dc.ea j)) E
 .have F:cur[o]?=O (aM [115,97,109,101]):=Q
  iterate 3 rw[bX zd] at hr
  rw[zip zd] at hr;have L:s.length=2:=y.same J;refine dC @c0 T N @F ?_;refine⟨fun w'=>Ext w w',l,?_⟩;rw[jx];refine cQ (pq e.vb 1) (fun w' S=>eQ) ?_;have U:=h.ext l;refine a0c (Ya U hx (M.bI (eM.ea l)) (k:=0) zg (by grind [a0D]) zo) ?_;rintro f w2 ⟨rfl,c⟩;have j:Ext w w.drew.drew:=l.drew;cases I:m.at ⟨E5,name,con,s⟩ 0 with
  | error t=>
   rw[I] at hr c;have hr:=(a0g hr);subst hr;have c:f=gV t:=c;subst c;cases t<;>exact fun _=>E _ _ ⟨yF,J⟩
  | ok t=>
  rw[I] at hr c;obtain⟨v,rfl,hv⟩:=c;refine⟨j,?_⟩;have K:=h.ext j;have B:Ext w w.drew.drew.drew:=j.drew;refine a0c (Ya K hx (M.bI (eM.ea j)) (k:=1) zg (by grind [a0D]) zo) ?_;rintro f w2 ⟨rfl,c⟩;simp only[Iq] at hr;cases vP:m.at ⟨E5,name,con,s⟩ 1 with
  | error t=>
   rw[vP] at hr c;have hr:=(a0g hr);subst hr;have c:f=gV t:=c;subst c;cases t<;>exact fun _=>E _ _ ⟨yF,J⟩
  | ok u=>
  rw[vP] at hr c;obtain⟨v2,rfl,jZ⟩:=c;refine⟨B,?_⟩;have hr:P.Out.bind (lH d t u m.sr) (fun p=>O (.ok (p.1,{ m with sr:=p.2 })))=O r:=hr;cases z:lH d t u m.sr with
  | none=>rw[z] at hr;cases hr
  | some q=>
  rw[z] at hr;have C:=h.ext B;refine a0c (Pz CC d C.less (C.dn hD) (hv.bI (qT.ea yF)) (by grind [P.afA]) jZ (by grind [P.afA]) zo z) ?_;intro f w3 c;have c:=C.part hr c;exact EPost.apP T5 (c.of (dc.ea B)) E
 .have F:cur[o]?=O (aM [115,112,108,105,116]):=Q
  iterate 5 rw[bX zd] at hr
  rw[zip zd] at hr;have L:2<=s.length:=y.two (.inr J);refine dC @c0 T N @F ?_;have JH:m.sr.tr.length+m.sr.fuel<=800000000:=hz;refine a0c (aNc h hD hx M (d:=d) (r:=r) L Qq wN y.SH (by grind [acB]) zo ?_) ?_
  .rw[<- hr];rfl
  .intro f w3 c;grind [EPost.afx]
def aOx
  (h:fX D ρ e av tv di w m) (hD:∀ b,w.heap.size<=b->D b) {x:Fm} {i:P.In} (W:AH w g o i) (hH:Lc m x i) (hw:i.word=nk)
 (hr:vi dI d i m=O r) :
  Calls bac 207 #[pp e.vb,pq g o] w (EPost D w (rI D ρ m.n e.vb e.cb e.fm) r):=by
 suffices H:∀ R:Ending->Z->Prop,(∀ y w',EPost D w (rI D ρ m.n e.vb e.cb e.fm) r y w'->R y w')->Calls bac 207 #[pp e.vb,pq g o] w R from H _ fun _ _ h=>h;intro R X;obtain⟨hx,M,iA,vj,hz,lL,-⟩:=hH;have pJ:=W;obtain⟨word,name,con,s⟩:=i;simp only at hw;have c0:=h.cell;obtain⟨⟨CF,iH,-,-⟩,-,qu,mn,Fx,Fy⟩:=h.fs _ _ hx;obtain⟨cur,hg,ho,iw,vD,⟨cv,jb,lD⟩,sv,dX,mh⟩:=W;simp only at iw vD lD dX mh jb;refine Qi ?_;unfold vi at hr;dsimp only at hr;subst hw;have qP:=M.sl (by simp only;decide) (by simp only;decide);simp only at qP;have Qq:∀ k∈s,k<x.slots.length:=zg;have wN:=M.ql;simp only at wN;have nM:cur[o]?=O (aM [116,101,115,116]):=iw
 iterate 6 rw[bX zd] at hr
 rw[zip zd] at hr;have aXH:jK name=s.length:=M.test J;obtain⟨na,nc,mC⟩:∃ a c,sv = .slice a s.length c:=by
  obtain⟨a,c,h⟩:=mh.sl;exact⟨a,c,by simpa using h⟩
 subst mC;have T5:∀ {a:Bool×Vm} {e1:Ending} {w1:Z},rI D ρ m.n e.vb e.cb e.fm a e1 w1->∃ v,e1 = ah v:=zg;refine dC @c0 iH hg (zA @nM dX) ?_;refine⟨fun n z C=>∃ (j:Nat) (N:Y) (us:List Y) (l:List Tm),z 128=zi (j:Nat)/\z 8=N/\j<=s.length/\n=s.length-j/\Ext w C/\C.ownsRow w.heap.size 89 1 N j us/\us.length=j/\pE ρ m.n w us l/\ji l/\m.iL s=P.CK l (m.iL (s.drop j)),
  ⟨_,0,bH,[],[],J,J,Nat.zero_le _,J,yF,a0z _ _ _ _,J,by unfold pE iG;rfl,by unfold ji;trivial,by rw[List.drop_zero];cases m.iL s<;>rfl⟩,?_⟩
 intro n z dz C hI;clear dz;refine toPr ?_;obtain⟨j,N,us,l,F,Q,hj,rfl,E,S,uz,T,U,I⟩:=hI;obtain⟨pa,pc,FB⟩:=gX S;subst FB;have sj:=E.size;have K:Ext w C.drew:=E.drew;by_cases hlt:j<s.length
 .have Cu:(j:Int)<(s.length:Int):=zo;refine iJ F Q Cu ?_;have Td:=h.ext E;refine a0c (ae1 Td hx (pJ.bI (eM.ea E)) (k:=j) hlt (by grind [a0D]) zo) ?_;rintro y w2 ⟨rfl,row,v,eO,L,-,f⟩;have B:=P.afw hlt I;simp only at f;rw[E.ext _ _ mn] at eO;cases eO;cases u:P.vC (m.slot s[j]) with
  | error t=>
   rw[u] at f B;rw[show m.iL s = .error t from B] at hr;have hr:=(a0g hr);subst hr;have f:y=gV t:=f;subst f;cases t<;>exact X _ _ ⟨yF,J⟩
  | ok t=>
   rw[u] at f B;have B:m.iL s=P.CK (l++[t]) (m.iL (s.drop (j+1))):=B;have f:y = ah v:=f;subst f;obtain⟨afG,v2,q1,q2,q3,q4⟩:=h.Ql hx (Qq _ (a0D hlt));rw[mn] at q1;cases q1;rw[q3] at L;injection L with L;subst L;rw[P.Yk u] at q4;have q4:dL ρ m.n w v2 t:=q4;have apR:ef t:=(by grind [P.Yl]);have TY:v2.oneCell'=true:=by obtain⟨a,b,rfl⟩:=q4.iface;rfl
   obtain⟨vt,vx,T6⟩:=q4.iface;rw[T6];refine dy F Q ?_;rw[<- T6];have CG:(C.drew.alloc (ae #[v2] 89)).ownsRow w.heap.size 89 1 (.slice pa j pc) j us:=jM yH S;refine PD CG yH TY zo (yH) ?_;intro v' w' ti jz DE;obtain⟨CH,pc',IW⟩:=gX ti;subst IW;refine cG F ?_;refine⟨s.length-(j+1),zo,j+1,_,us++[v2],l++[t],zg,zg,zo,J,afr yF CG jz,ti,zg,T.snoc q4,?_,B⟩;grind [P.afz]
 .have fx:j=s.length:=zo;subst fx;rw[List.drop_length] at I;have I:m.iL s = .ok l:=by grind [Vm.iL,P.CK]
  rw[I] at hr;have rh:=K.ext _ _ hg;refine dC F Q rh @vD ?_;have hr:P.Out.bind (xI d name l m.sr) (fun p=>O (.ok (p.1,{ m with sr:=p.2 })))=O r:=hr;cases u:xI d name l m.sr with
  | none=>rw[u] at hr;cases hr
  | some q=>
  rw[u] at hr;have xr:=h.ext K;have uf:l.length=s.length:=by rw[<- T.length,uz]
  refine a0c (anO CC (r:=q) xr.less (by grind [BH,fX.dn]) ((TF S uz.symm).mono zg yH) (T.bI (qT.ea K)) U zo zo u) ?_;intro y w3 f;have f:=xr.part hr f;exact EPost.afx T5 (f.of (dc.ea K)) X
end
section
variable{D:Nat->Prop}{ρ:Nat->Nat}{e:AE}{av tv:Y}{di:List Y}{w w':Z}{m:Vm}
def aOy
  (h:fX D ρ e av tv di w m) (hD:∀ b,w.heap.size<=b->D b) {x:Fm} {i:P.In} (hi:AH w g o i) (hH:Lc m x i) (hw:i.word=Ir)
 (hr:vi dI d i m=O r) :
  Calls bac 207 #[pp e.vb,pq g o] w (EPost D w (rI D ρ m.n e.vb e.cb e.fm) r):=by
 suffices H:∀ R:Ending->Z->Prop,(∀ E w',EPost D w (rI D ρ m.n e.vb e.cb e.fm) r E w'->R E w')->Calls bac 207 #[pp e.vb,pq g o] w R from H _ fun _ _ h=>h;intro R hR;obtain⟨hx,I,iA,vj,hz,lL,-⟩:=hH;have pJ:=hi;obtain⟨word,name,con,s⟩:=i;simp only at hw;have c0:=h.cell;obtain⟨⟨CF,iH,-,-⟩,-,qu,mn,Fx,Fy⟩:=h.fs _ _ hx;obtain⟨cur,hg,ho,iw,vD,⟨cv,jb,lD⟩,sv,dX,mh⟩:=hi;simp only at iw vD lD dX mh jb;have lg:=bf hg;refine Qi ?_;unfold vi at hr;dsimp only at hr;subst hw;have qP:=I.sl (by simp only;decide) (by simp only;decide);simp only at qP;have Qq:∀ k∈s,k<x.slots.length:=zg;have wN:=I.ql;have my:=I.SH;simp only at wN my;have nM:cur[o]?=O (aM [109,97,107,101]):=iw
 iterate 4 rw[bX zd] at hr
 rw[zip zd] at hr;have h2s:2<=s.length:=I.two (.inl J);obtain⟨L,K9⟩:=b9 (s.length-1);have sQ:s.tail.length=L:=zg;obtain⟨nb,xd,mC,oK,aOz,xE⟩:=K3 mh (j:=0) zo;subst mC;have ae3:(1:Int)<=(s.length:Int):=zo;have za:sliced (O ⟨nb,0,V⟩) 1 s.length xd.size 1 = .slice (O ⟨nb,1,V⟩) L (xd.size-1):=by
  unfold sliced;rw[bX zo,K9];simp [Addr.add]
 refine dC @c0 iH hg (zA @nM (zA dX (zA @vD za))) ?_;obtain⟨wc,Yj⟩:=b9 (w.alloc (ae #[aM name,bH] 180));have hEc:Ext w wc:=yF;have sc:wc.heap.size=w.heap.size+1:=yH;have qh:wc.heap[w.heap.size]?=aN #[aM name,bH] 180:=yH;rw[<- Yj];refine⟨fun n z c=>∃ (j:Nat) (rC:Y) (us:List Y) (f:List Tm),z 88=zi (j:Nat)/\j<=L/\n=L-j/\Ext w c/\w.heap.size<c.heap.size/\c.heap[w.heap.size]?=aN #[aM name,rC] 180 /\
   c.ownsRow (w.heap.size+1) 89 1 rC j us/\us.length=j/\pE ρ m.n w us f/\ji f/\m.iL s.tail=P.CK f (m.iL (s.tail.drop j)),
  ⟨_,0,bH,[],[],J,Nat.zero_le _,J,hEc,zo,qh,a0z _ _ _ _,J,by unfold pE iG;rfl,by unfold ji;trivial,by rw[List.drop_zero];cases m.iL s.tail<;>rfl⟩,?_⟩
 intro n z dz c hI;clear dz;refine toPr ?_;obtain⟨j,rC,us,f,K,hj,rfl,p,jc,M,rJ,uz,kP,afF,N⟩:=hI;obtain⟨pa,pc,FB⟩:=gX rJ;subst FB;have sj:=p.size;have Q:Ext w c.drew:=p.drew;have XH:=bf M;by_cases hlt:j<L
 .have Cu:(j:Int)<(L:Int):=zo;refine dy K Cu ?_;refine⟨fun w'=>w'.heap[w.heap.size]?=c.heap[w.heap.size]?,J,?_⟩;try rw[jx]
  refine cQ (pq w.heap.size 1) (fun w' S=>eQ) ?_;refine cQ (.slice pa j pc) (fun w' S=>by rw[M] at S;have:=bf S;exact fg S) ?_;try rw[K]
  refine bD ?_;have Td:=h.ext Q;have Pp:j+1<s.length:=zo;rw[show(j:Int)+1=((j+1:Nat):Int) by omega];refine a0c (ae1 Td hx (pJ.bI (eM.ea Q)) (k:=j+1) Pp (by grind [a0D]) zo) ?_;rintro E w2 ⟨rfl,row,v,eO,U,-,l⟩;have TZ:Ext w c.drew.drew:=Q.drew;have q:=P.afw (j:=j) zo N;have htg:s.tail[j]' zo=s[j+1]:=zs;rw[htg] at q;simp only at l;rw[Q.ext _ _ mn] at eO;cases eO;cases hq:P.vC (m.slot s[j+1]) with
  | error t=>
   rw[hq] at l q;rw[show m.iL s.tail = .error t from q] at hr;have hr:=(a0g hr);subst hr;have l:E=gV t:=l;subst l;cases t<;>exact fun _=>hR _ _ ⟨yF,J⟩
  | ok t=>
   rw[hq] at l q;have q:m.iL s.tail=P.CK (f++[t]) (m.iL (s.tail.drop (j+1))):=q;have l:E = ah v:=l;subst l;obtain⟨afG,v2,q1,q2,q3,q4⟩:=h.Ql hx (Qq _ (a0D Pp));rw[mn] at q1;cases q1;rw[q3] at U;injection U with U;subst U;rw[P.Yk hq] at q4;have q4:dL ρ m.n w v2 t:=q4;have apR:ef t:=(by grind [P.Yl]);have TY:v2.oneCell'=true:=by obtain⟨a,b,rfl⟩:=q4.iface;rfl
   obtain⟨vt,vx,T6⟩:=q4.iface;rw[T6];refine bD ?_;rw[<- T6];obtain⟨F,qN⟩:=b9 (c.drew.drew.alloc (ae #[v2] 89));have u:Ext c F:=yF;have sA:F.heap.size=c.heap.size+1:=yH;have hnA:F.heap[c.heap.size]?=aN #[v2] 89:=yH;have hcA:=u.ext _ _ M;have CG:F.ownsRow (w.heap.size+1) 89 1 (.slice pa j pc) j us:=jM u.ext rJ;try rw[<- qN]
   refine PD CG hnA TY zo zo ?_;intro v' w' ti C DE;obtain⟨CH,pc',IW⟩:=gX ti;subst IW;have Mi:∀ {b:Nat} {cs:Array Y} {T:Nat},T≠89->F.heap[b]?=aN cs T->w'.heap[b]?=aN cs T:=fun{b cs T} hT W=>by
    rw[C.block b (bf W) (fun he=>?_)]
    .omega
    .rcases CG.2 with⟨X,-⟩| ⟨b',cap,PL,B,g2,g3,g4⟩
     .rw[X] at he;cases he
     .rw[B] at he;injection he with he;grind
   have nQ:=Mi zd hcA;have lc':=bf nQ;have sw':=C.size;refine⟨yH,?_⟩;refine dy K nQ ?_;obtain⟨wE,NN⟩:=b9 (bO w' w.heap.size (ae #[aM name,.slice CH (j+1) pc'] 180));have aff:bO w' w.heap.size (ae (ot #[aM name,.slice pa j pc] 1 (Value.slice CH (j+1) pc').cells.toList) 180 (0,0))=wE:=NN.symm;first | rw[<- NN] | rw[aff] | skip
   have hbE:∀ {b:Nat} {cs:Array Y} {T:Nat},T≠180->w'.heap[b]?=aN cs T->wE.heap[b]?=aN cs T:=yH;refine⟨L-(j+1),zo,j+1,.slice CH (j+1) pc',us++[v2],f++[t],zs,zo,J,?_,zo,J,?_,zg,kP.snoc q4,P.afz apR afF,q⟩
   .have IX:=p.trans u;rw[NN];refine⟨C.os.trans IX.os,C.tape.trans IX.tape,C.output.trans IX.output,yH,fun b o W hm=>?_⟩;have lb:=bf W;have hbA:=IX.ext _ _ W;rw[jd zo,C.block b zo (fun he=>?_)]
    .exact yH
    .rcases CG.2 with⟨X,-⟩| ⟨b',cap,PL,B,g2,g3,g4⟩
     .rw[X] at he;cases he
     .rw[B] at he;injection he with he;grind
   .refine⟨ti.1,?_⟩;rcases ti.2 with X | ⟨b,cap,PL,B,g2,g3,g4⟩
    .exact yH
    .exact .inr ⟨b,cap,PL,B,g2,yH,g4⟩
 .have fx:j=L:=zo;subst fx;rw[<- sQ,List.drop_length] at N;have N:m.iL s.tail = .ok f:=by grind [Vm.iL,P.CK]
  rw[N] at hr;have hgj:=p.ext _ _ hg;have NK:=p.ext _ _ oK;have rG:=p.ext _ _ mn;have uW:s[0]<x.slots.length:=Qq _ (a0D _);have oS:((s[0]:Nat):Int).toNat=s[0]:=zo;have vM:((s[0]:Nat):Int)<(x.slots.length:Int):=zo;have hr:r = .ok (A,m.set (s.getD 0 0) (.term (.comp name f))):=(a0g hr).symm;have B:s.getD 0 0=s[0]:=zg;rw[B] at hr;refine dC K hgj dX (zA NK (zA aOz (zA @oS rG))) ?_;have afg:dL ρ m.n c (aj 175 (pp w.heap.size)) (.comp name f):=by
   unfold dL dH;exact⟨w.heap.size,_,us,J,trivial,M,TF rJ uz.symm,kP.bI (qT.ea p)⟩
  obtain⟨r1,r2⟩:=(h.ext p).ao9 rG (k:=s[0]) (y:=.term (.comp name f)) afg J;subst hr;exact hR _ _ ⟨yF,J,ρ,eo.refl _ _,_,_,_,_,_,r1⟩
end
section
variable{D:Nat->Prop}{ρ:Nat->Nat}{e:AE}{av tv:Y}{di:List Y}{w w':Z}{m:Vm}
def afI
  (h:fX D ρ e av tv di w m) (hD:∀ b,w.heap.size<=b->D b) {x:Fm} {i:P.In} (hi:AH w g o i) (hH:Lc m x i) (hw:i.word=kx\/i.word=jP\/i.word=kW)
 (hr:vi dI d i m=O r) :
  Calls bac 207 #[pp e.vb,pq g o] w (EPost D w (rI D ρ m.n e.vb e.cb e.fm) r):=by
 suffices H:∀ R:Ending->Z->Prop,(∀ en w',EPost D w (rI D ρ m.n e.vb e.cb e.fm) r en w'->R en w')->Calls bac 207 #[pp e.vb,pq g o] w R from H _ fun _ _ h=>h;intro R N;obtain⟨hx,de,iA,vj,hz,lL,-⟩:=hH;have pJ:=hi;obtain⟨word,name,con,s⟩:=i;simp only at hw;have c0:=h.cell;obtain⟨⟨CF,E,-,-⟩,-,qu,Q,Fx,Fy⟩:=h.fs _ _ hx;obtain⟨cur,p,ho,iw,vD,⟨cv,jb,lD⟩,sv,y,mh⟩:=hi;simp only at iw vD lD y mh jb;have dA:Ext w w.drew:=yF;have l0:=bf c0;have lf:=bf E;have lr:=bf Q;have lg:=bf p;refine Qi ?_;unfold vi at hr;dsimp only at hr;have O9:s.length=1:=de.one zg;obtain⟨k,rfl⟩:∃ k,s=[k]:=by match s,O9 with | [k],_=>grind
 have qP:=de.sl;simp only at qP;obtain⟨nb,xd,mC,F,I,-⟩:=K3 mh (j:=0) zs;simp only[a0S,a1Y] at mC I;subst mC;have lnb:=bf F;have oS:((k:Nat):Int).toNat=k:=zo;obtain⟨aa,ac,q⟩:=gX h.ar;have L:=c0;rw[q] at L;simp only[List.getD_cons_zero] at hr;obtain⟨Px,TP⟩:=PM (by rw[q] at h;exact h.ar:w.ownsRow 0 342 5 (.slice aa m.br.length ac) m.br.length di);rcases hw with rfl | rfl | rfl
 .have B:cur[o]?=O (aM [116,114,121]):=iw
  iterate 10 rw[bX zd] at hr
  rw[zip rfl] at hr;have hr:=(a0g hr).symm;refine dC @L E p (zA @B y) ?_;have C:∀ {w1:Z},Ext w w1->Qk 342 w w1:=fun h b cs T _ S=>h.ext _ _ S;refine⟨fun w'=>Qk 342 w w',C dA,?_⟩;rw[jx];refine cQ (pq e.vb 5) (fun w' a=>eQ) ?_;refine cQ (.slice aa m.br.length ac) (fun w' a=>by have c:=a _ _ _ zo L;have:=bf c;exact fg c) ?_;rw[jx];refine cQ (pq e.vb 1) (fun w' a=>eQ) ?_;rw[jx];refine cQ (pq e.vb 3) (fun w' a=>eQ) ?_;refine cQ (pp (e.φ m.f)) (fun w' a=>by have c:=a _ _ _ zo L;have:=bf c;exact fg c) ?_;rw[jx];refine cQ (pq g (o+3)) (fun w' a=>eQ) ?_;refine cQ (cM nb 1 xd.size) (fun w' a=>by have c:=a _ _ _ zo p;have:=bf c;exact lT c y) ?_;refine cQ (pp nb) (fun w' a=>eQ) ?_;refine cQ (zi (k:Nat)) (fun w' a=>by have c:=a _ _ _ zo F;have:=bf c;exact lT c I) ?_;refine a0c (SY (h.ext dA).st CC) ?_;rintro en w1 ⟨rfl,rfl⟩;refine⟨C dA,?_⟩;refine bD ?_;obtain⟨U,A7⟩:∃ U:List Y,U=[zi (m.sr.tr.length:Nat),pp (e.φ m.f),zi (k:Nat),bH,bH]:=⟨_,J⟩;obtain⟨w2,jV⟩:=b9 (w.drew.alloc (ae U.toArray 342 (0,0)));have dM:Ext w w2:=yF;have g2:w2.heap[w.heap.size]?=aN U.toArray 342:=yH;have s2:w2.heap.size=w.heap.size+1:=yH;rw[A7] at jV;rw[<- jV];have h2:=h.ext dM;have q2:=h2.cell;rw[q] at q2;have W:=h2.ar;rw[q] at W;refine⟨C dM,?_⟩;refine ape W g2 zg (by rw[A7];intro u hu;simp only[List.mem_cons,List.not_mem_nil,or_false] at hu;rcases hu with rfl | rfl | rfl | rfl | rfl<;>rfl) zo zo ?_;intro v' w3 Kz A6 DZ;obtain⟨p3,d3,e3⟩:=gX Kz;subst e3;have K6:mX D ρ m.n e.φ e.ψ m.fs.length w2 U [⟨m.sr.tr.length,m.f,k,[],[]⟩]:=
   ⟨bH,bH,[],[],zg,h.fl,n9.nil,⟨J,zg⟩,.inl ⟨J,J⟩,J⟩
  obtain⟨w4,ja⟩:=b9 (bO w3 e.vb (ae #[pp e.cb,tv,zi (m.sr.fuel:Nat),pp (e.φ m.f),zi (m.pc:Nat),.slice p3 (m.br.length+1) d3] 116));obtain⟨X,r2,r3,r4⟩:=h2.KN (l:=m.br++[⟨m.sr.tr.length,m.f,k,[],[]⟩]) (by rw[List.length_append,a0S];exact Kz) (by rw[q];exact A6) (by rw[q];exact DZ.imp id fun hx g p=>⟨hD g (by have:=hx g p;omega),hx g p⟩) (h2.ag.snoc K6) ja;have c3:=r4.trans q2;refine⟨fun b cs T hT S=>by
   rw[A6.block b (by have:=bf S;omega) (fun he=>by rw[<- q] at he;exact h.X8 S hT he.symm)];exact dM.ext _ _ S,?_⟩
  refine cG @c3 ?_;have Ft:bO w3 e.vb (ae (ot #[pp e.cb,tv,zi (m.sr.fuel:Nat),pp (e.φ m.f),zi (m.pc:Nat),.slice aa m.br.length ac] 5 (Value.slice p3 (m.br.length+1) d3).cells.toList) 116 (0,0))=w4:=ja.symm;first | rw[Ft] | rw[<- ja]
  subst hr;exact N _ _ ⟨(dc.ea dM).trans r2,J,ρ,eo.refl _ _,_,_,_,_,_,X⟩
 .have B:cur[o]?=O (aM [106,117,109,112]):=iw
  iterate 11 rw[bX zd] at hr
  rw[zip rfl] at hr;have hr:=(a0g hr).symm;refine dC @c0 E p (zA @B (zA y (zA F I))) ?_;obtain⟨X,r2⟩:=h.own (w':=bO w e.vb (ae #[pp e.cb,tv,zi (m.sr.fuel:Nat),pp (e.φ m.f),zi (k:Nat),av] 116)) (f':=m.f) (pc':=k) yF yH h.fl;subst hr;exact N _ _ ⟨r2,J,ρ,eo.refl _ _,_,_,_,_,_,X⟩
 .have B:cur[o]?=O (aM [99,117,116]):=iw
  iterate 9 rw[bX zd] at hr
  rw[zip rfl] at hr;have hk:k<x.slots.length:=a0E (qP zd zd k (List.mem_singleton.2 J)) iA;have vM:((k:Nat):Int)<(x.slots.length:Int):=zo;obtain⟨aXJ,v,q1,q2,q3,q4⟩:=h.Ql hx hk;rw[Q] at q1;cases q1;have CL:∀ {K:Prop},(r = .error (.fault 5)->K)->(m.slot k = .nil\/∃ t,m.slot k = .term t)->K:=zg;cases km:m.slot k with
  | nil=>
   rw[km] at q4 hr;have q4:v = ai:=q4;subst q4;cases hr;refine dC @c0 E p (zA @B (zA y (zA F (zA I (zA @oS (zA Q @q3)))))) ?_;refine⟨fun _ _=>False,?_,by rintro _ _ h;exact h.elim⟩;refine bD ?_;exact N _ _ ⟨yF,J⟩
  | term t=>
   rw[km] at q4 hr;cases hr;have q4:dL ρ m.n w v t:=q4;obtain⟨T,u,rfl,hT⟩:∃ T u,v = aj T u/\T≠201:=by
    cases t with
    | var i=>unfold dL dH at q4;grind
    | atom s=>unfold dL dH at q4;grind
    | int s=>unfold dL dH at q4;grind
    | comp s l=>unfold dL dH at q4;grind
   refine dC @c0 E p (zA @B (zA y (zA F (zA I (zA @oS (zA Q (zA @q3 hT))))))) ?_;refine⟨fun _ _=>False,?_,by rintro _ _ h;exact h.elim⟩;refine bD ?_;exact N _ _ ⟨yF,J⟩
  | level n=>
   rw[km] at q4 hr;have hr:=(a0g hr).symm;have q4:v = aj 201 (zi (n:Nat)):=q4;subst q4;obtain⟨M,hM⟩:=b9 (min n m.br.length);rw[<- hM] at hr;have hmx:(if (m.br.length:Int)<(n:Int) then(m.br.length:Int) else(n:Int))=(M:Int):=zo;have hMc:(M:Int)<=(ac:Int):=zo;refine dC @L E p (zA @B (zA y (zA F (zA I (zA @oS (zA Q @q3)))))) ?_;refine⟨fun _ w'=>w'=w,?_,?_⟩
   .exact eQ
   rintro z w2 rfl d2;clear d2;refine dC @aiy @L hmx TP ?_;obtain⟨X,r2,-⟩:=(h.ext dA).forget (k:=M) (w1:=bO w2.drew e.vb (ae #[pp e.cb,tv,zi (m.sr.fuel:Nat),pp (e.φ m.f),zi (m.pc:Nat),.slice aa M ac] 116)) zo q J;subst hr;exact N _ _ ⟨yF,J,ρ,eo.refl _ _,_,_,_,_,_,X⟩
def apT
  (h:fX D ρ e av tv di w m) (hD:∀ b,w.heap.size<=b->D b) {x:Fm} {i:P.In} (I:AH w g o i) (S:Lc m x i) (hw:i.word=Ao\/i.word=MT) (hC:yf w e.cb pb fm told dI) (se:∀ p∈dI,∀ c∈p.clauses,y6 c)
 (hr:vi dI d i m=O r) :
  Calls bac 207 #[pp e.vb,pq g o] w (EPost D w (rI D ρ m.n e.vb e.cb e.fm) r):=by
 suffices H:∀ R:Ending->Z->Prop,(∀ B w',EPost D w (rI D ρ m.n e.vb e.cb e.fm) r B w'->R B w')->Calls bac 207 #[pp e.vb,pq g o] w R from H _ fun _ _ h=>h;intro R K;obtain⟨hx,C,T,vj,hz,lL,-⟩:=S;have U:=I;obtain⟨word,name,con,s⟩:=i;simp only at hw;have c0:=h.cell;obtain⟨⟨CF,q,-,-⟩,-,qu,W,Fx,Fy⟩:=h.fs _ _ hx;obtain⟨cur,u,ho,E,X,⟨cv,jb,lD⟩,sv,dX,mh⟩:=I;simp only at E X lD dX mh jb;have L:Ext w w.drew:=yF;have l0:=bf c0;have lf:=bf q;have lr:=bf W;have lg:=bf u;refine Qi ?_;unfold vi at hr;dsimp only at hr;have M:=C.sl;simp only at M;have N:=C.ql;simp only at N;have T5:∀ {a:Bool×Vm} {Q:Ending} {w1:Z},rI D ρ m.n e.vb e.cb e.fm a Q w1->∃ v,Q = ah v:=zg;rcases hw with rfl | rfl
 .have y:cur[o]?=O (aM [99,97,108,108]):=E
  iterate 12 rw[bX zd] at hr
  rw[zip rfl] at hr;refine dC @c0 q u @y ?_;refine a0c (aOq h hD hC (by grind [y6.sl]) hx U (r:=r) (fun k hk=>a0E (M zd zd k hk) T) N C.SH zo hr) ?_;intro B w3 hp;grind [EPost.afx]
 .have y:cur[o]?=O (aM [114,101,116]):=E
  iterate 13 rw[bX zd] at hr
  rw[zip zd,hx] at hr;simp only at hr;cases F:x.back with
  | none=>
   rw[F] at hr q;cases hr;simp (disch:=first|assumption|omega|simp only[zS]<;>omega|decide) only[zB,simprocAttr,lh,c0,q,u,y,Bt];refine⟨fun _ _=>False,?_,by rintro _ _ h;exact h.elim⟩;simp (disch:=first|assumption|omega|simp only[zS]<;>omega|decide) only[zB,simprocAttr,lh,c0,q,Bt];exact K _ _ ⟨yF,J⟩
  | some b=>
   rw[F] at hr q;have hr:=(a0g hr).symm;have oL:=h.bk _ _ _ hx F;simp (disch:=first|assumption|omega|simp only[zS]<;>omega|decide) only[zB,simprocAttr,lh,c0,q,u,y,Bt];refine⟨fun _ w'=>w'=w,?_,?_⟩
   .simp (disch:=first|assumption|omega|simp only[zS]<;>omega|decide) only[zB,simprocAttr,lh,c0,q,Bt]
   rintro z w2 rfl d2;clear d2;have t:=c0;refine⟨fun w'=>Ext w2 w',L,?_⟩;rw[jx];refine cQ (pq e.vb 3) (fun w' j=>eQ) ?_;refine cQ (pp (e.φ m.f)) (fun w' j=>by have l:=j.ext _ _ t;have:=bf l;exact fg l) ?_;rw[jx];refine cQ (pq (e.φ m.f) 3) (fun w' j=>eQ) ?_;refine cQ (pp (e.φ b)) (fun w' j=>by have l:=j.ext _ _ q;have:=bf l;simp (disch:=first|assumption|omega|simp only[zS]<;>omega|decide) only[zB,simprocAttr,lh,l,Bt]) ?_;rw[jx];refine cQ (pq e.vb 3) (fun w' j=>eQ) ?_;refine cQ (pp (e.φ m.f)) (fun w' j=>by have l:=j.ext _ _ t;have:=bf l;exact fg l) ?_;rw[jx];refine cQ (pq (e.φ m.f) 4) (fun w' j=>eQ) ?_;refine cQ (zi (x.pc:Nat)) (fun w' j=>by have l:=j.ext _ _ q;have:=bf l;exact fg l) ?_;rw[jx];refine cQ (pq e.vb 3) (fun w' j=>eQ) ?_;refine cG @t ?_;obtain⟨r1,r2⟩:=(h.ext L).own (w':=bO w2.drew e.vb (ae #[pp e.cb,tv,zi (m.sr.fuel:Nat),pp (e.φ b),zi (x.pc:Nat),av] 116)) (f':=b) (pc':=x.pc) yF yH oL;subst hr;exact K _ _ ⟨yF,J,ρ,eo.refl _ _,_,_,_,_,_,r1⟩
end
