/- A part of one proof (KV10, KV11, KV12, KV13, KV14). -/
import Derived.Test.YtoegidfbnkaabaaGreatDoorPkJAW
set_option linter.all false
set_option maxRecDepth 100000
set_option maxHeartbeats 8000000
open Option renaming some → O, none → V
open Go renaming Value → Y, World → Z
open Bool renaming true → A, false → G
open Go.Obj renaming cells → ae
open Go.Ending renaming returned → ah
open Go.Value renaming nilIface → ai, iface → aj
open Go.Calls renaming mono → aZJ
open List renaming getElem?_eq_getElem → aZM, getElem_mem → a0a, length_singleton → a0p, getElem_cons_zero → a1s
open Option.some renaming inj → aZN
open Go.World renaming ownsRow_nil → aZ8
open Nat renaming lt_of_lt_of_le → a0b
open Go.Proofs.Tryz renaming prog → a9I
namespace Go.Proofs.YtoegidfbnkaabaaGreatDoor
open P
open Go.RowKit Sx
variable{D:Nat->Prop}{R:Ending->Z->Prop}{W w w':Z}{X:Y->Z->Prop}{fm b base cb d g j k m n o pb told:Nat}{dK:List Pd}{r:Except jB (Bool×Vm)}{t:Tm}{v:Y}{xs:List Y}
def afm(name:Bs)(n:Nat)(b:name.length<=100)(a:n<80)(w:Z):Calls a9I 71 #[aT name,zi (n:Nat)] w fun e w'=>e = ah (aT (P.keyOf name n))/\w'=w:=by
 refine aMG ?_;refine bE ?_;rw[ya _ _ zg];refine bE ?_;rw[wrap32 n a,aiA zk zk zo,ya _ _ zg];exact⟨by rw[P.keyOf,List.append_assoc];rfl,J⟩
def Tryz.aNB:(Tryz.prog.info? 20).map (fun i=>(i.zero,i.size,i.bytes))=O (O ai,1,16):=zk
def aNC(d:w.ownsRow base 20 1 v n xs){a:Y}
  (f:w.heap[b]?=aM #[a] 20) (q:a.oneCell'=A)
  (r:n<=100000000) (g:base<=w.heap.size) {K:Y->Z->Prop}
  (h:∀ v' w',w'.ownsRow base 20 1 v' (n+1) (xs++[a])->w.grownBy w' v.ownBlock->(v'.ownBlock=v.ownBlock\/∀ k,v'.ownBlock=O k->w.heap.size<=k)->K v' w') :
  WR a9I (Builtin.append_ #[200,200] 200 #[v,cR b 1 m]) w K X:=by
 obtain⟨i,j,c⟩:=Option.map_eq_some_iff.1 Tryz.aNB;simp only[Prod.mk.injEq] at c;obtain⟨l,o,p⟩:=c;refine Sx.C3 (m:=1) (t:=200) (e:=20) zk j l o p J zo d f J (fun u hu=>?_) zo zo g h;grind
def afn{T size:Nat}(a:Ext w W)(e:W.ownsRow w.heap.size T size v n xs)(c:W.grownBy w' v.ownBlock):Ext w w':=by
 have:=a.size;have:=c.size;refine⟨c.os.trans a.os,c.tape.trans a.tape,c.output.trans a.output,zo,fun b o d _=>?_⟩;have lb:=bg d;rw[c.block b zo (fun he=>?_)]
 .exact a.ext _ _ d
 .rcases e.2 with⟨f,-⟩| ⟨h,cap,cur,g,g2,g3,g4⟩
  .rw[f] at he;cases he
  .rw[g] at he;injection he with he;grind
structure xS(w:Z)(cb pb fm told:Nat)(dK:List Pd):Prop where
 cell:w.heap[cb]?=aM #[.map (O pb),pp fm,zi (told:Nat)] 187
 dK:TK w pb dK
theorem xS.bH{w w':Z}{cb pb fm told:Nat}{dK:List Pd}(h:xS w cb pb fm told dK)(hk:eH w w')(hm:∀ l,w.heap[pb]?=O (eI l)->w'.heap[pb]?=O (eI l)):xS w' cb pb fm told dK:=
 ⟨hk _ _ _ (yM) h.cell,h.dK.bH hk hm⟩
theorem xS.fr(h:xS w cb pb fm told dK)(a:dc D w w'):xS w' cb pb fm told dK:=
 h.bH (dc.toI a) fun l hm=>a.block _ _ hm (by rintro ⟨_,cs',c,z,b,d⟩;cases b)
def P.apw(dK:List Pd)(i:P.In)(m:Vm):P.Out (Bool×Vm):=match dK.find? fun p=>p.name == i.name && p.arity == i.s.length with
 | none=>O (.error (.fault 10))
 | some p=>match p.clauses with
  | []=>O (.ok (G,m))
  | l=>match m.enter l (i.s.map m.slot) m.f m.pc m.bw.length with
   | none=>V
   | some m=>O (.ok (A,m))
section
variable{D:Nat->Prop}{ρ:Nat->Nat}{e:Aq}{av tv:Y}{di:List Y}{w w':Z}{m:Vm}
def aND(h:fZ D ρ e av tv di w m)(hD:∀ b,w.heap.size<=b->D b)(hC:xS w e.cb pb fm told dK)(rX:∀ p∈dK,∀ c∈p.clauses,c.slots<=64){x:Fm}(hx:m.fs[m.f]?=O x){i:P.In}(hi:Au w g o i)
  (hk:∀ k∈i.s,k<x.slots.length) (vY:i.s.length<=60) (mm:i.name.length<=20) (lC:m.bw.length<=900000000) (hr:P.apw dK i m=O r) :
  Calls a9I 215 #[pp e.vb,pq g o] w (EPost D w (rA D ρ m.n e.vb e.cb e.fm) r):=by
 suffices H:∀ R:Ending->Z->Prop,(∀ S w',EPost D w (rA D ρ m.n e.vb e.cb e.fm) r S w'->R S w')->Calls a9I 215 #[pp e.vb,pq g o] w R from H _ fun _ _ h=>h;intro R hR;refine aL5 ?_;obtain⟨cur,T,ho,iw,vj,aMq,sv,dX,me⟩:=hi;have lg:=bg T;obtain⟨na,nc,mY⟩:∃ a c,sv = .slice a i.s.length c:=by
  obtain⟨a,c,h⟩:=me.sl;exact⟨a,c,by simpa using h⟩
 subst mY;have c0:=h.cell;obtain⟨⟨CB,iU,-,-⟩,-,U,mh,Fo,Fp⟩:=h.fs _ _ hx;have aW2:∀ a,a<m.fs.length->e.ψ a<w.heap.size:=fun a ha=>by
  obtain⟨-,-,row,I,-⟩:=h.fs a _ (aZM ha);exact yH
 obtain⟨us,nF,L⟩:∃ us:List Y,us.length=i.s.length/\∀ j (W:j<i.s.length),us[j]?=U[i.s[j]]?/\∃ u,us[j]?=O u/\yW ρ m.n w u (m.slot i.s[j]):=by
  refine⟨i.s.map fun k=>(U[k]?).getD ai,zs,fun j W=>?_⟩;obtain⟨row,v,q1,q2,q3,q4⟩:=h.Qg hx (hk _ (a0a W));rw[mh] at q1;cases q1;have:(i.s.map fun k=>(U[k]?).getD ai)[j]?=O v:=by
   rw[List.getElem?_map,aZM W];simp [q3]
  exact⟨by rw[this,q3],v,this,q4⟩
 refine du T dX ?_;refine⟨fun n z q=>∃ (j:Nat) (rn:Y),z 14=zi (j:Nat)/\z 5=rn/\j<=i.s.length/\n=i.s.length-j/\Ext w q/\q.ownsRow w.heap.size 20 1 rn j (us.take j),⟨_,0,bV,J,J,Nat.zero_le _,J,yF,by grind [aZ8]⟩,?_⟩;intro n z dz q hI;clear dz;refine toPr ?_;obtain⟨j,rn,CE,I,W,rfl,t,M⟩:=hI;obtain⟨pa,pc,Fs⟩:=gV M;subst Fs;have K4:=t.ext _ _ c0;have NH:=t.ext _ _ iU;have ry:=t.ext _ _ mh;have hgj:=t.ext _ _ T;have lcj:=bg K4;have aW4:=bg NH;have lrj:=bg ry;have lgj:=bg hgj;have sj:=t.size;by_cases hlt:j<i.s.length
 .have Cr:((j:Nat):Int)<(i.s.length:Int):=zo;have jW:((j:Nat):Int).toNat=j:=zo;obtain⟨nb,wJ,fI,oJ,uz,-⟩:=KW me hlt;simp only[Value.slice.injEq,true_and] at fI;obtain⟨rfl,rfl⟩:=fI;have NG:=t.ext _ _ oJ;have oR:((i.s[j]:Nat):Int).toNat=i.s[j]:=zo;have vz:((i.s[j]:Nat):Int)<(x.slots.length:Int):=zg;obtain⟨e1,u,e2,hu⟩:=L j hlt;have hru:U[i.s[j]]?=O u:=zg;have Gc:us.take (j+1)=us.take j++[u]:=by
   grind [List.take_add_one]
  have TX:u.oneCell'=true:=by rcases hu.one with rfl | ⟨_,_,rfl⟩<;>rfl
  rcases hu.one with rfl | ⟨ut,ux,rfl⟩;all_goals
   refine dH CE I Cr (zA NG (zA uz (zA @jW (zA K4 (zA NH (zA ry (zA hru @oR))))))) ?_;refine aNC (jJ yH M) yH TX zo (by rw[size_alloc];omega) ?_;intro v' w' sS jx Dx;obtain⟨CD,pc',IV⟩:=gV sS;subst IV;refine cH CE ?_;exact⟨i.s.length-(j+1),zo,j+1,_,by first | rfl | simp [jd],by first | rfl | simp [jd],zo,J,afn yF (jJ yH M) jx,by rw[Gc];exact sS⟩
 .have fw:j=i.s.length:=zo;subst fw;refine du CE I ?_;rw[List.take_of_length_le zo] at M;obtain⟨oB,l,jS,B⟩:=hC;have aW6:=bg oB;have B:=B i.name i.s.length zo;have F:∀ {w2:Z} {b:Nat} {o:Obj},Ext w w2->w.heap[b]?=O o->w2.heap[b]?=O o:=yF;refine⟨fun w'=>Ext w w',t.drew,?_⟩;rw[ju];refine cO (pp e.vb) (fun w' C=>eR) ?_;refine cO (pp e.cb) (fun w' C=>by have E:=F C c0;have:=bg E;exact fa E) ?_;rw[ju];refine cO (pp e.cb) (fun w' C=>eR) ?_;refine cO (.map (O pb)) (fun w' C=>by have E:=F C oB;have:=bg E;exact fa E) ?_;rw[ju];refine cO (pq g (o+1)) (fun w' C=>eR) ?_;refine cO (aT i.name) (fun w' C=>by have E:=F C T;have:=bg E;exact lP E @vj) ?_;rw[I];refine bE ?_;refine aZJ (afm i.name i.s.length zo zo _) ?_;rintro S w2 ⟨rfl,rfl⟩;refine⟨t.drew,?_⟩;have si:Ext w q.drew:=t.drew;have vZ:∀ {K:Y->Prop} {X:Y->Z->Prop},RD a9I (Instr.lookup 184 (.map (O pb)) (.string (bs (P.keyOf i.name i.s.length))) G) q.drew K X=(match fL (P.keyOf i.name i.s.length) l 0 with
    | some (_,v)=>K v
    | none=>K (.slice V 0 0)):=fun{K X}=>by
   rw[KQ (k:=9) (e:=192) zk zk (z:=bV) zk (si.ext _ _ jS)];grind
  rw[vZ];unfold P.apw at hr;cases Qk:fL (P.keyOf i.name i.s.length) l 0 with
  | none=>
   rw[Qk] at B;have B:dK.find? (fun p=>p.name == i.name && p.arity == i.s.length)=none:=B;rw[B] at hr;cases hr;refine⟨fun _ _=>False,?_,by rintro _ _ h;exact h.elim⟩;show RD _ _ _ _ _;rw[ae4];refine bE ?_;exact hR _ _ ⟨yF,J⟩
  | some iv=>
   obtain⟨iv1,v⟩:=iv;rw[Qk] at B;obtain⟨p,hp,pbk,aNH,aW8,vs,rfl,vX,aW9,hpt,jI⟩:=B;rw[hp] at hr;simp only at hr;refine⟨fun _ w'=>w'=q.drew,?_,?_⟩
   .show RD _ _ _ _ _;rw[ae4];exact eR
   rintro s w3 rfl d;clear d;by_cases ed:p.clauses=[]
   .have qz:(p.clauses.length:Int)=0:=zg;rw[ed] at hr;cases hr;refine cH qz ?_;exact hR _ _ ⟨yF,J,ρ,eg.refl _ _,_,_,_,_,_,h.ext si⟩
   .have qz:¬ (p.clauses.length:Int)=0:=fun h=>ed (List.eq_nil_of_length_eq_zero zo);obtain⟨m',pj,hr⟩:∃ m',m.enter p.clauses (i.s.map m.slot) m.f m.pc m.bw.length=O m'/\r = .ok (A,m'):=by
     grind
    obtain⟨aa,ac,gw⟩:=gV h.ar;have N:q.drew.heap[e.vb]?=_:=K4;rw[gw] at N;refine du qz @N ?_;have TY:Ext w q.drew.drew:=si.drew;have No:vs.length=p.clauses.length:=jI.1;have aXa:vs≠[]:=zg;have hso:nY q.drew.drew 185 (cR pbk p.clauses.length aNH) vs:=.inr yH;have aNJ:xQ D ρ m.n e.ψ m.fs.length q.drew.drew (.slice pa i.s.length pc) (i.s.map m.slot):=by
     have hsm:Cw ρ m.n q.drew.drew us.toArray (i.s.map m.slot):=fun a y Q=>by
      rw[List.getElem?_map] at Q;cases hq:i.s[a]? with
      | none=>grind
      | some k=>
       rw[hq] at Q;obtain⟨ha,VS⟩:=List.getElem?_eq_some_iff.1 hq;obtain⟨-,u,g1,g2⟩:=L a ha;rw[VS] at g2;cases Q;exact⟨u,zg,g2.bH (eH.dZ TY) (eg.refl _ _)⟩
     rcases M.2 with⟨h1,h2⟩| ⟨b,cap,PI,h1,h2,h3,h4,I,h6,h7⟩
     .have:i.s=[]:=zg;exact .inl zg
     .rw[h1];refine .inr ⟨b,cap,PI,zs,zg,h3,zo,fun a y Q=>?_,zg⟩;obtain⟨u,g1,g2⟩:=hsm a y Q;grind
    have Pu:p∈dK:=zg;refine aZJ (aoW (h.ext TY) yH (l:=p.clauses) (args:=i.s.map m.slot) (f:=m.f) (pc:=m.pc) (n:=m.bw.length) (m':=m') hso (jI.bH (eH.dZ TY)) aNJ h.fl zo lC zg zg pj) ?_;rintro S w4 ⟨rfl,gW,h4⟩;refine bE ?_;subst hr;have hn:m'.n=m.n:=by
     unfold Vm.enter at pj;grind
    exact hR _ _ ⟨(dc.dZ TY).trans gW,J,ρ,⟨zg,zg⟩,h4⟩
end
def P.CF(l:List Tm):Except jB (List Tm)->Except jB (List Tm)
 | .ok r=>.ok (l++r)
 | .error e=>.error e
def P.afr(m:Vm)(k:Nat)(r:List Nat):m.iK (k::r)=match P.vi (m.slot k) with | .error e=>.error e | .ok t=>P.CF [t] (m.iK r):=by
 rw[Vm.iK];cases m.slot k with
 | term t=>simp only[P.vi];cases m.iK r<;>rfl
 | nil=>rfl
 | level n=>rfl
def P.afs{m:Vm}{ks:List Nat}(c:j<ks.length){a:List Tm}(h:m.iK ks=P.CF a (m.iK (ks.drop j))) :
  match P.vi (m.slot ks[j]) with | .error t=>m.iK ks = .error t | .ok t=>m.iK ks=P.CF (a++[t]) (m.iK (ks.drop (j+1))):=by
 rw[List.drop_eq_getElem_cons c,P.afr] at h;cases b:P.vi (m.slot ks[j]) with
 | error t=>rw[b] at h;exact h
 | ok t=>
  rw[b] at h;simp only at h ⊢;rw[h];cases m.iK (ks.drop (j+1))<;>simp [P.CF]
def P.Yf{y:Sl}(h:P.vi y = .ok t):y = .term t:=by
 cases y with
 | term u=>grind [P.vi]
 | nil=>cases h
 | level n=>cases h
theorem P.Yg{m:Vm}{x:Fm}(hx:m.fs[m.f]?=O x)(b:∀ y∈x.slots,Ah y)(k:Nat)(h:P.vi (m.slot k) = .ok t):er t:=by
 have h:=P.Yf h;unfold Vm.slot at h;rw[hx] at h;simp only[List.getD_eq_getElem?_getD] at h;cases a:x.slots[k]? with
 | none=>grind
 | some y=>
  rw[a] at h;have h:y = .term t:=h;subst h;exact b _ (List.mem_of_getElem? a)
section
variable{D:Nat->Prop}{ρ:Nat->Nat}{e:Aq}{av tv:Y}{di:List Y}{w w':Z}{m:Vm}
def fZ.part(h:fZ D ρ e av tv di w m){q:Except jB (Bool×Sr)}(hr:P.Out.bind (O q) (fun p=>O (.ok (p.1,{ m with sr:=p.2 })))=O r){b:Ending}
  (a:EPost (Dn D av w) w (wh (Dn D av w) ρ m.n e.vb 1 116 (G0 e.cb (pp (e.φ m.f)) (zi (m.pc:Nat)) av)) q b w'):EPost D w (rA D ρ m.n e.vb e.cb e.fm) r b w':=by
 obtain⟨c,a⟩:=a;cases q with
 | error t=>
  cases hr;exact⟨c.up fun _ h=>h.1,a⟩
 | ok p=>
  cases hr;obtain⟨rfl,j,d⟩:=a;obtain⟨g,i⟩:=h.store d c;exact⟨i,J,ρ,eg.refl _ _,_,_,_,_,_,g⟩
theorem EPost.aft{D:Nat->Prop}{w:Z}{α:Type}{Q:α->Ending->Z->Prop}(f:∀ {a e w},Q a e w->∃ v,e = ah v){r:Except jB α}{b:Ending}{w':Z}(h:EPost D w Q r b w')(d:∀ b w',EPost D w Q r b w'->R b w') :
  ends (fun x w'=>R (ah x) w') (PC R) b w':=by
 cases b with
 | returned v=>exact d _ _ h
 | panicked c=>exact d _ _ h
 | outgrown=>
  obtain⟨-,h⟩:=h;cases r with
  | ok a=>grind
  | error t=>cases t<;>cases h
def EPost.apA{D:Nat->Prop}{w:Z}{α:Type}{Q:α->Ending->Z->Prop}(f:∀ {a e w},Q a e w->∃ v,e = ah v){r:Except jB α}{b:Ending}{w':Z}(h:EPost D w Q r b w')(d:∀ b w',EPost D w Q r b w'->R b w') :
  ends (fun x w'=>R (ah x) w') (Lv R) b w':=by
 cases b with
 | returned v=>exact d _ _ h
 | panicked c=>exact fun _=>d _ _ h
 | outgrown=>
  obtain⟨-,h⟩:=h;cases r with
  | ok a=>grind
  | error t=>cases t<;>cases h
structure K6(m:Vm)(x:Fm)(i:P.In):Prop where
 hx:m.fs[m.f]?=O x
 ok:tV x.code.slots i
 sl:x.code.slots<=x.slots.length
 tm:∀ y∈x.slots,Ah y
 cU:m.sr.cU<=800000000
 bw:m.bw.length<900000000
 small:∀ k∈i.s,k<100000
def Yh(h:fZ D ρ e av tv di w m)(hD:∀ b,w.heap.size<=b->D b){x:Fm}{i:P.In}(hi:Au w g o i)(hH:K6 m x i)(hw:i.word=P.tT\/i.word=EW\/i.word=uQ\/i.word=qH)
 (hr:uR dK d i m=O r) :
  Calls a9I 207 #[pp e.vb,pq g o] w (EPost D w (rA D ρ m.n e.vb e.cb e.fm) r):=by
 suffices H:∀ R:Ending->Z->Prop,(∀ T w',EPost D w (rA D ρ m.n e.vb e.cb e.fm) r T w'->R T w')->Calls a9I 207 #[pp e.vb,pq g o] w R from H _ fun _ _ h=>h;intro R hR;obtain⟨hx,N,iH,uT,hz,lC,-⟩:=hH;obtain⟨word,name,con,s⟩:=i;simp only at hw;have c0:=h.cell;obtain⟨⟨CB,u,-,-⟩,-,qo,z,Fo,Fp⟩:=h.fs _ _ hx;obtain⟨cur,B,ho,C,vj,⟨cv,U,W⟩,sv,p,X⟩:=hi;simp only at C vj W p X U;have l:Ext w w.drew:=yF;have lr:=bg z;have O6:s.length=1:=N.one zg;have qI:=N.sl (by rcases hw with h | h | h | h<;>(simp only[h];decide)) (by rcases hw with h | h | h | h<;>(simp only[h];decide));simp only at qI;obtain⟨k,rfl⟩:∃ k,s=[k]:=by match s,O6 with | [k],_=>grind
 have hk:k<x.slots.length:=a0b (qI k (List.mem_singleton.2 J)) iH;obtain⟨nb,wJ,mY,K,E,-⟩:=KW X (j:=0) zs;simp only[a0p,a1s] at mY E;subst mY;have L:((k:Nat):Int).toNat=k:=zo;have vz:((k:Nat):Int)<(x.slots.length:Int):=zo;refine Qd ?_;unfold uR at hr;simp only[List.getD_cons_zero] at hr;have M:∀ {eG:Nat->Nat} {F:Nat} {I:Z} {v:Y} {y:Sl},Ext w I->eg ρ m.n eG F->fZ D eG e av tv di I { m with n:=F }->yW eG F I v y->r = .ok (A,{ m.set k y with n:=F }) ->
   R (ah (.bool A)) (bO I (e.ψ m.f) (ae (qo.setIfInBounds k v) 20 (0,0))):=by
  intro eG F I v y hE hu Q hy hr;subst hr;obtain⟨r1,r2⟩:=Q.aoR (hE.ext _ _ z) (k:=k) hy J;exact hR _ _ ⟨(dc.dZ hE).trans r2,J,eG,hu,_,_,_,_,_,r1⟩
 rcases hw with rfl | rfl | rfl | rfl
 .have q:cur[o]?=O (aT [110,101,119]):=C;rw[zip rfl] at hr;have hr:=(aZN hr).symm;refine dH @c0 u B (zA @q (zA p (zA K (zA E (zA @L z))))) ?_;have Kr:Ext w (w.alloc (ae #[ai] 91)):=yF;obtain⟨eG,hu,hn,Q⟩:=h.fresh hD Kr yH;refine M Kr hu Q ?_ hr;show dM eG (m.n+1) (w.alloc (ae #[ai] 91)) (aj 87 (pp w.heap.size)) (.var m.n);unfold dM dI;exact yH
 .have q:cur[o]?=O (aT [112,117,116]):=C;rw[bZ zd,zip zd] at hr;have hr:=(aZN hr).symm;obtain⟨t,rfl,ht,htc⟩:=N.con (.inl J);have T0:dM ρ m.n w.drew cv t:=W.eh;obtain⟨ct,cx,rfl⟩:=T0.iface;refine dH @c0 u B (zA @q (zA p (zA K (zA E (zA @L (zA U z)))))) ?_;exact M l (eg.refl _ _) (h.ext l) (y:=.term t) T0 hr
 .have q:cur[o]?=O (aT [109,97,114,107]):=C
  iterate 7 rw[bZ zd] at hr
  rw[zip rfl] at hr;have hr:=(aZN hr).symm;refine dH @c0 u B (zA @q p) ?_;refine⟨fun w'=>Ext w w',l,?_⟩;rw[ju];refine cO (pq g (o+3)) (fun w' a=>eR) ?_;refine cO (cR nb 1 wJ.size) (fun w' a=>by have c:=a.ext _ _ B;have:=bg c;exact lP c p) ?_;refine cO (pp nb) (fun w' a=>eR) ?_;refine cO (zi (k:Nat)) (fun w' a=>by have c:=a.ext _ _ K;have:=bg c;exact lP c E) ?_;refine dH @c0 u @L z ?_;refine⟨l,?_⟩;rw[hx] at hr;exact M l (eg.refl _ _) (h.ext l) (y:=.level x.entry) J hr
 .have q:cur[o]?=O (aT [108,101,118,101,108]):=C
  iterate 8 rw[bZ zd] at hr
  rw[zip rfl] at hr;have hr:=(aZN hr).symm;obtain⟨aa,ac,gw⟩:=gV h.ar;have S:=c0;rw[gw] at S;refine dH @S u B (zA @q p) ?_;refine⟨fun w'=>Ext w w',l,?_⟩;rw[ju];refine cO (pq g (o+3)) (fun w' a=>eR) ?_;refine cO (cR nb 1 wJ.size) (fun w' a=>by have c:=a.ext _ _ B;have:=bg c;exact lP c p) ?_;refine cO (pp nb) (fun w' a=>eR) ?_;refine cO (zi (k:Nat)) (fun w' a=>by have c:=a.ext _ _ K;have:=bg c;exact lP c E) ?_;refine dH @S u @L z ?_;refine⟨l,?_⟩;exact M l (eg.refl _ _) (h.ext l) (y:=.level m.bw.length) J hr
end
section
variable{D:Nat->Prop}{ρ:Nat->Nat}{e:Aq}{av tv:Y}{di:List Y}{w w':Z}{m:Vm}
theorem P.afv{t:Tm}(ht:er t):∀ {l:List Tm},jr l->jr (l++[t])
 | [],_=>by simp only[List.nil_append];unfold jr;exact⟨ht,by unfold jr;trivial⟩
 | a::l,h=>by
  unfold jr at h;show jr (a::(l++[t]));unfold jr;exact⟨h.1,P.afv ht h.2⟩
theorem P.afw{m:Vm}{x:Fm}(hx:m.fs[m.f]?=O x)(a:∀ y∈x.slots,Ah y){i:P.In}(h:m.at i k = .ok t):er t:=by
 grind [P.aeW,P.Yg,Yg,aeW]
def afx
  (h:fZ D ρ e av tv di w m) (hD:∀ b,w.heap.size<=b->D b) {x:Fm} {i:P.In} (W:Au w g o i) (hH:K6 m x i) (hw:i.word=DC\/i.word=EX\/i.word=It)
 (hr:uR dK d i m=O r) :
  Calls a9I 207 #[pp e.vb,pq g o] w (EPost D w (rA D ρ m.n e.vb e.cb e.fm) r):=by
 suffices H:∀ R:Ending->Z->Prop,(∀ f w',EPost D w (rA D ρ m.n e.vb e.cb e.fm) r f w'->R f w')->Calls a9I 207 #[pp e.vb,pq g o] w R from H _ fun _ _ h=>h;intro R E;obtain⟨hx,y,iH,uT,hz,lC,-⟩:=hH;have M:=W;obtain⟨word,name,con,s⟩:=i;simp only at hw;have c0:=h.cell;obtain⟨⟨CB,T,-,-⟩,-,qo,mh,Fo,Fp⟩:=h.fs _ _ hx;obtain⟨cur,N,ho,Q,vj,⟨cv,X,lk⟩,sv,dX,me⟩:=W;simp only at Q vj lk dX me X;have l:Ext w w.drew:=yF;refine Qd ?_;unfold uR at hr;dsimp only at hr;have qI:=y.sl (by rcases hw with h | h | h<;>(simp only[h];decide)) (by rcases hw with h | h | h<;>(simp only[h];decide));simp only at qI;have Ql:∀ k∈s,k<x.slots.length:=zg;have vY:=y.qg;simp only at vY;have T4:∀ {a:Bool×Vm} {e1:Ending} {w1:Z},rA D ρ m.n e.vb e.cb e.fm a e1 w1->∃ v,e1 = ah v:=zg;rcases hw with rfl | rfl | rfl
 .have F:cur[o]?=O (aT [99,111,110,115,116]):=Q
  iterate 2 rw[bZ zd] at hr
  rw[zip zd] at hr;have O6:s.length=1:=y.one zg;obtain⟨t0,rfl,Ka,htc⟩:=y.con (.inr J);have T0:dM ρ m.n w cv t0:=lk.eh;obtain⟨ct,cx,rfl⟩:=T0.iface;refine dH @c0 T N @F ?_;refine⟨fun w'=>Ext w w',l,?_⟩;rw[ju];refine cO (pq e.vb 1) (fun w' S=>eR) ?_;rw[ju];refine cO (pq g (o+2)) (fun w' S=>eR) ?_;refine cO (aj ct cx) (fun w' S=>by have h9:=S.ext _ _ N;have:=bg h9;exact lP h9 X) ?_;have U:=h.ext l;refine aZJ (X4 U hx (M.bH (eH.dZ l)) (k:=0) zg (by grind [a0a]) zo) ?_;rintro f w2 ⟨rfl,c⟩;have j:Ext w w.drew.drew:=l.drew;cases I:m.at ⟨DC,name,O t0,s⟩ 0 with
  | error t=>
   rw[I] at hr c;have hr:=(aZN hr);subst hr;have c:f=gR t:=c;subst c;cases t<;>exact fun _=>E _ _ ⟨yF,J⟩
  | ok t=>
  rw[I] at hr c;obtain⟨v,rfl,hv⟩:=c;have hr:P.Out.bind (lz d t t0 m.sr) (fun p=>O (.ok (p.1,{ m with sr:=p.2 })))=O r:=hr;refine⟨j,?_⟩;cases z:lz d t t0 m.sr with
  | none=>rw[z] at hr;cases hr
  | some q=>
  rw[z] at hr;have K:=h.ext j;refine aZJ (Pw Cx d K.less (K.dn hD) hv (by grind [P.afw]) (T0.bH (qL.dZ j)) Ka zo z) ?_;intro f w3 c;have c:=K.part hr c;exact EPost.apA T4 (c.of (dc.dZ j)) E
 .have F:cur[o]?=O (aT [115,97,109,101]):=Q
  iterate 3 rw[bZ zd] at hr
  rw[zip zd] at hr;have L:s.length=2:=y.same J;refine dH @c0 T N @F ?_;refine⟨fun w'=>Ext w w',l,?_⟩;rw[ju];refine cO (pq e.vb 1) (fun w' S=>eR) ?_;have U:=h.ext l;refine aZJ (X4 U hx (M.bH (eH.dZ l)) (k:=0) zg (by grind [a0a]) zo) ?_;rintro f w2 ⟨rfl,c⟩;have j:Ext w w.drew.drew:=l.drew;cases I:m.at ⟨EX,name,con,s⟩ 0 with
  | error t=>
   rw[I] at hr c;have hr:=(aZN hr);subst hr;have c:f=gR t:=c;subst c;cases t<;>exact fun _=>E _ _ ⟨yF,J⟩
  | ok t=>
  rw[I] at hr c;obtain⟨v,rfl,hv⟩:=c;refine⟨j,?_⟩;have K:=h.ext j;have B:Ext w w.drew.drew.drew:=j.drew;refine aZJ (X4 K hx (M.bH (eH.dZ j)) (k:=1) zg (by grind [a0a]) zo) ?_;rintro f w2 ⟨rfl,c⟩;simp only[Ir] at hr;cases CY:m.at ⟨EX,name,con,s⟩ 1 with
  | error t=>
   rw[CY] at hr c;have hr:=(aZN hr);subst hr;have c:f=gR t:=c;subst c;cases t<;>exact fun _=>E _ _ ⟨yF,J⟩
  | ok u=>
  rw[CY] at hr c;obtain⟨v2,rfl,jU⟩:=c;refine⟨B,?_⟩;have hr:P.Out.bind (lz d t u m.sr) (fun p=>O (.ok (p.1,{ m with sr:=p.2 })))=O r:=hr;cases z:lz d t u m.sr with
  | none=>rw[z] at hr;cases hr
  | some q=>
  rw[z] at hr;have C:=h.ext B;refine aZJ (Pw Cx d C.less (C.dn hD) (hv.bH (qL.dZ yF)) (by grind [P.afw]) jU (by grind [P.afw]) zo z) ?_;intro f w3 c;have c:=C.part hr c;exact EPost.apA T4 (c.of (dc.dZ B)) E
 .have F:cur[o]?=O (aT [115,112,108,105,116]):=Q
  iterate 5 rw[bZ zd] at hr
  rw[zip zd] at hr;have L:2<=s.length:=y.two (.inr J);refine dH @c0 T N @F ?_;have JF:m.sr.tr.length+m.sr.fuel<=800000000:=hz;refine aZJ (aMp h hD hx M (d:=d) (r:=r) L Ql vY y.SG (by grind [acC]) zo ?_) ?_
  .rw[<- hr];rfl
  .intro f w3 c;grind [EPost.aft]
def aNK
  (h:fZ D ρ e av tv di w m) (hD:∀ b,w.heap.size<=b->D b) {x:Fm} {i:P.In} (W:Au w g o i) (hH:K6 m x i) (hw:i.word=ni)
 (hr:uR dK d i m=O r) :
  Calls a9I 207 #[pp e.vb,pq g o] w (EPost D w (rA D ρ m.n e.vb e.cb e.fm) r):=by
 suffices H:∀ R:Ending->Z->Prop,(∀ y w',EPost D w (rA D ρ m.n e.vb e.cb e.fm) r y w'->R y w')->Calls a9I 207 #[pp e.vb,pq g o] w R from H _ fun _ _ h=>h;intro R X;obtain⟨hx,M,iH,uT,hz,lC,-⟩:=hH;have pG:=W;obtain⟨word,name,con,s⟩:=i;simp only at hw;have c0:=h.cell;obtain⟨⟨CB,iU,-,-⟩,-,qo,mh,Fo,Fp⟩:=h.fs _ _ hx;obtain⟨cur,hg,ho,iw,vj,⟨cv,iX,lk⟩,sv,dX,me⟩:=W;simp only at iw vj lk dX me iX;refine Qd ?_;unfold uR at hr;dsimp only at hr;subst hw;have qI:=M.sl (by simp only;decide) (by simp only;decide);simp only at qI;have Ql:∀ k∈s,k<x.slots.length:=zg;have vY:=M.qg;simp only at vY;have nH:cur[o]?=O (aT [116,101,115,116]):=iw
 iterate 6 rw[bZ zd] at hr
 rw[zip zd] at hr;have aXb:jG name=s.length:=M.test J;obtain⟨na,nc,mY⟩:∃ a c,sv = .slice a s.length c:=by
  obtain⟨a,c,h⟩:=me.sl;exact⟨a,c,by simpa using h⟩
 subst mY;have T4:∀ {a:Bool×Vm} {e1:Ending} {w1:Z},rA D ρ m.n e.vb e.cb e.fm a e1 w1->∃ v,e1 = ah v:=zg;refine dH @c0 iU hg (zA @nH dX) ?_;refine⟨fun n z C=>∃ (j:Nat) (N:Y) (us:List Y) (l:List Tm),z 128=zi (j:Nat)/\z 8=N/\j<=s.length/\n=s.length-j/\Ext w C/\C.ownsRow w.heap.size 89 1 N j us/\us.length=j/\py ρ m.n w us l/\jr l/\m.iK s=P.CF l (m.iK (s.drop j)),
  ⟨_,0,bV,[],[],J,J,Nat.zero_le _,J,yF,aZ8 _ _ _ _,J,by unfold py iE;rfl,by unfold jr;trivial,by rw[List.drop_zero];cases m.iK s<;>rfl⟩,?_⟩
 intro n z dz C hI;clear dz;refine toPr ?_;obtain⟨j,N,us,l,F,Q,hj,rfl,E,S,uh,T,U,I⟩:=hI;obtain⟨pa,pc,Fs⟩:=gV S;subst Fs;have sj:=E.size;have K:Ext w C.drew:=E.drew;by_cases hlt:j<s.length
 .have Cr:(j:Int)<(s.length:Int):=zo;refine iZ F Q Cr ?_;have Te:=h.ext E;refine aZJ (aeX Te hx (pG.bH (eH.dZ E)) (k:=j) hlt (by grind [a0a]) zo) ?_;rintro y w2 ⟨rfl,row,v,eP,L,-,f⟩;have B:=P.afs hlt I;simp only at f;rw[E.ext _ _ mh] at eP;cases eP;cases u:P.vi (m.slot s[j]) with
  | error t=>
   rw[u] at f B;rw[show m.iK s = .error t from B] at hr;have hr:=(aZN hr);subst hr;have f:y=gR t:=f;subst f;cases t<;>exact X _ _ ⟨yF,J⟩
  | ok t=>
   rw[u] at f B;have B:m.iK s=P.CF (l++[t]) (m.iK (s.drop (j+1))):=B;have f:y = ah v:=f;subst f;obtain⟨afC,v2,q1,q2,q3,q4⟩:=h.Qg hx (Ql _ (a0a hlt));rw[mh] at q1;cases q1;rw[q3] at L;injection L with L;subst L;rw[P.Yf u] at q4;have q4:dM ρ m.n w v2 t:=q4;have apC:er t:=(by grind [P.Yg]);have TX:v2.oneCell'=true:=by obtain⟨a,b,rfl⟩:=q4.iface;rfl
   obtain⟨vt,vx,T5⟩:=q4.iface;rw[T5];refine du F Q ?_;rw[<- T5];have CC:(C.drew.alloc (ae #[v2] 89)).ownsRow w.heap.size 89 1 (.slice pa j pc) j us:=jJ yH S;refine Pz CC yH TX zo (yH) ?_;intro v' w' sS jx Dx;obtain⟨CD,pc',IV⟩:=gV sS;subst IV;refine cH F ?_;refine⟨s.length-(j+1),zo,j+1,_,us++[v2],l++[t],zg,zg,zo,J,afn yF CC jx,sS,zg,T.snoc q4,?_,B⟩;grind [P.afv]
 .have fw:j=s.length:=zo;subst fw;rw[List.drop_length] at I;have I:m.iK s = .ok l:=by grind [Vm.iK,P.CF]
  rw[I] at hr;have qX:=K.ext _ _ hg;refine dH F Q qX @vj ?_;have hr:P.Out.bind (xx d name l m.sr) (fun p=>O (.ok (p.1,{ m with sr:=p.2 })))=O r:=hr;cases u:xx d name l m.sr with
  | none=>rw[u] at hr;cases hr
  | some q=>
  rw[u] at hr;have xe:=h.ext K;have tS:l.length=s.length:=by rw[<- T.length,uh]
  refine aZJ (anA Cx (r:=q) xe.less (by grind [BE,fZ.dn]) ((TG S uh.symm).mono zg yH) (T.bH (qL.dZ K)) U zo zo u) ?_;intro y w3 f;have f:=xe.part hr f;exact EPost.aft T4 (f.of (dc.dZ K)) X
end
section
variable{D:Nat->Prop}{ρ:Nat->Nat}{e:Aq}{av tv:Y}{di:List Y}{w w':Z}{m:Vm}
def aNL
  (h:fZ D ρ e av tv di w m) (hD:∀ b,w.heap.size<=b->D b) {x:Fm} {i:P.In} (hi:Au w g o i) (hH:K6 m x i) (hw:i.word=Is)
 (hr:uR dK d i m=O r) :
  Calls a9I 207 #[pp e.vb,pq g o] w (EPost D w (rA D ρ m.n e.vb e.cb e.fm) r):=by
 suffices H:∀ R:Ending->Z->Prop,(∀ E w',EPost D w (rA D ρ m.n e.vb e.cb e.fm) r E w'->R E w')->Calls a9I 207 #[pp e.vb,pq g o] w R from H _ fun _ _ h=>h;intro R hR;obtain⟨hx,I,iH,uT,hz,lC,-⟩:=hH;have pG:=hi;obtain⟨word,name,con,s⟩:=i;simp only at hw;have c0:=h.cell;obtain⟨⟨CB,iU,-,-⟩,-,qo,mh,Fo,Fp⟩:=h.fs _ _ hx;obtain⟨cur,hg,ho,iw,vj,⟨cv,iX,lk⟩,sv,dX,me⟩:=hi;simp only at iw vj lk dX me iX;have lg:=bg hg;refine Qd ?_;unfold uR at hr;dsimp only at hr;subst hw;have qI:=I.sl (by simp only;decide) (by simp only;decide);simp only at qI;have Ql:∀ k∈s,k<x.slots.length:=zg;have vY:=I.qg;have mm:=I.SG;simp only at vY mm;have nH:cur[o]?=O (aT [109,97,107,101]):=iw
 iterate 4 rw[bZ zd] at hr
 rw[zip zd] at hr;have h2s:2<=s.length:=I.two (.inl J);obtain⟨L,K3⟩:=cd (s.length-1);have sI:s.tail.length=L:=zg;obtain⟨nb,wJ,mY,oJ,aNM,xn⟩:=KW me (j:=0) zo;subst mY;have aeZ:(1:Int)<=(s.length:Int):=zo;have yR:sliced (O ⟨nb,0,V⟩) 1 s.length wJ.size 1 = .slice (O ⟨nb,1,V⟩) L (wJ.size-1):=by
  unfold sliced;rw[bZ zo,K3];simp [Addr.add]
 refine dH @c0 iU hg (zA @nH (zA dX (zA @vj yR))) ?_;obtain⟨wc,Ye⟩:=cd (w.alloc (ae #[aT name,bV] 180));have hEc:Ext w wc:=yF;have sc:wc.heap.size=w.heap.size+1:=yH;have qd:wc.heap[w.heap.size]?=aM #[aT name,bV] 180:=yH;rw[<- Ye];refine⟨fun n z c=>∃ (j:Nat) (rn:Y) (us:List Y) (f:List Tm),z 88=zi (j:Nat)/\j<=L/\n=L-j/\Ext w c/\w.heap.size<c.heap.size/\c.heap[w.heap.size]?=aM #[aT name,rn] 180 /\
   c.ownsRow (w.heap.size+1) 89 1 rn j us/\us.length=j/\py ρ m.n w us f/\jr f/\m.iK s.tail=P.CF f (m.iK (s.tail.drop j)),
  ⟨_,0,bV,[],[],J,Nat.zero_le _,J,hEc,zo,qd,aZ8 _ _ _ _,J,by unfold py iE;rfl,by unfold jr;trivial,by rw[List.drop_zero];cases m.iK s.tail<;>rfl⟩,?_⟩
 intro n z dz c hI;clear dz;refine toPr ?_;obtain⟨j,rn,us,f,K,hj,rfl,p,jm,M,rB,uh,kH,afB,N⟩:=hI;obtain⟨pa,pc,Fs⟩:=gV rB;subst Fs;have sj:=p.size;have Q:Ext w c.drew:=p.drew;have XC:=bg M;by_cases hlt:j<L
 .have Cr:(j:Int)<(L:Int):=zo;refine du K Cr ?_;refine⟨fun w'=>w'.heap[w.heap.size]?=c.heap[w.heap.size]?,J,?_⟩;try rw[ju]
  refine cO (pq w.heap.size 1) (fun w' S=>eR) ?_;refine cO (.slice pa j pc) (fun w' S=>by rw[M] at S;have:=bg S;exact fa S) ?_;try rw[K]
  refine bE ?_;have Te:=h.ext Q;have Pl:j+1<s.length:=zo;rw[show(j:Int)+1=((j+1:Nat):Int) by omega];refine aZJ (aeX Te hx (pG.bH (eH.dZ Q)) (k:=j+1) Pl (by grind [a0a]) zo) ?_;rintro E w2 ⟨rfl,row,v,eP,U,-,l⟩;have TY:Ext w c.drew.drew:=Q.drew;have q:=P.afs (j:=j) zo N;have htg:s.tail[j]' zo=s[j+1]:=zs;rw[htg] at q;simp only at l;rw[Q.ext _ _ mh] at eP;cases eP;cases hq:P.vi (m.slot s[j+1]) with
  | error t=>
   rw[hq] at l q;rw[show m.iK s.tail = .error t from q] at hr;have hr:=(aZN hr);subst hr;have l:E=gR t:=l;subst l;cases t<;>exact fun _=>hR _ _ ⟨yF,J⟩
  | ok t=>
   rw[hq] at l q;have q:m.iK s.tail=P.CF (f++[t]) (m.iK (s.tail.drop (j+1))):=q;have l:E = ah v:=l;subst l;obtain⟨afC,v2,q1,q2,q3,q4⟩:=h.Qg hx (Ql _ (a0a Pl));rw[mh] at q1;cases q1;rw[q3] at U;injection U with U;subst U;rw[P.Yf hq] at q4;have q4:dM ρ m.n w v2 t:=q4;have apC:er t:=(by grind [P.Yg]);have TX:v2.oneCell'=true:=by obtain⟨a,b,rfl⟩:=q4.iface;rfl
   obtain⟨vt,vx,T5⟩:=q4.iface;rw[T5];refine bE ?_;rw[<- T5];obtain⟨F,qG⟩:=cd (c.drew.drew.alloc (ae #[v2] 89));have u:Ext c F:=yF;have sA:F.heap.size=c.heap.size+1:=yH;have hnA:F.heap[c.heap.size]?=aM #[v2] 89:=yH;have hcA:=u.ext _ _ M;have CC:F.ownsRow (w.heap.size+1) 89 1 (.slice pa j pc) j us:=jJ u.ext rB;try rw[<- qG]
   refine Pz CC hnA TX zo zo ?_;intro v' w' sS C Dx;obtain⟨CD,pc',IV⟩:=gV sS;subst IV;have Mb:∀ {b:Nat} {cs:Array Y} {T:Nat},T≠89->F.heap[b]?=aM cs T->w'.heap[b]?=aM cs T:=fun{b cs T} hT W=>by
    rw[C.block b (bg W) (fun he=>?_)]
    .omega
    .rcases CC.2 with⟨X,-⟩| ⟨b',cap,PI,B,g2,g3,g4⟩
     .rw[X] at he;cases he
     .rw[B] at he;injection he with he;grind
   have nO:=Mb zd hcA;have lc':=bg nO;have sw':=C.size;refine⟨yH,?_⟩;refine du K nO ?_;obtain⟨wE,NJ⟩:=cd (bO w' w.heap.size (ae #[aT name,.slice CD (j+1) pc'] 180));have afb:bO w' w.heap.size (ae (oF #[aT name,.slice pa j pc] 1 (Value.slice CD (j+1) pc').cells.toList) 180 (0,0))=wE:=NJ.symm;first | rw[<- NJ] | rw[afb] | skip
   have hbE:∀ {b:Nat} {cs:Array Y} {T:Nat},T≠180->w'.heap[b]?=aM cs T->wE.heap[b]?=aM cs T:=yH;refine⟨L-(j+1),zo,j+1,.slice CD (j+1) pc',us++[v2],f++[t],zs,zo,J,?_,zo,J,?_,zg,kH.snoc q4,P.afv apC afB,q⟩
   .have IW:=p.trans u;rw[NJ];refine⟨C.os.trans IW.os,C.tape.trans IW.tape,C.output.trans IW.output,yH,fun b o W hm=>?_⟩;have lb:=bg W;have hbA:=IW.ext _ _ W;rw[iY zo,C.block b zo (fun he=>?_)]
    .exact yH
    .rcases CC.2 with⟨X,-⟩| ⟨b',cap,PI,B,g2,g3,g4⟩
     .rw[X] at he;cases he
     .rw[B] at he;injection he with he;grind
   .refine⟨sS.1,?_⟩;rcases sS.2 with X | ⟨b,cap,PI,B,g2,g3,g4⟩
    .exact yH
    .exact .inr ⟨b,cap,PI,B,g2,yH,g4⟩
 .have fw:j=L:=zo;subst fw;rw[<- sI,List.drop_length] at N;have N:m.iK s.tail = .ok f:=by grind [Vm.iK,P.CF]
  rw[N] at hr;have hgj:=p.ext _ _ hg;have NG:=p.ext _ _ oJ;have ry:=p.ext _ _ mh;have AW:s[0]<x.slots.length:=Ql _ (a0a _);have oR:((s[0]:Nat):Int).toNat=s[0]:=zo;have vz:((s[0]:Nat):Int)<(x.slots.length:Int):=zo;have hr:r = .ok (A,m.set (s.getD 0 0) (.term (.comp name f))):=(aZN hr).symm;have B:s.getD 0 0=s[0]:=zg;rw[B] at hr;refine dH K hgj dX (zA NG (zA aNM (zA @oR ry))) ?_;have afc:dM ρ m.n c (aj 175 (pp w.heap.size)) (.comp name f):=by
   unfold dM dI;exact⟨w.heap.size,_,us,J,trivial,M,TG rB uh.symm,kH.bH (qL.dZ p)⟩
  obtain⟨r1,r2⟩:=(h.ext p).aoR ry (k:=s[0]) (y:=.term (.comp name f)) afc J;subst hr;exact hR _ _ ⟨yF,J,ρ,eg.refl _ _,_,_,_,_,_,r1⟩
end
section
variable{D:Nat->Prop}{ρ:Nat->Nat}{e:Aq}{av tv:Y}{di:List Y}{w w':Z}{m:Vm}
def afE
  (h:fZ D ρ e av tv di w m) (hD:∀ b,w.heap.size<=b->D b) {x:Fm} {i:P.In} (hi:Au w g o i) (hH:K6 m x i) (hw:i.word=kf\/i.word=jL\/i.word=kR)
 (hr:uR dK d i m=O r) :
  Calls a9I 207 #[pp e.vb,pq g o] w (EPost D w (rA D ρ m.n e.vb e.cb e.fm) r):=by
 suffices H:∀ R:Ending->Z->Prop,(∀ en w',EPost D w (rA D ρ m.n e.vb e.cb e.fm) r en w'->R en w')->Calls a9I 207 #[pp e.vb,pq g o] w R from H _ fun _ _ h=>h;intro R N;obtain⟨hx,dx,iH,uT,hz,lC,-⟩:=hH;have pG:=hi;obtain⟨word,name,con,s⟩:=i;simp only at hw;have c0:=h.cell;obtain⟨⟨CB,E,-,-⟩,-,qo,Q,Fo,Fp⟩:=h.fs _ _ hx;obtain⟨cur,p,ho,iw,vj,⟨cv,iX,lk⟩,sv,y,me⟩:=hi;simp only at iw vj lk y me iX;have dC:Ext w w.drew:=yF;have l0:=bg c0;have lf:=bg E;have lr:=bg Q;have lg:=bg p;refine Qd ?_;unfold uR at hr;dsimp only at hr;have O6:s.length=1:=dx.one zg;obtain⟨k,rfl⟩:∃ k,s=[k]:=by match s,O6 with | [k],_=>grind
 have qI:=dx.sl;simp only at qI;obtain⟨nb,wJ,mY,F,I,-⟩:=KW me (j:=0) zs;simp only[a0p,a1s] at mY I;subst mY;have lnb:=bg F;have oR:((k:Nat):Int).toNat=k:=zo;obtain⟨aa,ac,q⟩:=gV h.ar;have L:=c0;rw[q] at L;simp only[List.getD_cons_zero] at hr;obtain⟨Pt,TP⟩:=PJ (by rw[q] at h;exact h.ar:w.ownsRow 0 342 5 (.slice aa m.bw.length ac) m.bw.length di);rcases hw with rfl | rfl | rfl
 .have B:cur[o]?=O (aT [116,114,121]):=iw
  iterate 10 rw[bZ zd] at hr
  rw[zip rfl] at hr;have hr:=(aZN hr).symm;refine dH @L E p (zA @B y) ?_;have C:∀ {w1:Z},Ext w w1->Qf 342 w w1:=fun h b cs T _ S=>h.ext _ _ S;refine⟨fun w'=>Qf 342 w w',C dC,?_⟩;rw[ju];refine cO (pq e.vb 5) (fun w' a=>eR) ?_;refine cO (.slice aa m.bw.length ac) (fun w' a=>by have c:=a _ _ _ zo L;have:=bg c;exact fa c) ?_;rw[ju];refine cO (pq e.vb 1) (fun w' a=>eR) ?_;rw[ju];refine cO (pq e.vb 3) (fun w' a=>eR) ?_;refine cO (pp (e.φ m.f)) (fun w' a=>by have c:=a _ _ _ zo L;have:=bg c;exact fa c) ?_;rw[ju];refine cO (pq g (o+3)) (fun w' a=>eR) ?_;refine cO (cR nb 1 wJ.size) (fun w' a=>by have c:=a _ _ _ zo p;have:=bg c;exact lP c y) ?_;refine cO (pp nb) (fun w' a=>eR) ?_;refine cO (zi (k:Nat)) (fun w' a=>by have c:=a _ _ _ zo F;have:=bg c;exact lP c I) ?_;refine aZJ (SY (h.ext dC).st Cx) ?_;rintro en w1 ⟨rfl,rfl⟩;refine⟨C dC,?_⟩;refine bE ?_;obtain⟨U,AZ⟩:∃ U:List Y,U=[zi (m.sr.tr.length:Nat),pp (e.φ m.f),zi (k:Nat),bV,bV]:=⟨_,J⟩;obtain⟨w2,jR⟩:=cd (w.drew.alloc (ae U.toArray 342 (0,0)));have dS:Ext w w2:=yF;have g2:w2.heap[w.heap.size]?=aM U.toArray 342:=yH;have s2:w2.heap.size=w.heap.size+1:=yH;rw[AZ] at jR;rw[<- jR];have h2:=h.ext dS;have q2:=h2.cell;rw[q] at q2;have W:=h2.ar;rw[q] at W;refine⟨C dS,?_⟩;refine aoV W g2 zg (by rw[AZ];intro u hu;simp only[List.mem_cons,List.not_mem_nil,or_false] at hu;rcases hu with rfl | rfl | rfl | rfl | rfl<;>rfl) zo zo ?_;intro v' w3 Kt AY DT;obtain⟨p3,d3,e3⟩:=gV Kt;subst e3;have KZ:mU D ρ m.n e.φ e.ψ m.fs.length w2 U [⟨m.sr.tr.length,m.f,k,[],[]⟩]:=
   ⟨bV,bV,[],[],zg,h.fl,nY.nil,⟨J,zg⟩,.inl ⟨J,J⟩,J⟩
  obtain⟨w4,jl⟩:=cd (bO w3 e.vb (ae #[pp e.cb,tv,zi (m.sr.fuel:Nat),pp (e.φ m.f),zi (m.pc:Nat),.slice p3 (m.bw.length+1) d3] 116));obtain⟨X,r2,r3,r4⟩:=h2.KI (l:=m.bw++[⟨m.sr.tr.length,m.f,k,[],[]⟩]) (by rw[List.length_append,a0p];exact Kt) (by rw[q];exact AY) (by rw[q];exact DT.imp id fun hx g p=>⟨hD g (by have:=hx g p;omega),hx g p⟩) (h2.ag.snoc KZ) jl;have c3:=r4.trans q2;refine⟨fun b cs T hT S=>by
   rw[AY.block b (by have:=bg S;omega) (fun he=>by rw[<- q] at he;exact h.X1 S hT he.symm)];exact dS.ext _ _ S,?_⟩
  refine cH @c3 ?_;have KU:bO w3 e.vb (ae (oF #[pp e.cb,tv,zi (m.sr.fuel:Nat),pp (e.φ m.f),zi (m.pc:Nat),.slice aa m.bw.length ac] 5 (Value.slice p3 (m.bw.length+1) d3).cells.toList) 116 (0,0))=w4:=jl.symm;first | rw[KU] | rw[<- jl]
  subst hr;exact N _ _ ⟨(dc.dZ dS).trans r2,J,ρ,eg.refl _ _,_,_,_,_,_,X⟩
 .have B:cur[o]?=O (aT [106,117,109,112]):=iw
  iterate 11 rw[bZ zd] at hr
  rw[zip rfl] at hr;have hr:=(aZN hr).symm;refine dH @c0 E p (zA @B (zA y (zA F I))) ?_;obtain⟨X,r2⟩:=h.own (w':=bO w e.vb (ae #[pp e.cb,tv,zi (m.sr.fuel:Nat),pp (e.φ m.f),zi (k:Nat),av] 116)) (f':=m.f) (pc':=k) yF yH h.fl;subst hr;exact N _ _ ⟨r2,J,ρ,eg.refl _ _,_,_,_,_,_,X⟩
 .have B:cur[o]?=O (aT [99,117,116]):=iw
  iterate 9 rw[bZ zd] at hr
  rw[zip rfl] at hr;have hk:k<x.slots.length:=a0b (qI zd zd k (List.mem_singleton.2 J)) iH;have vz:((k:Nat):Int)<(x.slots.length:Int):=zo;obtain⟨aXd,v,q1,q2,q3,q4⟩:=h.Qg hx hk;rw[Q] at q1;cases q1;have CG:∀ {K:Prop},(r = .error (.fault 5)->K)->(m.slot k = .nil\/∃ t,m.slot k = .term t)->K:=zg;cases j8:m.slot k with
  | nil=>
   rw[j8] at q4 hr;have q4:v = ai:=q4;subst q4;cases hr;refine dH @c0 E p (zA @B (zA y (zA F (zA I (zA @oR (zA Q @q3)))))) ?_;refine⟨fun _ _=>False,?_,by rintro _ _ h;exact h.elim⟩;refine bE ?_;exact N _ _ ⟨yF,J⟩
  | term t=>
   rw[j8] at q4 hr;cases hr;have q4:dM ρ m.n w v t:=q4;obtain⟨T,u,rfl,hT⟩:∃ T u,v = aj T u/\T≠201:=by
    cases t with
    | var i=>unfold dM dI at q4;grind
    | atom s=>unfold dM dI at q4;grind
    | int s=>unfold dM dI at q4;grind
    | comp s l=>unfold dM dI at q4;grind
   refine dH @c0 E p (zA @B (zA y (zA F (zA I (zA @oR (zA Q (zA @q3 hT))))))) ?_;refine⟨fun _ _=>False,?_,by rintro _ _ h;exact h.elim⟩;refine bE ?_;exact N _ _ ⟨yF,J⟩
  | level n=>
   rw[j8] at q4 hr;have hr:=(aZN hr).symm;have q4:v = aj 201 (zi (n:Nat)):=q4;subst q4;obtain⟨M,hM⟩:=cd (min n m.bw.length);rw[<- hM] at hr;have hmx:(if (m.bw.length:Int)<(n:Int) then(m.bw.length:Int) else(n:Int))=(M:Int):=zo;have hMc:(M:Int)<=(ac:Int):=zo;refine dH @L E p (zA @B (zA y (zA F (zA I (zA @oR (zA Q @q3)))))) ?_;refine⟨fun _ w'=>w'=w,?_,?_⟩
   .exact eR
   rintro z w2 rfl d2;clear d2;refine dH @aiz @L hmx TP ?_;obtain⟨X,r2,-⟩:=(h.ext dC).forget (k:=M) (w1:=bO w2.drew e.vb (ae #[pp e.cb,tv,zi (m.sr.fuel:Nat),pp (e.φ m.f),zi (m.pc:Nat),.slice aa M ac] 116)) zo q J;subst hr;exact N _ _ ⟨yF,J,ρ,eg.refl _ _,_,_,_,_,_,X⟩
def apE
  (h:fZ D ρ e av tv di w m) (hD:∀ b,w.heap.size<=b->D b) {x:Fm} {i:P.In} (I:Au w g o i) (S:K6 m x i) (hw:i.word=Af\/i.word=MM) (hC:xS w e.cb pb fm told dK) (rX:∀ p∈dK,∀ c∈p.clauses,yL c)
 (hr:uR dK d i m=O r) :
  Calls a9I 207 #[pp e.vb,pq g o] w (EPost D w (rA D ρ m.n e.vb e.cb e.fm) r):=by
 suffices H:∀ R:Ending->Z->Prop,(∀ B w',EPost D w (rA D ρ m.n e.vb e.cb e.fm) r B w'->R B w')->Calls a9I 207 #[pp e.vb,pq g o] w R from H _ fun _ _ h=>h;intro R K;obtain⟨hx,C,T,uT,hz,lC,-⟩:=S;have U:=I;obtain⟨word,name,con,s⟩:=i;simp only at hw;have c0:=h.cell;obtain⟨⟨CB,q,-,-⟩,-,qo,W,Fo,Fp⟩:=h.fs _ _ hx;obtain⟨cur,u,ho,E,X,⟨cv,iX,lk⟩,sv,dX,me⟩:=I;simp only at E X lk dX me iX;have L:Ext w w.drew:=yF;have l0:=bg c0;have lf:=bg q;have lr:=bg W;have lg:=bg u;refine Qd ?_;unfold uR at hr;dsimp only at hr;have M:=C.sl;simp only at M;have N:=C.qg;simp only at N;have T4:∀ {a:Bool×Vm} {Q:Ending} {w1:Z},rA D ρ m.n e.vb e.cb e.fm a Q w1->∃ v,Q = ah v:=zg;rcases hw with rfl | rfl
 .have y:cur[o]?=O (aT [99,97,108,108]):=E
  iterate 12 rw[bZ zd] at hr
  rw[zip rfl] at hr;refine dH @c0 q u @y ?_;refine aZJ (aND h hD hC (by grind [yL.sl]) hx U (r:=r) (fun k hk=>a0b (M zd zd k hk) T) N C.SG zo hr) ?_;intro B w3 hp;grind [EPost.aft]
 .have y:cur[o]?=O (aT [114,101,116]):=E
  iterate 13 rw[bZ zd] at hr
  rw[zip zd,hx] at hr;simp only at hr;cases F:x.back with
  | none=>
   rw[F] at hr q;cases hr;simp (disch:=first|assumption|omega|simp only[zS]<;>omega|decide) only[zB,simprocAttr,kJ,c0,q,u,y,Bl];refine⟨fun _ _=>False,?_,by rintro _ _ h;exact h.elim⟩;simp (disch:=first|assumption|omega|simp only[zS]<;>omega|decide) only[zB,simprocAttr,kJ,c0,q,Bl];exact K _ _ ⟨yF,J⟩
  | some b=>
   rw[F] at hr q;have hr:=(aZN hr).symm;have oK:=h.bk _ _ _ hx F;simp (disch:=first|assumption|omega|simp only[zS]<;>omega|decide) only[zB,simprocAttr,kJ,c0,q,u,y,Bl];refine⟨fun _ w'=>w'=w,?_,?_⟩
   .simp (disch:=first|assumption|omega|simp only[zS]<;>omega|decide) only[zB,simprocAttr,kJ,c0,q,Bl]
   rintro z w2 rfl d2;clear d2;have t:=c0;refine⟨fun w'=>Ext w2 w',L,?_⟩;rw[ju];refine cO (pq e.vb 3) (fun w' j=>eR) ?_;refine cO (pp (e.φ m.f)) (fun w' j=>by have l:=j.ext _ _ t;have:=bg l;exact fa l) ?_;rw[ju];refine cO (pq (e.φ m.f) 3) (fun w' j=>eR) ?_;refine cO (pp (e.φ b)) (fun w' j=>by have l:=j.ext _ _ q;have:=bg l;simp (disch:=first|assumption|omega|simp only[zS]<;>omega|decide) only[zB,simprocAttr,kJ,l,Bl]) ?_;rw[ju];refine cO (pq e.vb 3) (fun w' j=>eR) ?_;refine cO (pp (e.φ m.f)) (fun w' j=>by have l:=j.ext _ _ t;have:=bg l;exact fa l) ?_;rw[ju];refine cO (pq (e.φ m.f) 4) (fun w' j=>eR) ?_;refine cO (zi (x.pc:Nat)) (fun w' j=>by have l:=j.ext _ _ q;have:=bg l;exact fa l) ?_;rw[ju];refine cO (pq e.vb 3) (fun w' j=>eR) ?_;refine cH @t ?_;obtain⟨r1,r2⟩:=(h.ext L).own (w':=bO w2.drew e.vb (ae #[pp e.cb,tv,zi (m.sr.fuel:Nat),pp (e.φ b),zi (x.pc:Nat),av] 116)) (f':=b) (pc':=x.pc) yF yH oK;subst hr;exact K _ _ ⟨yF,J,ρ,eg.refl _ _,_,_,_,_,_,r1⟩
end
