/- A part of one proof (KV10, KV11, KV12, KV13, KV14). -/
import Derived.Test.YtoegidfbnkaabaaGreatDoorPkIAX
set_option linter.all false
set_option maxRecDepth 100000
set_option maxHeartbeats 8000000
open Option renaming some → O, none → V
open Go renaming Value → Y, World → Z
open Bool renaming true → A, false → G
open Go.Obj renaming cells → ae
open Go.Ending renaming returned → ah
open Go.Value renaming nilIface → ai, iface → aj
open Go.Calls renaming mono → a1a
open Option.some renaming inj → a1b
open List renaming getElem?_eq_getElem → a1e, getElem_mem → a1D, length_singleton → a1Q, getElem_cons_zero → a22
open Go.World renaming ownsRow_nil → a1A
open Nat renaming lt_of_lt_of_le → a1G
open Go.Proofs.Tryz renaming prog → bbs
namespace Go.Proofs.YtoegidfbnkaabaaGreatDoor
open P
open Go.RowKit Sx
variable{D:Nat->Prop}{R:Ending->Z->Prop}{W w':Z}{X:Y->Z->Prop}{fx b base cb d g j k n o pb told:Nat}{dO:List Pd}{r:Except jQ (Bool×Vm)}{v:Y}{xs:List Y}
def agw(name:Bs)(n:Nat)(b:name.length<=100)(a:n<80)(w:Z):Calls bbs 71 #[aT name,zi (n:Nat)] w fun e w'=>e = ah (aT (P.keyOf name n))/\w'=w:=by
 refine aOc ?_;refine bG ?_;rw[M8 _ _ zg];refine bG ?_;rw[wrap32 n a,ajH zk zk zo,M8 _ _ zg];exact⟨by rw[P.keyOf,List.append_assoc];rfl,J⟩
def Tryz.aO7:(Tryz.prog.info? 20).map (fun i=>(i.zero,i.size,i.bytes))=O (O ai,1,16):=zk
def aO8{w:Z}(d:w.ownsRow base 20 1 v n xs){m:Nat}{a:Y}
  (f:w.heap[b]?=aN #[a] 20) (q:a.oneCell'=A)
  (r:n<=100000000) (g:base<=w.heap.size) {K:Y->Z->Prop}
  (h:∀ v' w',w'.ownsRow base 20 1 v' (n+1) (xs++[a])->w.grownBy w' v.ownBlock->(v'.ownBlock=v.ownBlock\/∀ k,v'.ownBlock=O k->w.heap.size<=k)->K v' w') :
  WR bbs (Builtin.append_ #[200,200] 200 #[v,cV b 1 m]) w K X:=by
 obtain⟨i,j,c⟩:=Option.map_eq_some_iff.1 Tryz.aO7;simp only[Prod.mk.injEq] at c;obtain⟨l,o,p⟩:=c;refine Sx.DP (m:=1) (t:=200) (e:=20) zk j l o p J zo d f J (fun u hu=>?_) zo zo g h;grind
def agx{w:Z}{T size:Nat}(a:Ext w W)(e:W.ownsRow w.heap.size T size v n xs)(c:W.grownBy w' v.ownBlock):Ext w w':=by
 have:=a.size;have:=c.size;refine⟨c.os.trans a.os,c.tape.trans a.tape,c.output.trans a.output,zo,fun b o d _=>?_⟩;have lb:=bh d;rw[c.block b zo (fun he=>?_)]
 .exact a.ext _ _ d
 .rcases e.2 with⟨f,-⟩| ⟨h,cap,cur,g,g2,g3,g4⟩
  .rw[f] at he;cases he
  .rw[g] at he;injection he with he;grind
structure yJ(w:Z)(cb pb fx told:Nat)(dO:List Pd):Prop where
 cell:w.heap[cb]?=aN #[.map (O pb),pp fx,zi (told:Nat)] 187
 dO:UK w pb dO
theorem yJ.bK{w w':Z}{cb pb fx told:Nat}{dO:List Pd}(h:yJ w cb pb fx told dO)(hk:eR w w')(hm:∀ l,w.heap[pb]?=O (eO l)->w'.heap[pb]?=O (eO l)):yJ w' cb pb fx told dO:=
 ⟨hk _ _ _ (yM) h.cell,h.dO.bK hk hm⟩
theorem yJ.fr{w:Z}(h:yJ w cb pb fx told dO)(a:di D w w'):yJ w' cb pb fx told dO:=
 h.bK (di.toI a) fun l hm=>a.block _ _ hm (by rintro ⟨_,cs',c,z,b,d⟩;cases b)
def P.aqK(dO:List Pd)(i:P.In)(m:Vm):P.Out (Bool×Vm):=match dO.find? fun p=>p.name == i.name && p.arity == i.s.length with
 | none=>O (.error (.fault 10))
 | some p=>match p.clauses with
  | []=>O (.ok (G,m))
  | l=>match m.enter l (i.s.map m.slot) m.f m.pc m.bz.length with
   | none=>V
   | some m=>O (.ok (A,m))
section
variable{D:Nat->Prop}{ρ:Nat->Nat}{e:A9}{av tv:Y}{dw:List Y}{w w':Z}{m:Vm}
def aO9(h:gr D ρ e av tv dw w m)(hD:∀ b,w.heap.size<=b->D b)(hC:yJ w e.cb pb fx told dO)(tE:∀ p∈dO,∀ c∈p.clauses,c.slots<=64){x:Fm}(hx:m.fs[m.f]?=O x){i:P.In}(hi:Bc w g o i)
  (hk:∀ k∈i.s,k<x.slots.length) (xA:i.s.length<=60) (mU:i.name.length<=20) (lZ:m.bz.length<=900000000) (hr:P.aqK dO i m=O r) :
  Calls bbs 215 #[pp e.vb,pq g o] w (EPost D w (sJ D ρ m.n e.vb e.cb e.fx) r):=by
 suffices H:∀ R:Ending->Z->Prop,(∀ S w',EPost D w (sJ D ρ m.n e.vb e.cb e.fx) r S w'->R S w')->Calls bbs 215 #[pp e.vb,pq g o] w R from H _ fun _ _ h=>h;intro R hR;refine aNB ?_;obtain⟨cur,T,ho,iw,vZ,aNW,sv,eg,mG⟩:=hi;have lg:=bh T;obtain⟨na,nc,kP⟩:∃ a c,sv = .slice a i.s.length c:=by
  obtain⟨a,c,h⟩:=mG.sl;exact⟨a,c,by simpa using h⟩
 subst kP;have c0:=h.cell;obtain⟨⟨Ds,jg,-,-⟩,-,U,mN,F8,F9⟩:=h.fs _ _ hx;have aYx:∀ a,a<m.fs.length->e.ψ a<w.heap.size:=fun a ha=>by
  obtain⟨-,-,row,I,-⟩:=h.fs a _ (a1e ha);exact yH
 obtain⟨us,nE,L⟩:∃ us:List Y,us.length=i.s.length/\∀ j (W:j<i.s.length),us[j]?=U[i.s[j]]?/\∃ u,us[j]?=O u/\zV ρ m.n w u (m.slot i.s[j]):=by
  refine⟨i.s.map fun k=>(U[k]?).getD ai,zs,fun j W=>?_⟩;obtain⟨row,v,q1,q2,q3,q4⟩:=h.Rl hx (hk _ (a1D W));rw[mN] at q1;cases q1;have:(i.s.map fun k=>(U[k]?).getD ai)[j]?=O v:=by
   rw[List.getElem?_map,a1e W];simp [q3]
  exact⟨by rw[this,q3],v,this,q4⟩
 refine dF T eg ?_;refine⟨fun n z q=>∃ (j:Nat) (sw:Y),z 14=zi (j:Nat)/\z 5=sw/\j<=i.s.length/\n=i.s.length-j/\Ext w q/\q.ownsRow w.heap.size 20 1 sw j (us.take j),⟨_,0,bX,J,J,Nat.zero_le _,J,yF,by grind [a1A]⟩,?_⟩;intro n z dz q hI;clear dz;refine toPr ?_;obtain⟨j,sw,Dv,I,W,rfl,t,M⟩:=hI;obtain⟨pa,pc,Gd⟩:=il M;subst Gd;have Mn:=t.ext _ _ c0;have OQ:=t.ext _ _ jg;have sH:=t.ext _ _ mN;have hgj:=t.ext _ _ T;have lcj:=bh Mn;have aYz:=bh OQ;have lrj:=bh sH;have lgj:=bh hgj;have sj:=t.size;by_cases hlt:j<i.s.length
 .have Df:((j:Nat):Int)<(i.s.length:Int):=zo;have jV:((j:Nat):Int).toNat=j:=zo;obtain⟨nb,xK,gj,pJ,vk,-⟩:=Mf mG hlt;simp only[Value.slice.injEq,true_and] at gj;obtain⟨rfl,rfl⟩:=gj;have OP:=t.ext _ _ pJ;have pS:((i.s[j]:Nat):Int).toNat=i.s[j]:=zo;have wK:((i.s[j]:Nat):Int)<(x.slots.length:Int):=zg;obtain⟨e1,u,e2,hu⟩:=L j hlt;have hru:U[i.s[j]]?=O u:=zg;have BG:us.take (j+1)=us.take j++[u]:=by
   grind [List.take_add_one]
  have UX:u.oneCell'=true:=by rcases hu.one with rfl | ⟨_,_,rfl⟩<;>rfl
  rcases hu.one with rfl | ⟨ut,ux,rfl⟩;all_goals
   refine dM Dv I Df (zA OP (zA vk (zA @jV (zA Mn (zA OQ (zA sH (zA hru @pS))))))) ?_;refine aO8 (jY yH M) yH UX zo (by rw[size_alloc];omega) ?_;intro v' w' tW jK Ej;obtain⟨Du,pc',JP⟩:=il tW;subst JP;refine cO Dv ?_;exact⟨i.s.length-(j+1),zo,j+1,_,by first | rfl | simp [jv],by first | rfl | simp [jv],zo,J,agx yF (jY yH M) jK,by rw[BG];exact tW⟩
 .have fD:j=i.s.length:=zo;subst fD;refine dF Dv I ?_;rw[List.take_of_length_le zo] at M;obtain⟨pk,l,kg,B⟩:=hC;have aYB:=bh pk;have B:=B i.name i.s.length zo;have F:∀ {w2:Z} {b:Nat} {o:Obj},Ext w w2->w.heap[b]?=O o->w2.heap[b]?=O o:=yF;refine⟨fun w'=>Ext w w',t.drew,?_⟩;rw[jI];refine cS (pp e.vb) (fun w' C=>eV) ?_;refine cS (pp e.cb) (fun w' C=>by have E:=F C c0;have:=bh E;exact fm E) ?_;rw[jI];refine cS (pp e.cb) (fun w' C=>eV) ?_;refine cS (.map (O pb)) (fun w' C=>by have E:=F C pk;have:=bh E;exact fm E) ?_;rw[jI];refine cS (pq g (o+1)) (fun w' C=>eV) ?_;refine cS (aT i.name) (fun w' C=>by have E:=F C T;have:=bh E;exact mn E @vZ) ?_;rw[I];refine bG ?_;refine a1a (agw i.name i.s.length zo zo _) ?_;rintro S w2 ⟨rfl,rfl⟩;refine⟨t.drew,?_⟩;have tK:Ext w q.drew:=t.drew;have xB:∀ {K:Y->Prop} {X:Y->Z->Prop},RD bbs (Instr.lookup 184 (.map (O pb)) (.string (bs (P.keyOf i.name i.s.length))) G) q.drew K X=(match fO (P.keyOf i.name i.s.length) l 0 with
    | some (_,v)=>K v
    | none=>K (.slice V 0 0)):=fun{K X}=>by
   rw[LZ (k:=9) (e:=192) zk zk (z:=bX) zk (tK.ext _ _ kg)];grind
  rw[xB];unfold P.aqK at hr;cases Jn:fO (P.keyOf i.name i.s.length) l 0 with
  | none=>
   rw[Jn] at B;have B:dO.find? (fun p=>p.name == i.name && p.arity == i.s.length)=none:=B;rw[B] at hr;cases hr;refine⟨fun _ _=>False,?_,by rintro _ _ h;exact h.elim⟩;show RD _ _ _ _ _;rw[agc];refine bG ?_;exact hR _ _ ⟨yF,J⟩
  | some iv=>
   obtain⟨iv1,v⟩:=iv;rw[Jn] at B;obtain⟨p,hp,pbk,aPd,aYD,vs,rfl,xz,aYE,hpt,jC⟩:=B;rw[hp] at hr;simp only at hr;refine⟨fun _ w'=>w'=q.drew,?_,?_⟩
   .show RD _ _ _ _ _;rw[agc];exact eV
   rintro s w3 rfl d;clear d;by_cases ed:p.clauses=[]
   .have rp:(p.clauses.length:Int)=0:=zg;rw[ed] at hr;cases hr;refine cO rp ?_;exact hR _ _ ⟨yF,J,ρ,eD.refl _ _,_,_,_,_,_,h.ext tK⟩
   .have rp:¬ (p.clauses.length:Int)=0:=fun h=>ed (List.eq_nil_of_length_eq_zero zo);obtain⟨m',qf,hr⟩:∃ m',m.enter p.clauses (i.s.map m.slot) m.f m.pc m.bz.length=O m'/\r = .ok (A,m'):=by
     grind
    obtain⟨aa,ac,gx⟩:=il h.ar;have N:q.drew.heap[e.vb]?=_:=Mn;rw[gx] at N;refine dF rp @N ?_;have UY:Ext w q.drew.drew:=tK.drew;have JI:vs.length=p.clauses.length:=jC.1;have aYF:vs≠[]:=zg;have hso:oM q.drew.drew 185 (cV pbk p.clauses.length aPd) vs:=.inr yH;have aPf:yG D ρ m.n e.ψ m.fs.length q.drew.drew (.slice pa i.s.length pc) (i.s.map m.slot):=by
     have hsm:Dl ρ m.n q.drew.drew us.toArray (i.s.map m.slot):=fun a y Q=>by
      rw[List.getElem?_map] at Q;cases hq:i.s[a]? with
      | none=>grind
      | some k=>
       rw[hq] at Q;obtain⟨ha,WX⟩:=List.getElem?_eq_some_iff.1 hq;obtain⟨-,u,g1,g2⟩:=L a ha;rw[WX] at g2;cases Q;exact⟨u,zg,g2.bK (eR.eo UY) (eD.refl _ _)⟩
     rcases M.2 with⟨h1,h2⟩| ⟨b,cap,QO,h1,h2,h3,h4,I,h6,h7⟩
     .have:i.s=[]:=zg;exact .inl zg
     .rw[h1];refine .inr ⟨b,cap,QO,zs,zg,h3,zo,fun a y Q=>?_,zg⟩;obtain⟨u,g1,g2⟩:=hsm a y Q;grind
    have QC:p∈dO:=zg;refine a1a (aqf (h.ext UY) yH (l:=p.clauses) (args:=i.s.map m.slot) (f:=m.f) (pc:=m.pc) (n:=m.bz.length) (m':=m') hso (jC.bK (eR.eo UY)) aPf h.fl zo lZ zg zg qf) ?_;rintro S w4 ⟨rfl,gJ,h4⟩;refine bG ?_;subst hr;have hn:m'.n=m.n:=by
     unfold Vm.enter at qf;grind
    exact hR _ _ ⟨(di.eo UY).trans gJ,J,ρ,⟨zg,zg⟩,h4⟩
end
def P.Dw(l:List Tm):Except jQ (List Tm)->Except jQ (List Tm)
 | .ok r=>.ok (l++r)
 | .error e=>.error e
def P.agB(m:Vm)(k:Nat)(r:List Nat):m.iX (k::r)=match P.vY (m.slot k) with | .error e=>.error e | .ok t=>P.Dw [t] (m.iX r):=by
 rw[Vm.iX];cases m.slot k with
 | term t=>simp only[P.vY];cases m.iX r<;>rfl
 | nil=>rfl
 | level n=>rfl
def P.agC{m:Vm}{ks:List Nat}(c:j<ks.length){a:List Tm}(h:m.iX ks=P.Dw a (m.iX (ks.drop j))) :
  match P.vY (m.slot ks[j]) with | .error t=>m.iX ks = .error t | .ok t=>m.iX ks=P.Dw (a++[t]) (m.iX (ks.drop (j+1))):=by
 rw[List.drop_eq_getElem_cons c,P.agB] at h;cases b:P.vY (m.slot ks[j]) with
 | error t=>rw[b] at h;exact h
 | ok t=>
  rw[b] at h;simp only at h ⊢;rw[h];cases m.iX (ks.drop (j+1))<;>simp [P.Dw]
def P.Zh{y:Sl}{t:Tm}(h:P.vY y = .ok t):y = .term t:=by
 cases y with
 | term u=>grind [P.vY]
 | nil=>cases h
 | level n=>cases h
theorem P.Zi{m:Vm}{x:Fm}(hx:m.fs[m.f]?=O x)(b:∀ y∈x.slots,AU y)(k:Nat){t:Tm}(h:P.vY (m.slot k) = .ok t):eu t:=by
 have h:=P.Zh h;unfold Vm.slot at h;rw[hx] at h;simp only[List.getD_eq_getElem?_getD] at h;cases a:x.slots[k]? with
 | none=>grind
 | some y=>
  rw[a] at h;have h:y = .term t:=h;subst h;exact b _ (List.mem_of_getElem? a)
section
variable{D:Nat->Prop}{ρ:Nat->Nat}{e:A9}{av tv:Y}{dw:List Y}{w w':Z}{m:Vm}
def gr.part(h:gr D ρ e av tv dw w m){q:Except jQ (Bool×Sr)}(hr:P.Out.bind (O q) (fun p=>O (.ok (p.1,{ m with sr:=p.2 })))=O r){b:Ending}
  (a:EPost (Dn D av w) w (xG (Dn D av w) ρ m.n e.vb 1 116 (Ie e.cb (pp (e.φ m.f)) (zi (m.pc:Nat)) av)) q b w'):EPost D w (sJ D ρ m.n e.vb e.cb e.fx) r b w':=by
 obtain⟨c,a⟩:=a;cases q with
 | error t=>
  cases hr;exact⟨c.up fun _ h=>h.1,a⟩
 | ok p=>
  cases hr;obtain⟨rfl,j,d⟩:=a;obtain⟨g,i⟩:=h.store d c;exact⟨i,J,ρ,eD.refl _ _,_,_,_,_,_,g⟩
theorem EPost.agD{D:Nat->Prop}{w:Z}{α:Type}{Q:α->Ending->Z->Prop}(f:∀ {a e w},Q a e w->∃ v,e = ah v){r:Except jQ α}{b:Ending}{w':Z}(h:EPost D w Q r b w')(d:∀ b w',EPost D w Q r b w'->R b w') :
  ends (fun x w'=>R (ah x) w') (PC R) b w':=by
 cases b with
 | returned v=>exact d _ _ h
 | panicked c=>exact d _ _ h
 | outgrown=>
  obtain⟨-,h⟩:=h;cases r with
  | ok a=>grind
  | error t=>cases t<;>cases h
def EPost.aqO{D:Nat->Prop}{w:Z}{α:Type}{Q:α->Ending->Z->Prop}(f:∀ {a e w},Q a e w->∃ v,e = ah v){r:Except jQ α}{b:Ending}{w':Z}(h:EPost D w Q r b w')(d:∀ b w',EPost D w Q r b w'->R b w') :
  ends (fun x w'=>R (ah x) w') (MN R) b w':=by
 cases b with
 | returned v=>exact d _ _ h
 | panicked c=>exact fun _=>d _ _ h
 | outgrown=>
  obtain⟨-,h⟩:=h;cases r with
  | ok a=>grind
  | error t=>cases t<;>cases h
structure Mp(m:Vm)(x:Fm)(i:P.In):Prop where
 hx:m.fs[m.f]?=O x
 ok:uN x.code.slots i
 sl:x.code.slots<=x.slots.length
 tm:∀ y∈x.slots,AU y
 cW:m.sr.cW<=800000000
 bz:m.bz.length<900000000
 small:∀ k∈i.s,k<100000
def Zj(h:gr D ρ e av tv dw w m)(hD:∀ b,w.heap.size<=b->D b){x:Fm}{i:P.In}(hi:Bc w g o i)(hH:Mp m x i)(hw:i.word=P.uK\/i.word=FJ\/i.word=vJ\/i.word=rC)
 (hr:vK dO d i m=O r) :
  Calls bbs 207 #[pp e.vb,pq g o] w (EPost D w (sJ D ρ m.n e.vb e.cb e.fx) r):=by
 suffices H:∀ R:Ending->Z->Prop,(∀ T w',EPost D w (sJ D ρ m.n e.vb e.cb e.fx) r T w'->R T w')->Calls bbs 207 #[pp e.vb,pq g o] w R from H _ fun _ _ h=>h;intro R hR;obtain⟨hx,N,jd,vL,hz,lZ,-⟩:=hH;obtain⟨word,name,con,s⟩:=i;simp only at hw;have c0:=h.cell;obtain⟨⟨Ds,u,-,-⟩,-,q8,z,F8,F9⟩:=h.fs _ _ hx;obtain⟨cur,B,ho,C,vZ,⟨cv,U,W⟩,sv,p,X⟩:=hi;simp only at C vZ W p X U;have l:Ext w w.drew:=yF;have lr:=bh z;have Qf:s.length=1:=N.one zg;have rD:=N.sl (by rcases hw with h | h | h | h<;>(simp only[h];decide)) (by rcases hw with h | h | h | h<;>(simp only[h];decide));simp only at rD;obtain⟨k,rfl⟩:∃ k,s=[k]:=by match s,Qf with | [k],_=>grind
 have hk:k<x.slots.length:=a1G (rD k (List.mem_singleton.2 J)) jd;obtain⟨nb,xK,kP,K,E,-⟩:=Mf X (j:=0) zs;simp only[a1Q,a22] at kP E;subst kP;have L:((k:Nat):Int).toNat=k:=zo;have wK:((k:Nat):Int)<(x.slots.length:Int):=zo;refine Ri ?_;unfold vK at hr;simp only[List.getD_cons_zero] at hr;have M:∀ {eQ:Nat->Nat} {F:Nat} {I:Z} {v:Y} {y:Sl},Ext w I->eD ρ m.n eQ F->gr D eQ e av tv dw I { m with n:=F }->zV eQ F I v y->r = .ok (A,{ m.set k y with n:=F }) ->
   R (ah (.bool A)) (bS I (e.ψ m.f) (ae (q8.setIfInBounds k v) 20 (0,0))):=by
  intro eQ F I v y hE hu Q hy hr;subst hr;obtain⟨r1,r2⟩:=Q.aqa (hE.ext _ _ z) (k:=k) hy J;exact hR _ _ ⟨(di.eo hE).trans r2,J,eQ,hu,_,_,_,_,_,r1⟩
 rcases hw with rfl | rfl | rfl | rfl
 .have q:cur[o]?=O (aT [110,101,119]):=C;rw[zip rfl] at hr;have hr:=(a1b hr).symm;refine dM @c0 u B (zA @q (zA p (zA K (zA E (zA @L z))))) ?_;have Lv:Ext w (w.alloc (ae #[ai] 91)):=yF;obtain⟨eQ,hu,hn,Q⟩:=h.fresh hD Lv yH;refine M Lv hu Q ?_ hr;show dR eQ (m.n+1) (w.alloc (ae #[ai] 91)) (aj 87 (pp w.heap.size)) (.var m.n);unfold dR dL;exact yH
 .have q:cur[o]?=O (aT [112,117,116]):=C;rw[bI zd,zip zd] at hr;have hr:=(a1b hr).symm;obtain⟨t,rfl,ht,htc⟩:=N.con (.inl J);have U0:dR ρ m.n w.drew cv t:=W.dQ;obtain⟨ct,cx,rfl⟩:=U0.iface;refine dM @c0 u B (zA @q (zA p (zA K (zA E (zA @L (zA U z)))))) ?_;exact M l (eD.refl _ _) (h.ext l) (y:=.term t) U0 hr
 .have q:cur[o]?=O (aT [109,97,114,107]):=C
  iterate 7 rw[bI zd] at hr
  rw[zip rfl] at hr;have hr:=(a1b hr).symm;refine dM @c0 u B (zA @q p) ?_;refine⟨fun w'=>Ext w w',l,?_⟩;rw[jI];refine cS (pq g (o+3)) (fun w' a=>eV) ?_;refine cS (cV nb 1 xK.size) (fun w' a=>by have c:=a.ext _ _ B;have:=bh c;exact mn c p) ?_;refine cS (pp nb) (fun w' a=>eV) ?_;refine cS (zi (k:Nat)) (fun w' a=>by have c:=a.ext _ _ K;have:=bh c;exact mn c E) ?_;refine dM @c0 u @L z ?_;refine⟨l,?_⟩;rw[hx] at hr;exact M l (eD.refl _ _) (h.ext l) (y:=.level x.entry) J hr
 .have q:cur[o]?=O (aT [108,101,118,101,108]):=C
  iterate 8 rw[bI zd] at hr
  rw[zip rfl] at hr;have hr:=(a1b hr).symm;obtain⟨aa,ac,gx⟩:=il h.ar;have S:=c0;rw[gx] at S;refine dM @S u B (zA @q p) ?_;refine⟨fun w'=>Ext w w',l,?_⟩;rw[jI];refine cS (pq g (o+3)) (fun w' a=>eV) ?_;refine cS (cV nb 1 xK.size) (fun w' a=>by have c:=a.ext _ _ B;have:=bh c;exact mn c p) ?_;refine cS (pp nb) (fun w' a=>eV) ?_;refine cS (zi (k:Nat)) (fun w' a=>by have c:=a.ext _ _ K;have:=bh c;exact mn c E) ?_;refine dM @S u @L z ?_;refine⟨l,?_⟩;exact M l (eD.refl _ _) (h.ext l) (y:=.level m.bz.length) J hr
end
section
variable{D:Nat->Prop}{ρ:Nat->Nat}{e:A9}{av tv:Y}{dw:List Y}{w w':Z}{m:Vm}
theorem P.agF{t:Tm}(ht:eu t):∀ {l:List Tm},jy l->jy (l++[t])
 | [],_=>by simp only[List.nil_append];unfold jy;exact⟨ht,by unfold jy;trivial⟩
 | a::l,h=>by
  unfold jy at h;show jy (a::(l++[t]));unfold jy;exact⟨h.1,P.agF ht h.2⟩
theorem P.agG{m:Vm}{x:Fm}(hx:m.fs[m.f]?=O x)(a:∀ y∈x.slots,AU y){i:P.In}{t:Tm}(h:m.at i k = .ok t):eu t:=by
 grind [P.af3,P.Zi,Zi,af3]
def agH
  (h:gr D ρ e av tv dw w m) (hD:∀ b,w.heap.size<=b->D b) {x:Fm} {i:P.In} (W:Bc w g o i) (hH:Mp m x i) (hw:i.word=Eo\/i.word=FK\/i.word=Jj)
 (hr:vK dO d i m=O r) :
  Calls bbs 207 #[pp e.vb,pq g o] w (EPost D w (sJ D ρ m.n e.vb e.cb e.fx) r):=by
 suffices H:∀ R:Ending->Z->Prop,(∀ f w',EPost D w (sJ D ρ m.n e.vb e.cb e.fx) r f w'->R f w')->Calls bbs 207 #[pp e.vb,pq g o] w R from H _ fun _ _ h=>h;intro R E;obtain⟨hx,y,jd,vL,hz,lZ,-⟩:=hH;have M:=W;obtain⟨word,name,con,s⟩:=i;simp only at hw;have c0:=h.cell;obtain⟨⟨Ds,T,-,-⟩,-,q8,mN,F8,F9⟩:=h.fs _ _ hx;obtain⟨cur,N,ho,Q,vZ,⟨cv,X,lO⟩,sv,eg,mG⟩:=W;simp only at Q vZ lO eg mG X;have l:Ext w w.drew:=yF;refine Ri ?_;unfold vK at hr;dsimp only at hr;have rD:=y.sl (by rcases hw with h | h | h<;>(simp only[h];decide)) (by rcases hw with h | h | h<;>(simp only[h];decide));simp only at rD;have Rq:∀ k∈s,k<x.slots.length:=zg;have xA:=y.qT;simp only at xA;have U1:∀ {a:Bool×Vm} {e1:Ending} {w1:Z},sJ D ρ m.n e.vb e.cb e.fx a e1 w1->∃ v,e1 = ah v:=zg;rcases hw with rfl | rfl | rfl
 .have F:cur[o]?=O (aT [99,111,110,115,116]):=Q
  iterate 2 rw[bI zd] at hr
  rw[zip zd] at hr;have Qf:s.length=1:=y.one zg;obtain⟨t0,rfl,K7,htc⟩:=y.con (.inr J);have U0:dR ρ m.n w cv t0:=lO.dQ;obtain⟨ct,cx,rfl⟩:=U0.iface;refine dM @c0 T N @F ?_;refine⟨fun w'=>Ext w w',l,?_⟩;rw[jI];refine cS (pq e.vb 1) (fun w' S=>eV) ?_;rw[jI];refine cS (pq g (o+2)) (fun w' S=>eV) ?_;refine cS (aj ct cx) (fun w' S=>by have h9:=S.ext _ _ N;have:=bh h9;exact mn h9 X) ?_;have U:=h.ext l;refine a1a (Y8 U hx (M.bK (eR.eo l)) (k:=0) zg (by grind [a1D]) zo) ?_;rintro f w2 ⟨rfl,c⟩;have j:Ext w w.drew.drew:=l.drew;cases I:m.at ⟨Eo,name,O t0,s⟩ 0 with
  | error t=>
   rw[I] at hr c;have hr:=(a1b hr);subst hr;have c:f=ig t:=c;subst c;cases t<;>exact fun _=>E _ _ ⟨yF,J⟩
  | ok t=>
  rw[I] at hr c;obtain⟨v,rfl,hv⟩:=c;have hr:P.Out.bind (lS d t t0 m.sr) (fun p=>O (.ok (p.1,{ m with sr:=p.2 })))=O r:=hr;refine⟨j,?_⟩;cases z:lS d t t0 m.sr with
  | none=>rw[z] at hr;cases hr
  | some q=>
  rw[z] at hr;have K:=h.ext j;refine a1a (QD Dp d K.less (K.dn hD) hv (by grind [P.agG]) (U0.bK (rH.eo j)) K7 zo z) ?_;intro f w3 c;have c:=K.part hr c;exact EPost.aqO U1 (c.of (di.eo j)) E
 .have F:cur[o]?=O (aT [115,97,109,101]):=Q
  iterate 3 rw[bI zd] at hr
  rw[zip zd] at hr;have L:s.length=2:=y.same J;refine dM @c0 T N @F ?_;refine⟨fun w'=>Ext w w',l,?_⟩;rw[jI];refine cS (pq e.vb 1) (fun w' S=>eV) ?_;have U:=h.ext l;refine a1a (Y8 U hx (M.bK (eR.eo l)) (k:=0) zg (by grind [a1D]) zo) ?_;rintro f w2 ⟨rfl,c⟩;have j:Ext w w.drew.drew:=l.drew;cases I:m.at ⟨FK,name,con,s⟩ 0 with
  | error t=>
   rw[I] at hr c;have hr:=(a1b hr);subst hr;have c:f=ig t:=c;subst c;cases t<;>exact fun _=>E _ _ ⟨yF,J⟩
  | ok t=>
  rw[I] at hr c;obtain⟨v,rfl,hv⟩:=c;refine⟨j,?_⟩;have K:=h.ext j;have B:Ext w w.drew.drew.drew:=j.drew;refine a1a (Y8 K hx (M.bK (eR.eo j)) (k:=1) zg (by grind [a1D]) zo) ?_;rintro f w2 ⟨rfl,c⟩;simp only[Jf] at hr;cases wS:m.at ⟨FK,name,con,s⟩ 1 with
  | error t=>
   rw[wS] at hr c;have hr:=(a1b hr);subst hr;have c:f=ig t:=c;subst c;cases t<;>exact fun _=>E _ _ ⟨yF,J⟩
  | ok u=>
  rw[wS] at hr c;obtain⟨v2,rfl,kl⟩:=c;refine⟨B,?_⟩;have hr:P.Out.bind (lS d t u m.sr) (fun p=>O (.ok (p.1,{ m with sr:=p.2 })))=O r:=hr;cases z:lS d t u m.sr with
  | none=>rw[z] at hr;cases hr
  | some q=>
  rw[z] at hr;have C:=h.ext B;refine a1a (QD Dp d C.less (C.dn hD) (hv.bK (rH.eo yF)) (by grind [P.agG]) kl (by grind [P.agG]) zo z) ?_;intro f w3 c;have c:=C.part hr c;exact EPost.aqO U1 (c.of (di.eo B)) E
 .have F:cur[o]?=O (aT [115,112,108,105,116]):=Q
  iterate 5 rw[bI zd] at hr
  rw[zip zd] at hr;have L:2<=s.length:=y.two (.inr J);refine dM @c0 T N @F ?_;have KC:m.sr.tr.length+m.sr.fuel<=800000000:=hz;refine a1a (aNV h hD hx M (d:=d) (r:=r) L Rq xA y.TF (by grind [adC]) zo ?_) ?_
  .rw[<- hr];rfl
  .intro f w3 c;grind [EPost.agD]
def aPg
  (h:gr D ρ e av tv dw w m) (hD:∀ b,w.heap.size<=b->D b) {x:Fm} {i:P.In} (W:Bc w g o i) (hH:Mp m x i) (hw:i.word=nM)
 (hr:vK dO d i m=O r) :
  Calls bbs 207 #[pp e.vb,pq g o] w (EPost D w (sJ D ρ m.n e.vb e.cb e.fx) r):=by
 suffices H:∀ R:Ending->Z->Prop,(∀ y w',EPost D w (sJ D ρ m.n e.vb e.cb e.fx) r y w'->R y w')->Calls bbs 207 #[pp e.vb,pq g o] w R from H _ fun _ _ h=>h;intro R X;obtain⟨hx,M,jd,vL,hz,lZ,-⟩:=hH;have qw:=W;obtain⟨word,name,con,s⟩:=i;simp only at hw;have c0:=h.cell;obtain⟨⟨Ds,jg,-,-⟩,-,q8,mN,F8,F9⟩:=h.fs _ _ hx;obtain⟨cur,hg,ho,iw,vZ,⟨cv,jo,lO⟩,sv,eg,mG⟩:=W;simp only at iw vZ lO eg mG jo;refine Ri ?_;unfold vK at hr;dsimp only at hr;subst hw;have rD:=M.sl (by simp only;decide) (by simp only;decide);simp only at rD;have Rq:∀ k∈s,k<x.slots.length:=zg;have xA:=M.qT;simp only at xA;have oo:cur[o]?=O (aT [116,101,115,116]):=iw
 iterate 6 rw[bI zd] at hr
 rw[zip zd] at hr;have aYG:jW name=s.length:=M.test J;obtain⟨na,nc,kP⟩:∃ a c,sv = .slice a s.length c:=by
  obtain⟨a,c,h⟩:=mG.sl;exact⟨a,c,by simpa using h⟩
 subst kP;have U1:∀ {a:Bool×Vm} {e1:Ending} {w1:Z},sJ D ρ m.n e.vb e.cb e.fx a e1 w1->∃ v,e1 = ah v:=zg;refine dM @c0 jg hg (zA @oo eg) ?_;refine⟨fun n z C=>∃ (j:Nat) (N:Y) (us:List Y) (l:List Tm),z 128=zi (j:Nat)/\z 8=N/\j<=s.length/\n=s.length-j/\Ext w C/\C.ownsRow w.heap.size 89 1 N j us/\us.length=j/\qp ρ m.n w us l/\jy l/\m.iX s=P.Dw l (m.iX (s.drop j)),
  ⟨_,0,bX,[],[],J,J,Nat.zero_le _,J,yF,a1A _ _ _ _,J,by unfold qp iT;rfl,by unfold jy;trivial,by rw[List.drop_zero];cases m.iX s<;>rfl⟩,?_⟩
 intro n z dz C hI;clear dz;refine toPr ?_;obtain⟨j,N,us,l,F,Q,hj,rfl,E,S,uU,T,U,I⟩:=hI;obtain⟨pa,pc,Gd⟩:=il S;subst Gd;have sj:=E.size;have K:Ext w C.drew:=E.drew;by_cases hlt:j<s.length
 .have Df:(j:Int)<(s.length:Int):=zo;refine jk F Q Df ?_;have Ug:=h.ext E;refine a1a (af4 Ug hx (qw.bK (eR.eo E)) (k:=j) hlt (by grind [a1D]) zo) ?_;rintro y w2 ⟨rfl,row,v,eS,L,-,f⟩;have B:=P.agC hlt I;simp only at f;rw[E.ext _ _ mN] at eS;cases eS;cases u:P.vY (m.slot s[j]) with
  | error t=>
   rw[u] at f B;rw[show m.iX s = .error t from B] at hr;have hr:=(a1b hr);subst hr;have f:y=ig t:=f;subst f;cases t<;>exact X _ _ ⟨yF,J⟩
  | ok t=>
   rw[u] at f B;have B:m.iX s=P.Dw (l++[t]) (m.iX (s.drop (j+1))):=B;have f:y = ah v:=f;subst f;obtain⟨agM,v2,q1,q2,q3,q4⟩:=h.Rl hx (Rq _ (a1D hlt));rw[mN] at q1;cases q1;rw[q3] at L;injection L with L;subst L;rw[P.Zh u] at q4;have q4:dR ρ m.n w v2 t:=q4;have aqQ:eu t:=(by grind [P.Zi]);have UX:v2.oneCell'=true:=by obtain⟨a,b,rfl⟩:=q4.iface;rfl
   obtain⟨vt,vx,U2⟩:=q4.iface;rw[U2];refine dF F Q ?_;rw[<- U2];have Dt:(C.drew.alloc (ae #[v2] 89)).ownsRow w.heap.size 89 1 (.slice pa j pc) j us:=jY yH S;refine QG Dt yH UX zo (yH) ?_;intro v' w' tW jK Ej;obtain⟨Du,pc',JP⟩:=il tW;subst JP;refine cO F ?_;refine⟨s.length-(j+1),zo,j+1,_,us++[v2],l++[t],zg,zg,zo,J,agx yF Dt jK,tW,zg,T.snoc q4,?_,B⟩;grind [P.agF]
 .have fD:j=s.length:=zo;subst fD;rw[List.drop_length] at I;have I:m.iX s = .ok l:=by grind [Vm.iX,P.Dw]
  rw[I] at hr;have rQ:=K.ext _ _ hg;refine dM F Q rQ @vZ ?_;have hr:P.Out.bind (yk d name l m.sr) (fun p=>O (.ok (p.1,{ m with sr:=p.2 })))=O r:=hr;cases u:yk d name l m.sr with
  | none=>rw[u] at hr;cases hr
  | some q=>
  rw[u] at hr;have xW:=h.ext K;have uJ:l.length=s.length:=by rw[<- T.length,uU]
  refine a1a (aoM Dp (r:=q) xW.less (by grind [Ck,gr.dn]) ((UF S uU.symm).mono zg yH) (T.bK (rH.eo K)) U zo zo u) ?_;intro y w3 f;have f:=xW.part hr f;exact EPost.agD U1 (f.of (di.eo K)) X
end
section
variable{D:Nat->Prop}{ρ:Nat->Nat}{e:A9}{av tv:Y}{dw:List Y}{w w':Z}{m:Vm}
def aPh
  (h:gr D ρ e av tv dw w m) (hD:∀ b,w.heap.size<=b->D b) {x:Fm} {i:P.In} (hi:Bc w g o i) (hH:Mp m x i) (hw:i.word=Ji)
 (hr:vK dO d i m=O r) :
  Calls bbs 207 #[pp e.vb,pq g o] w (EPost D w (sJ D ρ m.n e.vb e.cb e.fx) r):=by
 suffices H:∀ R:Ending->Z->Prop,(∀ E w',EPost D w (sJ D ρ m.n e.vb e.cb e.fx) r E w'->R E w')->Calls bbs 207 #[pp e.vb,pq g o] w R from H _ fun _ _ h=>h;intro R hR;obtain⟨hx,I,jd,vL,hz,lZ,-⟩:=hH;have qw:=hi;obtain⟨word,name,con,s⟩:=i;simp only at hw;have c0:=h.cell;obtain⟨⟨Ds,jg,-,-⟩,-,q8,mN,F8,F9⟩:=h.fs _ _ hx;obtain⟨cur,hg,ho,iw,vZ,⟨cv,jo,lO⟩,sv,eg,mG⟩:=hi;simp only at iw vZ lO eg mG jo;have lg:=bh hg;refine Ri ?_;unfold vK at hr;dsimp only at hr;subst hw;have rD:=I.sl (by simp only;decide) (by simp only;decide);simp only at rD;have Rq:∀ k∈s,k<x.slots.length:=zg;have xA:=I.qT;have mU:=I.TF;simp only at xA mU;have oo:cur[o]?=O (aT [109,97,107,101]):=iw
 iterate 4 rw[bI zd] at hr
 rw[zip zd] at hr;have h2s:2<=s.length:=I.two (.inl J);obtain⟨L,Mm⟩:=cg (s.length-1);have tP:s.tail.length=L:=zg;obtain⟨nb,xK,kP,pJ,aPi,yg⟩:=Mf mG (j:=0) zo;subst kP;have af6:(1:Int)<=(s.length:Int):=zo;have zM:sliced (O ⟨nb,0,V⟩) 1 s.length xK.size 1 = .slice (O ⟨nb,1,V⟩) L (xK.size-1):=by
  unfold sliced;rw[bI zo,Mm];simp [Addr.add]
 refine dM @c0 jg hg (zA @oo (zA eg (zA @vZ zM))) ?_;obtain⟨wc,Zg⟩:=cg (w.alloc (ae #[aT name,bX] 180));have hEc:Ext w wc:=yF;have sc:wc.heap.size=w.heap.size+1:=yH;have qQ:wc.heap[w.heap.size]?=aN #[aT name,bX] 180:=yH;rw[<- Zg];refine⟨fun n z c=>∃ (j:Nat) (sw:Y) (us:List Y) (f:List Tm),z 88=zi (j:Nat)/\j<=L/\n=L-j/\Ext w c/\w.heap.size<c.heap.size/\c.heap[w.heap.size]?=aN #[aT name,sw] 180 /\
   c.ownsRow (w.heap.size+1) 89 1 sw j us/\us.length=j/\qp ρ m.n w us f/\jy f/\m.iX s.tail=P.Dw f (m.iX (s.tail.drop j)),
  ⟨_,0,bX,[],[],J,Nat.zero_le _,J,hEc,zo,qQ,a1A _ _ _ _,J,by unfold qp iT;rfl,by unfold jy;trivial,by rw[List.drop_zero];cases m.iX s.tail<;>rfl⟩,?_⟩
 intro n z dz c hI;clear dz;refine toPr ?_;obtain⟨j,sw,us,f,K,hj,rfl,p,jh,M,sK,uU,ld,agL,N⟩:=hI;obtain⟨pa,pc,Gd⟩:=il sK;subst Gd;have sj:=p.size;have Q:Ext w c.drew:=p.drew;have YE:=bh M;by_cases hlt:j<L
 .have Df:(j:Int)<(L:Int):=zo;refine dF K Df ?_;refine⟨fun w'=>w'.heap[w.heap.size]?=c.heap[w.heap.size]?,J,?_⟩;try rw[jI]
  refine cS (pq w.heap.size 1) (fun w' S=>eV) ?_;refine cS (.slice pa j pc) (fun w' S=>by rw[M] at S;have:=bh S;exact fm S) ?_;try rw[K]
  refine bG ?_;have Ug:=h.ext Q;have Qu:j+1<s.length:=zo;rw[show(j:Int)+1=((j+1:Nat):Int) by omega];refine a1a (af4 Ug hx (qw.bK (eR.eo Q)) (k:=j+1) Qu (by grind [a1D]) zo) ?_;rintro E w2 ⟨rfl,row,v,eS,U,-,l⟩;have UY:Ext w c.drew.drew:=Q.drew;have q:=P.agC (j:=j) zo N;have htg:s.tail[j]' zo=s[j+1]:=zs;rw[htg] at q;simp only at l;rw[Q.ext _ _ mN] at eS;cases eS;cases hq:P.vY (m.slot s[j+1]) with
  | error t=>
   rw[hq] at l q;rw[show m.iX s.tail = .error t from q] at hr;have hr:=(a1b hr);subst hr;have l:E=ig t:=l;subst l;cases t<;>exact fun _=>hR _ _ ⟨yF,J⟩
  | ok t=>
   rw[hq] at l q;have q:m.iX s.tail=P.Dw (f++[t]) (m.iX (s.tail.drop (j+1))):=q;have l:E = ah v:=l;subst l;obtain⟨agM,v2,q1,q2,q3,q4⟩:=h.Rl hx (Rq _ (a1D Qu));rw[mN] at q1;cases q1;rw[q3] at U;injection U with U;subst U;rw[P.Zh hq] at q4;have q4:dR ρ m.n w v2 t:=q4;have aqQ:eu t:=(by grind [P.Zi]);have UX:v2.oneCell'=true:=by obtain⟨a,b,rfl⟩:=q4.iface;rfl
   obtain⟨vt,vx,U2⟩:=q4.iface;rw[U2];refine bG ?_;rw[<- U2];obtain⟨F,rA⟩:=cg (c.drew.drew.alloc (ae #[v2] 89));have u:Ext c F:=yF;have sA:F.heap.size=c.heap.size+1:=yH;have hnA:F.heap[c.heap.size]?=aN #[v2] 89:=yH;have hcA:=u.ext _ _ M;have Dt:F.ownsRow (w.heap.size+1) 89 1 (.slice pa j pc) j us:=jY u.ext sK;try rw[<- rA]
   refine QG Dt hnA UX zo zo ?_;intro v' w' tW C Ej;obtain⟨Du,pc',JP⟩:=il tW;subst JP;have Nt:∀ {b:Nat} {cs:Array Y} {T:Nat},T≠89->F.heap[b]?=aN cs T->w'.heap[b]?=aN cs T:=fun{b cs T} hT W=>by
    rw[C.block b (bh W) (fun he=>?_)]
    .omega
    .rcases Dt.2 with⟨X,-⟩| ⟨b',cap,QO,B,g2,g3,g4⟩
     .rw[X] at he;cases he
     .rw[B] at he;injection he with he;grind
   have nB:=Nt zd hcA;have lc':=bh nB;have sw':=C.size;refine⟨yH,?_⟩;refine dF K nB ?_;obtain⟨wE,OS⟩:=cg (bS w' w.heap.size (ae #[aT name,.slice Du (j+1) pc'] 180));have agk:bS w' w.heap.size (ae (pD #[aT name,.slice pa j pc] 1 (Value.slice Du (j+1) pc').cells.toList) 180 (0,0))=wE:=OS.symm;first | rw[<- OS] | rw[agk] | skip
   have hbE:∀ {b:Nat} {cs:Array Y} {T:Nat},T≠180->w'.heap[b]?=aN cs T->wE.heap[b]?=aN cs T:=yH;refine⟨L-(j+1),zo,j+1,.slice Du (j+1) pc',us++[v2],f++[t],zs,zo,J,?_,zo,J,?_,zg,ld.snoc q4,P.agF aqQ agL,q⟩
   .have JQ:=p.trans u;rw[OS];refine⟨C.os.trans JQ.os,C.tape.trans JQ.tape,C.output.trans JQ.output,yH,fun b o W hm=>?_⟩;have lb:=bh W;have hbA:=JQ.ext _ _ W;rw[jr zo,C.block b zo (fun he=>?_)]
    .exact yH
    .rcases Dt.2 with⟨X,-⟩| ⟨b',cap,QO,B,g2,g3,g4⟩
     .rw[X] at he;cases he
     .rw[B] at he;injection he with he;grind
   .refine⟨tW.1,?_⟩;rcases tW.2 with X | ⟨b,cap,QO,B,g2,g3,g4⟩
    .exact yH
    .exact .inr ⟨b,cap,QO,B,g2,yH,g4⟩
 .have fD:j=L:=zo;subst fD;rw[<- tP,List.drop_length] at N;have N:m.iX s.tail = .ok f:=by grind [Vm.iX,P.Dw]
  rw[N] at hr;have hgj:=p.ext _ _ hg;have OP:=p.ext _ _ pJ;have sH:=p.ext _ _ mN;have vC:s[0]<x.slots.length:=Rq _ (a1D _);have pS:((s[0]:Nat):Int).toNat=s[0]:=zo;have wK:((s[0]:Nat):Int)<(x.slots.length:Int):=zo;have hr:r = .ok (A,m.set (s.getD 0 0) (.term (.comp name f))):=(a1b hr).symm;have B:s.getD 0 0=s[0]:=zg;rw[B] at hr;refine dM K hgj eg (zA OP (zA aPi (zA @pS sH))) ?_;have agl:dR ρ m.n c (aj 175 (pp w.heap.size)) (.comp name f):=by
   unfold dR dL;exact⟨w.heap.size,_,us,J,trivial,M,UF sK uU.symm,ld.bK (rH.eo p)⟩
  obtain⟨r1,r2⟩:=(h.ext p).aqa sH (k:=s[0]) (y:=.term (.comp name f)) agl J;subst hr;exact hR _ _ ⟨yF,J,ρ,eD.refl _ _,_,_,_,_,_,r1⟩
end
section
variable{D:Nat->Prop}{ρ:Nat->Nat}{e:A9}{av tv:Y}{dw:List Y}{w w':Z}{m:Vm}
def agO
  (h:gr D ρ e av tv dw w m) (hD:∀ b,w.heap.size<=b->D b) {x:Fm} {i:P.In} (hi:Bc w g o i) (hH:Mp m x i) (hw:i.word=kH\/i.word=j5\/i.word=lx)
 (hr:vK dO d i m=O r) :
  Calls bbs 207 #[pp e.vb,pq g o] w (EPost D w (sJ D ρ m.n e.vb e.cb e.fx) r):=by
 suffices H:∀ R:Ending->Z->Prop,(∀ en w',EPost D w (sJ D ρ m.n e.vb e.cb e.fx) r en w'->R en w')->Calls bbs 207 #[pp e.vb,pq g o] w R from H _ fun _ _ h=>h;intro R N;obtain⟨hx,dj,jd,vL,hz,lZ,-⟩:=hH;have qw:=hi;obtain⟨word,name,con,s⟩:=i;simp only at hw;have c0:=h.cell;obtain⟨⟨Ds,E,-,-⟩,-,q8,Q,F8,F9⟩:=h.fs _ _ hx;obtain⟨cur,p,ho,iw,vZ,⟨cv,jo,lO⟩,sv,y,mG⟩:=hi;simp only at iw vZ lO y mG jo;have dK:Ext w w.drew:=yF;have l0:=bh c0;have lf:=bh E;have lr:=bh Q;have lg:=bh p;refine Ri ?_;unfold vK at hr;dsimp only at hr;have Qf:s.length=1:=dj.one zg;obtain⟨k,rfl⟩:∃ k,s=[k]:=by match s,Qf with | [k],_=>grind
 have rD:=dj.sl;simp only at rD;obtain⟨nb,xK,kP,F,I,-⟩:=Mf mG (j:=0) zs;simp only[a1Q,a22] at kP I;subst kP;have lnb:=bh F;have pS:((k:Nat):Int).toNat=k:=zo;obtain⟨aa,ac,q⟩:=il h.ar;have L:=c0;rw[q] at L;simp only[List.getD_cons_zero] at hr;obtain⟨QB,UP⟩:=QP (by rw[q] at h;exact h.ar:w.ownsRow 0 342 5 (.slice aa m.bz.length ac) m.bz.length dw);rcases hw with rfl | rfl | rfl
 .have B:cur[o]?=O (aT [116,114,121]):=iw
  iterate 10 rw[bI zd] at hr
  rw[zip rfl] at hr;have hr:=(a1b hr).symm;refine dM @L E p (zA @B y) ?_;have C:∀ {w1:Z},Ext w w1->Rk 342 w w1:=fun h b cs T _ S=>h.ext _ _ S;refine⟨fun w'=>Rk 342 w w',C dK,?_⟩;rw[jI];refine cS (pq e.vb 5) (fun w' a=>eV) ?_;refine cS (.slice aa m.bz.length ac) (fun w' a=>by have c:=a _ _ _ zo L;have:=bh c;exact fm c) ?_;rw[jI];refine cS (pq e.vb 1) (fun w' a=>eV) ?_;rw[jI];refine cS (pq e.vb 3) (fun w' a=>eV) ?_;refine cS (pp (e.φ m.f)) (fun w' a=>by have c:=a _ _ _ zo L;have:=bh c;exact fm c) ?_;rw[jI];refine cS (pq g (o+3)) (fun w' a=>eV) ?_;refine cS (cV nb 1 xK.size) (fun w' a=>by have c:=a _ _ _ zo p;have:=bh c;exact mn c y) ?_;refine cS (pp nb) (fun w' a=>eV) ?_;refine cS (zi (k:Nat)) (fun w' a=>by have c:=a _ _ _ zo F;have:=bh c;exact mn c I) ?_;refine a1a (TY (h.ext dK).st Dp) ?_;rintro en w1 ⟨rfl,rfl⟩;refine⟨C dK,?_⟩;refine bG ?_;obtain⟨U,BK⟩:∃ U:List Y,U=[zi (m.sr.tr.length:Nat),pp (e.φ m.f),zi (k:Nat),bX,bX]:=⟨_,J⟩;obtain⟨w2,jx⟩:=cg (w.drew.alloc (ae U.toArray 342 (0,0)));have dU:Ext w w2:=yF;have g2:w2.heap[w.heap.size]?=aN U.toArray 342:=yH;have s2:w2.heap.size=w.heap.size+1:=yH;rw[BK] at jx;rw[<- jx];have h2:=h.ext dU;have q2:=h2.cell;rw[q] at q2;have W:=h2.ar;rw[q] at W;refine⟨C dU,?_⟩;refine aqe W g2 zg (by rw[BK];intro u hu;simp only[List.mem_cons,List.not_mem_nil,or_false] at hu;rcases hu with rfl | rfl | rfl | rfl | rfl<;>rfl) zo zo ?_;intro v' w3 Lx BI EE;obtain⟨p3,d3,e3⟩:=il Lx;subst e3;have Mi:nF D ρ m.n e.φ e.ψ m.fs.length w2 U [⟨m.sr.tr.length,m.f,k,[],[]⟩]:=
   ⟨bX,bX,[],[],zg,h.fl,oM.nil,⟨J,zg⟩,.inl ⟨J,J⟩,J⟩
  obtain⟨w4,jB⟩:=cg (bS w3 e.vb (ae #[pp e.cb,tv,zi (m.sr.fuel:Nat),pp (e.φ m.f),zi (m.pc:Nat),.slice p3 (m.bz.length+1) d3] 116));obtain⟨X,r2,r3,r4⟩:=h2.LP (l:=m.bz++[⟨m.sr.tr.length,m.f,k,[],[]⟩]) (by rw[List.length_append,a1Q];exact Lx) (by rw[q];exact BI) (by rw[q];exact EE.imp id fun hx g p=>⟨hD g (by have:=hx g p;omega),hx g p⟩) (h2.ag.snoc Mi) jB;have c3:=r4.trans q2;refine⟨fun b cs T hT S=>by
   rw[BI.block b (by have:=bh S;omega) (fun he=>by rw[<- q] at he;exact h.Y6 S hT he.symm)];exact dU.ext _ _ S,?_⟩
  refine cO @c3 ?_;have Md:bS w3 e.vb (ae (pD #[pp e.cb,tv,zi (m.sr.fuel:Nat),pp (e.φ m.f),zi (m.pc:Nat),.slice aa m.bz.length ac] 5 (Value.slice p3 (m.bz.length+1) d3).cells.toList) 116 (0,0))=w4:=jB.symm;first | rw[Md] | rw[<- jB]
  subst hr;exact N _ _ ⟨(di.eo dU).trans r2,J,ρ,eD.refl _ _,_,_,_,_,_,X⟩
 .have B:cur[o]?=O (aT [106,117,109,112]):=iw
  iterate 11 rw[bI zd] at hr
  rw[zip rfl] at hr;have hr:=(a1b hr).symm;refine dM @c0 E p (zA @B (zA y (zA F I))) ?_;obtain⟨X,r2⟩:=h.own (w':=bS w e.vb (ae #[pp e.cb,tv,zi (m.sr.fuel:Nat),pp (e.φ m.f),zi (k:Nat),av] 116)) (f':=m.f) (pc':=k) yF yH h.fl;subst hr;exact N _ _ ⟨r2,J,ρ,eD.refl _ _,_,_,_,_,_,X⟩
 .have B:cur[o]?=O (aT [99,117,116]):=iw
  iterate 9 rw[bI zd] at hr
  rw[zip rfl] at hr;have hk:k<x.slots.length:=a1G (rD zd zd k (List.mem_singleton.2 J)) jd;have wK:((k:Nat):Int)<(x.slots.length:Int):=zo;obtain⟨aYI,v,q1,q2,q3,q4⟩:=h.Rl hx hk;rw[Q] at q1;cases q1;have Dx:∀ {K:Prop},(r = .error (.fault 5)->K)->(m.slot k = .nil\/∃ t,m.slot k = .term t)->K:=zg;cases kC:m.slot k with
  | nil=>
   rw[kC] at q4 hr;have q4:v = ai:=q4;subst q4;cases hr;refine dM @c0 E p (zA @B (zA y (zA F (zA I (zA @pS (zA Q @q3)))))) ?_;refine⟨fun _ _=>False,?_,by rintro _ _ h;exact h.elim⟩;refine bG ?_;exact N _ _ ⟨yF,J⟩
  | term t=>
   rw[kC] at q4 hr;cases hr;have q4:dR ρ m.n w v t:=q4;obtain⟨T,u,rfl,hT⟩:∃ T u,v = aj T u/\T≠201:=by
    cases t with
    | var i=>unfold dR dL at q4;grind
    | atom s=>unfold dR dL at q4;grind
    | int s=>unfold dR dL at q4;grind
    | comp s l=>unfold dR dL at q4;grind
   refine dM @c0 E p (zA @B (zA y (zA F (zA I (zA @pS (zA Q (zA @q3 hT))))))) ?_;refine⟨fun _ _=>False,?_,by rintro _ _ h;exact h.elim⟩;refine bG ?_;exact N _ _ ⟨yF,J⟩
  | level n=>
   rw[kC] at q4 hr;have hr:=(a1b hr).symm;have q4:v = aj 201 (zi (n:Nat)):=q4;subst q4;obtain⟨M,hM⟩:=cg (min n m.bz.length);rw[<- hM] at hr;have hmx:(if (m.bz.length:Int)<(n:Int) then(m.bz.length:Int) else(n:Int))=(M:Int):=zo;have hMc:(M:Int)<=(ac:Int):=zo;refine dM @L E p (zA @B (zA y (zA F (zA I (zA @pS (zA Q @q3)))))) ?_;refine⟨fun _ w'=>w'=w,?_,?_⟩
   .exact eV
   rintro z w2 rfl d2;clear d2;refine dM @ajG @L hmx UP ?_;obtain⟨X,r2,-⟩:=(h.ext dK).forget (k:=M) (w1:=bS w2.drew e.vb (ae #[pp e.cb,tv,zi (m.sr.fuel:Nat),pp (e.φ m.f),zi (m.pc:Nat),.slice aa M ac] 116)) zo q J;subst hr;exact N _ _ ⟨yF,J,ρ,eD.refl _ _,_,_,_,_,_,X⟩
def aqS
  (h:gr D ρ e av tv dw w m) (hD:∀ b,w.heap.size<=b->D b) {x:Fm} {i:P.In} (I:Bc w g o i) (S:Mp m x i) (hw:i.word=AS\/i.word=N7) (hC:yJ w e.cb pb fx told dO) (tE:∀ p∈dO,∀ c∈p.clauses,zG c)
 (hr:vK dO d i m=O r) :
  Calls bbs 207 #[pp e.vb,pq g o] w (EPost D w (sJ D ρ m.n e.vb e.cb e.fx) r):=by
 suffices H:∀ R:Ending->Z->Prop,(∀ B w',EPost D w (sJ D ρ m.n e.vb e.cb e.fx) r B w'->R B w')->Calls bbs 207 #[pp e.vb,pq g o] w R from H _ fun _ _ h=>h;intro R K;obtain⟨hx,C,T,vL,hz,lZ,-⟩:=S;have U:=I;obtain⟨word,name,con,s⟩:=i;simp only at hw;have c0:=h.cell;obtain⟨⟨Ds,q,-,-⟩,-,q8,W,F8,F9⟩:=h.fs _ _ hx;obtain⟨cur,u,ho,E,X,⟨cv,jo,lO⟩,sv,eg,mG⟩:=I;simp only at E X lO eg mG jo;have L:Ext w w.drew:=yF;have l0:=bh c0;have lf:=bh q;have lr:=bh W;have lg:=bh u;refine Ri ?_;unfold vK at hr;dsimp only at hr;have M:=C.sl;simp only at M;have N:=C.qT;simp only at N;have U1:∀ {a:Bool×Vm} {Q:Ending} {w1:Z},sJ D ρ m.n e.vb e.cb e.fx a Q w1->∃ v,Q = ah v:=zg;rcases hw with rfl | rfl
 .have y:cur[o]?=O (aT [99,97,108,108]):=E
  iterate 12 rw[bI zd] at hr
  rw[zip rfl] at hr;refine dM @c0 q u @y ?_;refine a1a (aO9 h hD hC (by grind [zG.sl]) hx U (r:=r) (fun k hk=>a1G (M zd zd k hk) T) N C.TF zo hr) ?_;intro B w3 hp;grind [EPost.agD]
 .have y:cur[o]?=O (aT [114,101,116]):=E
  iterate 13 rw[bI zd] at hr
  rw[zip zd,hx] at hr;simp only at hr;cases F:x.back with
  | none=>
   rw[F] at hr q;cases hr;simp (disch:=first|assumption|omega|simp only[zS]<;>omega|decide) only[zB,simprocAttr,lE,c0,q,u,y,B5];refine⟨fun _ _=>False,?_,by rintro _ _ h;exact h.elim⟩;simp (disch:=first|assumption|omega|simp only[zS]<;>omega|decide) only[zB,simprocAttr,lE,c0,q,B5];exact K _ _ ⟨yF,J⟩
  | some b=>
   rw[F] at hr q;have hr:=(a1b hr).symm;have pK:=h.bk _ _ _ hx F;simp (disch:=first|assumption|omega|simp only[zS]<;>omega|decide) only[zB,simprocAttr,lE,c0,q,u,y,B5];refine⟨fun _ w'=>w'=w,?_,?_⟩
   .simp (disch:=first|assumption|omega|simp only[zS]<;>omega|decide) only[zB,simprocAttr,lE,c0,q,B5]
   rintro z w2 rfl d2;clear d2;have t:=c0;refine⟨fun w'=>Ext w2 w',L,?_⟩;rw[jI];refine cS (pq e.vb 3) (fun w' j=>eV) ?_;refine cS (pp (e.φ m.f)) (fun w' j=>by have l:=j.ext _ _ t;have:=bh l;exact fm l) ?_;rw[jI];refine cS (pq (e.φ m.f) 3) (fun w' j=>eV) ?_;refine cS (pp (e.φ b)) (fun w' j=>by have l:=j.ext _ _ q;have:=bh l;simp (disch:=first|assumption|omega|simp only[zS]<;>omega|decide) only[zB,simprocAttr,lE,l,B5]) ?_;rw[jI];refine cS (pq e.vb 3) (fun w' j=>eV) ?_;refine cS (pp (e.φ m.f)) (fun w' j=>by have l:=j.ext _ _ t;have:=bh l;exact fm l) ?_;rw[jI];refine cS (pq (e.φ m.f) 4) (fun w' j=>eV) ?_;refine cS (zi (x.pc:Nat)) (fun w' j=>by have l:=j.ext _ _ q;have:=bh l;exact fm l) ?_;rw[jI];refine cS (pq e.vb 3) (fun w' j=>eV) ?_;refine cO @t ?_;obtain⟨r1,r2⟩:=(h.ext L).own (w':=bS w2.drew e.vb (ae #[pp e.cb,tv,zi (m.sr.fuel:Nat),pp (e.φ b),zi (x.pc:Nat),av] 116)) (f':=b) (pc':=x.pc) yF yH pK;subst hr;exact K _ _ ⟨yF,J,ρ,eD.refl _ _,_,_,_,_,_,r1⟩
end
