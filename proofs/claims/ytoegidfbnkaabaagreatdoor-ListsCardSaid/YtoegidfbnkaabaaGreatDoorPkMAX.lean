/- A part of one proof (KV10, KV11, KV12, KV13, KV14). -/
import Derived.Test.YtoegidfbnkaabaaGreatDoorPkMAW
set_option linter.all false
set_option maxRecDepth 100000
set_option maxHeartbeats 8000000
open Option renaming some → O, none → V
open Go renaming Value → Y, World → Z
open Bool renaming true → G, false → ae
open Go.Obj renaming cells → ah
open Go.Ending renaming returned → ai
open Go.Value renaming nilIface → aj, iface → ak
open Go.Calls renaming mono → a3L
open List renaming getElem?_eq_getElem → a3P, getElem_mem → a4h, length_singleton → a4v, getElem_cons_zero → a5H
open Option.some renaming inj → a3R
open Go.World renaming ownsRow_nil → a4d
open Nat renaming lt_of_lt_of_le → a4i
open Go.Proofs.Tryz renaming prog → bdS
namespace Go.Proofs.YtoegidfbnkaabaaGreatDoor
open P
open Go.RowKit Sx
variable{D:Nat->Prop}{R:Ending->Z->Prop}{W w w':Z}{X:Y->Z->Prop}{fw b base cb d g j k m n o pb told:Nat}{dJ:List Pd}{r:Except jP (Bool×Vm)}{t:Tm}{v:Y}{xs:List Y}
def ahp(name:Bs)(n:Nat)(b:name.length<=100)(a:n<80)(w:Z):Calls bdS 71 #[aW name,zi (n:Nat)] w fun e w'=>e = ai (aW (P.keyOf name n))/\w'=w:=by
 refine aPh ?_;refine bG ?_;rw[xP _ _ zg];refine bG ?_;rw[wrap32 n a,akP zk zk zo,xP _ _ zg];exact⟨by rw[P.keyOf,List.append_assoc];rfl,J⟩
def Tryz.aQc:(Tryz.prog.info? 20).map (fun i=>(i.zero,i.size,i.bytes))=O (O aj,1,16):=zk
def aQd(d:w.ownsRow base 20 1 v n xs){a:Y}
  (f:w.heap[b]?=aO #[a] 20) (p:a.oneCell'=G)
  (q:n<=100000000) (g:base<=w.heap.size) {K:Y->Z->Prop}
  (h:∀ v' w',w'.ownsRow base 20 1 v' (n+1) (xs++[a])->w.grownBy w' v.ownBlock->(v'.ownBlock=v.ownBlock\/∀ k,v'.ownBlock=O k->w.heap.size<=k)->K v' w') :
  WR bdS (Builtin.append_ #[200,200] 200 #[v,cS b 1 m]) w K X:=by
 obtain⟨i,hi,c⟩:=Option.map_eq_some_iff.1 Tryz.aQc;simp only[Prod.mk.injEq] at c;obtain⟨j,l,o⟩:=c;refine Sx.DY (m:=1) (t:=200) (e:=20) zk hi j l o J zo d f J (fun u hu=>?_) zo zo g h;grind
def ahq{T size:Nat}(a:Ext w W)(e:W.ownsRow w.heap.size T size v n xs)(c:W.grownBy w' v.ownBlock):Ext w w':=by
 have:=a.size;have:=c.size;refine⟨c.os.trans a.os,c.tape.trans a.tape,c.output.trans a.output,zo,fun b o d _=>?_⟩;have lb:=bn d;rw[c.block b zo (fun he=>?_)]
 .exact a.ext _ _ d
 .rcases e.2 with⟨f,-⟩| ⟨h,cap,cur,g,g2,g3,g4⟩
  .rw[f] at he;cases he
  .rw[g] at he;injection he with he;grind
structure yE(w:Z)(cb pb fw told:Nat)(dJ:List Pd):Prop where
 cell:w.heap[cb]?=aO #[.map (O pb),pp fw,zi (told:Nat)] 187
 dJ:Vx w pb dJ
theorem yE.bL{w w':Z}{cb pb fw told:Nat}{dJ:List Pd}(h:yE w cb pb fw told dJ)(hk:eJ w w')(hm:∀ l,w.heap[pb]?=O (eM l)->w'.heap[pb]?=O (eM l)):yE w' cb pb fw told dJ:=
 ⟨hk _ _ _ (yM) h.cell,h.dJ.bL hk hm⟩
theorem yE.fr(h:yE w cb pb fw told dJ)(a:dc D w w'):yE w' cb pb fw told dJ:=
 h.bL (dc.toI a) fun l hm=>a.block _ _ hm (by rintro ⟨_,cs',c,z,b,d⟩;cases b)
def P.arQ(dJ:List Pd)(i:P.In)(m:Vm):P.Out (Bool×Vm):=match dJ.find? fun p=>p.name == i.name && p.arity == i.s.length with
 | none=>O (.error (.fault 10))
 | some p=>match p.clauses with
  | []=>O (.ok (ae,m))
  | l=>match m.enter l (i.s.map m.slot) m.f m.pc m.bz.length with
   | none=>V
   | some m=>O (.ok (G,m))
section
variable{D:Nat->Prop}{ρ:Nat->Nat}{e:Bb}{av tv:Y}{dk:List Y}{w w':Z}{m:Vm}
def aQe(h:gm D ρ e av tv dk w m)(hD:∀ b,w.heap.size<=b->D b)(hC:yE w e.cb pb fw told dJ)(tK:∀ p∈dJ,∀ c∈p.clauses,c.slots<=64){x:Fm}(hx:m.fs[m.f]?=O x){i:P.In}(hi:Bf w g o i)
  (hk:∀ k∈i.s,k<x.slots.length) (xy:i.s.length<=60) (mY:i.name.length<=20) (mg:m.bz.length<=900000000) (hr:P.arQ dJ i m=O r) :
  Calls bdS 215 #[pp e.vb,pq g o] w (EPost D w (sx D ρ m.n e.vb e.cb e.fw) r):=by
 suffices H:∀ R:Ending->Z->Prop,(∀ Q w',EPost D w (sx D ρ m.n e.vb e.cb e.fw) r Q w'->R Q w')->Calls bdS 215 #[pp e.vb,pq g o] w R from H _ fun _ _ h=>h;intro R hR;refine aOG ?_;obtain⟨cur,S,ho,iw,we,aO1,sv,dZ,mR⟩:=hi;have lg:=bn S;obtain⟨na,nc,nh⟩:∃ a c,sv = .slice a i.s.length c:=by
  obtain⟨a,c,h⟩:=mR.sl;exact⟨a,c,by simpa using h⟩
 subst nh;have c0:=h.cell;obtain⟨⟨DA,iZ,-,-⟩,-,T,mU,Gn,Gp⟩:=h.fs _ _ hx;have a0p:∀ a,a<m.fs.length->e.ψ a<w.heap.size:=fun a ha=>by
  obtain⟨-,-,row,F,-⟩:=h.fs a _ (a3P ha);exact yH
 obtain⟨us,oo,I⟩:∃ us:List Y,us.length=i.s.length/\∀ j (U:j<i.s.length),us[j]?=T[i.s[j]]?/\∃ u,us[j]?=O u/\Aa ρ m.n w u (m.slot i.s[j]):=by
  refine⟨i.s.map fun k=>(T[k]?).getD aj,zs,fun j U=>?_⟩;obtain⟨row,v,q1,q2,q3,q4⟩:=h.RR hx (hk _ (a4h U));rw[mU] at q1;cases q1;have:(i.s.map fun k=>(T[k]?).getD aj)[j]?=O v:=by
   rw[List.getElem?_map,a3P U];simp [q3]
  exact⟨by rw[this,q3],v,this,q4⟩
 refine dA S dZ ?_;refine⟨fun n z q=>∃ (j:Nat) (sd:Y),z 14=zi (j:Nat)/\z 5=sd/\j<=i.s.length/\n=i.s.length-j/\Ext w q/\q.ownsRow w.heap.size 20 1 sd j (us.take j),⟨_,0,bW,J,J,Nat.zero_le _,J,yF,by grind [a4d]⟩,?_⟩;intro n z dz q hI;clear dz;refine toPr ?_;obtain⟨j,sd,DE,F,U,rfl,t,L⟩:=hI;obtain⟨pa,pc,Gr⟩:=gZ L;subst Gr;have Mp:=t.ext _ _ c0;have O4:=t.ext _ _ iZ;have su:=t.ext _ _ mU;have hgj:=t.ext _ _ S;have lcj:=bn Mp;have a0r:=bn O4;have lrj:=bn su;have lgj:=bn hgj;have sj:=t.size;by_cases hlt:j<i.s.length
 .have Dr:((j:Nat):Int)<(i.s.length:Int):=zo;have kf:((j:Nat):Int).toNat=j:=zo;obtain⟨nb,xG,fK,pI,tV,-⟩:=Mj mR hlt;simp only[Value.slice.injEq,true_and] at fK;obtain⟨rfl,rfl⟩:=fK;have O3:=t.ext _ _ pI;have pP:((i.s[j]:Nat):Int).toNat=i.s[j]:=zo;have wO:((i.s[j]:Nat):Int)<(x.slots.length:Int):=zg;obtain⟨e1,u,e2,hu⟩:=I j hlt;have hru:T[i.s[j]]?=O u:=zg;have CP:us.take (j+1)=us.take j++[u]:=by
   grind [List.take_add_one]
  have VI:u.oneCell'=true:=by rcases hu.one with rfl | ⟨_,_,rfl⟩<;>rfl
  rcases hu.one with rfl | ⟨ut,ux,rfl⟩;all_goals
   refine dG DE F Dr (zA O3 (zA tV (zA @kf (zA Mp (zA O4 (zA su (zA hru @pP))))))) ?_;refine aQd (jK yH L) yH VI zo (by rw[size_alloc];omega) ?_;intro v' w' uh jL Es;obtain⟨DD,pc',JU⟩:=gZ uh;subst JU;refine cJ DE ?_;exact⟨i.s.length-(j+1),zo,j+1,_,by first | rfl | simp [jo],by first | rfl | simp [jo],zo,J,ahq yF (jK yH L) jL,by rw[CP];exact uh⟩
 .have fm:j=i.s.length:=zo;subst fm;refine dA DE F ?_;rw[List.take_of_length_le zo] at L;obtain⟨pw,l,j3,A⟩:=hC;have a0t:=bn pw;have A:=A i.name i.s.length zo;have E:∀ {w2:Z} {b:Nat} {o:Obj},Ext w w2->w.heap[b]?=O o->w2.heap[b]?=O o:=yF;refine⟨fun w'=>Ext w w',t.drew,?_⟩;rw[jI];refine cQ (pp e.vb) (fun w' B=>eR) ?_;refine cQ (pp e.cb) (fun w' B=>by have C:=E B c0;have:=bn C;exact eV C) ?_;rw[jI];refine cQ (pp e.cb) (fun w' B=>eR) ?_;refine cQ (.map (O pb)) (fun w' B=>by have C:=E B pw;have:=bn C;exact eV C) ?_;rw[jI];refine cQ (pq g (o+1)) (fun w' B=>eR) ?_;refine cQ (aW i.name) (fun w' B=>by have C:=E B S;have:=bn C;exact mv C @we) ?_;rw[F];refine bG ?_;refine a3L (ahp i.name i.s.length zo zo _) ?_;rintro Q w2 ⟨rfl,rfl⟩;refine⟨t.drew,?_⟩;have tR:Ext w q.drew:=t.drew;have xz:∀ {K:Y->Prop} {X:Y->Z->Prop},RD bdS (Instr.lookup 184 (.map (O pb)) (.string (bs (P.keyOf i.name i.s.length))) ae) q.drew K X=(match fQ (P.keyOf i.name i.s.length) l 0 with
    | some (_,v)=>K v
    | none=>K (.slice V 0 0)):=fun{K X}=>by
   rw[Md (k:=9) (e:=192) zk zk (z:=bW) zk (tR.ext _ _ j3)];grind
  rw[xz];unfold P.arQ at hr;cases RW:fQ (P.keyOf i.name i.s.length) l 0 with
  | none=>
   rw[RW] at A;have A:dJ.find? (fun p=>p.name == i.name && p.arity == i.s.length)=none:=A;rw[A] at hr;cases hr;refine⟨fun _ _=>False,?_,by rintro _ _ h;exact h.elim⟩;show RD _ _ _ _ _;rw[ag7];refine bG ?_;exact hR _ _ ⟨yF,J⟩
  | some iv=>
   obtain⟨iv1,v⟩:=iv;rw[RW] at A;obtain⟨p,hp,pbk,aQi,a0v,vs,rfl,xx,a0w,hpt,jr⟩:=A;rw[hp] at hr;simp only at hr;refine⟨fun _ w'=>w'=q.drew,?_,?_⟩
   .show RD _ _ _ _ _;rw[ag7];exact eR
   rintro s w3 rfl d;clear d;by_cases ef:p.clauses=[]
   .have rm:(p.clauses.length:Int)=0:=zg;rw[ef] at hr;cases hr;refine cJ rm ?_;exact hR _ _ ⟨yF,J,ρ,eu.refl _ _,_,_,_,_,_,h.ext tR⟩
   .have rm:¬ (p.clauses.length:Int)=0:=fun h=>ef (List.eq_nil_of_length_eq_zero zo);obtain⟨m',qd,hr⟩:∃ m',m.enter p.clauses (i.s.map m.slot) m.f m.pc m.bz.length=O m'/\r = .ok (G,m'):=by
     grind
    obtain⟨aa,ac,gA⟩:=gZ h.ar;have M:q.drew.heap[e.vb]?=_:=Mp;rw[gA] at M;refine dA rm @M ?_;have W:Ext w q.drew.drew:=tR.drew;have OP:vs.length=p.clauses.length:=jr.1;have a0x:vs≠[]:=zg;have hso:oN q.drew.drew 185 (cS pbk p.clauses.length aQi) vs:=.inr yH;have aQk:yC D ρ m.n e.ψ m.fs.length q.drew.drew (.slice pa i.s.length pc) (i.s.map m.slot):=by
     have hsm:Dx ρ m.n q.drew.drew us.toArray (i.s.map m.slot):=fun a y N=>by
      rw[List.getElem?_map] at N;cases hq:i.s[a]? with
      | none=>grind
      | some k=>
       rw[hq] at N;obtain⟨ha,XN⟩:=List.getElem?_eq_some_iff.1 hq;obtain⟨-,u,g1,g2⟩:=I a ha;rw[XN] at g2;cases N;exact⟨u,zg,g2.bL (eJ.ea W) (eu.refl _ _)⟩
     rcases L.2 with⟨h1,h2⟩| ⟨b,cap,Ri,h1,h2,h3,h4,F,h6,h7⟩
     .have:i.s=[]:=zg;exact .inl zg
     .rw[h1];refine .inr ⟨b,cap,Ri,zs,zg,h3,zo,fun a y N=>?_,zg⟩;obtain⟨u,g1,g2⟩:=hsm a y N;grind
    have Q5:p∈dJ:=zg;refine a3L (arj (h.ext W) yH (l:=p.clauses) (args:=i.s.map m.slot) (f:=m.f) (pc:=m.pc) (n:=m.bz.length) (m':=m') hso (jr.bL (eJ.ea W)) aQk h.fl zo mg zg zg qd) ?_;rintro Q w4 ⟨rfl,gT,h4⟩;refine bG ?_;subst hr;have hn:m'.n=m.n:=by
     unfold Vm.enter at qd;grind
    exact hR _ _ ⟨(dc.ea W).trans gT,J,ρ,⟨zg,zg⟩,h4⟩
end
def P.DG(l:List Tm):Except jP (List Tm)->Except jP (List Tm)
 | .ok r=>.ok (l++r)
 | .error e=>.error e
def P.ahu(m:Vm)(k:Nat)(r:List Nat):m.iO (k::r)=match P.v8 (m.slot k) with | .error e=>.error e | .ok t=>P.DG [t] (m.iO r):=by
 rw[Vm.iO];cases m.slot k with
 | term t=>simp only[P.v8];cases m.iO r<;>rfl
 | nil=>rfl
 | level n=>rfl
def P.ahv{m:Vm}{ks:List Nat}(c:j<ks.length){a:List Tm}(h:m.iO ks=P.DG a (m.iO (ks.drop j))) :
  match P.v8 (m.slot ks[j]) with | .error t=>m.iO ks = .error t | .ok t=>m.iO ks=P.DG (a++[t]) (m.iO (ks.drop (j+1))):=by
 rw[List.drop_eq_getElem_cons c,P.ahu] at h;cases b:P.v8 (m.slot ks[j]) with
 | error t=>rw[b] at h;exact h
 | ok t=>
  rw[b] at h;simp only at h ⊢;rw[h];cases m.iO (ks.drop (j+1))<;>simp [P.DG]
def P.ZW{y:Sl}(h:P.v8 y = .ok t):y = .term t:=by
 cases y with
 | term u=>grind [P.v8]
 | nil=>cases h
 | level n=>cases h
theorem P.ZX{m:Vm}{x:Fm}(hx:m.fs[m.f]?=O x)(b:∀ y∈x.slots,AW y)(k:Nat)(h:P.v8 (m.slot k) = .ok t):eB t:=by
 have h:=P.ZW h;unfold Vm.slot at h;rw[hx] at h;simp only[List.getD_eq_getElem?_getD] at h;cases a:x.slots[k]? with
 | none=>grind
 | some y=>
  rw[a] at h;have h:y = .term t:=h;subst h;exact b _ (List.mem_of_getElem? a)
section
variable{D:Nat->Prop}{ρ:Nat->Nat}{e:Bb}{av tv:Y}{dk:List Y}{w w':Z}{m:Vm}
def gm.part(h:gm D ρ e av tv dk w m){q:Except jP (Bool×Sr)}(hr:P.Out.bind (O q) (fun p=>O (.ok (p.1,{ m with sr:=p.2 })))=O r){b:Ending}
  (a:EPost (Dn D av w) w (xC (Dn D av w) ρ m.n e.vb 1 116 (Im e.cb (pp (e.φ m.f)) (zi (m.pc:Nat)) av)) q b w'):EPost D w (sx D ρ m.n e.vb e.cb e.fw) r b w':=by
 obtain⟨c,a⟩:=a;cases q with
 | error t=>
  cases hr;exact⟨c.up fun _ h=>h.1,a⟩
 | ok p=>
  cases hr;obtain⟨rfl,j,d⟩:=a;obtain⟨g,i⟩:=h.store d c;exact⟨i,J,ρ,eu.refl _ _,_,_,_,_,_,g⟩
theorem EPost.ahw{D:Nat->Prop}{w:Z}{α:Type}{Q:α->Ending->Z->Prop}(f:∀ {a e w},Q a e w->∃ v,e = ai v){r:Except jP α}{b:Ending}{w':Z}(h:EPost D w Q r b w')(d:∀ b w',EPost D w Q r b w'->R b w') :
  ends (fun x w'=>R (ai x) w') (PC R) b w':=by
 cases b with
 | returned v=>exact d _ _ h
 | panicked c=>exact d _ _ h
 | outgrown=>
  obtain⟨-,h⟩:=h;cases r with
  | ok a=>grind
  | error t=>cases t<;>cases h
def EPost.arU{D:Nat->Prop}{w:Z}{α:Type}{Q:α->Ending->Z->Prop}(f:∀ {a e w},Q a e w->∃ v,e = ai v){r:Except jP α}{b:Ending}{w':Z}(h:EPost D w Q r b w')(d:∀ b w',EPost D w Q r b w'->R b w') :
  ends (fun x w'=>R (ai x) w') (M1 R) b w':=by
 cases b with
 | returned v=>exact d _ _ h
 | panicked c=>exact fun _=>d _ _ h
 | outgrown=>
  obtain⟨-,h⟩:=h;cases r with
  | ok a=>grind
  | error t=>cases t<;>cases h
structure Mr(m:Vm)(x:Fm)(i:P.In):Prop where
 hx:m.fs[m.f]?=O x
 ok:uS x.code.slots i
 sl:x.code.slots<=x.slots.length
 tm:∀ y∈x.slots,AW y
 cV:m.sr.cV<=800000000
 bz:m.bz.length<900000000
 small:∀ k∈i.s,k<100000
def ZY(h:gm D ρ e av tv dk w m)(hD:∀ b,w.heap.size<=b->D b){x:Fm}{i:P.In}(hi:Bf w g o i)(hH:Mr m x i)(hw:i.word=P.oe\/i.word=FW\/i.word=pL\/i.word=qR)
 (hr:vO dJ d i m=O r) :
  Calls bdS 207 #[pp e.vb,pq g o] w (EPost D w (sx D ρ m.n e.vb e.cb e.fw) r):=by
 suffices H:∀ R:Ending->Z->Prop,(∀ S w',EPost D w (sx D ρ m.n e.vb e.cb e.fw) r S w'->R S w')->Calls bdS 207 #[pp e.vb,pq g o] w R from H _ fun _ _ h=>h;intro R hR;obtain⟨hx,M,iW,vP,hz,mg,-⟩:=hH;obtain⟨word,name,con,s⟩:=i;simp only at hw;have c0:=h.cell;obtain⟨⟨DA,u,-,-⟩,-,qY,z,Gn,Gp⟩:=h.fs _ _ hx;obtain⟨cur,A,ho,B,we,⟨cv,T,U⟩,sv,p,W⟩:=hi;simp only at B we U p W T;have l:Ext w w.drew:=yF;have lr:=bn z;have QN:s.length=1:=M.one zg;have X:=M.sl (by rcases hw with h | h | h | h<;>(simp only[h];decide)) (by rcases hw with h | h | h | h<;>(simp only[h];decide));simp only at X;obtain⟨k,rfl⟩:∃ k,s=[k]:=by match s,QN with | [k],_=>grind
 have hk:k<x.slots.length:=a4i (X k (List.mem_singleton.2 J)) iW;obtain⟨nb,xG,nh,I,C,-⟩:=Mj W (j:=0) zs;simp only[a4v,a5H] at nh C;subst nh;have K:((k:Nat):Int).toNat=k:=zo;have wO:((k:Nat):Int)<(x.slots.length:Int):=zo;refine RO ?_;unfold vO at hr;simp only[List.getD_cons_zero] at hr;have L:∀ {eP:Nat->Nat} {E:Nat} {F:Z} {v:Y} {y:Sl},Ext w F->eu ρ m.n eP E->gm D eP e av tv dk F { m with n:=E }->Aa eP E F v y->r = .ok (G,{ m.set k y with n:=E }) ->
   R (ai (.bool G)) (bR F (e.ψ m.f) (ah (qY.setIfInBounds k v) 20 (0,0))):=by
  intro eP E F v y hE hu N hy hr;subst hr;obtain⟨r1,r2⟩:=N.ard (hE.ext _ _ z) (k:=k) hy J;exact hR _ _ ⟨(dc.ea hE).trans r2,J,eP,hu,_,_,_,_,_,r1⟩
 rcases hw with rfl | rfl | rfl | rfl
 .have q:cur[o]?=O (aW [110,101,119]):=B;rw[zip rfl] at hr;have hr:=(a3R hr).symm;refine dG @c0 u A (zA @q (zA p (zA I (zA C (zA @K z))))) ?_;have Lz:Ext w (w.alloc (ah #[aj] 91)):=yF;obtain⟨eP,hu,hn,N⟩:=h.fresh hD Lz yH;refine L Lz hu N ?_ hr;show dO eP (m.n+1) (w.alloc (ah #[aj] 91)) (ak 87 (pp w.heap.size)) (.var m.n);unfold dO dK;exact yH
 .have q:cur[o]?=O (aW [112,117,116]):=B;rw[bU zd,zip zd] at hr;have hr:=(a3R hr).symm;obtain⟨t,rfl,ht,htc⟩:=M.con (.inl J);have VN:dO ρ m.n w.drew cv t:=U.ee;obtain⟨ct,cx,rfl⟩:=VN.iface;refine dG @c0 u A (zA @q (zA p (zA I (zA C (zA @K (zA T z)))))) ?_;exact L l (eu.refl _ _) (h.ext l) (y:=.term t) VN hr
 .have q:cur[o]?=O (aW [109,97,114,107]):=B
  iterate 7 rw[bU zd] at hr
  rw[zip rfl] at hr;have hr:=(a3R hr).symm;refine dG @c0 u A (zA @q p) ?_;refine⟨fun w'=>Ext w w',l,?_⟩;rw[jI];refine cQ (pq g (o+3)) (fun w' a=>eR) ?_;refine cQ (cS nb 1 xG.size) (fun w' a=>by have c:=a.ext _ _ A;have:=bn c;exact mv c p) ?_;refine cQ (pp nb) (fun w' a=>eR) ?_;refine cQ (zi (k:Nat)) (fun w' a=>by have c:=a.ext _ _ I;have:=bn c;exact mv c C) ?_;refine dG @c0 u @K z ?_;refine⟨l,?_⟩;rw[hx] at hr;exact L l (eu.refl _ _) (h.ext l) (y:=.level x.entry) J hr
 .have q:cur[o]?=O (aW [108,101,118,101,108]):=B
  iterate 8 rw[bU zd] at hr
  rw[zip rfl] at hr;have hr:=(a3R hr).symm;obtain⟨aa,ac,gA⟩:=gZ h.ar;have Q:=c0;rw[gA] at Q;refine dG @Q u A (zA @q p) ?_;refine⟨fun w'=>Ext w w',l,?_⟩;rw[jI];refine cQ (pq g (o+3)) (fun w' a=>eR) ?_;refine cQ (cS nb 1 xG.size) (fun w' a=>by have c:=a.ext _ _ A;have:=bn c;exact mv c p) ?_;refine cQ (pp nb) (fun w' a=>eR) ?_;refine cQ (zi (k:Nat)) (fun w' a=>by have c:=a.ext _ _ I;have:=bn c;exact mv c C) ?_;refine dG @Q u @K z ?_;refine⟨l,?_⟩;exact L l (eu.refl _ _) (h.ext l) (y:=.level m.bz.length) J hr
end
section
variable{D:Nat->Prop}{ρ:Nat->Nat}{e:Bb}{av tv:Y}{dk:List Y}{w w':Z}{m:Vm}
theorem P.ahy{t:Tm}(ht:eB t):∀ {l:List Tm},jF l->jF (l++[t])
 | [],_=>by simp only[List.nil_append];unfold jF;exact⟨ht,by unfold jF;trivial⟩
 | a::l,h=>by
  unfold jF at h;show jF (a::(l++[t]));unfold jF;exact⟨h.1,P.ahy ht h.2⟩
theorem P.ahz{m:Vm}{x:Fm}(hx:m.fs[m.f]?=O x)(a:∀ y∈x.slots,AW y){i:P.In}(h:m.at i k = .ok t):eB t:=by
 grind [P.agX,P.ZX,ZX,agX]
def ahA
  (h:gm D ρ e av tv dk w m) (hD:∀ b,w.heap.size<=b->D b) {x:Fm} {i:P.In} (hi:Bf w g o i) (hH:Mr m x i) (hw:i.word=Ew\/i.word=FX\/i.word=Ju)
 (hr:vO dJ d i m=O r) :
  Calls bdS 207 #[pp e.vb,pq g o] w (EPost D w (sx D ρ m.n e.vb e.cb e.fw) r):=by
 suffices H:∀ R:Ending->Z->Prop,(∀ f w',EPost D w (sx D ρ m.n e.vb e.cb e.fw) r f w'->R f w')->Calls bdS 207 #[pp e.vb,pq g o] w R from H _ fun _ _ h=>h;intro R C;obtain⟨hx,y,iW,vP,hz,mg,-⟩:=hH;have L:=hi;obtain⟨word,name,con,s⟩:=i;simp only at hw;have c0:=h.cell;obtain⟨⟨DA,S,-,-⟩,-,qY,mU,Gn,Gp⟩:=h.fs _ _ hx;obtain⟨cur,M,ho,N,we,⟨cv,U,W⟩,sv,dZ,mR⟩:=hi;simp only at N we W dZ mR U;have l:Ext w w.drew:=yF;refine RO ?_;unfold vO at hr;dsimp only at hr;have rD:=y.sl (by rcases hw with h | h | h<;>(simp only[h];decide)) (by rcases hw with h | h | h<;>(simp only[h];decide));simp only at rD;have RX:∀ k∈s,k<x.slots.length:=zg;have X:=y.qQ;simp only at X;have VP:∀ {a:Bool×Vm} {e1:Ending} {w1:Z},sx D ρ m.n e.vb e.cb e.fw a e1 w1->∃ v,e1 = ai v:=zg;rcases hw with rfl | rfl | rfl
 .have E:cur[o]?=O (aW [99,111,110,115,116]):=N
  iterate 2 rw[bU zd] at hr
  rw[zip zd] at hr;have QN:s.length=1:=y.one zg;obtain⟨t0,rfl,La,htc⟩:=y.con (.inr J);have VN:dO ρ m.n w cv t0:=W.ee;obtain⟨ct,cx,rfl⟩:=VN.iface;refine dG @c0 S M @E ?_;refine⟨fun w'=>Ext w w',l,?_⟩;rw[jI];refine cQ (pq e.vb 1) (fun w' Q=>eR) ?_;rw[jI];refine cQ (pq g (o+2)) (fun w' Q=>eR) ?_;refine cQ (ak ct cx) (fun w' Q=>by have h9:=Q.ext _ _ M;have:=bn h9;exact mv h9 U) ?_;have T:=h.ext l;refine a3L (ZM T hx (L.bL (eJ.ea l)) (k:=0) zg (by grind [a4h]) zo) ?_;rintro f w2 ⟨rfl,c⟩;have j:Ext w w.drew.drew:=l.drew;cases F:m.at ⟨Ew,name,O t0,s⟩ 0 with
  | error t=>
   rw[F] at hr c;have hr:=(a3R hr);subst hr;have c:f=gW t:=c;subst c;cases t<;>exact fun _=>C _ _ ⟨yF,J⟩
  | ok t=>
  rw[F] at hr c;obtain⟨v,rfl,hv⟩:=c;have hr:P.Out.bind (lZ d t t0 m.sr) (fun p=>O (.ok (p.1,{ m with sr:=p.2 })))=O r:=hr;refine⟨j,?_⟩;cases z:lZ d t t0 m.sr with
  | none=>rw[z] at hr;cases hr
  | some q=>
  rw[z] at hr;have I:=h.ext j;refine a3L (Q6 Dy d I.less (I.dn hD) hv (by grind [P.ahz]) (VN.bL (rF.ea j)) La zo z) ?_;intro f w3 c;have c:=I.part hr c;exact EPost.arU VP (c.of (dc.ea j)) C
 .have E:cur[o]?=O (aW [115,97,109,101]):=N
  iterate 3 rw[bU zd] at hr
  rw[zip zd] at hr;have K:s.length=2:=y.same J;refine dG @c0 S M @E ?_;refine⟨fun w'=>Ext w w',l,?_⟩;rw[jI];refine cQ (pq e.vb 1) (fun w' Q=>eR) ?_;have T:=h.ext l;refine a3L (ZM T hx (L.bL (eJ.ea l)) (k:=0) zg (by grind [a4h]) zo) ?_;rintro f w2 ⟨rfl,c⟩;have j:Ext w w.drew.drew:=l.drew;cases F:m.at ⟨FX,name,con,s⟩ 0 with
  | error t=>
   rw[F] at hr c;have hr:=(a3R hr);subst hr;have c:f=gW t:=c;subst c;cases t<;>exact fun _=>C _ _ ⟨yF,J⟩
  | ok t=>
  rw[F] at hr c;obtain⟨v,rfl,hv⟩:=c;refine⟨j,?_⟩;have I:=h.ext j;have A:Ext w w.drew.drew.drew:=j.drew;refine a3L (ZM I hx (L.bL (eJ.ea j)) (k:=1) zg (by grind [a4h]) zo) ?_;rintro f w2 ⟨rfl,c⟩;simp only[Js] at hr;cases DT:m.at ⟨FX,name,con,s⟩ 1 with
  | error t=>
   rw[DT] at hr c;have hr:=(a3R hr);subst hr;have c:f=gW t:=c;subst c;cases t<;>exact fun _=>C _ _ ⟨yF,J⟩
  | ok u=>
  rw[DT] at hr c;obtain⟨v2,rfl,j9⟩:=c;refine⟨A,?_⟩;have hr:P.Out.bind (lZ d t u m.sr) (fun p=>O (.ok (p.1,{ m with sr:=p.2 })))=O r:=hr;cases z:lZ d t u m.sr with
  | none=>rw[z] at hr;cases hr
  | some q=>
  rw[z] at hr;have B:=h.ext A;refine a3L (Q6 Dy d B.less (B.dn hD) (hv.bL (rF.ea yF)) (by grind [P.ahz]) j9 (by grind [P.ahz]) zo z) ?_;intro f w3 c;have c:=B.part hr c;exact EPost.arU VP (c.of (dc.ea A)) C
 .have E:cur[o]?=O (aW [115,112,108,105,116]):=N
  iterate 5 rw[bU zd] at hr
  rw[zip zd] at hr;have K:2<=s.length:=y.two (.inr J);refine dG @c0 S M @E ?_;have D5:m.sr.tr.length+m.sr.fuel<=800000000:=hz;refine a3L (aO0 h hD hx L (d:=d) (r:=r) K RX X y.Ur (by grind [aeG]) zo ?_) ?_
  .rw[<- hr];rfl
  .intro f w3 c;grind [EPost.ahw]
def aQl
  (h:gm D ρ e av tv dk w m) (hD:∀ b,w.heap.size<=b->D b) {x:Fm} {i:P.In} (hi:Bf w g o i) (hH:Mr m x i) (hw:i.word=mD)
 (hr:vO dJ d i m=O r) :
  Calls bdS 207 #[pp e.vb,pq g o] w (EPost D w (sx D ρ m.n e.vb e.cb e.fw) r):=by
 suffices H:∀ R:Ending->Z->Prop,(∀ y w',EPost D w (sx D ρ m.n e.vb e.cb e.fw) r y w'->R y w')->Calls bdS 207 #[pp e.vb,pq g o] w R from H _ fun _ _ h=>h;intro R U;obtain⟨hx,L,iW,vP,hz,mg,-⟩:=hH;have qs:=hi;obtain⟨word,name,con,s⟩:=i;simp only at hw;have c0:=h.cell;obtain⟨⟨DA,iZ,-,-⟩,-,qY,W,Gn,Gp⟩:=h.fs _ _ hx;obtain⟨cur,X,ho,iw,we,⟨cv,je,lR⟩,sv,dZ,mR⟩:=hi;simp only at iw we lR dZ mR je;refine RO ?_;unfold vO at hr;dsimp only at hr;subst hw;have rD:=L.sl (by simp only;decide) (by simp only;decide);simp only at rD;have RX:∀ k∈s,k<x.slots.length:=zg;have xy:=L.qQ;simp only at xy;have ot:cur[o]?=O (aW [116,101,115,116]):=iw
 iterate 6 rw[bU zd] at hr
 rw[zip zd] at hr;have a0y:jx name=s.length:=L.test J;obtain⟨na,nc,nh⟩:∃ a c,sv = .slice a s.length c:=by
  obtain⟨a,c,h⟩:=mR.sl;exact⟨a,c,by simpa using h⟩
 subst nh;have VP:∀ {a:Bool×Vm} {e1:Ending} {w1:Z},sx D ρ m.n e.vb e.cb e.fw a e1 w1->∃ v,e1 = ai v:=zg;refine dG @c0 iZ X (zA @ot dZ) ?_;refine⟨fun n z B=>∃ (j:Nat) (M:Y) (us:List Y) (l:List Tm),z 128=zi (j:Nat)/\z 8=M/\j<=s.length/\n=s.length-j/\Ext w B/\B.ownsRow w.heap.size 89 1 M j us/\us.length=j/\ql ρ m.n w us l/\jF l/\m.iO s=P.DG l (m.iO (s.drop j)),
  ⟨_,0,bW,[],[],J,J,Nat.zero_le _,J,yF,a4d _ _ _ _,J,by unfold ql iJ;rfl,by unfold jF;trivial,by rw[List.drop_zero];cases m.iO s<;>rfl⟩,?_⟩
 intro n z dz B hI;clear dz;refine toPr ?_;obtain⟨j,M,us,l,E,N,hj,rfl,C,Q,vf,S,T,F⟩:=hI;obtain⟨pa,pc,Gr⟩:=gZ Q;subst Gr;have sj:=C.size;have I:Ext w B.drew:=C.drew;by_cases hlt:j<s.length
 .have Dr:(j:Int)<(s.length:Int):=zo;refine jh E N Dr ?_;have U2:=h.ext C;refine a3L (agY U2 hx (qs.bL (eJ.ea C)) (k:=j) hlt (by grind [a4h]) zo) ?_;rintro y w2 ⟨rfl,row,v,eT,K,-,f⟩;have A:=P.ahv hlt F;simp only at f;rw[C.ext _ _ W] at eT;cases eT;cases u:P.v8 (m.slot s[j]) with
  | error t=>
   rw[u] at f A;rw[show m.iO s = .error t from A] at hr;have hr:=(a3R hr);subst hr;have f:y=gW t:=f;subst f;cases t<;>exact U _ _ ⟨yF,J⟩
  | ok t=>
   rw[u] at f A;have A:m.iO s=P.DG (l++[t]) (m.iO (s.drop (j+1))):=A;have f:y = ai v:=f;subst f;obtain⟨ahF,v2,q1,q2,q3,q4⟩:=h.RR hx (RX _ (a4h hlt));rw[W] at q1;cases q1;rw[q3] at K;injection K with K;subst K;rw[P.ZW u] at q4;have q4:dO ρ m.n w v2 t:=q4;have arW:eB t:=(by grind [P.ZX]);have VI:v2.oneCell'=true:=by obtain⟨a,b,rfl⟩:=q4.iface;rfl
   obtain⟨vt,vx,VQ⟩:=q4.iface;rw[VQ];refine dA E N ?_;rw[<- VQ];have DC:(B.drew.alloc (ah #[v2] 89)).ownsRow w.heap.size 89 1 (.slice pa j pc) j us:=jK yH Q;refine Q9 DC yH VI zo (yH) ?_;intro v' w' uh jL Es;obtain⟨DD,pc',JU⟩:=gZ uh;subst JU;refine cJ E ?_;refine⟨s.length-(j+1),zo,j+1,_,us++[v2],l++[t],zg,zg,zo,J,ahq yF DC jL,uh,zg,S.snoc q4,?_,A⟩;grind [P.ahy]
 .have fm:j=s.length:=zo;subst fm;rw[List.drop_length] at F;have F:m.iO s = .ok l:=by grind [Vm.iO,P.DG]
  rw[F] at hr;have rO:=I.ext _ _ X;refine dG E N rO @we ?_;have hr:P.Out.bind (yk d name l m.sr) (fun p=>O (.ok (p.1,{ m with sr:=p.2 })))=O r:=hr;cases u:yk d name l m.sr with
  | none=>rw[u] at hr;cases hr
  | some q=>
  rw[u] at hr;have xV:=h.ext I;have uQ:l.length=s.length:=by rw[<- S.length,vf]
  refine a3L (apY Dy (r:=q) xV.less (by grind [Cq,gm.dn]) ((Vs Q vf.symm).mono zg yH) (S.bL (rF.ea I)) T zo zo u) ?_;intro y w3 f;have f:=xV.part hr f;exact EPost.ahw VP (f.of (dc.ea I)) U
end
section
variable{D:Nat->Prop}{ρ:Nat->Nat}{e:Bb}{av tv:Y}{dk:List Y}{w w':Z}{m:Vm}
def aQm
  (h:gm D ρ e av tv dk w m) (hD:∀ b,w.heap.size<=b->D b) {x:Fm} {i:P.In} (hi:Bf w g o i) (hH:Mr m x i) (hw:i.word=Jt)
 (hr:vO dJ d i m=O r) :
  Calls bdS 207 #[pp e.vb,pq g o] w (EPost D w (sx D ρ m.n e.vb e.cb e.fw) r):=by
 suffices H:∀ R:Ending->Z->Prop,(∀ C w',EPost D w (sx D ρ m.n e.vb e.cb e.fw) r C w'->R C w')->Calls bdS 207 #[pp e.vb,pq g o] w R from H _ fun _ _ h=>h;intro R hR;obtain⟨hx,F,iW,vP,hz,mg,-⟩:=hH;have qs:=hi;obtain⟨word,name,con,s⟩:=i;simp only at hw;have c0:=h.cell;obtain⟨⟨DA,iZ,-,-⟩,-,qY,mU,Gn,Gp⟩:=h.fs _ _ hx;obtain⟨cur,hg,ho,iw,we,⟨cv,je,lR⟩,sv,dZ,mR⟩:=hi;simp only at iw we lR dZ mR je;have lg:=bn hg;refine RO ?_;unfold vO at hr;dsimp only at hr;subst hw;have rD:=F.sl (by simp only;decide) (by simp only;decide);simp only at rD;have RX:∀ k∈s,k<x.slots.length:=zg;have xy:=F.qQ;have mY:=F.Ur;simp only at xy mY;have ot:cur[o]?=O (aW [109,97,107,101]):=iw
 iterate 4 rw[bU zd] at hr
 rw[zip zd] at hr;have h2s:2<=s.length:=F.two (.inl J);obtain⟨L,Mo⟩:=cj (s.length-1);have tY:s.tail.length=L:=zg;obtain⟨nb,xG,nh,pI,aQn,yf⟩:=Mj mR (j:=0) zo;subst nh;have ag1:(1:Int)<=(s.length:Int):=zo;have zQ:sliced (O ⟨nb,0,V⟩) 1 s.length xG.size 1 = .slice (O ⟨nb,1,V⟩) L (xG.size-1):=by
  unfold sliced;rw[bU zo,Mo];simp [Addr.add]
 refine dG @c0 iZ hg (zA @ot (zA dZ (zA @we zQ))) ?_;obtain⟨wc,ZV⟩:=cj (w.alloc (ah #[aW name,bW] 180));have hEc:Ext w wc:=yF;have sc:wc.heap.size=w.heap.size+1:=yH;have qN:wc.heap[w.heap.size]?=aO #[aW name,bW] 180:=yH;rw[<- ZV];refine⟨fun n z c=>∃ (j:Nat) (sd:Y) (us:List Y) (f:List Tm),z 88=zi (j:Nat)/\j<=L/\n=L-j/\Ext w c/\w.heap.size<c.heap.size/\c.heap[w.heap.size]?=aO #[aW name,sd] 180 /\
   c.ownsRow (w.heap.size+1) 89 1 sd j us/\us.length=j/\ql ρ m.n w us f/\jF f/\m.iO s.tail=P.DG f (m.iO (s.tail.drop j)),
  ⟨_,0,bW,[],[],J,Nat.zero_le _,J,hEc,zo,qN,a4d _ _ _ _,J,by unfold ql iJ;rfl,by unfold jF;trivial,by rw[List.drop_zero];cases m.iO s.tail<;>rfl⟩,?_⟩
 intro n z dz c hI;clear dz;refine toPr ?_;obtain⟨j,sd,us,f,I,hj,rfl,p,jC,K,sH,vf,lk,ahE,M⟩:=hI;obtain⟨pa,pc,Gr⟩:=gZ sH;subst Gr;have sj:=p.size;have N:Ext w c.drew:=p.drew;have Zi:=bn K;by_cases hlt:j<L
 .have Dr:(j:Int)<(L:Int):=zo;refine dA I Dr ?_;refine⟨fun w'=>w'.heap[w.heap.size]?=c.heap[w.heap.size]?,J,?_⟩;try rw[jI]
  refine cQ (pq w.heap.size 1) (fun w' Q=>eR) ?_;refine cQ (.slice pa j pc) (fun w' Q=>by rw[K] at Q;have:=bn Q;exact eV Q) ?_;try rw[I]
  refine bG ?_;have U2:=h.ext N;have QZ:j+1<s.length:=zo;rw[show(j:Int)+1=((j+1:Nat):Int) by omega];refine a3L (agY U2 hx (qs.bL (eJ.ea N)) (k:=j+1) QZ (by grind [a4h]) zo) ?_;rintro C w2 ⟨rfl,row,v,eT,S,-,l⟩;have VJ:Ext w c.drew.drew:=N.drew;have q:=P.ahv (j:=j) zo M;have htg:s.tail[j]' zo=s[j+1]:=zs;rw[htg] at q;simp only at l;rw[N.ext _ _ mU] at eT;cases eT;cases hq:P.v8 (m.slot s[j+1]) with
  | error t=>
   rw[hq] at l q;rw[show m.iO s.tail = .error t from q] at hr;have hr:=(a3R hr);subst hr;have l:C=gW t:=l;subst l;cases t<;>exact fun _=>hR _ _ ⟨yF,J⟩
  | ok t=>
   rw[hq] at l q;have q:m.iO s.tail=P.DG (f++[t]) (m.iO (s.tail.drop (j+1))):=q;have l:C = ai v:=l;subst l;obtain⟨ahF,v2,q1,q2,q3,q4⟩:=h.RR hx (RX _ (a4h QZ));rw[mU] at q1;cases q1;rw[q3] at S;injection S with S;subst S;rw[P.ZW hq] at q4;have q4:dO ρ m.n w v2 t:=q4;have arW:eB t:=(by grind [P.ZX]);have VI:v2.oneCell'=true:=by obtain⟨a,b,rfl⟩:=q4.iface;rfl
   obtain⟨vt,vx,VQ⟩:=q4.iface;rw[VQ];refine bG ?_;rw[<- VQ];obtain⟨E,rv⟩:=cj (c.drew.drew.alloc (ah #[v2] 89));have u:Ext c E:=yF;have sA:E.heap.size=c.heap.size+1:=yH;have hnA:E.heap[c.heap.size]?=aO #[v2] 89:=yH;have hcA:=u.ext _ _ K;have DC:E.ownsRow (w.heap.size+1) 89 1 (.slice pa j pc) j us:=jK u.ext sH;try rw[<- rv]
   refine Q9 DC hnA VI zo zo ?_;intro v' w' uh B Es;obtain⟨DD,pc',JU⟩:=gZ uh;subst JU;have NA:∀ {b:Nat} {cs:Array Y} {T:Nat},T≠89->E.heap[b]?=aO cs T->w'.heap[b]?=aO cs T:=fun{b cs T} hT U=>by
    rw[B.block b (bn U) (fun he=>?_)]
    .omega
    .rcases DC.2 with⟨W,-⟩| ⟨b',cap,Ri,A,g2,g3,g4⟩
     .rw[W] at he;cases he
     .rw[A] at he;injection he with he;grind
   have oB:=NA zd hcA;have lc':=bn oB;have sw':=B.size;refine⟨yH,?_⟩;refine dA I oB ?_;obtain⟨wE,O6⟩:=cj (bR w' w.heap.size (ah #[aW name,.slice DD (j+1) pc'] 180));have ahe:bR w' w.heap.size (ah (pF #[aW name,.slice pa j pc] 1 (Value.slice DD (j+1) pc').cells.toList) 180 (0,0))=wE:=O6.symm;first | rw[<- O6] | rw[ahe] | skip
   have hbE:∀ {b:Nat} {cs:Array Y} {T:Nat},T≠180->w'.heap[b]?=aO cs T->wE.heap[b]?=aO cs T:=yH;refine⟨L-(j+1),zo,j+1,.slice DD (j+1) pc',us++[v2],f++[t],zs,zo,J,?_,zo,J,?_,zg,lk.snoc q4,P.ahy arW ahE,q⟩
   .have X:=p.trans u;rw[O6];refine⟨B.os.trans X.os,B.tape.trans X.tape,B.output.trans X.output,yH,fun b o U hm=>?_⟩;have lb:=bn U;have hbA:=X.ext _ _ U;rw[jg zo,B.block b zo (fun he=>?_)]
    .exact yH
    .rcases DC.2 with⟨W,-⟩| ⟨b',cap,Ri,A,g2,g3,g4⟩
     .rw[W] at he;cases he
     .rw[A] at he;injection he with he;grind
   .refine⟨uh.1,?_⟩;rcases uh.2 with W | ⟨b,cap,Ri,A,g2,g3,g4⟩
    .exact yH
    .exact .inr ⟨b,cap,Ri,A,g2,yH,g4⟩
 .have fm:j=L:=zo;subst fm;rw[<- tY,List.drop_length] at M;have M:m.iO s.tail = .ok f:=by grind [Vm.iO,P.DG]
  rw[M] at hr;have hgj:=p.ext _ _ hg;have O3:=p.ext _ _ pI;have su:=p.ext _ _ mU;have BJ:s[0]<x.slots.length:=RX _ (a4h _);have pP:((s[0]:Nat):Int).toNat=s[0]:=zo;have wO:((s[0]:Nat):Int)<(x.slots.length:Int):=zo;have hr:r = .ok (G,m.set (s.getD 0 0) (.term (.comp name f))):=(a3R hr).symm;have A:s.getD 0 0=s[0]:=zg;rw[A] at hr;refine dG I hgj dZ (zA O3 (zA aQn (zA @pP su))) ?_;have ahf:dO ρ m.n c (ak 175 (pp w.heap.size)) (.comp name f):=by
   unfold dO dK;exact⟨w.heap.size,_,us,J,trivial,K,Vs sH vf.symm,lk.bL (rF.ea p)⟩
  obtain⟨r1,r2⟩:=(h.ext p).ard su (k:=s[0]) (y:=.term (.comp name f)) ahf J;subst hr;exact hR _ _ ⟨yF,J,ρ,eu.refl _ _,_,_,_,_,_,r1⟩
end
section
variable{D:Nat->Prop}{ρ:Nat->Nat}{e:Bb}{av tv:Y}{dk:List Y}{w w':Z}{m:Vm}
def ahH
  (h:gm D ρ e av tv dk w m) (hD:∀ b,w.heap.size<=b->D b) {x:Fm} {i:P.In} (hi:Bf w g o i) (hH:Mr m x i) (hw:i.word=kr\/i.word=jQ\/i.word=kZ)
 (hr:vO dJ d i m=O r) :
  Calls bdS 207 #[pp e.vb,pq g o] w (EPost D w (sx D ρ m.n e.vb e.cb e.fw) r):=by
 suffices H:∀ R:Ending->Z->Prop,(∀ en w',EPost D w (sx D ρ m.n e.vb e.cb e.fw) r en w'->R en w')->Calls bdS 207 #[pp e.vb,pq g o] w R from H _ fun _ _ h=>h;intro R L;obtain⟨hx,dx,iW,vP,hz,mg,-⟩:=hH;have qs:=hi;obtain⟨word,name,con,s⟩:=i;simp only at hw;have c0:=h.cell;obtain⟨⟨DA,C,-,-⟩,-,qY,N,Gn,Gp⟩:=h.fs _ _ hx;obtain⟨cur,p,ho,X,we,⟨cv,je,lR⟩,sv,y,mR⟩:=hi;simp only at X we lR y mR je;have dI:Ext w w.drew:=yF;have l0:=bn c0;have lf:=bn C;have lr:=bn N;have lg:=bn p;refine RO ?_;unfold vO at hr;dsimp only at hr;have QN:s.length=1:=dx.one zg;obtain⟨k,rfl⟩:∃ k,s=[k]:=by match s,QN with | [k],_=>grind
 have rD:=dx.sl;simp only at rD;obtain⟨nb,xG,nh,E,F,-⟩:=Mj mR (j:=0) zs;simp only[a4v,a5H] at nh F;subst nh;have lnb:=bn E;have pP:((k:Nat):Int).toNat=k:=zo;obtain⟨aa,ac,q⟩:=gZ h.ar;have I:=c0;rw[q] at I;simp only[List.getD_cons_zero] at hr;obtain⟨LB,VC⟩:=Rj (by rw[q] at h;exact h.ar:w.ownsRow 0 342 5 (.slice aa m.bz.length ac) m.bz.length dk);rcases hw with rfl | rfl | rfl
 .have A:cur[o]?=O (aW [116,114,121]):=X
  iterate 10 rw[bU zd] at hr
  rw[zip rfl] at hr;have hr:=(a3R hr).symm;refine dG @I C p (zA @A y) ?_;have B:∀ {w1:Z},Ext w w1->RQ 342 w w1:=fun h b cs T _ Q=>h.ext _ _ Q;refine⟨fun w'=>RQ 342 w w',B dI,?_⟩;rw[jI];refine cQ (pq e.vb 5) (fun w' a=>eR) ?_;refine cQ (.slice aa m.bz.length ac) (fun w' a=>by have c:=a _ _ _ zo I;have:=bn c;exact eV c) ?_;rw[jI];refine cQ (pq e.vb 1) (fun w' a=>eR) ?_;rw[jI];refine cQ (pq e.vb 3) (fun w' a=>eR) ?_;refine cQ (pp (e.φ m.f)) (fun w' a=>by have c:=a _ _ _ zo I;have:=bn c;exact eV c) ?_;rw[jI];refine cQ (pq g (o+3)) (fun w' a=>eR) ?_;refine cQ (cS nb 1 xG.size) (fun w' a=>by have c:=a _ _ _ zo p;have:=bn c;exact mv c y) ?_;refine cQ (pp nb) (fun w' a=>eR) ?_;refine cQ (zi (k:Nat)) (fun w' a=>by have c:=a _ _ _ zo E;have:=bn c;exact mv c F) ?_;refine a3L (UM (h.ext dI).st Dy) ?_;rintro en w1 ⟨rfl,rfl⟩;refine⟨B dI,?_⟩;refine bG ?_;obtain⟨S,BL⟩:∃ S:List Y,S=[zi (m.sr.tr.length:Nat),pp (e.φ m.f),zi (k:Nat),bW,bW]:=⟨_,J⟩;obtain⟨w2,j8⟩:=cj (w.drew.alloc (ah S.toArray 342 (0,0)));have dX:Ext w w2:=yF;have g2:w2.heap[w.heap.size]?=aO S.toArray 342:=yH;have s2:w2.heap.size=w.heap.size+1:=yH;rw[BL] at j8;rw[<- j8];have h2:=h.ext dX;have q2:=h2.cell;rw[q] at q2;have U:=h2.ar;rw[q] at U;refine⟨B dX,?_⟩;refine ari U g2 zg (by rw[BL];intro u hu;simp only[List.mem_cons,List.not_mem_nil,or_false] at hu;rcases hu with rfl | rfl | rfl | rfl | rfl<;>rfl) zo zo ?_;intro v' w3 LC zh EN;obtain⟨p3,d3,e3⟩:=gZ LC;subst e3;have Mn:nJ D ρ m.n e.φ e.ψ m.fs.length w2 S [⟨m.sr.tr.length,m.f,k,[],[]⟩]:=
   ⟨bW,bW,[],[],zg,h.fl,oN.nil,⟨J,zg⟩,.inl ⟨J,J⟩,J⟩
  obtain⟨w4,jB⟩:=cj (bR w3 e.vb (ah #[pp e.cb,tv,zi (m.sr.fuel:Nat),pp (e.φ m.f),zi (m.pc:Nat),.slice p3 (m.bz.length+1) d3] 116));obtain⟨W,r2,r3,r4⟩:=h2.LX (l:=m.bz++[⟨m.sr.tr.length,m.f,k,[],[]⟩]) (by rw[List.length_append,a4v];exact LC) (by rw[q];exact zh) (by rw[q];exact EN.imp id fun hx g p=>⟨hD g (by have:=hx g p;omega),hx g p⟩) (h2.ag.snoc Mn) jB;have c3:=r4.trans q2;refine⟨fun b cs T hT Q=>by
   rw[zh.block b (by have:=bn Q;omega) (fun he=>by rw[<- q] at he;exact h.ZK Q hT he.symm)];exact dX.ext _ _ Q,?_⟩
  refine cJ @c3 ?_;have Mh:bR w3 e.vb (ah (pF #[pp e.cb,tv,zi (m.sr.fuel:Nat),pp (e.φ m.f),zi (m.pc:Nat),.slice aa m.bz.length ac] 5 (Value.slice p3 (m.bz.length+1) d3).cells.toList) 116 (0,0))=w4:=jB.symm;first | rw[Mh] | rw[<- jB]
  subst hr;exact L _ _ ⟨(dc.ea dX).trans r2,J,ρ,eu.refl _ _,_,_,_,_,_,W⟩
 .have A:cur[o]?=O (aW [106,117,109,112]):=X
  iterate 11 rw[bU zd] at hr
  rw[zip rfl] at hr;have hr:=(a3R hr).symm;refine dG @c0 C p (zA @A (zA y (zA E F))) ?_;obtain⟨W,r2⟩:=h.own (w':=bR w e.vb (ah #[pp e.cb,tv,zi (m.sr.fuel:Nat),pp (e.φ m.f),zi (k:Nat),av] 116)) (f':=m.f) (pc':=k) yF yH h.fl;subst hr;exact L _ _ ⟨r2,J,ρ,eu.refl _ _,_,_,_,_,_,W⟩
 .have A:cur[o]?=O (aW [99,117,116]):=X
  iterate 9 rw[bU zd] at hr
  rw[zip rfl] at hr;have hk:k<x.slots.length:=a4i (rD zd zd k (List.mem_singleton.2 J)) iW;have wO:((k:Nat):Int)<(x.slots.length:Int):=zo;obtain⟨a0A,v,q1,q2,q3,q4⟩:=h.RR hx hk;rw[N] at q1;cases q1;have DH:∀ {K:Prop},(r = .error (.fault 5)->K)->(m.slot k = .nil\/∃ t,m.slot k = .term t)->K:=zg;cases kx:m.slot k with
  | nil=>
   rw[kx] at q4 hr;have q4:v = aj:=q4;subst q4;cases hr;refine dG @c0 C p (zA @A (zA y (zA E (zA F (zA @pP (zA N @q3)))))) ?_;refine⟨fun _ _=>False,?_,by rintro _ _ h;exact h.elim⟩;refine bG ?_;exact L _ _ ⟨yF,J⟩
  | term t=>
   rw[kx] at q4 hr;cases hr;have q4:dO ρ m.n w v t:=q4;obtain⟨T,u,rfl,hT⟩:∃ T u,v = ak T u/\T≠201:=by
    cases t with
    | var i=>unfold dO dK at q4;grind
    | atom s=>unfold dO dK at q4;grind
    | int s=>unfold dO dK at q4;grind
    | comp s l=>unfold dO dK at q4;grind
   refine dG @c0 C p (zA @A (zA y (zA E (zA F (zA @pP (zA N (zA @q3 hT))))))) ?_;refine⟨fun _ _=>False,?_,by rintro _ _ h;exact h.elim⟩;refine bG ?_;exact L _ _ ⟨yF,J⟩
  | level n=>
   rw[kx] at q4 hr;have hr:=(a3R hr).symm;have q4:v = ak 201 (zi (n:Nat)):=q4;subst q4;obtain⟨M,hM⟩:=cj (min n m.bz.length);rw[<- hM] at hr;have hmx:(if (m.bz.length:Int)<(n:Int) then(m.bz.length:Int) else(n:Int))=(M:Int):=zo;have hMc:(M:Int)<=(ac:Int):=zo;refine dG @I C p (zA @A (zA y (zA E (zA F (zA @pP (zA N @q3)))))) ?_;refine⟨fun _ w'=>w'=w,?_,?_⟩
   .exact eR
   rintro z w2 rfl d2;clear d2;refine dG @akO @I hmx VC ?_;obtain⟨W,r2,-⟩:=(h.ext dI).forget (k:=M) (w1:=bR w2.drew e.vb (ah #[pp e.cb,tv,zi (m.sr.fuel:Nat),pp (e.φ m.f),zi (m.pc:Nat),.slice aa M ac] 116)) zo q J;subst hr;exact L _ _ ⟨yF,J,ρ,eu.refl _ _,_,_,_,_,_,W⟩
def arY
  (h:gm D ρ e av tv dk w m) (hD:∀ b,w.heap.size<=b->D b) {x:Fm} {i:P.In} (hi:Bf w g o i) (N:Mr m x i) (hw:i.word=rA\/i.word=Of) (hC:yE w e.cb pb fw told dJ) (tK:∀ p∈dJ,∀ c∈p.clauses,zE c)
 (hr:vO dJ d i m=O r) :
  Calls bdS 207 #[pp e.vb,pq g o] w (EPost D w (sx D ρ m.n e.vb e.cb e.fw) r):=by
 suffices H:∀ R:Ending->Z->Prop,(∀ A w',EPost D w (sx D ρ m.n e.vb e.cb e.fw) r A w'->R A w')->Calls bdS 207 #[pp e.vb,pq g o] w R from H _ fun _ _ h=>h;intro R F;obtain⟨hx,B,Q,vP,hz,mg,-⟩:=N;have S:=hi;obtain⟨word,name,con,s⟩:=i;simp only at hw;have c0:=h.cell;obtain⟨⟨DA,q,-,-⟩,-,qY,T,Gn,Gp⟩:=h.fs _ _ hx;obtain⟨cur,u,ho,C,U,⟨cv,W,X⟩,sv,dZ,mR⟩:=hi;simp only at C U X dZ mR W;have I:Ext w w.drew:=yF;have l0:=bn c0;have lf:=bn q;have lr:=bn T;have lg:=bn u;refine RO ?_;unfold vO at hr;dsimp only at hr;have K:=B.sl;simp only at K;have L:=B.qQ;simp only at L;have VP:∀ {a:Bool×Vm} {M:Ending} {w1:Z},sx D ρ m.n e.vb e.cb e.fw a M w1->∃ v,M = ai v:=zg;rcases hw with rfl | rfl
 .have y:cur[o]?=O (aW [99,97,108,108]):=C
  iterate 12 rw[bU zd] at hr
  rw[zip rfl] at hr;refine dG @c0 q u @y ?_;refine a3L (aQe h hD hC (by grind [zE.sl]) hx S (r:=r) (fun k hk=>a4i (K zd zd k hk) Q) L B.Ur zo hr) ?_;intro A w3 hp;grind [EPost.ahw]
 .have y:cur[o]?=O (aW [114,101,116]):=C
  iterate 13 rw[bU zd] at hr
  rw[zip zd,hx] at hr;simp only at hr;cases E:x.back with
  | none=>
   rw[E] at hr q;cases hr;simp (disch:=first|assumption|omega|simp only[zS]<;>omega|decide) only[zB,simprocAttr,kN,c0,q,u,y,B6];refine⟨fun _ _=>False,?_,by rintro _ _ h;exact h.elim⟩;simp (disch:=first|assumption|omega|simp only[zS]<;>omega|decide) only[zB,simprocAttr,kN,c0,q,B6];exact F _ _ ⟨yF,J⟩
  | some b=>
   rw[E] at hr q;have hr:=(a3R hr).symm;have pJ:=h.bk _ _ _ hx E;simp (disch:=first|assumption|omega|simp only[zS]<;>omega|decide) only[zB,simprocAttr,kN,c0,q,u,y,B6];refine⟨fun _ w'=>w'=w,?_,?_⟩
   .simp (disch:=first|assumption|omega|simp only[zS]<;>omega|decide) only[zB,simprocAttr,kN,c0,q,B6]
   rintro z w2 rfl d2;clear d2;have t:=c0;refine⟨fun w'=>Ext w2 w',I,?_⟩;rw[jI];refine cQ (pq e.vb 3) (fun w' j=>eR) ?_;refine cQ (pp (e.φ m.f)) (fun w' j=>by have l:=j.ext _ _ t;have:=bn l;exact eV l) ?_;rw[jI];refine cQ (pq (e.φ m.f) 3) (fun w' j=>eR) ?_;refine cQ (pp (e.φ b)) (fun w' j=>by have l:=j.ext _ _ q;have:=bn l;simp (disch:=first|assumption|omega|simp only[zS]<;>omega|decide) only[zB,simprocAttr,kN,l,B6]) ?_;rw[jI];refine cQ (pq e.vb 3) (fun w' j=>eR) ?_;refine cQ (pp (e.φ m.f)) (fun w' j=>by have l:=j.ext _ _ t;have:=bn l;exact eV l) ?_;rw[jI];refine cQ (pq (e.φ m.f) 4) (fun w' j=>eR) ?_;refine cQ (zi (x.pc:Nat)) (fun w' j=>by have l:=j.ext _ _ q;have:=bn l;exact eV l) ?_;rw[jI];refine cQ (pq e.vb 3) (fun w' j=>eR) ?_;refine cJ @t ?_;obtain⟨r1,r2⟩:=(h.ext I).own (w':=bR w2.drew e.vb (ah #[pp e.cb,tv,zi (m.sr.fuel:Nat),pp (e.φ b),zi (x.pc:Nat),av] 116)) (f':=b) (pc':=x.pc) yF yH pJ;subst hr;exact F _ _ ⟨yF,J,ρ,eu.refl _ _,_,_,_,_,_,r1⟩
end
