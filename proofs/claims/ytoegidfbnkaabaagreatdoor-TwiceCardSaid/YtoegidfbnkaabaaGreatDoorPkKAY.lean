/- A part of one proof (KV10, KV11, KV12, KV13, KV14). -/
import Derived.Test.YtoegidfbnkaabaaGreatDoorPkKAX
set_option linter.all false
set_option maxRecDepth 100000
set_option maxHeartbeats 8000000
open Option renaming some → O, none → V
open Go renaming Value → Y, World → Z
open Bool renaming true → A, false → ae
open Go.Obj renaming cells → ah
open Go.Ending renaming returned → ai
open Go.Value renaming nilIface → aj, iface → ak
open Go.Calls renaming mono → a0C
open List renaming getElem?_eq_getElem → a0F, getElem_mem → a03, length_singleton → a1j, getElem_cons_zero → a2t
open Option.some renaming inj → a0G
open Go.World renaming ownsRow_nil → a00
open Nat renaming lt_of_lt_of_le → a01
open Go.Proofs.Tryz renaming prog → baE
namespace Go.Proofs.YtoegidfbnkaabaaGreatDoor
open P
open Go.RowKit Sx
variable{D:Nat->Prop}{R:Ending->Z->Prop}{W w w':Z}{X:Y->Z->Prop}{fA b base cb d g j k m n o pb told:Nat}{preds:List Pd}{r:Except iM (Bool×Vm)}{t:Tm}{v:Y}{xs:List Y}
def afZ(name:Bs)(n:Nat)(b:name.length<=100)(a:n<80)(w:Z):Calls baE 71 #[aW name,zi (n:Nat)] w fun e w'=>e = ai (aW (P.keyOf name n))/\w'=w:=by
 refine aNL ?_;refine bF ?_;rw[Mh _ _ zg];refine bF ?_;rw[wrap32 n a,ajg zk zk zo,Mh _ _ zg];exact⟨by rw[P.keyOf,List.append_assoc];rfl,J⟩
def Tryz.aOG:(Tryz.prog.info? 20).map (fun i=>(i.zero,i.size,i.bytes))=O (O aj,1,16):=zk
def aOH(d:w.ownsRow base 20 1 v n xs){a:Y}
  (f:w.heap[b]?=aP #[a] 20) (q:a.oneCell'=A)
  (r:n<=100000000) (g:base<=w.heap.size) {K:Y->Z->Prop}
  (h:∀ v' w',w'.ownsRow base 20 1 v' (n+1) (xs++[a])->w.grownBy w' v.ownBlock->(v'.ownBlock=v.ownBlock\/∀ k,v'.ownBlock=O k->w.heap.size<=k)->K v' w') :
  WR baE (Builtin.append_ #[200,200] 200 #[v,cU b 1 m]) w K X:=by
 obtain⟨i,j,c⟩:=Option.map_eq_some_iff.1 Tryz.aOG;simp only[Prod.mk.injEq] at c;obtain⟨l,o,p⟩:=c;refine Sx.Dr (m:=1) (t:=200) (e:=20) zk j l o p J zo d f J (fun u hu=>?_) zo zo g h;grind
def af0{T size:Nat}(a:Ext w W)(e:W.ownsRow w.heap.size T size v n xs)(c:W.grownBy w' v.ownBlock):Ext w w':=by
 have:=a.size;have:=c.size;refine⟨c.os.trans a.os,c.tape.trans a.tape,c.output.trans a.output,zo,fun b o d _=>?_⟩;have lb:=bn d;rw[c.block b zo (fun he=>?_)]
 .exact a.ext _ _ d
 .rcases e.2 with⟨f,-⟩| ⟨h,cap,cur,g,g2,g3,g4⟩
  .rw[f] at he;cases he
  .rw[g] at he;injection he with he;grind
structure yq(w:Z)(cb pb fA told:Nat)(preds:List Pd):Prop where
 cell:w.heap[cb]?=aP #[.map (O pb),pp fA,zi (told:Nat)] 187
 preds:Uc w pb preds
theorem yq.bJ{w w':Z}{cb pb fA told:Nat}{preds:List Pd}(h:yq w cb pb fA told preds)(hk:eM w w')(hm:∀ l,w.heap[pb]?=O (eP l)->w'.heap[pb]?=O (eP l)):yq w' cb pb fA told preds:=
 ⟨hk _ _ _ (yM) h.cell,h.preds.bJ hk hm⟩
theorem yq.fr(h:yq w cb pb fA told preds)(a:di D w w'):yq w' cb pb fA told preds:=
 h.bJ (di.toI a) fun l hm=>a.block _ _ hm (by rintro ⟨_,cs',c,z,b,d⟩;cases b)
def P.aqp(preds:List Pd)(i:P.In)(m:Vm):P.Out (Bool×Vm):=match preds.find? fun p=>p.name == i.name && p.arity == i.s.length with
 | none=>O (.error (.fault 10))
 | some p=>match p.clauses with
  | []=>O (.ok (ae,m))
  | l=>match m.enter l (i.s.map m.slot) m.f m.pc m.br.length with
   | none=>V
   | some m=>O (.ok (A,m))
section
variable{D:Nat->Prop}{ρ:Nat->Nat}{e:AF}{av tv:Y}{dk:List Y}{w w':Z}{m:Vm}
def aOI(h:gr D ρ e av tv dk w m)(hD:∀ b,w.heap.size<=b->D b)(hC:yq w e.cb pb fA told preds)(mU:∀ p∈preds,∀ c∈p.clauses,c.slots<=64){x:Fm}(hx:m.fs[m.f]?=O x){i:P.In}(hi:AI w g o i)
  (hk:∀ k∈i.s,k<x.slots.length) (xf:i.s.length<=60) (my:i.name.length<=20) (kN:m.br.length<=900000000) (hr:P.aqp preds i m=O r) :
  Calls baE 215 #[pp e.vb,pq g o] w (EPost D w (rT D ρ m.n e.vb e.cb e.fA) r):=by
 suffices H:∀ R:Ending->Z->Prop,(∀ Q w',EPost D w (rT D ρ m.n e.vb e.cb e.fA) r Q w'->R Q w')->Calls baE 215 #[pp e.vb,pq g o] w R from H _ fun _ _ h=>h;intro R hR;refine aNa ?_;obtain⟨cur,S,ho,iw,vO,aNv,sv,dY,mB⟩:=hi;have lg:=bn S;obtain⟨na,nc,nB⟩:∃ a c,sv = .slice a i.s.length c:=by
  obtain⟨a,c,h⟩:=mB.sl;exact⟨a,c,by simpa using h⟩
 subst nB;have c0:=h.cell;obtain⟨⟨CZ,jb,-,-⟩,-,T,mG,FF,FG⟩:=h.fs _ _ hx;have aXU:∀ a,a<m.fs.length->e.ψ a<w.heap.size:=fun a ha=>by
  obtain⟨-,-,row,G,-⟩:=h.fs a _ (a0F ha);exact yH
 obtain⟨us,nT,I⟩:∃ us:List Y,us.length=i.s.length/\∀ j (U:j<i.s.length),us[j]?=T[i.s[j]]?/\∃ u,us[j]?=O u/\zm ρ m.n w u (m.slot i.s[j]):=by
  refine⟨i.s.map fun k=>(T[k]?).getD aj,zs,fun j U=>?_⟩;obtain⟨row,v,q1,q2,q3,q4⟩:=h.QG hx (hk _ (a03 U));rw[mG] at q1;cases q1;have:(i.s.map fun k=>(T[k]?).getD aj)[j]?=O v:=by
   rw[List.getElem?_map,a0F U];simp [q3]
  exact⟨by rw[this,q3],v,this,q4⟩
 refine dB S dY ?_;refine⟨fun n z q=>∃ (j:Nat) (rM:Y),z 14=zi (j:Nat)/\z 5=rM/\j<=i.s.length/\n=i.s.length-j/\Ext w q/\q.ownsRow w.heap.size 20 1 rM j (us.take j),⟨_,0,b9,J,J,Nat.zero_le _,J,yF,by grind [a00]⟩,?_⟩;intro n z dz q hI;clear dz;refine toPr ?_;obtain⟨j,rM,C3,G,U,rfl,t,L⟩:=hI;obtain⟨pa,pc,FI⟩:=ij L;subst FI;have Ll:=t.ext _ _ c0;have N5:=t.ext _ _ jb;have rR:=t.ext _ _ mG;have hgj:=t.ext _ _ S;have lcj:=bn Ll;have aXW:=bn N5;have lrj:=bn rR;have lgj:=bn hgj;have sj:=t.size;by_cases hlt:j<i.s.length
 .have yf:((j:Nat):Int)<(i.s.length:Int):=zo;have j8:((j:Nat):Int).toNat=j:=zo;obtain⟨nb,xp,fS,oZ,uV,-⟩:=Ld mB hlt;simp only[Value.slice.injEq,true_and] at fS;obtain⟨rfl,rfl⟩:=fS;have N4:=t.ext _ _ oZ;have pw:((i.s[j]:Nat):Int).toNat=i.s[j]:=zo;have vX:((i.s[j]:Nat):Int)<(x.slots.length:Int):=zg;obtain⟨e1,u,e2,hu⟩:=I j hlt;have hru:T[i.s[j]]?=O u:=zg;have Gu:us.take (j+1)=us.take j++[u]:=by
   grind [List.take_add_one]
  have Un:u.oneCell'=true:=by rcases hu.one with rfl | ⟨_,_,rfl⟩<;>rfl
  rcases hu.one with rfl | ⟨ut,ux,rfl⟩;all_goals
   refine dL C3 G yf (zA N4 (zA uV (zA @j8 (zA Ll (zA N5 (zA rR (zA hru @pw))))))) ?_;refine aOH (jQ yH L) yH Un zo (by rw[size_alloc];omega) ?_;intro v' w' tL jI DR;obtain⟨C2,pc',I7⟩:=ij tL;subst I7;refine cM C3 ?_;exact⟨i.s.length-(j+1),zo,j+1,_,by first | rfl | simp [jk],by first | rfl | simp [jk],zo,J,af0 yF (jQ yH L) jI,by rw[Gu];exact tL⟩
 .have fD:j=i.s.length:=zo;subst fD;refine dB C3 G ?_;rw[List.take_of_length_le zo] at L;obtain⟨oP,l,jT,B⟩:=hC;have aXY:=bn oP;have B:=B i.name i.s.length zo;have F:∀ {w2:Z} {b:Nat} {o:Obj},Ext w w2->w.heap[b]?=O o->w2.heap[b]?=O o:=yF;refine⟨fun w'=>Ext w w',t.drew,?_⟩;rw[jF];refine cR (pp e.vb) (fun w' C=>eS) ?_;refine cR (pp e.cb) (fun w' C=>by have E:=F C c0;have:=bn E;exact fj E) ?_;rw[jF];refine cR (pp e.cb) (fun w' C=>eS) ?_;refine cR (.map (O pb)) (fun w' C=>by have E:=F C oP;have:=bn E;exact fj E) ?_;rw[jF];refine cR (pq g (o+1)) (fun w' C=>eS) ?_;refine cR (aW i.name) (fun w' C=>by have E:=F C S;have:=bn E;exact lW E @vO) ?_;rw[G];refine bF ?_;refine a0C (afZ i.name i.s.length zo zo _) ?_;rintro Q w2 ⟨rfl,rfl⟩;refine⟨t.drew,?_⟩;have th:Ext w q.drew:=t.drew;have xg:∀ {K:Y->Prop} {X:Y->Z->Prop},RD baE (Instr.lookup 184 (.map (O pb)) (.string (bs (P.keyOf i.name i.s.length))) ae) q.drew K X=(match fP (P.keyOf i.name i.s.length) l 0 with
    | some (_,v)=>K v
    | none=>K (.slice V 0 0)):=fun{K X}=>by
   rw[K7 (k:=9) (e:=192) zk zk (z:=b9) zk (th.ext _ _ jT)];grind
  rw[xg];unfold P.aqp at hr;cases QK:fP (P.keyOf i.name i.s.length) l 0 with
  | none=>
   rw[QK] at B;have B:preds.find? (fun p=>p.name == i.name && p.arity == i.s.length)=none:=B;rw[B] at hr;cases hr;refine⟨fun _ _=>False,?_,by rintro _ _ h;exact h.elim⟩;show RD _ _ _ _ _;rw[afH];refine bF ?_;exact hR _ _ ⟨yF,J⟩
  | some iv=>
   obtain⟨iv1,v⟩:=iv;rw[QK] at B;obtain⟨p,hp,pbk,aOM,aX0,vs,rfl,sW,aX1,hpt,jP⟩:=B;rw[hp] at hr;simp only at hr;refine⟨fun _ w'=>w'=q.drew,?_,?_⟩
   .show RD _ _ _ _ _;rw[afH];exact eS
   rintro s w3 rfl d;clear d;by_cases eh:p.clauses=[]
   .have qQ:(p.clauses.length:Int)=0:=zg;rw[eh] at hr;cases hr;refine cM qQ ?_;exact hR _ _ ⟨yF,J,ρ,eC.refl _ _,_,_,_,_,_,h.ext th⟩
   .have qQ:¬ (p.clauses.length:Int)=0:=fun h=>eh (List.eq_nil_of_length_eq_zero zo);obtain⟨m',pL,hr⟩:∃ m',m.enter p.clauses (i.s.map m.slot) m.f m.pc m.br.length=O m'/\r = .ok (A,m'):=by
     grind
    obtain⟨aa,ac,gD⟩:=ij h.ar;have M:q.drew.heap[e.vb]?=_:=Ll;rw[gD] at M;refine dB qQ @M ?_;have W:Ext w q.drew.drew:=th.drew;have NO:vs.length=p.clauses.length:=jP.1;have aX2:vs≠[]:=zg;have hso:ou q.drew.drew 185 (cU pbk p.clauses.length aOM) vs:=.inr yH;have aOO:yo D ρ m.n e.ψ m.fs.length q.drew.drew (.slice pa i.s.length pc) (i.s.map m.slot):=by
     have hsm:CT ρ m.n q.drew.drew us.toArray (i.s.map m.slot):=fun a y N=>by
      rw[List.getElem?_map] at N;cases hq:i.s[a]? with
      | none=>grind
      | some k=>
       rw[hq] at N;obtain⟨ha,We⟩:=List.getElem?_eq_some_iff.1 hq;obtain⟨-,u,g1,g2⟩:=I a ha;rw[We] at g2;cases N;exact⟨u,zg,g2.bJ (eM.ed W) (eC.refl _ _)⟩
     rcases L.2 with⟨h1,h2⟩| ⟨b,cap,P7,h1,h2,h3,h4,G,h6,h7⟩
     .have:i.s=[]:=zg;exact .inl zg
     .rw[h1];refine .inr ⟨b,cap,P7,zs,zg,h3,zo,fun a y N=>?_,zg⟩;obtain⟨u,g1,g2⟩:=hsm a y N;grind
    have PU:p∈preds:=zg;refine a0C (apU (h.ext W) yH (l:=p.clauses) (args:=i.s.map m.slot) (f:=m.f) (pc:=m.pc) (n:=m.br.length) (m':=m') hso (jP.bJ (eM.ed W)) aOO h.fl zo kN zg zg pL) ?_;rintro Q w4 ⟨rfl,gn,h4⟩;refine bF ?_;subst hr;have hn:m'.n=m.n:=by
     unfold Vm.enter at pL;grind
    exact hR _ _ ⟨(di.ed W).trans gn,J,ρ,⟨zg,zg⟩,h4⟩
end
def P.C4(l:List Tm):Except iM (List Tm)->Except iM (List Tm)
 | .ok r=>.ok (l++r)
 | .error e=>.error e
def P.af4(m:Vm)(k:Nat)(r:List Nat):m.iI (k::r)=match P.vN (m.slot k) with | .error e=>.error e | .ok t=>P.C4 [t] (m.iI r):=by
 rw[Vm.iI];cases m.slot k with
 | term t=>simp only[P.vN];cases m.iI r<;>rfl
 | nil=>rfl
 | level n=>rfl
def P.af5{m:Vm}{ks:List Nat}(c:j<ks.length){a:List Tm}(h:m.iI ks=P.C4 a (m.iI (ks.drop j))) :
  match P.vN (m.slot ks[j]) with | .error t=>m.iI ks = .error t | .ok t=>m.iI ks=P.C4 (a++[t]) (m.iI (ks.drop (j+1))):=by
 rw[List.drop_eq_getElem_cons c,P.af4] at h;cases b:P.vN (m.slot ks[j]) with
 | error t=>rw[b] at h;exact h
 | ok t=>
  rw[b] at h;simp only at h ⊢;rw[h];cases m.iI (ks.drop (j+1))<;>simp [P.C4]
def P.YH{y:Sl}(h:P.vN y = .ok t):y = .term t:=by
 cases y with
 | term u=>grind [P.vN]
 | nil=>cases h
 | level n=>cases h
theorem P.YI{m:Vm}{x:Fm}(hx:m.fs[m.f]?=O x)(b:∀ y∈x.slots,Au y)(k:Nat)(h:P.vN (m.slot k) = .ok t):er t:=by
 have h:=P.YH h;unfold Vm.slot at h;rw[hx] at h;simp only[List.getD_eq_getElem?_getD] at h;cases a:x.slots[k]? with
 | none=>grind
 | some y=>
  rw[a] at h;have h:y = .term t:=h;subst h;exact b _ (List.mem_of_getElem? a)
section
variable{D:Nat->Prop}{ρ:Nat->Nat}{e:AF}{av tv:Y}{dk:List Y}{w w':Z}{m:Vm}
def gr.part(h:gr D ρ e av tv dk w m){q:Except iM (Bool×Sr)}(hr:P.Out.bind (O q) (fun p=>O (.ok (p.1,{ m with sr:=p.2 })))=O r){b:Ending}
  (a:EPost (Dn D av w) w (xj (Dn D av w) ρ m.n e.vb 1 116 (Hf e.cb (pp (e.φ m.f)) (zi (m.pc:Nat)) av)) q b w'):EPost D w (rT D ρ m.n e.vb e.cb e.fA) r b w':=by
 obtain⟨c,a⟩:=a;cases q with
 | error t=>
  cases hr;exact⟨c.up fun _ h=>h.1,a⟩
 | ok p=>
  cases hr;obtain⟨rfl,j,d⟩:=a;obtain⟨g,i⟩:=h.store d c;exact⟨i,J,ρ,eC.refl _ _,_,_,_,_,_,g⟩
theorem EPost.af6{D:Nat->Prop}{w:Z}{α:Type}{Q:α->Ending->Z->Prop}(f:∀ {a e w},Q a e w->∃ v,e = ai v){r:Except iM α}{b:Ending}{w':Z}(h:EPost D w Q r b w')(d:∀ b w',EPost D w Q r b w'->R b w') :
  ends (fun x w'=>R (ai x) w') (PC R) b w':=by
 cases b with
 | returned v=>exact d _ _ h
 | panicked c=>exact d _ _ h
 | outgrown=>
  obtain⟨-,h⟩:=h;cases r with
  | ok a=>grind
  | error t=>cases t<;>cases h
def EPost.aqt{D:Nat->Prop}{w:Z}{α:Type}{Q:α->Ending->Z->Prop}(f:∀ {a e w},Q a e w->∃ v,e = ai v){r:Except iM α}{b:Ending}{w':Z}(h:EPost D w Q r b w')(d:∀ b w',EPost D w Q r b w'->R b w') :
  ends (fun x w'=>R (ai x) w') (LQ R) b w':=by
 cases b with
 | returned v=>exact d _ _ h
 | panicked c=>exact fun _=>d _ _ h
 | outgrown=>
  obtain⟨-,h⟩:=h;cases r with
  | ok a=>grind
  | error t=>cases t<;>cases h
structure Ln(m:Vm)(x:Fm)(i:P.In):Prop where
 hx:m.fs[m.f]?=O x
 ok:sU x.code.slots i
 sl:x.code.slots<=x.slots.length
 tm:∀ y∈x.slots,Au y
 cW:m.sr.cW<=800000000
 br:m.br.length<900000000
 small:∀ k∈i.s,k<100000
def YJ(h:gr D ρ e av tv dk w m)(hD:∀ b,w.heap.size<=b->D b){x:Fm}{i:P.In}(hi:AI w g o i)(hH:Ln m x i)(hw:i.word=P.uB\/i.word=Fg\/i.word=vz\/i.word=rh)
 (hr:qD preds d i m=O r) :
  Calls baE 207 #[pp e.vb,pq g o] w (EPost D w (rT D ρ m.n e.vb e.cb e.fA) r):=by
 suffices H:∀ R:Ending->Z->Prop,(∀ S w',EPost D w (rT D ρ m.n e.vb e.cb e.fA) r S w'->R S w')->Calls baE 207 #[pp e.vb,pq g o] w R from H _ fun _ _ h=>h;intro R hR;obtain⟨hx,M,iW,vC,hz,kN,-⟩:=hH;obtain⟨word,name,con,s⟩:=i;simp only at hw;have c0:=h.cell;obtain⟨⟨CZ,u,-,-⟩,-,qI,z,FF,FG⟩:=h.fs _ _ hx;obtain⟨cur,B,ho,C,vO,⟨cv,T,U⟩,sv,p,W⟩:=hi;simp only at C vO U p W T;have l:Ext w w.drew:=yF;have lr:=bn z;have Pw:s.length=1:=M.one zg;have X:=M.sl (by rcases hw with h | h | h | h<;>(simp only[h];decide)) (by rcases hw with h | h | h | h<;>(simp only[h];decide));simp only at X;obtain⟨k,rfl⟩:∃ k,s=[k]:=by match s,Pw with | [k],_=>grind
 have hk:k<x.slots.length:=a01 (X k (List.mem_singleton.2 J)) iW;obtain⟨nb,xp,nB,I,E,-⟩:=Ld W (j:=0) zs;simp only[a1j,a2t] at nB E;subst nB;have K:((k:Nat):Int).toNat=k:=zo;have vX:((k:Nat):Int)<(x.slots.length:Int):=zo;refine QD ?_;unfold qD at hr;simp only[List.getD_cons_zero] at hr;have L:∀ {eO:Nat->Nat} {F:Nat} {G:Z} {v:Y} {y:Sl},Ext w G->eC ρ m.n eO F->gr D eO e av tv dk G { m with n:=F }->zm eO F G v y->r = .ok (A,{ m.set k y with n:=F }) ->
   R (ai (.bool A)) (bT G (e.ψ m.f) (ah (qI.setIfInBounds k v) 20 (0,0))):=by
  intro eO F G v y hE hu N hy hr;subst hr;obtain⟨r1,r2⟩:=N.apP (hE.ext _ _ z) (k:=k) hy J;exact hR _ _ ⟨(di.ed hE).trans r2,J,eO,hu,_,_,_,_,_,r1⟩
 rcases hw with rfl | rfl | rfl | rfl
 .have q:cur[o]?=O (aW [110,101,119]):=C;rw[zip rfl] at hr;have hr:=(a0G hr).symm;refine dL @c0 u B (zA @q (zA p (zA I (zA E (zA @K z))))) ?_;have KH:Ext w (w.alloc (ah #[aj] 91)):=yF;obtain⟨eO,hu,hn,N⟩:=h.fresh hD KH yH;refine L KH hu N ?_ hr;show dN eO (m.n+1) (w.alloc (ah #[aj] 91)) (ak 87 (pp w.heap.size)) (.var m.n);unfold dN dK;exact yH
 .have q:cur[o]?=O (aW [112,117,116]):=C;rw[bO zd,zip zd] at hr;have hr:=(a0G hr).symm;obtain⟨t,rfl,ht,htc⟩:=M.con (.inl J);have Uq:dN ρ m.n w.drew cv t:=U.eD;obtain⟨ct,cx,rfl⟩:=Uq.iface;refine dL @c0 u B (zA @q (zA p (zA I (zA E (zA @K (zA T z)))))) ?_;exact L l (eC.refl _ _) (h.ext l) (y:=.term t) Uq hr
 .have q:cur[o]?=O (aW [109,97,114,107]):=C
  iterate 7 rw[bO zd] at hr
  rw[zip rfl] at hr;have hr:=(a0G hr).symm;refine dL @c0 u B (zA @q p) ?_;refine⟨fun w'=>Ext w w',l,?_⟩;rw[jF];refine cR (pq g (o+3)) (fun w' a=>eS) ?_;refine cR (cU nb 1 xp.size) (fun w' a=>by have c:=a.ext _ _ B;have:=bn c;exact lW c p) ?_;refine cR (pp nb) (fun w' a=>eS) ?_;refine cR (zi (k:Nat)) (fun w' a=>by have c:=a.ext _ _ I;have:=bn c;exact lW c E) ?_;refine dL @c0 u @K z ?_;refine⟨l,?_⟩;rw[hx] at hr;exact L l (eC.refl _ _) (h.ext l) (y:=.level x.entry) J hr
 .have q:cur[o]?=O (aW [108,101,118,101,108]):=C
  iterate 8 rw[bO zd] at hr
  rw[zip rfl] at hr;have hr:=(a0G hr).symm;obtain⟨aa,ac,gD⟩:=ij h.ar;have Q:=c0;rw[gD] at Q;refine dL @Q u B (zA @q p) ?_;refine⟨fun w'=>Ext w w',l,?_⟩;rw[jF];refine cR (pq g (o+3)) (fun w' a=>eS) ?_;refine cR (cU nb 1 xp.size) (fun w' a=>by have c:=a.ext _ _ B;have:=bn c;exact lW c p) ?_;refine cR (pp nb) (fun w' a=>eS) ?_;refine cR (zi (k:Nat)) (fun w' a=>by have c:=a.ext _ _ I;have:=bn c;exact lW c E) ?_;refine dL @Q u @K z ?_;refine⟨l,?_⟩;exact L l (eC.refl _ _) (h.ext l) (y:=.level m.br.length) J hr
end
section
variable{D:Nat->Prop}{ρ:Nat->Nat}{e:AF}{av tv:Y}{dk:List Y}{w w':Z}{m:Vm}
theorem P.af8{t:Tm}(ht:er t):∀ {l:List Tm},iX l->iX (l++[t])
 | [],_=>by simp only[List.nil_append];unfold iX;exact⟨ht,by unfold iX;trivial⟩
 | a::l,h=>by
  unfold iX at h;show iX (a::(l++[t]));unfold iX;exact⟨h.1,P.af8 ht h.2⟩
theorem P.af9{m:Vm}{x:Fm}(hx:m.fs[m.f]?=O x)(a:∀ y∈x.slots,Au y){i:P.In}(h:m.at i k = .ok t):er t:=by
 grind [P.afy,P.YI,YI,afy]
def aga
  (h:gr D ρ e av tv dk w m) (hD:∀ b,w.heap.size<=b->D b) {x:Fm} {i:P.In} (U:AI w g o i) (hH:Ln m x i) (hw:i.word=DV\/i.word=Fh\/i.word=IF)
 (hr:qD preds d i m=O r) :
  Calls baE 207 #[pp e.vb,pq g o] w (EPost D w (rT D ρ m.n e.vb e.cb e.fA) r):=by
 suffices H:∀ R:Ending->Z->Prop,(∀ f w',EPost D w (rT D ρ m.n e.vb e.cb e.fA) r f w'->R f w')->Calls baE 207 #[pp e.vb,pq g o] w R from H _ fun _ _ h=>h;intro R E;obtain⟨hx,y,iW,vC,hz,kN,-⟩:=hH;have L:=U;obtain⟨word,name,con,s⟩:=i;simp only at hw;have c0:=h.cell;obtain⟨⟨CZ,S,-,-⟩,-,qI,mG,FF,FG⟩:=h.fs _ _ hx;obtain⟨cur,M,ho,N,vO,⟨cv,W,X⟩,sv,dY,mB⟩:=U;simp only at N vO X dY mB W;have l:Ext w w.drew:=yF;refine QD ?_;unfold qD at hr;dsimp only at hr;have rj:=y.sl (by rcases hw with h | h | h<;>(simp only[h];decide)) (by rcases hw with h | h | h<;>(simp only[h];decide));simp only at rj;have QL:∀ k∈s,k<x.slots.length:=zg;have xf:=y.qC;simp only at xf;have Us:∀ {a:Bool×Vm} {e1:Ending} {w1:Z},rT D ρ m.n e.vb e.cb e.fA a e1 w1->∃ v,e1 = ai v:=zg;rcases hw with rfl | rfl | rfl
 .have F:cur[o]?=O (aW [99,111,110,115,116]):=N
  iterate 2 rw[bO zd] at hr
  rw[zip zd] at hr;have Pw:s.length=1:=y.one zg;obtain⟨t0,rfl,Kn,htc⟩:=y.con (.inr J);have Uq:dN ρ m.n w cv t0:=X.eD;obtain⟨ct,cx,rfl⟩:=Uq.iface;refine dL @c0 S M @F ?_;refine⟨fun w'=>Ext w w',l,?_⟩;rw[jF];refine cR (pq e.vb 1) (fun w' Q=>eS) ?_;rw[jF];refine cR (pq g (o+2)) (fun w' Q=>eS) ?_;refine cR (ak ct cx) (fun w' Q=>by have h9:=Q.ext _ _ M;have:=bn h9;exact lW h9 W) ?_;have T:=h.ext l;refine a0C (Yx T hx (L.bJ (eM.ed l)) (k:=0) zg (by grind [a03]) zo) ?_;rintro f w2 ⟨rfl,c⟩;have j:Ext w w.drew.drew:=l.drew;cases G:m.at ⟨DV,name,O t0,s⟩ 0 with
  | error t=>
   rw[G] at hr c;have hr:=(a0G hr);subst hr;have c:f=gW t:=c;subst c;cases t<;>exact fun _=>E _ _ ⟨yF,J⟩
  | ok t=>
  rw[G] at hr c;obtain⟨v,rfl,hv⟩:=c;have hr:P.Out.bind (gY d t t0 m.sr) (fun p=>O (.ok (p.1,{ m with sr:=p.2 })))=O r:=hr;refine⟨j,?_⟩;cases z:gY d t t0 m.sr with
  | none=>rw[z] at hr;cases hr
  | some q=>
  rw[z] at hr;have I:=h.ext j;refine a0C (PV CU d I.less (I.dn hD) hv (by grind [P.af9]) (Uq.bJ (rn.ed j)) Kn zo z) ?_;intro f w3 c;have c:=I.part hr c;exact EPost.aqt Us (c.of (di.ed j)) E
 .have F:cur[o]?=O (aW [115,97,109,101]):=N
  iterate 3 rw[bO zd] at hr
  rw[zip zd] at hr;have K:s.length=2:=y.same J;refine dL @c0 S M @F ?_;refine⟨fun w'=>Ext w w',l,?_⟩;rw[jF];refine cR (pq e.vb 1) (fun w' Q=>eS) ?_;have T:=h.ext l;refine a0C (Yx T hx (L.bJ (eM.ed l)) (k:=0) zg (by grind [a03]) zo) ?_;rintro f w2 ⟨rfl,c⟩;have j:Ext w w.drew.drew:=l.drew;cases G:m.at ⟨Fh,name,con,s⟩ 0 with
  | error t=>
   rw[G] at hr c;have hr:=(a0G hr);subst hr;have c:f=gW t:=c;subst c;cases t<;>exact fun _=>E _ _ ⟨yF,J⟩
  | ok t=>
  rw[G] at hr c;obtain⟨v,rfl,hv⟩:=c;refine⟨j,?_⟩;have I:=h.ext j;have B:Ext w w.drew.drew.drew:=j.drew;refine a0C (Yx I hx (L.bJ (eM.ed j)) (k:=1) zg (by grind [a03]) zo) ?_;rintro f w2 ⟨rfl,c⟩;simp only[Cx] at hr;cases Dj:m.at ⟨Fh,name,con,s⟩ 1 with
  | error t=>
   rw[Dj] at hr c;have hr:=(a0G hr);subst hr;have c:f=gW t:=c;subst c;cases t<;>exact fun _=>E _ _ ⟨yF,J⟩
  | ok u=>
  rw[Dj] at hr c;obtain⟨v2,rfl,j6⟩:=c;refine⟨B,?_⟩;have hr:P.Out.bind (gY d t u m.sr) (fun p=>O (.ok (p.1,{ m with sr:=p.2 })))=O r:=hr;cases z:gY d t u m.sr with
  | none=>rw[z] at hr;cases hr
  | some q=>
  rw[z] at hr;have C:=h.ext B;refine a0C (PV CU d C.less (C.dn hD) (hv.bJ (rn.ed yF)) (by grind [P.af9]) j6 (by grind [P.af9]) zo z) ?_;intro f w3 c;have c:=C.part hr c;exact EPost.aqt Us (c.of (di.ed B)) E
 .have F:cur[o]?=O (aW [115,112,108,105,116]):=N
  iterate 5 rw[bO zd] at hr
  rw[zip zd] at hr;have K:2<=s.length:=y.two (.inr J);refine dL @c0 S M @F ?_;have JU:m.sr.tr.length+m.sr.fuel<=800000000:=hz;refine a0C (aNu h hD hx L (d:=d) (r:=r) K QL xf y.S7 (by grind [ac1]) zo ?_) ?_
  .rw[<- hr];rfl
  .intro f w3 c;grind [EPost.af6]
def aOP
  (h:gr D ρ e av tv dk w m) (hD:∀ b,w.heap.size<=b->D b) {x:Fm} {i:P.In} (U:AI w g o i) (hH:Ln m x i) (hw:i.word=nD)
 (hr:qD preds d i m=O r) :
  Calls baE 207 #[pp e.vb,pq g o] w (EPost D w (rT D ρ m.n e.vb e.cb e.fA) r):=by
 suffices H:∀ R:Ending->Z->Prop,(∀ y w',EPost D w (rT D ρ m.n e.vb e.cb e.fA) r y w'->R y w')->Calls baE 207 #[pp e.vb,pq g o] w R from H _ fun _ _ h=>h;intro R W;obtain⟨hx,L,iW,vC,hz,kN,-⟩:=hH;have p8:=U;obtain⟨word,name,con,s⟩:=i;simp only at hw;have c0:=h.cell;obtain⟨⟨CZ,jb,-,-⟩,-,qI,X,FF,FG⟩:=h.fs _ _ hx;obtain⟨cur,hg,ho,iw,vO,⟨cv,jg,lC⟩,sv,dY,mB⟩:=U;simp only at iw vO lC dY mB jg;refine QD ?_;unfold qD at hr;dsimp only at hr;subst hw;have rj:=L.sl (by simp only;decide) (by simp only;decide);simp only at rj;have QL:∀ k∈s,k<x.slots.length:=zg;have xf:=L.qC;simp only at xf;have nV:cur[o]?=O (aW [116,101,115,116]):=iw
 iterate 6 rw[bO zd] at hr
 rw[zip zd] at hr;have aX3:jx name=s.length:=L.test J;obtain⟨na,nc,nB⟩:∃ a c,sv = .slice a s.length c:=by
  obtain⟨a,c,h⟩:=mB.sl;exact⟨a,c,by simpa using h⟩
 subst nB;have Us:∀ {a:Bool×Vm} {e1:Ending} {w1:Z},rT D ρ m.n e.vb e.cb e.fA a e1 w1->∃ v,e1 = ai v:=zg;refine dL @c0 jb hg (zA @nV dY) ?_;refine⟨fun n z C=>∃ (j:Nat) (M:Y) (us:List Y) (l:List Tm),z 128=zi (j:Nat)/\z 8=M/\j<=s.length/\n=s.length-j/\Ext w C/\C.ownsRow w.heap.size 89 1 M j us/\us.length=j/\pU ρ m.n w us l/\iX l/\m.iI s=P.C4 l (m.iI (s.drop j)),
  ⟨_,0,b9,[],[],J,J,Nat.zero_le _,J,yF,a00 _ _ _ _,J,by unfold pU iP;rfl,by unfold iX;trivial,by rw[List.drop_zero];cases m.iI s<;>rfl⟩,?_⟩
 intro n z dz C hI;clear dz;refine toPr ?_;obtain⟨j,M,us,l,F,N,hj,rfl,E,Q,uL,S,T,G⟩:=hI;obtain⟨pa,pc,FI⟩:=ij Q;subst FI;have sj:=E.size;have I:Ext w C.drew:=E.drew;by_cases hlt:j<s.length
 .have yf:(j:Int)<(s.length:Int):=zo;refine jt F N yf ?_;have TE:=h.ext E;refine a0C (afz TE hx (p8.bJ (eM.ed E)) (k:=j) hlt (by grind [a03]) zo) ?_;rintro y w2 ⟨rfl,row,v,eU,K,-,f⟩;have B:=P.af5 hlt G;simp only at f;rw[E.ext _ _ X] at eU;cases eU;cases u:P.vN (m.slot s[j]) with
  | error t=>
   rw[u] at f B;rw[show m.iI s = .error t from B] at hr;have hr:=(a0G hr);subst hr;have f:y=gW t:=f;subst f;cases t<;>exact W _ _ ⟨yF,J⟩
  | ok t=>
   rw[u] at f B;have B:m.iI s=P.C4 (l++[t]) (m.iI (s.drop (j+1))):=B;have f:y = ai v:=f;subst f;obtain⟨agf,v2,q1,q2,q3,q4⟩:=h.QG hx (QL _ (a03 hlt));rw[X] at q1;cases q1;rw[q3] at K;injection K with K;subst K;rw[P.YH u] at q4;have q4:dN ρ m.n w v2 t:=q4;have aqv:er t:=(by grind [P.YI]);have Un:v2.oneCell'=true:=by obtain⟨a,b,rfl⟩:=q4.iface;rfl
   obtain⟨vt,vx,Ut⟩:=q4.iface;rw[Ut];refine dB F N ?_;rw[<- Ut];have C0:(C.drew.alloc (ah #[v2] 89)).ownsRow w.heap.size 89 1 (.slice pa j pc) j us:=jQ yH Q;refine PZ C0 yH Un zo (yH) ?_;intro v' w' tL jI DR;obtain⟨C2,pc',I7⟩:=ij tL;subst I7;refine cM F ?_;refine⟨s.length-(j+1),zo,j+1,_,us++[v2],l++[t],zg,zg,zo,J,af0 yF C0 jI,tL,zg,S.snoc q4,?_,B⟩;grind [P.af8]
 .have fD:j=s.length:=zo;subst fD;rw[List.drop_length] at G;have G:m.iI s = .ok l:=by grind [Vm.iI,P.C4]
  rw[G] at hr;have oU:=I.ext _ _ hg;refine dL F N oU @vO ?_;have hr:P.Out.bind (uy d name l m.sr) (fun p=>O (.ok (p.1,{ m with sr:=p.2 })))=O r:=hr;cases u:uy d name l m.sr with
  | none=>rw[u] at hr;cases hr
  | some q=>
  rw[u] at hr;have xG:=h.ext I;have uA:l.length=s.length:=by rw[<- S.length,uL]
  refine a0C (aot CU (r:=q) xG.less (by grind [BU,gr.dn]) ((T7 Q uL.symm).mono zg yH) (S.bJ (rn.ed I)) T zo zo u) ?_;intro y w3 f;have f:=xG.part hr f;exact EPost.af6 Us (f.of (di.ed I)) W
end
section
variable{D:Nat->Prop}{ρ:Nat->Nat}{e:AF}{av tv:Y}{dk:List Y}{w w':Z}{m:Vm}
def aOQ
  (h:gr D ρ e av tv dk w m) (hD:∀ b,w.heap.size<=b->D b) {x:Fm} {i:P.In} (hi:AI w g o i) (hH:Ln m x i) (hw:i.word=IE)
 (hr:qD preds d i m=O r) :
  Calls baE 207 #[pp e.vb,pq g o] w (EPost D w (rT D ρ m.n e.vb e.cb e.fA) r):=by
 suffices H:∀ R:Ending->Z->Prop,(∀ E w',EPost D w (rT D ρ m.n e.vb e.cb e.fA) r E w'->R E w')->Calls baE 207 #[pp e.vb,pq g o] w R from H _ fun _ _ h=>h;intro R hR;obtain⟨hx,G,iW,vC,hz,kN,-⟩:=hH;have p8:=hi;obtain⟨word,name,con,s⟩:=i;simp only at hw;have c0:=h.cell;obtain⟨⟨CZ,jb,-,-⟩,-,qI,mG,FF,FG⟩:=h.fs _ _ hx;obtain⟨cur,hg,ho,iw,vO,⟨cv,jg,lC⟩,sv,dY,mB⟩:=hi;simp only at iw vO lC dY mB jg;have lg:=bn hg;refine QD ?_;unfold qD at hr;dsimp only at hr;subst hw;have rj:=G.sl (by simp only;decide) (by simp only;decide);simp only at rj;have QL:∀ k∈s,k<x.slots.length:=zg;have xf:=G.qC;have my:=G.S7;simp only at xf my;have nV:cur[o]?=O (aW [109,97,107,101]):=iw
 iterate 4 rw[bO zd] at hr
 rw[zip zd] at hr;have h2s:2<=s.length:=G.two (.inl J);obtain⟨L,Lk⟩:=ck (s.length-1);have tF:s.tail.length=L:=zg;obtain⟨nb,xp,nB,oZ,aOR,xQ⟩:=Ld mB (j:=0) zo;subst nB;have afB:(1:Int)<=(s.length:Int):=zo;have ze:sliced (O ⟨nb,0,V⟩) 1 s.length xp.size 1 = .slice (O ⟨nb,1,V⟩) L (xp.size-1):=by
  unfold sliced;rw[bO zo,Lk];simp [Addr.add]
 refine dL @c0 jb hg (zA @nV (zA dY (zA @vO ze))) ?_;obtain⟨wc,YG⟩:=ck (w.alloc (ah #[aW name,b9] 180));have hEc:Ext w wc:=yF;have sc:wc.heap.size=w.heap.size+1:=yH;have qx:wc.heap[w.heap.size]?=aP #[aW name,b9] 180:=yH;rw[<- YG];refine⟨fun n z c=>∃ (j:Nat) (rM:Y) (us:List Y) (f:List Tm),z 88=zi (j:Nat)/\j<=L/\n=L-j/\Ext w c/\w.heap.size<c.heap.size/\c.heap[w.heap.size]?=aP #[aW name,rM] 180 /\
   c.ownsRow (w.heap.size+1) 89 1 rM j us/\us.length=j/\pU ρ m.n w us f/\iX f/\m.iI s.tail=P.C4 f (m.iI (s.tail.drop j)),
  ⟨_,0,b9,[],[],J,Nat.zero_le _,J,hEc,zo,qx,a00 _ _ _ _,J,by unfold pU iP;rfl,by unfold iX;trivial,by rw[List.drop_zero];cases m.iI s.tail<;>rfl⟩,?_⟩
 intro n z dz c hI;clear dz;refine toPr ?_;obtain⟨j,rM,us,f,I,hj,rfl,p,jr,K,rU,uL,kQ,age,M⟩:=hI;obtain⟨pa,pc,FI⟩:=ij rU;subst FI;have sj:=p.size;have N:Ext w c.drew:=p.drew;have X5:=bn K;by_cases hlt:j<L
 .have yf:(j:Int)<(L:Int):=zo;refine dB I yf ?_;refine⟨fun w'=>w'.heap[w.heap.size]?=c.heap[w.heap.size]?,J,?_⟩;try rw[jF]
  refine cR (pq w.heap.size 1) (fun w' Q=>eS) ?_;refine cR (.slice pa j pc) (fun w' Q=>by rw[K] at Q;have:=bn Q;exact fj Q) ?_;try rw[I]
  refine bF ?_;have TE:=h.ext N;have PM:j+1<s.length:=zo;rw[show(j:Int)+1=((j+1:Nat):Int) by omega];refine a0C (afz TE hx (p8.bJ (eM.ed N)) (k:=j+1) PM (by grind [a03]) zo) ?_;rintro E w2 ⟨rfl,row,v,eU,S,-,l⟩;have Uo:Ext w c.drew.drew:=N.drew;have q:=P.af5 (j:=j) zo M;have htg:s.tail[j]' zo=s[j+1]:=zs;rw[htg] at q;simp only at l;rw[N.ext _ _ mG] at eU;cases eU;cases hq:P.vN (m.slot s[j+1]) with
  | error t=>
   rw[hq] at l q;rw[show m.iI s.tail = .error t from q] at hr;have hr:=(a0G hr);subst hr;have l:E=gW t:=l;subst l;cases t<;>exact fun _=>hR _ _ ⟨yF,J⟩
  | ok t=>
   rw[hq] at l q;have q:m.iI s.tail=P.C4 (f++[t]) (m.iI (s.tail.drop (j+1))):=q;have l:E = ai v:=l;subst l;obtain⟨agf,v2,q1,q2,q3,q4⟩:=h.QG hx (QL _ (a03 PM));rw[mG] at q1;cases q1;rw[q3] at S;injection S with S;subst S;rw[P.YH hq] at q4;have q4:dN ρ m.n w v2 t:=q4;have aqv:er t:=(by grind [P.YI]);have Un:v2.oneCell'=true:=by obtain⟨a,b,rfl⟩:=q4.iface;rfl
   obtain⟨vt,vx,Ut⟩:=q4.iface;rw[Ut];refine bF ?_;rw[<- Ut];obtain⟨F,qZ⟩:=ck (c.drew.drew.alloc (ah #[v2] 89));have u:Ext c F:=yF;have sA:F.heap.size=c.heap.size+1:=yH;have hnA:F.heap[c.heap.size]?=aP #[v2] 89:=yH;have hcA:=u.ext _ _ K;have C0:F.ownsRow (w.heap.size+1) 89 1 (.slice pa j pc) j us:=jQ u.ext rU;try rw[<- qZ]
   refine PZ C0 hnA Un zo zo ?_;intro v' w' tL C DR;obtain⟨C2,pc',I7⟩:=ij tL;subst I7;have Mv:∀ {b:Nat} {cs:Array Y} {T:Nat},T≠89->F.heap[b]?=aP cs T->w'.heap[b]?=aP cs T:=fun{b cs T} hT U=>by
    rw[C.block b (bn U) (fun he=>?_)]
    .omega
    .rcases C0.2 with⟨W,-⟩| ⟨b',cap,P7,B,g2,g3,g4⟩
     .rw[W] at he;cases he
     .rw[B] at he;injection he with he;grind
   have oc:=Mv zd hcA;have lc':=bn oc;have sw':=C.size;refine⟨yH,?_⟩;refine dB I oc ?_;obtain⟨wE,N7⟩:=ck (bT w' w.heap.size (ah #[aW name,.slice C2 (j+1) pc'] 180));have afO:bT w' w.heap.size (ah (oV #[aW name,.slice pa j pc] 1 (Value.slice C2 (j+1) pc').cells.toList) 180 (0,0))=wE:=N7.symm;first | rw[<- N7] | rw[afO] | skip
   have hbE:∀ {b:Nat} {cs:Array Y} {T:Nat},T≠180->w'.heap[b]?=aP cs T->wE.heap[b]?=aP cs T:=yH;refine⟨L-(j+1),zo,j+1,.slice C2 (j+1) pc',us++[v2],f++[t],zs,zo,J,?_,zo,J,?_,zg,kQ.snoc q4,P.af8 aqv age,q⟩
   .have X:=p.trans u;rw[N7];refine⟨C.os.trans X.os,C.tape.trans X.tape,C.output.trans X.output,yH,fun b o U hm=>?_⟩;have lb:=bn U;have hbA:=X.ext _ _ U;rw[jh zo,C.block b zo (fun he=>?_)]
    .exact yH
    .rcases C0.2 with⟨W,-⟩| ⟨b',cap,P7,B,g2,g3,g4⟩
     .rw[W] at he;cases he
     .rw[B] at he;injection he with he;grind
   .refine⟨tL.1,?_⟩;rcases tL.2 with W | ⟨b,cap,P7,B,g2,g3,g4⟩
    .exact yH
    .exact .inr ⟨b,cap,P7,B,g2,yH,g4⟩
 .have fD:j=L:=zo;subst fD;rw[<- tF,List.drop_length] at M;have M:m.iI s.tail = .ok f:=by grind [Vm.iI,P.C4]
  rw[M] at hr;have hgj:=p.ext _ _ hg;have N4:=p.ext _ _ oZ;have rR:=p.ext _ _ mG;have Bb:s[0]<x.slots.length:=QL _ (a03 _);have pw:((s[0]:Nat):Int).toNat=s[0]:=zo;have vX:((s[0]:Nat):Int)<(x.slots.length:Int):=zo;have hr:r = .ok (A,m.set (s.getD 0 0) (.term (.comp name f))):=(a0G hr).symm;have B:s.getD 0 0=s[0]:=zg;rw[B] at hr;refine dL I hgj dY (zA N4 (zA aOR (zA @pw rR))) ?_;have afP:dN ρ m.n c (ak 175 (pp w.heap.size)) (.comp name f):=by
   unfold dN dK;exact⟨w.heap.size,_,us,J,trivial,K,T7 rU uL.symm,kQ.bJ (rn.ed p)⟩
  obtain⟨r1,r2⟩:=(h.ext p).apP rR (k:=s[0]) (y:=.term (.comp name f)) afP J;subst hr;exact hR _ _ ⟨yF,J,ρ,eC.refl _ _,_,_,_,_,_,r1⟩
end
section
variable{D:Nat->Prop}{ρ:Nat->Nat}{e:AF}{av tv:Y}{dk:List Y}{w w':Z}{m:Vm}
def agi
  (h:gr D ρ e av tv dk w m) (hD:∀ b,w.heap.size<=b->D b) {x:Fm} {i:P.In} (hi:AI w g o i) (hH:Ln m x i) (hw:i.word=kx\/i.word=jV\/i.word=kY)
 (hr:qD preds d i m=O r) :
  Calls baE 207 #[pp e.vb,pq g o] w (EPost D w (rT D ρ m.n e.vb e.cb e.fA) r):=by
 suffices H:∀ R:Ending->Z->Prop,(∀ en w',EPost D w (rT D ρ m.n e.vb e.cb e.fA) r en w'->R en w')->Calls baE 207 #[pp e.vb,pq g o] w R from H _ fun _ _ h=>h;intro R L;obtain⟨hx,dj,iW,vC,hz,kN,-⟩:=hH;have p8:=hi;obtain⟨word,name,con,s⟩:=i;simp only at hw;have c0:=h.cell;obtain⟨⟨CZ,E,-,-⟩,-,qI,N,FF,FG⟩:=h.fs _ _ hx;obtain⟨cur,p,ho,X,vO,⟨cv,jg,lC⟩,sv,y,mB⟩:=hi;simp only at X vO lC y mB jg;have dE:Ext w w.drew:=yF;have l0:=bn c0;have lf:=bn E;have lr:=bn N;have lg:=bn p;refine QD ?_;unfold qD at hr;dsimp only at hr;have Pw:s.length=1:=dj.one zg;obtain⟨k,rfl⟩:∃ k,s=[k]:=by match s,Pw with | [k],_=>grind
 have rj:=dj.sl;simp only at rj;obtain⟨nb,xp,nB,F,G,-⟩:=Ld mB (j:=0) zs;simp only[a1j,a2t] at nB G;subst nB;have lnb:=bn F;have pw:((k:Nat):Int).toNat=k:=zo;obtain⟨aa,ac,q⟩:=ij h.ar;have I:=c0;rw[q] at I;simp only[List.getD_cons_zero] at hr;obtain⟨PT,Uh⟩:=P8 (by rw[q] at h;exact h.ar:w.ownsRow 0 342 5 (.slice aa m.br.length ac) m.br.length dk);rcases hw with rfl | rfl | rfl
 .have B:cur[o]?=O (aW [116,114,121]):=X
  iterate 10 rw[bO zd] at hr
  rw[zip rfl] at hr;have hr:=(a0G hr).symm;refine dL @I E p (zA @B y) ?_;have C:∀ {w1:Z},Ext w w1->QF 342 w w1:=fun h b cs T _ Q=>h.ext _ _ Q;refine⟨fun w'=>QF 342 w w',C dE,?_⟩;rw[jF];refine cR (pq e.vb 5) (fun w' a=>eS) ?_;refine cR (.slice aa m.br.length ac) (fun w' a=>by have c:=a _ _ _ zo I;have:=bn c;exact fj c) ?_;rw[jF];refine cR (pq e.vb 1) (fun w' a=>eS) ?_;rw[jF];refine cR (pq e.vb 3) (fun w' a=>eS) ?_;refine cR (pp (e.φ m.f)) (fun w' a=>by have c:=a _ _ _ zo I;have:=bn c;exact fj c) ?_;rw[jF];refine cR (pq g (o+3)) (fun w' a=>eS) ?_;refine cR (cU nb 1 xp.size) (fun w' a=>by have c:=a _ _ _ zo p;have:=bn c;exact lW c y) ?_;refine cR (pp nb) (fun w' a=>eS) ?_;refine cR (zi (k:Nat)) (fun w' a=>by have c:=a _ _ _ zo F;have:=bn c;exact lW c G) ?_;refine a0C (Tn (h.ext dE).st CU) ?_;rintro en w1 ⟨rfl,rfl⟩;refine⟨C dE,?_⟩;refine bF ?_;obtain⟨S,Be⟩:∃ S:List Y,S=[zi (m.sr.tr.length:Nat),pp (e.φ m.f),zi (k:Nat),b9,b9]:=⟨_,J⟩;obtain⟨w2,j3⟩:=ck (w.drew.alloc (ah S.toArray 342 (0,0)));have dT:Ext w w2:=yF;have g2:w2.heap[w.heap.size]?=aP S.toArray 342:=yH;have s2:w2.heap.size=w.heap.size+1:=yH;rw[Be] at j3;rw[<- j3];have h2:=h.ext dT;have q2:=h2.cell;rw[q] at q2;have U:=h2.ar;rw[q] at U;refine⟨C dT,?_⟩;refine apT U g2 zg (by rw[Be];intro u hu;simp only[List.mem_cons,List.not_mem_nil,or_false] at hu;rcases hu with rfl | rfl | rfl | rfl | rfl<;>rfl) zo zo ?_;intro v' w3 KJ xN Ee;obtain⟨p3,d3,e3⟩:=ij KJ;subst e3;have Lh:ny D ρ m.n e.φ e.ψ m.fs.length w2 S [⟨m.sr.tr.length,m.f,k,[],[]⟩]:=
   ⟨b9,b9,[],[],zg,h.fl,ou.nil,⟨J,zg⟩,.inl ⟨J,J⟩,J⟩
  obtain⟨w4,jw⟩:=ck (bT w3 e.vb (ah #[pp e.cb,tv,zi (m.sr.fuel:Nat),pp (e.φ m.f),zi (m.pc:Nat),.slice p3 (m.br.length+1) d3] 116));obtain⟨W,r2,r3,r4⟩:=h2.KY (l:=m.br++[⟨m.sr.tr.length,m.f,k,[],[]⟩]) (by rw[List.length_append,a1j];exact KJ) (by rw[q];exact xN) (by rw[q];exact Ee.imp id fun hx g p=>⟨hD g (by have:=hx g p;omega),hx g p⟩) (h2.ag.snoc Lh) jw;have c3:=r4.trans q2;refine⟨fun b cs T hT Q=>by
   rw[xN.block b (by have:=bn Q;omega) (fun he=>by rw[<- q] at he;exact h.Yv Q hT he.symm)];exact dT.ext _ _ Q,?_⟩
  refine cM @c3 ?_;have Lb:bT w3 e.vb (ah (oV #[pp e.cb,tv,zi (m.sr.fuel:Nat),pp (e.φ m.f),zi (m.pc:Nat),.slice aa m.br.length ac] 5 (Value.slice p3 (m.br.length+1) d3).cells.toList) 116 (0,0))=w4:=jw.symm;first | rw[Lb] | rw[<- jw]
  subst hr;exact L _ _ ⟨(di.ed dT).trans r2,J,ρ,eC.refl _ _,_,_,_,_,_,W⟩
 .have B:cur[o]?=O (aW [106,117,109,112]):=X
  iterate 11 rw[bO zd] at hr
  rw[zip rfl] at hr;have hr:=(a0G hr).symm;refine dL @c0 E p (zA @B (zA y (zA F G))) ?_;obtain⟨W,r2⟩:=h.own (w':=bT w e.vb (ah #[pp e.cb,tv,zi (m.sr.fuel:Nat),pp (e.φ m.f),zi (k:Nat),av] 116)) (f':=m.f) (pc':=k) yF yH h.fl;subst hr;exact L _ _ ⟨r2,J,ρ,eC.refl _ _,_,_,_,_,_,W⟩
 .have B:cur[o]?=O (aW [99,117,116]):=X
  iterate 9 rw[bO zd] at hr
  rw[zip rfl] at hr;have hk:k<x.slots.length:=a01 (rj zd zd k (List.mem_singleton.2 J)) iW;have vX:((k:Nat):Int)<(x.slots.length:Int):=zo;obtain⟨aX5,v,q1,q2,q3,q4⟩:=h.QG hx hk;rw[N] at q1;cases q1;have C5:∀ {K:Prop},(r = .error (.fault 5)->K)->(m.slot k = .nil\/∃ t,m.slot k = .term t)->K:=zg;cases kq:m.slot k with
  | nil=>
   rw[kq] at q4 hr;have q4:v = aj:=q4;subst q4;cases hr;refine dL @c0 E p (zA @B (zA y (zA F (zA G (zA @pw (zA N @q3)))))) ?_;refine⟨fun _ _=>False,?_,by rintro _ _ h;exact h.elim⟩;refine bF ?_;exact L _ _ ⟨yF,J⟩
  | term t=>
   rw[kq] at q4 hr;cases hr;have q4:dN ρ m.n w v t:=q4;obtain⟨T,u,rfl,hT⟩:∃ T u,v = ak T u/\T≠201:=by
    cases t with
    | var i=>unfold dN dK at q4;grind
    | atom s=>unfold dN dK at q4;grind
    | int s=>unfold dN dK at q4;grind
    | comp s l=>unfold dN dK at q4;grind
   refine dL @c0 E p (zA @B (zA y (zA F (zA G (zA @pw (zA N (zA @q3 hT))))))) ?_;refine⟨fun _ _=>False,?_,by rintro _ _ h;exact h.elim⟩;refine bF ?_;exact L _ _ ⟨yF,J⟩
  | level n=>
   rw[kq] at q4 hr;have hr:=(a0G hr).symm;have q4:v = ak 201 (zi (n:Nat)):=q4;subst q4;obtain⟨M,hM⟩:=ck (min n m.br.length);rw[<- hM] at hr;have hmx:(if (m.br.length:Int)<(n:Int) then(m.br.length:Int) else(n:Int))=(M:Int):=zo;have hMc:(M:Int)<=(ac:Int):=zo;refine dL @I E p (zA @B (zA y (zA F (zA G (zA @pw (zA N @q3)))))) ?_;refine⟨fun _ w'=>w'=w,?_,?_⟩
   .exact eS
   rintro z w2 rfl d2;clear d2;refine dL @ajf @I hmx Uh ?_;obtain⟨W,r2,-⟩:=(h.ext dE).forget (k:=M) (w1:=bT w2.drew e.vb (ah #[pp e.cb,tv,zi (m.sr.fuel:Nat),pp (e.φ m.f),zi (m.pc:Nat),.slice aa M ac] 116)) zo q J;subst hr;exact L _ _ ⟨yF,J,ρ,eC.refl _ _,_,_,_,_,_,W⟩
def aqx
  (h:gr D ρ e av tv dk w m) (hD:∀ b,w.heap.size<=b->D b) {x:Fm} {i:P.In} (G:AI w g o i) (Q:Ln m x i) (hw:i.word=Ar\/i.word=Na) (hC:yq w e.cb pb fA told preds) (mU:∀ p∈preds,∀ c∈p.clauses,vA c)
 (hr:qD preds d i m=O r) :
  Calls baE 207 #[pp e.vb,pq g o] w (EPost D w (rT D ρ m.n e.vb e.cb e.fA) r):=by
 suffices H:∀ R:Ending->Z->Prop,(∀ B w',EPost D w (rT D ρ m.n e.vb e.cb e.fA) r B w'->R B w')->Calls baE 207 #[pp e.vb,pq g o] w R from H _ fun _ _ h=>h;intro R I;obtain⟨hx,C,S,vC,hz,kN,-⟩:=Q;have T:=G;obtain⟨word,name,con,s⟩:=i;simp only at hw;have c0:=h.cell;obtain⟨⟨CZ,q,-,-⟩,-,qI,U,FF,FG⟩:=h.fs _ _ hx;obtain⟨cur,u,ho,E,W,⟨cv,X,lC⟩,sv,dY,mB⟩:=G;simp only at E W lC dY mB X;have K:Ext w w.drew:=yF;have l0:=bn c0;have lf:=bn q;have lr:=bn U;have lg:=bn u;refine QD ?_;unfold qD at hr;dsimp only at hr;have L:=C.sl;simp only at L;have M:=C.qC;simp only at M;have Us:∀ {a:Bool×Vm} {N:Ending} {w1:Z},rT D ρ m.n e.vb e.cb e.fA a N w1->∃ v,N = ai v:=zg;rcases hw with rfl | rfl
 .have y:cur[o]?=O (aW [99,97,108,108]):=E
  iterate 12 rw[bO zd] at hr
  rw[zip rfl] at hr;refine dL @c0 q u @y ?_;refine a0C (aOI h hD hC (by grind [vA.sl]) hx T (r:=r) (fun k hk=>a01 (L zd zd k hk) S) M C.S7 zo hr) ?_;intro B w3 hp;grind [EPost.af6]
 .have y:cur[o]?=O (aW [114,101,116]):=E
  iterate 13 rw[bO zd] at hr
  rw[zip zd,hx] at hr;simp only at hr;cases F:x.back with
  | none=>
   rw[F] at hr q;cases hr;simp (disch:=first|assumption|omega|simp only[zS]<;>omega|decide) only[zB,simprocAttr,lp,c0,q,u,y,BA];refine⟨fun _ _=>False,?_,by rintro _ _ h;exact h.elim⟩;simp (disch:=first|assumption|omega|simp only[zS]<;>omega|decide) only[zB,simprocAttr,lp,c0,q,BA];exact I _ _ ⟨yF,J⟩
  | some b=>
   rw[F] at hr q;have hr:=(a0G hr).symm;have o9:=h.bk _ _ _ hx F;simp (disch:=first|assumption|omega|simp only[zS]<;>omega|decide) only[zB,simprocAttr,lp,c0,q,u,y,BA];refine⟨fun _ w'=>w'=w,?_,?_⟩
   .simp (disch:=first|assumption|omega|simp only[zS]<;>omega|decide) only[zB,simprocAttr,lp,c0,q,BA]
   rintro z w2 rfl d2;clear d2;have t:=c0;refine⟨fun w'=>Ext w2 w',K,?_⟩;rw[jF];refine cR (pq e.vb 3) (fun w' j=>eS) ?_;refine cR (pp (e.φ m.f)) (fun w' j=>by have l:=j.ext _ _ t;have:=bn l;exact fj l) ?_;rw[jF];refine cR (pq (e.φ m.f) 3) (fun w' j=>eS) ?_;refine cR (pp (e.φ b)) (fun w' j=>by have l:=j.ext _ _ q;have:=bn l;simp (disch:=first|assumption|omega|simp only[zS]<;>omega|decide) only[zB,simprocAttr,lp,l,BA]) ?_;rw[jF];refine cR (pq e.vb 3) (fun w' j=>eS) ?_;refine cR (pp (e.φ m.f)) (fun w' j=>by have l:=j.ext _ _ t;have:=bn l;exact fj l) ?_;rw[jF];refine cR (pq (e.φ m.f) 4) (fun w' j=>eS) ?_;refine cR (zi (x.pc:Nat)) (fun w' j=>by have l:=j.ext _ _ q;have:=bn l;exact fj l) ?_;rw[jF];refine cR (pq e.vb 3) (fun w' j=>eS) ?_;refine cM @t ?_;obtain⟨r1,r2⟩:=(h.ext K).own (w':=bT w2.drew e.vb (ah #[pp e.cb,tv,zi (m.sr.fuel:Nat),pp (e.φ b),zi (x.pc:Nat),av] 116)) (f':=b) (pc':=x.pc) yF yH o9;subst hr;exact I _ _ ⟨yF,J,ρ,eC.refl _ _,_,_,_,_,_,r1⟩
end
