/- A part of one proof (SX4, ShS2, SX5, ShR2, RW2, RCon, RW3). -/
import Derived.Test.YtilpjhceemaplaaGreatDoorPkAAF
import Derived.Recover
import Derived.Tactics
import Derived.Tactics2
set_option linter.all false
set_option linter.unusedVariables false
set_option linter.unusedSimpArgs false
set_option maxRecDepth 100000
set_option maxHeartbeats 4000000
namespace Go.Proofs.YtilpjhceemaplaaGreatDoor
open Go.RowKit Sx
def SPostP(pb:Nat)(w:World)(r:P.Res (List P.Cl))(e:Ending)(w':World):Prop:=
 SFr pb w w'/\match r with
 | .err c a=>faulted c a w w' e
 | .ok cs _ _=>∃ v vs,e = .returned v/\IsSl (Nu w w') w' 112 v vs/\IsCls (Nu w w') w' vs cs
def RowSX(B:Nat)(w1:World)(v:Value)(acc:List P.Cl):Prop:=
 ∃ xs,w1.ownsRow B 112 1 v acc.length xs/\IsCls (fun b=>B≤b/\b<w1.heap.size/\some b≠v.ownBlock) w1 xs acc
theorem Tryz.infoPC:(Tryz.prog.info? 112).map (fun i=>(i.zero,i.size,i.bytes))=some (some (.pointer none),1,8):=by kernel_rfl
theorem wr_appendPC{w:World}{base n:Nat}{v:Value}{xs:List Value}(hown:w.ownsRow base 112 1 v n xs){b m:Nat}{a:Value}
  (hb:w.heap[b]?=some (.cells #[a] 112)) (h1:a.oneCell'=true)
  (hn:n≤100000) (hbase:base≤w.heap.size) {K:Value->World->Prop} {X:Value->World->Prop}
  (h:∀ v' w',w'.ownsRow base 112 1 v' (n+1) (xs++[a])->w.grownBy w' v.ownBlock->(v'.ownBlock=v.ownBlock\/∀ k,v'.ownBlock=some k->w.heap.size≤k)->K v' w') :
  WR Tryz.prog (Builtin.append_ #[95,95] 95 #[v,.slice (some ⟨b,0,none⟩) 1 m]) w K X:=by
 obtain⟨i,hi,h0⟩:=Option.map_eq_some_iff.1 Tryz.infoPC
 simp only[Prod.mk.injEq] at h0
 obtain⟨hz,hs,hbt⟩:=h0
 refine wr_append (m:=1) (t:=95) (e:=112) (by kernel_rfl) hi hz hs hbt rfl (by decide) hown hb rfl (fun u hu=>?_) (by omega) (by decide) hbase h
 simp only[List.mem_cons,List.not_mem_nil,or_false] at hu
 subst hu
 exact h1
theorem sliced_some{b o l len cap n:Nat}(h:¬ cap=l):sliced (some ⟨b,o,none⟩) l len cap n = .slice (some ⟨b,o+l*n,none⟩) (len-l) (cap-l):=by
 unfold sliced
 rw[if_neg h]
 simp [addr_add]
theorem own_frS{pb:Nat}{w w':World}(h:SFr pb w w'){base e size n:Nat}{v:Value}{xs:List Value}(hu:w.ownsRow base e size v n xs)(hb:pb<base)(he:e≠9):w'.ownsRow base e size v n xs:=by
 obtain⟨h0,hu⟩:=hu
 refine⟨h0,?_⟩
 rcases hu with hu | ⟨g,cap,cur,rfl,h1,h2,h3⟩
 ·exact .inl hu
 ·exact .inr ⟨g,cap,cur,rfl,h1,h.keep h2 (by omega) he,h3⟩
theorem own_det{w:World}{base e size n:Nat}{v:Value}{xs ys:List Value}(h:w.ownsRow base e size v n xs)(h':w.ownsRow base e size v n ys):xs=ys:=by
 rcases h.2 with⟨hv1,hn⟩| ⟨g1,c1,cur1,hv1,_,g2,_,_,_,g3⟩
 ·have l1:=h.1
  have l2:=h'.1
  rw[hn] at l1 l2
  have e1:xs=[]:=List.eq_nil_of_length_eq_zero (by simpa using l1)
  have e2:ys=[]:=List.eq_nil_of_length_eq_zero (by simpa using l2)
  rw[e1,e2]
 ·rcases h'.2 with⟨hv2,_⟩| ⟨g1',c1',cur1',hv2,_,g2',_,_,_,g3'⟩
  ·rw[hv1] at hv2;cases hv2
  ·rw[hv1] at hv2
   injection hv2 with hv2 _ _
   injection hv2 with hv2
   injection hv2 with hv2 _ _
   subst hv2
   rw[g2] at g2'
   injection g2' with g2'
   injection g2' with g2' _ _
   subst g2'
   rw[<- g3,<- g3']
theorem RowSX.more{B:Nat}{w1 w2 w3 w4:World}{pb:Nat}{v v' u:Value}{acc:List P.Cl}{x:P.Cl}(h:RowSX B w1 v acc)(h12:SFr pb w1 w2)(hpb:pb<B)(hx:IsCl (Nu w1 w2) w2 u x)(hww:B≤w1.heap.size)
  (h23:Ext w2 w3) {xs:List Value} (hxs:w3.ownsRow B 112 1 v acc.length xs) (hown':w4.ownsRow B 112 1 v' (acc.length+1) (xs++[u]))
  (hg:w3.grownBy w4 v.ownBlock) (hv:v'.ownBlock=v.ownBlock\/∀ k,v'.ownBlock=some k->w3.heap.size≤k):RowSX B w4 v' (acc++[x]):=by
 obtain⟨xs',o1,o2⟩:=h
 have s12:=h12.size
 have s23:=h23.size
 have s34:=hg.size
 have o3:w3.ownsRow B 112 1 v acc.length xs':=own_ext h23.ext (own_frS h12 o1 (by omega) (by decide))
 have e:xs'=xs:=own_det o3 hxs
 subst e
 have lt:∀ k,v.ownBlock=some k->k<w1.heap.size:=fun k hk=>(o1.lt k hk).2
 have kp34:∀ b t cs,some b≠v.ownBlock->b<w3.heap.size->w3.heap[b]?=some (.cells cs t (0,0))->w4.heap[b]?=some (.cells cs t (0,0)):=
  fun b t cs hb hl hc=>by rw[hg.block b hl hb];exact hc
 have nv:∀ b,b<w3.heap.size->some b≠v.ownBlock->some b≠v'.ownBlock:=fun b hb hne he=>by
  rcases hv with hv | hv
  ·rw[hv] at he;exact hne he
  ·have:=hv b he.symm;omega
 refine⟨_,by rw[List.length_append];exact hown',IsCls.snoc ?_ ?_⟩
 ·refine hx.mono (fun b hb=>⟨by have:=hb.1;omega,by have:=hb.2;omega,nv b (by have:=hb.2;omega) (fun e=>by have:=lt b e.symm;have:=hb.1;omega)⟩) (fun b cs t hb ht hc=>?_)
  have h2:=h23.ext _ _ hc
  exact kp34 b _ cs (fun e=>by have:=lt b e.symm;have:=hb.1;omega) (ltOf h2) h2
 ·refine IsCls.mono (F:=fun b=>B≤b/\b<w1.heap.size/\some b≠v.ownBlock) (fun b hb=>⟨hb.1,by have:=hb.2.1;omega,nv b (by have:=hb.2.1;omega) hb.2.2⟩) (fun b cs t hb ht hc=>?_) _ _ o2
  have h1:=h12.keep hc (by have:=hb.1;omega) ht
  have h2:=h23.ext _ _ h1
  exact kp34 b _ cs hb.2.2 (ltOf h2) h2
structure SClSt(pb tb:Nat)(T:List P.Tok)(B:Nat)(w:World)(q3 q:Nat)(nm:P.Bs)(r:P.Res P.Cl)(cont:List P.Ex->P.Bd->Nat->List P.Bs->Option (P.Res P.Cl))(w':World):Prop where
 fr:SFr pb w w'
 t3:∃ kd ps,w'.heap[q3]?=some (.cells #[zi kd,.string (bs nm),zi ps] 157)
 st:∃ av bv l bd k vs,w'.heap[q]?=some (.cells #[.string (bs nm),av,bv,.slice none 0 0] 132) /\
  IsSlEx (fun b=>B≤b/\b<w'.heap.size/\b≠q) w' av l/\IsBd (fun b=>B≤b/\b<w'.heap.size/\b≠q) w' bv bd/\SP w' pb tb T k vs 0/\cont l bd k vs=some r
theorem sIsB{pb tb:Nat}{T:List P.Tok}{k:Nat}{vars:List P.Bs}{d:Nat}{w:World}(h:SP w pb tb T k vars d)(s:P.Bs)(hs:s.all P.digit=false) :
  Calls Tryz.prog 55 #[pp pb,.string (bs s)] w fun e w'=>e = .returned (.bool (P.isT T k s))/\SP w' pb tb T (if P.isT T k s=true then k+1 else k) vars d/\SFr pb w w':=by
 by_cases hx:P.isT T k s=true
 ·refine Calls.mono (sIs_yes h s hx) ?_
  rintro e w' ⟨rfl,h1,h2⟩
  rw[if_pos hx,hx]
  exact⟨rfl,h1,h2⟩
 ·have hx':P.isT T k s=false:=by simpa using hx
  refine Calls.mono (sIs_no h s hx' hs) ?_
  rintro e w' ⟨rfl,rfl⟩
  rw[if_neg hx,hx']
  exact⟨rfl,h,FrM.refl _ _⟩
theorem sMustX{pb tb:Nat}{T:List P.Tok}{k:Nat}{vars:List P.Bs}{d:Nat}{w:World}(h:SP w pb tb T k vars d)(s:P.Bs)(hs:s.all P.digit=false){α:Type}(x:α){r:P.Res α}(hr:P.musT T s x k vars=some r) :
  Calls Tryz.prog 57 #[pp pb,.string (bs s)] w fun e w'=>SFr pb w w' /\
   ((e = .returned (.tuple #[])/\r = .ok x (k+1) vars/\SP w' pb tb T (k+1) vars d)\/(∃ c a,r = .err c a/\faulted c a w w' e)):=by
 unfold P.musT at hr
 split at hr
 ·rename_i hx
  refine(sMust_yes h s hx).mono ?_
  rintro e w' ⟨rfl,h1,h2⟩
  exact⟨h2,.inl ⟨rfl,(Option.some.inj hr).symm,h1⟩⟩
 ·rename_i hx
  refine(sMust_no h s (by simpa using hx) hs).mono ?_
  rintro e w' ⟨h1,h2,-⟩
  exact⟨h2,.inr ⟨_,_,(Option.some.inj hr).symm,h1⟩⟩
theorem SClSt.step{pb tb:Nat}{T:List P.Tok}{B:Nat}{w:World}{q3 q:Nat}{nm:P.Bs}{r:P.Res P.Cl}{cont':List P.Ex->P.Bd->Nat->List P.Bs->Option (P.Res P.Cl)}{w1 w2:World}(h1:SFr pb w w1)(hF:SFr pb w1 w2)
  (hl:pb<q3/\q3<B/\B≤q) (t3:∃ kd ps,w1.heap[q3]?=some (.cells #[zi kd,.string (bs nm),zi ps] 157)) {av bv:Value} {l:List P.Ex} {bd:P.Bd} {k:Nat} {vs:List P.Bs}
  (g1:w1.heap[q]?=some (.cells #[.string (bs nm),av,bv,.slice none 0 0] 132))
  (g2:IsSlEx (fun b=>B≤b/\b<w1.heap.size/\b≠q) w1 av l) (g3:IsBd (fun b=>B≤b/\b<w1.heap.size/\b≠q) w1 bv bd) (g4:SP w2 pb tb T k vs 0) (g5:cont' l bd k vs=some r):SClSt pb tb T B w q3 q nm r cont' w2:=by
 have:=hF.size
 obtain⟨kd,ps,t3⟩:=t3
 have hm:∀ b,(fun b=>B≤b/\b<w1.heap.size/\b≠q) b->(fun b=>B≤b/\b<w2.heap.size/\b≠q) b:=fun b hb=>⟨hb.1,by have:=hb.2.1;omega,hb.2.2⟩
 have hk:KeepA (fun b=>B≤b/\b<w1.heap.size/\b≠q) w1 w2:=hF.keepA fun b hb=>by have:=hb.1;omega
 exact⟨h1.trans hF,⟨kd,ps,hF.keep t3 (by omega) (by decide)⟩,av,bv,l,bd,k,vs,hF.keep g1 (by omega) (by decide),g2.mono hm hk.ast,IsBd.mono hm hk.ast _ _ g3,g4,g5⟩
theorem sProg1{pb tb:Nat}{T:List P.Tok}{w:World}(h:SP w pb tb T 0 [] 0)(hc:STabC w tb) :
  Calls Tryz.prog 52 #[.pointer (some ⟨pb,0,none⟩)] w (SPostP pb w (P.progT T)):=by
 have hlt:=h.lt
 have hpb:=h.d2.2.2
 refine sh_s_Program_c1_ok ?_
 refine⟨fun n t w2=>SFr pb w w2/\∃ f k vs acc,n=f+1/\acc.length≤40/\P.pProgG T f k acc=some (P.progT T)/\SP w2 pb tb T k vs 0/\RowSX w.heap.size w2 (t 2) acc,
  ⟨_,FrM.refl _ _,_,0,[],[],rfl,by simp,P.progT_eq T,h,[],World.ownsRow_nil _ _ _ _,rfl⟩,?_⟩
 intro n t dd w2 hI
 refine toPr ?_
 obtain⟨hF,f,k,vs,acc,rfl,ha40,hq,hP,hrow⟩:=hI
 have s12:=hF.size
 cases f with
 | zero=>rw[P.pProgG] at hq;cases hq
 | succ f=>
 rw[P.pProgG] at hq
 obtain⟨cap,va,vc,cs,h3,hc1,hc2,hlT,hkt,g0,g1,g2,g3,g4,g5⟩:=hP.x
 have l3:=ltOf h3
 have e0:((0:Nat):Int)=0:=rfl
 rw[e0] at h3
 obtain⟨xs,o1,o2⟩:=id hrow
 obtain⟨ra,rc,hv⟩:=own_slice o1
 have hcw:STabC w2 tb:=hc.fr hF hlt
 by_cases hk0:(P.tk T k).kind=0
 ·rw[if_pos hk0] at hq
  simp (disch:=first | assumption | omega | ((simp only[size_alloc,sz_drew,size_upd,List.size_toArray,List.length_cons,List.length_nil])<;>omega) | decide) only[sh_s_Program_c1,Pr,PX,PC,NX,ends,fillL,wrL,sOf,Nat.reduceAdd,Nat.reduceMul,Nat.reduceLeDiff,Nat.reduceEqDiff,Int.reduceToNat,Int.reduceAdd,Int.reduceLT,Int.reduceLE,↓reduceIte,forall_const,eq_self,zG1,zG2,al_157,bd_132,bd_163,br_95_1,fa_132_1,fa_132_2,fa_132_3,fa_157_0,fa_157_1,fa_157_2,fa_160_0,fa_160_1,ix_158,ld_155,ld_157,ld_158,ld_3,ld_41,ld_9,ln_95,sl_158,st_129,st_130,st_157,st_158,st_41,h3,g0,g3]
  rw[<- Option.some.inj hq]
  refine⟨hF,t 2,xs,rfl,own_IsSl o1 (fun b hb=>⟨(o1.lt b hb).1,(o1.lt b hb).2⟩),IsCls.mono (fun b hb=>⟨hb.1,hb.2.1⟩) (fun b cs t _ _ hc=>hc) _ _ o2⟩
 ·rw[if_neg hk0] at hq
  have hk0':¬ (((P.tk T k).kind:Nat):Int)=0:=by omega
  have hnx:=hP.tw.next hkt hk0
  simp (disch:=first | assumption | omega | ((simp only[size_alloc,sz_drew,size_upd,List.size_toArray,List.length_cons,List.length_nil])<;>omega) | decide) only[sh_s_Program_c1,Pr,PX,PC,NX,ends,fillL,wrL,sOf,Nat.reduceAdd,Nat.reduceMul,Nat.reduceLeDiff,Nat.reduceEqDiff,Int.reduceToNat,Int.reduceAdd,Int.reduceLT,Int.reduceLE,↓reduceIte,forall_const,eq_self,zG1,zG2,al_157,bd_132,bd_163,br_95_1,fa_132_1,fa_132_2,fa_132_3,fa_157_0,fa_157_1,fa_157_2,fa_160_0,fa_160_1,ix_158,ld_155,ld_157,ld_158,ld_3,ld_41,ld_9,ln_95,sl_158,st_129,st_130,st_157,st_158,st_41,h3,g0,g3,g5]
  refine⟨fun _ w3=>w3=w2/\¬ acc.length=40,?_,?_⟩
  ·by_cases h40:acc.length=40
   ·rw[if_pos h40] at hq
    have h40':((acc.length:Nat):Int)=40:=by omega
    simp (disch:=first | assumption | omega | ((simp only[size_alloc,sz_drew,size_upd,List.size_toArray,List.length_cons,List.length_nil])<;>omega) | decide) only[sh_s_Program_c1,Pr,PX,PC,NX,ends,fillL,wrL,sOf,Nat.reduceAdd,Nat.reduceMul,Nat.reduceLeDiff,Nat.reduceEqDiff,Int.reduceToNat,Int.reduceAdd,Int.reduceLT,Int.reduceLE,↓reduceIte,forall_const,eq_self,zG1,zG2,al_157,bd_132,bd_163,br_95_1,fa_132_1,fa_132_2,fa_132_3,fa_157_0,fa_157_1,fa_157_2,fa_160_0,fa_160_1,ix_158,ld_155,ld_157,ld_158,ld_3,ld_41,ld_9,ln_95,sl_158,st_129,st_130,st_157,st_158,st_41,hv]
    refine(sFail _ _ _ pb hP.sb).mono ?_
    rintro e w3 ⟨hfl,hF3,-⟩
    have hfl2:=faulted_back hfl s12
    obtain⟨b,rfl,-,-⟩:=hfl
    simp (disch:=first | assumption | omega | ((simp only[size_alloc,sz_drew,size_upd,List.size_toArray,List.length_cons,List.length_nil])<;>omega) | decide) only[sh_s_Program_c1,Pr,PX,PC,NX,ends,fillL,wrL,sOf,Nat.reduceAdd,Nat.reduceMul,Nat.reduceLeDiff,Nat.reduceEqDiff,Int.reduceToNat,Int.reduceAdd,Int.reduceLT,Int.reduceLE,↓reduceIte,forall_const,eq_self,zG1,zG2,al_157,bd_132,bd_163,br_95_1,fa_132_1,fa_132_2,fa_132_3,fa_157_0,fa_157_1,fa_157_2,fa_160_0,fa_160_1,ix_158,ld_155,ld_157,ld_158,ld_3,ld_41,ld_9,ln_95,sl_158,st_129,st_130,st_157,st_158,st_41]
    rw[<- Option.some.inj hq]
    exact⟨hF.trans hF3,hfl2⟩
   ·have h40':¬ ((acc.length:Nat):Int)=40:=by omega
    simp (disch:=first | assumption | omega | ((simp only[size_alloc,sz_drew,size_upd,List.size_toArray,List.length_cons,List.length_nil])<;>omega) | decide) only[sh_s_Program_c1,Pr,PX,PC,NX,ends,fillL,wrL,sOf,Nat.reduceAdd,Nat.reduceMul,Nat.reduceLeDiff,Nat.reduceEqDiff,Int.reduceToNat,Int.reduceAdd,Int.reduceLT,Int.reduceLE,↓reduceIte,forall_const,eq_self,zG1,zG2,al_157,bd_132,bd_163,br_95_1,fa_132_1,fa_132_2,fa_132_3,fa_157_0,fa_157_1,fa_157_2,fa_160_0,fa_160_1,ix_158,ld_155,ld_157,ld_158,ld_3,ld_41,ld_9,ln_95,sl_158,st_129,st_130,st_157,st_158,st_41,hv]
    exact h40
  ·rintro _ w3 ⟨rfl,h40⟩ _
   rw[if_neg h40] at hq
   cases hcl:P.pClause T (P.fuelFor T) k with
   | none=>rw[hcl] at hq;cases hq
   | some qc=>
   rw[hcl] at hq
   have hq5:=hP.noVars h3 hc1 hc2
   have hF5:SFr pb w3 (upd w3 pb (.cells #[.slice (some ⟨tb,k*3,none⟩) (T.length-k) (cap-k),.slice none 0 0,.int .i64 0] 160 (0,0))):=(FrM.refl _ _).upd (.inl fun _=>.inl rfl)
   have g05:(upd w3 pb (.cells #[.slice (some ⟨tb,k*3,none⟩) (T.length-k) (cap-k),.slice none 0 0,.int .i64 0] 160 (0,0))).heap[tb]?=some (.cells cs 157 (0,0)):=by rw[hp_upd_other (by omega)];exact g0
   simp (disch:=first | assumption | omega | ((simp only[size_alloc,sz_drew,size_upd,List.size_toArray,List.length_cons,List.length_nil])<;>omega) | decide) only[sh_s_Program_c1,Pr,PX,PC,NX,ends,fillL,wrL,sOf,Nat.reduceAdd,Nat.reduceMul,Nat.reduceLeDiff,Nat.reduceEqDiff,Int.reduceToNat,Int.reduceAdd,Int.reduceLT,Int.reduceLE,↓reduceIte,forall_const,eq_self,zG1,zG2,al_157,bd_132,bd_163,br_95_1,fa_132_1,fa_132_2,fa_132_3,fa_157_0,fa_157_1,fa_157_2,fa_160_0,fa_160_1,ix_158,ld_155,ld_157,ld_158,ld_3,ld_41,ld_9,ln_95,sl_158,st_129,st_130,st_157,st_158,st_41,h3,g0,g2]
   refine⟨fun _ w6=>(P.tk T k).kind=1/\SFr pb w3 w6/\SP w6 pb tb T k [] 0/\w6.heap[w3.heap.size]?=some (.cells #[.int .i64 (P.tk T k).kind,.string (bs (P.tk T k).text),.int .i64 (P.tk T k).pos] 157 (0,0))/\w6.heap.size=w3.heap.size+1 /\
    (∀ b cs t,b<w3.heap.size->b≠pb->w3.heap[b]?=some (.cells cs t (0,0))->w6.heap[b]?=some (.cells cs t (0,0))),?_,?_⟩
   ·have hX:Ext (upd w3 pb (.cells #[.slice (some ⟨tb,k*3,none⟩) (T.length-k) (cap-k),.slice none 0 0,.int .i64 0] 160 (0,0))) (upd ((upd w3 pb (.cells #[.slice (some ⟨tb,k*3,none⟩) (T.length-k) (cap-k),.slice none 0 0,.int .i64 0] 160 (0,0))).alloc (.cells #[.int .i64 0,.string (bs []),.int .i64 0] 157)) w3.heap.size (.cells #[.int .i64 (P.tk T k).kind,.string (bs (P.tk T k).text),.int .i64 (P.tk T k).pos] 157)):=by(repeat (first | assumption | exact FrM.refl _ _ | (refine FrM.upd ?_ (.inr (by(try simp only[size_alloc,sz_drew,size_upd,List.size_toArray,List.length_cons,List.length_nil])<;>omega))) | refine FrM.alloc ?_ _ | refine FrM.drew ?_))
    have hP6:=hq5.extE hX
    by_cases hk1:(P.tk T k).kind=1
    ·have hk1':(((P.tk T k).kind:Nat):Int)=1:=by omega
     simp (disch:=first | assumption | omega | ((simp only[size_alloc,sz_drew,size_upd,List.size_toArray,List.length_cons,List.length_nil])<;>omega) | decide) only[sh_s_Program_c1,Pr,PX,PC,NX,ends,fillL,wrL,sOf,Nat.reduceAdd,Nat.reduceMul,Nat.reduceLeDiff,Nat.reduceEqDiff,Int.reduceToNat,Int.reduceAdd,Int.reduceLT,Int.reduceLE,↓reduceIte,forall_const,eq_self,zG1,zG2,al_157,bd_132,bd_163,br_95_1,fa_132_1,fa_132_2,fa_132_3,fa_157_0,fa_157_1,fa_157_2,fa_160_0,fa_160_1,ix_158,ld_155,ld_157,ld_158,ld_3,ld_41,ld_9,ln_95,sl_158,st_129,st_130,st_157,st_158,st_41,g2]
     refine⟨hk1,hF5.trans hX.toM,hP6,fun b cs t hb hbp hc=>hX.ext _ _ ?_⟩
     rw[hp_upd_other hbp];exact hc
    ·have hk1':¬ (((P.tk T k).kind:Nat):Int)=1:=by omega
     rw[P.pClause,if_neg hk1] at hcl
     simp (disch:=first | assumption | omega | ((simp only[size_alloc,sz_drew,size_upd,List.size_toArray,List.length_cons,List.length_nil])<;>omega) | decide) only[sh_s_Program_c1,Pr,PX,PC,NX,ends,fillL,wrL,sOf,Nat.reduceAdd,Nat.reduceMul,Nat.reduceLeDiff,Nat.reduceEqDiff,Int.reduceToNat,Int.reduceAdd,Int.reduceLT,Int.reduceLE,↓reduceIte,forall_const,eq_self,zG1,zG2,al_157,bd_132,bd_163,br_95_1,fa_132_1,fa_132_2,fa_132_3,fa_157_0,fa_157_1,fa_157_2,fa_160_0,fa_160_1,ix_158,ld_155,ld_157,ld_158,ld_3,ld_41,ld_9,ln_95,sl_158,st_129,st_130,st_157,st_158,st_41,g2]
     refine(sNone hP6).mono ?_
     rintro e w7 ⟨hfl,hF7,-⟩
     have hfl2:=faulted_back (w:=w) hfl (by rw[size_upd,size_alloc,size_upd];omega)
     obtain⟨b,rfl,-,-⟩:=hfl
     simp (disch:=first | assumption | omega | ((simp only[size_alloc,sz_drew,size_upd,List.size_toArray,List.length_cons,List.length_nil])<;>omega) | decide) only[sh_s_Program_c1,Pr,PX,PC,NX,ends,fillL,wrL,sOf,Nat.reduceAdd,Nat.reduceMul,Nat.reduceLeDiff,Nat.reduceEqDiff,Int.reduceToNat,Int.reduceAdd,Int.reduceLT,Int.reduceLE,↓reduceIte,forall_const,eq_self,zG1,zG2,al_157,bd_132,bd_163,br_95_1,fa_132_1,fa_132_2,fa_132_3,fa_157_0,fa_157_1,fa_157_2,fa_160_0,fa_160_1,ix_158,ld_155,ld_157,ld_158,ld_3,ld_41,ld_9,ln_95,sl_158,st_129,st_130,st_157,st_158,st_41]
     rw[<- Option.some.inj hcl] at hq
     simp only[P.Res.bind,Option.some.injEq] at hq
     rw[<- hq]
     exact⟨hF.trans ((hF5.trans hX.toM).trans hF7),hfl2⟩
   ·rintro _ w6 ⟨hk1,hF6,hP6,t6,s6,k6⟩ _
    obtain⟨cap6,va6,vc6,cs6,h36,hc16,hc26,-,-,g06,-⟩:=hP6.x
    rw[e0] at h36
    have l6:=ltOf h36
    have lt6:=ltOf t6
    have hcn:¬ cap6-k=1:=by omega
    have lp6:pb<w6.heap.size:=l6
    have hB6:w.heap.size≤w3.heap.size:=s12
    simp (disch:=first | assumption | omega | ((simp only[size_alloc,sz_drew,size_upd,List.size_toArray,List.length_cons,List.length_nil])<;>omega) | decide) only[sh_s_Program_c1,Pr,PX,PC,NX,ends,fillL,wrL,sOf,Nat.reduceAdd,Nat.reduceMul,Nat.reduceLeDiff,Nat.reduceEqDiff,Int.reduceToNat,Int.reduceAdd,Int.reduceLT,Int.reduceLE,↓reduceIte,forall_const,eq_self,jn_e,nc_ptr,nc_iface,nc_func,bs_true,bs_false,bs_pos,bs_neg,bo_add,bo_sub,bo_mul,bo_lss,bo_leq,bo_gtr,bo_geq,bo_eql,bo_neq,bo_eqs,bo_nes,un_not,un_neg,rd_extract0,rd_extract1,rd_extract2,rd_panic_iface,wr_func,wr_box,ldK_e,ldV_some,xaK_some,ldN_e,stK_e,blK_some,brK_some,hp_alloc_old,hp_alloc_new,hp_upd_same,hp_upd_other,hp_drew,sz_drew,size_upd,size_alloc,upd_upd,cells_agg,cells_aggA,cells_stringA,cells_intA,cells_sliceA,cells_pointerA,cells_int,cells_bool,cells_string,cells_slice,cells_pointer,cells_iface,cells_nilIface,cells_func,cells_map,one_int,one_bool,one_string,one_slice,one_pointer,one_iface,one_nilIface,one_func,one_map,i64w,u8w,df_func,lv_ret,lv_panic,Int.toNat_natCast,Option.isNone_none,Option.isNone_some,List.getElem?_toArray,List.getElem?_cons_zero,List.getElem?_cons_succ,List.setIfInBounds_toArray,List.set_cons_zero,List.set_cons_succ,List.size_toArray,List.length_cons,List.length_nil,List.drop_zero,List.drop_succ_cons,List.take_succ_cons,List.take_zero,List.take_nil,List.drop_nil,List.all_cons,List.all_nil,Bool.and_true,Bool.true_and,Nat.zero_add,Nat.add_zero,Nat.mul_one,and_self,and_true,true_and,decide_true,decide_false,Bool.not_true,Bool.not_false,not_true_eq_false,not_false_eq_true,al_157,bd_132,bd_163,br_95_1,fa_132_1,fa_132_2,fa_132_3,fa_157_0,fa_157_1,fa_157_2,fa_160_0,fa_160_1,ix_158,ld_155,ld_157,ld_158,ld_3,ld_41,ld_9,ln_95,sl_158,st_129,st_130,st_157,st_158,st_41,h36,t6,sliced_some]
    have eq3:(upd w3 pb (.cells #[.slice (some ⟨tb,k*3,none⟩) (T.length-k) (cap-k),.slice none 0 0,.int .i64 0] 160)).heap.size=w3.heap.size:=size_upd _ _ _
    have eq:((upd w6 pb (.cells #[.slice (some ⟨tb,k*3+3,none⟩) (T.length-k-1) (cap6-k-1),.slice va6 0 vc6,.int .i64 0] 160)).alloc (.cells #[.int .u8 103,.string (bs [116,114,117,101]),.slice none 0 0,.slice none 0 0] 163)).heap.size=w6.heap.size+1:=by rw[size_alloc,size_upd]
    have hlq:pb<w3.heap.size/\w3.heap.size<w6.heap.size/\w6.heap.size≤w6.heap.size+1:=⟨by omega,by omega,by omega⟩
    have hcall:P.pClause T (P.fuelFor T) k=some qc:=hcl
    have hcw6:∀ {wz:World},SFr pb w3 wz->STabC wz tb:=fun hF2=>hc.fr (hF.trans hF2) hlt
    have hpan:∀ {wz w':World} {e:Ending} {c a:Nat},SFr pb w3 wz->SFr pb wz w'->faulted c a wz w' e->qc = .err c a->SPostP pb w (P.progT T) e w':=by
     intro wz w' e c a hF1 hF2 hfl hqc
     rw[hqc] at hq
     simp only[P.Res.bind,Option.some.injEq] at hq
     rw[<- hq]
     exact⟨hF.trans (hF1.trans hF2),faulted_back hfl (by have:=hF1.size;omega)⟩
    try rw[eq3]
    try rw[eq]
    refine⟨fun _ w'=>SClSt pb tb T w6.heap.size w3 w3.heap.size (w6.heap.size+1) (P.tk T k).text qc (pTail1 T (P.fuelFor T) (P.tk T k).text (P.tk T k).pos) w',?_,?_⟩
    ·have hP6':SP w6 pb tb T k [] 0:=hP6
     obtain⟨wA,hwA⟩:∃ wA,wA=((upd w6 pb (.cells #[.slice (some ⟨tb,k*3+3,none⟩) (T.length-k-1) (cap6-k-1),.slice va6 0 vc6,.int .i64 0] 160)).alloc (.cells #[.int .u8 103,.string (bs [116,114,117,101]),.slice none 0 0,.slice none 0 0] 163)).alloc
       (.cells #[.string (bs (P.tk T k).text),.slice none 0 0,.pointer (some ⟨w6.heap.size,0,none⟩),.slice none 0 0] 132):=⟨_,rfl⟩
     have hPA:SP wA pb tb T (k+1) [] 0:=by
      have hP7:SP (upd w6 pb (.cells #[.slice (some ⟨tb,k*3+3,none⟩) (T.length-k-1) (cap6-k-1),.slice va6 0 vc6,.int .i64 0] 160)) pb tb T (k+1) [] 0:=
       hP6'.onU (o':=k*3+3) (n':=T.length-k-1) (c':=cap6-k-1) h36 hnx (by omega) (by omega) (by omega)
      rw[hwA]
      exact hP7.extE (((FrM.refl _ _).alloc _).alloc _)
     have hFA:SFr pb w3 wA:=by
      rw[hwA]
      exact((hF6.upd (.inl fun _=>.inl rfl)).alloc _).alloc _
     have tA:wA.heap[w3.heap.size]?=some (.cells #[.int .i64 (P.tk T k).kind,.string (bs (P.tk T k).text),.int .i64 (P.tk T k).pos] 157 (0,0)):=by
      rw[hwA,hp_alloc_old (by rw[size_alloc,size_upd];omega),hp_alloc_old (by rw[size_upd];omega),hp_upd_other (by omega)]
      exact t6
     have bA:wA.heap[w6.heap.size]?=some (.cells #[.int .u8 103,.string (bs [116,114,117,101]),.slice none 0 0,.slice none 0 0] 163 (0,0)):=by
      rw[hwA,hp_alloc_old (by rw[size_alloc,size_upd];omega)]
      exact hp_alloc_new (by rw[size_upd])
     have cA:wA.heap[w6.heap.size+1]?=some (.cells #[.string (bs (P.tk T k).text),.slice none 0 0,.pointer (some ⟨w6.heap.size,0,none⟩),.slice none 0 0] 132 (0,0)):=by
      rw[hwA];exact hp_alloc_new (by rw[size_alloc,size_upd])
     have sA:wA.heap.size=w6.heap.size+2:=by rw[hwA,size_alloc,size_alloc,size_upd]
     have hbd:IsBd (fun b=>w6.heap.size≤b/\b<wA.heap.size/\b≠w6.heap.size+1) wA (.pointer (some ⟨w6.heap.size,0,none⟩)) P.trueB:=isBd_node ⟨by omega,by omega,by omega⟩ bA isSlEx_nil isSlBd_nil
     show CA _ _ _ _ _ _
     rw[<- hwA]
     refine(sIsB hPA [40] (by decide)).mono ?_
     rintro e wB ⟨rfl,hPB,hFB⟩
     rw[P.pClause,if_pos hk1] at hcl
     have sB:=hFB.size
     simp (disch:=first | assumption | omega | ((simp only[size_alloc,sz_drew,size_upd,List.size_toArray,List.length_cons,List.length_nil])<;>omega) | decide) only[sh_s_Program_c1,Pr,PX,PC,NX,ends,fillL,wrL,sOf,Nat.reduceAdd,Nat.reduceMul,Nat.reduceLeDiff,Nat.reduceEqDiff,Int.reduceToNat,Int.reduceAdd,Int.reduceLT,Int.reduceLE,↓reduceIte,forall_const,eq_self,zG1,zG2,al_157,bd_132,bd_163,br_95_1,fa_132_1,fa_132_2,fa_132_3,fa_157_0,fa_157_1,fa_157_2,fa_160_0,fa_160_1,ix_158,ld_155,ld_157,ld_158,ld_3,ld_41,ld_9,ln_95,sl_158,st_129,st_130,st_157,st_158,st_41]
     by_cases ho:P.isT T (k+1) [40]=true
     ·rw[if_pos ho] at hcl hPB
      rw[ho,bs_true]
      have tB:=hFB.keep tA (by omega) (by decide)
      have cB:=hFB.keep cA (by omega) (by decide)
      cases hqa:P.pArgs T (P.fuelFor T) (k+1+1) [] 0 (P.tk T k).pos [] with
      | none=>rw[hqa] at hcl;simp [P.Res.bind] at hcl
      | some qa=>
      rw[hqa] at hcl
      refine((cArgss _).go _ hPB (by omega) hqa).mono ?_
      intro e wC hpost
      cases qa with
      | err c a=>
       obtain⟨hfl,hFC,-⟩:=hpost
       simp only[P.Res.bind,Option.some.injEq] at hcl
       have hfin:=hpan (hFA.trans hFB) hFC hfl hcl.symm
       obtain⟨b,rfl,-,-⟩:=hfl
       simp (disch:=first | assumption | omega | ((simp only[size_alloc,sz_drew,size_upd,List.size_toArray,List.length_cons,List.length_nil])<;>omega) | decide) only[sh_s_Program_c1,Pr,PX,PC,NX,ends,fillL,wrL,sOf,Nat.reduceAdd,Nat.reduceMul,Nat.reduceLeDiff,Nat.reduceEqDiff,Int.reduceToNat,Int.reduceAdd,Int.reduceLT,Int.reduceLE,↓reduceIte,forall_const,eq_self,zG1,zG2,al_157,bd_132,bd_163,br_95_1,fa_132_1,fa_132_2,fa_132_3,fa_157_0,fa_157_1,fa_157_2,fa_160_0,fa_160_1,ix_158,ld_155,ld_157,ld_158,ld_3,ld_41,ld_9,ln_95,sl_158,st_129,st_130,st_157,st_158,st_41]
       exact hfin
      | ok l k2 vs2=>
       obtain⟨v,rfl,hv2,hPC,hFC⟩:=hpost
       simp only[P.Res.bind] at hcl
       have sC:=hFC.size
       have tC:=hFC.keep tB (by omega) (by decide)
       have cC:=hFC.keep cB (by omega) (by decide)
       have lcC:=ltOf cC
       obtain⟨aa,an,ac,rfl⟩:∃ a n c,v = .slice a n c:=by
        obtain⟨vs',h1,-⟩:=hv2
        obtain⟨a,n,c,h,-⟩:=h1.shape
        exact⟨a,n,c,h⟩
       simp (disch:=first | assumption | omega | ((simp only[size_alloc,sz_drew,size_upd,List.size_toArray,List.length_cons,List.length_nil])<;>omega) | decide) only[sh_s_Program_c1,Pr,PX,PC,NX,ends,fillL,wrL,sOf,Nat.reduceAdd,Nat.reduceMul,Nat.reduceLeDiff,Nat.reduceEqDiff,Int.reduceToNat,Int.reduceAdd,Int.reduceLT,Int.reduceLE,↓reduceIte,forall_const,eq_self,zG1,zG2,al_157,bd_132,bd_163,br_95_1,fa_132_1,fa_132_2,fa_132_3,fa_157_0,fa_157_1,fa_157_2,fa_160_0,fa_160_1,ix_158,ld_155,ld_157,ld_158,ld_3,ld_41,ld_9,ln_95,sl_158,st_129,st_130,st_157,st_158,st_41,cC]
       obtain⟨wD,hwD⟩:∃ wD,wD=upd wC (w6.heap.size+1) (.cells #[.string (bs (P.tk T k).text),.slice aa an ac,.pointer (some ⟨w6.heap.size,0,none⟩),.slice none 0 0] 132):=⟨_,rfl⟩
       rw[<- hwD]
       have hPD:SP wD pb tb T k2 vs2 0:=by rw[hwD];exact hPC.updO cC (by decide) (by omega) (by omega)
       have hFD:SFr pb w3 wD:=by rw[hwD];exact((hFA.trans hFB).trans hFC).upd (.inr (by omega))
       have tD:wD.heap[w3.heap.size]?=some (.cells #[.int .i64 (P.tk T k).kind,.string (bs (P.tk T k).text),.int .i64 (P.tk T k).pos] 157 (0,0)):=by rw[hwD,hp_upd_other (by omega)];exact tC
       have cD:wD.heap[w6.heap.size+1]?=some (.cells #[.string (bs (P.tk T k).text),.slice aa an ac,.pointer (some ⟨w6.heap.size,0,none⟩),.slice none 0 0] 132 (0,0)):=by rw[hwD];exact hp_upd_same rfl lcC
       have sD:wD.heap.size=wC.heap.size:=by rw[hwD,size_upd]
       have kD:KeepA (fun b=>w6.heap.size≤b/\b≠w6.heap.size+1) wC wD:=fun b cs t hb _ hc=>by rw[hwD,hp_upd_other hb.2];exact hc
       have hbdD:IsBd (fun b=>w6.heap.size≤b/\b<wD.heap.size/\b≠w6.heap.size+1) wD (.pointer (some ⟨w6.heap.size,0,none⟩)) P.trueB:=
        isBd_node ⟨by omega,by omega,by omega⟩ (by rw[hwD,hp_upd_other (by omega)];exact hFC.keep (hFB.keep bA (by omega) (by decide)) (by omega) (by decide)) isSlEx_nil isSlBd_nil
       have hargD:IsSlEx (fun b=>w6.heap.size≤b/\b<wD.heap.size/\b≠w6.heap.size+1) wD (.slice aa an ac) l:=
        hv2.mono (fun b hb=>⟨by have:=hb.1;omega,by have:=hb.2;omega,by have:=hb.1;omega⟩) (fun b o hb ha ho=>kD.ast b o ⟨by have:=hb.1;omega,by have:=hb.1;omega⟩ ha ho)
       cases hmu:P.musT T [41] l k2 vs2 with
       | none=>rw[hmu] at hcl;cases hcl
       | some qm=>
       rw[hmu] at hcl
       refine(sMustX hPD [41] (by decide) l hmu).mono ?_
       rintro e wE ⟨hFE,(⟨rfl,hqm,hPE⟩| ⟨c,a,hqm,hfl⟩)⟩
       ·rw[hqm] at hcl
        simp (disch:=first | assumption | omega | ((simp only[size_alloc,sz_drew,size_upd,List.size_toArray,List.length_cons,List.length_nil])<;>omega) | decide) only[sh_s_Program_c1,Pr,PX,PC,NX,ends,fillL,wrL,sOf,Nat.reduceAdd,Nat.reduceMul,Nat.reduceLeDiff,Nat.reduceEqDiff,Int.reduceToNat,Int.reduceAdd,Int.reduceLT,Int.reduceLE,↓reduceIte,forall_const,eq_self,zG1,zG2,al_157,bd_132,bd_163,br_95_1,fa_132_1,fa_132_2,fa_132_3,fa_157_0,fa_157_1,fa_157_2,fa_160_0,fa_160_1,ix_158,ld_155,ld_157,ld_158,ld_3,ld_41,ld_9,ln_95,sl_158,st_129,st_130,st_157,st_158,st_41]
        exact SClSt.step hFD hFE hlq ⟨_,_,tD⟩ cD hargD hbdD hPE hcl
       ·rw[hqm] at hcl
        simp only[Option.some.injEq] at hcl
        have hfin:=hpan hFD hFE hfl hcl.symm
        obtain⟨b,rfl,-,-⟩:=hfl
        simp (disch:=first | assumption | omega | ((simp only[size_alloc,sz_drew,size_upd,List.size_toArray,List.length_cons,List.length_nil])<;>omega) | decide) only[sh_s_Program_c1,Pr,PX,PC,NX,ends,fillL,wrL,sOf,Nat.reduceAdd,Nat.reduceMul,Nat.reduceLeDiff,Nat.reduceEqDiff,Int.reduceToNat,Int.reduceAdd,Int.reduceLT,Int.reduceLE,↓reduceIte,forall_const,eq_self,zG1,zG2,al_157,bd_132,bd_163,br_95_1,fa_132_1,fa_132_2,fa_132_3,fa_157_0,fa_157_1,fa_157_2,fa_160_0,fa_160_1,ix_158,ld_155,ld_157,ld_158,ld_3,ld_41,ld_9,ln_95,sl_158,st_129,st_130,st_157,st_158,st_41]
        exact hfin
     ·rw[if_neg ho] at hcl hPB
      have ho':P.isT T (k+1) [40]=false:=by simpa using ho
      rw[ho',bs_false]
      exact SClSt.step hFA hFB hlq ⟨_,_,tA⟩ cA isSlEx_nil hbd hPB hcl
    ·rintro _ w7 hS _
     obtain⟨kd7,ps7,t7⟩:=hS.t3
     have hF7:=hS.fr
     obtain⟨av,bv,l,bd,k7,vs7,g7,ga,gb,hP7,hc7⟩:=hS.st
     generalize (P.tk T k).text=nm at *
     generalize (P.tk T k).pos=pos at *
     refine⟨fun _ w'=>SClSt pb tb T w6.heap.size w3 w3.heap.size (w6.heap.size+1) nm qc (pTail2 T (P.fuelFor T) nm) w',?_,?_⟩
     ·refine⟨fun s w'=>w'=w7/\s 72 = .bool (decide (0≤P.tests nm\/nm=[109,111,100])),?_,?_⟩
      ·simp (disch:=first | assumption | omega | ((simp only[size_alloc,sz_drew,size_upd,List.size_toArray,List.length_cons,List.length_nil])<;>omega) | decide) only[sh_s_Program_c1,Pr,PX,PC,NX,ends,fillL,wrL,sOf,Nat.reduceAdd,Nat.reduceMul,Nat.reduceLeDiff,Nat.reduceEqDiff,Int.reduceToNat,Int.reduceAdd,Int.reduceLT,Int.reduceLE,↓reduceIte,forall_const,eq_self,zG1,zG2,al_157,bd_132,bd_163,br_95_1,fa_132_1,fa_132_2,fa_132_3,fa_157_0,fa_157_1,fa_157_2,fa_160_0,fa_160_1,ix_158,ld_155,ld_157,ld_158,ld_3,ld_41,ld_9,ln_95,sl_158,st_129,st_130,st_157,st_158,st_41,t7]
       refine(sTests _).mono ?_
       rintro e w8 ⟨rfl,rfl⟩
       simp (disch:=first | assumption | omega | ((simp only[size_alloc,sz_drew,size_upd,List.size_toArray,List.length_cons,List.length_nil])<;>omega) | decide) only[sh_s_Program_c1,Pr,PX,PC,NX,ends,fillL,wrL,sOf,Nat.reduceAdd,Nat.reduceMul,Nat.reduceLeDiff,Nat.reduceEqDiff,Int.reduceToNat,Int.reduceAdd,Int.reduceLT,Int.reduceLE,↓reduceIte,forall_const,eq_self,zG1,zG2,al_157,bd_132,bd_163,br_95_1,fa_132_1,fa_132_2,fa_132_3,fa_157_0,fa_157_1,fa_157_2,fa_160_0,fa_160_1,ix_158,ld_155,ld_157,ld_158,ld_3,ld_41,ld_9,ln_95,sl_158,st_129,st_130,st_157,st_158,st_41,t7,bs_dec]
       by_cases b2:0≤P.tests nm<;>by_cases b3:nm=[109,111,100]<;>simp [b2,b3,sOf]
      ·rintro s8 w8 ⟨rfl,hs8⟩ _
       rw[hs8]
       by_cases hb:0≤P.tests nm\/nm=[109,111,100]
       ·rw[bs_pos _ _ hb]
        rw[pTail1,if_pos hb] at hc7
        refine(sFail _ _ _ pb hP7.sb).mono ?_
        rintro e w9 ⟨hfl,hF9,-⟩
        have hfin:=hpan hF7 hF9 hfl (Option.some.inj hc7).symm
        obtain⟨b,rfl,-,-⟩:=hfl
        simp (disch:=first | assumption | omega | ((simp only[size_alloc,sz_drew,size_upd,List.size_toArray,List.length_cons,List.length_nil])<;>omega) | decide) only[sh_s_Program_c1,Pr,PX,PC,NX,ends,fillL,wrL,sOf,Nat.reduceAdd,Nat.reduceMul,Nat.reduceLeDiff,Nat.reduceEqDiff,Int.reduceToNat,Int.reduceAdd,Int.reduceLT,Int.reduceLE,↓reduceIte,forall_const,eq_self,zG1,zG2,al_157,bd_132,bd_163,br_95_1,fa_132_1,fa_132_2,fa_132_3,fa_157_0,fa_157_1,fa_157_2,fa_160_0,fa_160_1,ix_158,ld_155,ld_157,ld_158,ld_3,ld_41,ld_9,ln_95,sl_158,st_129,st_130,st_157,st_158,st_41]
        exact hfin
       ·rw[bs_neg _ _ hb]
        rw[pTail1,if_neg hb] at hc7
        exact SClSt.step hF7 (FrM.refl _ _) hlq ⟨_,_,t7⟩ g7 ga gb hP7 hc7
     ·clear hc7 hP7 gb ga g7 hF7 t7 hS
      rintro _ w8 hS _
      obtain⟨kd7,ps7,t7⟩:=hS.t3
      have hF7:=hS.fr
      obtain⟨av,bv,l,bd,k7,vs7,g7,ga,gb,hP7,hc7⟩:=hS.st
      refine⟨fun _ w'=>SClSt pb tb T w6.heap.size w3 w3.heap.size (w6.heap.size+1) nm qc (fun l bd k vs=>P.musT T [46] ⟨nm,l,bd,vs⟩ k vs) w',?_,?_⟩
      ·refine(sIsB hP7 [58,45] (by decide)).mono ?_
       rintro e w9 ⟨rfl,hP9,hF9⟩
       simp (disch:=first | assumption | omega | ((simp only[size_alloc,sz_drew,size_upd,List.size_toArray,List.length_cons,List.length_nil])<;>omega) | decide) only[sh_s_Program_c1,Pr,PX,PC,NX,ends,fillL,wrL,sOf,Nat.reduceAdd,Nat.reduceMul,Nat.reduceLeDiff,Nat.reduceEqDiff,Int.reduceToNat,Int.reduceAdd,Int.reduceLT,Int.reduceLE,↓reduceIte,forall_const,eq_self,zG1,zG2,al_157,bd_132,bd_163,br_95_1,fa_132_1,fa_132_2,fa_132_3,fa_157_0,fa_157_1,fa_157_2,fa_160_0,fa_160_1,ix_158,ld_155,ld_157,ld_158,ld_3,ld_41,ld_9,ln_95,sl_158,st_129,st_130,st_157,st_158,st_41]
       by_cases ho:P.isT T k7 [58,45]=true
       ·rw[pTail2,if_pos ho] at hc7
        rw[if_pos ho] at hP9
        rw[ho,bs_true]
        cases hb:P.pBody T (P.fuelFor T) (k7+1) vs7 0 with
        | none=>rw[hb] at hc7;simp [P.Res.bind] at hc7
        | some qb=>
        rw[hb] at hc7
        refine((cBodies _).go hP9 (hcw6 (hF7.trans hF9)) (by omega) hb).mono ?_
        intro e wA hpost
        cases qb with
        | err c a=>
         obtain⟨hfl,hFA,-⟩:=hpost
         simp only[P.Res.bind,Option.some.injEq] at hc7
         have hfin:=hpan (hF7.trans hF9) hFA hfl hc7.symm
         obtain⟨b,rfl,-,-⟩:=hfl
         simp (disch:=first | assumption | omega | ((simp only[size_alloc,sz_drew,size_upd,List.size_toArray,List.length_cons,List.length_nil])<;>omega) | decide) only[sh_s_Program_c1,Pr,PX,PC,NX,ends,fillL,wrL,sOf,Nat.reduceAdd,Nat.reduceMul,Nat.reduceLeDiff,Nat.reduceEqDiff,Int.reduceToNat,Int.reduceAdd,Int.reduceLT,Int.reduceLE,↓reduceIte,forall_const,eq_self,zG1,zG2,al_157,bd_132,bd_163,br_95_1,fa_132_1,fa_132_2,fa_132_3,fa_157_0,fa_157_1,fa_157_2,fa_160_0,fa_160_1,ix_158,ld_155,ld_157,ld_158,ld_3,ld_41,ld_9,ln_95,sl_158,st_129,st_130,st_157,st_158,st_41]
         exact hfin
        | ok bd2 k2 vs2=>
         obtain⟨v,rfl,hv2,hPA,hFA⟩:=hpost
         simp only[P.Res.bind] at hc7
         have s9:=hF9.size
         have sA:=hFA.size
         have t9:=SFr.keep (hF9.trans hFA) t7 (by omega) (by decide)
         have g9:=SFr.keep (hF9.trans hFA) g7 (by omega) (by decide)
         have lg9:=ltOf g9
         have lg7:=ltOf g7
         obtain⟨vb,rfl,hvb⟩:=hv2.shape
         simp (disch:=first | assumption | omega | ((simp only[size_alloc,sz_drew,size_upd,List.size_toArray,List.length_cons,List.length_nil])<;>omega) | decide) only[sh_s_Program_c1,Pr,PX,PC,NX,ends,fillL,wrL,sOf,Nat.reduceAdd,Nat.reduceMul,Nat.reduceLeDiff,Nat.reduceEqDiff,Int.reduceToNat,Int.reduceAdd,Int.reduceLT,Int.reduceLE,↓reduceIte,forall_const,eq_self,zG1,zG2,al_157,bd_132,bd_163,br_95_1,fa_132_1,fa_132_2,fa_132_3,fa_157_0,fa_157_1,fa_157_2,fa_160_0,fa_160_1,ix_158,ld_155,ld_157,ld_158,ld_3,ld_41,ld_9,ln_95,sl_158,st_129,st_130,st_157,st_158,st_41,g9]
         obtain⟨wD,hwD⟩:∃ wD,wD=upd wA (w6.heap.size+1) (.cells #[.string (bs nm),av,.pointer (some ⟨vb,0,none⟩),.slice none 0 0] 132):=⟨_,rfl⟩
         rw[<- hwD]
         have hPD:SP wD pb tb T k2 vs2 0:=by rw[hwD];exact hPA.updO g9 (by decide) (by omega) (by omega)
         have hFD:SFr pb w3 wD:=by rw[hwD];exact((hF7.trans hF9).trans hFA).upd (.inr (by omega))
         have tD:wD.heap[w3.heap.size]?=some (.cells #[.int .i64 kd7,.string (bs nm),.int .i64 ps7] 157 (0,0)):=by rw[hwD,hp_upd_other (by omega)];exact t9
         have cD:wD.heap[w6.heap.size+1]?=some (.cells #[.string (bs nm),av,.pointer (some ⟨vb,0,none⟩),.slice none 0 0] 132 (0,0)):=by rw[hwD];exact hp_upd_same rfl lg9
         have sD:wD.heap.size=wA.heap.size:=by rw[hwD,size_upd]
         have kD:KeepA (fun b=>w6.heap.size≤b/\b≠w6.heap.size+1) wA wD:=fun b cs t hb _ hc=>by rw[hwD,hp_upd_other hb.2];exact hc
         have k9:KeepA (fun b=>w6.heap.size≤b/\b≠w6.heap.size+1) w8 wA:=SFr.keepA (hF9.trans hFA) fun b hb=>by have:=hb.1;omega
         have hargD:IsSlEx (fun b=>w6.heap.size≤b/\b<wD.heap.size/\b≠w6.heap.size+1) wD av l:=
          ga.mono (fun b hb=>⟨hb.1,by have:=hb.2.1;omega,hb.2.2⟩) (fun b o hb ha ho=>kD.ast b o ⟨hb.1,hb.2.2⟩ ha (k9.ast b o ⟨hb.1,hb.2.2⟩ ha ho))
         have hbdD:IsBd (fun b=>w6.heap.size≤b/\b<wD.heap.size/\b≠w6.heap.size+1) wD (.pointer (some ⟨vb,0,none⟩)) bd2:=
          IsBd.mono (fun b hb=>⟨by have:=hb.1;omega,by have:=hb.2;omega,by have:=hb.1;omega⟩) (fun b o hb ha ho=>kD.ast b o ⟨by have:=hb.1;omega,by have:=hb.1;omega⟩ ha ho) _ _ hv2
         exact SClSt.step hFD (FrM.refl _ _) hlq ⟨_,_,tD⟩ cD hargD hbdD hPD hc7
       ·rw[pTail2,if_neg ho] at hc7
        rw[if_neg ho] at hP9
        have ho':P.isT T k7 [58,45]=false:=by simpa using ho
        rw[ho',bs_false]
        exact SClSt.step hF7 hF9 hlq ⟨_,_,t7⟩ g7 ga gb hP9 hc7
      ·clear hc7 hP7 gb ga g7 hF7 t7 hS
       rintro _ w9 hS _
       obtain⟨kd7,ps7,t7⟩:=hS.t3
       have hF7:=hS.fr
       obtain⟨av,bv,l,bd,k7,vs7,g7,ga,gb,hP7,hc7⟩:=hS.st
       refine(sMustX hP7 [46] (by decide) _ hc7).mono ?_
       rintro e wE ⟨hFE,(⟨rfl,hqm,hPE⟩| ⟨c,a,hqm,hfl⟩)⟩
       ·obtain⟨capE,vaE,vcE,csE,h3E,-⟩:=hPE.x
        have sE:=hFE.size
        have gE:=hFE.keep g7 (by omega) (by decide)
        have lgE:=ltOf gE
        have lg7:=ltOf g7
        obtain⟨vb,rfl,hvb⟩:=gb.shape
        obtain⟨aa,an,ac,rfl⟩:∃ a n c,av = .slice a n c:=by
         obtain⟨vs',h1,-⟩:=ga
         obtain⟨a,n,c,h,-⟩:=h1.shape
         exact⟨a,n,c,h⟩
        simp (disch:=first | assumption | omega | ((simp only[size_alloc,sz_drew,size_upd,List.size_toArray,List.length_cons,List.length_nil])<;>omega) | decide) only[sh_s_Program_c1,Pr,PX,PC,NX,ends,fillL,wrL,sOf,Nat.reduceAdd,Nat.reduceMul,Nat.reduceLeDiff,Nat.reduceEqDiff,Int.reduceToNat,Int.reduceAdd,Int.reduceLT,Int.reduceLE,↓reduceIte,forall_const,eq_self,zG1,zG2,al_157,bd_132,bd_163,br_95_1,fa_132_1,fa_132_2,fa_132_3,fa_157_0,fa_157_1,fa_157_2,fa_160_0,fa_160_1,ix_158,ld_155,ld_157,ld_158,ld_3,ld_41,ld_9,ln_95,sl_158,st_129,st_130,st_157,st_158,st_41,h3E,gE]
        obtain⟨wG,hwG⟩:∃ wG,wG=upd wE (w6.heap.size+1) (.cells #[.string (bs nm),.slice aa an ac,.pointer (some ⟨vb,0,none⟩),.slice vaE vs7.length vcE] 132):=⟨_,rfl⟩
        rw[<- hwG]
        have hF3E:SFr pb w3 wE:=hF7.trans hFE
        have hPG:SP wG pb tb T (k7+1) vs7 0:=by rw[hwG];exact hPE.updO gE (by decide) (by omega) (by omega)
        have hF3G:SFr pb w3 wG:=by rw[hwG];exact hF3E.upd (.inr (by omega))
        have gG:wG.heap[w6.heap.size+1]?=some (.cells #[.string (bs nm),.slice aa an ac,.pointer (some ⟨vb,0,none⟩),.slice vaE vs7.length vcE] 132 (0,0)):=by rw[hwG];exact hp_upd_same rfl lgE
        have sG:wG.heap.size=wE.heap.size:=by rw[hwG,size_upd]
        have kG:KeepA (fun b=>w6.heap.size≤b/\b≠w6.heap.size+1) w9 wG:=fun b cs t hb ht hc=>by
         rw[hwG,hp_upd_other hb.2]
         exact hFE.keep hc (by have:=hb.1;omega) ht
        have argG:IsSlEx (fun b=>w6.heap.size≤b/\b<wG.heap.size) wG (.slice aa an ac) l:=
         ga.mono (fun b hb=>⟨hb.1,by have:=hb.2.1;omega⟩) (fun b o hb ha ho=>kG.ast b o ⟨hb.1,hb.2.2⟩ ha ho)
        have bdG:IsBd (fun b=>w6.heap.size≤b/\b<wG.heap.size) wG (.pointer (some ⟨vb,0,none⟩)) bd:=
         IsBd.mono (fun b hb=>⟨hb.1,by have:=hb.2.1;omega⟩) (fun b o hb ha ho=>kG.ast b o ⟨hb.1,hb.2.2⟩ ha ho) _ _ gb
        rw[hqm] at hq
        simp only[P.Res.bind] at hq
        have clG:IsCl (fun b=>w6.heap.size≤b/\b<wG.heap.size) wG (.pointer (some ⟨w6.heap.size+1,0,none⟩)) ⟨nm,l,bd,vs7⟩:=
         ⟨w6.heap.size+1,_,_,vaE,vcE,rfl,⟨by omega,by omega⟩,gG,argG,bdG⟩
        have hX:Ext wG (wG.alloc (.cells #[.pointer (some ⟨w6.heap.size+1,0,none⟩)] 112)):=(FrM.refl _ _).alloc _
        have own5:=own_ext hX.ext (own_frS hF3G (hv ▸ o1) (by omega) (by decide))
        rw[hv]
        refine wr_appendPC own5 (hp_alloc_new (by rw[hwG,size_upd])) rfl (by omega) (by have:=hX.size;omega) ?_
        intro v' w10 hown6 hg6 hv6
        have hF10:SFr pb w w10:=((hF.trans hF3G).trans hX.toM).grow hg6 (fun kk hkk=>(own5.lt kk hkk).1)
        simp (disch:=first | assumption | omega | ((simp only[size_alloc,sz_drew,size_upd,List.size_toArray,List.length_cons,List.length_nil])<;>omega) | decide) only[sh_s_Program_c1,Pr,PX,PC,NX,ends,fillL,wrL,sOf,Nat.reduceAdd,Nat.reduceMul,Nat.reduceLeDiff,Nat.reduceEqDiff,Int.reduceToNat,Int.reduceAdd,Int.reduceLT,Int.reduceLE,↓reduceIte,forall_const,eq_self,zG1,zG2,al_157,bd_132,bd_163,br_95_1,fa_132_1,fa_132_2,fa_132_3,fa_157_0,fa_157_1,fa_157_2,fa_160_0,fa_160_1,ix_158,ld_155,ld_157,ld_158,ld_3,ld_41,ld_9,ln_95,sl_158,st_129,st_130,st_157,st_158,st_41]
        refine⟨f+1,by omega,hF10,f,k7+1,vs7,acc++[⟨nm,l,bd,vs7⟩],rfl,by simp;omega,hq,(hPG.extE hX).grownRow own5 (by decide) (by omega) hg6,?_⟩
        rw[hv] at hrow
        exact hrow.more hF3G (by omega) (clG.mono (fun b hb=>⟨by have:=hb.1;omega,hb.2⟩) (fun b cs t _ _ hc=>hc)) (by omega) hX own5 hown6 hg6 hv6
       ·have hfin:=hpan hF7 hFE hfl hqm
        obtain⟨b,rfl,-,-⟩:=hfl
        simp (disch:=first | assumption | omega | ((simp only[size_alloc,sz_drew,size_upd,List.size_toArray,List.length_cons,List.length_nil])<;>omega) | decide) only[sh_s_Program_c1,Pr,PX,PC,NX,ends,fillL,wrL,sOf,Nat.reduceAdd,Nat.reduceMul,Nat.reduceLeDiff,Nat.reduceEqDiff,Int.reduceToNat,Int.reduceAdd,Int.reduceLT,Int.reduceLE,↓reduceIte,forall_const,eq_self,zG1,zG2,al_157,bd_132,bd_163,br_95_1,fa_132_1,fa_132_2,fa_132_3,fa_157_0,fa_157_1,fa_157_2,fa_160_0,fa_160_1,ix_158,ld_155,ld_157,ld_158,ld_3,ld_41,ld_9,ln_95,sl_158,st_129,st_130,st_157,st_158,st_41]
        exact hfin
end Go.Proofs.YtilpjhceemaplaaGreatDoor
namespace Go.Proofs.YtilpjhceemaplaaGreatDoor
open Go.Proofs.YtilpjhceemaplaaGreatDoor.Sx
section
variable{p0 p1 p2 p3 p4 p5 p6 p7:Value}{w:World}{R:Ending->World->Prop}
def sh_s_caught_LPs_Clause(p0 p1:Value)(w:World)(R:Ending->World->Prop):Prop:=
 ywA 95 w (fun v wz=>LV Tryz.prog (fun wz=>RD Tryz.prog (Instr.loadAt 95 undef) wz (fun r=>RD Tryz.prog (Instr.loadAt 57 undef) wz (fun r_1=>R (.returned (.tuple #[r,r_1])) wz) NX) NX) R [] (.panicking [{ v,recovered:=false }]) wz) fun x4 w1=>
 ywA 57 w1 (fun v wz=>LV Tryz.prog (fun wz=>RD Tryz.prog (Instr.loadAt 95 x4) wz (fun r_4=>RD Tryz.prog (Instr.loadAt 57 undef) wz (fun r_5=>R (.returned (.tuple #[r_4,r_5])) wz) NX) NX) R [] (.panicking [{ v,recovered:=false }]) wz) fun x5 v1=>
 WR Tryz.prog (Instr.makeFunc (.func 91) #[] #[x4,x5]) v1 (fun x7 v2=>
 DF x7 (fun ff fx fy=>
 CA Tryz.prog 92 #[p0] v2 (fun x9 v3=>
 yrD 160 #[(0,x9)] v3 (fun v wz=>LV Tryz.prog (fun wz=>RD Tryz.prog (Instr.loadAt 95 x4) wz (fun r_20=>RD Tryz.prog (Instr.loadAt 57 x5) wz (fun r_21=>R (.returned (.tuple #[r_20,r_21])) wz) NX) NX) R [{ target:=.fn ff fy,args:=fx++#[] }] (.panicking [{ v,recovered:=false }]) wz) fun x10=>
 ywB 160 x10 v3 (fun v wz=>LV Tryz.prog (fun wz=>RD Tryz.prog (Instr.loadAt 95 x4) wz (fun r_24=>RD Tryz.prog (Instr.loadAt 57 x5) wz (fun r_25=>R (.returned (.tuple #[r_24,r_25])) wz) NX) NX) R [{ target:=.fn ff fy,args:=fx++#[] }] (.panicking [{ v,recovered:=false }]) wz) fun x11 v4=>
 CV Tryz.prog p1 #[x11] v4 (fun x14 v5=>
 yuS 95 x4 x14 v5 (fun v wz=>LV Tryz.prog (fun wz=>RD Tryz.prog (Instr.loadAt 95 x4) wz (fun r_32=>RD Tryz.prog (Instr.loadAt 57 x5) wz (fun r_33=>R (.returned (.tuple #[r_32,r_33])) wz) NX) NX) R [{ target:=.fn ff fy,args:=fx++#[] }] (.panicking [{ v,recovered:=false }]) wz) fun v6=>
 yuS 57 x5 .nilIface v6 (fun v wz=>LV Tryz.prog (fun wz=>RD Tryz.prog (Instr.loadAt 95 x4) wz (fun r_36=>RD Tryz.prog (Instr.loadAt 57 x5) wz (fun r_37=>R (.returned (.tuple #[r_36,r_37])) wz) NX) NX) R [{ target:=.fn ff fy,args:=fx++#[] }] (.panicking [{ v,recovered:=false }]) wz) fun v7=>
 LV Tryz.prog (fun wz=>nrL 95 x4 wz fun r_40=>nrL 57 x5 wz fun r_41=>R (.returned (.tuple #[r_40,r_41])) wz) R [{ target:=.fn ff fy,args:=fx++#[] }] .returning v7) (fun ch wz=>LV Tryz.prog (fun wz=>nrL 95 x4 wz fun r_30=>nrL 57 x5 wz fun r_31=>R (.returned (.tuple #[r_30,r_31])) wz) R [{ target:=.fn ff fy,args:=fx++#[] }] (.panicking ch) wz)) (fun ch wz=>LV Tryz.prog (fun wz=>RD Tryz.prog (Instr.loadAt 95 x4) wz (fun r_18=>RD Tryz.prog (Instr.loadAt 57 x5) wz (fun r_19=>R (.returned (.tuple #[r_18,r_19])) wz) NX) NX) R [{ target:=.fn ff fy,args:=fx++#[] }] (.panicking ch) wz))) (fun v wz=>LV Tryz.prog (fun wz=>RD Tryz.prog (Instr.loadAt 95 x4) wz (fun r_8=>RD Tryz.prog (Instr.loadAt 57 x5) wz (fun r_9=>R (.returned (.tuple #[r_8,r_9])) wz) NX) NX) R [] (.panicking [{ v,recovered:=false }]) wz)
theorem sh_s_caught_LPs_Clause_ok(h:sh_s_caught_LPs_Clause p0 p1 w R):Calls Tryz.prog 51 #[p0,p1] w R:=
 callsEqD (args:=[p0,p1]) (good (fun _=>[]) (fun _=>none) (fun _=>0) (fun _=>none) (fun _=>[]) (fun _=>[]) (fun _=>false) (fun _=>false)) Tryz.func51 rfl (by kernel_rfl) (Nat.le_of_ble_eq_true (by kernel_rfl)) [] (by kernel_rfl) h
def sh_s_caught_Ps_Clause(p0 p1:Value)(w:World)(R:Ending->World->Prop):Prop:=
 ywA 112 w (fun v wz=>LV Tryz.prog (fun wz=>RD Tryz.prog (Instr.loadAt 112 undef) wz (fun r=>RD Tryz.prog (Instr.loadAt 57 undef) wz (fun r_1=>R (.returned (.tuple #[r,r_1])) wz) NX) NX) R [] (.panicking [{ v,recovered:=false }]) wz) fun x4 w1=>
 ywA 57 w1 (fun v wz=>LV Tryz.prog (fun wz=>RD Tryz.prog (Instr.loadAt 112 x4) wz (fun r_4=>RD Tryz.prog (Instr.loadAt 57 undef) wz (fun r_5=>R (.returned (.tuple #[r_4,r_5])) wz) NX) NX) R [] (.panicking [{ v,recovered:=false }]) wz) fun x5 v1=>
 WR Tryz.prog (Instr.makeFunc (.func 100) #[] #[x4,x5]) v1 (fun x7 v2=>
 DF x7 (fun ff fx fy=>
 CA Tryz.prog 92 #[p0] v2 (fun x9 v3=>
 yrD 160 #[(0,x9)] v3 (fun v wz=>LV Tryz.prog (fun wz=>RD Tryz.prog (Instr.loadAt 112 x4) wz (fun r_20=>RD Tryz.prog (Instr.loadAt 57 x5) wz (fun r_21=>R (.returned (.tuple #[r_20,r_21])) wz) NX) NX) R [{ target:=.fn ff fy,args:=fx++#[] }] (.panicking [{ v,recovered:=false }]) wz) fun x10=>
 ywB 160 x10 v3 (fun v wz=>LV Tryz.prog (fun wz=>RD Tryz.prog (Instr.loadAt 112 x4) wz (fun r_24=>RD Tryz.prog (Instr.loadAt 57 x5) wz (fun r_25=>R (.returned (.tuple #[r_24,r_25])) wz) NX) NX) R [{ target:=.fn ff fy,args:=fx++#[] }] (.panicking [{ v,recovered:=false }]) wz) fun x11 v4=>
 CV Tryz.prog p1 #[x11] v4 (fun x14 v5=>
 yuS 112 x4 x14 v5 (fun v wz=>LV Tryz.prog (fun wz=>RD Tryz.prog (Instr.loadAt 112 x4) wz (fun r_32=>RD Tryz.prog (Instr.loadAt 57 x5) wz (fun r_33=>R (.returned (.tuple #[r_32,r_33])) wz) NX) NX) R [{ target:=.fn ff fy,args:=fx++#[] }] (.panicking [{ v,recovered:=false }]) wz) fun v6=>
 yuS 57 x5 .nilIface v6 (fun v wz=>LV Tryz.prog (fun wz=>RD Tryz.prog (Instr.loadAt 112 x4) wz (fun r_36=>RD Tryz.prog (Instr.loadAt 57 x5) wz (fun r_37=>R (.returned (.tuple #[r_36,r_37])) wz) NX) NX) R [{ target:=.fn ff fy,args:=fx++#[] }] (.panicking [{ v,recovered:=false }]) wz) fun v7=>
 LV Tryz.prog (fun wz=>nrL 112 x4 wz fun r_40=>nrL 57 x5 wz fun r_41=>R (.returned (.tuple #[r_40,r_41])) wz) R [{ target:=.fn ff fy,args:=fx++#[] }] .returning v7) (fun ch wz=>LV Tryz.prog (fun wz=>nrL 112 x4 wz fun r_30=>nrL 57 x5 wz fun r_31=>R (.returned (.tuple #[r_30,r_31])) wz) R [{ target:=.fn ff fy,args:=fx++#[] }] (.panicking ch) wz)) (fun ch wz=>LV Tryz.prog (fun wz=>RD Tryz.prog (Instr.loadAt 112 x4) wz (fun r_18=>RD Tryz.prog (Instr.loadAt 57 x5) wz (fun r_19=>R (.returned (.tuple #[r_18,r_19])) wz) NX) NX) R [{ target:=.fn ff fy,args:=fx++#[] }] (.panicking ch) wz))) (fun v wz=>LV Tryz.prog (fun wz=>RD Tryz.prog (Instr.loadAt 112 x4) wz (fun r_8=>RD Tryz.prog (Instr.loadAt 57 x5) wz (fun r_9=>R (.returned (.tuple #[r_8,r_9])) wz) NX) NX) R [] (.panicking [{ v,recovered:=false }]) wz)
theorem sh_s_caught_Ps_Clause_ok(h:sh_s_caught_Ps_Clause p0 p1 w R):Calls Tryz.prog 68 #[p0,p1] w R:=
 callsEqD (args:=[p0,p1]) (good (fun _=>[]) (fun _=>none) (fun _=>0) (fun _=>none) (fun _=>[]) (fun _=>[]) (fun _=>false) (fun _=>false)) Tryz.func68 rfl (by kernel_rfl) (Nat.le_of_ble_eq_true (by kernel_rfl)) [] (by kernel_rfl) h
end
end Go.Proofs.YtilpjhceemaplaaGreatDoor
namespace Go.Proofs.YtilpjhceemaplaaGreatDoor
open Go.RowKit Sx
theorem Tryz.taNil(w:World):(Instr.typeAssert .nilIface 20 100 true).run Tryz.prog w = .ok (.tuple #[.pointer none,.bool false]) w:=by kernel_rfl
theorem Tryz.taAt(v:Value)(w:World):(Instr.typeAssert (.iface 100 v) 20 100 true).run Tryz.prog w = .ok (.tuple #[v,.bool true]) w:=by kernel_rfl
theorem sCatchIdle(v4 v5:Value)(w:World):CallsD Tryz.prog 91 #[v4,v5] .returning w fun e u' w'=>e = .returned (.tuple #[])/\u' = .returning/\w'=w:=by
 refine callsD_of_wpS Tryz.func91 rfl fun c₀ cs hu=>?_
 apply wpS_seq
 apply wpS_region
 simp [wpOpsS,go_sem,recoverD,hu,Tryz.ntmps91,Exit.thenS,Tryz.taNil]
 apply wpS_seq
 apply wpS_region
 simp [wpOpsS,go_sem,recoverD,hu,Tryz.ntmps91,Exit.thenS]
 refine wpS_cond (t:=false) (by simp [Act.eval]) ?_
 simp only[Bool.false_eq_true,if_false]
 refine wpS_of_wp (wp_skip ?_)
 cases c₀
 simp_all [bodyPostS,results,Tryz.results91]
theorem sCatchAt(b4 b5:Nat)(o4 o5:Value)(v:Value)(older:List PanicEntry)(w:World)(h4:w.cell? ⟨b4,0,none⟩=some o4)(z4:w.frozen? ⟨b4,0,none⟩=false)
  (h5:(w.setCell ⟨b4,0,none⟩ (.slice none 0 0)).cell? ⟨b5,0,none⟩=some o5) (z5:(w.setCell ⟨b4,0,none⟩ (.slice none 0 0)).frozen? ⟨b5,0,none⟩=false) :
  CallsD Tryz.prog 91 #[pp b4,pp b5] (.panicking ({ v:=.iface 100 v,recovered:=false }::older)) w fun e u' w'=>
   e = .returned (.tuple #[])/\u' = .panicking ({ v:=.iface 100 v,recovered:=true }::older)/\w'=(w.setCell ⟨b4,0,none⟩ (.slice none 0 0)).setCell ⟨b5,0,none⟩ (.iface 100 v):=by
 refine callsD_of_wpS Tryz.func91 rfl fun c₀ cs hu=>?_
 apply wpS_seq
 apply wpS_region
 simp [wpOpsS,go_sem,recoverD,hu,Tryz.ntmps91,Exit.thenS,Tryz.taAt]
 apply wpS_seq
 apply wpS_region
 simp [wpOpsS,go_sem,recoverD,hu,Tryz.ntmps91,Exit.thenS]
 refine wpS_cond (t:=true) (by simp [Act.eval]) ?_
 simp only[if_true]
 apply wpS_seq
 apply wpS_region
 simp [wpOpsS,go_sem,recoverD,hu,Tryz.ntmps91,Exit.thenS]
 apply wpS_region
 simp [wpOpsS,go_sem,recoverD,hu,Tryz.ntmps91,Exit.thenS,h4,z4,h5,z5]
 simp [bodyPostS,results,Tryz.results91]
end Go.Proofs.YtilpjhceemaplaaGreatDoor
namespace Go.Proofs.YtilpjhceemaplaaGreatDoor
open Go.Proofs.YtilpjhceemaplaaGreatDoor.Sx
section
variable{p0 p1 p2 p3 p4 p5 p6 p7:Value}{w:World}{R:Ending->World->Prop}
def sh_Pr_parser_variable(p0 p1:Value)(w:World)(R:Ending->World->Prop):Prop:=
 WR Tryz.prog (Instr.box 69 p1) w (fun x3 w1=>
 WR Tryz.prog (Instr.alloc 111 true (.tuple #[])) w1 (fun x4 w1_1=>
 LoopW (fun rec s d w1_2=>
  NC p0 fun x8=>
  RD Tryz.prog (Instr.fieldAt 67 x8 2) w1_2 (fun x9=>
  RD Tryz.prog (Instr.loadAt 41 x9) w1_2 (fun x10=>
  RD Tryz.prog (Builtin.len_ #[41] 3 #[x10]) w1_2 (fun x11=>
  RD Tryz.prog (bo .lss 3 (.tmp 6) (.tmp 11) (s 5) x11) w1_2 (fun x12=>BS x12 (
  RD Tryz.prog (Instr.fieldAt 69 x3 1) w1_2 (fun x14=>
  RD Tryz.prog (Instr.loadAt 9 x14) w1_2 (fun x15=>
  RD Tryz.prog (bo .neq 9 (.tmp 15) (.const (.string (bs [95]))) x15 (.string (bs [95]))) w1_2 (fun x16=>
  BS x16 (NC p0 fun x21=>
  RD Tryz.prog (Instr.fieldAt 67 x21 2) w1_2.drew (fun x22=>
  RD Tryz.prog (Instr.loadAt 41 x22) w1_2.drew (fun x23=>
  RD Tryz.prog (Instr.indexAt 41 x23 (s 5)) w1_2.drew (fun x25=>
  RD Tryz.prog (Instr.loadAt 9 x25) w1_2.drew (fun x26=>
  RD Tryz.prog (Instr.fieldAt 69 x3 1) w1_2.drew (fun x27=>
  RD Tryz.prog (Instr.loadAt 9 x27) w1_2.drew (fun x28=>
  RD Tryz.prog (bo .eql 9 (.tmp 26) (.tmp 28) x26 x28) w1_2.drew (fun x29=>
  BS x29 (RD Tryz.prog (Instr.build 111 #[(0,(.int .u8 118)),(3,(s 5))]) w1_2.drew (fun x31=>
  WU Tryz.prog (Instr.storeAt 111 x4 x31) w1_2.drew (fun w1_3=>
  RD Tryz.prog (Instr.loadAt 111 x4) w1_3 (fun r=>R (.returned r) w1_3) NX) (PX R)) (PX R)) (RD Tryz.prog (bo .add 3 (.tmp 18) (.const (.int .i64 1)) (s 5) (.int .i64 1)) w1_2.drew (fun x19=>
  rec (sOf [(5,x19)]) w1_2.drew) (PX R))) NX) NX) NX) NX) NX) NX) NX) (JN (fun j=>
  NC p0 fun x33=>
  RD Tryz.prog (Instr.fieldAt 67 x33 2) w1_2 (fun x34=>
  RD Tryz.prog (Instr.loadAt 41 x34) w1_2 (fun x35=>
  RD Tryz.prog (Builtin.len_ #[41] 3 #[x35]) w1_2 (fun x36=>
  RD Tryz.prog (bo .eql 3 (.tmp 36) (.const (.int .i64 12)) x36 (.int .i64 12)) w1_2 (fun x37=>
  BS x37 (RD Tryz.prog (Instr.fieldAt 69 x3 2) w1_2 (fun x39=>
  RD Tryz.prog (Instr.loadAt 3 x39) w1_2 (fun x40=>
  CA Tryz.prog 17 #[p0,(.int .i64 4),x40] w1_2 (fun x41 w1_5=>
  j (sOf []) w1_5) (PC R)) (PX R)) (PX R)) (j (sOf []) w1_2)) (PX R)) (PX R)) (PX R)) (PX R))
  (fun s_1 d_1 w1_4=>
  HD fun S=>S w1_4.drew /\
  NC p0 fun x44=>
  RDS Tryz.prog (Instr.fieldAt 67 x44 2) S (fun x45=>
  RDS Tryz.prog (Instr.loadAt 41 x45) S (fun x46=>
  RD Tryz.prog (Instr.fieldAt 69 x3 1) w1_4.drew (fun x47=>
  RD Tryz.prog (Instr.loadAt 9 x47) w1_4.drew (fun x48=>
  WR Tryz.prog (Instr.buildSlice 41 1 #[(0,x48)]) w1_4.drew (fun x49 w1_6=>
  S w1_6 /\
  WR Tryz.prog (Builtin.append_ #[41,41] 41 #[x46,x49]) w1_6 (fun x50 w1_7=>
  S w1_7 /\
  NC p0 fun x51=>
  RD Tryz.prog (Instr.fieldAt 67 x51 2) w1_7 (fun x52=>
  WU Tryz.prog (Instr.storeAt 41 x52 x50) w1_7 (fun w1_8=>
  NC p0 fun x54=>
  RD Tryz.prog (Instr.fieldAt 67 x54 2) w1_8 (fun x55=>
  RD Tryz.prog (Instr.loadAt 41 x55) w1_8 (fun x56=>
  RD Tryz.prog (Builtin.len_ #[41] 3 #[x56]) w1_8 (fun x57=>
  RD Tryz.prog (bo .sub 3 (.tmp 57) (.const (.int .i64 1)) x57 (.int .i64 1)) w1_8 (fun x58=>
  RD Tryz.prog (Instr.build 111 #[(0,(.int .u8 118)),(3,x58)]) w1_8 (fun x59=>
  WU Tryz.prog (Instr.storeAt 111 x4 x59) w1_8 (fun w1_9=>
  RD Tryz.prog (Instr.loadAt 111 x4) w1_9 (fun r_1=>R (.returned r_1) w1_9) NX) (PX R)) (PX R)) (PX R)) (PX R)) (PX R)) (PX R)) NX) NX) NX) NX) NX) NX))))) (PX R)) (PX R)) (PX R)) (
  BS (.bool false) (NC p0 fun x21_1=>
  RD Tryz.prog (Instr.fieldAt 67 x21_1 2) w1_2.drew (fun x22_1=>
  RD Tryz.prog (Instr.loadAt 41 x22_1) w1_2.drew (fun x23_1=>
  RD Tryz.prog (Instr.indexAt 41 x23_1 (s 5)) w1_2.drew (fun x25_1=>
  RD Tryz.prog (Instr.loadAt 9 x25_1) w1_2.drew (fun x26_1=>
  RD Tryz.prog (Instr.fieldAt 69 x3 1) w1_2.drew (fun x27_1=>
  RD Tryz.prog (Instr.loadAt 9 x27_1) w1_2.drew (fun x28_1=>
  RD Tryz.prog (bo .eql 9 (.tmp 26) (.tmp 28) x26_1 x28_1) w1_2.drew (fun x29_1=>
  BS x29_1 (RD Tryz.prog (Instr.build 111 #[(0,(.int .u8 118)),(3,(s 5))]) w1_2.drew (fun x31_1=>
  WU Tryz.prog (Instr.storeAt 111 x4 x31_1) w1_2.drew (fun w1_10=>
  RD Tryz.prog (Instr.loadAt 111 x4) w1_10 (fun r_2=>R (.returned r_2) w1_10) NX) (PX R)) (PX R)) (RD Tryz.prog (bo .add 3 (.tmp 18) (.const (.int .i64 1)) (s 5) (.int .i64 1)) w1_2.drew (fun x19_1=>
  rec (sOf [(5,x19_1)]) w1_2.drew) (PX R))) NX) NX) NX) NX) NX) NX) NX) (JN (fun j_1=>
  NC p0 fun x33_1=>
  RD Tryz.prog (Instr.fieldAt 67 x33_1 2) w1_2 (fun x34_1=>
  RD Tryz.prog (Instr.loadAt 41 x34_1) w1_2 (fun x35_1=>
  RD Tryz.prog (Builtin.len_ #[41] 3 #[x35_1]) w1_2 (fun x36_1=>
  RD Tryz.prog (bo .eql 3 (.tmp 36) (.const (.int .i64 12)) x36_1 (.int .i64 12)) w1_2 (fun x37_1=>
  BS x37_1 (RD Tryz.prog (Instr.fieldAt 69 x3 2) w1_2 (fun x39_1=>
  RD Tryz.prog (Instr.loadAt 3 x39_1) w1_2 (fun x40_1=>
  CA Tryz.prog 17 #[p0,(.int .i64 4),x40_1] w1_2 (fun x41_1 w1_12=>
  j_1 (sOf []) w1_12) (PC R)) (PX R)) (PX R)) (j_1 (sOf []) w1_2)) (PX R)) (PX R)) (PX R)) (PX R))
  (fun s_2 d_2 w1_11=>
  HD fun S_1=>S_1 w1_11.drew /\
  NC p0 fun x44_1=>
  RDS Tryz.prog (Instr.fieldAt 67 x44_1 2) S_1 (fun x45_1=>
  RDS Tryz.prog (Instr.loadAt 41 x45_1) S_1 (fun x46_1=>
  RD Tryz.prog (Instr.fieldAt 69 x3 1) w1_11.drew (fun x47_1=>
  RD Tryz.prog (Instr.loadAt 9 x47_1) w1_11.drew (fun x48_1=>
  WR Tryz.prog (Instr.buildSlice 41 1 #[(0,x48_1)]) w1_11.drew (fun x49_1 w1_13=>
  S_1 w1_13 /\
  WR Tryz.prog (Builtin.append_ #[41,41] 41 #[x46_1,x49_1]) w1_13 (fun x50_1 w1_14=>
  S_1 w1_14 /\
  NC p0 fun x51_1=>
  RD Tryz.prog (Instr.fieldAt 67 x51_1 2) w1_14 (fun x52_1=>
  WU Tryz.prog (Instr.storeAt 41 x52_1 x50_1) w1_14 (fun w1_15=>
  NC p0 fun x54_1=>
  RD Tryz.prog (Instr.fieldAt 67 x54_1 2) w1_15 (fun x55_1=>
  RD Tryz.prog (Instr.loadAt 41 x55_1) w1_15 (fun x56_1=>
  RD Tryz.prog (Builtin.len_ #[41] 3 #[x56_1]) w1_15 (fun x57_1=>
  RD Tryz.prog (bo .sub 3 (.tmp 57) (.const (.int .i64 1)) x57_1 (.int .i64 1)) w1_15 (fun x58_1=>
  RD Tryz.prog (Instr.build 111 #[(0,(.int .u8 118)),(3,x58_1)]) w1_15 (fun x59_1=>
  WU Tryz.prog (Instr.storeAt 111 x4 x59_1) w1_15 (fun w1_16=>
  RD Tryz.prog (Instr.loadAt 111 x4) w1_16 (fun r_3=>R (.returned r_3) w1_16) NX) (PX R)) (PX R)) (PX R)) (PX R)) (PX R)) (PX R)) NX) NX) NX) NX) NX) NX)))))) (PX R)) (PX R)) (PX R)) (PX R))
  (sOf [(5,(.int .i64 0))]) w1_1) (PX R)) (PX R)
theorem sh_Pr_parser_variable_ok(h:sh_Pr_parser_variable p0 p1 w R):Calls Tryz.prog 175 #[p0,p1] w R:=
 cq (args:=[p0,p1]) (good (zL [(2,[5])]) (zO [(7001,[])]) (zN [(4,10)]) (zO [(8,[12,0,1,2,3,4,5,6,7,8,9,10,11])]) (zL [(2,[])]) (zL [(7001,[])]) (fun _=>false) (zT [16,17,29,37])) Tryz.func175 rfl (by kernel_rfl) (by kernel_rfl) h
def sh_r_value(p0:Value)(w:World)(R:Ending->World->Prop):Prop:=
 LoopW (fun rec s d w1=>
 xrN 9 p0 w1 R fun x7=>
 xrT .lss 3 5 7 (s 4) x7 w1 R fun x8=>
 BS x8 (RD Tryz.prog (bo .mul 2 (.const (.int .i64 10)) (.tmp 11) (.int .i64 10) (s 3)) w1 (fun x12=>
 RD Tryz.prog (Instr.index 9 p0 (s 4)) w1 (fun x15=>
 xrO .sub 5 15 x15 (.int .u8 48) w1 R fun x16=>
 WR Tryz.prog (convert 5 2 x16) w1 (fun x17 v1=>
 xrT .add 2 12 17 x12 x17 v1 R fun x18=>
 xrO .add 3 9 (s 4) (.int .i64 1) v1 R fun x10=>
 rec (sOf [(3,x18),(4,x10)]) v1) (PX R)) (PX R)) (PX R)) (R (.returned (s 3)) w1))
 (sOf [(3,(.int .i64 0)),(4,(.int .i64 0))]) w
theorem sh_r_value_ok(h:sh_r_value p0 w R):Calls Tryz.prog 174 #[p0] w R:=
 cq (args:=[p0]) (good (zL [(3,[3,4])]) (fun _=>none) (fun _=>0) (fun _=>none) (zL [(3,[])]) (fun _=>[]) (fun _=>false) (zT [8])) Tryz.func174 rfl (by kernel_rfl) (by kernel_rfl) h
def sh_Pr_parser_bare(p0:Value)(w:World)(R:Ending->World->Prop):Prop:=
 xwA 111 w R fun x2 w1=>
 xC 16 #[p0] w1 R fun x13 v1=>
 xwA 69 v1 R fun x3 v2=>
 xuS 69 x3 x13 v2 R fun v3=>
 xG 69 0 5 x3 v3 R fun x15=>
 xrO .eql 5 15 x15 (.int .u8 110) v3 R fun x17=>
 BS x17 (xH 67 1 3 p0 v3 R fun x21=>
 xrO .add 3 21 x21 (.int .i64 1) v3 R fun x22=>
 NC p0 fun x23=>
 xrF 67 x23 1 v3 R fun x24=>
 xuS 3 x24 x22 v3 R fun v4=>
 xG 69 1 9 x3 v4 R fun x26=>
 xC 174 #[x26] v4 R fun x27 v5=>
 xrD 111 #[(0,(.int .u8 110)),(2,x27)] v5 R fun x29=>
 xuS 111 x2 x29 v5 R fun v6=>
 nrL 111 x2 v6 fun r=>R (.returned r) v6) (xrO .eql 5 15 x15 (.int .u8 118) v3 R fun x31=>
 BS x31 (xH 67 1 3 p0 v3 R fun x35=>
 xrO .add 3 35 x35 (.int .i64 1) v3 R fun x36=>
 NC p0 fun x37=>
 xrF 67 x37 1 v3 R fun x38=>
 xuS 3 x38 x36 v3 R fun v7=>
 xrL 69 x3 v7 R fun x40=>
 xC 175 #[p0,x40] v7 R fun x41 v8=>
 xuS 111 x2 x41 v8 R fun v9=>
 nrL 111 x2 v9 fun r_1=>R (.returned r_1) v9) (xrO .eql 5 15 x15 (.int .u8 97) v3 R fun x43=>
 BS x43 (xH 67 1 3 p0 v3 R fun x47=>
 xrO .add 3 47 x47 (.int .i64 1) v3 R fun x48=>
 NC p0 fun x49=>
 xrF 67 x49 1 v3 R fun x50=>
 xuS 3 x50 x48 v3 R fun v10=>
 xG 69 1 9 x3 v10 R fun x52=>
 xrD 111 #[(0,(.int .u8 97)),(1,x52)] v10 R fun x53=>
 xwA 111 v10 R fun x5 v11=>
 xuS 111 x5 x53 v11 R fun v12=>
 xC 34 #[p0,(.string (bs [40]))] v12 R fun x55 v13=>
 JN (fun j=>
 BS x55 (xrF 111 x5 0 v13 R fun x57=>
 xuS 5 x57 (.int .u8 99) v13 R fun v15=>
 xG 69 2 3 x3 v15 R fun x60=>
 xC 35 #[p0,x60] v15 R fun x61 v16=>
 xrF 111 x5 4 v16 R fun x62=>
 xuS 37 x62 x61 v16 R fun v17=>
 xC 23 #[p0,(.string (bs [41]))] v17 R fun x64 v18=>
 j (sOf []) v18) (j (sOf []) v13))
 (fun s d v14=>
 xrL 111 x5 v14 R fun x65=>
 xuS 111 x2 x65 v14 R fun v19=>
 nrL 111 x2 v19 fun r_2=>R (.returned r_2) v19)) (xC 34 #[p0,(.string (bs [45]))] v3 R fun x67 v20=>
 BS x67 (xC 16 #[p0] v20 R fun x70 v21=>
 xuS 69 x3 x70 v21 R fun v22=>
 xG 69 0 5 x3 v22 R fun x72=>
 xrO .neq 5 72 x72 (.int .u8 110) v22 R fun x73=>
 BS x73 (xC 33 #[p0] v22 R fun x75 v23=>
 xrD 111 #[] v23 R fun x76=>
 xuS 111 x2 x76 v23 R fun v24=>
 nrL 111 x2 v24 fun r_3=>R (.returned r_3) v24) (xH 67 1 3 p0 v22 R fun x80=>
 xrO .add 3 80 x80 (.int .i64 1) v22 R fun x81=>
 NC p0 fun x82=>
 xrF 67 x82 1 v22 R fun x83=>
 xuS 3 x83 x81 v22 R fun v25=>
 xG 69 1 9 x3 v25 R fun x85=>
 xC 174 #[x85] v25 R fun x86 v26=>
 RD Tryz.prog (Op.unary .neg x86) v26 (fun x88=>
 xrD 111 #[(0,(.int .u8 110)),(2,x88)] v26 R fun x89=>
 xuS 111 x2 x89 v26 R fun v27=>
 nrL 111 x2 v27 fun r_4=>R (.returned r_4) v27) (PX R))) (xC 34 #[p0,(.string (bs [40]))] v20 R fun x91 v28=>
 BS x91 (xC 67 #[p0] v28 R fun x94 v29=>
 xwA 111 v29 R fun x10 v30=>
 xuS 111 x10 x94 v30 R fun v31=>
 xC 23 #[p0,(.string (bs [41]))] v31 R fun x96 v32=>
 xrL 111 x10 v32 R fun x97=>
 xuS 111 x2 x97 v32 R fun v33=>
 nrL 111 x2 v33 fun r_5=>R (.returned r_5) v33) (xC 34 #[p0,(.string (bs [91]))] v28 R fun x99 v34=>
 BS x99 (xC 176 #[p0] v34 R fun x102 v35=>
 xuS 111 x2 x102 v35 R fun v36=>
 nrL 111 x2 v36 fun r_6=>R (.returned r_6) v36) (xC 33 #[p0] v34 R fun x104 v37=>
 xrD 111 #[] v37 R fun x105=>
 xuS 111 x2 x105 v37 R fun v38=>
 nrL 111 x2 v38 fun r_7=>R (.returned r_7) v38))))))
theorem sh_Pr_parser_bare_ok(h:sh_Pr_parser_bare p0 w R):Calls Tryz.prog 149 #[p0] w R:=
 cq (args:=[p0]) (good (fun _=>[]) (zO [(17003,[])]) (fun _=>0) (fun _=>none) (fun _=>[]) (zL [(17003,[])]) (fun _=>false) (zT [6,7,9,11,16,17,30,31,42,43,55,56,67,68,73,91,92,99,100])) Tryz.func149 rfl (by kernel_rfl) (by kernel_rfl) h
def sh_Pr_parser_args(p0 p1:Value)(w:World)(R:Ending->World->Prop):Prop:=
 LoopW (fun rec s d w1=>
 BS (s 6) (xC 67 #[p0] w1 R fun x10 v1=>
 xwA 111 v1 R fun x7 v2=>
 xuS 111 x7 x10 v2 R fun v3=>
 xrL 111 x7 v3 R fun x12=>
 WR Tryz.prog (Instr.buildSlice 37 1 #[(0,x12)]) v3 (fun x13 v4=>
 WR Tryz.prog (Builtin.append_ #[37,37] 37 #[(s 5),x13]) v4 (fun x14 v5=>
 xC 34 #[p0,(.string (bs [44]))] v5 R fun x16 v6=>
 rec (sOf [(5,x14),(6,x16)]) v6) (PX R)) (PX R)) (JN (fun j=>
 xrN 37 ((s 5)) w1 R fun x18=>
 xrO .gtr 3 18 x18 (.int .i64 4) w1 R fun x19=>
 BS x19 (xC 17 #[p0,(.int .i64 4),p1] w1 R fun x22 v8=>
 j (sOf []) v8) (j (sOf []) w1))
 (fun s_1 d_1 v7=>
 R (.returned (s 5)) v7)))
 (sOf [(5,(.slice none 0 0)),(6,(.bool true))]) w
theorem sh_Pr_parser_args_ok(h:sh_Pr_parser_args p0 p1 w R):Calls Tryz.prog 35 #[p0,p1] w R:=
 cq (args:=[p0,p1]) (good (zL [(3,[5,6])]) (zO [(8001,[])]) (fun _=>0) (fun _=>none) (zL [(3,[])]) (zL [(8001,[])]) (fun _=>false) (zT [6,8,16,19])) Tryz.func35 rfl (by kernel_rfl) (by kernel_rfl) h
def sh_Pr_parser_product(p0:Value)(w:World)(R:Ending->World->Prop):Prop:=
 xwA 111 w R fun x2 w1=>
 xC 129 #[p0] w1 R fun x7 v1=>
 xwA 111 v1 R fun x3 v2=>
 xuS 111 x3 x7 v2 R fun v3=>
 JN (fun j=>
 LoopW (fun rec s_1 d_1 v5=>
 xH 67 4 32 p0 v5 R fun x11=>
 xrO .eql 32 11 x11 (.int .i64 0) v5 R fun x12=>
 BS x12 (xC 16 #[p0] v5 R fun x14 v6=>
 xwA 69 v6 R fun x4 v7=>
 xuS 69 x4 x14 v7 R fun v8=>
 xG 69 0 5 x4 v8 R fun x16=>
 xrO .neq 5 16 x16 (.int .u8 115) v8 R fun x17=>BS x17 (
 xG 69 0 5 x4 v8 R fun x30=>
 xrO .neq 5 30 x30 (.int .u8 97) v8 R fun x31=>BS x31 (
 BS (.bool true) (j (sOf []) v8) (xH 67 1 3 p0 v8 R fun x41=>
 xrO .add 3 41 x41 (.int .i64 1) v8 R fun x42=>
 NC p0 fun x43=>
 xrF 67 x43 1 v8 R fun x44=>
 xuS 3 x44 x42 v8 R fun v9=>
 xC 129 #[p0] v9 R fun x46 v10=>
 xwA 111 v10 R fun x5 v11=>
 xuS 111 x5 x46 v11 R fun v12=>
 xG 69 1 9 x4 v12 R fun x48=>
 xrL 111 x3 v12 R fun x49=>
 xrL 111 x5 v12 R fun x50=>
 WR Tryz.prog (Instr.buildSlice 37 2 #[(0,x49),(1,x50)]) v12 (fun x51 v13=>
 xrD 111 #[(0,(.int .u8 99)),(1,x48),(4,x51)] v13 R fun x52=>
 xuS 111 x3 x52 v13 R fun v14=>
 rec (sOf []) v14) (PX R))) (
 xG 69 1 9 x4 v8 R fun x34=>
 xrO .neq 9 34 x34 (.string (bs [109,111,100])) v8 R fun x35=>
 BS x35 (j (sOf []) v8) (xH 67 1 3 p0 v8 R fun x41_1=>
 xrO .add 3 41 x41_1 (.int .i64 1) v8 R fun x42_1=>
 NC p0 fun x43_1=>
 xrF 67 x43_1 1 v8 R fun x44_1=>
 xuS 3 x44_1 x42_1 v8 R fun v15=>
 xC 129 #[p0] v15 R fun x46_1 v16=>
 xwA 111 v16 R fun x5_1 v17=>
 xuS 111 x5_1 x46_1 v17 R fun v18=>
 xG 69 1 9 x4 v18 R fun x48_1=>
 xrL 111 x3 v18 R fun x49_1=>
 xrL 111 x5_1 v18 R fun x50_1=>
 WR Tryz.prog (Instr.buildSlice 37 2 #[(0,x49_1),(1,x50_1)]) v18 (fun x51_1 v19=>
 xrD 111 #[(0,(.int .u8 99)),(1,x48_1),(4,x51_1)] v19 R fun x52_1=>
 xuS 111 x3 x52_1 v19 R fun v20=>
 rec (sOf []) v20) (PX R)))) (
 xG 69 1 9 x4 v8 R fun x20=>
 xrO .neq 9 20 x20 (.string (bs [42])) v8 R fun x21=>BS x21 (
 xG 69 1 9 x4 v8 R fun x24=>
 xrO .neq 9 24 x24 (.string (bs [47,47])) v8 R fun x25=>BS x25 (
 xG 69 0 5 x4 v8 R fun x30_1=>
 xrO .neq 5 30 x30_1 (.int .u8 97) v8 R fun x31_1=>BS x31_1 (
 BS (.bool true) (j (sOf []) v8) (xH 67 1 3 p0 v8 R fun x41_2=>
 xrO .add 3 41 x41_2 (.int .i64 1) v8 R fun x42_2=>
 NC p0 fun x43_2=>
 xrF 67 x43_2 1 v8 R fun x44_2=>
 xuS 3 x44_2 x42_2 v8 R fun v21=>
 xC 129 #[p0] v21 R fun x46_2 v22=>
 xwA 111 v22 R fun x5_2 v23=>
 xuS 111 x5_2 x46_2 v23 R fun v24=>
 xG 69 1 9 x4 v24 R fun x48_2=>
 xrL 111 x3 v24 R fun x49_2=>
 xrL 111 x5_2 v24 R fun x50_2=>
 WR Tryz.prog (Instr.buildSlice 37 2 #[(0,x49_2),(1,x50_2)]) v24 (fun x51_2 v25=>
 xrD 111 #[(0,(.int .u8 99)),(1,x48_2),(4,x51_2)] v25 R fun x52_2=>
 xuS 111 x3 x52_2 v25 R fun v26=>
 rec (sOf []) v26) (PX R))) (
 xG 69 1 9 x4 v8 R fun x34_1=>
 xrO .neq 9 34 x34_1 (.string (bs [109,111,100])) v8 R fun x35_1=>
 BS x35_1 (j (sOf []) v8) (xH 67 1 3 p0 v8 R fun x41_3=>
 xrO .add 3 41 x41_3 (.int .i64 1) v8 R fun x42_3=>
 NC p0 fun x43_3=>
 xrF 67 x43_3 1 v8 R fun x44_3=>
 xuS 3 x44_3 x42_3 v8 R fun v27=>
 xC 129 #[p0] v27 R fun x46_3 v28=>
 xwA 111 v28 R fun x5_3 v29=>
 xuS 111 x5_3 x46_3 v29 R fun v30=>
 xG 69 1 9 x4 v30 R fun x48_3=>
 xrL 111 x3 v30 R fun x49_3=>
 xrL 111 x5_3 v30 R fun x50_3=>
 WR Tryz.prog (Instr.buildSlice 37 2 #[(0,x49_3),(1,x50_3)]) v30 (fun x51_3 v31=>
 xrD 111 #[(0,(.int .u8 99)),(1,x48_3),(4,x51_3)] v31 R fun x52_3=>
 xuS 111 x3 x52_3 v31 R fun v32=>
 rec (sOf []) v32) (PX R)))) (
 BS (.bool false) (j (sOf []) v8) (xH 67 1 3 p0 v8 R fun x41_4=>
 xrO .add 3 41 x41_4 (.int .i64 1) v8 R fun x42_4=>
 NC p0 fun x43_4=>
 xrF 67 x43_4 1 v8 R fun x44_4=>
 xuS 3 x44_4 x42_4 v8 R fun v33=>
 xC 129 #[p0] v33 R fun x46_4 v34=>
 xwA 111 v34 R fun x5_4 v35=>
 xuS 111 x5_4 x46_4 v35 R fun v36=>
 xG 69 1 9 x4 v36 R fun x48_4=>
 xrL 111 x3 v36 R fun x49_4=>
 xrL 111 x5_4 v36 R fun x50_4=>
 WR Tryz.prog (Instr.buildSlice 37 2 #[(0,x49_4),(1,x50_4)]) v36 (fun x51_4 v37=>
 xrD 111 #[(0,(.int .u8 99)),(1,x48_4),(4,x51_4)] v37 R fun x52_4=>
 xuS 111 x3 x52_4 v37 R fun v38=>
 rec (sOf []) v38) (PX R)))) (
 BS (.bool false) (j (sOf []) v8) (xH 67 1 3 p0 v8 R fun x41_5=>
 xrO .add 3 41 x41_5 (.int .i64 1) v8 R fun x42_5=>
 NC p0 fun x43_5=>
 xrF 67 x43_5 1 v8 R fun x44_5=>
 xuS 3 x44_5 x42_5 v8 R fun v39=>
 xC 129 #[p0] v39 R fun x46_5 v40=>
 xwA 111 v40 R fun x5_5 v41=>
 xuS 111 x5_5 x46_5 v41 R fun v42=>
 xG 69 1 9 x4 v42 R fun x48_5=>
 xrL 111 x3 v42 R fun x49_5=>
 xrL 111 x5_5 v42 R fun x50_5=>
 WR Tryz.prog (Instr.buildSlice 37 2 #[(0,x49_5),(1,x50_5)]) v42 (fun x51_5 v43=>
 xrD 111 #[(0,(.int .u8 99)),(1,x48_5),(4,x51_5)] v43 R fun x52_5=>
 xuS 111 x3 x52_5 v43 R fun v44=>
 rec (sOf []) v44) (PX R))))) (j (sOf []) v5))
 (sOf []) v3)
 (fun s d v4=>
 xrL 111 x3 v4 R fun x53=>
 xuS 111 x2 x53 v4 R fun v45=>
 nrL 111 x2 v45 fun r=>R (.returned r) v45)
theorem sh_Pr_parser_product_ok(h:sh_Pr_parser_product p0 w R):Calls Tryz.prog 99 #[p0] w R:=
 cq (args:=[p0]) (good (zL [(2,[])]) (zO [(7005,[])]) (fun _=>0) (fun _=>none) (zL [(2,[])]) (zL [(7005,[])]) (fun _=>false) (zT [12,35,36,37])) Tryz.func99 rfl (by kernel_rfl) (by kernel_rfl) h
def sh_Pr_parser_expr(p0:Value)(w:World)(R:Ending->World->Prop):Prop:=
 xwA 111 w R fun x2 w1=>
 xC 99 #[p0] w1 R fun x7 v1=>
 xwA 111 v1 R fun x3 v2=>
 xuS 111 x3 x7 v2 R fun v3=>
 JN (fun j=>
 LoopW (fun rec s_1 d_1 v5=>
 xH 67 4 32 p0 v5 R fun x11=>
 xrO .eql 32 11 x11 (.int .i64 0) v5 R fun x12=>
 BS x12 (xC 16 #[p0] v5 R fun x14 v6=>
 xwA 69 v6 R fun x4 v7=>
 xuS 69 x4 x14 v7 R fun v8=>
 xG 69 0 5 x4 v8 R fun x16=>
 xrO .neq 5 16 x16 (.int .u8 115) v8 R fun x17=>BS x17 (
 BS (.bool true) (j (sOf []) v8) (xH 67 1 3 p0 v8 R fun x31=>
 xrO .add 3 31 x31 (.int .i64 1) v8 R fun x32=>
 NC p0 fun x33=>
 xrF 67 x33 1 v8 R fun x34=>
 xuS 3 x34 x32 v8 R fun v9=>
 xC 99 #[p0] v9 R fun x36 v10=>
 xwA 111 v10 R fun x5 v11=>
 xuS 111 x5 x36 v11 R fun v12=>
 xG 69 1 9 x4 v12 R fun x38=>
 xrL 111 x3 v12 R fun x39=>
 xrL 111 x5 v12 R fun x40=>
 WR Tryz.prog (Instr.buildSlice 37 2 #[(0,x39),(1,x40)]) v12 (fun x41 v13=>
 xrD 111 #[(0,(.int .u8 99)),(1,x38),(4,x41)] v13 R fun x42=>
 xuS 111 x3 x42 v13 R fun v14=>
 rec (sOf []) v14) (PX R))) (
 xG 69 1 9 x4 v8 R fun x20=>
 xrO .neq 9 20 x20 (.string (bs [43])) v8 R fun x21=>BS x21 (
 xG 69 1 9 x4 v8 R fun x24=>
 xrO .neq 9 24 x24 (.string (bs [45])) v8 R fun x25=>
 BS x25 (j (sOf []) v8) (xH 67 1 3 p0 v8 R fun x31_1=>
 xrO .add 3 31 x31_1 (.int .i64 1) v8 R fun x32_1=>
 NC p0 fun x33_1=>
 xrF 67 x33_1 1 v8 R fun x34_1=>
 xuS 3 x34_1 x32_1 v8 R fun v15=>
 xC 99 #[p0] v15 R fun x36_1 v16=>
 xwA 111 v16 R fun x5_1 v17=>
 xuS 111 x5_1 x36_1 v17 R fun v18=>
 xG 69 1 9 x4 v18 R fun x38_1=>
 xrL 111 x3 v18 R fun x39_1=>
 xrL 111 x5_1 v18 R fun x40_1=>
 WR Tryz.prog (Instr.buildSlice 37 2 #[(0,x39_1),(1,x40_1)]) v18 (fun x41_1 v19=>
 xrD 111 #[(0,(.int .u8 99)),(1,x38_1),(4,x41_1)] v19 R fun x42_1=>
 xuS 111 x3 x42_1 v19 R fun v20=>
 rec (sOf []) v20) (PX R))) (
 BS (.bool false) (j (sOf []) v8) (xH 67 1 3 p0 v8 R fun x31_2=>
 xrO .add 3 31 x31_2 (.int .i64 1) v8 R fun x32_2=>
 NC p0 fun x33_2=>
 xrF 67 x33_2 1 v8 R fun x34_2=>
 xuS 3 x34_2 x32_2 v8 R fun v21=>
 xC 99 #[p0] v21 R fun x36_2 v22=>
 xwA 111 v22 R fun x5_2 v23=>
 xuS 111 x5_2 x36_2 v23 R fun v24=>
 xG 69 1 9 x4 v24 R fun x38_2=>
 xrL 111 x3 v24 R fun x39_2=>
 xrL 111 x5_2 v24 R fun x40_2=>
 WR Tryz.prog (Instr.buildSlice 37 2 #[(0,x39_2),(1,x40_2)]) v24 (fun x41_2 v25=>
 xrD 111 #[(0,(.int .u8 99)),(1,x38_2),(4,x41_2)] v25 R fun x42_2=>
 xuS 111 x3 x42_2 v25 R fun v26=>
 rec (sOf []) v26) (PX R))))) (j (sOf []) v5))
 (sOf []) v3)
 (fun s d v4=>
 xrL 111 x3 v4 R fun x43=>
 xuS 111 x2 x43 v4 R fun v27=>
 nrL 111 x2 v27 fun r=>R (.returned r) v27)
theorem sh_Pr_parser_expr_ok(h:sh_Pr_parser_expr p0 w R):Calls Tryz.prog 67 #[p0] w R:=
 cq (args:=[p0]) (good (zL [(2,[])]) (zO [(7005,[])]) (fun _=>0) (fun _=>none) (zL [(2,[])]) (zL [(7005,[])]) (fun _=>false) (zT [12,25,26,27])) Tryz.func67 rfl (by kernel_rfl) (by kernel_rfl) h
def sh_r_Tests(p0:Value)(w:World)(R:Ending->World->Prop):Prop:=
 JN (fun j=>
 xrO .eql 9 3 p0 (.string (bs [116,114,117,101])) w R fun x5=>
 BS x5 (j (sOf [(4,x5)]) w) (xrO .eql 9 3 p0 (.string (bs [102,97,105,108])) w R fun x6=>
 j (sOf [(4,x6)]) w))
 (fun s d w1=>
 BS (s 4) (R (.returned (.int .i64 0)) w1) (JN (fun j_1=>
 xrO .eql 9 3 p0 (.string (bs [118,97,114])) w1 R fun x8=>
 BS x8 (j_1 (sOf [(7,x8)]) w1) (xrO .eql 9 3 p0 (.string (bs [110,111,110,118,97,114])) w1 R fun x9=>
 BS x9 (j_1 (sOf [(7,x9)]) w1) (xrO .eql 9 3 p0 (.string (bs [97,116,111,109])) w1 R fun x10=>
 BS x10 (j_1 (sOf [(7,x10)]) w1) (xrO .eql 9 3 p0 (.string (bs [105,110,116,101,103,101,114])) w1 R fun x11=>
 j_1 (sOf [(7,x11)]) w1))))
 (fun s_1 d_1 v1=>
 BS (s_1 7) (R (.returned (.int .i64 1)) v1) (JN (fun j_2=>
 xrO .eql 9 3 p0 (.string (bs [61])) v1 R fun x13=>
 BS x13 (j_2 (sOf [(12,x13)]) v1) (xrO .eql 9 3 p0 (.string (bs [92,61])) v1 R fun x14=>
 BS x14 (j_2 (sOf [(12,x14)]) v1) (xrO .eql 9 3 p0 (.string (bs [61,61])) v1 R fun x15=>
 BS x15 (j_2 (sOf [(12,x15)]) v1) (xrO .eql 9 3 p0 (.string (bs [105,115])) v1 R fun x16=>
 BS x16 (j_2 (sOf [(12,x16)]) v1) (xrO .eql 9 3 p0 (.string (bs [60])) v1 R fun x17=>
 BS x17 (j_2 (sOf [(12,x17)]) v1) (xrO .eql 9 3 p0 (.string (bs [62])) v1 R fun x18=>
 BS x18 (j_2 (sOf [(12,x18)]) v1) (xrO .eql 9 3 p0 (.string (bs [61,60])) v1 R fun x19=>
 BS x19 (j_2 (sOf [(12,x19)]) v1) (xrO .eql 9 3 p0 (.string (bs [62,61])) v1 R fun x20=>
 BS x20 (j_2 (sOf [(12,x20)]) v1) (xrO .eql 9 3 p0 (.string (bs [61,58,61])) v1 R fun x21=>
 j_2 (sOf [(12,x21)]) v1)))))))))
 (fun s_2 d_2 v2=>
 BS (s_2 12) (R (.returned (.int .i64 2)) v2) (R (.returned (.int .i64 (-1))) v2))))))
theorem sh_r_Tests_ok(h:sh_r_Tests p0 w R):Calls Tryz.prog 36 #[p0] w R:=
 cq (args:=[p0]) (good (fun _=>[]) (zO [(3001,[4]),(8003,[7]),(18008,[12])]) (fun _=>0) (fun _=>none) (fun _=>[]) (zL [(3001,[]),(8003,[]),(18008,[])]) (fun _=>false) (zT [4,5,6,7,8,9,10,11,12,13,14,15,16,17,18,19,20,21])) Tryz.func36 rfl (by kernel_rfl) (by kernel_rfl) h
end
end Go.Proofs.YtilpjhceemaplaaGreatDoor
namespace Go.Proofs.YtilpjhceemaplaaGreatDoor
open Go.RowKit Sx
def zb10:=(zA zG0 @sh_r_Tests.eq_1)
theorem rTests (s:P.Bs) (w:World):Calls Tryz.prog 36 #[.string (bs s)] w fun e w'=>e = .returned (zi (P.tests s))/\w'=w:=by
 by_cases h0:s=[116,114,117,101]
 ·subst h0
  refine sh_r_Tests_ok ?_
  simp (disch:=first|assumption|omega|simp only[zS]<;>omega|decide) only[zb10,simprocAttr]
  rfl
 by_cases h1:s=[102,97,105,108]
 ·subst h1
  refine sh_r_Tests_ok ?_
  simp (disch:=first|assumption|omega|simp only[zS]<;>omega|decide) only[zb10,simprocAttr]
  rfl
 by_cases h2:s=[118,97,114]
 ·subst h2
  refine sh_r_Tests_ok ?_
  simp (disch:=first|assumption|omega|simp only[zS]<;>omega|decide) only[zb10,simprocAttr]
  rfl
 by_cases h3:s=[110,111,110,118,97,114]
 ·subst h3
  refine sh_r_Tests_ok ?_
  simp (disch:=first|assumption|omega|simp only[zS]<;>omega|decide) only[zb10,simprocAttr]
  rfl
 by_cases h4:s=[97,116,111,109]
 ·subst h4
  refine sh_r_Tests_ok ?_
  simp (disch:=first|assumption|omega|simp only[zS]<;>omega|decide) only[zb10,simprocAttr]
  rfl
 by_cases h5:s=[105,110,116,101,103,101,114]
 ·subst h5
  refine sh_r_Tests_ok ?_
  simp (disch:=first|assumption|omega|simp only[zS]<;>omega|decide) only[zb10,simprocAttr]
  rfl
 by_cases h6:s=[61]
 ·subst h6
  refine sh_r_Tests_ok ?_
  simp (disch:=first|assumption|omega|simp only[zS]<;>omega|decide) only[zb10,simprocAttr]
  rfl
 by_cases h7:s=[92,61]
 ·subst h7
  refine sh_r_Tests_ok ?_
  simp (disch:=first|assumption|omega|simp only[zS]<;>omega|decide) only[zb10,simprocAttr]
  rfl
 by_cases h8:s=[61,61]
 ·subst h8
  refine sh_r_Tests_ok ?_
  simp (disch:=first|assumption|omega|simp only[zS]<;>omega|decide) only[zb10,simprocAttr]
  rfl
 by_cases h9:s=[105,115]
 ·subst h9
  refine sh_r_Tests_ok ?_
  simp (disch:=first|assumption|omega|simp only[zS]<;>omega|decide) only[zb10,simprocAttr]
  rfl
 by_cases h10:s=[60]
 ·subst h10
  refine sh_r_Tests_ok ?_
  simp (disch:=first|assumption|omega|simp only[zS]<;>omega|decide) only[zb10,simprocAttr]
  rfl
 by_cases h11:s=[62]
 ·subst h11
  refine sh_r_Tests_ok ?_
  simp (disch:=first|assumption|omega|simp only[zS]<;>omega|decide) only[zb10,simprocAttr]
  rfl
 by_cases h12:s=[61,60]
 ·subst h12
  refine sh_r_Tests_ok ?_
  simp (disch:=first|assumption|omega|simp only[zS]<;>omega|decide) only[zb10,simprocAttr]
  rfl
 by_cases h13:s=[62,61]
 ·subst h13
  refine sh_r_Tests_ok ?_
  simp (disch:=first|assumption|omega|simp only[zS]<;>omega|decide) only[zb10,simprocAttr]
  rfl
 by_cases h14:s=[61,58,61]
 ·subst h14
  refine sh_r_Tests_ok ?_
  simp (disch:=first|assumption|omega|simp only[zS]<;>omega|decide) only[zb10,simprocAttr]
  rfl
 have e:P.tests s=-1:=by simp [P.tests,h0,h1,h2,h3,h4,h5,h6,h7,h8,h9,h10,h11,h12,h13,h14]
 refine sh_r_Tests_ok ?_
 simp (disch:=first|assumption|omega|simp only[zS]<;>omega|decide) only[zb10,simprocAttr,e,h0,h1,h2,h3,h4,h5,h6,h7,h8,h9,h10,h11,h12,h13,h14]
def zb11:=(zA zG0 (zA @sh_r_value.eq_1 (zA @ch_9 (zA @cv_5_2 @ln_9))))
theorem rValue (s:P.Bs) (w:World) (hd:s.all P.digit=true) (hl:s.length≤9):Calls Tryz.prog 174 #[.string (bs s)] w fun e w'=>e = .returned (zi (P.num s))/\w'=w:=by
 refine sh_r_value_ok ?_
 refine⟨fun n t w1=>∃ j:Nat,j≤s.length/\n=s.length-j/\t 3=zi (P.num (s.take j))/\t 4=zi j/\w1=w,⟨s.length,0,Nat.zero_le _,rfl,rfl,rfl,rfl⟩,?_⟩
 intro n t d w1 h
 refine toPr ?_
 obtain⟨j,hj,rfl,h3,h4,rfl⟩:=h
 have hb:=P.num_bound (s:=s.take j) (by rw[List.all_eq_true] at hd ⊢;exact fun x hx=>hd x (List.mem_of_mem_take hx)) (by rw[List.length_take];omega)
 by_cases hlt:j<s.length
 ·have hc:=List.all_eq_true.1 hd _ (List.getElem_mem hlt)
  have hg:s.getD j 0=s[j]:=by simp [List.getD,hlt]
  simp only[P.digit,decide_eq_true_eq] at hc
  have hn:P.num (s.take (j+1))=10*P.num (s.take j)+((s[j].toNat:Int)-48):=by
   rw[List.take_succ_eq_append_getElem hlt,P.num_snoc]
  generalize P.num (s.take j)=q at *
  simp (disch:=first|assumption|omega|simp only[zS]<;>omega|decide) only[zb11,simprocAttr,h3,h4,hg]
  refine⟨s.length-(j+1),by omega,j+1,by omega,rfl,?_,rfl⟩
  rw[hn]
 ·have:j=s.length:=by omega
  subst this
  rw[List.take_length] at h3
  simp (disch:=first|assumption|omega|simp only[zS]<;>omega|decide) only[zb11,simprocAttr,h3,h4]
def RStX(pb tb:Nat)(T:List P.Tok)(d:Nat)(w w':World)(l:List Value):P.Res P.Ex->Prop
 | .ok x k vs=>IsRx (Nu w w') w' l x/\RP w' pb tb T k vs d 0 0
 | .err c a=>c≠0/\∃ k vs,RP w' pb tb T k vs d c a
def ShX(a b c f g:Value):Prop:=∃ (kd:Int) (nm:P.Bs) (n k:Int) (p:Option Addr) (q r:Nat),a = .int .u8 kd/\b = .string (bs nm)/\c=zi n/\f=zi k/\g = .slice p q r/\0≤kd/\kd≤255
theorem ShX.of{kd:Int}{nm:P.Bs}{n k:Int}{p:Option Addr}{q r:Nat}(h:0≤kd/\kd≤255):ShX (.int .u8 kd) (.string (bs nm)) (zi n) (zi k) (.slice p q r):=⟨_,_,_,_,_,_,_,rfl,rfl,rfl,rfl,rfl,h.1,h.2⟩
def RPostX(pb tb:Nat)(T:List P.Tok)(d:Nat)(w:World)(r:P.Res P.Ex)(e:Ending)(w':World):Prop:=
 ∃ a b c f g,e = .returned (.agg #[a,b,c,f,g])/\(a.oneCell'=true/\b.oneCell'=true/\c.oneCell'=true/\f.oneCell'=true/\g.oneCell'=true/\ShX a b c f g)/\RFr pb w w'/\RStX pb tb T d w w' [a,b,c,f,g] r
def RStA(pb tb:Nat)(T:List P.Tok)(d:Nat)(w w':World)(v:Value):P.Res (List P.Ex)->Prop
 | .ok l k vs=>(∃ us,IsRw (Nu w w') w' 111 5 v l.length us/\IsRxs (Nu w w') w' us l)/\RP w' pb tb T k vs d 0 0
 | .err c a=>c≠0/\∃ k vs,RP w' pb tb T k vs d c a
def RPostA(pb tb:Nat)(T:List P.Tok)(d:Nat)(w:World)(r:P.Res (List P.Ex))(e:Ending)(w':World):Prop:=
 ∃ a n c,e = .returned (.slice a n c)/\RFr pb w w'/\RStA pb tb T d w w' (.slice a n c) r
structure RCE(f:Nat):Prop where
 go:∀ {pb tb:Nat} {T:List P.Tok} {k:Nat} {vars:List P.Bs} {d:Nat} {w:World} {r:P.Res P.Ex},RP w pb tb T k vars d 0 0->d≤8 ->
  P.pOper T f 0 k vars d=some r->Calls Tryz.prog 67 #[pp pb] w (RPostX pb tb T d w r)
structure RCT(f:Nat):Prop where
 go:∀ {pb tb:Nat} {T:List P.Tok} {k:Nat} {vars:List P.Bs} {d:Nat} {w:World} {r:P.Res P.Ex},RP w pb tb T k vars d 0 0->d≤8 ->
  P.pOper T f 1 k vars d=some r->Calls Tryz.prog 99 #[pp pb] w (RPostX pb tb T d w r)
structure RCP(f:Nat):Prop where
 go:∀ {pb tb:Nat} {T:List P.Tok} {k:Nat} {vars:List P.Bs} {d:Nat} {w:World} {r:P.Res P.Ex},RP w pb tb T k vars d 0 0->d≤8 ->
  P.pPrim T f k vars d=some r->Calls Tryz.prog 129 #[pp pb] w (RPostX pb tb T d w r)
structure RCA(f:Nat):Prop where
 go:∀ {pb tb:Nat} {T:List P.Tok} {k:Nat} {vars:List P.Bs} {d:Nat} {w:World} {r:P.Res (List P.Ex)} (at_:Nat),RP w pb tb T k vars d 0 0->d≤8 ->
  P.pArgs T f k vars d at_ []=some r->Calls Tryz.prog 35 #[pp pb,zi at_] w (RPostA pb tb T d w r)
structure RCL(f:Nat):Prop where
 go:∀ {pb tb:Nat} {T:List P.Tok} {k:Nat} {vars:List P.Bs} {d:Nat} {w:World} {r:P.Res P.Ex},RP w pb tb T k vars d 0 0->d≤8 ->
  P.pList T f k vars d=some r->Calls Tryz.prog 176 #[pp pb] w (RPostX pb tb T d w r)
abbrev Fx(w w':World)(v:Value):Nat->Prop:=fun b=>w.heap.size≤b/\b<w'.heap.size/\some b≠v.ownBlock
theorem RFr.keeps{pb:Nat}{w w':World}{F:Nat->Prop}{et:Nat}(h:RFr pb w w')(hn:∀ b,F b->b≠pb)(ht:et≠9):Keeps F et w w':=
 fun b _ hb hc=>SFr.keep h hc (hn b hb) ht
theorem own_fr{pb:Nat}{w w':World}(h:RFr pb w w'){base e size n:Nat}{v:Value}{xs:List Value}(hu:w.ownsRow base e size v n xs)(hb:pb<base)(he:e≠9):w'.ownsRow base e size v n xs:=by
 obtain⟨h0,hu⟩:=hu
 refine⟨h0,?_⟩
 rcases hu with hu | ⟨g,cap,cur,rfl,h1,h2,h3⟩
 ·exact .inl hu
 ·exact .inr ⟨g,cap,cur,rfl,h1,SFr.keep h h2 (by omega) he,h3⟩
theorem Tryz.infoE:(Tryz.prog.info? 111).map (fun i=>(i.zero,i.size,i.bytes))=some (some (.agg #[.int .u8 0,.string (bs []),zi 0,zi 0,.slice none 0 0]),5,64):=by kernel_rfl
theorem wr_appendE{w:World}{base n:Nat}{v:Value}{xs:List Value}(hown:w.ownsRow base 111 5 v n xs){b m:Nat}{a0 a1 a2 a3 a4:Value}
  (hb:w.heap[b]?=some (.cells #[a0,a1,a2,a3,a4] 111)) (h1:a0.oneCell'=true/\a1.oneCell'=true/\a2.oneCell'=true/\a3.oneCell'=true/\a4.oneCell'=true)
  (hn:n≤100000) (hbase:base≤w.heap.size) {K:Value->World->Prop} {X:Value->World->Prop}
  (h:∀ v' w',w'.ownsRow base 111 5 v' (n+1) (xs++[a0,a1,a2,a3,a4])->w.grownBy w' v.ownBlock->(v'.ownBlock=v.ownBlock\/∀ k,v'.ownBlock=some k->w.heap.size≤k)->K v' w') :
  WR Tryz.prog (Builtin.append_ #[37,37] 37 #[v,.slice (some ⟨b,0,none⟩) 1 m]) w K X:=by
 obtain⟨i,hi,h0⟩:=Option.map_eq_some_iff.1 Tryz.infoE
 simp only[Prod.mk.injEq] at h0
 obtain⟨hz,hs,hbt⟩:=h0
 refine wr_append (t:=37) (e:=111) (by kernel_rfl) hi hz hs hbt rfl (by decide) hown hb rfl (fun u hu=>?_) (by omega) (by decide) hbase h
 simp only[List.mem_cons,List.not_mem_nil,or_false] at hu
 rcases hu with rfl | rfl | rfl | rfl | rfl
 ·exact h1.1
 ·exact h1.2.1
 ·exact h1.2.2.1
 ·exact h1.2.2.2.1
 ·exact h1.2.2.2.2
structure RowS(w w1:World)(v:Value)(acc:List P.Ex):Prop where
 own:∃ xs,w1.ownsRow w.heap.size 111 5 v acc.length xs/\IsRxs (Fx w w1 v) w1 xs acc
theorem RowS.nil(w:World):RowS w w (.slice none 0 0) []:=⟨[],World.ownsRow_nil _ _ _ _,by unfold IsRxs;rfl⟩
theorem RowS.more{w w1 w2 w3 w4:World}{pb:Nat}{v v':Value}{acc:List P.Ex}{x:P.Ex}{a b c f g:Value}(h:RowS w w1 v acc)(h12:RFr pb w1 w2)(hpb:pb<w.heap.size)(hx:IsRx (Nu w1 w2) w2 [a,b,c,f,g] x)(hww:w.heap.size≤w1.heap.size)
  (h23:Ext w2 w3) {xs:List Value} (hxs:w3.ownsRow w.heap.size 111 5 v acc.length xs) (hown':w4.ownsRow w.heap.size 111 5 v' (acc.length+1) (xs++[a,b,c,f,g]))
  (hg:w3.grownBy w4 v.ownBlock) (hv:v'.ownBlock=v.ownBlock\/∀ k,v'.ownBlock=some k->w3.heap.size≤k):RowS w w4 v' (acc++[x]):=by
 obtain⟨xs',o1,o2⟩:=h.own
 have s12:=h12.size
 have s23:=h23.size
 have s34:=hg.size
 have o3:w3.ownsRow w.heap.size 111 5 v acc.length xs':=own_ext h23.ext (own_fr h12 o1 (by omega) (by decide))
 have e:xs'=xs:=by
  rcases o3.2 with⟨hv1,hn⟩| ⟨g1,c1,cur1,hv1,_,g2,_,_,_,g3⟩
  ·have l1:=o3.1
   have l2:=hxs.1
   rw[hn] at l1 l2
   have e1:xs'=[]:=List.eq_nil_of_length_eq_zero (by simpa using l1)
   have e2:xs=[]:=List.eq_nil_of_length_eq_zero (by simpa using l2)
   rw[e1,e2]
  ·rcases hxs.2 with⟨hv2,_⟩| ⟨g1',c1',cur1',hv2,_,g2',_,_,_,g3'⟩
   ·rw[hv1] at hv2;cases hv2
   ·rw[hv1] at hv2
    injection hv2 with hv2 _ _
    injection hv2 with hv2
    injection hv2 with hv2 _ _
    subst hv2
    rw[g2] at g2'
    injection g2' with g2'
    injection g2' with g2' _ _
    subst g2'
    rw[<- g3,<- g3']
 subst e
 have lt:∀ k,v.ownBlock=some k->k<w1.heap.size:=fun k hk=>(o1.lt k hk).2
 have kp34:∀ b cs,some b≠v.ownBlock->b<w3.heap.size->w3.heap[b]?=some (.cells cs 111 (0,0))->w4.heap[b]?=some (.cells cs 111 (0,0)):=
  fun b cs hb hl hc=>by rw[hg.block b hl hb];exact hc
 have nv:∀ b,b<w3.heap.size->some b≠v.ownBlock->some b≠v'.ownBlock:=fun b hb hne he=>by
  rcases hv with hv | hv
  ·rw[hv] at he;exact hne he
  ·have:=hv b he.symm;omega
 refine⟨_,by rw[List.length_append];exact hown',IsRxs.snoc ?_ ?_⟩
 ·refine IsRxs.mono (F:=Fx w w1 v) (fun b hb=>⟨hb.1,by have:=hb.2.1;omega,nv b (by have:=hb.2.1;omega) hb.2.2⟩) (fun b cs hb hc=>?_) _ _ o2
  have h1:=SFr.keep h12 hc (by have:=hb.1;omega) (by decide)
  have h2:=h23.ext _ _ h1
  exact kp34 b cs hb.2.2 (ltOf h2) h2
 ·refine IsRx.mono (F:=Nu w1 w2) (fun b hb=>⟨by have:=hb.1;omega,by have:=hb.2;omega,nv b (by have:=hb.2;omega) (fun e=>by have:=lt b e.symm;have:=hb.1;omega)⟩) (fun b cs hb hc=>?_) _ _ hx
  have h2:=h23.ext _ _ hc
  exact kp34 b cs (fun e=>by have:=lt b e.symm;have:=hb.1;omega) (ltOf h2) h2
def zb12:=(zA zG0 (zA @sh_Pr_parser_args.eq_1 (zA @al_111 (zA @br_37_1 (zA @ld_111 (zA @ln_37 @st_111))))))
set_option maxHeartbeats 1000000 in
theorem rArgs {f:Nat} (hE:∀ g,g<f->RCE g):RCA f:=⟨by
 intro pb tb T k vars d w r at_ h hd hr
 have hpb:pb<w.heap.size:=by obtain⟨_,_,hx⟩:=id h;exact ltOf hx.cell
 have hT:T.length≤2001:=by obtain⟨_,_,hx⟩:=id h;exact hx.tw.len
 refine sh_Pr_parser_args_ok ?_
 refine⟨fun n s w1=>
   (s 6 = .bool true/\∃ f' k' vs acc,n=f'+1/\f'≤f/\acc.length≤k'/\P.pArgs T f' k' vs d at_ acc=some r/\RowS w w1 (s 5) acc/\RP w1 pb tb T k' vs d 0 0/\RFr pb w w1) \/
   (s 6 = .bool false/\n=0/\RFr pb w w1/\∃ m xs,w1.ownsRow w.heap.size 111 5 (s 5) m xs/\m≤100000 /\
    ((∃ k' vs acc,m=acc.length/\r=(if 4<acc.length then .err 4 at_ else .ok acc k' vs)/\RowS w w1 (s 5) acc/\RP w1 pb tb T k' vs d 0 0)\/(∃ c a k' vs,r = .err c a/\c≠0/\RP w1 pb tb T k' vs d c a))),
  ⟨f+1,.inl ⟨rfl,f,k,vars,[],rfl,Nat.le_refl _,Nat.zero_le _,hr,RowS.nil w,h,FrM.refl _ _⟩⟩,?_⟩
 intro n s dd w1 hI
 refine toPr ?_
 rcases hI with⟨h6,f',k',vs,acc,rfl,hf',hak,hp,hrow,hP,hF⟩| ⟨h6,rfl,hF,m,xs,hown,hm,hfin⟩
 ·cases f' with
  | zero=>simp [P.pArgs] at hp
  | succ f'=>
  rw[P.pArgs] at hp
  have hkt:k'<T.length:=by obtain⟨_,_,hx⟩:=id hP;exact hx.kt
  have hs1:=hF.size
  cases hq:P.pOper T f' 0 k' vs d with
  | none=>rw[hq] at hp;simp [P.Res.bind] at hp
  | some q=>
  rw[hq] at hp
  simp (disch:=first|assumption|omega|simp only[zS]<;>omega|decide) only[zb12,simprocAttr,h6]
  refine((hE f' (by omega)).go hP hd hq).mono ?_
  rintro e w2 ⟨a,b,c,g,u,rfl,⟨o1,o2,o3,o4,o5,oh⟩,hF2,hst⟩
  have hs2:=hF2.size
  have hrow2:w2.ownsRow w.heap.size 111 5 (s 5) acc.length (Classical.choose hrow.own):=own_fr hF2 (Classical.choose_spec hrow.own).1 hpb (by decide)
  simp (disch:=first|assumption|omega|simp only[zS]<;>omega|decide) only[zb12,simprocAttr,o1,o2,o3,o4,o5]
  have hx3:Ext w2 ((upd (w2.alloc (.cells #[.int .u8 0,.string (bs []),zi 0,zi 0,.slice none 0 0] 111)) w2.heap.size (.cells #[a,b,c,g,u] 111)).alloc (.cells #[a,b,c,g,u] 111)):=
   (((FrM.refl _ _).alloc _).upd (.inr (Nat.le_refl _))).alloc _
  refine wr_appendE (base:=w.heap.size) (n:=acc.length) (own_ext hx3.ext hrow2) (hp_alloc_new (by rw[size_upd,size_alloc])) ⟨o1,o2,o3,o4,o5⟩ (by omega) (by have:=hx3.size;omega) ?_
  intro v' w4 hown4 hg4 hv4
  have hF4:RFr pb w w4:=(((hF.trans hF2).trans hx3.toM)).grow hg4 (fun k hk=>(hrow2.lt k hk).1)
  cases q with
  | err c0 a0=>
   obtain⟨hc0,k2,vs2,hP2⟩:=hst
   simp only[P.Res.bind,Option.some.injEq] at hp
   have hP4:=(hP2.ext hx3).grow (own_ext hx3.ext hrow2) (by decide) hpb hg4
   refine(rIs_no hP4 [44] (.inl hc0)).mono ?_
   rintro e w5 ⟨rfl,hP5,hF5⟩
   simp (disch:=first|assumption|omega|simp only[zS]<;>omega|decide) only[zb12,simprocAttr]
   refine⟨0,Nat.succ_pos _,.inr ⟨rfl,hF4.trans hF5,_,_,own_fr hF5 hown4 hpb (by decide),by omega,.inr ⟨c0,a0,k2,vs2,hp.symm,hc0,hP5⟩⟩⟩
  | ok x k2 vs2=>
   obtain⟨hx,hP2⟩:=hst
   have hk2:=(P.mono T f').oper _ _ _ _ _ _ _ hq
   have hP4:=(hP2.ext hx3).grow (own_ext hx3.ext hrow2) (by decide) hpb hg4
   have hrow4:RowS w w4 v' (acc++[x]):=hrow.more hF2 hpb hx hs1 hx3 (own_ext hx3.ext hrow2) hown4 hg4 hv4
   simp only[P.Res.bind] at hp
   have hmn:∀ {w5:World},RFr pb w4 w5->RowS w w5 v' (acc++[x]):=fun hF5=>by
    obtain⟨xs,p1,p2⟩:=hrow4.own
    have:=hF5.size
    exact⟨xs,own_fr hF5 p1 hpb (by decide),IsRxs.mono (fun b hb=>⟨hb.1,by have:=hb.2.1;omega,hb.2.2⟩) (RFr.keeps hF5 (fun b hb=>by have:=hb.1;omega) (by decide)) _ _ p2⟩
   by_cases hc:P.isT T k2 [44]=true
   ·rw[if_pos hc] at hp
    refine(rIs_yes hP4 [44] hc).mono ?_
    rintro e w5 ⟨rfl,hP5,hF5⟩
    simp (disch:=first|assumption|omega|simp only[zS]<;>omega|decide) only[zb12,simprocAttr]
    exact⟨f'+1,by omega,.inl ⟨f',k2+1,vs2,acc++[x],rfl,by omega,by simp;omega,hp,hmn hF5,hP5,hF4.trans hF5⟩⟩
   ·rw[if_neg hc] at hp
    refine(rIs_no hP4 [44] (.inr (by simpa using hc))).mono ?_
    rintro e w5 ⟨rfl,hP5,hF5⟩
    simp (disch:=first|assumption|omega|simp only[zS]<;>omega|decide) only[zb12,simprocAttr]
    refine⟨0,Nat.succ_pos _,.inr ⟨rfl,hF4.trans hF5,_,_,own_fr hF5 hown4 hpb (by decide),by omega,.inl ⟨k2,vs2,acc++[x],by simp,?_,hmn hF5,hP5⟩⟩⟩
    have e4:P.maxArity=4:=rfl
    rw[e4] at hp
    split at hp
    ·rename_i h4;rw[if_pos h4];injection hp with hp;exact hp.symm
    ·rename_i h4;rw[if_neg h4];injection hp with hp;exact hp.symm
 ·obtain⟨a0,c0,hs5⟩:=own_slice hown
  rcases hfin with⟨k',vs,acc,rfl,hr',hrow,hP⟩| ⟨c,a,k',vs,hr',hc,hP⟩
  ·by_cases h4:4<acc.length
   ·rw[if_pos h4] at hr'
    simp (disch:=first|assumption|omega|simp only[zS]<;>omega|decide) only[zb12,simprocAttr,h6,hs5]
    refine(rFault hP 4 _).mono ?_
    rintro e w2 ⟨rfl,hP2,hF2⟩
    rw[if_pos rfl,if_pos rfl] at hP2
    simp (disch:=first|assumption|omega|simp only[zS]<;>omega|decide) only[zb12,simprocAttr,hs5]
    rw[hr']
    exact⟨_,_,_,rfl,hF.trans hF2,by decide,_,_,hP2⟩
   ·rw[if_neg h4] at hr'
    simp (disch:=first|assumption|omega|simp only[zS]<;>omega|decide) only[zb12,simprocAttr,h6,hs5]
    rw[hr']
    obtain⟨xs',p1,p2⟩:=hrow.own
    rw[hs5] at p1
    refine⟨_,_,_,rfl,hF,⟨xs',own_rw p1 (fun k h1 h2=>⟨h1,h2⟩),IsRxs.mono (fun b hb=>⟨hb.1,hb.2.1⟩) (fun b cs _ hc=>hc) _ _ p2⟩,hP⟩
  ·have hfin2:∀ {w2:World} {k2:Nat} {vs2:List P.Bs},RFr pb w1 w2->RP w2 pb tb T k2 vs2 d c a->RPostA pb tb T d w r (.returned (.slice a0 m c0)) w2:=fun hF2 hP2=>by
    rw[hr']
    exact⟨_,_,_,rfl,hF.trans hF2,hc,_,_,hP2⟩
   by_cases h4:4<m
   ·simp (disch:=first|assumption|omega|simp only[zS]<;>omega|decide) only[zb12,simprocAttr,h6,hs5]
    refine(rFault hP 4 _).mono ?_
    rintro e w2 ⟨rfl,hP2,hF2⟩
    rw[if_neg hc,if_neg hc] at hP2
    simp (disch:=first|assumption|omega|simp only[zS]<;>omega|decide) only[zb12,simprocAttr,hs5]
    exact hfin2 hF2 hP2
   ·simp (disch:=first|assumption|omega|simp only[zS]<;>omega|decide) only[zb12,simprocAttr,h6,hs5]
    exact hfin2 (FrM.refl _ _) hP⟩
end Go.Proofs.YtilpjhceemaplaaGreatDoor
