/- A part of one proof (RD4, RD5, RD6, PureD2, RD7, PureA, PureI, PureJ, PureK, RK1, ShK1, RK2). -/
import Derived.Test.YtilpjhceemaplaaGreatDoorPkAAL
set_option linter.all false
set_option linter.unusedVariables false
set_option linter.unusedSimpArgs false
set_option maxRecDepth 100000
set_option maxHeartbeats 4000000
namespace Go.Proofs.YtilpjhceemaplaaGreatDoor
open Go.RowKit Sx
theorem own_at{w:World}{base e n:Nat}{v:Value}{xs:List Value}(h:w.ownsRow base e 1 v n xs){t:Nat}(ht:t<n):∃ g c u,v = .slice (some ⟨g,0,none⟩) n c/\w.heap[g]?=some (.cells u e (0,0))/\u[t]?=xs[t]?:=by
 rcases h.2 with⟨-,h0⟩| ⟨g,cap,cur,rfl,h1,h2,h3,h4,h5,h6⟩
 ·omega
 ·refine⟨g,cap,cur,rfl,h2,?_⟩
  rw[<- h6,Nat.mul_one,List.getElem?_take_of_lt ht,Array.getElem?_toList]
section
variable{A:Nat->Prop}{w:World}{hb:Nat}{H:P.Hp}{kv nv iv av tv rv:Value}{ars:List Value}
theorem nd_get{t:Nat}(ht:t<H.nodes.length):H.nodes[t]?=some (H.nd t):=by simp [P.Hp.nd,List.getD_eq_getElem?_getD,ht]
theorem RHx.kd(h:RHx A w hb H kv nv iv av tv rv ars){t:Nat}(ht:t<H.nodes.length):∃ g c u,kv = .slice (some ⟨g,0,none⟩) H.nodes.length c/\w.heap[g]?=some (.cells u 5 (0,0))/\u[t]?=some (.int .u8 ((H.nd t).kind:Nat)):=by
 have ho:=h.q.own _ (List.mem_of_getElem? (i:=0) rfl)
 have hl:(kindsV H).length=H.nodes.length:=by simp
 obtain⟨g,c,u,h1,h2,h3⟩:=own_at ho (t:=t) (by rw[hl];exact ht)
 rw[hl] at h1
 refine⟨g,c,u,h1,h2,?_⟩
 rw[h3,List.getElem?_map,nd_get ht];rfl
theorem RHx.nm(h:RHx A w hb H kv nv iv av tv rv ars){t:Nat}(ht:t<H.nodes.length):∃ g c u,nv = .slice (some ⟨g,0,none⟩) H.nodes.length c/\w.heap[g]?=some (.cells u 9 (0,0))/\u[t]?=some (.string (bs (H.nd t).name)):=by
 have ho:=h.q.own _ (List.mem_of_getElem? (i:=1) rfl)
 have hl:(nmsV H).length=H.nodes.length:=by simp
 obtain⟨g,c,u,h1,h2,h3⟩:=own_at ho (t:=t) (by rw[hl];exact ht)
 rw[hl] at h1
 refine⟨g,c,u,h1,h2,?_⟩
 rw[h3,List.getElem?_map,nd_get ht];rfl
theorem RHx.nn(h:RHx A w hb H kv nv iv av tv rv ars){t:Nat}(ht:t<H.nodes.length):∃ g c u,iv = .slice (some ⟨g,0,none⟩) H.nodes.length c/\w.heap[g]?=some (.cells u 2 (0,0))/\u[t]?=some (zi (H.nd t).n):=by
 have ho:=h.q.own _ (List.mem_of_getElem? (i:=2) rfl)
 have hl:(nsV H).length=H.nodes.length:=by simp
 obtain⟨g,c,u,h1,h2,h3⟩:=own_at ho (t:=t) (by rw[hl];exact ht)
 rw[hl] at h1
 refine⟨g,c,u,h1,h2,?_⟩
 rw[h3,List.getElem?_map,nd_get ht];rfl
theorem RHx.an(h:RHx A w hb H kv nv iv av tv rv ars){t:Nat}(ht:t<H.nodes.length):∃ g c u v,av = .slice (some ⟨g,0,none⟩) H.nodes.length c/\w.heap[g]?=some (.cells u 83 (0,0))/\u[t]?=some v /\
  IsSl (fun b=>¬ OwnOf w hb b/\A b) w 3 v ((H.nd t).args.map fun n=>zi (n:Nat)):=by
 have ho:=h.q.own _ (List.mem_of_getElem? (i:=3) rfl)
 have hl:ars.length=H.nodes.length:=h.ar.length
 obtain⟨g,c,u,h1,h2,h3⟩:=own_at ho (t:=t) (by show t<ars.length;rw[hl];exact ht)
 obtain⟨v,k1,k2⟩:=IsAr.at t ht h.ar
 have e:H.nodes[t]=H.nd t:=by
  have:=nd_get ht
  rw[List.getElem?_eq_getElem ht] at this
  exact Option.some.inj this
 rw[e] at k2
 refine⟨g,c,u,v,?_,h2,?_,k2⟩
 ·have h1':av = .slice (some ⟨g,0,none⟩) ars.length c:=h1
  rw[h1',hl]
 ·rw[h3];exact k1
theorem RHx.tn(h:RHx A w hb H kv nv iv av tv rv ars){t:Nat}(ht:t<H.nodes.length):∃ g c u,tv = .slice (some ⟨g,0,none⟩) H.nodes.length c/\w.heap[g]?=some (.cells u 3 (0,0))/\u[t]?=some (zi (H.toOf t)):=by
 have ho:=h.q.own _ (List.mem_of_getElem? (i:=4) rfl)
 have hl:(tosV H).length=H.nodes.length:=by simp [h.len]
 obtain⟨g,c,u,h1,h2,h3⟩:=own_at ho (t:=t) (by rw[hl];exact ht)
 rw[hl] at h1
 refine⟨g,c,u,h1,h2,?_⟩
 have ht':t<H.to.length:=by rw[h.len];exact ht
 rw[h3,List.getElem?_map]
 simp [P.Hp.toOf,List.getD_eq_getElem?_getD,ht']
theorem RHp.mono{B:Nat->Prop}(h:RHp A w hb H)(hf:∀ b,b<w.heap.size->A b->B b):RHp B w hb H:=by
 obtain⟨kv,nv,iv,av,tv,rv,ars,h⟩:=h
 have key:∀ (ds:List P.Nd) (rows:List Value),IsAr (fun b=>¬ OwnOf w hb b/\A b) w rows ds->IsAr (fun b=>¬ OwnOf w hb b/\B b) w rows ds:=by
  intro ds
  induction ds with
  | nil=>intro rows h;exact h
  | cons d ds ih=>
   intro rows h
   obtain⟨v,r,h1,h2,h3⟩:=h
   refine⟨v,r,h1,?_,ih r h3⟩
   rcases h2 with h2 | ⟨b,cs,g1,g2,g3,g4⟩
   ·exact .inl h2
   ·exact .inr ⟨b,cs,g1,⟨g2.1,hf b (ltOf g3) g2.2⟩,g3,g4⟩
 exact⟨kv,nv,iv,av,tv,rv,ars,h.q,key _ _ h.ar,h.len⟩
theorem RHp.lt(h:RHp A w hb H):hb<w.heap.size:=by
 obtain⟨kv,nv,iv,av,tv,rv,ars,h⟩:=h
 exact ltOf h.cell
theorem own_grown{w1 w2:World}{r:Option Nat}(hg:w1.grownBy w2 r)(hr:∀ k,r=some k->¬ OwnOf w1 hb k)(hl:hb<w1.heap.size):∀ b,OwnOf w2 hb b->OwnOf w1 hb b:=by
 intro b hb2
 rcases hb2 with rfl | ⟨cs,T,h1,h2⟩
 ·exact .inl rfl
 ·refine .inr ⟨cs,T,?_,h2⟩
  rw[hg.block hb hl (fun e=>hr hb e.symm (.inl rfl))] at h1
  exact h1
theorem HFr.grow{w0 w1 w2:World}(h:HFr hb w0 w1){r:Option Nat}(hg:w1.grownBy w2 r)(hr:∀ k,r=some k->w0.heap.size≤k/\¬ OwnOf w1 hb k)(hl:hb<w1.heap.size):HFr hb w0 w2:=
 ⟨⟨hg.os.trans h.fr.os,hg.tape.trans h.fr.tape,hg.output.trans h.fr.output,Nat.le_trans h.fr.size hg.size,fun b o hbo hm=>by
  have h1:=h.fr.block b o hbo hm
  rw[hg.block b (ltOf h1) (fun e=>by have:=(hr b e.symm).1;have:=ltOf hbo;omega)];exact h1⟩,fun b hb2=>h.own b (own_grown hg (fun k hk=>(hr k hk).2) hl b hb2)⟩
theorem RHp.grow{w2:World}(h:RHp (fun b=>A b) w hb H){r:Option Nat}(hg:w.grownBy w2 r)(hr:∀ k,r=some k->¬ OwnOf w hb k/\¬ A k):RHp A w2 hb H:=by
 obtain⟨kv,nv,iv,av,tv,rv,ars,h⟩:=h
 have hl:=ltOf h.cell
 have hn:∀ k,r=some k->¬ OwnOf w hb k:=fun k hk=>(hr k hk).1
 have ho:∀ b,OwnOf w2 hb b->OwnOf w hb b:=own_grown hg hn hl
 have key:∀ (ds:List P.Nd) (rows:List Value),IsAr (fun b=>¬ OwnOf w hb b/\A b) w rows ds->IsAr (fun b=>¬ OwnOf w2 hb b/\A b) w2 rows ds:=by
  intro ds
  induction ds with
  | nil=>intro rows h;exact h
  | cons d ds ih=>
   intro rows h
   obtain⟨v,r',h1,h2,h3⟩:=h
   refine⟨v,r',h1,?_,ih r' h3⟩
   rcases h2 with h2 | ⟨b,cs,g1,g2,g3,g4⟩
   ·exact .inl h2
   ·refine .inr ⟨b,cs,g1,⟨fun hx=>g2.1 (ho b hx),g2.2⟩,?_,g4⟩
    rw[hg.block b (ltOf g3) (fun e=>(hr b e.symm).2 g2.2)];exact g3
 refine⟨kv,nv,iv,av,tv,rv,ars,⟨?_,fun a ha=>own_kept (h.q.own a ha) hg ?_,h.q.dis,h.q.tl⟩,key _ _ h.ar,h.len⟩
 ·rw[hg.block hb hl (fun e=>hn hb e.symm (.inl rfl))];exact h.q.cell
 ·cases hv:a.2.1.ownBlock with
  | none=>exact .inl rfl
  | some k=>
   refine .inr fun e=>hn k e.symm (.inr ⟨_,_,h.q.cell,a.2.1,?_,hv⟩)
   simp only[List.mem_append,List.mem_map]
   exact .inl ⟨a,ha,rfl⟩
end
def P.Hp.Cl(H:P.Hp):Prop:=∀ t,t<H.nodes.length->H.toOf t<H.nodes.length
def zb55:=(zA zG0 (zA @sh_Pr_Heap_walk.eq_1 (zA @fa_93_0 (zA @fa_93_4 (zA @ix_83 (zA @ix_89 (zA @ld_3 (zA @ld_5 (zA @ld_83 @ld_89)))))))))
theorem rWalk {A:Nat->Prop} {w:World} {hb:Nat} {H:P.Hp} (h:RHp A w hb H) (hc:H.Cl) {f t t':Nat} (ht:t<H.nodes.length) (hn:H.nodes.length≤1000000000) (hw:H.walk f t=some t') :
  Calls Tryz.prog 87 #[pp hb,zi (t:Nat)] w fun e w'=>e = .returned (zi (t':Nat))/\w'=w:=by
 obtain⟨kv,nv,iv,av,tv,rv,ars,h⟩:=h
 have hcell:=h.cell
 refine sh_Pr_Heap_walk_ok ?_
 refine⟨fun x w'=>w'=w/\x 1=zi (t':Nat),?_,?_⟩
 ·refine⟨fun m x w'=>w'=w/\∃ t1,x 1=zi (t1:Nat)/\t1<H.nodes.length/\H.walk m t1=some t',⟨f,rfl,t,rfl,ht,hw⟩,?_⟩
  intro m x d w1 hI
  refine toPr ?_
  obtain⟨rfl,t1,hx,ht1,hw1⟩:=hI
  obtain⟨gk,ck,uk,rfl,k1,k2⟩:=h.kd ht1
  obtain⟨gt,ct,ut,rfl,k3,k4⟩:=h.tn ht1
  have e1:((t1:Nat):Int).toNat=t1:=by omega
  by_cases hk:(H.nd t1).kind=118
  ·have hk':(((H.nd t1).kind:Nat):Int)=118:=by omega
   by_cases h0:0≤H.toOf t1
   ·simp (disch:=first|assumption|omega|simp only[zS]<;>omega|decide) only[zb55,simprocAttr,hx,hcell,k1,k2,e1,k3,k4]
    cases m with
    | zero=>rw[P.Hp.walk,if_pos ⟨hk,h0⟩] at hw1;cases hw1
    | succ m=>
     rw[P.Hp.walk,if_pos ⟨hk,h0⟩] at hw1
     refine⟨m,by omega,(H.toOf t1).toNat,?_,?_,hw1⟩
     ·simp [sOf];omega
     ·have:=hc t1 ht1;omega
   ·simp (disch:=first|assumption|omega|simp only[zS]<;>omega|decide) only[zb55,simprocAttr,hx,hcell,k1,k2,e1,k3,k4]
    have:t'=t1:=by
     cases m<;>rw[P.Hp.walk,if_neg (fun h=>h0 h.2)] at hw1<;>exact(Option.some.inj hw1).symm
    subst this
    simp [sOf,hx]
  ·have hk':¬ (((H.nd t1).kind:Nat):Int)=118:=by omega
   simp (disch:=first|assumption|omega|simp only[zS]<;>omega|decide) only[zb55,simprocAttr,hx,hcell,k1,k2,e1,k3,k4]
   have:t'=t1:=by
    cases m<;>rw[P.Hp.walk,if_neg (fun h=>hk h.1)] at hw1<;>exact(Option.some.inj hw1).symm
   subst this
   simp [sOf,hx]
 ·rintro x w' ⟨rfl,hx⟩ d
  exact⟨by rw[hx],rfl⟩
theorem P.fresh_snoc:∀ (n:Nat) (H:P.Hp),(H.fresh (n+1)).1=(H.fresh n).1.add ⟨118,[],0,[]⟩/\(H.fresh (n+1)).2=(H.fresh n).2++[(H.fresh n).1.nodes.length]
 | 0,H=>by simp [P.Hp.fresh]
 | n+1,H=>by
  obtain⟨h1,h2⟩:=P.fresh_snoc n (H.add ⟨118,[],0,[]⟩)
  rw[P.Hp.fresh]
  simp only[h1,h2]
  rw[P.Hp.fresh]
  simp
theorem P.fresh_len:∀ (n:Nat) (H:P.Hp),(H.fresh n).1.nodes.length=H.nodes.length+n/\(H.fresh n).2.length=n
 | 0,H=>by simp [P.Hp.fresh]
 | n+1,H=>by
  obtain⟨h1,h2⟩:=P.fresh_len n (H.add ⟨118,[],0,[]⟩)
  rw[P.Hp.fresh]
  have e:(H.add ⟨118,[],0,[]⟩).nodes.length=H.nodes.length+1:=by simp [P.Hp.add]
  exact⟨by show((H.add ⟨118,[],0,[]⟩).fresh n).1.nodes.length=_;omega,by show(_::((H.add ⟨118,[],0,[]⟩).fresh n).2).length=_;rw[List.length_cons,h2]⟩
theorem wr_appI{A:Nat->Prop}{w:World}{hb:Nat}{H:P.Hp}{base n:Nat}{v:Value}{xs:List Value}(h:RHp (fun b=>A b/\some b≠v.ownBlock) w hb H)(hown:w.ownsRow base 3 1 v n xs)(hno:∀ k,v.ownBlock=some k->¬ OwnOf w hb k){b m:Nat}{a:Value}
  (hb2:b=w.heap.size) (h1:a.oneCell'=true) (hn:n≤900000000) (hbase:base≤w.heap.size) {K:Value->World->Prop} {X:Value->World->Prop}
  (hk:∀ v' w',w'.ownsRow base 3 1 v' (n+1) (xs++[a])->RHp (fun b=>A b/\some b≠v'.ownBlock) w' hb H->(∀ k,v'.ownBlock=some k->¬ OwnOf w' hb k) ->
   (∀ w0,HFr hb w0 w->w0.heap.size≤base->HFr hb w0 w')->KeepT (fun _=>True) w w'->K v' w') :
  WR Tryz.prog (Builtin.append_ #[83,83] 83 #[v,.slice (some ⟨b,0,none⟩) 1 m]) (w.alloc (.cells #[a] 3)) K X:=by
 have hE:Ext w (w.alloc (.cells #[a] 3)):=(FrM.refl _ _).alloc _
 have hl:=h.lt
 refine wr_app1 (by kernel_rfl) Tryz.infoInt rfl (by decide) (hown.alloc _) (hp_alloc_new hb2) h1 hn (by rw[size_alloc];omega) ?_
 intro v' w' ho hg hv
 have s1:=hg.size
 rw[size_alloc] at s1
 have hfA:HFr hb w (w.alloc (.cells #[a] 3)):=HFr.ofExt hE hl
 have lA:hb<(w.alloc (.cells #[a] 3)).heap.size:=by rw[size_alloc];omega
 have hnoA:∀ k,v.ownBlock=some k->¬ OwnOf (w.alloc (.cells #[a] 3)) hb k:=fun k hk ho=>by
  rcases hfA.own k ho with h | h
  ·exact hno k hk h
  ·have:=(hown.lt k hk).2;omega
 have hR:RHp (fun b=>A b/\some b≠v.ownBlock) w' hb H:=(h.ext hE).grow hg fun k hk=>⟨hnoA k hk,fun h=>h.2 hk.symm⟩
 have hnew:∀ k,v'.ownBlock=some k->v.ownBlock=some k\/w.heap.size<k:=fun k hk=>by
  rcases hv with hv | hv
  ·rw[hv] at hk;exact .inl hk
  ·have:=hv k hk
   rw[size_alloc] at this
   exact .inr (by omega)
 have hown2:=own_grown hg hnoA lA
 refine hk v' w' ho ?_ ?_ ?_ ?_
 ·have hR2:=(h.ext hE).mono (B:=fun b=>(A b/\some b≠v.ownBlock)/\b<(w.alloc (.cells #[a] 3)).heap.size) fun b hb h=>⟨h,hb⟩
  refine(hR2.grow hg fun k hk=>⟨hnoA k hk,fun h=>h.1.2 hk.symm⟩).mono fun b _ hbb=>⟨hbb.1.1,fun e=>?_⟩
  rcases hv with hv | hv
  ·exact hbb.1.2 (by rw[e,hv])
  ·have:=hv b e.symm
   have:=hbb.2
   omega
 ·intro k hk ho2
  have h3:=hown2 k ho2
  rcases hfA.own k h3 with h4 | h4
  ·rcases hnew k hk with h5 | h5
   ·exact hno k h5 h4
   ·rcases h4 with rfl | ⟨cs,T,g1,u,g2,g3⟩
    ·omega
    ·obtain⟨kv,nv,iv,av,tv,rv,ars,hx⟩:=h
     rw[hx.q.cell] at g1
     injection g1 with g1
     injection g1 with g1 _ _
     subst g1
     simp only[List.mem_append,List.mem_map] at g2
     rcases g2 with⟨r,hr,rfl⟩| g2
     ·have:=((hx.q.own r hr).lt k g3).2
      omega
     ·rw[hx.q.tl u g2] at g3;cases g3
  ·rcases hnew k hk with h5 | h5
   ·have:=(hown.lt k h5).2;omega
   ·rcases h3 with rfl | ⟨cs,T,g1,u,g2,g3⟩
    ·omega
    ·obtain⟨kv,nv,iv,av,tv,rv,ars,hx⟩:=h
     rw[(hx.q.ext hE).cell] at g1
     injection g1 with g1
     injection g1 with g1 _ _
     subst g1
     simp only[List.mem_append,List.mem_map] at g2
     rcases g2 with⟨r,hr,rfl⟩| g2
     ·have:=((hx.q.own r hr).lt k g3).2
      omega
     ·rw[hx.q.tl u g2] at g3;cases g3
 ·intro w0 hf0 hs0
  refine(hf0.trans hfA).grow hg (fun k hk=>⟨by have:=(hown.lt k hk).1;omega,hnoA k hk⟩) lA
 ·intro c cs t _ ht hc
  have h2:=hE.ext _ _ hc
  rw[hg.block c (ltOf h2) (fun e=>?_)]
  ·exact h2
  ·rcases hown.2 with⟨rfl,-⟩| ⟨g,cap,cur,rfl,g1,g2,-⟩
   ·cases e
   ·simp only[Value.ownBlock,Option.some.injEq] at e
    subst e
    rw[hc] at g2
    injection g2 with g2
    injection g2 with _ g2 _
    rcases ht with ht | ht<;>· rw[ht] at g2;cases g2
def zb56:=(zA zG0 (zA @sh_Pr_Heap_fresh.eq_1 @br_83_1))
theorem rFresh {A:Nat->Prop} {w:World} {hb:Nat} {H:P.Hp} (h:RHp A w hb H) (n:Nat) (hl:H.nodes.length+n≤100000000) (hA:∀ b,w.heap.size≤b->A b) :
  Calls Tryz.prog 26 #[pp hb,zi (n:Nat)] w fun e w'=>∃ v,e = .returned v/\RHp (fun b=>A b/\some b≠v.ownBlock) w' hb (H.fresh n).1/\HFr hb w w'/\KeepT (fun _=>True) w w' /\
   w'.ownsRow w.heap.size 3 1 v n ((H.fresh n).2.map fun n=>zi (n:Nat))/\(∀ k,v.ownBlock=some k->¬ OwnOf w' hb k):=by
 refine sh_Pr_Heap_fresh_ok ?_
 refine⟨fun m x w'=>∃ j v,x 6=zi (j:Nat)/\x 5=v/\j≤n/\m=n-j/\RHp (fun b=>A b/\some b≠v.ownBlock) w' hb (H.fresh j).1/\HFr hb w w'/\KeepT (fun _=>True) w w' /\
   w'.ownsRow w.heap.size 3 1 v j ((H.fresh j).2.map fun n=>zi (n:Nat))/\(∀ k,v.ownBlock=some k->¬ OwnOf w' hb k),
  ⟨_,0,.slice none 0 0,rfl,rfl,Nat.zero_le _,rfl,h.mono (fun b _ h=>⟨h,by simp [Value.ownBlock]⟩),HFr.refl _ _,fun _ _ _ _ _ h=>h,World.ownsRow_nil _ _ _ _,fun k hk=>by cases hk⟩,?_⟩
 intro m x d w1 hI
 refine toPr ?_
 obtain⟨j,v,h6,rfl,hj,rfl,h1,hf1,hk1,ho1,hn1⟩:=hI
 obtain⟨l1,l2⟩:=P.fresh_len j H
 obtain⟨e1,e2⟩:=P.fresh_snoc j H
 have s1:=hf1.fr.size
 by_cases hlt:j<n
 ·simp (disch:=first|assumption|omega|simp only[zS]<;>omega|decide) only[zb56,simprocAttr,h6]
  refine Calls.mono (rAdd (l:=[]) (G:=fun _=>False) h1 (by omega) 118 [] 0 (fun _ h=>h.elim) (.inl ⟨rfl,rfl⟩)) ?_
  rintro e w2 ⟨rfl,h2,hf2⟩
  have s2:=hf2.fr.size
  have ho2:w2.ownsRow w.heap.size 3 1 (x 5) j ((H.fresh j).2.map fun n=>zi (n:Nat)):=by
   obtain⟨g0,g1⟩:=ho1
   refine⟨g0,?_⟩
   rcases g1 with g1 | ⟨g,cap,cur,q1,q2,q3,q4⟩
   ·exact .inl g1
   ·exact .inr ⟨g,cap,cur,q1,q2,hf2.fr.block _ _ q3 (hn1 g (by rw[q1];rfl)),q4⟩
  have hn2:∀ k,(x 5).ownBlock=some k->¬ OwnOf w2 hb k:=fun k hk ho=>by
   rcases hf2.own k ho with h | h
   ·exact hn1 k hk h
   ·have:=(ho1.lt k hk).2;omega
  have hk2:KeepT (fun _=>True) w1 w2:=fun b cs t _ ht hb=>by
   refine hf2.fr.block b _ hb fun ho=>?_
   obtain⟨kv,nv,iv,av,tv,rv,ars,hx⟩:=h1
   rcases ho with rfl | ⟨cs',T,g1,u,g2,g3⟩
   ·rw[hx.q.cell] at hb
    injection hb with hb
    injection hb with _ hb _
    subst hb
    rcases ht with ht | ht<;>cases ht
   ·rw[hx.q.cell] at g1
    injection g1 with g1
    injection g1 with g1 _ _
    subst g1
    simp only[List.mem_append,List.mem_map] at g2
    rcases g2 with⟨r,hr,rfl⟩| g2
    ·have ho:=hx.q.own r hr
     rcases ho.2 with⟨h0,-⟩| ⟨g,cap,cur,q1,q2,q3,-⟩
     ·rw[h0] at g3;cases g3
     ·rw[q1] at g3
      simp only[Value.ownBlock,Option.some.injEq] at g3
      subst g3
      rw[q3] at hb
      injection hb with hb
      injection hb with _ hb _
      simp only[List.mem_cons,List.not_mem_nil,or_false] at hr
      rcases hr with rfl | rfl | rfl | rfl | rfl | rfl<;>rcases ht with rfl | rfl<;>cases hb
    ·rw[hx.q.tl u g2] at g3;cases g3
  simp (disch:=first|assumption|omega|simp only[zS]<;>omega|decide) only[zb56,simprocAttr,h6]
  rw[<- e1] at h2
  refine wr_appI (A:=A) h2 ho2 hn2 rfl rfl (by omega) (by omega) ?_
  intro v' w3 ho3 h3 hn3 hf3 hk3
  obtain⟨ra,rc,rfl⟩:=own_slice ho3
  simp (disch:=first|assumption|omega|simp only[zS]<;>omega|decide) only[zb56,simprocAttr,h6]
  refine⟨_,by omega,j+1,_,by simp [sOf],by simp [sOf],by omega,rfl,h3,hf3 w (hf1.trans hf2) (Nat.le_refl _),fun b cs t hF ht hb=>hk3 b cs t hF ht (hk2 b cs t hF ht (hk1 b cs t hF ht hb)),?_,hn3⟩
  rw[e2,List.map_append]
  exact ho3
 ·have hjn:j=n:=by omega
  subst hjn
  simp (disch:=first|assumption|omega|simp only[zS]<;>omega|decide) only[zb56,simprocAttr,h6]
  exact⟨_,rfl,h1,hf1,hk1,ho1,hn1⟩
theorem P.decN_step{n:Nat}(h:¬ n<10):P.decN n=P.decN (n / 10)++[UInt8.ofNat (48+n % 10)]:=by
 rw[decN_eq,decN_eq]
 rw[Lib.decDigits]
 rw[dif_neg h]
theorem P.decN_one{n:Nat}(h:n<10):P.decN n=[UInt8.ofNat (48+n)]:=by
 rw[decN_eq,Lib.decDigits,dif_pos h]
theorem digit_at(d:Nat)(h:d<10):List.drop d (List.take (d+1) ([48,49,50,51,52,53,54,55,56,57]:P.Bs))=[UInt8.ofNat (48+d)]:=by
 have:∀ d:Fin 10,List.drop d.val (List.take (d.val+1) ([48,49,50,51,52,53,54,55,56,57]:P.Bs))=[UInt8.ofNat (48+d.val)]:=by decide
 exact this ⟨d,h⟩
def zb57:=(zA zG0 (zA @sh_r_decimal.eq_1 (zA @slh_9 (zA @bo_rem @bo_quo))))
def zb58:=(zA zG0 (zA @sh_r_decimal.eq_1 @slh_9))
theorem rDecimalN (w:World):∀ (n:Nat),n≤9223372036854775807->Calls Tryz.prog 88 #[zi (n:Nat)] w fun e w'=>e = .returned (.string (bs (P.decN n)))/\w'=w:=by
 intro n
 induction n using Nat.strongRecOn with
 | _ n ih=>
  intro hn
  refine sh_r_decimal_ok ?_
  have hm:((n:Nat):Int).tmod 10=((n % 10:Nat):Int):=by rw[Int.tmod_eq_emod_of_nonneg (by omega)];omega
  have hq:((n:Nat):Int).tdiv 10=((n / 10:Nat):Int):=by rw[Int.tdiv_eq_ediv_of_nonneg (by omega)];omega
  have e1:((n % 10:Nat):Int).toNat=n % 10:=by omega
  have e2:(((n % 10:Nat):Int)+1).toNat=n % 10+1:=by omega
  have hlt:n % 10<10:=Nat.mod_lt _ (by omega)
  have hd:=digit_at (n % 10) hlt
  simp only[List.take_succ_cons] at hd
  by_cases h10:n<10
  ·have h10':((n:Nat):Int)<10:=by omega
   simp (disch:=first|assumption|omega|simp only[zS]<;>omega|decide) only[zb57,simprocAttr,hm,hq,e1,e2,hd]
   rw[P.decN_one h10,Nat.mod_eq_of_lt h10]
  ·have h10':¬ ((n:Nat):Int)<10:=by omega
   simp (disch:=first|assumption|omega|simp only[zS]<;>omega|decide) only[zb57,simprocAttr,hm,hq,e1,e2,hd]
   refine(ih (n / 10) (by omega) (by omega)).mono ?_
   rintro e w' ⟨rfl,rfl⟩
   simp (disch:=first|assumption|omega|simp only[zS]<;>omega|decide) only[zb58,simprocAttr]
   have hl:(P.decN (n / 10)).length≤19:=P.decN_len (by omega)
   rw[bo_ads _ _ (by simp;omega),P.decN_step h10]
   exact⟨rfl,rfl⟩
theorem rDecimal(n:Int)(h0:-9223372036854775808≤n)(h1:n≤9223372036854775807)(w:World):Calls Tryz.prog 88 #[zi n] w fun e w'=>e = .returned (.string (bs (P.decI n)))/\w'=w:=by
 by_cases hneg:n<0
 ·by_cases hmin:n=-9223372036854775808
  ·subst hmin
   refine sh_r_decimal_ok ?_
   have hw:IntKind.i64.wrap (0 - -9223372036854775808)=-9223372036854775808:=by decide
   simp (disch:=first|assumption|omega|simp only[zS]<;>omega|decide) only[zb58,simprocAttr,hw]
   have:P.decI (-9223372036854775808)=[45,57,50,50,51,51,55,50,48,51,54,56,53,52,55,55,53,56,48,56]:=by
    unfold P.decI
    rw[if_pos (by decide)]
    congr 1
   rw[this]
  ·refine sh_r_decimal_ok ?_
   have hw:IntKind.i64.wrap (0-n)=((n.natAbs:Nat):Int):=by rw[i64w (by omega) (by omega)];omega
   have hne:¬ n=((n.natAbs:Nat):Int):=by omega
   simp (disch:=first|assumption|omega|simp only[zS]<;>omega|decide) only[zb58,simprocAttr,hw]
   refine(rDecimalN w n.natAbs (by omega)).mono ?_
   rintro e w' ⟨rfl,rfl⟩
   simp (disch:=first|assumption|omega|simp only[zS]<;>omega|decide) only[zb58,simprocAttr]
   have hl:(P.decN n.natAbs).length≤19:=P.decN_len (by omega)
   rw[bo_ads _ _ (by simp;omega)]
   unfold P.decI
   rw[if_pos hneg]
   exact⟨rfl,rfl⟩
 ·have e:n=((n.natAbs:Nat):Int):=by omega
  have:=rDecimalN w n.natAbs (by omega)
  rw[<- e] at this
  refine this.mono ?_
  rintro e w' ⟨rfl,rfl⟩
  unfold P.decI
  rw[if_neg hneg]
  exact⟨rfl,rfl⟩
theorem RHp.ty{A:Nat->Prop}{w:World}{hb:Nat}{H:P.Hp}(h:RHp A w hb H){b:Nat}{cs:Array Value}{t:Nat}{z:Nat×Nat}(hb':w.heap[b]?=some (.cells cs t z))
  (ht:t≠93/\t≠5/\t≠9/\t≠2/\t≠83/\t≠3):¬ OwnOf w hb b:=by
 obtain⟨kv,nv,iv,av,tv,rv,ars,hx⟩:=h
 rintro (rfl | ⟨cs',T,g1,u,g2,g3⟩)
 ·rw[hx.q.cell] at hb'
  injection hb' with hb'
  injection hb' with _ hb' _
  exact ht.1 hb'.symm
 ·rw[hx.q.cell] at g1
  injection g1 with g1
  injection g1 with g1 _ _
  subst g1
  simp only[List.mem_append,List.mem_map] at g2
  rcases g2 with⟨r,hr,rfl⟩| g2
  ·have ho:=hx.q.own r hr
   rcases ho.2 with⟨h0,-⟩| ⟨g,cap,cur,q1,q2,q3,-⟩
   ·rw[h0] at g3;cases g3
   ·rw[q1] at g3
    simp only[Value.ownBlock,Option.some.injEq] at g3
    subst g3
    rw[q3] at hb'
    injection hb' with hb'
    injection hb' with _ hb' _
    simp only[List.mem_cons,List.not_mem_nil,or_false] at hr
    rcases hr with rfl | rfl | rfl | rfl | rfl | rfl
    ·exact ht.2.1 hb'.symm
    ·exact ht.2.2.1 hb'.symm
    ·exact ht.2.2.2.1 hb'.symm
    ·exact ht.2.2.2.2.1 hb'.symm
    ·exact ht.2.2.2.2.2 hb'.symm
    ·exact ht.2.2.2.2.2 hb'.symm
  ·rw[hx.q.tl u g2] at g3;cases g3
theorem RHp.keepE{A:Nat->Prop}{w w':World}{hb:Nat}{H:P.Hp}(h:RHp A w hb H)(hf:HFr hb w w')(F:Nat->Prop):Keeps F 111 w w':=fun b _ _ hc=>hf.fr.block b _ hc (h.ty hc (by decide))
theorem P.mades_snoc(vs:List Nat)(x:P.Ex):∀ (l:List P.Ex) (H:P.Hp),(H.mades vs (l++[x])).1=((H.mades vs l).1.made vs x).1/\(H.mades vs (l++[x])).2=(H.mades vs l).2++[((H.mades vs l).1.made vs x).2]
 | [],H=>by simp [P.Hp.mades]
 | y::l,H=>by
  obtain⟨h1,h2⟩:=P.mades_snoc vs x l (H.made vs y).1
  simp [P.Hp.mades,h1,h2]
mutual
theorem P.made_len (vs:List Nat):∀ (x:P.Ex) (H:P.Hp),(H.made vs x).1.nodes.length≤H.nodes.length+P.exSz x
 | .mk kind name n k args,H=>by
  unfold P.Hp.made
  split
  ·simp [P.exSz]
  ·have:=P.mades_len vs args H
   simp only[P.Hp.add,List.length_append,List.length_cons,List.length_nil,P.exSz]
   omega
 termination_by structural x=>x
theorem P.mades_len (vs:List Nat):∀ (l:List P.Ex) (H:P.Hp),(H.mades vs l).1.nodes.length≤H.nodes.length+P.exSzs l
 | [],H=>by simp [P.Hp.mades,P.exSzs]
 | x::xs,H=>by
  have h1:=P.made_len vs x H
  have h2:=P.mades_len vs xs (H.made vs x).1
  simp only[P.Hp.mades,P.exSzs]
  omega
 termination_by structural x=>x
end
theorem P.exSzs_take:∀ (l:List P.Ex) (j:Nat),P.exSzs (l.take j)≤P.exSzs l
 | [],j=>by simp
 | x::xs,0=>by simp [P.exSzs]
 | x::xs,j+1=>by have:=P.exSzs_take xs j;simp only[List.take_succ_cons,P.exSzs];omega
theorem P.exSz_at:∀ (l:List P.Ex) (j:Nat) (hj:j<l.length),P.exSzs (l.take j)+P.exSz l[j]≤P.exSzs l
 | x::xs,0,_=>by simp [P.exSzs]
 | x::xs,j+1,hj=>by
  have:=P.exSz_at xs j (by simpa using hj)
  simp only[List.take_succ_cons,P.exSzs,List.getElem_cons_succ]
  omega
theorem IsRw.at{F:Nat->Prop}{w:World}{et m:Nat}{v:Value}{n:Nat}{vs:List Value}(h:IsRw F w et m v n vs){j:Nat}(hj:j<n):∃ b cap cs,v = .slice (some ⟨b,0,none⟩) n cap/\F b/\w.heap[b]?=some (.cells cs et (0,0)) /\
  m*n≤cs.size/\(cs.toList.drop (m*j)).take m=(vs.drop (m*j)).take m/\n≤9223372036854775807:=by
 rcases h with⟨rfl,-,-⟩| ⟨b,cap,cs,h1,h2,h3,h4,h5,h6⟩
 ·omega
 ·refine⟨b,cap,cs,h1,h2,h3,h4,?_,h6⟩
  have:m*j+m≤m*n:=by
   have:=Nat.mul_le_mul_left m (show j+1≤n by omega)
   rw[Nat.mul_succ] at this
   exact this
  rw[<- h5,List.drop_take,List.take_take,Nat.min_eq_left (by omega)]
def zb59:=(zA zG0 (zA @sh_Pr_Heap_made.eq_1 (zA @br_83_1 (zA @fa_111_0 (zA @fa_111_1 (zA @fa_111_2 (zA @fa_111_3 (zA @fa_111_4 (zA @ix_37 (zA @ix_83 (zA @ld_111 (zA @ld_2 (zA @ld_3 (zA @ld_37 (zA @ld_5 (zA @ld_9 @ln_37))))))))))))))))
set_option maxHeartbeats 2000000 in
theorem rMadeN {vs:List Nat}:∀ (N:Nat) (x:P.Ex),P.exSz x≤N->P.ExOk vs.length x->∀ {A F G:Nat->Prop} {w:World} {hb:Nat} {H:P.Hp} {l:List Value} {vv:Value},RHp A w hb H->(∀ b,w.heap.size≤b->A b)->H.nodes.length+P.exSz x≤100000000 ->
  IsRx F w l x->IsSl G w 3 vv (vs.map fun n=>zi (n:Nat))->(∀ b,G b->¬ OwnOf w hb b) ->
  Calls Tryz.prog 85 #[pp hb,.agg l.toArray,vv] w fun e w'=>e = .returned (zi ((H.made vs x).2:Nat))/\RHp A w' hb (H.made vs x).1/\HFr hb w w'
 | 0,x,hN,_,_,_,_,_,_,_,_,_,_,_,_,_,_,_=>by cases x;simp [P.exSz] at hN
 | N+1,.mk kind name n k args,hN,hok,A,F,G,w,hb,H,l,vv,h,hA,hsz,hx,hvv,hG=>by
  have ih:=rMadeN (vs:=vs) N
  unfold P.ExOk at hok
  obtain⟨o1,o2,o3,o4,o5,o6,o7,o8⟩:=hok
  unfold IsRx at hx
  obtain⟨av,us,rfl,hrw,hxs⟩:=hx
  obtain⟨ra,rc,rfl⟩:=hrw.shape
  unfold P.exSz at hN hsz
  have hl:=h.lt
  refine sh_Pr_Heap_made_ok ?_
  obtain⟨wA,hwA⟩:∃ y,y=w.alloc (.cells #[.int .u8 kind,.string (bs name),zi n,zi k,.slice ra args.length rc] 111):=⟨_,rfl⟩
  have sA:wA.heap.size=w.heap.size+1:=by rw[hwA];simp
  have hEA:Ext w wA:=by rw[hwA];(repeat (first | assumption | exact FrM.refl _ _ | (refine FrM.upd ?_ (.inr (by(try simp only[zS])<;>omega))) | refine FrM.alloc ?_ _ | refine FrM.drew ?_))
  have qA:wA.heap[w.heap.size]?=some (.cells #[.int .u8 kind,.string (bs name),zi n,zi k,.slice ra args.length rc] 111):=by rw[hwA];simp (disch:=first|assumption|omega|simp only[zS]<;>omega|decide) only[zH]
  have hfA:HFr hb w wA:=HFr.ofExt hEA hl
  have hRA:=h.ext hEA
  by_cases h118:kind=118
  ·have h118':(kind:Int)=118:=by omega
   have hkv:=o4 h118
   have hlv:(vs.map fun n=>(zi (n:Nat):Value)).length=vs.length:=by simp
   obtain⟨gb,gcs,rfl,g1,g2,g3⟩:=hvv.at' (j:=k) (by rw[hlv];exact hkv)
   have e3:gcs[k]?=some (zi ((vs.getD k 0:Nat))):=by
    rw[g3];simp [hkv,List.getD_eq_getElem?_getD]
   have ekv:((k:Nat):Int).toNat=k:=by omega
   have g2':=hEA.ext _ _ g2
   rw[hlv]
   simp (disch:=first|assumption|omega|simp only[zS]<;>omega|decide) only[zb59,simprocAttr]
   rw[<- hwA]
   simp (disch:=first|assumption|omega|simp only[zS]<;>omega|decide) only[zb59,simprocAttr,g2',e3,ekv,qA]
   rw[P.Hp.made,if_pos h118]
   exact⟨rfl,hRA,hfA⟩
  ·have h118':¬ (kind:Int)=118:=by omega
   simp (disch:=first|assumption|omega|simp only[zS]<;>omega|decide) only[zb59,simprocAttr]
   rw[<- hwA]
   rw[show H.made vs (.mk kind name n k args)=((H.mades vs args).1.add ⟨kind,name,n,(H.mades vs args).2⟩,(H.mades vs args).1.nodes.length) by rw[P.Hp.made,if_neg h118]]
   refine⟨fun m z w'=>∃ j v,z 8=zi (j:Nat)/\z 7=v/\j≤args.length/\m=args.length-j/\RHp (fun b=>A b/\some b≠v.ownBlock) w' hb (H.mades vs (args.take j)).1/\HFr hb wA w' /\
     w'.ownsRow wA.heap.size 3 1 v j ((H.mades vs (args.take j)).2.map fun n=>zi (n:Nat))/\(∀ k,v.ownBlock=some k->¬ OwnOf w' hb k),
    ⟨_,0,.slice none 0 0,rfl,rfl,Nat.zero_le _,rfl,by simpa [P.Hp.mades] using hRA.mono (B:=fun b=>A b/\some b≠(Value.slice none 0 0).ownBlock) (fun b _ h=>⟨h,by simp [Value.ownBlock]⟩),HFr.refl _ _,World.ownsRow_nil _ _ _ _,fun k hk=>by cases hk⟩,?_⟩
   intro m z d w1 hI
   refine toPr ?_
   obtain⟨j,v,h8,rfl,hj,rfl,h1,hf1,ho1,hn1⟩:=hI
   have s1:=hf1.fr.size
   have hf01:=hfA.trans hf1
   have q1:=hf1.fr.block _ _ qA (hRA.ty qA (by decide))
   have hlen1:=P.mades_len vs (args.take j) H
   have hst:=P.exSzs_take args j
   by_cases hlt:j<args.length
   ·have hse:=P.exSz_at args j hlt
    obtain⟨eb,ecap,ecs,e1,e2,e3,e4,e5,e6⟩:=hrw.at hlt
    simp only[Value.slice.injEq,true_and] at e1
    obtain⟨rfl,rfl⟩:=e1
    have e3':=hf01.fr.block _ _ e3 (h.ty e3 (by decide))
    have hxj:=(IsRxs.at j hlt hxs).mono (fun _ h=>h) (h.keepE hf01 F)
    have ejn:((j:Nat):Int).toNat=j:=by omega
    have emul:j*5=5*j:=by omega
    have hszr:j*5+5≤ecs.size:=by
     have:5*(j+1)≤5*args.length:=Nat.mul_le_mul_left 5 (by omega)
     omega
    simp (disch:=first|assumption|omega|simp only[zS]<;>omega|decide) only[zb59,simprocAttr,h8,q1,e3',ejn]
    rw[show List.take 5 (List.drop (j*5) ecs.toList)=List.take 5 (List.drop (5*j) us) by rw[emul];exact e5]
    have hvv1:IsSl (fun b=>¬ OwnOf w1 hb b) w1 3 vv (vs.map fun n=>zi (n:Nat)):=by
     have:=slKeepH (A:=fun _=>True) hf01 (hvv.mono (F':=fun b=>¬ OwnOf w hb b/\True) (fun b hb=>⟨hG b hb,trivial⟩) fun _ _ _ h=>h)
     exact this.mono (fun b h=>h.1) fun _ _ _ h=>h
    refine Calls.mono (ih args[j] (by omega) (o8.at hlt) h1 (fun b hb'=>⟨hA b (by omega),fun e=>by have:=(ho1.lt b e.symm).2;omega⟩) (by omega) hxj hvv1 (fun _ h=>h)) ?_
    rintro e w2 ⟨rfl,h2,hf2⟩
    have s2:=hf2.fr.size
    have ho2:w2.ownsRow wA.heap.size 3 1 (z 7) j ((H.mades vs (args.take j)).2.map fun n=>zi (n:Nat)):=by
     obtain⟨g0,g1⟩:=ho1
     refine⟨g0,?_⟩
     rcases g1 with g1 | ⟨g,cap,cur,q1,q2,q3,q4⟩
     ·exact .inl g1
     ·exact .inr ⟨g,cap,cur,q1,q2,hf2.fr.block _ _ q3 (hn1 g (by rw[q1];rfl)),q4⟩
    have hn2:∀ k,(z 7).ownBlock=some k->¬ OwnOf w2 hb k:=fun k hk ho=>by
     rcases hf2.own k ho with h | h
     ·exact hn1 k hk h
     ·have:=(ho1.lt k hk).2;omega
    simp (disch:=first|assumption|omega|simp only[zS]<;>omega|decide) only[zb59,simprocAttr,h8]
    obtain⟨m1,m2⟩:=P.mades_snoc vs args[j] (args.take j) H
    rw[List.take_append_getElem hlt] at m1 m2
    rw[<- m1] at h2
    refine wr_appI (A:=A) h2 ho2 hn2 rfl rfl (by omega) (by omega) ?_
    intro v' w3 ho3 h3 hn3 hf3 hk3
    obtain⟨rb,rd,rfl⟩:=own_slice ho3
    simp (disch:=first|assumption|omega|simp only[zS]<;>omega|decide) only[zb59,simprocAttr,h8]
    refine⟨_,by omega,j+1,_,by simp [sOf],by simp [sOf],by omega,rfl,h3,hf3 wA (hf1.trans hf2) (Nat.le_refl _),?_,hn3⟩
    rw[m2,List.map_append]
    exact ho3
   ·have hjn:j=args.length:=by omega
    subst hjn
    rw[List.take_length] at h1 ho1 hlen1
    obtain⟨rb,rd,hz7⟩:=own_slice ho1
    simp (disch:=first|assumption|omega|simp only[zS]<;>omega|decide) only[zb59,simprocAttr,h8,q1]
    refine Calls.mono (rAdd (l:=(H.mades vs args).2) (G:=fun b=>(z 7).ownBlock=some b) (h1.mono fun b _ h=>h.1) (by omega) kind name n (fun b hb'=>⟨hn1 b hb',hA b (by have:=(ho1.lt b hb').1;omega)⟩)
     (own_IsSl ho1 fun b hb'=>hb')) ?_
    rintro e w2 ⟨rfl,h2,hf2⟩
    simp (disch:=first|assumption|omega|simp only[zS]<;>omega|decide) only[zb59,simprocAttr]
    exact⟨h2,hf01.trans hf2⟩
end Go.Proofs.YtilpjhceemaplaaGreatDoor
namespace Go.Proofs.YtilpjhceemaplaaGreatDoor.P
structure Hp.Ok(H:Hp):Prop where
 to:∀ t,t<H.nodes.length->H.toOf t<H.nodes.length
 name:∀ t,t<H.nodes.length->(H.nd t).name.length≤20
 num:∀ t,t<H.nodes.length->-9223372036854775808≤(H.nd t).n/\(H.nd t).n≤9223372036854775807
 kind:∀ t,t<H.nodes.length->(H.nd t).kind=97\/(H.nd t).kind=110\/(H.nd t).kind=118\/(H.nd t).kind=99
 args:∀ t,t<H.nodes.length->(H.nd t).args.length≤100000/\∀ a∈(H.nd t).args,a<H.nodes.length
theorem Hp.walk_lt'{H:Hp}(hc:H.Ok):∀ {f t t':Nat},t<H.nodes.length->H.walk f t=some t'->t'<H.nodes.length
 | 0,t,t',ht,h=>by
  rw[Hp.walk] at h
  split at h
  ·cases h
  ·injection h with h;omega
 | f+1,t,t',ht,h=>by
  rw[Hp.walk] at h
  split at h
  ·refine walk_lt' hc ?_ h
   have:=hc.to t ht
   omega
  ·injection h with h;omega
theorem getD_lt{l:List Nat}{n i:Nat}(h:∀ a∈l,a<n)(hi:i<l.length):l.getD i 0<n:=by
 rw[List.getD_eq_getElem?_getD,List.getElem?_eq_getElem hi]
 exact h _ (List.getElem_mem _)
theorem Hp.power_two{H:Hp}{t:Nat}(h:H.power t≠0):(H.nd t).args.length=2/\H.power t≤2:=by
 unfold Hp.power at h ⊢
 split at h
 ·exact absurd rfl h
 ·rename_i hk
  rw[if_neg hk]
  unfold P.power at h ⊢
  split at h
  ·exact absurd rfl h
  ·rename_i h2
   refine⟨by simpa using h2,?_⟩
   rw[if_neg h2]
   split
   ·omega
   ·split<;>omega
theorem Xb_some{x:Option Xr}{k:Bs->Nat->List Nat->Option Xr}{r:Xr}(h:Xb x k=some r):∃ s c l,x=some (s,c,l)/\k s c l=some r:=by
 unfold Xb at h
 split at h
 ·cases h
 ·exact⟨_,_,_,rfl,h⟩
structure MonH(H:Hp)(f:Nat):Prop where
 text:∀ t least c seen s c' l,H.text f t least c seen=some (s,c',l)->c+1≤c'/\l.length≤seen.length+(c' - c)
 targs:∀ ars first out c seen s c' l,H.targs f ars first out c seen=some (s,c',l)->c≤c'/\l.length≤seen.length+(c' - c)
 list:∀ t out c seen s c' l,H.list f t out c seen=some (s,c',l)->c≤c'/\l.length≤seen.length+(c' - c)
theorem monH(H:Hp):∀ f,MonH H f
 | 0=>⟨fun _ _ _ _ _ _ _ h=>by simp [Hp.text] at h,fun _ _ _ _ _ _ _ _ h=>by simp [Hp.targs] at h,fun _ _ _ _ _ _ _ h=>by simp [Hp.list] at h⟩
 | f+1=>by
  have ih:=monH H f
  refine⟨?_,?_,?_⟩
  ·intro t least c seen s c' l h
   rw[Hp.text] at h
   split at h
   ·simp only[Option.some.injEq,Prod.mk.injEq] at h;obtain⟨-,rfl,rfl⟩:=h;omega
   split at h
   ·cases h
   split at h
   ·simp only[Option.some.injEq,Prod.mk.injEq] at h;obtain⟨-,rfl,rfl⟩:=h;omega
   split at h
   ·simp only[Option.some.injEq,Prod.mk.injEq] at h;obtain⟨-,rfl,rfl⟩:=h;omega
   split at h
   ·split at h
    ·simp only[Option.some.injEq,Prod.mk.injEq] at h;obtain⟨-,rfl,rfl⟩:=h;omega
    ·simp only[Option.some.injEq,Prod.mk.injEq] at h;obtain⟨-,rfl,rfl⟩:=h;simp
   split at h
   ·obtain⟨a,c1,l1,h1,h2⟩:=Xb_some h
    obtain⟨b,c2,l2,h3,h4⟩:=Xb_some h2
    simp only[Option.some.injEq,Prod.mk.injEq] at h4
    obtain⟨-,rfl,rfl⟩:=h4
    have:=ih.text _ _ _ _ _ _ _ h1
    have:=ih.text _ _ _ _ _ _ _ h3
    omega
   split at h
   ·have:=ih.list _ _ _ _ _ _ _ h;omega
   ·have:=ih.targs _ _ _ _ _ _ _ _ h;omega
  ·intro ars first out c seen s c' l h
   cases ars with
   | nil=>
    simp only[Hp.targs,Option.some.injEq,Prod.mk.injEq] at h
    obtain⟨-,rfl,rfl⟩:=h;omega
   | cons a r=>
    rw[Hp.targs] at h
    obtain⟨x,c1,l1,h1,h2⟩:=Xb_some h
    have:=ih.text _ _ _ _ _ _ _ h1
    have:=ih.targs _ _ _ _ _ _ _ _ h2
    omega
  ·intro t out c seen s c' l h
   rw[Hp.list] at h
   obtain⟨x,c1,l1,h1,h2⟩:=Xb_some h
   have:=ih.text _ _ _ _ _ _ _ h1
   split at h2
   ·cases h2
   split at h2
   ·simp only[Option.some.injEq,Prod.mk.injEq] at h2;obtain⟨-,rfl,rfl⟩:=h2;omega
   split at h2
   ·simp only[Option.some.injEq,Prod.mk.injEq] at h2;obtain⟨-,rfl,rfl⟩:=h2;omega
   split at h2
   ·have:=ih.list _ _ _ _ _ _ _ h2;omega
   ·obtain⟨y,c2,l2,h3,h4⟩:=Xb_some h2
    simp only[Option.some.injEq,Prod.mk.injEq] at h4
    obtain⟨-,rfl,rfl⟩:=h4
    have:=ih.text _ _ _ _ _ _ _ h3
    omega
structure LenH(H:Hp)(f:Nat):Prop where
 text:∀ t least c seen s c' l,t<H.nodes.length->seen.length≤c->c'≤100000000000->H.text f t least c seen=some (s,c',l)->s.length+10≤40*(c' - c)
 targs:∀ ars first out c seen s c' l,(∀ a∈ars,a<H.nodes.length)->seen.length≤c->c'≤100000000000->H.targs f ars first out c seen=some (s,c',l)->s.length≤out.length+40*(c' - c)+1
 list:∀ t out c seen s c' l,t<H.nodes.length->(H.nd t).args.length=2->seen.length≤c->c'≤100000000000->H.list f t out c seen=some (s,c',l)->s.length≤out.length+40*(c' - c)
theorem lenH{H:Hp}(hk:H.Ok):∀ f,LenH H f
 | 0=>⟨fun _ _ _ _ _ _ _ _ _ _ h=>by simp [Hp.text] at h,fun _ _ _ _ _ _ _ _ _ _ _ h=>by simp [Hp.targs] at h,fun _ _ _ _ _ _ _ _ _ _ _ h=>by simp [Hp.list] at h⟩
 | f+1=>by
  have ih:=lenH hk f
  have mo:=monH H f
  refine⟨?_,?_,?_⟩
  ·intro t least c seen s c' l ht hs hc h
   rw[Hp.text] at h
   split at h
   ·simp only[Option.some.injEq,Prod.mk.injEq] at h;obtain⟨rfl,rfl,rfl⟩:=h;simp
   split at h
   ·cases h
   rename_i t' hw
   have ht':=Hp.walk_lt' hk ht hw
   split at h
   ·simp only[Option.some.injEq,Prod.mk.injEq] at h;obtain⟨rfl,rfl,rfl⟩:=h
    have:=hk.name _ ht';omega
   split at h
   ·simp only[Option.some.injEq,Prod.mk.injEq] at h;obtain⟨rfl,rfl,rfl⟩:=h
    have:=hk.num _ ht'
    have:=decI_len' this.1 this.2;omega
   split at h
   ·split at h
    ·rename_i k hk2
     have hk3:k<seen.length:=(List.idxOf?_eq_some_iff.1 hk2).1
     simp only[Option.some.injEq,Prod.mk.injEq] at h;obtain⟨rfl,rfl,rfl⟩:=h
     have:=decN_len (n:=k+1) (by omega)
     simp only[List.length_cons];omega
    ·simp only[Option.some.injEq,Prod.mk.injEq] at h;obtain⟨rfl,rfl,rfl⟩:=h
     have:=decN_len (n:=seen.length+1) (by omega)
     simp only[List.length_cons];omega
   have hargs:=hk.args _ ht'
   split at h
   ·rename_i hp
    obtain⟨hl2,-⟩:=Hp.power_two hp
    obtain⟨a,c1,l1,h1,h2⟩:=Xb_some h
    obtain⟨b,c2,l2,h3,h4⟩:=Xb_some h2
    simp only[Option.some.injEq,Prod.mk.injEq] at h4
    obtain⟨rfl,rfl,rfl⟩:=h4
    have m1:=mo.text _ _ _ _ _ _ _ h1
    have m2:=mo.text _ _ _ _ _ _ _ h3
    have e1:=ih.text _ _ _ _ _ _ _ (getD_lt hargs.2 (by omega)) (by omega) (by omega) h1
    have e2:=ih.text _ _ _ _ _ _ _ (getD_lt hargs.2 (by omega)) (by omega) (by omega) h3
    have hn:=hk.name _ ht'
    have hop:(if (H.nd t').name=[109,111,100] then([32,109,111,100,32]:Bs) else(H.nd t').name).length≤20:=by split<;>simp_all
    split
    ·simp only[List.length_cons,List.length_append,List.length_nil];omega
    ·simp only[List.length_append];omega
   split at h
   ·rename_i hl
    have:=ih.list _ _ _ _ _ _ _ ht' hl.2 (by omega) hc h
    have:=mo.list _ _ _ _ _ _ _ h
    simp only[List.length_cons,List.length_nil] at *
    omega
   ·have:=ih.targs _ _ _ _ _ _ _ _ hargs.2 (by omega) hc h
    have:=mo.targs _ _ _ _ _ _ _ _ h
    have:=hk.name _ ht'
    simp only[List.length_append,List.length_cons,List.length_nil] at *
    omega
  ·intro ars first out c seen s c' l ha hs hc h
   cases ars with
   | nil=>
    simp only[Hp.targs,Option.some.injEq,Prod.mk.injEq] at h
    obtain⟨rfl,rfl,rfl⟩:=h;simp
   | cons a r=>
    rw[Hp.targs] at h
    obtain⟨x,c1,l1,h1,h2⟩:=Xb_some h
    have m1:=mo.text _ _ _ _ _ _ _ h1
    have m2:=mo.targs _ _ _ _ _ _ _ _ h2
    have e1:=ih.text _ _ _ _ _ _ _ (ha a (List.mem_cons_self ..)) (by omega) (by omega) h1
    have e2:=ih.targs _ _ _ _ _ _ _ _ (fun b hb=>ha b (List.mem_cons_of_mem _ hb)) (by omega) (by omega) h2
    have:((if first then out else out++[44])++x).length≤out.length+1+x.length:=by split<;>simp<;>omega
    omega
  ·intro t out c seen s c' l ht hl2 hs hc h
   rw[Hp.list] at h
   have hargs:=hk.args _ ht
   obtain⟨x,c1,l1,h1,h2⟩:=Xb_some h
   have m1:=mo.text _ _ _ _ _ _ _ h1
   have e1:=fun hc1=>ih.text _ _ _ _ _ _ _ (getD_lt hargs.2 (by omega)) (by omega) hc1 h1
   split at h2
   ·cases h2
   rename_i r hw
   have hr:=Hp.walk_lt' hk (getD_lt (i:=1) hargs.2 (by omega)) hw
   split at h2
   ·simp only[Option.some.injEq,Prod.mk.injEq] at h2;obtain⟨rfl,rfl,rfl⟩:=h2
    have:=e1 (by omega)
    simp only[List.length_append];omega
   split at h2
   ·simp only[Option.some.injEq,Prod.mk.injEq] at h2;obtain⟨rfl,rfl,rfl⟩:=h2
    have:=e1 (by omega)
    simp only[List.length_append,List.length_cons,List.length_nil];omega
   split at h2
   ·rename_i hd
    have m2:=mo.list _ _ _ _ _ _ _ h2
    have:=e1 (by omega)
    have:=ih.list _ _ _ _ _ _ _ hr hd.2.2 (by omega) hc h2
    simp only[List.length_append,List.length_cons,List.length_nil] at this
    omega
   ·obtain⟨y,c2,l2,h3,h4⟩:=Xb_some h2
    simp only[Option.some.injEq,Prod.mk.injEq] at h4
    obtain⟨rfl,rfl,rfl⟩:=h4
    have m2:=mo.text _ _ _ _ _ _ _ h3
    have:=e1 (by omega)
    have:=ih.text _ _ _ _ _ _ _ hr (by omega) hc h3
    simp only[List.length_append,List.length_cons,List.length_nil]
    omega
end Go.Proofs.YtilpjhceemaplaaGreatDoor.P
namespace Go.Proofs.YtilpjhceemaplaaGreatDoor
open Go.RowKit Sx
section
abbrev TFr(hb wb:Nat)(w w':World):Prop:=FrM (fun b _=>b=hb\/wb≤b) w w'
structure TSx(O:Nat->Prop)(w:World)(hb wb:Nat)(H:P.Hp)(c:Nat)(seen:List Nat)(kv nv iv av tv rv:Value)(ars:List Value)(sv:Value):Prop where
 h:RHx (fun b=>b<wb) w hb { H with cost:=c } kv nv iv av tv rv ars
 lt:∀ b,OwnOf w hb b->O b
 olt:∀ b,O b->b<wb
 cell:w.heap[wb]?=some (.cells #[pp hb,sv] 151)
 own:w.ownsRow (wb+1) 3 1 sv seen.length (seen.map fun n=>zi (n:Nat))
def TSt(O:Nat->Prop)(w:World)(hb wb:Nat)(H:P.Hp)(c:Nat)(seen:List Nat):Prop:=∃ kv nv iv av tv rv ars sv,TSx O w hb wb H c seen kv nv iv av tv rv ars sv
variable{O:Nat->Prop}
section
variable{w w':World}{hb wb:Nat}{H:P.Hp}{c:Nat}{seen:List Nat}{kv nv iv av tv rv:Value}{ars:List Value}{sv:Value}
theorem TSx.hlt(h:TSx O w hb wb H c seen kv nv iv av tv rv ars sv):hb<wb:=h.olt _ (h.lt hb (.inl rfl))
theorem RHx.frT{A:Nat->Prop}{H:P.Hp}(h:RHx A w hb H kv nv iv av tv rv ars)(ho:∀ b,OwnOf w hb b->b<wb)(hA:∀ b,A b->b<wb)(hf:FrM (fun b _=>wb≤b) w w') :
  RHx A w' hb H kv nv iv av tv rv ars/\∀ b,OwnOf w' hb b->OwnOf w hb b:=by
 have hhb:=ho hb (.inl rfl)
 have hcell:=hf.block _ _ h.q.cell (by omega)
 have ho':∀ b,OwnOf w' hb b->OwnOf w hb b:=by
  rintro b (rfl | ⟨cs,T,g1,u,g2,g3⟩)
  ·exact .inl rfl
  ·rw[hcell] at g1
   injection g1 with g1
   injection g1 with g1 _ _
   subst g1
   exact .inr ⟨_,_,h.q.cell,u,g2,g3⟩
 have key:∀ (ds:List P.Nd) (rows:List Value),IsAr (fun b=>¬ OwnOf w hb b/\A b) w rows ds->IsAr (fun b=>¬ OwnOf w' hb b/\A b) w' rows ds:=by
  intro ds
  induction ds with
  | nil=>intro rows h;exact h
  | cons d ds ih=>
   intro rows h
   obtain⟨v,r',h1,h2,h3⟩:=h
   refine⟨v,r',h1,?_,ih r' h3⟩
   rcases h2 with h2 | ⟨b,cs,g1,g2,g3,g4⟩
   ·exact .inl h2
   ·exact .inr ⟨b,cs,g1,⟨fun hx=>g2.1 (ho' b hx),g2.2⟩,hf.block _ _ g3 (by have:=hA b g2.2;omega),g4⟩
 refine⟨⟨⟨hcell,fun a ha=>?_,h.q.dis,h.q.tl⟩,key _ _ h.ar,h.len⟩,ho'⟩
 obtain⟨g0,g1⟩:=h.q.own a ha
 refine⟨g0,?_⟩
 rcases g1 with g1 | ⟨g,cap,cur,q1,q2,q3,q4⟩
 ·exact .inl g1
 ·refine .inr ⟨g,cap,cur,q1,q2,hf.block _ _ q3 ?_,q4⟩
  have:=ho g (.inr ⟨_,_,h.q.cell,a.2.1,by simp only[List.mem_append,List.mem_map];exact .inl ⟨a,ha,rfl⟩,by rw[q1];rfl⟩)
  omega
theorem TSx.ext(h:TSx O w hb wb H c seen kv nv iv av tv rv ars sv)(hE:Ext w w'):TSx O w' hb wb H c seen kv nv iv av tv rv ars sv:=by
 obtain⟨h1,h2⟩:=h.h.frT (fun b hb=>h.olt b (h.lt b hb)) (fun _ h=>h) (FrM.toM (M:=fun b _=>wb≤b) hE)
 exact⟨h1,fun b hb=>h.lt b (h2 b hb),h.olt,hE.ext _ _ h.cell,own_ext hE.ext h.own⟩
theorem TSx.cost(h:TSx O w hb wb H c seen kv nv iv av tv rv ars sv)(c':Nat) :
  TSx O (upd w hb (.cells #[kv,nv,iv,av,tv,rv,zi (c':Nat),zi (H.most:Nat),zi (H.err:Nat)] 93)) hb wb H c' seen kv nv iv av tv rv ars sv:=by
 have hlt:=h.hlt
 have hl:=ltOf h.h.cell
 have ho':∀ b,OwnOf (upd w hb (.cells #[kv,nv,iv,av,tv,rv,zi (c':Nat),zi (H.most:Nat),zi (H.err:Nat)] 93)) hb b->OwnOf w hb b:=by
  rintro b (rfl | ⟨cs,T,g1,u,g2,g3⟩)
  ·exact .inl rfl
  ·rw[hp_upd_same rfl hl] at g1
   injection g1 with g1
   injection g1 with g1 _ _
   subst g1
   refine .inr ⟨_,_,h.h.cell,u,?_,g3⟩
   simp only[List.mem_cons,List.not_mem_nil,or_false] at g2 ⊢
   rcases g2 with rfl | rfl | rfl | rfl | rfl | rfl | rfl | rfl | rfl
   ·simp
   ·simp
   ·simp
   ·simp
   ·simp
   ·simp
   ·cases g3
   ·cases g3
   ·cases g3
 have key:∀ (ds:List P.Nd) (rows:List Value),IsAr (fun b=>¬ OwnOf w hb b/\b<wb) w rows ds->IsAr (fun b=>¬ OwnOf (upd w hb (.cells #[kv,nv,iv,av,tv,rv,zi (c':Nat),zi (H.most:Nat),zi (H.err:Nat)] 93)) hb b/\b<wb)
   (upd w hb (.cells #[kv,nv,iv,av,tv,rv,zi (c':Nat),zi (H.most:Nat),zi (H.err:Nat)] 93)) rows ds:=by
  intro ds
  induction ds with
  | nil=>intro rows h;exact h
  | cons d ds ih=>
   intro rows h
   obtain⟨v,r',h1,h2,h3⟩:=h
   refine⟨v,r',h1,?_,ih r' h3⟩
   rcases h2 with h2 | ⟨b,cs,g1,g2,g3,g4⟩
   ·exact .inl h2
   ·exact .inr ⟨b,cs,g1,⟨fun hx=>g2.1 (ho' b hx),g2.2⟩,by rw[hp_upd_other (fun e=>g2.1 (.inl e))];exact g3,g4⟩
 refine⟨⟨⟨hp_upd_same rfl hl,fun a ha=>own_upd (h.h.q.own a ha) (by omega),h.h.q.dis,fun v hv=>?_⟩,key _ _ h.h.ar,h.h.len⟩,fun b hb'=>h.lt b (ho' b hb'),h.olt,by rw[hp_upd_other (by omega)];exact h.cell,own_upd h.own (by omega)⟩
 simp only[List.mem_cons,List.not_mem_nil,or_false] at hv
 rcases hv with rfl | rfl | rfl<;>rfl
end
def zb60:=(zA zG0 (zA @sh_Pr_writer_power.eq_1 (zA @fa_151_0 (zA @fa_93_0 (zA @fa_93_1 (zA @fa_93_3 (zA @ix_41 (zA @ix_89 (zA @ix_91 (zA @ld_41 (zA @ld_5 (zA @ld_79 (zA @ld_83 (zA @ld_89 (zA @ld_9 (zA @ld_91 @ln_83))))))))))))))))
theorem rPower {w:World} {hb wb:Nat} {H:P.Hp} {c:Nat} {seen:List Nat} (h:TSt O w hb wb H c seen) {t:Nat} (ht:t<H.nodes.length) (hn:H.nodes.length≤1000000000) :
  Calls Tryz.prog 89 #[pp wb,zi (t:Nat)] w fun e w'=>e = .returned (zi (H.power t:Nat))/\w'=w:=by
 obtain⟨kv,nv,iv,av,tv,rv,ars,sv,h⟩:=h
 have hc:=h.h.cell
 have hw:=h.cell
 obtain⟨gk,ck,uk,rfl,k1,k2⟩:=h.h.kd (t:=t) ht
 obtain⟨gn,cn,un,rfl,k3,k4⟩:=h.h.nm (t:=t) ht
 obtain⟨ga,ca,ua,va,rfl,k5,k6,k7⟩:=h.h.an (t:=t) ht
 obtain⟨a1,c1,rfl⟩:=k7.sl
 have e1:((t:Nat):Int).toNat=t:=by omega
 have hnd:P.Hp.nd { H with cost:=c } t=H.nd t:=rfl
 rw[hnd] at k2 k4 k6 k7
 simp only at hc
 refine sh_Pr_writer_power_ok ?_
 unfold P.Hp.power
 have hl:(((H.nd t).args.map fun n=>(zi (n:Nat):Value)).length:Nat)=(H.nd t).args.length:=by simp
 rw[hl] at k6
 refine⟨fun _ w'=>w'=w/\(H.nd t).kind=99/\(H.nd t).args.length=2,?_,?_⟩
 ·refine⟨fun x w'=>w'=w/\x 29 = .bool (decide (¬ ((H.nd t).kind=99/\(H.nd t).args.length=2))),?_,?_⟩
  ·by_cases h1:(H.nd t).kind=99
   ·have h1':(((H.nd t).kind:Nat):Int)=99:=by omega
    simp (disch:=first|assumption|omega|simp only[zS]<;>omega|decide) only[zb60,simprocAttr,hw,hc,k1,k2,k5,k6,e1]
    simp [sOf,h1]
    omega
   ·have h1':¬ (((H.nd t).kind:Nat):Int)=99:=by omega
    simp (disch:=first|assumption|omega|simp only[zS]<;>omega|decide) only[zb60,simprocAttr,hw,hc,k1,k2,e1]
    simp [sOf,h1]
  ·rintro x w' ⟨rfl,hx⟩ d
   rw[hx]
   by_cases h1:(H.nd t).kind=99/\(H.nd t).args.length=2
   ·rw[bs_neg _ _ (by simpa using h1)]
    exact⟨rfl,h1⟩
   ·rw[bs_pos _ _ h1]
    refine⟨?_,rfl⟩
    by_cases h2:(H.nd t).kind=99
    ·have h3:(H.nd t).args.length≠2:=fun h3=>h1 ⟨h2,h3⟩
     rw[if_neg (by simpa using h2)]
     unfold P.power
     rw[if_pos h3]
     rfl
    ·rw[if_pos h2]
     rfl
 ·rintro _ w' ⟨rfl,h1,h2⟩ d
  rw[if_neg (by simpa using h1),h2]
  simp (disch:=first|assumption|omega|simp only[zS]<;>omega|decide) only[zb60,simprocAttr,hw,hc,k3,k4,e1]
  unfold P.power
  rw[if_neg (by simp)]
  refine⟨fun x w''=>w''=w'/\x 40 = .bool (decide ((H.nd t).name=[43]\/(H.nd t).name=[45])),?_,?_⟩
  ·by_cases q1:(H.nd t).name=[43]
   ·simp (disch:=first|assumption|omega|simp only[zS]<;>omega|decide) only[zb60,simprocAttr,q1]
    simp [sOf]
   ·simp (disch:=first|assumption|omega|simp only[zS]<;>omega|decide) only[zb60,simprocAttr,q1]
    simp [sOf,q1]
  ·rintro x w'' ⟨rfl,hx⟩ d
   rw[hx]
   by_cases q1:(H.nd t).name=[43]\/(H.nd t).name=[45]
   ·rw[bs_pos _ _ q1,if_pos q1]
    exact⟨rfl,rfl⟩
   ·rw[bs_neg _ _ q1,if_neg q1]
    refine⟨fun x w'=>w'=w''/\x 43 = .bool (decide ((H.nd t).name=[42]\/(H.nd t).name=[47,47]\/(H.nd t).name=[109,111,100])),?_,?_⟩
    ·by_cases q2:(H.nd t).name=[42]
     ·simp (disch:=first|assumption|omega|simp only[zS]<;>omega|decide) only[zb60,simprocAttr,q2]
      simp [sOf]
     ·by_cases q3:(H.nd t).name=[47,47]
      ·simp (disch:=first|assumption|omega|simp only[zS]<;>omega|decide) only[zb60,simprocAttr,q2,q3]
       simp [sOf]
      ·simp (disch:=first|assumption|omega|simp only[zS]<;>omega|decide) only[zb60,simprocAttr,q2,q3]
       simp [sOf,q2,q3]
    ·rintro x w' ⟨rfl,hx⟩ d
     rw[hx]
     by_cases q2:(H.nd t).name=[42]\/(H.nd t).name=[47,47]\/(H.nd t).name=[109,111,100]
     ·rw[bs_pos _ _ q2,if_pos q2]
      exact⟨rfl,rfl⟩
     ·rw[bs_neg _ _ q2,if_neg q2]
      exact⟨rfl,rfl⟩
end
end Go.Proofs.YtilpjhceemaplaaGreatDoor
namespace Go.Proofs.YtilpjhceemaplaaGreatDoor.P
mutual
def tmSz:Tm->Nat
 | .atom _=>1
 | .int _=>1
 | .var _=>1
 | .comp _ args=>tmsSz args+1
 termination_by structural t=>t
def tmsSz:List Tm->Nat
 | []=>0
 | t::ts=>tmSz t+tmsSz ts
 termination_by structural t=>t
end
structure TotW(f:Nat):Prop where
 tm:∀ t least s,4*tmSz t≤f->tmSz t≤s.fuel->∃ r,wTm [] f t least s=some (some r)/\s.fuel≤r.fuel+tmSz t/\r.fuel≤s.fuel
 comp:∀ name args least s,4*tmsSz args+3≤f->tmsSz args≤s.fuel->∃ r,wComp [] f name args least s=some (some r)/\s.fuel≤r.fuel+tmsSz args/\r.fuel≤s.fuel
 args:∀ c l s,4*tmsSz l+1≤f->tmsSz l≤s.fuel->∃ r,wArgs [] f c l s=some (some r)/\s.fuel≤r.fuel+tmsSz l/\r.fuel≤s.fuel
 list:∀ c a b s,4*(tmSz a+tmSz b)+1≤f->tmSz a+tmSz b≤s.fuel->∃ r,wList [] f c a b s=some (some r)/\s.fuel≤r.fuel+(tmSz a+tmSz b)/\r.fuel≤s.fuel
structure NeW(tr:Tr)(f:Nat):Prop where
 tm:∀ t least s r,TmOk t->wTm tr f t least s=some (some r)->s.out.length<r.out.length
 comp:∀ name args least s r,TmsOk args->wComp tr f name args least s=some (some r)->s.out.length<r.out.length
 args:∀ c l s r,TmsOk l->wArgs tr f c l s=some (some r)->s.out.length≤r.out.length
 list:∀ c a b s r,TmOk a->TmOk b->wList tr f c a b s=some (some r)->s.out.length<r.out.length
theorem add_len(s:Ws)(x:Bs):(s.add x).out.length=s.out.length+x.length:=by simp [Ws.add]
mutual
def Rep (H:Hp) (t:Nat):Tm->Prop
 | .atom s=>t<H.nodes.length/\(H.nd t).kind=97/\(H.nd t).name=s
 | .int n=>t<H.nodes.length/\(H.nd t).kind=110/\(H.nd t).n=n
 | .var i=>t<H.nodes.length/\t=i/\(H.nd t).kind=118/\H.toOf t=-1
 | .comp name args=>t<H.nodes.length/\(H.nd t).kind=99/\(H.nd t).name=name/\args≠[]/\Reps H (H.nd t).args args
 termination_by structural T=>T
def Reps (H:Hp) (l:List Nat):List Tm->Prop
 | []=>l=[]
 | T::r=>∃ t l',l=t::l'/\Rep H t T/\Reps H l' r
 termination_by structural T=>T
end
structure Hp.Le(H H':Hp):Prop where
 len:H.nodes.length≤H'.nodes.length
 nd:∀ t,t<H.nodes.length->H'.nd t=H.nd t
 to:∀ t,t<H.nodes.length->H'.toOf t=H.toOf t
theorem Hp.Le.refl(H:Hp):H.Le H:=⟨Nat.le_refl _,fun _ _=>rfl,fun _ _=>rfl⟩
theorem Hp.Le.trans{A B C:Hp}(h:A.Le B)(k:B.Le C):A.Le C:=
 ⟨Nat.le_trans h.len k.len,fun t ht=>(k.nd t (Nat.lt_of_lt_of_le ht h.len)).trans (h.nd t ht),fun t ht=>(k.to t (Nat.lt_of_lt_of_le ht h.len)).trans (h.to t ht)⟩
def Hp.Ev(H:Hp):Prop:=H.to.length=H.nodes.length
theorem Hp.Le.add{H:Hp}(he:H.Ev)(d:Nd):H.Le (H.add d):=
 ⟨by simp [Hp.add],fun t ht=>by simp [Hp.add,Hp.nd,List.getD_eq_getElem?_getD,List.getElem?_append_left ht],
  fun t ht=>by simp [Hp.add,Hp.toOf,List.getD_eq_getElem?_getD,List.getElem?_append_left (show t<H.to.length by rw[he];exact ht)]⟩
theorem Hp.Ev.add{H:Hp}(he:H.Ev)(d:Nd):(H.add d).Ev:=by unfold Hp.Ev at *;simp [Hp.add,he]
theorem Hp.add_nd(H:Hp)(d:Nd):(H.add d).nd H.nodes.length=d:=by simp [Hp.add,Hp.nd,List.getD_eq_getElem?_getD]
theorem Hp.add_to{H:Hp}(he:H.Ev)(d:Nd):(H.add d).toOf H.nodes.length=-1:=by rw[<- he];simp [Hp.add,Hp.toOf,List.getD_eq_getElem?_getD]
theorem Hp.add_len(H:Hp)(d:Nd):(H.add d).nodes.length=H.nodes.length+1:=by simp [Hp.add]
structure Hp.Co(H H':Hp):Prop where
 cost:H'.cost=H.cost
 most:H'.most=H.most
 err:H'.err=H.err
theorem Hp.Co.refl(H:Hp):H.Co H:=⟨rfl,rfl,rfl⟩
theorem Hp.Co.trans{A B C:Hp}(h:A.Co B)(k:B.Co C):A.Co C:=⟨k.cost.trans h.cost,k.most.trans h.most,k.err.trans h.err⟩
def Hp.Good(H:Hp):Prop:=H.Ok/\H.Ev
theorem Hp.Good.add{H:Hp}(h:H.Good){d:Nd}(h1:d.name.length≤20)(h2:-9223372036854775808≤d.n/\d.n≤9223372036854775807)(h3:d.kind=97\/d.kind=110\/d.kind=118\/d.kind=99)
  (h4:d.args.length≤100000/\∀ a∈d.args,a<H.nodes.length+1):(H.add d).Good:=by
 obtain⟨ho,he⟩:=h
 have hle:=Hp.Le.add he d
 have key:∀ (q:Nat->Nd->Prop),(∀ t,t<H.nodes.length->q t (H.nd t))->q H.nodes.length d->∀ t,t<(H.add d).nodes.length->q t ((H.add d).nd t):=by
  intro q a b t ht
  rw[Hp.add_len] at ht
  by_cases e:t=H.nodes.length
  ·subst e;rw[Hp.add_nd];exact b
  ·rw[hle.nd t (by omega)];exact a t (by omega)
 refine⟨⟨?_,key (fun _ d=>d.name.length≤20) ho.name h1,key (fun _ d=>-9223372036854775808≤d.n/\d.n≤9223372036854775807) ho.num h2,key (fun _ d=>d.kind=97\/d.kind=110\/d.kind=118\/d.kind=99) ho.kind h3,
  key (fun _ d'=>d'.args.length≤100000/\∀ a∈d'.args,a<(H.add d).nodes.length) (fun t ht=>⟨(ho.args t ht).1,fun a ha=>by have:=(ho.args t ht).2 a ha;rw[Hp.add_len];omega⟩) (by rw[Hp.add_len];exact h4)⟩,he.add d⟩
 intro t ht
 rw[Hp.add_len] at ht ⊢
 by_cases e:t=H.nodes.length
 ·subst e;rw[Hp.add_to he];omega
 ·rw[hle.to t (by omega)]
  have:=ho.to t (by omega)
  omega
def Hp.new(most:Nat):Hp:=⟨[],[],[],0,most,0⟩
theorem new_good(m:Nat):(Hp.new m).Good:=⟨⟨fun t ht=>by simp [Hp.new] at ht,fun t ht=>by simp [Hp.new] at ht,fun t ht=>by simp [Hp.new] at ht,fun t ht=>by simp [Hp.new] at ht,fun t ht=>by simp [Hp.new] at ht⟩,rfl⟩
theorem Hp.walk_un{H:Hp}{t:Nat}(h:¬ ((H.nd t).kind=118/\0≤H.toOf t)):∀ g,H.walk g t=some t
 | 0=>by rw[Hp.walk,if_neg h]
 | g+1=>by rw[Hp.walk,if_neg h]
def Hp.compD(H:Hp)(g t least c:Nat)(seen:List Nat):Option Xr:=
 if H.power t≠0 then
  Xb (H.text g ((H.nd t).args.getD 0 0) (H.power t) c seen) fun a c seen=>Xb (H.text g ((H.nd t).args.getD 1 0) (H.power t+1) c seen) fun b c seen=>
   let op:=if (H.nd t).name=[109,111,100] then [32,109,111,100,32] else(H.nd t).name
   some (if H.power t<least then 40::(a++op++b++[41]) else a++op++b,c,seen)
 else if (H.nd t).name=[46]/\(H.nd t).args.length=2 then H.list g t [91] c seen
 else H.targs g (H.nd t).args true ((H.nd t).name++[40]) c seen
theorem Xb_of{x:Option Xr}{k:Bs->Nat->List Nat->Option Xr}{s:Bs}{c:Nat}{l:List Nat}(h:x=some (s,c,l)):Xb x k=k s c l:=by rw[h];rfl
structure EqW(H:Hp)(f:Nat):Prop where
 tm:∀ t T least s r,Rep H t T->wTm [] f T least s=some (some r)->∃ out k,r.out=s.out++out/\s.fuel=r.fuel+k/\∀ c g,c+k≤H.most->f≤g->H.text g t least c s.seen=some (out,c+k,r.seen)
 comp:∀ t name args least s r,Rep H t (.comp name args)->wComp [] f name args least s=some (some r)->∃ out k,r.out=s.out++out/\s.fuel=r.fuel+k/\∀ c g,c+k≤H.most->f≤g->H.compD g t least c s.seen=some (out,c+k,r.seen)
 args:∀ l L s r,Reps H l L->wArgs [] f 44 L s=some (some r)->∃ out k,r.out=s.out++out/\s.fuel=r.fuel+k/\∀ c g o,c+k≤H.most->f≤g->H.targs g l false o c s.seen=some (o++out++[41],c+k,r.seen)
 args0:∀ l L s r,Reps H l L->L≠[]->wArgs [] f 40 L s=some (some r)->∃ out k,r.out=s.out++40::out/\s.fuel=r.fuel+k/\∀ c g o,c+k≤H.most->f≤g->H.targs g l true o c s.seen=some (o++out++[41],c+k,r.seen)
 list:∀ t a b sep s r,Rep H t (.comp [46] [a,b])->wList [] f sep a b s=some (some r)->∃ out k,r.out=s.out++sep::out/\s.fuel=r.fuel+k/\∀ c g o,c+k≤H.most->f≤g->H.list g t o c s.seen=some (o++out,c+k,r.seen)
def Hp.bind(H:Hp)(v t:Nat):Hp:={ H with to:=H.to.set v (t:Int),trail:=H.trail++[v] }
def Hp.unb(H:Hp)(v:Nat):Hp:={ H with to:=H.to.set v (-1),trail:=H.trail.dropLast }
def Hp.costs(H:Hp)(c:Nat):Hp:={ H with cost:=c }
def Hp.Wk(H:Hp):Prop:=∀ t,∃ f t',H.walk f t=some t'
structure Hp.Fit(H:Hp):Prop where
 ok:H.Ok
 ev:H.Ev
 wk:H.Wk
 tr:∀ v∈H.trail,v<H.nodes.length
theorem Hp.walk_eq{H H':Hp}(h:∀ t,((H'.nd t).kind=118/\0≤H'.toOf t)↔((H.nd t).kind=118/\0≤H.toOf t))(h2:∀ t,0≤H.toOf t->H'.toOf t=H.toOf t):∀ f t,H'.walk f t=H.walk f t
 | 0,t=>by
  rw[Hp.walk,Hp.walk]
  by_cases e:(H.nd t).kind=118/\0≤H.toOf t
  ·rw[if_pos e,if_pos ((h t).2 e)]
  ·rw[if_neg e,if_neg (fun x=>e ((h t).1 x))]
 | f+1,t=>by
  rw[Hp.walk,Hp.walk]
  by_cases e:(H.nd t).kind=118/\0≤H.toOf t
  ·rw[if_pos e,if_pos ((h t).2 e),h2 t e.2]
   exact walk_eq h h2 f _
  ·rw[if_neg e,if_neg (fun x=>e ((h t).1 x))]
theorem Hp.walk_end{H:Hp}:∀ {f t t':Nat},H.walk f t=some t'->¬ ((H.nd t').kind=118/\0≤H.toOf t')
 | 0,t,t',h=>by
  rw[Hp.walk] at h
  split at h
  ·cases h
  ·injection h with h;subst h;assumption
 | f+1,t,t',h=>by
  rw[Hp.walk] at h
  split at h
  ·exact walk_end h
  ·injection h with h;subst h;assumption
theorem toOf_set{H:Hp}{v:Nat}{z:Int}(hv:v<H.to.length)(t:Nat):(H.to.set v z).getD t (-1)=if t=v then z else H.to.getD t (-1):=by
 rw[List.getD_eq_getElem?_getD,List.getElem?_set]
 by_cases e:v=t
 ·subst e;simp [hv]
 ·rw[if_neg e,if_neg (fun h=>e h.symm),List.getD_eq_getElem?_getD]
theorem Hp.walk_bind{H:Hp}{v t:Nat}(hv:v<H.to.length)(hu:¬ 0≤H.toOf v)(ht:¬ ((H.nd t).kind=118/\0≤H.toOf t))(hne:v≠t):∀ {f x y:Nat},H.walk f x=some y->∃ y',(H.bind v t).walk (f+1) x=some y'
 | f,x,y,h=>by
  have hto:∀ x,(H.bind v t).toOf x=if x=v then(t:Int) else H.toOf x:=fun x=>toOf_set hv x
  have hnd:∀ x,(H.bind v t).nd x=H.nd x:=fun _=>rfl
  have hend:∀ g,(H.bind v t).walk g t=some t:=fun g=>Hp.walk_un (by rw[hnd,hto,if_neg (fun e=>hne e.symm)];exact ht) g
  rw[Hp.walk,hnd,hto]
  by_cases e:x=v
  ·rw[if_pos e]
   split
   ·rw[Int.toNat_natCast];exact⟨_,hend _⟩
   ·exact⟨_,rfl⟩
  ·rw[if_neg e]
   by_cases hb:(H.nd x).kind=118/\0≤H.toOf x
   ·rw[if_pos hb]
    cases f with
    | zero=>rw[Hp.walk,if_pos hb] at h;cases h
    | succ f=>
     rw[Hp.walk,if_pos hb] at h
     exact walk_bind hv hu ht hne h
   ·rw[if_neg hb];exact⟨_,rfl⟩
theorem Hp.walk_unb{H:Hp}{v:Nat}(hv:v<H.to.length):∀ {f x y:Nat},H.walk f x=some y->∃ y',(H.unb v).walk f x=some y'
 | f,x,y,h=>by
  have hto:∀ x,(H.unb v).toOf x=if x=v then(-1:Int) else H.toOf x:=fun x=>toOf_set hv x
  have hnd:∀ x,(H.unb v).nd x=H.nd x:=fun _=>rfl
  by_cases e:x=v
  ·exact⟨x,Hp.walk_un (by rw[hto,if_pos e];omega) f⟩
  ·cases f with
   | zero=>
    rw[Hp.walk] at h ⊢
    rw[hnd,hto,if_neg e]
    split at h
    ·cases h
    ·rename_i hb;rw[if_neg hb];exact⟨_,rfl⟩
   | succ f=>
    rw[Hp.walk] at h ⊢
    rw[hnd,hto,if_neg e]
    split at h
    ·rename_i hb;rw[if_pos hb];exact walk_unb hv h
    ·rename_i hb;rw[if_neg hb];exact⟨_,rfl⟩
theorem Hp.Fit.bind{H:Hp}(h:H.Fit){v t:Nat}(hv:v<H.nodes.length)(ht:t<H.nodes.length)(hu:¬ 0≤H.toOf v)(hr:¬ ((H.nd t).kind=118/\0≤H.toOf t))(hne:v≠t):(H.bind v t).Fit:=by
 have hv':v<H.to.length:=by rw[h.ev];exact hv
 have hto:∀ x,(H.bind v t).toOf x=if x=v then(t:Int) else H.toOf x:=fun x=>toOf_set hv' x
 refine⟨⟨fun x hx=>?_,h.ok.name,h.ok.num,h.ok.kind,h.ok.args⟩,?_,fun x=>?_,fun x hx=>?_⟩
 ·rw[hto]
  show _<((H.nodes.length:Nat):Int)
  split
  ·omega
  ·exact h.ok.to x hx
 ·unfold Hp.Ev;simp only[Hp.bind,List.length_set];exact h.ev
 ·obtain⟨f,y,hy⟩:=h.wk x
  obtain⟨y',hy'⟩:=Hp.walk_bind hv' hu hr hne hy
  exact⟨_,_,hy'⟩
 ·simp only[Hp.bind,List.mem_append,List.mem_singleton] at hx
  rcases hx with hx | rfl
  ·exact h.tr x hx
  ·exact hv
theorem Hp.Fit.unb{H:Hp}(h:H.Fit){v:Nat}(hv:v<H.nodes.length):(H.unb v).Fit:=by
 have hv':v<H.to.length:=by rw[h.ev];exact hv
 have hto:∀ x,(H.unb v).toOf x=if x=v then(-1:Int) else H.toOf x:=fun x=>toOf_set hv' x
 refine⟨⟨fun x hx=>?_,h.ok.name,h.ok.num,h.ok.kind,h.ok.args⟩,?_,fun x=>?_,fun x hx=>?_⟩
 ·rw[hto]
  show _<((H.nodes.length:Nat):Int)
  split
  ·omega
  ·exact h.ok.to x hx
 ·unfold Hp.Ev;simp only[Hp.unb,List.length_set];exact h.ev
 ·obtain⟨f,y,hy⟩:=h.wk x
  obtain⟨y',hy'⟩:=Hp.walk_unb hv' hy
  exact⟨_,_,hy'⟩
 ·exact h.tr x ((List.dropLast_sublist _).subset hx)
theorem Hp.walk_same{H H':Hp}(h1:H'.nodes=H.nodes)(h2:H'.to=H.to)(f t:Nat):H'.walk f t=H.walk f t:=by
 refine Hp.walk_eq (fun t=>?_) (fun t _=>?_) f t
 ·unfold Hp.nd Hp.toOf;rw[h1,h2]
 ·unfold Hp.toOf;rw[h2]
theorem Hp.Fit.same{H H':Hp}(h:H.Fit)(h1:H'.nodes=H.nodes)(h2:H'.to=H.to)(h3:H'.trail=H.trail):H'.Fit:=by
 have hn:∀ t,H'.nd t=H.nd t:=fun t=>by unfold Hp.nd;rw[h1]
 have ht:∀ t,H'.toOf t=H.toOf t:=fun t=>by unfold Hp.toOf;rw[h2]
 refine⟨⟨fun x hx=>?_,fun x hx=>?_,fun x hx=>?_,fun x hx=>?_,fun x hx=>?_⟩,?_,fun x=>?_,fun x hx=>?_⟩
 ·rw[ht,h1];rw[h1] at hx;exact h.ok.to x hx
 ·rw[hn];rw[h1] at hx;exact h.ok.name x hx
 ·rw[hn];rw[h1] at hx;exact h.ok.num x hx
 ·rw[hn];rw[h1] at hx;exact h.ok.kind x hx
 ·rw[hn,h1];rw[h1] at hx;exact h.ok.args x hx
 ·unfold Hp.Ev;rw[h1,h2];exact h.ev
 ·obtain⟨f,y,hy⟩:=h.wk x
  exact⟨f,y,by rw[Hp.walk_same h1 h2];exact hy⟩
 ·rw[h1];rw[h3] at hx;exact h.tr x hx
theorem Hp.Fit.good{H:Hp}(h:H.Fit):H.Good:=⟨h.ok,h.ev⟩
theorem Hp.Fit.add{H:Hp}(h:H.Fit){d:Nd}(h1:d.name.length≤20)(h2:-9223372036854775808≤d.n/\d.n≤9223372036854775807)(h3:d.kind=97\/d.kind=110\/d.kind=118\/d.kind=99)
  (h4:d.args.length≤100000/\∀ a∈d.args,a<H.nodes.length+1):(H.add d).Fit:=by
 obtain⟨g1,g2⟩:=h.good.add h1 h2 h3 h4
 have hto:∀ t,(H.add d).toOf t=H.toOf t:=fun t=>by
  unfold Hp.toOf Hp.add
  simp only[List.getD_eq_getElem?_getD]
  by_cases e:t<H.to.length
  ·rw[List.getElem?_append_left e]
  ·rw[List.getElem?_append_right (by omega),List.getElem?_eq_none (l:=H.to) (by omega)]
   by_cases e2:t-H.to.length=0
   ·rw[e2];rfl
   ·rw[List.getElem?_eq_none (by simp;omega)]
 refine⟨g1,g2,fun x=>?_,fun x hx=>?_⟩
 ·obtain⟨f,y,hy⟩:=h.wk x
  refine⟨f,y,?_⟩
  rw[Hp.walk_eq (H:=H) (fun t=>?_) (fun t _=>hto t)]
  ·exact hy
  ·rw[hto]
   by_cases e:t<H.nodes.length
   ·rw[(Hp.Le.add h.ev d).nd t e]
   ·have:¬ 0≤H.toOf t:=by
     unfold Hp.toOf
     rw[List.getD_eq_getElem?_getD,List.getElem?_eq_none (by rw[h.ev];omega)]
     decide
    exact⟨fun hh=>absurd hh.2 this,fun hh=>absurd hh.2 this⟩
 ·rw[Hp.add_len];have:=h.tr x hx;omega
theorem fresh_fit:∀ (n:Nat) (H:Hp),H.Fit->(H.fresh n).1.Fit/\H.Co (H.fresh n).1/\H.Le (H.fresh n).1/\(H.fresh n).1.trail=H.trail/\(H.fresh n).1.nodes.length=H.nodes.length+n/\(H.fresh n).2.length=n/\∀ a∈(H.fresh n).2,a<H.nodes.length+n
 | 0,H,hf=>⟨hf,Hp.Co.refl _,Hp.Le.refl _,rfl,rfl,rfl,fun a ha=>by simp [Hp.fresh] at ha⟩
 | n+1,H,hf=>by
  obtain⟨g1,g2,g3,g4,g5,g6,g7⟩:=fresh_fit n _ (hf.add (d:=⟨118,[],0,[]⟩) (by simp) (by simp) (by simp) (by simp))
  rw[Hp.add_len] at g5 g7
  unfold Hp.fresh
  dsimp only
  refine⟨g1,(⟨rfl,rfl,rfl⟩:H.Co (H.add _)).trans g2,(Hp.Le.add hf.ev _).trans g3,g4,by omega,by simp [g6],fun a ha=>?_⟩
  rcases List.mem_cons.1 ha with rfl | ha
  ·omega
  ·have:=g7 a ha;omega
mutual
theorem made_fit {vs:List Nat}:∀ (x:Ex) (H:Hp),ExOk vs.length x->H.Fit->(∀ v∈vs,v<H.nodes.length)->(H.made vs x).1.Fit/\H.Le (H.made vs x).1/\H.Co (H.made vs x).1/\(H.made vs x).1.trail=H.trail/\(H.made vs x).2<(H.made vs x).1.nodes.length
 | .mk kind name n k args,H,hok,hg,hv=>by
  unfold ExOk at hok
  obtain⟨h1,h2,h3,h4,h5,h6,h7,h8⟩:=hok
  unfold Hp.made
  by_cases e:kind=118
  ·rw[if_pos e]
   exact⟨hg,Hp.Le.refl _,Hp.Co.refl _,rfl,getD_lt hv (h4 e)⟩
  ·rw[if_neg e]
   obtain⟨g1,g2,g3,g4,g5,g6⟩:=mades_fit args H h8 hg hv
   dsimp only
   refine⟨g1.add (by simp only;omega) (by simp only;omega) (by simpa using h3) ⟨by simp only;rw[g6];omega,fun a ha=>by have:=g5 a ha;omega⟩,g2.trans (Hp.Le.add g1.ev _),g3.trans ⟨rfl,rfl,rfl⟩,g4,by rw[Hp.add_len];omega⟩
 termination_by structural x=>x
theorem mades_fit {vs:List Nat}:∀ (l:List Ex) (H:Hp),ExsOk vs.length l->H.Fit->(∀ v∈vs,v<H.nodes.length)->(H.mades vs l).1.Fit/\H.Le (H.mades vs l).1/\H.Co (H.mades vs l).1/\(H.mades vs l).1.trail=H.trail /\
  (∀ a∈(H.mades vs l).2,a<(H.mades vs l).1.nodes.length)/\(H.mades vs l).2.length=l.length
 | [],H,_,hg,_=>by
  unfold Hp.mades
  exact⟨hg,Hp.Le.refl _,Hp.Co.refl _,rfl,by simp,rfl⟩
 | x::xs,H,hok,hg,hv=>by
  unfold ExsOk at hok
  obtain⟨g1,g2,g3,g4,g5⟩:=made_fit x H hok.1 hg hv
  obtain⟨q1,q2,q3,q4,q5,q6⟩:=mades_fit xs (H.made vs x).1 hok.2 g1 (fun v hm=>Nat.lt_of_lt_of_le (hv v hm) g2.len)
  unfold Hp.mades
  dsimp only
  refine⟨q1,g2.trans q2,g3.trans q3,by rw[q4,g4],fun a ha=>?_,by simp [q6]⟩
  rcases List.mem_cons.1 ha with rfl | ha
  ·exact Nat.lt_of_lt_of_le g5 q2.len
  ·exact q5 a ha
 termination_by structural x=>x
end
end Go.Proofs.YtilpjhceemaplaaGreatDoor.P
namespace Go.Proofs.YtilpjhceemaplaaGreatDoor
open Go.RowKit Sx
theorem own_updne{w:World}{base e n g:Nat}{v:Value}{xs:List Value}{o:Obj}(h:w.ownsRow base e 1 v n xs)(hne:v.ownBlock≠some g):(upd w g o).ownsRow base e 1 v n xs:=by
 refine⟨h.1,?_⟩
 rcases h.2 with h1 | ⟨b,cap,cur,rfl,h2,h3,h4⟩
 ·exact .inl h1
 ·exact .inr ⟨b,cap,cur,rfl,h2,by rw[hp_upd_other (fun e=>hne (by subst e;rfl))];exact h3,h4⟩
theorem map_set_same{rows:List Row}{i e:Nat}{v:Value}{xs ys:List Value}(hi:rows[i]?=some (e,v,xs)):(rows.set i (e,v,ys)).map (·.2.1)=rows.map (·.2.1):=by
 apply List.ext_getElem?
 intro j
 rw[List.getElem?_map,List.getElem?_map,List.getElem?_set]
 by_cases h:i=j
 ·subst h
  rw[if_pos rfl,hi,if_pos (List.getElem?_eq_some_iff.1 hi).1]
  rfl
 ·rw[if_neg h]
theorem set_at{rows:List Row}{i e:Nat}{v:Value}{xs ys:List Value}(hi:rows[i]?=some (e,v,xs)){k:Nat}{a:Row}(ha:(rows.set i (e,v,ys))[k]?=some a):∃ a',rows[k]?=some a'/\a'.2.1=a.2.1:=by
 by_cases h:i=k
 ·subst h
  rw[List.getElem?_set_self (List.getElem?_eq_some_iff.1 hi).1] at ha
  injection ha with ha
  subst ha
  exact⟨_,hi,rfl⟩
 ·rw[List.getElem?_set_ne h] at ha
  exact⟨a,ha,rfl⟩
theorem QR.setAt{w:World}{hb T:Nat}{rows:List Row}{tail:List Value}(h:QR w hb T rows tail){i e n c g j:Nat}{xs:List Value}(hi:rows[i]?=some (e,.slice (some ⟨g,0,none⟩) n c,xs))(hj:j<xs.length){cur:Array Value}
  (hg:w.heap[g]?=some (.cells cur e (0,0))) (u:Value) :
  QR (upd w g (.cells (cur.setIfInBounds j u) e (0,0))) hb T (rows.set i (e,.slice (some ⟨g,0,none⟩) n c,xs.set j u)) tail/\HFr hb w (upd w g (.cells (cur.setIfInBounds j u) e (0,0))):=by
 have hmem:(e,.slice (some ⟨g,0,none⟩) n c,xs)∈rows:=List.mem_of_getElem? hi
 have ho:=h.own _ hmem
 have hlt:=ho.lt g rfl
 have lg:=ltOf hg
 have hcell:(upd w g (.cells (cur.setIfInBounds j u) e (0,0))).heap[hb]?=some (.cells (rows.map (·.2.1)++tail).toArray T (0,0)):=by rw[hp_upd_other (by omega)];exact h.cell
 refine⟨⟨by rw[map_set_same hi];exact hcell,fun r hr=>?_,fun p q a b hpq ha hb'=>?_,h.tl⟩,⟨⟨rfl,rfl,rfl,by rw[size_upd];exact Nat.le_refl _,fun b o hbo hm=>?_⟩,fun b hb'=>?_⟩⟩
 ·rw[List.mem_iff_getElem?] at hr
  obtain⟨k,hk⟩:=hr
  by_cases hik:i=k
  ·subst hik
   rw[List.getElem?_set_self (List.getElem?_eq_some_iff.1 hi).1] at hk
   injection hk with hk
   subst hk
   obtain⟨h0,h1⟩:=ho
   refine⟨by simp,?_⟩
   rcases h1 with⟨h1,-⟩| ⟨g',cap,cur',h1,h2,h3,h4,h5,h6,h7⟩
   ·cases h1
   ·simp only[Value.slice.injEq,Option.some.injEq,Addr.mk.injEq,and_true] at h1
    obtain⟨rfl,rfl,rfl⟩:=h1
    rw[hg] at h3
    injection h3 with h3
    injection h3 with h3 _ _
    subst h3
    refine .inr ⟨g,c,_,by simp only[List.length_set],h2,hp_upd_same rfl lg,by simp only[List.length_set];exact h4,h5,by simpa using h6,?_⟩
    simp only[Nat.mul_one,List.length_set] at h7 ⊢
    simp only[Array.toList_setIfInBounds]
    rw[List.take_set,h7]
  ·rw[List.getElem?_set_ne hik] at hk
   refine own_updne (h.own _ (List.mem_of_getElem? hk)) fun e1=>?_
   rcases h.dis i k _ _ hik hi hk with h1 | h1
   ·cases h1
   ·exact h1 e1.symm
 ·obtain⟨a',ha1,ha2⟩:=set_at hi ha
  obtain⟨b',hb1,hb2⟩:=set_at hi hb'
  have:=h.dis p q a' b' hpq ha1 hb1
  unfold Row.Dis at this ⊢
  rw[<- ha2,<- hb2]
  exact this
 ·rw[hp_upd_other (fun e1=>hm ?_)]
  ·exact hbo
  ·subst e1
   refine .inr ⟨_,_,h.cell,.slice (some ⟨b,0,none⟩) n c,?_,rfl⟩
   simp only[List.mem_append,List.mem_map]
   exact .inl ⟨_,hmem,rfl⟩
 ·rcases hb' with rfl | ⟨cs,T',h1,h2⟩
  ·exact .inl (.inl rfl)
  ·rw[hcell] at h1
   injection h1 with h1
   injection h1 with h1 _ _
   subst h1
   exact .inl (.inr ⟨_,_,h.cell,h2⟩)
theorem QR.cut{w:World}{hb T:Nat}{rows:List Row}{tail:List Value}(h:QR w hb T rows tail){i e n c g k:Nat}{xs:List Value}(hi:rows[i]?=some (e,.slice (some ⟨g,0,none⟩) n c,xs))(hk:k≤n)
  {l3:List Value} (hl3:(rows.set i (e,.slice (some ⟨g,0,none⟩) k c,xs.take k)).map (·.2.1)++tail=l3) :
  QR (upd w hb (.cells l3.toArray T (0,0))) hb T (rows.set i (e,.slice (some ⟨g,0,none⟩) k c,xs.take k)) tail/\HFr hb w (upd w hb (.cells l3.toArray T (0,0))):=by
 have hmem:(e,.slice (some ⟨g,0,none⟩) n c,xs)∈rows:=List.mem_of_getElem? hi
 have hil:=(List.getElem?_eq_some_iff.1 hi).1
 have ho:=h.own _ hmem
 have hlt:=ho.lt g rfl
 have lb:=ltOf h.cell
 subst hl3
 have hat:∀ {q:Nat} {a:Row},(rows.set i (e,.slice (some ⟨g,0,none⟩) k c,xs.take k))[q]?=some a->∃ a',rows[q]?=some a'/\a'.2.1.ownBlock=a.2.1.ownBlock:=by
  intro q a ha
  by_cases hq:i=q
  ·subst hq
   rw[List.getElem?_set_self hil] at ha
   injection ha with ha
   subst ha
   exact⟨_,hi,rfl⟩
  ·rw[List.getElem?_set_ne hq] at ha
   exact⟨a,ha,rfl⟩
 refine⟨⟨hp_upd_same rfl lb,fun r hr=>?_,fun p q a b hpq ha hb'=>?_,h.tl⟩,⟨⟨rfl,rfl,rfl,by rw[size_upd];exact Nat.le_refl _,fun b o hbo hm=>?_⟩,fun b hb'=>?_⟩⟩
 ·rw[List.mem_iff_getElem?] at hr
  obtain⟨q,hq⟩:=hr
  by_cases hik:i=q
  ·subst hik
   rw[List.getElem?_set_self hil] at hq
   injection hq with hq
   subst hq
   obtain⟨h0,h1⟩:=ho
   refine own_upd ?_ (by omega)
   refine⟨by simp,?_⟩
   rcases h1 with⟨h1,-⟩| ⟨g',cap,cur',h1,h2,h3,h4,h5,h6,h7⟩
   ·cases h1
   ·simp only[Value.slice.injEq,Option.some.injEq,Addr.mk.injEq,and_true] at h1
    obtain⟨rfl,rfl,rfl⟩:=h1
    have hk':k≤xs.length:=hk
    have hkl:(xs.take k).length=k:=by rw[List.length_take];omega
    refine .inr ⟨g,c,cur',by rw[hkl],h2,h3,Nat.le_trans (Nat.le_of_eq hkl) (Nat.le_trans hk' h4),h5,h6,?_⟩
    simp only[Nat.mul_one] at h7 ⊢
    rw[hkl,<- h7,List.take_take,Nat.min_eq_left hk']
  ·rw[List.getElem?_set_ne hik] at hq
   exact own_upd (h.own _ (List.mem_of_getElem? hq)) (by omega)
 ·obtain⟨a',ha1,ha2⟩:=hat ha
  obtain⟨b',hb1,hb2⟩:=hat hb'
  have:=h.dis p q a' b' hpq ha1 hb1
  unfold Row.Dis at this ⊢
  rw[<- ha2,<- hb2]
  exact this
 ·exact(hp_upd_other (fun e1=>hm (.inl e1))).trans hbo
 ·rcases hb' with rfl | ⟨cs,T',h1,u,hu,hub⟩
  ·exact .inl (.inl rfl)
  ·rw[hp_upd_same rfl lb] at h1
   injection h1 with h1
   injection h1 with h1 _ _
   subst h1
   simp only[List.mem_append,List.mem_map] at hu
   rcases hu with⟨r,hr,rfl⟩| hu
   ·rw[List.mem_iff_getElem?] at hr
    obtain⟨q,hq⟩:=hr
    obtain⟨a',ha1,ha2⟩:=hat hq
    refine .inl (.inr ⟨_,_,h.cell,a'.2.1,?_,ha2.trans hub⟩)
    simp only[List.mem_append,List.mem_map]
    exact .inl ⟨_,List.mem_of_getElem? ha1,rfl⟩
   ·rw[h.tl u hu] at hub;cases hub
end Go.Proofs.YtilpjhceemaplaaGreatDoor
namespace Go.Proofs.YtilpjhceemaplaaGreatDoor
open Go.Proofs.YtilpjhceemaplaaGreatDoor.Sx
section
variable{p0 p1 p2 p3 p4 p5 p6 p7:Value}{w:World}{R:Ending->World->Prop}
def sh_Pr_Heap_bind(p0 p1 p2:Value)(w:World)(R:Ending->World->Prop):Prop:=
 xH 93 4 83 p0 w R fun x9=>
 xrI 83 x9 p1 w R fun x12=>
 xuS 3 x12 p2 w R fun w1=>
 xH 93 5 83 p0 w1 R fun x17=>
 WR Tryz.prog (Instr.buildSlice 83 1 #[(0,p1)]) w1 (fun x19 v1=>
 WR Tryz.prog (Builtin.append_ #[83,83] 83 #[x17,x19]) v1 (fun x20 v2=>
 NC p0 fun x21=>
 xrF 93 x21 5 v2 R fun x22=>
 xuS 83 x22 x20 v2 R fun v3=>
 R (.returned (.tuple #[])) v3) (PX R)) (PX R)
theorem sh_Pr_Heap_bind_ok(h:sh_Pr_Heap_bind p0 p1 p2 w R):Calls Tryz.prog 146 #[p0,p1,p2] w R:=
 cq (args:=[p0,p1,p2]) (good (fun _=>[]) (fun _=>none) (fun _=>0) (fun _=>none) (fun _=>[]) (fun _=>[]) (fun _=>false) (fun _=>false)) Tryz.func146 rfl (by kernel_rfl) (by kernel_rfl) h
def sh_Pr_Heap_undo(p0 p1:Value)(w:World)(R:Ending->World->Prop):Prop:=
 LoopW (fun rec s d w1=>
 xH 93 5 83 p0 w1 R fun x8=>
 xrN 83 x8 w1 R fun x9=>
 xrT .gtr 3 9 10 x9 p1 w1 R fun x11=>
 BS x11 (xH 93 5 83 p0 w1 R fun x15=>
 xrN 83 x15 w1 R fun x16=>
 xrO .sub 3 16 x16 (.int .i64 1) w1 R fun x17=>
 nH 93 4 83 p0 w1.drew fun x21=>
 nH 93 5 83 p0 w1.drew fun x25=>
 nrI 83 x25 x17 w1.drew fun x27=>
 nrL 3 x27 w1.drew fun x28=>
 nrI 83 x21 x28 w1.drew fun x29=>
 xuS 3 x29 (.int .i64 (-1)) w1.drew R fun v1=>
 xH 93 5 83 p0 v1 R fun x34=>
 RD Tryz.prog (Instr.sliceAt 83 x34 none (some x17) none) v1 (fun x36=>
 NC p0 fun x37=>
 xrF 93 x37 5 v1 R fun x38=>
 xuS 83 x38 x36 v1 R fun v2=>
 rec (sOf []) v2) (PX R)) (R (.returned (.tuple #[])) w1))
 (sOf []) w
theorem sh_Pr_Heap_undo_ok(h:sh_Pr_Heap_undo p0 p1 w R):Calls Tryz.prog 48 #[p0,p1] w R:=
 cq (args:=[p0,p1]) (good (zL [(0,[])]) (fun _=>none) (zN [(2,12)]) (fun _=>none) (zL [(0,[])]) (fun _=>[]) (fun _=>false) (zT [11])) Tryz.func48 rfl (by kernel_rfl) (by kernel_rfl) h
def sh_Pr_Heap_in(p0 p1 p2:Value)(w:World)(R:Ending->World->Prop):Prop:=
 xH 93 6 3 p0 w R fun x13=>
 xrO .add 3 13 x13 (.int .i64 1) w R fun x14=>
 NC p0 fun x15=>
 xrF 93 x15 6 w R fun x16=>
 xuS 3 x16 x14 w R fun w1=>
 xC 46 #[p0] w1 R fun x18 v1=>
 BS x18 (R (.returned (.bool false)) v1) (xC 87 #[p0,p2] v1 R fun x22 v2=>
 xrT .eql 3 23 24 x22 p1 v2 R fun x25=>
 BS x25 (R (.returned (.bool true)) v2) (xH 93 0 89 p0 v2 R fun x29=>
 xrI 89 x29 x22 v2 R fun x31=>
 xrL 5 x31 v2 R fun x32=>
 xrO .neq 5 32 x32 (.int .u8 99) v2 R fun x33=>
 BS x33 (R (.returned (.bool false)) v2) (LoopW (fun rec s d v3=>
 xH 93 3 91 p0 v3 R fun x38=>
 xrI 91 x38 x22 v3 R fun x40=>
 xrL 83 x40 v3 R fun x41=>
 xrN 83 x41 v3 R fun x42=>
 xrT .lss 3 34 42 (s 8) x42 v3 R fun x43=>
 BS x43 (xH 93 3 91 p0 v3 R fun x51=>
 xrI 91 x51 x22 v3 R fun x53=>
 xrL 83 x53 v3 R fun x54=>
 xrI 83 x54 (s 8) v3 R fun x56=>
 xrL 3 x56 v3 R fun x57=>
 xC 145 #[p0,p1,x57] v3 R fun x58 v4=>
 BS x58 (R (.returned (.bool true)) v4) (xrO .add 3 44 (s 8) (.int .i64 1) v4 R fun x45=>
 rec (sOf [(8,x45)]) v4)) (R (.returned (.bool false)) v3))
 (sOf [(8,(.int .i64 0))]) v2)))
theorem sh_Pr_Heap_in_ok(h:sh_Pr_Heap_in p0 p1 p2 w R):Calls Tryz.prog 145 #[p0,p1,p2] w R:=
 cq (args:=[p0,p1,p2]) (good (zL [(11,[8])]) (fun _=>none) (fun _=>0) (fun _=>none) (zL [(11,[])]) (fun _=>[]) (fun _=>false) (zT [6,7,9,18,19,25,33,43,58,59])) Tryz.func145 rfl (by kernel_rfl) (by kernel_rfl) h
def sh_Pr_Heap_set(p0 p1 p2:Value)(w:World)(R:Ending->World->Prop):Prop:=
 xC 145 #[p0,p1,p2] w R fun x11 w1=>
 BS x11 (R (.returned (.bool false)) w1) (xC 146 #[p0,p1,p2] w1 R fun x16 v1=>
 R (.returned (.bool true)) v1)
theorem sh_Pr_Heap_set_ok(h:sh_Pr_Heap_set p0 p1 p2 w R):Calls Tryz.prog 120 #[p0,p1,p2] w R:=
 cq (args:=[p0,p1,p2]) (good (fun _=>[]) (fun _=>none) (fun _=>0) (fun _=>none) (fun _=>[]) (fun _=>[]) (fun _=>false) (zT [6,7,11,12])) Tryz.func120 rfl (by kernel_rfl) (by kernel_rfl) h
def sh_Pr_Heap_same(p0 p1 p2:Value)(w:World)(R:Ending->World->Prop):Prop:=
 nH 93 0 89 p0 w.drew fun x10=>
 nrI 89 x10 p1 w.drew fun x12=>
 nrL 5 x12 w.drew fun x13=>
 nH 93 0 89 p0 w.drew fun x17=>
 nrI 89 x17 p2 w.drew fun x19=>
 nrL 5 x19 w.drew fun x20=>
 nrT .eql 5 13 20 x13 x20 w.drew fun x21=>BS x21 (
 nH 93 1 41 p0 w.drew fun x26=>
 nrI 41 x26 p1 w.drew fun x28=>
 nrL 9 x28 w.drew fun x29=>
 nH 93 1 41 p0 w.drew fun x33=>
 nrI 41 x33 p2 w.drew fun x35=>
 nrL 9 x35 w.drew fun x36=>
 nrT .eql 9 29 36 x29 x36 w.drew fun x37=>BS x37 (
 nH 93 2 90 p0 w.drew fun x43=>
 nrI 90 x43 p1 w.drew fun x45=>
 nrL 2 x45 w.drew fun x46=>
 nH 93 2 90 p0 w.drew fun x50=>
 nrI 90 x50 p2 w.drew fun x52=>
 nrL 2 x52 w.drew fun x53=>
 nrT .eql 2 46 53 x46 x53 w.drew fun x54=>BS x54 (
 nH 93 3 91 p0 w.drew fun x60=>
 nrI 91 x60 p1 w.drew fun x62=>
 nrL 83 x62 w.drew fun x63=>
 nrN 83 x63 w.drew fun x64=>
 nH 93 3 91 p0 w.drew fun x68=>
 nrI 91 x68 p2 w.drew fun x70=>
 nrL 83 x70 w.drew fun x71=>
 nrN 83 x71 w.drew fun x72=>
 nrT .eql 3 64 72 x64 x72 w.drew fun x73=>
 R (.returned x73) w.drew) (
 R (.returned (.bool false)) w.drew)) (
 R (.returned (.bool false)) w.drew)) (
 R (.returned (.bool false)) w.drew)
theorem sh_Pr_Heap_same_ok(h:sh_Pr_Heap_same p0 p1 p2 w R):Calls Tryz.prog 121 #[p0,p1,p2] w R:=
 cq (args:=[p0,p1,p2]) (good (fun _=>[]) (fun _=>none) (zN [(1,69)]) (fun _=>none) (fun _=>[]) (fun _=>[]) (fun _=>false) (zT [6,73,74])) Tryz.func121 rfl (by kernel_rfl) (by kernel_rfl) h
def sh_Pr_Heap_Unify(p0 p1 p2 p3:Value)(w:World)(R:Ending->World->Prop):Prop:=
 xH 93 6 3 p0 w R fun x15=>
 xrO .add 3 15 x15 (.int .i64 1) w R fun x16=>
 NC p0 fun x17=>
 xrF 93 x17 6 w R fun x18=>
 xuS 3 x18 x16 w R fun w1=>
 xC 46 #[p0] w1 R fun x20 v1=>
 BS x20 (R (.returned (.bool false)) v1) (xC 87 #[p0,p1] v1 R fun x24 v2=>
 xC 87 #[p0,p2] v2 R fun x27 v3=>
 xrT .eql 3 28 29 x24 x27 v3 R fun x30=>
 BS x30 (R (.returned (.bool true)) v3) (JS (fun j=>
 JS (fun j_1=>
 xH 93 0 89 p0 v3 R fun x34=>
 xrI 89 x34 x24 v3 R fun x36=>
 xrL 5 x36 v3 R fun x37=>
 xrO .eql 5 37 x37 (.int .u8 118) v3 R fun x38=>BS x38 (
 j_1 (sOf [(48,(.bool true))]) v3) (
 xH 93 0 89 p0 v3 R fun x43=>
 xrI 89 x43 x27 v3 R fun x45=>
 xrL 5 x45 v3 R fun x46=>
 xrO .eql 5 46 x46 (.int .u8 118) v3 R fun x47=>
 j_1 (sOf [(48,x47)]) v3))
 (fun s_1 d_1 v5=>
 BS (s_1 48) (BS p3 (R (.returned (.bool false)) v5) (xH 93 0 89 p0 v5 R fun x53=>
 xrI 89 x53 x24 v5 R fun x55=>
 xrL 5 x55 v5 R fun x56=>
 xrO .eql 5 56 x56 (.int .u8 118) v5 R fun x57=>
 BS x57 (xC 120 #[p0,x24,x27] v5 R fun x61 v6=>
 R (.returned x61) v6) (xC 120 #[p0,x27,x24] v5 R fun x65 v7=>
 R (.returned x65) v7))) (j (sOf []) v5)))
 (fun s d v4=>
 xC 121 #[p0,x24,x27] v4 R fun x69 v8=>
 RD Tryz.prog (Op.unary .not x69) v8 (fun x71=>
 BS x71 (R (.returned (.bool false)) v8) (LoopW (fun rec s_2 d_2 v9=>
 xH 93 3 91 p0 v9 R fun x76=>
 xrI 91 x76 x24 v9 R fun x78=>
 xrL 83 x78 v9 R fun x79=>
 xrN 83 x79 v9 R fun x80=>
 xrT .lss 3 72 80 (s_2 11) x80 v9 R fun x81=>
 BS x81 (nH 93 3 91 p0 v9.drew fun x88=>
 nrI 91 x88 x24 v9.drew fun x90=>
 nrL 83 x90 v9.drew fun x91=>
 nrI 83 x91 (s_2 11) v9.drew fun x93=>
 nrL 3 x93 v9.drew fun x94=>
 nH 93 3 91 p0 v9.drew fun x98=>
 nrI 91 x98 x27 v9.drew fun x100=>
 nrL 83 x100 v9.drew fun x101=>
 nrI 83 x101 (s_2 11) v9.drew fun x103=>
 nrL 3 x103 v9.drew fun x104=>
 xC 86 #[p0,x94,x104,p3] v9.drew R fun x106 v10=>
 RD Tryz.prog (Op.unary .not x106) v10 (fun x108=>
 BS x108 (R (.returned (.bool false)) v10) (xrO .add 3 82 (s_2 11) (.int .i64 1) v10 R fun x83=>
 rec (sOf [(11,x83)]) v10)) (PX R)) (R (.returned (.bool true)) v9))
 (sOf [(11,(.int .i64 0))]) v8)) (PX R))))
theorem sh_Pr_Heap_Unify_ok(h:sh_Pr_Heap_Unify p0 p1 p2 p3 w R):Calls Tryz.prog 86 #[p0,p1,p2,p3] w R:=
 cq (args:=[p0,p1,p2,p3]) (good (zL [(19,[11])]) (zO [(9000,[48]),(14005,[])]) (zN [(21,22)]) (fun _=>none) (zL [(19,[])]) (zL [(9000,[]),(14005,[])]) (zT [9000,14005]) (zT [3,8,9,10,20,21,30,47,48,49,57,61,65,69,70,71,81,105,106,107,108])) Tryz.func86 rfl (by kernel_rfl) (by kernel_rfl) h
def sh_Pr_Heap_value(p0 p1:Value)(w:World)(R:Ending->World->Prop):Prop:=
 xH 93 6 3 p0 w R fun x14=>
 xrO .add 3 14 x14 (.int .i64 1) w R fun x15=>
 NC p0 fun x16=>
 xrF 93 x16 6 w R fun x17=>
 xuS 3 x17 x15 w R fun w1=>
 xC 46 #[p0] w1 R fun x19 v1=>
 BS x19 (R (.returned (.int .i64 0)) v1) (xC 87 #[p0,p1] v1 R fun x23 v2=>
 xH 93 0 89 p0 v2 R fun x27=>
 xrI 89 x27 x23 v2 R fun x29=>
 xrL 5 x29 v2 R fun x30=>
 xrO .eql 5 30 x30 (.int .u8 110) v2 R fun x32=>
 BS x32 (xH 93 2 90 p0 v2 R fun x36=>
 xrI 90 x36 x23 v2 R fun x38=>
 xrL 2 x38 v2 R fun x39=>
 R (.returned x39) v2) (xrO .eql 5 30 x30 (.int .u8 118) v2 R fun x41=>
 BS x41 (NC p0 fun x43=>
 xrF 93 x43 8 v2 R fun x44=>
 xuS 32 x44 (.int .i64 7) v2 R fun v3=>
 R (.returned (.int .i64 0)) v3) (xH 93 1 41 p0 v2 R fun x48=>
 xrI 41 x48 x23 v2 R fun x50=>
 xrL 9 x50 v2 R fun x51=>
 JS (fun j=>
 xrO .eql 9 52 x51 (.string (bs [43])) v2 R fun x53=>BS x53 (
 j (sOf [(7,(.bool true))]) v2) (
 xrO .eql 9 55 x51 (.string (bs [45])) v2 R fun x56=>BS x56 (
 j (sOf [(7,(.bool true))]) v2) (
 xrO .eql 9 59 x51 (.string (bs [42])) v2 R fun x60=>BS x60 (
 j (sOf [(7,(.bool true))]) v2) (
 xrO .eql 9 63 x51 (.string (bs [47,47])) v2 R fun x64=>BS x64 (
 j (sOf [(7,(.bool true))]) v2) (
 xrO .eql 9 67 x51 (.string (bs [109,111,100])) v2 R fun x68=>
 j (sOf [(7,x68)]) v2)))))
 (fun s d v4=>
 JS (fun j_1=>
 JS (fun j_2=>
 xH 93 0 89 p0 v4 R fun x73=>
 xrI 89 x73 x23 v4 R fun x75=>
 xrL 5 x75 v4 R fun x76=>
 xrO .neq 5 76 x76 (.int .u8 99) v4 R fun x77=>BS x77 (
 j_2 (sOf [(92,(.bool true))]) v4) (
 xH 93 3 91 p0 v4 R fun x82=>
 xrI 91 x82 x23 v4 R fun x84=>
 xrL 83 x84 v4 R fun x85=>
 xrN 83 x85 v4 R fun x86=>
 xrO .neq 3 86 x86 (.int .i64 2) v4 R fun x87=>BS x87 (
 j_2 (sOf [(92,(.bool true))]) v4) (
 RD Tryz.prog (Op.unary .not (s 7)) v4 (fun x91=>
 j_2 (sOf [(92,x91)]) v4) (PX R))))
 (fun s_2 d_2 v6=>
 BS (s_2 92) (NC p0 fun x94=>
 xrF 93 x94 8 v6 R fun x95=>
 xuS 32 x95 (.int .i64 8) v6 R fun v7=>
 R (.returned (.int .i64 0)) v7) (j_1 (sOf []) v6)))
 (fun s_1 d_1 v5=>
 xH 93 3 91 p0 v5 R fun x100=>
 xrI 91 x100 x23 v5 R fun x102=>
 xrL 83 x102 v5 R fun x103=>
 xrI 83 x103 (.int .i64 0) v5 R fun x104=>
 xrL 3 x104 v5 R fun x105=>
 xC 144 #[p0,x105] v5 R fun x106 v8=>
 xH 93 3 91 p0 v8 R fun x111=>
 xrI 91 x111 x23 v8 R fun x113=>
 xrL 83 x113 v8 R fun x114=>
 xrI 83 x114 (.int .i64 1) v8 R fun x115=>
 xrL 3 x115 v8 R fun x116=>
 xC 144 #[p0,x116] v8 R fun x117 v9=>
 xC 46 #[p0] v9 R fun x119 v10=>
 BS x119 (R (.returned (.int .i64 0)) v10) (xrO .eql 9 121 x51 (.string (bs [43])) v10 R fun x123=>
 BS x123 (xrT .add 2 124 125 x106 x117 v10 R fun x126=>
 R (.returned x126) v10) (xrO .eql 9 121 x51 (.string (bs [45])) v10 R fun x128=>
 BS x128 (xrT .sub 2 129 130 x106 x117 v10 R fun x131=>
 R (.returned x131) v10) (xrO .eql 9 121 x51 (.string (bs [42])) v10 R fun x133=>
 BS x133 (xrT .mul 2 134 135 x106 x117 v10 R fun x136=>
 R (.returned x136) v10) (xrO .eql 2 137 x117 (.int .i64 0) v10 R fun x138=>
 BS x138 (NC p0 fun x140=>
 xrF 93 x140 8 v10 R fun x141=>
 xuS 32 x141 (.int .i64 9) v10 R fun v11=>
 R (.returned (.int .i64 0)) v11) (xrO .eql 2 142 x117 (.int .i64 (-1)) v10 R fun x143=>
 BS x143 (xrO .eql 9 144 x51 (.string (bs [47,47])) v10 R fun x145=>
 BS x145 (RD Tryz.prog (Op.unary .neg x106) v10 (fun x147=>
 R (.returned x147) v10) (PX R)) (R (.returned (.int .i64 0)) v10)) (xrO .eql 9 148 x51 (.string (bs [47,47])) v10 R fun x149=>
 BS x149 (xrT .quo 2 150 151 x106 x117 v10 R fun x152=>
 R (.returned x152) v10) (xrT .rem 2 153 154 x106 x117 v10 R fun x155=>
 JS (fun j_3=>
 JS (fun j_4=>
 xrO .lss 2 156 x155 (.int .i64 0) v10 R fun x157=>BS x157 (
 xrO .gtr 2 159 x117 (.int .i64 0) v10 R fun x160=>BS x160 (
 j_4 (sOf [(169,(.bool true))]) v10) (
 xrO .gtr 2 163 x155 (.int .i64 0) v10 R fun x164=>BS x164 (
 xrO .lss 2 166 x117 (.int .i64 0) v10 R fun x167=>
 j_4 (sOf [(169,x167)]) v10) (
 j_4 (sOf [(169,(.bool false))]) v10))) (
 xrO .gtr 2 163 x155 (.int .i64 0) v10 R fun x164_1=>BS x164_1 (
 xrO .lss 2 166 x117 (.int .i64 0) v10 R fun x167_1=>
 j_4 (sOf [(169,x167_1)]) v10) (
 j_4 (sOf [(169,(.bool false))]) v10)))
 (fun s_4 d_4 v13=>
 BS (s_4 169) (xrT .add 2 170 171 x155 x117 v13 R fun x172=>
 j_3 (sOf [(10,x172)]) v13) (j_3 (sOf [(10,x155)]) v13)))
 (fun s_3 d_3 v12=>
 R (.returned (s_3 10)) v12)))))))))))))
theorem sh_Pr_Heap_value_ok(h:sh_Pr_Heap_value p0 p1 w R):Calls Tryz.prog 144 #[p0,p1] w R:=
 cq (args:=[p0,p1]) (good (fun _=>[]) (zO [(13000,[7]),(14000,[92]),(16002,[]),(39000,[169]),(40001,[10])]) (fun _=>0) (fun _=>none) (fun _=>[]) (zL [(13000,[]),(14000,[]),(16002,[]),(39000,[]),(40001,[])]) (zT [13000,14000,16002,39000,40001]) (zT [5,7,19,20,31,32,40,41,68,69,90,91,92,119,120,122,123,127,128,132,133,138,143,145,149,167,168,169])) Tryz.func144 rfl (by kernel_rfl) (by kernel_rfl) h
def sh_Pr_Heap_Test(p0 p1 p2:Value)(w:World)(R:Ending->World->Prop):Prop:=
 JS (fun j=>
 xrO .eql 9 16 p1 (.string (bs [116,114,117,101])) w R fun x18=>
 BS x18 (R (.returned (.bool true)) w) (xrO .eql 9 16 p1 (.string (bs [102,97,105,108])) w R fun x20=>
 BS x20 (R (.returned (.bool false)) w) (xrO .eql 9 16 p1 (.string (bs [61])) w R fun x22=>
 BS x22 (nrI 83 p2 (.int .i64 0) w.drew fun x25=>
 nrL 3 x25 w.drew fun x26=>
 nrI 83 p2 (.int .i64 1) w.drew fun x28=>
 nrL 3 x28 w.drew fun x29=>
 xC 86 #[p0,x26,x29,(.bool false)] w.drew R fun x30 v1=>
 R (.returned x30) v1) (xrO .eql 9 16 p1 (.string (bs [92,61])) w R fun x32=>
 BS x32 (xH 93 5 83 p0 w R fun x36=>
 xrN 83 x36 w R fun x37=>
 nrI 83 p2 (.int .i64 0) w.drew fun x40=>
 nrL 3 x40 w.drew fun x41=>
 nrI 83 p2 (.int .i64 1) w.drew fun x43=>
 nrL 3 x43 w.drew fun x44=>
 xC 86 #[p0,x41,x44,(.bool false)] w.drew R fun x45 v2=>
 xC 48 #[p0,x37] v2 R fun x48 v3=>
 RD Tryz.prog (Op.unary .not x45) v3 (fun x50=>
 R (.returned x50) v3) (PX R)) (xrO .eql 9 16 p1 (.string (bs [61,61])) w R fun x52=>
 BS x52 (nrI 83 p2 (.int .i64 0) w.drew fun x55=>
 nrL 3 x55 w.drew fun x56=>
 nrI 83 p2 (.int .i64 1) w.drew fun x58=>
 nrL 3 x58 w.drew fun x59=>
 xC 86 #[p0,x56,x59,(.bool true)] w.drew R fun x60 v4=>
 R (.returned x60) v4) (xrO .eql 9 16 p1 (.string (bs [105,115])) w R fun x62=>
 BS x62 (xrI 83 p2 (.int .i64 1) w R fun x65=>
 xrL 3 x65 w R fun x66=>
 xC 144 #[p0,x66] w R fun x67 v5=>
 xC 46 #[p0] v5 R fun x69 v6=>
 BS x69 (R (.returned (.bool false)) v6) (xC 45 #[p0,(.int .u8 110),(.string (bs [])),x67,(.slice none 0 0)] v6 R fun x73 v7=>
 xrI 83 p2 (.int .i64 0) v7 R fun x76=>
 xrL 3 x76 v7 R fun x77=>
 xC 86 #[p0,x77,x73,(.bool false)] v7 R fun x79 v8=>
 R (.returned x79) v8)) (JS (fun j_1=>
 xrO .eql 9 16 p1 (.string (bs [118,97,114])) w R fun x81=>
 BS x81 (j_1 (sOf [(80,x81)]) w) (xrO .eql 9 16 p1 (.string (bs [110,111,110,118,97,114])) w R fun x82=>
 BS x82 (j_1 (sOf [(80,x82)]) w) (xrO .eql 9 16 p1 (.string (bs [97,116,111,109])) w R fun x83=>
 BS x83 (j_1 (sOf [(80,x83)]) w) (xrO .eql 9 16 p1 (.string (bs [105,110,116,101,103,101,114])) w R fun x84=>
 j_1 (sOf [(80,x84)]) w))))
 (fun s_1 d_1 v9=>
 BS (s_1 80) (HD fun S=>S v9.drew /\
 NC p0 fun x86=>
 sG 93 0 89 x86 S fun x88=>
 nrI 83 p2 (.int .i64 0) v9.drew fun x91=>
 nrL 3 x91 v9.drew fun x92=>
 nC 87 #[p0,x92] v9.drew fun x93 v10=>
 S v10 /\
 nrI 89 x88 x93 v10 fun x94=>
 nrL 5 x94 v10 fun x95=>
 xrO .eql 9 96 p1 (.string (bs [118,97,114])) v10 R fun x97=>BS x97 (
 xrO .eql 5 99 x95 (.int .u8 118) v10 R fun x100=>BS x100 (
 R (.returned (.bool true)) v10) (
 xrO .eql 9 103 p1 (.string (bs [110,111,110,118,97,114])) v10 R fun x104=>BS x104 (
 xrO .neq 5 106 x95 (.int .u8 118) v10 R fun x107=>BS x107 (
 R (.returned (.bool true)) v10) (
 xrO .eql 9 111 p1 (.string (bs [97,116,111,109])) v10 R fun x112=>BS x112 (
 xrO .eql 5 114 x95 (.int .u8 97) v10 R fun x115=>BS x115 (
 R (.returned (.bool true)) v10) (
 xrO .eql 9 119 p1 (.string (bs [105,110,116,101,103,101,114])) v10 R fun x120=>BS x120 (
 xrO .eql 5 122 x95 (.int .u8 110) v10 R fun x123=>
 R (.returned x123) v10) (
 R (.returned (.bool false)) v10))) (
 xrO .eql 9 119 p1 (.string (bs [105,110,116,101,103,101,114])) v10 R fun x120_1=>BS x120_1 (
 xrO .eql 5 122 x95 (.int .u8 110) v10 R fun x123_1=>
 R (.returned x123_1) v10) (
 R (.returned (.bool false)) v10)))) (
 xrO .eql 9 111 p1 (.string (bs [97,116,111,109])) v10 R fun x112_1=>BS x112_1 (
 xrO .eql 5 114 x95 (.int .u8 97) v10 R fun x115_1=>BS x115_1 (
 R (.returned (.bool true)) v10) (
 xrO .eql 9 119 p1 (.string (bs [105,110,116,101,103,101,114])) v10 R fun x120_2=>BS x120_2 (
 xrO .eql 5 122 x95 (.int .u8 110) v10 R fun x123_2=>
 R (.returned x123_2) v10) (
 R (.returned (.bool false)) v10))) (
 xrO .eql 9 119 p1 (.string (bs [105,110,116,101,103,101,114])) v10 R fun x120_3=>BS x120_3 (
 xrO .eql 5 122 x95 (.int .u8 110) v10 R fun x123_3=>
 R (.returned x123_3) v10) (
 R (.returned (.bool false)) v10))))) (
 xrO .eql 9 103 p1 (.string (bs [110,111,110,118,97,114])) v10 R fun x104_1=>BS x104_1 (
 xrO .neq 5 106 x95 (.int .u8 118) v10 R fun x107_1=>BS x107_1 (
 R (.returned (.bool true)) v10) (
 xrO .eql 9 111 p1 (.string (bs [97,116,111,109])) v10 R fun x112_2=>BS x112_2 (
 xrO .eql 5 114 x95 (.int .u8 97) v10 R fun x115_2=>BS x115_2 (
 R (.returned (.bool true)) v10) (
 xrO .eql 9 119 p1 (.string (bs [105,110,116,101,103,101,114])) v10 R fun x120_4=>BS x120_4 (
 xrO .eql 5 122 x95 (.int .u8 110) v10 R fun x123_4=>
 R (.returned x123_4) v10) (
 R (.returned (.bool false)) v10))) (
 xrO .eql 9 119 p1 (.string (bs [105,110,116,101,103,101,114])) v10 R fun x120_5=>BS x120_5 (
 xrO .eql 5 122 x95 (.int .u8 110) v10 R fun x123_5=>
 R (.returned x123_5) v10) (
 R (.returned (.bool false)) v10)))) (
 xrO .eql 9 111 p1 (.string (bs [97,116,111,109])) v10 R fun x112_3=>BS x112_3 (
 xrO .eql 5 114 x95 (.int .u8 97) v10 R fun x115_3=>BS x115_3 (
 R (.returned (.bool true)) v10) (
 xrO .eql 9 119 p1 (.string (bs [105,110,116,101,103,101,114])) v10 R fun x120_6=>BS x120_6 (
 xrO .eql 5 122 x95 (.int .u8 110) v10 R fun x123_6=>
 R (.returned x123_6) v10) (
 R (.returned (.bool false)) v10))) (
 xrO .eql 9 119 p1 (.string (bs [105,110,116,101,103,101,114])) v10 R fun x120_7=>BS x120_7 (
 xrO .eql 5 122 x95 (.int .u8 110) v10 R fun x123_7=>
 R (.returned x123_7) v10) (
 R (.returned (.bool false)) v10))))) (j (sOf []) v9)))))))))
 (fun s d w1=>
 xrI 83 p2 (.int .i64 0) w1 R fun x128=>
 xrL 3 x128 w1 R fun x129=>
 xC 144 #[p0,x129] w1 R fun x130 v11=>
 xC 46 #[p0] v11 R fun x132 v12=>
 BS x132 (R (.returned (.bool false)) v12) (xrI 83 p2 (.int .i64 1) v12 R fun x136=>
 xrL 3 x136 v12 R fun x137=>
 xC 144 #[p0,x137] v12 R fun x138 v13=>
 xrO .eql 9 139 p1 (.string (bs [60])) v13 R fun x141=>
 BS x141 (xrT .lss 2 142 143 x130 x138 v13 R fun x144=>
 R (.returned x144) v13) (xrO .eql 9 139 p1 (.string (bs [62])) v13 R fun x146=>
 BS x146 (xrT .gtr 2 147 148 x130 x138 v13 R fun x149=>
 R (.returned x149) v13) (xrO .eql 9 139 p1 (.string (bs [61,60])) v13 R fun x151=>
 BS x151 (xrT .leq 2 152 153 x130 x138 v13 R fun x154=>
 R (.returned x154) v13) (xrO .eql 9 139 p1 (.string (bs [62,61])) v13 R fun x156=>
 BS x156 (xrT .geq 2 157 158 x130 x138 v13 R fun x159=>
 R (.returned x159) v13) (xrT .eql 2 160 161 x130 x138 v13 R fun x162=>
 R (.returned x162) v13))))))
theorem sh_Pr_Heap_Test_ok(h:sh_Pr_Heap_Test p0 p1 p2 w R):Calls Tryz.prog 119 #[p0,p1,p2] w R:=
 cq (args:=[p0,p1,p2]) (good (fun _=>[]) (zO [(25003,[80]),(27026,[])]) (zN [(7,7),(10,7),(14,7)]) (zO [(26,[0,0,1,2,3,4,5,6,7,8,9,10,11])]) (fun _=>[]) (zL [(25003,[]),(27026,[])]) (zT [25003,27026]) (zT [6,8,10,14,17,18,19,20,21,22,30,31,32,45,49,50,51,52,60,61,62,69,70,79,80,81,82,83,84,123,124,125,132,133,140,141,144,145,146,149,150,151,154,155,156,159,162])) Tryz.func119 rfl (by kernel_rfl) (by kernel_rfl) h
end
end Go.Proofs.YtilpjhceemaplaaGreatDoor
namespace Go.Proofs.YtilpjhceemaplaaGreatDoor
open Go.RowKit Sx
theorem tosV_bind(H:P.Hp)(v t:Nat):tosV (H.bind v t)=(tosV H).set v (zi (t:Nat)):=by simp [tosV,P.Hp.bind,List.map_set]
theorem trsV_bind(H:P.Hp)(v t:Nat):trsV (H.bind v t)=trsV H++[zi (v:Nat)]:=by simp [trsV,P.Hp.bind]
theorem tosV_unb(H:P.Hp)(v:Nat):tosV (H.unb v)=(tosV H).set v (zi (-1)):=by simp [tosV,P.Hp.unb,List.map_set]
theorem trsV_unb(H:P.Hp)(v:Nat):trsV (H.unb v)=(trsV H).take (H.trail.length-1):=by simp [trsV,P.Hp.unb,List.dropLast_eq_take]
def zb61:=(zA zG0 (zA @sh_Pr_Heap_bind.eq_1 (zA @br_83_1 (zA @fa_93_4 (zA @fa_93_5 (zA @ix_83 (zA @ld_83 (zA @st_3 @st_83))))))))
set_option maxHeartbeats 1000000 in
theorem rBind {A:Nat->Prop} {w:World} {hb:Nat} {H:P.Hp} (h:RHp A w hb H) {v t:Nat} (hv:v<H.nodes.length) (ht:t≤9223372036854775807) (hl:H.trail.length≤900000000) (hn:H.nodes.length≤1000000000) :
  Calls Tryz.prog 146 #[pp hb,zi (v:Nat),zi (t:Nat)] w fun e w'=>e = .returned (.tuple #[])/\RHp A w' hb (H.bind v t)/\HFr hb w w':=by
 obtain⟨kv,nv,iv,av,tv,rv,ars,h⟩:=h
 have hc:=h.cell
 have lb:=ltOf hc
 obtain⟨gt,ct,ut,rfl,k1,k2⟩:=h.tn hv
 have hlen:=h.len
 have hct:(tosV H).length=H.nodes.length:=by simp [tosV,hlen]
 have e1:((v:Nat):Int).toNat=v:=by omega
 have hne:hb<gt:=((h.q.own _ (List.mem_of_getElem? (i:=4) rfl)).lt gt rfl).1
 have hus:v<ut.size:=by
  rcases Nat.lt_or_ge v ut.size with h1 | h1
  ·exact h1
  ·rw[Array.getElem?_eq_none h1] at k2;cases k2
 obtain⟨q1,f1⟩:=h.q.setAt (i:=4) (j:=v) rfl (by rw[hct];exact hv) k1 (zi (t:Nat))
 simp only[List.set_cons_zero,List.set_cons_succ] at q1
 refine sh_Pr_Heap_bind_ok ?_
 simp (disch:=first|assumption|omega|simp only[zS]<;>omega|decide) only[zb61,simprocAttr,hc,k1,e1]
 obtain⟨w1,hw1⟩:∃ y,y=upd w gt (.cells (ut.setIfInBounds v (zi (t:Nat))) 3 (0,0)):=⟨_,rfl⟩
 rw[<- hw1] at q1 f1
 rw[<- hw1]
 have s1:w1.heap.size=w.heap.size:=by rw[hw1,size_upd]
 have hc1:=q1.cell
 have lb1:=ltOf hc1
 have qa:=q1.ext ((FrM.refl _ _).alloc (.cells #[zi (v:Nat)] 3))
 refine wr_app1 (by kernel_rfl) Tryz.infoInt rfl (by decide) (qa.own _ (List.mem_of_getElem? (i:=5) rfl)) (hp_alloc_new s1.symm) rfl (by simp [trsV];omega) (by rw[size_alloc];omega) ?_
 intro v' w2 own2 hg2 hv2
 obtain⟨p2,d2,e2⟩:=own_slice own2
 subst e2
 obtain⟨w3,hw3⟩:∃ y,y=upd w2 hb (.cells #[kv,nv,iv,av,.slice (some ⟨gt,0,none⟩) H.nodes.length ct,.slice p2 ((trsV H).length+1) d2,zi (H.cost:Nat),zi (H.most:Nat),zi (H.err:Nat)] 93):=⟨_,rfl⟩
 obtain⟨⟨q3,f3⟩,hcw3⟩:=qa.step (i:=5) rfl own2 hg2 hv2 (by simp only[List.set_cons_zero,List.set_cons_succ,List.map_cons,List.map_nil,List.cons_append,List.nil_append]) hw3
 simp only[List.set_cons_zero,List.set_cons_succ] at q3
 simp only[List.map_cons,List.map_nil,List.cons_append,List.nil_append] at hcw3
 simp (disch:=first|assumption|omega|simp only[zS]<;>omega|decide) only[zb61,simprocAttr,hcw3]
 rw[<- hw3]
 have hfr:HFr hb w w3:=f1.trans ((HFr.ofExt ((FrM.refl _ _).alloc _) lb1).trans f3)
 refine⟨⟨kv,nv,iv,av,.slice (some ⟨gt,0,none⟩) H.nodes.length ct,.slice p2 ((trsV H).length+1) d2,ars,⟨?_,h.ar.keepH hfr,by simp [P.Hp.bind,hlen]⟩⟩,hfr⟩
 have e6:rows6 kv nv iv av (.slice (some ⟨gt,0,none⟩) H.nodes.length ct) (.slice p2 ((trsV H).length+1) d2) (H.bind v t) ars =
   [(5,kv,kindsV H),(9,nv,nmsV H),(2,iv,nsV H),(83,av,ars),(3,.slice (some ⟨gt,0,none⟩) H.nodes.length ct,(tosV H).set v (zi (t:Nat))),(3,.slice p2 ((trsV H).length+1) d2,trsV H++[zi (v:Nat)])]:=by
  rw[<- tosV_bind,<- trsV_bind];rfl
 have q4:=q3
 rw[<- e6] at q4
 exact q4
theorem sliced_zero{b len cap n:Nat}(h:¬ cap=0):sliced (some ⟨b,0,none⟩) 0 len cap n = .slice (some ⟨b,0,none⟩) len cap:=by
 unfold sliced
 simp [h,Addr.add]
theorem own_cap{w:World}{base e n m c g:Nat}{xs:List Value}(h:w.ownsRow base e 1 (.slice (some ⟨g,0,none⟩) m c) n xs):n≤c/\m=n:=by
 rcases h.2 with⟨h,-⟩| ⟨g',cap,cur,h1,-,-,h4,-⟩
 ·cases h
 ·simp only[Value.slice.injEq] at h1
  obtain⟨-,rfl,rfl⟩:=h1
  exact⟨h4,rfl⟩
def zb62:=(zA zG0 (zA @sh_Pr_Heap_undo.eq_1 (zA @fa_93_4 (zA @fa_93_5 (zA @ix_83 (zA @ld_3 (zA @ld_83 (zA @ln_83 (zA @sh_83 (zA @st_3 @st_83))))))))))
set_option maxHeartbeats 1000000 in
theorem rUndo {A:Nat->Prop} {hb:Nat} {m:Nat}:∀ (n:Nat) {w:World} {H:P.Hp},H.trail.length≤n->RHp A w hb H->H.Fit->n≤900000000->H.nodes.length≤1000000000 ->
  Calls Tryz.prog 48 #[pp hb,zi (m:Nat)] w fun e w'=>e = .returned (.tuple #[])/\∃ H',RHp A w' hb H'/\H'.Fit/\H'.nodes=H.nodes/\H'.cost=H.cost/\H'.most=H.most/\H'.err=H.err/\HFr hb w w'/\H'.trail.length≤n:=by
 intro n w H hn h hf hN hnn
 refine sh_Pr_Heap_undo_ok ?_
 refine⟨fun k x w'=>∃ H',k=H'.trail.length/\RHp A w' hb H'/\H'.Fit/\H'.nodes=H.nodes/\H'.cost=H.cost/\H'.most=H.most/\H'.err=H.err/\HFr hb w w'/\H'.trail.length≤n,⟨_,H,rfl,h,hf,rfl,rfl,rfl,rfl,HFr.refl _ _,hn⟩,?_⟩
 intro k x d w1 hI
 refine toPr ?_
 obtain⟨H1,rfl,h1,hf1,e1,e2,e3,e4,hfr1,hn1⟩:=hI
 obtain⟨kv,nv,iv,av,tv,rv,ars,hx⟩:=id h1
 have hc:=hx.cell
 have lb:=ltOf hc
 obtain⟨ra,rc,hrv⟩:=own_slice (hx.q.own _ (List.mem_of_getElem? (i:=5) rfl))
 have hrv:rv = .slice ra (trsV H1).length rc:=hrv
 have htl:(trsV H1).length=H1.trail.length:=by simp [trsV]
 rw[htl] at hrv
 by_cases hm:m<H1.trail.length
 ·have hm':((m:Nat):Int)<(H1.trail.length:Nat):=by omega
  obtain⟨gr,cr,ur,hrv2,r1,r2⟩:=own_at (hx.q.own _ (List.mem_of_getElem? (i:=5) rfl)) (t:=H1.trail.length-1) (by show _<(trsV H1).length;omega)
  have hrv2:rv = .slice (some ⟨gr,0,none⟩) (trsV H1).length cr:=hrv2
  rw[htl] at hrv2
  subst hrv2
  obtain⟨v,hv⟩:∃ v,v=H1.trail[H1.trail.length-1]:=⟨_,rfl⟩
  have hvl:v<H1.nodes.length:=hf1.tr v (by rw[hv];exact List.getElem_mem _)
  have r3:ur[H1.trail.length-1]?=some (zi (v:Nat)):=by
   rw[r2,List.getElem?_map,List.getElem?_eq_getElem (show H1.trail.length-1<H1.trail.length by omega),hv];rfl
  obtain⟨gt,ct,ut,rfl,k1,k2⟩:=hx.tn hvl
  have hct:(tosV H1).length=H1.nodes.length:=by simp [tosV,hx.len]
  have hus:v<ut.size:=by
   rcases Nat.lt_or_ge v ut.size with h1 | h1
   ·exact h1
   ·rw[Array.getElem?_eq_none h1] at k2;cases k2
  have hne:hb<gt:=((hx.q.own _ (List.mem_of_getElem? (i:=4) rfl)).lt gt rfl).1
  have e5:((v:Nat):Int).toNat=v:=by omega
  have e6:((H1.trail.length:Nat):Int)-1=((H1.trail.length-1:Nat):Int):=by omega
  have e7:((H1.trail.length-1:Nat):Int).toNat=H1.trail.length-1:=by omega
  obtain⟨q1,f1⟩:=(hx.q.ext ((FrM.refl (fun _ _=>False) w1).drew)).setAt (i:=4) (j:=v) rfl (by rw[hct];exact hvl) k1 (zi (-1))
  simp only[List.set_cons_zero,List.set_cons_succ] at q1
  simp (disch:=first|assumption|omega|simp only[zS]<;>omega|decide) only[zb62,simprocAttr,hc,r1,r3,k1,e5,e6,e7]
  obtain⟨w2,hw2⟩:∃ y,y=upd w1.drew gt (.cells (ut.setIfInBounds v (zi (-1))) 3 (0,0)):=⟨_,rfl⟩
  rw[<- hw2] at q1 f1
  have hc2:=q1.cell
  simp only[List.map_cons,List.map_nil,List.cons_append,List.nil_append] at hc2
  have hcap:=(own_cap (hx.q.own _ (List.mem_of_getElem? (i:=5) rfl))).1
  have hcap:(trsV H1).length≤cr:=hcap
  rw[htl] at hcap
  have hcap':((H1.trail.length-1:Nat):Int)≤((cr:Nat):Int):=by omega
  have hc0:¬ cr=0:=by omega
  obtain⟨w3,hw3⟩:∃ y,y=upd w2 hb (.cells #[kv,nv,iv,av,.slice (some ⟨gt,0,none⟩) H1.nodes.length ct,.slice (some ⟨gr,0,none⟩) (H1.trail.length-1) cr,zi (H1.cost:Nat),zi (H1.most:Nat),zi (H1.err:Nat)] 93):=⟨_,rfl⟩
  obtain⟨q3,f3⟩:=q1.cut (i:=5) (k:=H1.trail.length-1) (l3:=[kv,nv,iv,av,.slice (some ⟨gt,0,none⟩) H1.nodes.length ct,.slice (some ⟨gr,0,none⟩) (H1.trail.length-1) cr,zi (H1.cost:Nat),zi (H1.most:Nat),zi (H1.err:Nat)]) rfl (by omega) rfl
  simp only[List.set_cons_zero,List.set_cons_succ] at q3 f3
  rw[<- hw3] at q3 f3
  simp (disch:=first|assumption|omega|simp only[zS]<;>omega|decide) only[zb62,simprocAttr,e7,sliced_zero,hc]
  rw[<- hw2,<- hw3]
  have hfr:HFr hb w w3:=hfr1.trans ((HFr.ofExt ((FrM.refl _ _).drew) lb).trans (f1.trans f3))
  have hfr3:HFr hb w1 w3:=(HFr.ofExt ((FrM.refl _ _).drew) lb).trans (f1.trans f3)
  have e8:rows6 kv nv iv av (.slice (some ⟨gt,0,none⟩) H1.nodes.length ct) (.slice (some ⟨gr,0,none⟩) (H1.trail.length-1) cr) (H1.unb v) ars =
   [(5,kv,kindsV H1),(9,nv,nmsV H1),(2,iv,nsV H1),(83,av,ars),(3,.slice (some ⟨gt,0,none⟩) H1.nodes.length ct,(tosV H1).set v (zi (-1))),(3,.slice (some ⟨gr,0,none⟩) (H1.trail.length-1) cr,(trsV H1).take (H1.trail.length-1))]:=by
   rw[<- tosV_unb,<- trsV_unb];rfl
  have q4:=q3
  rw[<- e8] at q4
  have ht2:(H1.unb v).trail.length=H1.trail.length-1:=by simp [P.Hp.unb]
  exact⟨_,by omega,H1.unb v,ht2.symm,⟨kv,nv,iv,av,_,_,ars,⟨q4,hx.ar.keepH hfr3,by simp [P.Hp.unb,hx.len]⟩⟩,hf1.unb hvl,e1,e2,e3,e4,hfr,by omega⟩
 ·have hm':¬ ((m:Nat):Int)<(H1.trail.length:Nat):=by omega
  simp (disch:=first|assumption|omega|simp only[zS]<;>omega|decide) only[zb62,simprocAttr,hc,hrv]
  exact⟨H1,h1,hf1,e1,e2,e3,e4,hfr1,hn1⟩
end Go.Proofs.YtilpjhceemaplaaGreatDoor
