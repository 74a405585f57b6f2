/- A part of one proof (RM3, RM4, RM5, RM6, RM7, RM8, RM9, RM10, RM11). -/
import Derived.Test.YtilpjhceemaplaaGreatDoorPkAAN
set_option linter.all false
set_option linter.unusedVariables false
set_option linter.unusedSimpArgs false
set_option maxRecDepth 100000
set_option maxHeartbeats 4000000
namespace Go.Proofs.YtilpjhceemaplaaGreatDoor
open Go.RowKit Sx
theorem Tryz.infoGo:(Tryz.prog.info? 143).map (fun i=>(i.zero,i.size,i.bytes))=some (some (.agg #[.int .u8 0,.string (bs []),.slice none 0 0,.slice none 0 0,.bool false,.slice none 0 0,zi 0,zi 0]),8,120):=by kernel_rfl
theorem wr_appendG{w:World}{base n:Nat}{v:Value}{xs:List Value}(hown:w.ownsRow base 143 8 v n xs){b m:Nat}{l:List Value}
  (hb:w.heap[b]?=some (.cells l.toArray 143 (0,0))) (h0:l.length=8) (h1:∀ u∈l,u.oneCell'=true)
  (hn:n≤900000000) (hbase:base≤w.heap.size) {K:Value->World->Prop} {X:Value->World->Prop}
  (h:∀ v' w',w'.ownsRow base 143 8 v' (n+1) (xs++l)->w.grownBy w' v.ownBlock->(v'.ownBlock=v.ownBlock\/∀ k,v'.ownBlock=some k->w.heap.size≤k)->K v' w') :
  WR Tryz.prog (Builtin.append_ #[81,81] 81 #[v,.slice (some ⟨b,0,none⟩) 1 m]) w K X:=by
 obtain⟨i,hi,h0'⟩:=Option.map_eq_some_iff.1 Tryz.infoGo
 simp only[Prod.mk.injEq] at h0'
 obtain⟨hz,hs,hbt⟩:=h0'
 exact Sx.wr_appendB (m:=1) (t:=81) (e:=143) (by kernel_rfl) hi hz hs hbt rfl (by decide) hown hb (by simpa using h0) (fun u hu=>h1 u (by simpa using hu)) (by omega) (by decide) hbase h
def zb69:=(zA zG0 (zA @sh_Pr_Walk_push.eq_1 (zA @bd_143 (zA @br_81_1 (zA @fa_85_2 (zA @ld_40 (zA @ld_81 (zA @ln_81 @st_81))))))))
theorem rPush {w:World} {hb wb:Nat} {H:P.Hp} {bv:Value} {todo:Int} {L:List Gl} {B:List Ag} {lv kv vv nv:Value} {lc kc:List Value} (h:WKx w hb wb H bv todo L B lv kv vv nv lc kc)
  {b0 b1 b2 b3 v:Value} {b:P.Bd} {ids:List Nat} (hs:ShB b0 b1 b2 b3) (hb':IsRb (fun b=>b<hb) w [b0,b1,b2,b3] b) (hv:IsSl (fun b=>¬ OwnOf w hb b) w 3 v (ids.map fun n=>zi (n:Nat))) (cut:Nat) (rest:Int) (hl:L.length≤900000000) :
  Calls Tryz.prog 27 #[pp wb,.agg #[b0,b1,b2,b3],v,zi (cut:Nat),zi rest] w fun e w'=>e = .returned (zi (L.length:Nat)) /\
   WKk w lv kv w' hb wb H bv vv nv todo (L++[⟨false,b,ids,cut,rest⟩]) B/\UpFr hb w w':=by
 obtain⟨kd,nm,p,q,n1,c1,n2,c2,rfl,rfl,rfl,rfl⟩:=hs
 obtain⟨a9,c9,rfl⟩:=hv.sl
 have hc:=h.cell
 refine sh_Pr_Walk_push_ok ?_
 obtain⟨w1,hw1⟩:∃ y,y=w.alloc (.cells (Value.agg #[.int .u8 kd,.string (bs nm),.slice p n1 c1,.slice q n2 c2]).cells 40 (0,0)):=⟨_,rfl⟩
 have hE1:Ext w w1:=by rw[hw1];exact(FrM.refl _ _).alloc _
 have g1:w1.heap[w.heap.size]?=some (.cells #[.int .u8 kd,.string (bs nm),.slice p n1 c1,.slice q n2 c2] 40):=by rw[hw1];exact hp_alloc_new rfl
 have hc1:=hE1.ext _ _ hc
 simp (disch:=first|assumption|omega|simp only[zS]<;>omega|decide) only[zb69,simprocAttr]
 rw[<- hw1]
 refine⟨fun w'=>w'.heap[wb]?=w1.heap[wb]?/\w'.heap[w.heap.size]?=w1.heap[w.heap.size]?,?_,?_⟩
 ·exact⟨rfl,rfl⟩
 refine rds (pq wb 2) (fun w' hS=>by obtain⟨hS,-⟩:=hS;rw[hc1] at hS;simp (disch:=first|assumption|omega|simp only[zS]<;>omega|decide) only[zb69,simprocAttr,hS]) (rds lv (fun w' hS=>by obtain⟨hS,-⟩:=hS;rw[hc1] at hS;have:=ltOf hS;simp (disch:=first|assumption|omega|simp only[zS]<;>omega|decide) only[zb69,simprocAttr,hS]) ?_)
 refine rds (.agg #[.int .u8 kd,.string (bs nm),.slice p n1 c1,.slice q n2 c2]) (fun w' hS=>by obtain⟨-,hS⟩:=hS;rw[g1] at hS;have:=ltOf hS;simp (disch:=first|assumption|omega|simp only[zS]<;>omega|decide) only[zb69,simprocAttr,hS]) ?_
 simp (disch:=first|assumption|omega|simp only[zS]<;>omega|decide) only[zb69,simprocAttr]
 obtain⟨w2,hw2⟩:∃ y,y=w1.drew.alloc (.cells #[.int .u8 kd,.string (bs nm),.slice p n1 c1,.slice q n2 c2,.bool false,.slice a9 (ids.map fun n=>(zi (n:Nat):Value)).length c9,zi (cut:Nat),zi rest] 143):=⟨_,rfl⟩
 have hE2:Ext w1 w2:=by rw[hw2];exact((FrM.refl _ _).drew).alloc _
 have g2:w2.heap[w1.heap.size]?=some (.cells [.int .u8 kd,.string (bs nm),.slice p n1 c1,.slice q n2 c2,.bool false,.slice a9 (ids.map fun n=>(zi (n:Nat):Value)).length c9,zi (cut:Nat),zi rest].toArray 143 (0,0)):=by
  rw[hw2];exact hp_alloc_new (by rw[sz_drew])
 rw[<- hw2]
 have h2:=(h.ext hE1).ext hE2
 have q2:=h2.cell
 have b2:=hE2.ext _ _ g1
 refine⟨⟨?_,?_⟩,?_⟩
 ·rw[q2,hc1]
 ·rw[b2,g1]
 refine wr_appendG h2.ol g2 rfl (by intro u hu;simp only[List.mem_cons,List.not_mem_nil,or_false] at hu;rcases hu with rfl | rfl | rfl | rfl | rfl | rfl | rfl | rfl<;>rfl) hl (by have:=ltOf q2;have:=h.lt;omega) ?_
 intro v' w3 ho3 hg3 hv3
 obtain⟨p3,d3,rfl⟩:=own_slice ho3
 have hgl:IsGl hb w2 [.int .u8 kd,.string (bs nm),.slice p n1 c1,.slice q n2 c2,.bool false,.slice a9 (ids.map fun n=>(zi (n:Nat):Value)).length c9,zi (cut:Nat),zi rest] ⟨false,b,ids,cut,rest⟩:=by
  have hE:=hE1.trans hE2
  refine⟨_,_,_,_,_,rfl,⟨_,_,_,_,_,_,_,_,rfl,rfl,rfl,rfl⟩,fun _=>hb'.mono (fun _ h=>h) (fun _ _ _ ho=>hE.ext _ _ ho) (fun _ _ _ ho=>hE.ext _ _ ho),?_⟩
  rcases hv with hv | ⟨bb,cs,q1,q2,q3,q4⟩
  ·exact .inl hv
  ·exact .inr ⟨bb,cs,q1,(HFr.ofExt hE h.h.lt).notOwn q2 (ltOf q3),hE.ext _ _ q3,q4⟩
 obtain⟨w4,hw4⟩:∃ y,y=upd w3 wb (.cells #[pp hb,bv,.slice p3 (L.length+1) d3,zi todo,kv,vv,nv,zi 0] 85):=⟨_,rfl⟩
 obtain⟨r1,r2,r3⟩:=h2.list hgl ho3 hg3 hw4
 have l3:=ltOf r3
 have b3:w3.heap[w.heap.size]?=w1.heap[w.heap.size]?:=by
  rw[g1,hg3.block _ (ltOf b2) (fun e=>?_)]
  ·exact b2
  ·obtain⟨cs,h1⟩:=rowTy h2.ol e.symm b2
   injection h1 with _ h1 _
   exact absurd h1 (by decide)
 refine⟨⟨by rw[r3,hc1],b3⟩,?_⟩
 have hL:((L.length+1:Nat):Int)-1=(L.length:Nat):=by omega
 simp (disch:=first|assumption|omega|simp only[zS]<;>omega|decide) only[zb69,simprocAttr,r3]
 rw[<- hw4,hL]
 exact⟨rfl,⟨_,_,_,_,r1,(fun bb oo ho h1 h2 h3=>by
  have ho2:=(hE1.trans hE2).ext _ _ ho
  have hl2:=ltOf ho2
  refine⟨?_,?_,h3⟩
  ·rw[hw4,hp_upd_other h1,hg3.block _ hl2 (fun e=>h2 e.symm)];exact ho2
  ·rcases hv3 with hv3 | hv3
   ·rw[hv3];exact h2
   ·intro e;have:=hv3 _ e;omega)⟩,(((hE1.trans hE2).toU).trans r2)⟩
def zb70:=(zA zG0 (zA @sh_Pr_Walk_cutting.eq_1 (zA @bd_143 (zA @br_81_1 (zA @fa_85_2 (zA @ld_81 (zA @ln_81 @st_81)))))))
theorem rCutting {w:World} {hb wb:Nat} {H:P.Hp} {bv:Value} {todo:Int} {L:List Gl} {B:List Ag} {lv kv vv nv:Value} {lc kc:List Value} (h:WKx w hb wb H bv todo L B lv kv vv nv lc kc) (cut:Nat) (rest:Int) (hl:L.length≤900000000) :
  Calls Tryz.prog 82 #[pp wb,zi (cut:Nat),zi rest] w fun e w'=>e = .returned (zi (L.length:Nat)) /\
   WKk w lv kv w' hb wb H bv vv nv todo (L++[⟨true,P.failB,[],cut,rest⟩]) B/\UpFr hb w w':=by
 have hc:=h.cell
 refine sh_Pr_Walk_cutting_ok ?_
 simp (disch:=first|assumption|omega|simp only[zS]<;>omega|decide) only[zb70,simprocAttr,hc]
 obtain⟨w2,hw2⟩:∃ y,y=w.alloc (.cells #[.int .u8 0,.string (bs []),.slice none 0 0,.slice none 0 0,.bool true,.slice none 0 0,zi (cut:Nat),zi rest] 143 (0,0)):=⟨_,rfl⟩
 have hE2:Ext w w2:=by rw[hw2];exact(FrM.refl _ _).alloc _
 have g2:w2.heap[w.heap.size]?=some (.cells [.int .u8 0,.string (bs []),.slice none 0 0,.slice none 0 0,.bool true,.slice none 0 0,zi (cut:Nat),zi rest].toArray 143 (0,0)):=by
  rw[hw2];exact hp_alloc_new rfl
 rw[<- hw2]
 have h2:=h.ext hE2
 have q2:=h2.cell
 refine wr_appendG h2.ol g2 rfl (by intro u hu;simp only[List.mem_cons,List.not_mem_nil,or_false] at hu;rcases hu with rfl | rfl | rfl | rfl | rfl | rfl | rfl | rfl<;>rfl) hl (by have:=ltOf q2;have:=h.lt;omega) ?_
 intro v' w3 ho3 hg3 hv3
 obtain⟨p3,d3,rfl⟩:=own_slice ho3
 have hgl:IsGl hb w2 [.int .u8 0,.string (bs []),.slice none 0 0,.slice none 0 0,.bool true,.slice none 0 0,zi (cut:Nat),zi rest] ⟨true,P.failB,[],cut,rest⟩:=
  ⟨_,_,_,_,_,rfl,⟨_,_,_,_,_,_,_,_,rfl,rfl,rfl,rfl⟩,fun h=>(by cases h),.inl ⟨rfl,rfl⟩⟩
 obtain⟨w4,hw4⟩:∃ y,y=upd w3 wb (.cells #[pp hb,bv,.slice p3 (L.length+1) d3,zi todo,kv,vv,nv,zi 0] 85):=⟨_,rfl⟩
 obtain⟨r1,r2,r3⟩:=h2.list hgl ho3 hg3 hw4
 have l3:=ltOf r3
 have hL:((L.length+1:Nat):Int)-1=(L.length:Nat):=by omega
 simp (disch:=first|assumption|omega|simp only[zS]<;>omega|decide) only[zb70,simprocAttr,r3]
 rw[<- hw4,hL]
 exact⟨rfl,⟨_,_,_,_,r1,(fun bb oo ho h1 h2 h3=>by
  have ho2:=hE2.ext _ _ ho
  have hl2:=ltOf ho2
  refine⟨?_,?_,h3⟩
  ·rw[hw4,hp_upd_other h1,hg3.block _ hl2 (fun e=>h2 e.symm)];exact ho2
  ·rcases hv3 with hv3 | hv3
   ·rw[hv3];exact h2
   ·intro e;have:=hv3 _ e;omega)⟩,((hE2.toU).trans r2)⟩
theorem IsAgs.snoc{l:List Value}{a:Ag}(hg:IsAg l a):∀ {kc:List Value} {B:List Ag},IsAgs kc B->IsAgs (kc++l) (B++[a])
 | kc,[],h=>by
  have h:kc=[]:=h
  subst h
  exact⟨l,[],by simp,hg,rfl⟩
 | kc,x::r,h=>by
  obtain⟨a,b,rfl,h1,h2⟩:=h
  exact⟨a,b++l,by simp,h1,IsAgs.snoc hg h2⟩
theorem IsAg.len{l:List Value}{a:Ag}(h:IsAg l a):l.length=6:=by
 obtain⟨_,_,_,rfl,-⟩:=h;rfl
theorem IsAgs.at:∀ {kc:List Value} {B:List Ag} (j:Nat) (hj:j<B.length),IsAgs kc B->IsAg ((kc.drop (j*6)).take 6) B[j]
 | kc,g::r,0,_,h=>by
  obtain⟨a,b,rfl,h1,h2⟩:=h
  have:((a++b).drop (0*6)).take 6=a:=by rw[Nat.zero_mul,List.drop_zero,<- h1.len,List.take_left]
  rw[this];exact h1
 | kc,g::r,j+1,hj,h=>by
  obtain⟨a,b,rfl,h1,h2⟩:=h
  have h3:=IsAgs.at j (by simpa using hj) h2
  have:(a++b).drop ((j+1)*6)=b.drop (j*6):=by
   rw[show(j+1)*6=a.length+j*6 by rw[h1.len];omega,<- List.drop_drop,List.drop_left]
  rw[this]
  exact h3
theorem IsAgs.take:∀ {kc:List Value} {B:List Ag} (n:Nat),IsAgs kc B->IsAgs (kc.take (n*6)) (B.take n)
 | kc,[],n,h=>by
  have h:kc=[]:=h
  subst h
  simp only[List.take_nil]
  rfl
 | kc,g::r,0,h=>by
  simp only[Nat.zero_mul,List.take_zero]
  rfl
 | kc,g::r,n+1,h=>by
  obtain⟨a,b,rfl,h1,h2⟩:=h
  refine⟨a,b.take (n*6),?_,h1,IsAgs.take n h2⟩
  rw[show(n+1)*6=a.length+n*6 by rw[h1.len];omega,List.take_length_add_append]
section
variable{w w' w2 w3:World}{hb wb:Nat}{H:P.Hp}{bv:Value}{todo:Int}{L:List Gl}{B:List Ag}{lv kv vv nv:Value}{lc kc:List Value}
theorem WKx.back(h:WKx w hb wb H bv todo L B lv kv vv nv lc kc){l:List Value}{a:Ag}(hg:IsAg l a){v':Value}(ho:w2.ownsRow (hb+1) 146 6 v' (B.length+1) (kc++l))(hgr:w.grownBy w2 kv.ownBlock)
  (h3:w3=upd w2 wb (.cells #[pp hb,bv,lv,zi todo,v',vv,nv,zi 0] 85)) :
  WKx w3 hb wb H bv todo L (B++[a]) lv v' vv nv lc (kc++l)/\UpFr hb w w3/\w2.heap[wb]?=some (.cells #[pp hb,bv,lv,zi todo,kv,vv,nv,zi 0] 85):=by
 have lw:=ltOf h.cell
 have hlt:=h.lt
 have hne:kv.ownBlock≠some wb:=fun e=>by
  obtain⟨cs,h1⟩:=rowTy h.ok e h.cell
  injection h1 with _ h1 _
  exact absurd h1 (by decide)
 have hc2:w2.heap[wb]?=some (.cells #[pp hb,bv,lv,zi todo,kv,vv,nv,zi 0] 85):=by
  rw[hgr.block wb lw (fun e=>hne e.symm)];exact h.cell
 have lw2:=ltOf hc2
 have hf2:GFr w w2:=⟨hgr.os,hgr.tape,hgr.output,hgr.size,fun b o hb' hm=>by
  rw[hgr.block b (ltOf hb') (fun e=>hm ?_)]
  ·exact hb'
  ·obtain⟨cs,h1⟩:=rowTy h.ok e.symm hb'
   exact⟨cs,_,_,h1,.inr (.inl rfl)⟩⟩
 have hf3:GFr w w3:=⟨by rw[h3];exact hf2.os,by rw[h3];exact hf2.tape,by rw[h3];exact hf2.output,by rw[h3,size_upd];exact hf2.size,fun b o hb' hm=>by
  have h1:=hf2.block b o hb' hm
  rw[h3,hp_upd_other (fun e=>hm ?_)]
  ·exact h1
  ·subst e
   rw[h.cell] at hb'
   injection hb' with hb'
   exact⟨_,_,_,hb'.symm,.inr (.inr rfl)⟩⟩
 have hup:UpFr hb w w3:=.ofG h.h hf3 ⟨hf3.os,hf3.tape,hf3.output,hf3.size,fun b o hb' hm=>by
  rw[h3,hp_upd_other (by omega),hgr.block b (ltOf hb') (fun e=>by have:=(h.ok.lt b e.symm).1;omega)];exact hb'⟩
 have hk2:w2.ownsRow (hb+1) 143 8 lv L.length lc:=by
  refine⟨h.ol.1,?_⟩
  rcases h.ol.2 with h1 | ⟨q,cap,cur,q1,q2,q3,q4⟩
  ·exact .inl h1
  ·refine .inr ⟨q,cap,cur,q1,q2,?_,q4⟩
   rw[hgr.block q (ltOf q3) (fun e=>?_)]
   ·exact q3
   ·obtain⟨cs,h1⟩:=rowTy h.ok e.symm q3
    injection h1 with _ h1 _
    exact absurd h1 (by decide)
 have rowU:∀ {e size n:Nat} {v:Value} {xs:List Value},e≠85->w2.ownsRow (hb+1) e size v n xs->w3.ownsRow (hb+1) e size v n xs:=by
  intro e size n v xs he hu
  refine⟨hu.1,?_⟩
  rcases hu.2 with h1 | ⟨q,cap,cur,q1,q2,q3,q4⟩
  ·exact .inl h1
  ·refine .inr ⟨q,cap,cur,q1,q2,?_,q4⟩
   rw[h3,hp_upd_other (fun e1=>?_)]
   ·exact q3
   ·subst e1
    rw[hc2] at q3
    injection q3 with q3
    injection q3 with _ q3 _
    exact he q3.symm
 refine⟨h.own hf3 (by rw[h3];exact hp_upd_same rfl lw2) (rowU (by decide) hk2) ?_ h.gl (h.gk.snoc hg),hup,hc2⟩
 rw[List.length_append]
 exact rowU (by decide) ho
theorem WKx.forget(h:WKx w hb wb H bv todo L B lv kv vv nv lc kc){g c n:Nat}(hkv:kv = .slice (some ⟨g,0,none⟩) B.length c)(hn:n≤B.length)(todo':Int)
  (h3:w3=upd w wb (.cells #[pp hb,bv,lv,zi todo',.slice (some ⟨g,0,none⟩) n c,vv,nv,zi 0] 85)) :
  WKx w3 hb wb H bv todo' L (B.take n) lv (.slice (some ⟨g,0,none⟩) n c) vv nv lc (kc.take (n*6))/\UpFr hb w w3:=by
 have lw:=ltOf h.cell
 have hlt:=h.lt
 have hf3:GFr w w3:=⟨by rw[h3];rfl,by rw[h3];rfl,by rw[h3];rfl,by rw[h3,size_upd];exact Nat.le_refl _,fun b o hb' hm=>by
  rw[h3,hp_upd_other (fun e=>hm ?_)]
  ·exact hb'
  ·subst e
   rw[h.cell] at hb'
   injection hb' with hb'
   exact⟨_,_,_,hb'.symm,.inr (.inr rfl)⟩⟩
 have hup:UpFr hb w w3:=.ofG h.h hf3 ⟨hf3.os,hf3.tape,hf3.output,hf3.size,fun b o hb' hm=>by rw[h3,hp_upd_other (by omega)];exact hb'⟩
 have rowU:∀ {e size n:Nat} {v:Value} {xs:List Value},e≠85->w.ownsRow (hb+1) e size v n xs->w3.ownsRow (hb+1) e size v n xs:=by
  intro e size n v xs he hu
  refine⟨hu.1,?_⟩
  rcases hu.2 with h1 | ⟨q,cap,cur,q1,q2,q3,q4⟩
  ·exact .inl h1
  ·refine .inr ⟨q,cap,cur,q1,q2,?_,q4⟩
   rw[h3,hp_upd_other (fun e1=>?_)]
   ·exact q3
   ·subst e1
    rw[h.cell] at q3
    injection q3 with q3
    injection q3 with _ q3 _
    exact he q3.symm
 have hl:(B.take n).length=n:=by rw[List.length_take];omega
 refine⟨h.own hf3 (by rw[h3];exact hp_upd_same rfl lw) (rowU (by decide) h.ol) (rowU (by decide) ?_) h.gl (h.gk.take n),hup⟩
 rw[hl]
 obtain⟨k0,k1⟩:=h.ok
 refine⟨by rw[List.length_take,k0];omega,?_⟩
 rcases k1 with⟨k1,-⟩| ⟨q,cap,cur,q1,q2,q3,q4,q5,q6,q7⟩
 ·rw[hkv] at k1;cases k1
 ·rw[hkv] at q1
  simp only[Value.slice.injEq,Option.some.injEq,Addr.mk.injEq,and_true,true_and] at q1
  obtain⟨rfl,rfl⟩:=q1
  refine .inr ⟨g,c,cur,rfl,q2,q3,by omega,q5,q6,?_⟩
  rw[<- q7,List.take_take,Nat.min_eq_left (Nat.mul_le_mul_right 6 hn)]
theorem WKx.head(h:WKx w hb wb H bv todo L B lv kv vv nv lc kc)(todo':Int)(h3:w3=upd w wb (.cells #[pp hb,bv,lv,zi todo',kv,vv,nv,zi 0] 85)) :
  WKx w3 hb wb H bv todo' L B lv kv vv nv lc kc/\UpFr hb w w3:=by
 have lw:=ltOf h.cell
 have hlt:=h.lt
 have hf3:GFr w w3:=⟨by rw[h3];rfl,by rw[h3];rfl,by rw[h3];rfl,by rw[h3,size_upd];exact Nat.le_refl _,fun b o hb' hm=>by
  rw[h3,hp_upd_other (fun e=>hm ?_)]
  ·exact hb'
  ·subst e
   rw[h.cell] at hb'
   injection hb' with hb'
   exact⟨_,_,_,hb'.symm,.inr (.inr rfl)⟩⟩
 have rowU:∀ {e size n:Nat} {v:Value} {xs:List Value},e≠85->w.ownsRow (hb+1) e size v n xs->w3.ownsRow (hb+1) e size v n xs:=by
  intro e size n v xs he hu
  refine⟨hu.1,?_⟩
  rcases hu.2 with h1 | ⟨q,cap,cur,q1,q2,q3,q4⟩
  ·exact .inl h1
  ·refine .inr ⟨q,cap,cur,q1,q2,?_,q4⟩
   rw[h3,hp_upd_other (fun e1=>?_)]
   ·exact q3
   ·subst e1
    rw[h.cell] at q3
    injection q3 with q3
    injection q3 with _ q3 _
    exact he q3.symm
 exact⟨h.own hf3 (by rw[h3];exact hp_upd_same rfl lw) (rowU (by decide) h.ol) (rowU (by decide) h.ok) h.gl h.gk,.ofG h.h hf3 ⟨hf3.os,hf3.tape,hf3.output,hf3.size,fun b o hb' hm=>by rw[h3,hp_upd_other (by omega)];exact hb'⟩⟩
end
theorem Tryz.infoAg:(Tryz.prog.info? 146).map (fun i=>(i.zero,i.size,i.bytes))=some (some (.agg #[zi 0,zi 0,.bool false,zi 0,.string (bs []),.slice none 0 0]),6,72):=by kernel_rfl
theorem wr_appendA{w:World}{base n:Nat}{v:Value}{xs:List Value}(hown:w.ownsRow base 146 6 v n xs){b m:Nat}{l:List Value}
  (hb:w.heap[b]?=some (.cells l.toArray 146 (0,0))) (h0:l.length=6) (h1:∀ u∈l,u.oneCell'=true)
  (hn:n≤900000000) (hbase:base≤w.heap.size) {K:Value->World->Prop} {X:Value->World->Prop}
  (h:∀ v' w',w'.ownsRow base 146 6 v' (n+1) (xs++l)->w.grownBy w' v.ownBlock->(v'.ownBlock=v.ownBlock\/∀ k,v'.ownBlock=some k->w.heap.size≤k)->K v' w') :
  WR Tryz.prog (Builtin.append_ #[82,82] 82 #[v,.slice (some ⟨b,0,none⟩) 1 m]) w K X:=by
 obtain⟨i,hi,h0'⟩:=Option.map_eq_some_iff.1 Tryz.infoAg
 simp only[Prod.mk.injEq] at h0'
 obtain⟨hz,hs,hbt⟩:=h0'
 exact Sx.wr_appendB (m:=1) (t:=82) (e:=146) (by kernel_rfl) hi hz hs hbt rfl (by decide) hown hb (by simpa using h0) (fun u hu=>h1 u (by simpa using hu)) (by omega) (by decide) hbase h
def zb71:=(zA zG0 (zA @sh_Pr_Walk_come.eq_1 (zA @bd_146 (zA @br_82_1 (zA @fa_85_0 (zA @fa_85_4 (zA @fa_93_5 (zA @ld_79 (zA @ld_82 (zA @ld_83 (zA @ln_83 @st_82)))))))))))
theorem rCome {w:World} {hb wb:Nat} {H:P.Hp} {bv:Value} {todo:Int} {L:List Gl} {B:List Ag} {lv kv vv nv:Value} {lc kc:List Value} (h:WKx w hb wb H bv todo L B lv kv vv nv lc kc) (t:Int) (hl:B.length≤900000000) :
  Calls Tryz.prog 81 #[pp wb,zi t] w fun e w'=>e = .returned (.tuple #[]) /\
   WKk w lv kv w' hb wb H bv vv nv todo L (B++[⟨H.trail.length,t⟩])/\UpFr hb w w':=by
 have hc:=h.cell
 have lw:=ltOf hc
 have hlt:=h.lt
 obtain⟨kv',nv',iv',av',tv',rv',ars',hx⟩:=id h.h
 have hh:=hx.cell
 obtain⟨ra,rc,hrv⟩:=own_slice (hx.q.own _ (List.mem_of_getElem? (i:=5) rfl))
 have hrv:rv' = .slice ra (trsV H).length rc:=hrv
 have htl:(trsV H).length=H.trail.length:=by simp [trsV]
 rw[htl] at hrv
 subst hrv
 refine sh_Pr_Walk_come_ok ?_
 refine⟨fun w'=>w'.heap[wb]?=w.heap[wb]?/\w'.heap[hb]?=w.heap[hb]?,⟨rfl,rfl⟩,?_⟩
 refine rds (pq wb 4) (fun w' hS=>by obtain⟨hS,-⟩:=hS;rw[hc] at hS;simp (disch:=first|assumption|omega|simp only[zS]<;>omega|decide) only[zb71,simprocAttr,hS]) (rds kv (fun w' hS=>by obtain⟨hS,-⟩:=hS;rw[hc] at hS;have:=ltOf hS;simp (disch:=first|assumption|omega|simp only[zS]<;>omega|decide) only[zb71,simprocAttr,hS]) ?_)
 refine rds (pp wb) (fun w' hS=>by obtain⟨hS,-⟩:=hS;rw[hc] at hS;simp (disch:=first|assumption|omega|simp only[zS]<;>omega|decide) only[zb71,simprocAttr,hS]) (rds (pp hb) (fun w' hS=>by obtain⟨hS,-⟩:=hS;rw[hc] at hS;have:=ltOf hS;simp (disch:=first|assumption|omega|simp only[zS]<;>omega|decide) only[zb71,simprocAttr,hS]) ?_)
 refine rds (pq hb 5) (fun w' hS=>by obtain⟨-,hS⟩:=hS;rw[hh] at hS;simp (disch:=first|assumption|omega|simp only[zS]<;>omega|decide) only[zb71,simprocAttr,hS]) (rds (.slice ra H.trail.length rc) (fun w' hS=>by obtain⟨-,hS⟩:=hS;rw[hh] at hS;have:=ltOf hS;simp (disch:=first|assumption|omega|simp only[zS]<;>omega|decide) only[zb71,simprocAttr,hS]) ?_)
 refine rds (zi (H.trail.length:Nat)) (fun w' hS=>by simp (disch:=first|assumption|omega|simp only[zS]<;>omega|decide) only[zb71,simprocAttr]) ?_
 simp (disch:=first|assumption|omega|simp only[zS]<;>omega|decide) only[zb71,simprocAttr]
 obtain⟨w2,hw2⟩:∃ y,y=w.drew.alloc (.cells #[zi (H.trail.length:Nat),zi t,.bool false,zi 0,.string (bs []),.slice none 0 0] 146 (0,0)):=⟨_,rfl⟩
 have hE2:Ext w w2:=by rw[hw2];exact((FrM.refl _ _).drew).alloc _
 have g2:w2.heap[w.heap.size]?=some (.cells [zi (H.trail.length:Nat),zi t,.bool false,zi 0,.string (bs []),.slice none 0 0].toArray 146 (0,0)):=by
  rw[hw2];exact hp_alloc_new (by rw[sz_drew])
 rw[<- hw2]
 have h2:=h.ext hE2
 have q2:=h2.cell
 have hh2:=hE2.ext _ _ hh
 refine wr_appendA h2.ok g2 rfl (by intro u hu;simp only[List.mem_cons,List.not_mem_nil,or_false] at hu;rcases hu with rfl | rfl | rfl | rfl | rfl | rfl<;>rfl) hl (by have:=ltOf q2;omega) ?_
 intro v' w3 ho3 hg3 hv3
 obtain⟨p3,d3,rfl⟩:=own_slice ho3
 obtain⟨w4,hw4⟩:∃ y,y=upd w3 wb (.cells #[pp hb,bv,lv,zi todo,.slice p3 (B.length+1) d3,vv,nv,zi 0] 85):=⟨_,rfl⟩
 obtain⟨r1,r2,r3⟩:=h2.back (a:=⟨H.trail.length,t⟩) ⟨_,_,_,rfl,rfl⟩ ho3 hg3 hw4
 have b3:w3.heap[hb]?=w.heap[hb]?:=by
  rw[hh,hg3.block _ (ltOf hh2) (fun e=>?_)]
  ·exact hh2
  ·obtain⟨cs,h1⟩:=rowTy h2.ok e.symm hh2
   injection h1 with _ h1 _
   exact absurd h1 (by decide)
 refine⟨⟨by rw[r3,hc],b3⟩,?_⟩
 simp (disch:=first|assumption|omega|simp only[zS]<;>omega|decide) only[zb71,simprocAttr,r3]
 rw[<- hw4]
 exact⟨⟨_,_,_,_,r1,(fun bb oo ho h1 h2 h3=>by
  have ho2:=hE2.ext _ _ ho
  have hl2:=ltOf ho2
  refine⟨?_,h2,?_⟩
  ·rw[hw4,hp_upd_other h1,hg3.block _ hl2 (fun e=>h3 e.symm)];exact ho2
  ·rcases hv3 with hv3 | hv3
   ·rw[hv3];exact h3
   ·intro e;have:=hv3 _ e;omega)⟩,((hE2.toU).trans r2)⟩
def BaseA(w:World)(hb:Nat)(bv:Value):Prop:=∃ bb cap cs a1 c1 a2 c2 a3 c3 a4 c4,bv = .slice (some ⟨bb,0,none⟩) 1 cap/\bb<hb/\w.heap[bb]?=some (.cells cs 43 (0,0))/\7≤cs.size /\
 cs.toList.take 7=[.string (bs [97]),.slice a1 0 c1,.int .u8 103,.string (bs [116,114,117,101]),.slice a2 0 c2,.slice a3 0 c3,.slice a4 0 c4] /\
 IsRb (fun b=>b<hb) w [.int .u8 103,.string (bs [116,114,117,101]),.slice a2 0 c2,.slice a3 0 c3] P.trueB
theorem BaseA.up{w w':World}{hb:Nat}{bv:Value}(h:BaseA w hb bv)(hf:UpFr hb w w'):BaseA w' hb bv:=by
 obtain⟨bb,cap,cs,a1,c1,a2,c2,a3,c3,a4,c4,e,h1,h2,h3,h4,h5⟩:=h
 exact⟨bb,cap,cs,a1,c1,a2,c2,a3,c3,a4,c4,e,h1,hf.block _ _ h2 (by omega),h3,h4,h5.mono (fun _ h=>h) (fun b _ hb ho=>hf.block _ _ ho (by omega)) (fun b _ hb ho=>hf.block _ _ ho (by omega))⟩
theorem HFr.up{hb:Nat}{w w':World}{A:Nat->Prop}{H:P.Hp}(h:HFr hb w w')(hr:RHp A w hb H):UpFr hb w w':=by
 obtain⟨kv,nv,iv,av,tv,rv,ars,hx⟩:=hr
 refine⟨⟨h.fr.os,h.fr.tape,h.fr.output,h.fr.size,fun b o hbo hm=>h.fr.block b o hbo fun ho=>hm ?_⟩,fun _ b hl ho=>(h.own b ho).resolve_right (by omega),fun _ _ _ _ _ hc hn _=>h.fr.block _ _ hc hn⟩
 rcases ho with rfl | ⟨cs,T,q1,v,q2,q3⟩
 ·exact Nat.le_refl _
 ·rw[hx.q.cell] at q1
  injection q1 with q1
  injection q1 with q1 _ _
  subst q1
  simp only[List.mem_append,List.mem_map] at q2
  rcases q2 with⟨r,hr,rfl⟩| hv
  ·have:=((hx.q.own r hr).lt _ q3).1;omega
  ·rw[hx.q.tl v hv] at q3;cases q3
def nextA(name:P.Bs)(n k:Nat):Int:=if k=0/\name=[97]/\n=0 then 0 else -1
def zb72:=(zA zG0 (zA @sh_Pr_Walk_next.eq_1 (zA @fa_43_0 (zA @fa_43_1 (zA @fa_85_1 (zA @ix_23 (zA @ld_23 (zA @ld_37 (zA @ld_9 (zA @ln_23 @ln_37))))))))))
theorem rNextA {w:World} {hb wb:Nat} {H:P.Hp} {bv:Value} {todo:Int} {L:List Gl} {B:List Ag} {lv kv vv nv:Value} {lc kc:List Value} (h:WKx w hb wb H bv todo L B lv kv vv nv lc kc) (hB:BaseA w hb bv) (name:P.Bs) (n k:Nat) (hk:k≤1) :
  Calls Tryz.prog 84 #[pp wb,.string (bs name),zi (n:Nat),zi (k:Nat)] w fun e w'=>e = .returned (zi (nextA name n k))/\w'=w:=by
 have hc:=h.cell
 have lw:=ltOf hc
 obtain⟨bb,cap,cs,a1,c1,a2,c2,a3,c3,a4,c4,rfl,h1,h2,h3,h4,-⟩:=hB
 have lb:=ltOf h2
 have q0:cs[0]?=some (.string (bs [97])):=by
  have:=congrArg (fun x:List Value=>x[0]?) h4
  simpa [List.getElem?_take] using this
 have q1:cs[1]?=some (.slice a1 0 c1):=by
  have:=congrArg (fun x:List Value=>x[1]?) h4
  simpa [List.getElem?_take] using this
 refine sh_Pr_Walk_next_ok ?_
 refine⟨fun m x w'=>w'=w/\∃ j,x 3=zi (j:Nat)/\j≤1/\m=1-j/\(j=k\/(j=1/\nextA name n k=-1)),⟨_,rfl,k,rfl,hk,rfl,.inl rfl⟩,?_⟩
 intro m x d w1 hI
 refine toPr ?_
 obtain⟨rfl,j,hx,hj,rfl,hjk⟩:=hI
 by_cases hj0:j=0
 ·subst hj0
  simp (disch:=first|assumption|omega|simp only[zS]<;>omega|decide) only[zb72,simprocAttr,hx,hc]
  refine⟨fun _ w'=>w'=w1/\¬ (name=[97]/\n=0),?_,?_⟩
  ·refine⟨fun y w'=>w'=w1/\y 38 = .bool (decide (name=[97]/\n=0)),?_,?_⟩
   ·by_cases hn:name=[97]
    ·by_cases hn0:n=0
     ·subst hn0
      simp (disch:=first|assumption|omega|simp only[zS]<;>omega|decide) only[zb72,simprocAttr,hx,hc,h2,q0,q1,hn]
      try simp [sOf]
     ·have hn0':¬ (0:Int)=((n:Nat):Int):=by omega
      simp (disch:=first|assumption|omega|simp only[zS]<;>omega|decide) only[zb72,simprocAttr,hx,hc,h2,q0,q1,hn]
      simp [sOf,hn0]
      try omega
    ·have hn':¬ ([97]:P.Bs)=name:=fun h=>hn h.symm
     simp (disch:=first|assumption|omega|simp only[zS]<;>omega|decide) only[zb72,simprocAttr,hx,hc,h2,q0,q1]
     simp [sOf,hn]
   ·rintro y w' ⟨rfl,hy⟩ d
    rw[hy]
    by_cases hn:name=[97]/\n=0
    ·rw[bs_pos _ _ hn]
     refine⟨?_,rfl⟩
     rcases hjk with hjk | hjk
     ·rw[hx,nextA,if_pos ⟨hjk.symm,hn⟩];rfl
     ·omega
    ·rw[bs_neg _ _ hn]
     exact⟨rfl,hn⟩
  ·rintro y w' ⟨rfl,hn⟩ d
   simp (disch:=first|assumption|omega|simp only[zS]<;>omega|decide) only[zb72,simprocAttr,hx]
   exact⟨0,by omega,1,rfl,by omega,rfl,.inr ⟨rfl,by unfold nextA;rw[if_neg (fun h=>hn h.2)]⟩⟩
 ·have hj1:j=1:=by omega
  subst hj1
  simp (disch:=first|assumption|omega|simp only[zS]<;>omega|decide) only[zb72,simprocAttr,hx,hc]
  rcases hjk with hjk | hjk
  ·unfold nextA;rw[if_neg (by omega)]
  ·rw[hjk.2]
theorem sliced_own{w:World}{base e size n dk m:Nat}{pk:Option Addr}{xs:List Value}(h:w.ownsRow base e size (.slice pk n dk) n xs):n≤dk/\sliced pk 0 n dk m = .slice pk n dk:=by
 rcases h.2 with⟨h1,rfl⟩| ⟨g,cap,cur,h1,-,-,h4,-⟩
 ·simp only[Value.slice.injEq] at h1
  obtain⟨rfl,-,rfl⟩:=h1
  exact⟨Nat.le_refl _,by unfold sliced;simp⟩
 ·simp only[Value.slice.injEq,true_and] at h1
  obtain⟨rfl,rfl⟩:=h1
  refine⟨h4,?_⟩
  unfold sliced
  by_cases h0:dk=0
  ·have:n=0:=by omega
   subst h0 this
   simp
  ·simp [h0,Addr.add]
def zb73:=(zA zG0 (zA @sh_Pr_Walk_clause.eq_1 (zA @al_43 (zA @bd_146 (zA @br_82_1 (zA @fa_43_1 (zA @fa_43_2 (zA @fa_43_3 (zA @fa_85_0 (zA @fa_85_1 (zA @fa_85_3 (zA @fa_85_4 (zA @fa_93_5 (zA @fa_93_6 (zA @ix_23 (zA @ix_37 (zA @ix_83 (zA @ld_111 (zA @ld_23 (zA @ld_3 (zA @ld_37 (zA @ld_40 (zA @ld_41 (zA @ld_43 (zA @ld_79 (zA @ld_82 (zA @ld_83 (zA @ln_41 (zA @ln_83 (zA @sh_82 (zA @st_3 (zA @st_43 @st_82))))))))))))))))))))))))))))))))
set_option maxHeartbeats 1000000 in
theorem rClauseA {w:World} {hb wb:Nat} {H:P.Hp} {bv:Value} {todo:Int} {L:List Gl} {B:List Ag} {lv kv vv nv:Value} {lc kc:List Value} (h:WKx w hb wb H bv todo L B lv kv vv nv lc kc) (hB:BaseA w hb bv) (hf:H.Fit) (hn:H.nodes.length≤100000000) (hcost:H.cost≤1000000000) (hl:L.length≤900000000) {av:Option Addr} {ac:Nat} (t:Int) :
  Calls Tryz.prog 49 #[pp wb,.string (bs [97]),.slice av 0 ac,zi 0,zi t,zi (B.length:Nat)] w fun e w'=>e = .returned (.bool true) /\
   WK w' hb wb (H.ce (H.cost+1) H.err) bv vv nv (L.length:Nat) (L++[⟨false,P.trueB,[],B.length,t⟩]) B/\UpFr hb w w':=by
 have hc:=h.cell
 have hlt:=h.lt
 obtain⟨kv',nv',iv',av',tv',rv',ars',hx⟩:=id h.h
 have hh:=hx.cell
 refine sh_Pr_Walk_clause_ok ?_
 have hc1:((H.cost:Nat):Int)+1=((H.cost+1:Nat):Int):=by omega
 obtain⟨pk,dk,hkv⟩:=own_slice h.ok
 subst hkv
 simp (disch:=first|assumption|omega|simp only[zS]<;>omega|decide) only[zb73,simprocAttr,hc,hh]
 rw[hc1]
 obtain⟨h1,f1⟩:=hx.ce (H.cost+1) H.err
 obtain⟨w1,hw1⟩:∃ y,y=upd w hb (.cells #[kv',nv',iv',av',tv',rv',zi ((H.cost+1:Nat):Int),zi (H.most:Nat),zi (H.err:Nat)] 93):=⟨_,rfl⟩
 rw[<- hw1] at h1 f1 ⊢
 have k1:=h.table ⟨kv',nv',iv',av',tv',rv',ars',h1⟩ f1
 have q1:=k1.cell
 obtain⟨hcap,hsl⟩:=sliced_own (m:=6) h.ok
 have hcap':((B.length:Nat):Int)≤((dk:Nat):Int):=by omega
 have ebn:((B.length:Nat):Int).toNat=B.length:=by omega
 simp (disch:=first|assumption|omega|simp only[zS]<;>omega|decide) only[zb73,simprocAttr,ebn,hsl,hc]
 rw[<- hw1]
 obtain⟨w2,hw2⟩:∃ y,y=upd w1 wb (.cells #[pp hb,bv,lv,zi todo,.slice pk B.length dk,vv,nv,zi 0] 85):=⟨_,rfl⟩
 obtain⟨k2,u2⟩:=k1.head todo hw2
 have u1:UpFr hb w w1:=f1.up h.h
 have B2:=(hB.up u1).up u2
 rw[<- hw2]
 refine Calls.mono (rNextA k2 B2 [97] 0 1 (by omega)) ?_
 rintro e w3 ⟨rfl,rfl⟩
 refine⟨fun _ w'=>w'=w3,?_,?_⟩
 ·have en:nextA [97] 0 1=-1:=rfl
  rw[en]
  simp (disch:=first|assumption|omega|simp only[zS]<;>omega|decide) only[zb73,simprocAttr]
 ·rintro x w' rfl d
  obtain⟨bb,cap,cs,a1,c1,a2,c2,a3,c3,a4,c4,rfl,h1',h2',h3',h4',h5'⟩:=B2
  have q2:=k2.cell
  have lw2:=ltOf q2
  simp (disch:=first|assumption|omega|simp only[zS]<;>omega|decide) only[zb73,simprocAttr,q2,h2',h4']
  obtain⟨w4,hw4⟩:∃ y,y=(upd (w'.alloc (.cells #[.string (bs []),.slice none 0 0,.int .u8 0,.string (bs []),.slice none 0 0,.slice none 0 0,.slice none 0 0] 43 (0,0))) w'.heap.size
   (.cells #[.string (bs [97]),.slice a1 0 c1,.int .u8 103,.string (bs [116,114,117,101]),.slice a2 0 c2,.slice a3 0 c3,.slice a4 0 c4] 43 (0,0))).drew:=⟨_,rfl⟩
  have hE4:Ext w' w4:=by rw[hw4];exact(((FrM.refl _ _).alloc _).upd (.inr (Nat.le_refl _))).drew
  have g4:w4.heap[w'.heap.size]?=some (.cells #[.string (bs [97]),.slice a1 0 c1,.int .u8 103,.string (bs [116,114,117,101]),.slice a2 0 c2,.slice a3 0 c3,.slice a4 0 c4] 43 (0,0)):=by
   rw[hw4];exact hp_upd_same rfl (by rw[size_alloc];omega)
  rw[<- hw4]
  have k4:=k2.ext hE4
  refine Calls.mono (rFresh k4.h 0 (by show H.nodes.length+0≤_;omega) (fun _ _=>trivial)) ?_
  rintro e w5 ⟨v,rfl,hr5,f5,-,ho5,hno5⟩
  have hv0:IsSl (fun b=>¬ OwnOf w5 hb b) w5 3 v (([]:List Nat).map fun n=>(zi (n:Nat):Value)):=own_IsSl ho5 (fun b hb=>hno5 b hb)
  have k5:=k4.table (hr5.mono (fun _ _ _=>trivial)) f5
  have g5:w5.heap[w'.heap.size]?=some (.cells #[.string (bs [97]),.slice a1 0 c1,.int .u8 103,.string (bs [116,114,117,101]),.slice a2 0 c2,.slice a3 0 c3,.slice a4 0 c4] 43 (0,0)):=f5.fr.block _ _ g4 (k4.h.ty g4 (by decide))
  have u5:=f5.up k4.h
  have l5:=ltOf g5
  refine⟨fun m x w'=>w'=w5/\x 16=zi 0,⟨0,rfl,rfl⟩,?_⟩
  intro m x d w6 hI
  refine toPr ?_
  obtain⟨rfl,hx16⟩:=hI
  simp (disch:=first|assumption|omega|simp only[zS]<;>omega|decide) only[zb73,simprocAttr,hx16,g5]
  have hrb:IsRb (fun b=>b<hb) w6 [.int .u8 103,.string (bs [116,114,117,101]),.slice a2 0 c2,.slice a3 0 c3] P.trueB:=
   h5'.mono (fun _ h=>h) (fun b _ hb ho=>u5.block _ _ (hE4.ext _ _ ho) (by omega)) (fun b _ hb ho=>u5.block _ _ (hE4.ext _ _ ho) (by omega))
  refine Calls.mono (rPush k5 ⟨_,_,_,_,_,_,_,_,rfl,rfl,rfl,rfl⟩ hrb hv0 B.length t hl) ?_
  rintro e w7 ⟨rfl,⟨lv7,kv7,lc7,kc7,k7,-⟩,u7⟩
  have q7:=k7.cell
  simp (disch:=first|assumption|omega|simp only[zS]<;>omega|decide) only[zb73,simprocAttr,q7]
  obtain⟨w8,hw8⟩:∃ y,y=upd w7 wb (.cells #[pp hb,.slice (some ⟨bb,0,none⟩) 1 cap,lv7,zi (L.length:Nat),kv7,vv,nv,zi 0] 85):=⟨_,rfl⟩
  obtain⟨k8,u8⟩:=k7.head (L.length:Nat) hw8
  rw[<- hw8]
  exact⟨⟨_,_,_,_,k8⟩,((((u1.trans u2).trans hE4.toU).trans u5).trans u7).trans u8⟩
mutual
theorem P.made_few {vs:List Nat}:∀ (x:P.Ex) (H:P.Hp),P.ExOk vs.length x->H.Fit->H.Few->(∀ v∈vs,v<H.nodes.length)->(H.made vs x).1.Few
 | .mk kind name n k args,H,hok,hg,hw,hv=>by
  unfold P.ExOk at hok
  obtain⟨h1,h2,h3,h4,h5,h6,h7,h8⟩:=hok
  unfold P.Hp.made
  by_cases e:kind=118
  ·rw[if_pos e];exact hw
  ·rw[if_neg e]
   obtain⟨g1,g2,g3,g4,g5,g6⟩:=P.mades_fit args H h8 hg hv
   exact few_add (P.mades_few args H h8 hg hw hv) g1.ev (by simp only;omega)
 termination_by structural x=>x
theorem P.mades_few {vs:List Nat}:∀ (l:List P.Ex) (H:P.Hp),P.ExsOk vs.length l->H.Fit->H.Few->(∀ v∈vs,v<H.nodes.length)->(H.mades vs l).1.Few
 | [],H,_,hg,hw,_=>by unfold P.Hp.mades;exact hw
 | x::xs,H,hok,hg,hw,hv=>by
  unfold P.ExsOk at hok
  obtain⟨g1,g2,g3,g4,g5⟩:=P.made_fit x H hok.1 hg hv
  unfold P.Hp.mades
  exact P.mades_few xs _ hok.2 g1 (P.made_few x H hok.1 hg hw hv) (fun v hm=>Nat.lt_of_lt_of_le (hv v hm) g2.len)
 termination_by structural x=>x
end
def GPost(hb wb:Nat)(H:P.Hp)(bv vv nv:Value)(todo:Int)(L:List Gl)(B:List Ag)(m:Nat)(w:World)(e:Ending)(w':World):Prop:=
 ∃ r H' todo' L',e = .returned (.bool r)/\WK w' hb wb H' bv vv nv todo' L' B/\UpFr hb w w'/\H.Goes H' 3 m/\((L'=L/\todo'=todo)\/(L'=L++[⟨false,P.trueB,[],B.length,todo⟩]/\todo'=(L.length:Nat)))
def zb74:=(zA zG0 (zA @sh_Pr_Walk_goal.eq_1 (zA @br_83_1 (zA @fa_40_1 (zA @fa_40_2 (zA @fa_85_0 (zA @fa_85_3 (zA @fa_85_4 (zA @fa_93_8 (zA @ix_37 (zA @ld_111 (zA @ld_3 (zA @ld_37 (zA @ld_79 (zA @ld_82 (zA @ld_9 (zA @ln_37 (zA @ln_82 (zA @ln_83 @st_32)))))))))))))))))))
set_option maxHeartbeats 2000000 in
theorem rGoalW {w:World} {hb wb:Nat} {H:P.Hp} {bv:Value} {todo:Int} {L:List Gl} {B:List Ag} {lv kv vv nv:Value} {lc kc:List Value} (h:WKx w hb wb H bv todo L B lv kv vv nv lc kc) (hB:BaseA w hb bv) (hlv:H.Live) (hnn:H.nodes.length+3000≤100000000) (hl:L.length≤900000000)
  {kind M:Nat} {name:P.Bs} {args:List P.Ex} {parts:List P.Bd} {bl:List Value} {v:Value} {ids:List Nat} (hbd:IsRb (fun b=>b<hb) w bl (.mk kind name args parts)) (hok:P.BdOk ids.length M (.mk kind name args parts)) (hM:M≤2900)
  (hv:IsSl (fun b=>¬ OwnOf w hb b) w 3 v (ids.map fun n=>zi (n:Nat))) (hids:∀ t∈ids,t<H.nodes.length) :
  Calls Tryz.prog 83 #[pp wb,.agg bl.toArray,v] w (GPost hb wb H bv vv nv todo L B (M+1) w):=by
 unfold IsRb at hbd
 obtain⟨av,pv,us,ps,rfl,hrw,hxs,hpw,-⟩:=hbd
 obtain⟨ra,rc,rfl⟩:=hrw.shape
 obtain⟨pa,pc,rfl⟩:=hpw.shape
 unfold P.BdOk at hok
 obtain⟨o1,o2,o3,o4,o5,o6,o7,o8⟩:=hok
 obtain⟨hf,hw,hp,hn,htr,he⟩:=id hlv
 have hc:=h.cell
 refine sh_Pr_Walk_goal_ok ?_
 obtain⟨wA,hwA⟩:∃ y,y=w.alloc (.cells #[.int .u8 (kind:Nat),.string (bs name),.slice ra args.length rc,.slice pa parts.length pc] 40):=⟨_,rfl⟩
 have hEA:Ext w wA:=by rw[hwA];exact(FrM.refl _ _).alloc _
 have qA:wA.heap[w.heap.size]?=some (.cells #[.int .u8 (kind:Nat),.string (bs name),.slice ra args.length rc,.slice pa parts.length pc] 40):=by rw[hwA];exact hp_alloc_new rfl
 simp (disch:=first|assumption|omega|simp only[zS]<;>omega|decide) only[zb74,simprocAttr]
 rw[<- hwA]
 have kA:=h.ext hEA
 have hRA:=kA.h
 refine⟨fun m z w'=>∃ j v,z 8=zi (j:Nat)/\z 7=v/\j≤args.length/\m=args.length-j/\RHp (fun b=>True/\some b≠v.ownBlock) w' hb (H.mades ids (args.take j)).1/\HFr hb wA w' /\
   w'.ownsRow wA.heap.size 3 1 v j ((H.mades ids (args.take j)).2.map fun n=>zi (n:Nat))/\(∀ k,v.ownBlock=some k->¬ OwnOf w' hb k),
  ⟨_,0,.slice none 0 0,rfl,rfl,Nat.zero_le _,rfl,by simpa [P.Hp.mades] using hRA.mono (B:=fun b=>True/\some b≠(Value.slice none 0 0).ownBlock) (fun b _ h=>⟨h,by simp [Value.ownBlock]⟩),HFr.refl _ _,World.ownsRow_nil _ _ _ _,fun k hk=>by cases hk⟩,?_⟩
 intro m z d w1 hI
 refine toPr ?_
 obtain⟨j,v7,h8,rfl,hj,rfl,h1,hf1,ho1,hn1⟩:=hI
 have s1:=hf1.fr.size
 have q1:=hf1.fr.block _ _ qA (hRA.ty qA (by decide))
 have hlen1:=P.mades_len ids (args.take j) H
 have hst:=P.exSzs_take args j
 have k1:=kA.table (h1.mono (B:=fun _=>True) (fun _ _ _=>trivial)) hf1
 have c1:=k1.cell
 by_cases hltj:j<args.length
 ·have hse:=P.exSz_at args j hltj
  obtain⟨eb,ecap,ecs,e1,e2,e3,e4,e5,e6⟩:=hrw.at hltj
  simp only[Value.slice.injEq,true_and] at e1
  obtain⟨rfl,rfl⟩:=e1
  have e3a:=hEA.ext _ _ e3
  have e3':=hf1.fr.block _ _ e3a (hRA.ty e3a (by decide))
  have hxj:=((IsRxs.at j hltj hxs).mono (fun _ h=>h) (fun _ _ _ ho=>hEA.ext _ _ ho)).mono (F':=fun b=>b<hb) (fun _ h=>h) (hRA.keepE hf1 _)
  have ejn:((j:Nat):Int).toNat=j:=by omega
  have emul:j*5=5*j:=by omega
  have hszr:j*5+5≤ecs.size:=by
   have:5*(j+1)≤5*args.length:=Nat.mul_le_mul_left 5 (by omega)
   omega
  have hjl':((j:Nat):Int)<((args.length:Nat):Int):=by omega
  simp (disch:=first|assumption|omega|simp only[zS]<;>omega|decide) only[zb74,simprocAttr,h8,q1,c1,e3',ejn]
  rw[show List.take 5 (List.drop (j*5) ecs.toList)=List.take 5 (List.drop (5*j) us) by rw[emul];exact e5]
  have hd1:HFr hb w1 w1.drew:=HFr.ofExt ((FrM.refl _ _).drew) h1.lt
  have h1d:=h1.ext ((FrM.refl (fun _ _=>False) w1).drew)
  have hfwd:HFr hb w w1.drew:=((HFr.ofExt hEA h.h.lt).trans hf1).trans hd1
  have hvv1:IsSl (fun b=>¬ OwnOf w1.drew hb b) w1.drew 3 v (ids.map fun n=>zi (n:Nat)):=by
   have:=slKeepH (A:=fun _=>True) hfwd (hv.mono (F':=fun b=>¬ OwnOf w hb b/\True) (fun b hb=>⟨hb,trivial⟩) fun _ _ _ h=>h)
   exact this.mono (fun b h=>h.1) fun _ _ _ h=>h
  refine Calls.mono (rMadeN (P.exSz args[j]) args[j] (Nat.le_refl _) (o5.at hltj) h1d (fun b hb'=>⟨trivial,fun e=>by have:=(ho1.lt b e.symm).2;have:w1.heap.size≤b:=hb';omega⟩) (by omega) (show IsRx (fun b=>b<hb) w1.drew _ args[j] from IsRx.mono (F:=fun b=>b<hb) (w:=w1) (w':=w1.drew) (fun _ h=>h) (fun _ _ _ ho=>ho) _ _ hxj) hvv1 (fun _ h=>h)) ?_
  rintro e w2 ⟨rfl,h2,hf2⟩
  have hf2':HFr hb w1 w2:=hd1.trans hf2
  have s2:=hf2'.fr.size
  have ho2:w2.ownsRow wA.heap.size 3 1 (z 7) j ((H.mades ids (args.take j)).2.map fun n=>zi (n:Nat)):=by
   obtain⟨g0,g1⟩:=ho1
   refine⟨g0,?_⟩
   rcases g1 with g1 | ⟨g,cap,cur,q1,q2,q3,q4⟩
   ·exact .inl g1
   ·exact .inr ⟨g,cap,cur,q1,q2,hf2'.fr.block _ _ q3 (hn1 g (by rw[q1];rfl)),q4⟩
  have hn2:∀ k,(z 7).ownBlock=some k->¬ OwnOf w2 hb k:=fun k hk ho=>by
   rcases hf2'.own k ho with h | h
   ·exact hn1 k hk h
   ·have:=(ho1.lt k hk).2;omega
  simp (disch:=first|assumption|omega|simp only[zS]<;>omega|decide) only[zb74,simprocAttr,h8]
  obtain⟨m1,m2⟩:=P.mades_snoc ids args[j] (args.take j) H
  rw[List.take_append_getElem hltj] at m1 m2
  rw[<- m1] at h2
  refine wr_appI (A:=fun _=>True) h2 ho2 hn2 rfl rfl (by omega) (by omega) ?_
  intro v' w3 ho3 h3 hn3 hf3 hk3
  obtain⟨rb,rd,rfl⟩:=own_slice ho3
  simp (disch:=first|assumption|omega|simp only[zS]<;>omega|decide) only[zb74,simprocAttr,h8]
  refine⟨_,by omega,j+1,_,by simp,by simp,by omega,rfl,h3.mono (fun _ _ h=>h.2),hf3 wA (hf1.trans hf2') (Nat.le_refl _),?_,hn3⟩
  rw[m2,List.map_append]
  exact ho3
 ·have hjn:j=args.length:=by omega
  subst hjn
  rw[List.take_length] at h1 ho1 hlen1 k1
  obtain⟨rb,rd,hz7⟩:=own_slice ho1
  obtain⟨g1,g2,g3,g4,g5,g6⟩:=P.mades_fit args H o5 hf hids
  have gw:=P.mades_few args H o5 hf hw hids
  have hu1:UpFr hb w w1:=((HFr.ofExt hEA h.h.lt).trans hf1).up h.h
  have hgo:H.Goes (H.mades ids args).1 0 M:=⟨g1,gw,⟨g2.len,by omega⟩,g3.most,Nat.le_of_eq g3.cost.symm,by rw[g3.cost];omega,by rw[g3.cost,g4];omega,by rw[g3.err];exact he⟩
  simp (disch:=first|assumption|omega|simp only[zS]<;>omega|decide) only[zb74,simprocAttr,h8,q1]
  have hco:(H.mades ids args).1.cost=H.cost:=g3.cost
  have hmo:(H.mades ids args).1.most=H.most:=g3.most
  have hr1:=h1.mono (B:=fun _=>True) (fun _ _ _=>trivial)
  refine Calls.mono (rTests name w1) ?_
  rintro e w2 ⟨rfl,rfl⟩
  have hB1:=hB.up hu1
  by_cases ht:P.tests name=args.length
  ·have ht':P.tests name=((args.length:Nat):Int):=ht
   rw[hz7] at ho1 hn1 ⊢
   simp (disch:=first|assumption|omega|simp only[zS]<;>omega|decide) only[zb74,simprocAttr,hz7,c1,q1]
   have hE2:Ext w2 w2.drew:=(FrM.refl _ _).drew
   have hd2:HFr hb w2 w2.drew:=HFr.ofExt hE2 hr1.lt
   have hs:IsSl (fun b=>(Value.slice rb args.length rd).ownBlock=some b) w2.drew 3 (.slice rb args.length rd) ((H.mades ids args).2.map fun n=>zi (n:Nat)):=
    (own_IsSl ho1 (fun b hb=>hb)).mono (fun _ h=>h) (fun _ _ _ ho=>ho)
   refine Calls.mono (rTest (hr1.ext hE2) ⟨g1,gw,by rw[hco,P.Hp.pot_most hmo];exact hp,by omega,by rw[hco,g4];exact htr,hgo.err⟩ (fun _ _=>trivial) hs (fun b hb ho=>hn1 b hb ((HFr.ofExt hE2 hr1.lt).own b ho |>.elim (fun h=>h) (fun h=>by have:=(ho1.lt b hb).2;omega))) g5 (by rw[g6];exact ht)) ?_
   rintro e w3 ⟨r,H3,rfl,r1,r2,r3⟩
   simp (disch:=first|assumption|omega|simp only[zS]<;>omega|decide) only[zb74,simprocAttr]
   have k3:=k1.table r2 (hd2.trans r3)
   exact⟨r,H3,todo,L,rfl,⟨_,_,_,_,k3⟩,hu1.trans ((hd2.trans r3).up hr1),(hgo.trans r1).up (by omega) (by omega),.inl ⟨rfl,rfl⟩⟩
  ·have ht':¬ P.tests name=((args.length:Nat):Int):=ht
   rw[hz7]
   simp (disch:=first|assumption|omega|simp only[zS]<;>omega|decide) only[zb74,simprocAttr,hz7,c1,q1]
   refine Calls.mono (rNextA k1 hB1 name args.length 0 (by omega)) ?_
   rintro e w3 ⟨rfl,rfl⟩
   by_cases hn0:name=[97]/\args.length=0
   ·have en:nextA name args.length 0=0:=by unfold nextA;rw[if_pos ⟨rfl,hn0⟩]
    rw[en]
    obtain⟨hnm,hal⟩:=hn0
    subst hnm
    obtain⟨pk,dk,hkv⟩:=own_slice k1.ok
    subst hkv
    simp (disch:=first|assumption|omega|simp only[zS]<;>omega|decide) only[zb74,simprocAttr,c1,q1]
    rw[hal]
    have hE2:Ext w3 w3.drew:=(FrM.refl _ _).drew
    have k2:=k1.ext hE2
    have hB2:BaseA w3.drew hb bv:=hB1.up hE2.toU
    have hcp:=P.pot_le H H.cost
    refine Calls.mono (rClauseA k2 hB2 g1 (by omega) (by rw[hco];omega) hl todo) ?_
    rintro e w4 ⟨rfl,k4,u4⟩
    simp (disch:=first|assumption|omega|simp only[zS]<;>omega|decide) only[zb74,simprocAttr]
    refine⟨true,_,_,_,rfl,k4,(hu1.trans hE2.toU).trans u4,⟨g1.ce _ _,gw,⟨g2.len,by show(H.mades ids args).1.nodes.length≤_;omega⟩,hmo,?_,?_,?_,hgo.err⟩,.inr ⟨rfl,rfl⟩⟩
    ·show H.cost≤(H.mades ids args).1.cost+1;omega
    ·show H.pot ((H.mades ids args).1.cost+1)≤_
     rw[hco];unfold P.Hp.pot;omega
    ·show(H.mades ids args).1.trail.length+_≤_+((H.mades ids args).1.cost+1)
     rw[hco,g4];omega
   ·have en:nextA name args.length 0=-1:=by unfold nextA;rw[if_neg (fun h=>hn0 h.2)]
    rw[en]
    obtain⟨kv',nv',iv',av',tv',rv',ars',hx⟩:=id hr1
    have hh:=hx.cell
    simp (disch:=first|assumption|omega|simp only[zS]<;>omega|decide) only[zb74,simprocAttr,c1,hh]
    obtain⟨q,f⟩:=hx.ce (H.mades ids args).1.cost 10
    have k4:=k1.table ⟨_,_,_,_,_,_,_,q⟩ f
    exact⟨false,(H.mades ids args).1.ce (H.mades ids args).1.cost 10,todo,L,rfl,⟨_,_,_,_,k4⟩,hu1.trans (f.up hr1),⟨g1.ce _ _,gw,⟨g2.len,by show(H.mades ids args).1.nodes.length≤_;omega⟩,hmo,by show H.cost≤(H.mades ids args).1.cost;omega,by show H.pot (H.mades ids args).1.cost≤_;rw[hco];omega,by show(H.mades ids args).1.trail.length+_≤_+(H.mades ids args).1.cost;rw[hco,g4];omega,by show(10:Nat)≤1000;omega⟩,.inl ⟨rfl,rfl⟩⟩
def Fine(L:List Gl)(t:Int)(n:Nat):Prop:=-1≤t/\t<(L.length:Nat)/\∀ j:Nat,t=j->∀ g,L[j]?=some g->g.cut≤n
theorem Fine.up{L:List Gl}{t:Int}{n m:Nat}(h:Fine L t n)(hm:n≤m):Fine L t m:=⟨h.1,h.2.1,fun j hj g hg=>Nat.le_trans (h.2.2 j hj g hg) hm⟩
theorem Fine.more{L:List Gl}{t:Int}{n:Nat}(h:Fine L t n)(X:List Gl):Fine (L++X) t n:=
 ⟨h.1,by have:=h.2.1;rw[List.length_append];omega,fun j hj g hg=>h.2.2 j hj g (by have:=h.2.1;rwa [List.getElem?_append_left (by omega)] at hg)⟩
theorem Fine.nil{L:List Gl}{n:Nat}:Fine L (-1) n:=⟨by omega,by omega,fun j hj=>by omega⟩
structure GOk(M:Nat)(H:P.Hp)(L:List Gl)(g:Gl):Prop where
 body:g.only=false->P.BdOk g.vars.length M g.what
 vars:∀ v∈g.vars,v<H.nodes.length
 rest:Fine L g.rest g.cut
def GsOk(M:Nat)(H:P.Hp)(L:List Gl):Prop:=∀ i g,L[i]?=some g->GOk M H (L.take i) g
theorem GsOk.snoc{M:Nat}{H:P.Hp}{L:List Gl}{g:Gl}(h:GsOk M H L)(hg:GOk M H L g):GsOk M H (L++[g]):=by
 intro i x hx
 by_cases hi:i<L.length
 ·rw[List.getElem?_append_left hi] at hx
  rw[List.take_append_of_le_length (by omega)]
  exact h i x hx
 ·have hi2:i=L.length:=by
   have:=(List.getElem?_eq_some_iff.1 hx).1
   simp at this;omega
  subst hi2
  rw[List.getElem?_append_right (Nat.le_refl _),Nat.sub_self] at hx
  injection hx with hx
  subst hx
  rw[List.take_left]
  exact hg
theorem GsOk.mono{M:Nat}{H H':P.Hp}{L:List Gl}(h:GsOk M H L)(hl:H.nodes.length≤H'.nodes.length):GsOk M H' L:=fun i g hg=>⟨(h i g hg).body,fun v hv=>Nat.lt_of_lt_of_le ((h i g hg).vars v hv) hl,(h i g hg).rest⟩
theorem fine_new{L:List Gl}{g:Gl}{n:Nat}(hc:g.cut≤n):Fine (L++[g]) (L.length:Nat) n:=
 ⟨by omega,by rw[List.length_append,List.length_singleton];omega,fun j hj x hx=>by
  have:j=L.length:=by omega
  subst this
  rw[List.getElem?_append_right (Nat.le_refl _),Nat.sub_self] at hx
  injection hx with hx
  subst hx
  exact hc⟩
structure Inv(M:Nat)(H:P.Hp)(todo:Int)(L:List Gl)(B:List Ag):Prop where
 fit:H.Fit
 few:H.Few
 err:H.err≤1000
 tr:H.trail.length≤H.cost
 pot:H.pot H.cost≤1000000
 nodes:H.nodes.length+(M+2)*(H.most+1-H.cost)≤90000000
 lists:L.length+(M+5)*(H.most+1-H.cost)≤800000000
 backs:B.length+2*(H.most+1-H.cost)≤800000000
 gs:GsOk M H L
 now:Fine L todo B.length
 ags:∀ i a,B[i]?=some a->Fine L a.todo i
theorem ags_take{L:List Gl}{B:List Ag}(h:∀ i a,B[i]?=some a->Fine L a.todo i)(n:Nat):∀ i a,(B.take n)[i]?=some a->Fine L a.todo i:=fun i a ha=>by
 rw[List.getElem?_take] at ha
 split at ha
 ·exact h i a ha
 ·cases ha
theorem ags_snoc{L:List Gl}{B:List Ag}{a:Ag}(h:∀ i a,B[i]?=some a->Fine L a.todo i)(ha:Fine L a.todo B.length):∀ i x,(B++[a])[i]?=some x->Fine L x.todo i:=fun i x hx=>by
 by_cases hi:i<B.length
 ·rw[List.getElem?_append_left hi] at hx;exact h i x hx
 ·have hi2:i=B.length:=by
   have:=(List.getElem?_eq_some_iff.1 hx).1
   simp at this;omega
  subst hi2
  rw[List.getElem?_append_right (Nat.le_refl _),Nat.sub_self] at hx
  injection hx with hx
  subst hx
  exact ha
theorem ags_more{L:List Gl}{B:List Ag}(h:∀ i a,B[i]?=some a->Fine L a.todo i)(X:List Gl):∀ i a,B[i]?=some a->Fine (L++X) a.todo i:=fun i a ha=>(h i a ha).more X
theorem IsRb.sh{F:Nat->Prop}{w:World}{l:List Value}:∀ {b:P.Bd},IsRb F w l b->∃ d0 d1 d2 d3,l=[d0,d1,d2,d3]/\ShB d0 d1 d2 d3
 | .mk kind name args parts,h=>by
  unfold IsRb at h
  obtain⟨av,pv,us,ps,rfl,h1,-,h2,-⟩:=h
  obtain⟨ra,rc,rfl⟩:=h1.shape
  obtain⟨pa,pc,rfl⟩:=h2.shape
  exact⟨_,_,_,_,rfl,_,_,_,_,_,_,_,_,rfl,rfl,rfl,rfl⟩
theorem IsRb.part{F:Nat->Prop}{w:World}{a0 a1 a2:Value}{q:Option Addr}{n2 c2 kind:Nat}{name:P.Bs}{args:List P.Ex}{parts:List P.Bd}(h:IsRb F w [a0,a1,a2,.slice q n2 c2] (.mk kind name args parts)){j:Nat}(hj:j<parts.length) :
  n2=parts.length/\∃ eb ecs d0 d1 d2 d3,q=some ⟨eb,0,none⟩/\F eb/\w.heap[eb]?=some (.cells ecs 40 (0,0))/\j*4+4≤ecs.size/\List.take 4 (List.drop (j*4) ecs.toList)=[d0,d1,d2,d3]/\ShB d0 d1 d2 d3/\IsRb F w [d0,d1,d2,d3] parts[j]:=by
 unfold IsRb at h
 obtain⟨av,pv,us,ps,e,h1,-,h2,h3⟩:=h
 simp only[List.cons.injEq,and_true] at e
 obtain⟨-,-,-,rfl⟩:=e
 rcases h2 with⟨h0,-,-⟩| ⟨b,cap,cs,g1,g2,g3,g4,g5,g6⟩
 ·omega
 ·simp only[Value.slice.injEq] at g1
  obtain⟨rfl,rfl,rfl⟩:=g1
  have hx:=IsRbs.at j hj h3
  obtain⟨d0,d1,d2,d3,e4,hsh⟩:=hx.sh
  have hsz:j*4+4≤cs.size:=by
   have:4*(j+1)≤4*parts.length:=Nat.mul_le_mul_left 4 (by omega)
   omega
  refine⟨rfl,b,cs,d0,d1,d2,d3,rfl,g2,g3,hsz,?_,hsh,by rw[<- e4];exact hx⟩
  rw[<- e4,<- g5,List.drop_take,List.take_take,Nat.min_eq_left (by omega),Nat.mul_comm j 4]
theorem OwnOf.same{w w':World}{hb b:Nat}(h:w'.heap[hb]?=w.heap[hb]?)(ho:OwnOf w' hb b):OwnOf w hb b:=by
 rcases ho with rfl | ⟨cs,T,h1,h2⟩
 ·exact .inl rfl
 ·exact .inr ⟨cs,T,by rw[<- h];exact h1,h2⟩
theorem Kp.ty{w w':World}{hb wb:Nat}{H:P.Hp}{bv:Value}{todo:Int}{L:List Gl}{B:List Ag}{lv kv vv nv lv' kv':Value}{lc kc:List Value}(K:Kp wb w w' lv kv lv' kv')(h:WKx w hb wb H bv todo L B lv kv vv nv lc kc){b:Nat}{cs:Array Value}{t:Nat}{z:Nat×Nat}
  (hb':w.heap[b]?=some (.cells cs t z)) (ht:¬ GTy t):w'.heap[b]?=some (.cells cs t z):=by
 refine(K b _ hb' (fun e=>?_) (fun e=>?_) (fun e=>?_)).1
 ·subst e
  rw[h.cell] at hb'
  injection hb' with hb'
  injection hb' with _ h1 _
  exact ht (.inr (.inr h1.symm))
 ·obtain⟨cs',h1⟩:=rowTy h.ol e hb'
  injection h1 with _ h1 _
  exact ht (.inl h1)
 ·obtain⟨cs',h1⟩:=rowTy h.ok e hb'
  injection h1 with _ h1 _
  exact ht (.inr (.inl h1))
theorem Kp.vars{w w':World}{hb wb:Nat}{H:P.Hp}{bv:Value}{todo:Int}{L:List Gl}{B:List Ag}{lv kv vv nv lv' kv' v:Value}{lc kc vs:List Value}(K:Kp wb w w' lv kv lv' kv')(h:WKx w hb wb H bv todo L B lv kv vv nv lc kc)
  (hv:IsSl (fun b=>¬ OwnOf w hb b) w 3 v vs):IsSl (fun b=>¬ OwnOf w' hb b) w' 3 v vs:=by
 obtain⟨kv',nv',iv',av',tv',rv',ars',hx⟩:=id h.h
 have hc:=hx.cell
 have hc':=K.ty h hc (by decide)
 rcases hv with hv | ⟨b,cs,q1,q2,q3,q4⟩
 ·exact .inl hv
 ·exact .inr ⟨b,cs,q1,fun ho=>q2 (OwnOf.same (by rw[hc',hc]) ho),K.ty h q3 (by decide),q4⟩
theorem sliced_own2{w:World}{base e size n dk m k:Nat}{pk:Option Addr}{xs:List Value}(h:w.ownsRow base e size (.slice pk n dk) n xs)(hk:k≤n):sliced pk 0 k dk m = .slice pk k dk:=by
 rcases h.2 with⟨h1,rfl⟩| ⟨g,cap,cur,h1,-,-,h4,-⟩
 ·simp only[Value.slice.injEq] at h1
  obtain⟨rfl,-,rfl⟩:=h1
  have:k=0:=by omega
  subst this
  unfold sliced;simp
 ·simp only[Value.slice.injEq,true_and] at h1
  obtain⟨rfl,rfl⟩:=h1
  unfold sliced
  by_cases h0:dk=0
  ·have:k=0:=by omega
   subst h0 this
   simp
  ·simp [h0,Addr.add]
theorem WKx.forget2{w w3:World}{hb wb:Nat}{H:P.Hp}{bv:Value}{todo:Int}{L:List Gl}{B:List Ag}{lv vv nv:Value}{lc kc:List Value}{pk:Option Addr}{c n:Nat}(h:WKx w hb wb H bv todo L B lv (.slice pk B.length c) vv nv lc kc)(hn:n≤B.length)(todo':Int)
  (h3:w3=upd w wb (.cells #[pp hb,bv,lv,zi todo',.slice pk n c,vv,nv,zi 0] 85)):WK w3 hb wb H bv vv nv todo' L (B.take n)/\UpFr hb w w3:=by
 rcases h.ok.2 with⟨h1,h0⟩| ⟨g,cap,cur,h1,-⟩
 ·have e1:n=0:=by omega
  have e2:B=[]:=List.length_eq_zero_iff.1 h0
  subst e1 e2
  simp only[Value.slice.injEq] at h1
  obtain⟨rfl,-,rfl⟩:=h1
  obtain⟨k3,u3⟩:=h.head todo' h3
  exact⟨⟨_,_,_,_,k3⟩,u3⟩
 ·simp only[Value.slice.injEq,true_and] at h1
  obtain⟨rfl,rfl⟩:=h1
  obtain⟨k3,u3⟩:=h.forget rfl hn todo' h3
  exact⟨⟨_,_,_,_,k3⟩,u3⟩
def SPostW(M hb wb:Nat)(H:P.Hp)(bv vv nv:Value)(w:World)(e:Ending)(w':World):Prop:=
 ∃ r H' todo' L' B',e = .returned (.bool r)/\WK w' hb wb H' bv vv nv todo' L' B'/\UpFr hb w w'/\Inv M H' todo' L' B'/\H'.most=H.most/\H.cost+1≤H'.cost/\H'.pot H'.cost≤H.pot H.cost/\H.nodes.length≤H'.nodes.length
def zb75:=(zA zG0 (zA @sh_Pr_Walk_step.eq_1 (zA @al_143 (zA @al_40 (zA @bd_40 (zA @fa_143_0 (zA @fa_143_1 (zA @fa_143_2 (zA @fa_143_3 (zA @fa_143_4 (zA @fa_40_0 (zA @fa_40_3 (zA @fa_85_0 (zA @fa_85_2 (zA @fa_85_3 (zA @fa_85_4 (zA @fa_93_6 (zA @ix_38 (zA @ix_81 (zA @ld_143 (zA @ld_3 (zA @ld_38 (zA @ld_4 (zA @ld_40 (zA @ld_5 (zA @ld_79 (zA @ld_81 (zA @ld_82 (zA @ld_83 (zA @ln_38 (zA @ln_82 (zA @sh_82 (zA @st_143 (zA @st_3 (zA @st_40 @st_82)))))))))))))))))))))))))))))))))))
set_option maxHeartbeats 2000000 in
theorem rStep {M:Nat} {w:World} {hb wb:Nat} {H:P.Hp} {bv:Value} {todo:Nat} {L:List Gl} {B:List Ag} {lv kv vv nv:Value} {lc kc:List Value} (h:WKx w hb wb H bv (todo:Int) L B lv kv vv nv lc kc) (hB:BaseA w hb bv) (hi:Inv M H (todo:Int) L B) (hM:M≤2900) (hcm:H.cost≤H.most) :
  Calls Tryz.prog 47 #[pp wb] w (SPostW M hb wb H bv vv nv w):=by
 have hc:=h.cell
 have hcp:=P.pot_le H H.cost
 have hpt:=hi.pot
 obtain⟨kv',nv',iv',av',tv',rv',ars',hx⟩:=id h.h
 have hh:=hx.cell
 refine sh_Pr_Walk_step_ok ?_
 have hc1:((H.cost:Nat):Int)+1=((H.cost+1:Nat):Int):=by omega
 simp (disch:=first|assumption|omega|simp only[zS]<;>omega|decide) only[zb75,simprocAttr,hc,hh]
 rw[hc1]
 obtain⟨h1,f1⟩:=hx.ce (H.cost+1) H.err
 obtain⟨w1,hw1⟩:∃ y,y=upd w hb (.cells #[kv',nv',iv',av',tv',rv',zi ((H.cost+1:Nat):Int),zi (H.most:Nat),zi (H.err:Nat)] 93):=⟨_,rfl⟩
 have hwr:upd w hb (.cells (wrL #[kv',nv',iv',av',tv',rv',zi (H.cost:Nat),zi (H.most:Nat),zi (H.err:Nat)] 6 (Value.int .i64 ((H.cost+1:Nat):Int)).cells.toList) 93 (0,0))=w1:=hw1.symm
 rw[<- hw1] at h1 f1
 rw[hwr]
 have k1:=h.table ⟨kv',nv',iv',av',tv',rv',ars',h1⟩ f1
 have u1:UpFr hb w w1:=f1.up h.h
 have q1:=k1.cell
 have htl:todo<L.length:=by have:=hi.now.2.1;omega
 have hgl:=IsGls.at todo htl k1.gl
 obtain⟨g,hg⟩:∃ g,g=L[todo]:=⟨_,rfl⟩
 rw[<- hg] at hgl
 have hgo:GOk M H (L.take todo) g:=hi.gs todo g (by rw[hg];exact List.getElem?_eq_getElem htl)
 obtain⟨b0,b1,b2,b3,gv,e8,⟨kd,nm,p,q,n1,c1,n2,c2,rfl,rfl,rfl,rfl⟩,hbody,hvars⟩:=hgl
 obtain⟨a9,c9,rfl⟩:=hvars.sl
 obtain⟨xl,hol⟩:=k1.ol
 rcases hol with⟨-,h0⟩| ⟨gb,cap,cur,rfl,o1,o2,o3,o4,o5,o6⟩
 ·omega
 have hcells:List.take 8 (List.drop (todo*8) cur.toList)=[.int .u8 kd,.string (bs nm),.slice p n1 c1,.slice q n2 c2,.bool g.only,.slice a9 (g.vars.map fun n=>(zi (n:Nat):Value)).length c9,zi (g.cut:Nat),zi g.rest]:=by
  rw[<- e8,<- o6,List.drop_take,List.take_take,Nat.min_eq_left (by omega)]
 have l2:=ltOf o2
 refine⟨fun w'=>w'.heap[wb]?=w1.heap[wb]?/\w'.heap[gb]?=w1.heap[gb]?,⟨rfl,rfl⟩,?_⟩
 refine rds (pq wb 2) (fun w' hS=>by obtain⟨hS,-⟩:=hS;rw[q1] at hS;simp (disch:=first|assumption|omega|simp only[zS]<;>omega|decide) only[zb75,simprocAttr,hS]) (rds (.slice (some ⟨gb,0,none⟩) L.length cap) (fun w' hS=>by obtain⟨hS,-⟩:=hS;rw[q1] at hS;have:=ltOf hS;simp (disch:=first|assumption|omega|simp only[zS]<;>omega|decide) only[zb75,simprocAttr,hS]) ?_)
 refine rds (pq wb 3) (fun w' hS=>by obtain⟨hS,-⟩:=hS;rw[q1] at hS;simp (disch:=first|assumption|omega|simp only[zS]<;>omega|decide) only[zb75,simprocAttr,hS]) (rds (zi (todo:Nat)) (fun w' hS=>by obtain⟨hS,-⟩:=hS;rw[q1] at hS;have:=ltOf hS;simp (disch:=first|assumption|omega|simp only[zS]<;>omega|decide) only[zb75,simprocAttr,hS]) ?_)
 have etd:((todo:Nat):Int).toNat=todo:=by omega
 have htl':((todo:Nat):Int)<((L.length:Nat):Int):=by omega
 refine rds (pq gb (todo*8)) (fun w' hS=>by simp (disch:=first|assumption|omega|simp only[zS]<;>omega|decide) only[zb75,simprocAttr,etd]) ?_
 have hsz:todo*8+8≤cur.size:=by omega
 refine rds (.agg #[.int .u8 kd,.string (bs nm),.slice p n1 c1,.slice q n2 c2,.bool g.only,.slice a9 (g.vars.map fun n=>(zi (n:Nat):Value)).length c9,zi (g.cut:Nat),zi g.rest]) (fun w' hS=>by
  obtain⟨-,hS⟩:=hS;rw[o2] at hS;have:=ltOf hS;simp (disch:=first|assumption|omega|simp only[zS]<;>omega|decide) only[zb75,simprocAttr,hS,hcells]) ?_
 obtain⟨w2,hw2⟩:∃ y,y=upd (w1.drew.alloc (.cells #[.int .u8 0,.string (bs []),.slice none 0 0,.slice none 0 0,.bool false,.slice none 0 0,zi 0,zi 0] 143 (0,0))) w1.heap.size
   (.cells #[.int .u8 kd,.string (bs nm),.slice p n1 c1,.slice q n2 c2,.bool g.only,.slice a9 (g.vars.map fun n=>(zi (n:Nat):Value)).length c9,zi (g.cut:Nat),zi g.rest] 143):=⟨_,rfl⟩
 have hE2:Ext w1 w2:=by rw[hw2];exact(((FrM.refl _ _).drew).alloc _).upd (.inr (Nat.le_refl _))
 have g2:w2.heap[w1.heap.size]?=some (.cells #[.int .u8 kd,.string (bs nm),.slice p n1 c1,.slice q n2 c2,.bool g.only,.slice a9 (g.vars.map fun n=>(zi (n:Nat):Value)).length c9,zi (g.cut:Nat),zi g.rest] 143):=by
  rw[hw2];exact hp_upd_same rfl (by rw[size_alloc,sz_drew];omega)
 have k2:=k1.ext hE2
 have q2:=k2.cell
 have lw2:=ltOf q2
 have lg2:=ltOf g2
 have lw1:=ltOf q1
 have hsd:w1.drew.heap.size=w1.heap.size:=rfl
 simp (disch:=first|assumption|omega|simp only[zS]<;>omega|decide) only[zb75,simprocAttr,q1,o2,hsd]
 obtain⟨w3,hw3⟩:∃ y,y=upd w2 wb (.cells #[pp hb,bv,.slice (some ⟨gb,0,none⟩) L.length cap,zi g.rest,kv,vv,nv,zi 0] 85):=⟨_,rfl⟩
 have hw3r:upd (upd (w1.drew.alloc (.cells #[.int .u8 0,.string (bs []),.slice none 0 0,.slice none 0 0,.bool false,.slice none 0 0,zi 0,zi 0] 143 (0,0))) w1.heap.size
   (.cells #[.int .u8 kd,.string (bs nm),.slice p n1 c1,.slice q n2 c2,.bool g.only,.slice a9 (g.vars.map fun n=>(zi (n:Nat):Value)).length c9,zi (g.cut:Nat),zi g.rest] 143)) wb
   (.cells (wrL #[pp hb,bv,.slice (some ⟨gb,0,none⟩) L.length cap,zi (todo:Nat),kv,vv,nv,zi 0] 3 (Value.int .i64 g.rest).cells.toList) 85 (0,0))=w3:=by rw[hw3,hw2];rfl
 rw[hw3r]
 obtain⟨k3,u3⟩:=k2.head g.rest hw3
 have q3:=k3.cell
 have lw3:=ltOf q3
 have g3:w3.heap[w1.heap.size]?=some (.cells #[.int .u8 kd,.string (bs nm),.slice p n1 c1,.slice q n2 c2,.bool g.only,.slice a9 (g.vars.map fun n=>(zi (n:Nat):Value)).length c9,zi (g.cut:Nat),zi g.rest] 143):=by
  rw[hw3,hp_upd_other (by omega)];exact g2
 have lg3:=ltOf g3
 have hU3:UpFr hb w w3:=(u1.trans hE2.toU).trans u3
 have hcutB:g.cut≤B.length:=hi.now.2.2 todo rfl g (by rw[hg];exact List.getElem?_eq_getElem htl)
 have hrestL:Fine L g.rest g.cut:=by have:=hgo.rest.more (L.drop todo);rwa [List.take_append_drop] at this
 have hce:(H.ce (H.cost+1) H.err).pot=H.pot:=rfl
 have hpu:=P.pot_up (H:=H) hcm rfl
 have hpu':(H.ce (H.cost+1) H.err).pot (H.ce (H.cost+1) H.err).cost≤H.pot H.cost:=by show H.pot (H.cost+1)≤_;omega
 have inv0:∀ {n:Nat},n≤B.length->Fine L g.rest n->Inv M (H.ce (H.cost+1) H.err) g.rest L (B.take n):=fun{n} hn hfn=>
  ⟨hi.fit.ce _ _,hi.few,hi.err,by have:=hi.tr;show H.trail.length≤H.cost+1;omega,by show H.pot (H.cost+1)≤_;omega,
   by have h9:=hi.nodes;show H.nodes.length+(M+2)*(H.most+1-(H.cost+1))≤_;exact Nat.le_trans (Nat.add_le_add_left (Nat.mul_le_mul_left _ (by omega)) _) h9,
   by have h9:=hi.lists;show L.length+(M+5)*(H.most+1-(H.cost+1))≤_;exact Nat.le_trans (Nat.add_le_add_left (Nat.mul_le_mul_left _ (by omega)) _) h9,
   by have h9:=hi.backs;show(B.take n).length+2*(H.most+1-(H.cost+1))≤_;rw[List.length_take];omega,
   hi.gs.mono (Nat.le_refl _),by rw[List.length_take,Nat.min_eq_left hn];exact hfn,ags_take hi.ags n⟩
 obtain⟨pk,dk,hkv⟩:=own_slice k3.ok
 subst hkv
 have hcapB:B.length≤dk:=(sliced_own (m:=6) k3.ok).1
 have ecut:((g.cut:Nat):Int).toNat=g.cut:=by omega
 have hcut':((g.cut:Nat):Int)≤((dk:Nat):Int):=by omega
 cases hgonly:g.only with
 | true=>
  rw[hgonly] at g3
  have hsc:sliced pk 0 g.cut dk 6 = .slice pk g.cut dk:=sliced_own2 k3.ok hcutB
  simp (disch:=first|assumption|omega|simp only[zS]<;>omega|decide) only[zb75,simprocAttr,q3,g3,ecut,hsc]
  have k3d:=k3.ext (w':=w3.drew) ((FrM.refl _ _).drew)
  obtain⟨k4,u4⟩:=k3d.forget2 hcutB g.rest rfl
  exact⟨true,H.ce (H.cost+1) H.err,g.rest,L,B.take g.cut,rfl,k4,(hU3.trans drewU).trans u4,inv0 hcutB hrestL,rfl,Nat.le_refl _,hpu',Nat.le_refl _⟩
 | false=>
  rw[hgonly] at g3
  have hb3:=hbody hgonly
  have hbok:=hgo.body hgonly
  obtain⟨kind,name,args,parts,hwhat⟩:∃ kind name args parts,g.what = .mk kind name args parts:=by
   cases hw:g.what with
   | mk a b c d=>exact⟨_,_,_,_,rfl⟩
  rw[hwhat] at hb3 hbok
  obtain⟨w4,hw4⟩:∃ y,y=upd (w3.alloc (.cells #[.int .u8 0,.string (bs []),.slice none 0 0,.slice none 0 0] 40 (0,0))) w3.heap.size (.cells #[.int .u8 kd,.string (bs nm),.slice p n1 c1,.slice q n2 c2] 40):=⟨_,rfl⟩
  have hE4:Ext w3 w4:=by rw[hw4];exact((FrM.refl _ _).alloc _).upd (.inr (Nat.le_refl _))
  have b4:w4.heap[w3.heap.size]?=some (.cells #[.int .u8 kd,.string (bs nm),.slice p n1 c1,.slice q n2 c2] 40):=by rw[hw4];exact hp_upd_same rfl (by rw[size_alloc];omega)
  have k4:=k3.ext hE4
  have q4:=k4.cell
  have lw4:=ltOf q4
  have g4:=hE4.ext _ _ g3
  have lb4:=ltOf b4
  have lg4:=ltOf g4
  have hU4:UpFr hb w w4:=hU3.trans hE4.toU
  have hkd:kd=(kind:Nat):=by
   unfold IsRb at hb3
   obtain⟨av,pv,us,ps,e,-⟩:=hb3
   simp only[List.cons.injEq,Value.int.injEq,true_and] at e
   exact e.1
  subst hkd
  simp (disch:=first|assumption|omega|simp only[zS]<;>omega|decide) only[zb75,simprocAttr,g3,q3]
  have hw4r:upd (w3.alloc (.cells #[.int .u8 0,.string (bs []),.slice none 0 0,.slice none 0 0] 40 (0,0))) w3.heap.size
    (.cells (wrL #[.int .u8 0,.string (bs []),.slice none 0 0,.slice none 0 0] 0 (Value.agg (List.take 4 (List.drop 0 [.int .u8 (kind:Nat),.string (bs nm),.slice p n1 c1,.slice q n2 c2,.bool false,.slice a9 (g.vars.map fun n=>(zi (n:Nat):Value)).length c9,zi g.cut,zi g.rest])).toArray).cells.toList) 40 (0,0))=w4:=by rw[hw4];rfl
  try rw[hw4r]
  try rw[<- hw4]
  by_cases h33:kind=33
  ·have h33':((kind:Nat):Int)=33:=by omega
   have hsc:sliced pk 0 g.cut dk 6 = .slice pk g.cut dk:=sliced_own2 k3.ok hcutB
   simp (disch:=first|assumption|omega|simp only[zS]<;>omega|decide) only[zb75,simprocAttr,q4,g4,b4,ecut,hsc]
   have k4d:=k4.ext (w':=w4.drew) ((FrM.refl _ _).drew)
   obtain⟨k5,u5⟩:=k4d.forget2 hcutB g.rest rfl
   exact⟨true,H.ce (H.cost+1) H.err,g.rest,L,B.take g.cut,rfl,k5,(hU4.trans drewU).trans u5,inv0 hcutB hrestL,rfl,Nat.le_refl _,hpu',Nat.le_refl _⟩
  have h33':¬ ((kind:Nat):Int)=33:=by omega
  obtain⟨hbd4,hvr4⟩:IsRb (fun b=>b<hb) w4 [.int .u8 (kind:Nat),.string (bs nm),.slice p n1 c1,.slice q n2 c2] (.mk kind name args parts)/\IsSl (fun b=>¬ OwnOf w4 hb b) w4 3 (.slice a9 (g.vars.map fun n=>(zi (n:Nat):Value)).length c9) (g.vars.map fun n=>zi (n:Nat)):=by
   have h9:=IsGls.at todo htl k4.gl
   rw[<- hg] at h9
   obtain⟨d0,d1,d2,d3,dv,e9,-,m1,m2⟩:=h9
   rw[e8] at e9
   simp only[List.cons.injEq,and_true] at e9
   obtain⟨rfl,rfl,rfl,rfl,-,rfl,-⟩:=e9
   have m1:=m1 hgonly
   rw[hwhat] at m1
   exact⟨m1,m2⟩
  have hB4:=hB.up hU4
  by_cases h103:kind=103
  ·have h44:¬ ((kind:Nat):Int)=44:=by omega
   have h59:¬ ((kind:Nat):Int)=59:=by omega
   have h63:¬ ((kind:Nat):Int)=63:=by omega
   have h126:¬ ((kind:Nat):Int)=126:=by omega
   simp (disch:=first|assumption|omega|simp only[zS]<;>omega|decide) only[zb75,simprocAttr,g4,b4]
   have hl9:=hi.lists
   have hn9:=hi.nodes
   refine Calls.mono (rGoalW k4 hB4 ⟨hi.fit.ce _ _,hi.few,by show H.pot (H.cost+1)≤_;omega,by show H.nodes.length≤_;omega,by have:=hi.tr;show H.trail.length≤H.cost+1;omega,hi.err⟩ (by show H.nodes.length+3000≤_;omega) (by omega) hbd4 hbok hM hvr4 (fun t ht=>hgo.vars t ht)) ?_
   rintro e w5 ⟨r,H5,todo5,L5,rfl,k5,u5,g5,hor⟩
   simp (disch:=first|assumption|omega|simp only[zS]<;>omega|decide) only[zb75,simprocAttr]
   have p5:=g5.pot
   have p5':H.pot H5.cost≤H.pot (H.cost+1)+3:=p5
   have m5:H5.most=H.most:=g5.most
   have c5:H.cost+1≤H5.cost:=g5.cost
   have n5:H5.nodes.length≤H.nodes.length+(M+1):=g5.len.2
   have n5':H.nodes.length≤H5.nodes.length:=g5.len.1
   have t5:H5.trail.length+(H.cost+1)≤H.trail.length+H5.cost:=g5.tr
   have tr:=hi.tr
   obtain⟨K,hK⟩:∃ K,H.most+1-H.cost=K+1:=⟨H.most-H.cost,by omega⟩
   have hK5:H.most+1-H5.cost≤K:=by omega
   have mul1:(M+2)*(H.most+1-H5.cost)≤(M+2)*K:=Nat.mul_le_mul_left _ hK5
   have mul2:(M+5)*(H.most+1-H5.cost)≤(M+5)*K:=Nat.mul_le_mul_left _ hK5
   rw[hK,Nat.mul_succ] at hn9 hl9
   have hb9:=hi.backs
   refine⟨r,H5,todo5,L5,B,rfl,k5,hU4.trans u5,?_,m5,c5,by rw[P.Hp.pot_most m5];omega,n5'⟩
   have hpot5:H5.pot H5.cost≤1000000:=by rw[P.Hp.pot_most m5];omega
   rcases hor with⟨rfl,rfl⟩| ⟨rfl,rfl⟩
   ·exact⟨g5.fit,g5.few,g5.err,by omega,hpot5,by rw[m5];omega,by rw[m5];omega,by rw[m5];omega,hi.gs.mono n5',hrestL.up hcutB,hi.ags⟩
   ·exact⟨g5.fit,g5.few,g5.err,by omega,hpot5,by rw[m5];omega,by rw[m5,List.length_append,List.length_singleton];omega,by rw[m5];omega,
     (hi.gs.mono n5').snoc ⟨fun _=>P.trueB_ok,fun v hv=>(by cases hv),hrestL.up hcutB⟩,fine_new (Nat.le_refl _),ags_more hi.ags _⟩
  have hbok':=hbok
  unfold P.BdOk at hbok'
  obtain⟨o1',o2',⟨o59,o63,o126⟩,o4',o5',o6',o7',o8'⟩:=hbok'
  have hkv3:(Value.slice pk B.length dk).ownBlock≠some w1.heap.size:=fun e=>by
   obtain⟨cs,h1⟩:=rowTy k4.ok e g4
   injection h1 with _ h1 _
   exact absurd h1 (by decide)
  have hkv4:(Value.slice pk B.length dk).ownBlock≠some w3.heap.size:=fun e=>by
   obtain⟨cs,h1⟩:=rowTy k4.ok e b4
   injection h1 with _ h1 _
   exact absurd h1 (by decide)
  have hlv3:(Value.slice (some ⟨gb,0,none⟩) L.length cap).ownBlock≠some w1.heap.size:=fun e=>by
   simp only[Value.ownBlock,Option.some.injEq] at e;omega
  have hlv4:(Value.slice (some ⟨gb,0,none⟩) L.length cap).ownBlock≠some w3.heap.size:=fun e=>by
   obtain⟨cs,h1⟩:=rowTy k4.ol e b4
   injection h1 with _ h1 _
   exact absurd h1 (by decide)
  have hsw:w1.heap.size≤w3.heap.size:=by have:=hE2.size;have:=u3.size;omega
  by_cases h59:kind=59
  ·have h59':((kind:Nat):Int)=59:=by omega
   have h44:¬ ((kind:Nat):Int)=44:=by omega
   have hp2:=o59 h59
   obtain⟨rfl,eb,ecs,d0,d1,d2,d3,rfl,r1,r2,r3,r4,r5,r6⟩:=hbd4.part (j:=1) (by omega)
   obtain⟨z0,z1,z2,z3,z4,z5,z6,z7,hd0,hd1,hd2,hd3⟩:=id r5
   have hone:d0.oneCell'=true/\d1.oneCell'=true/\d2.oneCell'=true/\d3.oneCell'=true:=by rw[hd0,hd1,hd2,hd3];exact⟨rfl,rfl,rfl,rfl⟩
   obtain⟨y0,y1,y2,y3⟩:=hone
   have leb:=ltOf r2
   rw[hp2] at *
   simp (disch:=first|assumption|omega|simp only[zS]<;>omega|decide) only[zb75,simprocAttr,g4,b4,q4,r2,r4]
   have hl9:=hi.lists
   have hb9:=hi.backs
   have k4d:=k4.ext (w':=w4.drew) ((FrM.refl _ _).drew)
   refine Calls.mono (rPush k4d r5 (IsRb.mono (F:=fun b=>b<hb) (F':=fun b=>b<hb) (w:=w4) (w':=w4.drew) (fun _ h=>h) (fun _ _ _ ho=>ho) (fun _ _ _ ho=>ho) _ _ r6) (IsSl.mono (F:=fun b=>¬ OwnOf w4 hb b) (F':=fun b=>¬ OwnOf w4.drew hb b) (w:=w4) (w':=w4.drew) hvr4 (fun _ h=>h) (fun _ _ _ ho=>ho)) g.cut g.rest (by omega)) ?_
   rintro e w5 ⟨rfl,⟨lv5,kv5,lc5,kc5,k5,K5⟩,u5⟩
   have b5:=K5 _ _ (show w4.drew.heap[w3.heap.size]?=_ from b4) (by omega) hlv4 hkv4
   have g5:=K5 _ _ (show w4.drew.heap[w1.heap.size]?=_ from g4) (by omega) hlv3 hkv3
   simp (disch:=first|assumption|omega|simp only[zS]<;>omega|decide) only[zb75,simprocAttr]
   refine Calls.mono (rCome k5 (L.length:Nat) (by omega)) ?_
   rintro e w6 ⟨rfl,⟨lv6,kv6,lc6,kc6,k6,K6⟩,u6⟩
   have b6:=K6 _ _ b5.1 (by omega) b5.2.1 b5.2.2
   have g6:=K6 _ _ g5.1 (by omega) g5.2.1 g5.2.2
   have u46:UpFr hb w4 w6:=((drewU:UpFr hb w4 w4.drew).trans u5).trans u6
   have r26:=u46.block _ _ r2 (by omega)
   have q6:=k6.cell
   obtain⟨-,eb',ecs',f0,f1',f2,f3,hq',s1',s2',s3',s4',s5',s6'⟩:=hbd4.part (j:=0) (by omega)
   simp only[Option.some.injEq,Addr.mk.injEq,and_true] at hq'
   subst hq'
   rw[r2] at s2'
   injection s2' with s2'
   injection s2' with s2' _ _
   subst s2'
   have s4'':List.take 4 ecs.toList=[f0,f1',f2,f3]:=by simpa using s4'
   obtain⟨x0,x1,x2,x3,x4,x5,x6,x7,hf0,hf1,hf2,hf3⟩:=id s5'
   have hone2:f0.oneCell'=true/\f1'.oneCell'=true/\f2.oneCell'=true/\f3.oneCell'=true:=by rw[hf0,hf1,hf2,hf3];exact⟨rfl,rfl,rfl,rfl⟩
   obtain⟨t0,t1,t2,t3⟩:=hone2
   simp (disch:=first|assumption|omega|simp only[zS]<;>omega|decide) only[zb75,simprocAttr]
   refine⟨fun w'=>w'.heap[w3.heap.size]?=w6.heap[w3.heap.size]?/\w'.heap[w1.heap.size]?=w6.heap[w1.heap.size]?/\w'.heap[eb]?=w6.heap[eb]?,⟨rfl,rfl,rfl⟩,?_⟩
   refine rds (pq w3.heap.size 3) (fun w' hS=>by rw[b6.1] at hS;have:=hS.1;simp (disch:=first|assumption|omega|simp only[zS]<;>omega|decide) only[zb75,simprocAttr,this]) (rds (.slice (some ⟨eb,0,none⟩) 2 c2) (fun w' hS=>by rw[b6.1] at hS;have h9:=hS.1;have:=ltOf h9;simp (disch:=first|assumption|omega|simp only[zS]<;>omega|decide) only[zb75,simprocAttr,h9]) ?_)
   refine rds (pp eb) (fun w' hS=>by simp (disch:=first|assumption|omega|simp only[zS]<;>omega|decide) only[zb75,simprocAttr]) (rds (.agg #[f0,f1',f2,f3]) (fun w' hS=>by rw[r26] at hS;have h9:=hS.2.2;have:=ltOf h9;simp (disch:=first|assumption|omega|simp only[zS]<;>omega|decide) only[zb75,simprocAttr,h9,s4'']) ?_)
   refine rds (pq w1.heap.size 5) (fun w' hS=>by rw[g6.1] at hS;have h9:=hS.2.1;simp (disch:=first|assumption|omega|simp only[zS]<;>omega|decide) only[zb75,simprocAttr,h9]) (rds (.slice a9 (g.vars.map fun n=>(zi (n:Nat):Value)).length c9) (fun w' hS=>by rw[g6.1] at hS;have h9:=hS.2.1;have:=ltOf h9;simp (disch:=first|assumption|omega|simp only[zS]<;>omega|decide) only[zb75,simprocAttr,h9]) ?_)
   refine rds (pq w1.heap.size 6) (fun w' hS=>by rw[g6.1] at hS;have h9:=hS.2.1;simp (disch:=first|assumption|omega|simp only[zS]<;>omega|decide) only[zb75,simprocAttr,h9]) (rds (zi (g.cut:Nat)) (fun w' hS=>by rw[g6.1] at hS;have h9:=hS.2.1;have:=ltOf h9;simp (disch:=first|assumption|omega|simp only[zS]<;>omega|decide) only[zb75,simprocAttr,h9]) ?_)
   simp (disch:=first|assumption|omega|simp only[zS]<;>omega|decide) only[zb75,simprocAttr,q6]
   have hv4d:IsSl (fun b=>¬ OwnOf w4.drew hb b) w4.drew 3 (.slice a9 (g.vars.map fun n=>(zi (n:Nat):Value)).length c9) (g.vars.map fun n=>zi (n:Nat)):=
    IsSl.mono (F:=fun b=>¬ OwnOf w4 hb b) (F':=fun b=>¬ OwnOf w4.drew hb b) (w:=w4) (w':=w4.drew) hvr4 (fun _ h=>h) (fun _ _ _ ho=>ho)
   have hv6:=K6.vars k5 (K5.vars k4d hv4d)
   have k6d:=k6.ext (w':=w6.drew) ((FrM.refl _ _).drew)
   have hb6:IsRb (fun b=>b<hb) w6.drew [f0,f1',f2,f3] parts[0]:=IsRb.mono (F:=fun b=>b<hb) (F':=fun b=>b<hb) (w:=w4) (w':=w6.drew) (fun _ h=>h) (fun b _ hb ho=>u46.block _ _ ho (by omega)) (fun b _ hb ho=>u46.block _ _ ho (by omega)) _ _ s6'
   refine Calls.mono (rPush k6d s5' hb6 (IsSl.mono (F:=fun b=>¬ OwnOf w6 hb b) (F':=fun b=>¬ OwnOf w6.drew hb b) (w:=w6) (w':=w6.drew) hv6 (fun _ h=>h) (fun _ _ _ ho=>ho)) g.cut g.rest (by simp;omega)) ?_
   rintro e w7 ⟨rfl,⟨lv7,kv7,lc7,kc7,k7,K7⟩,u7⟩
   have b7:=K7 _ _ (show w6.drew.heap[w3.heap.size]?=_ from b6.1) (by omega) b6.2.1 b6.2.2
   have g7:=K7 _ _ (show w6.drew.heap[w1.heap.size]?=_ from g6.1) (by omega) g6.2.1 g6.2.2
   have q7:=k7.cell
   refine⟨⟨by rw[b7.1,b6.1],by rw[g7.1,g6.1],by rw[r26];exact u7.block _ _ r26 (by omega)⟩,?_⟩
   simp (disch:=first|assumption|omega|simp only[zS]<;>omega|decide) only[zb75,simprocAttr,q7]
   obtain⟨k8,u8⟩:=k7.head _ rfl
   have hn9:=hi.nodes
   have tr:=hi.tr
   obtain⟨K,hK⟩:∃ K,H.most+1-H.cost=K+1:=⟨H.most-H.cost,by omega⟩
   have hK5:H.most+1-(H.cost+1)≤K:=by omega
   have mul1:(M+2)*(H.most+1-(H.cost+1))≤(M+2)*K:=Nat.mul_le_mul_left _ hK5
   have mul2:(M+5)*(H.most+1-(H.cost+1))≤(M+5)*K:=Nat.mul_le_mul_left _ hK5
   rw[hK,Nat.mul_succ] at hn9 hl9
   have hg1:GOk M (H.ce (H.cost+1) H.err) L ⟨false,parts[1],g.vars,g.cut,g.rest⟩:=⟨fun _=>o8'.at _,hgo.vars,hrestL⟩
   have hg2:GOk M (H.ce (H.cost+1) H.err) (L++[⟨false,parts[1],g.vars,g.cut,g.rest⟩]) ⟨false,parts[0],g.vars,g.cut,g.rest⟩:=⟨fun _=>o8'.at _,hgo.vars,hrestL.more _⟩
   refine⟨true,H.ce (H.cost+1) H.err,_,_,_,rfl,⟨_,_,_,_,k8⟩,((((hU4.trans u46).trans drewU).trans u7).trans u8),?_,rfl,Nat.le_refl _,hpu',Nat.le_refl _⟩
   refine⟨hi.fit.ce _ _,hi.few,hi.err,by show H.trail.length≤H.cost+1;omega,by show H.pot (H.cost+1)≤_;omega,by show H.nodes.length+(M+2)*(H.most+1-(H.cost+1))≤_;omega,?_,?_,((GsOk.mono (H':=H.ce (H.cost+1) H.err) hi.gs (Nat.le_refl _)).snoc hg1).snoc hg2,fine_new (by rw[List.length_append];exact Nat.le_trans hcutB (Nat.le_add_right _ _)),ags_snoc (ags_more (ags_more hi.ags _) _) ((fine_new (g:=⟨false,parts[1],g.vars,g.cut,g.rest⟩) hcutB).more _)⟩
   ·show _+(M+5)*(H.most+1-(H.cost+1))≤_
    simp only[List.length_append,List.length_cons,List.length_nil];omega
   ·show _+2*(H.most+1-(H.cost+1))≤_
    simp only[List.length_append,List.length_cons,List.length_nil];omega
  by_cases h126:kind=126
  ·have h126':((kind:Nat):Int)=126:=by omega
   have h44:¬ ((kind:Nat):Int)=44:=by omega
   have h59':¬ ((kind:Nat):Int)=59:=by omega
   have h63':¬ ((kind:Nat):Int)=63:=by omega
   have hp1:=o126 h126
   have hl9:=hi.lists
   have hb9:=hi.backs
   simp (disch:=first|assumption|omega|simp only[zS]<;>omega|decide) only[zb75,simprocAttr,g4,b4,q4]
   refine Calls.mono (rCome k4 g.rest (by omega)) ?_
   rintro e w5 ⟨rfl,⟨lv5,kv5,lc5,kc5,k5,K5⟩,u5⟩
   simp (disch:=first|assumption|omega|simp only[zS]<;>omega|decide) only[zb75,simprocAttr]
   have b5:=K5 _ _ b4 (by omega) hlv4 hkv4
   have g5:=K5 _ _ g4 (by omega) hlv3 hkv3
   have hv5:=K5.vars k4 hvr4
   have hfb:IsRb (fun b=>b<hb) w5 [.int .u8 103,.string (bs [102,97,105,108]),.slice none 0 0,.slice none 0 0] P.failB:=by
    unfold P.failB IsRb
    refine⟨_,_,[],[],rfl,.inl ⟨rfl,rfl,rfl⟩,?_,.inl ⟨rfl,rfl,rfl⟩,?_⟩
    ·unfold IsRxs;rfl
    ·unfold IsRbs;rfl
   refine Calls.mono (rPush k5 (ids:=[]) ⟨_,_,_,_,_,_,_,_,rfl,rfl,rfl,rfl⟩ hfb (.inl ⟨rfl,rfl⟩) 0 (-1) (by omega)) ?_
   rintro e w6 ⟨rfl,⟨lv6,kv6,lc6,kc6,k6,K6⟩,u6⟩
   have b6:=K6 _ _ b5.1 (by omega) b5.2.1 b5.2.2
   have g6:=K6 _ _ g5.1 (by omega) g5.2.1 g5.2.2
   have hv6:=K6.vars k5 hv5
   simp (disch:=first|assumption|omega|simp only[zS]<;>omega|decide) only[zb75,simprocAttr]
   refine Calls.mono (rCutting k6 B.length (L.length:Nat) (by simp;omega)) ?_
   rintro e w7 ⟨rfl,⟨lv7,kv7,lc7,kc7,k7,K7⟩,u7⟩
   have b7:=K7 _ _ b6.1 (by omega) b6.2.1 b6.2.2
   have g7:=K7 _ _ g6.1 (by omega) g6.2.1 g6.2.2
   have hv7:=K7.vars k6 hv6
   simp (disch:=first|assumption|omega|simp only[zS]<;>omega|decide) only[zb75,simprocAttr]
   have u47:UpFr hb w4 w7:=(u5.trans u6).trans u7
   obtain⟨rfl,eb,ecs,f0,f1',f2,f3,rfl,s1',s2',s3',s4',s5',s6'⟩:=hbd4.part (j:=0) (by omega)
   have s4'':List.take 4 ecs.toList=[f0,f1',f2,f3]:=by simpa using s4'
   obtain⟨x0,x1,x2,x3,x4,x5,x6,x7,hf0,hf1,hf2,hf3⟩:=id s5'
   have hone2:f0.oneCell'=true/\f1'.oneCell'=true/\f2.oneCell'=true/\f3.oneCell'=true:=by rw[hf0,hf1,hf2,hf3];exact⟨rfl,rfl,rfl,rfl⟩
   obtain⟨t0,t1,t2,t3⟩:=hone2
   have r27:=u47.block _ _ s2' (by omega)
   rw[hp1] at b7
   refine⟨fun w'=>w'.heap[w3.heap.size]?=w7.heap[w3.heap.size]?/\w'.heap[w1.heap.size]?=w7.heap[w1.heap.size]?/\w'.heap[eb]?=w7.heap[eb]?,⟨rfl,rfl,rfl⟩,?_⟩
   refine rds (pq w3.heap.size 3) (fun w' hS=>by rw[b7.1] at hS;have:=hS.1;simp (disch:=first|assumption|omega|simp only[zS]<;>omega|decide) only[zb75,simprocAttr,this]) (rds (.slice (some ⟨eb,0,none⟩) 1 c2) (fun w' hS=>by rw[b7.1] at hS;have h9:=hS.1;have:=ltOf h9;simp (disch:=first|assumption|omega|simp only[zS]<;>omega|decide) only[zb75,simprocAttr,h9]) ?_)
   refine rds (pp eb) (fun w' hS=>by simp (disch:=first|assumption|omega|simp only[zS]<;>omega|decide) only[zb75,simprocAttr]) (rds (.agg #[f0,f1',f2,f3]) (fun w' hS=>by rw[r27] at hS;have h9:=hS.2.2;have:=ltOf h9;simp (disch:=first|assumption|omega|simp only[zS]<;>omega|decide) only[zb75,simprocAttr,h9,s4'']) ?_)
   refine rds (pq w1.heap.size 5) (fun w' hS=>by rw[g7.1] at hS;have h9:=hS.2.1;simp (disch:=first|assumption|omega|simp only[zS]<;>omega|decide) only[zb75,simprocAttr,h9]) (rds (.slice a9 (g.vars.map fun n=>(zi (n:Nat):Value)).length c9) (fun w' hS=>by rw[g7.1] at hS;have h9:=hS.2.1;have:=ltOf h9;simp (disch:=first|assumption|omega|simp only[zS]<;>omega|decide) only[zb75,simprocAttr,h9]) ?_)
   have k7d:=k7.ext (w':=w7.drew) ((FrM.refl _ _).drew)
   have hb7:IsRb (fun b=>b<hb) w7.drew [f0,f1',f2,f3] parts[0]:=IsRb.mono (F:=fun b=>b<hb) (F':=fun b=>b<hb) (w:=w4) (w':=w7.drew) (fun _ h=>h) (fun b _ hb ho=>u47.block _ _ ho (by omega)) (fun b _ hb ho=>u47.block _ _ ho (by omega)) _ _ s6'
   refine Calls.mono (rPush k7d s5' hb7 (IsSl.mono (F:=fun b=>¬ OwnOf w7 hb b) (F':=fun b=>¬ OwnOf w7.drew hb b) (w:=w7) (w':=w7.drew) hv7 (fun _ h=>h) (fun _ _ _ ho=>ho)) B.length _ (by simp;omega)) ?_
   rintro e w8 ⟨rfl,⟨lv8,kv8,lc8,kc8,k8,K8⟩,u8⟩
   have b8:=K8 _ _ (show w7.drew.heap[w3.heap.size]?=_ from b7.1) (by omega) b7.2.1 b7.2.2
   have g8:=K8 _ _ (show w7.drew.heap[w1.heap.size]?=_ from g7.1) (by omega) g7.2.1 g7.2.2
   have q8:=k8.cell
   refine⟨⟨by rw[b8.1,b7.1],by rw[g8.1,g7.1],by rw[r27];exact u8.block _ _ r27 (by omega)⟩,?_⟩
   simp (disch:=first|assumption|omega|simp only[zS]<;>omega|decide) only[zb75,simprocAttr,q8]
   obtain⟨k9,u9⟩:=k8.head _ rfl
   have hn9:=hi.nodes
   have tr:=hi.tr
   obtain⟨K,hK⟩:∃ K,H.most+1-H.cost=K+1:=⟨H.most-H.cost,by omega⟩
   have hK5:H.most+1-(H.cost+1)≤K:=by omega
   have mul1:(M+2)*(H.most+1-(H.cost+1))≤(M+2)*K:=Nat.mul_le_mul_left _ hK5
   have mul2:(M+5)*(H.most+1-(H.cost+1))≤(M+5)*K:=Nat.mul_le_mul_left _ hK5
   rw[hK,Nat.mul_succ] at hn9 hl9
   refine⟨true,H.ce (H.cost+1) H.err,_,_,_,rfl,⟨_,_,_,_,k9⟩,((((hU4.trans u47).trans drewU).trans u8).trans u9),?_,rfl,Nat.le_refl _,hpu',Nat.le_refl _⟩
   refine⟨hi.fit.ce _ _,hi.few,hi.err,by show H.trail.length≤H.cost+1;omega,by show H.pot (H.cost+1)≤_;omega,by show H.nodes.length+(M+2)*(H.most+1-(H.cost+1))≤_;omega,?_,?_,
    (((GsOk.mono (H':=H.ce (H.cost+1) H.err) hi.gs (Nat.le_refl _)).snoc ⟨fun _=>P.failB_ok,fun v hv=>(by cases hv),Fine.nil⟩).snoc ⟨fun h=>(by cases h),fun v hv=>(by cases hv),fine_new (Nat.zero_le _)⟩).snoc ⟨fun _=>o8'.at _,hgo.vars,fine_new (Nat.le_refl _)⟩,
    fine_new (by show B.length≤(B++[_]).length;simp),ags_snoc (ags_more (ags_more (ags_more hi.ags _) _) _) ((((hrestL.up hcutB).more _).more _).more _)⟩
   ·show _+(M+5)*(H.most+1-(H.cost+1))≤_
    simp only[List.length_append,List.length_cons,List.length_nil];omega
   ·show _+2*(H.most+1-(H.cost+1))≤_
    simp only[List.length_append,List.length_cons,List.length_nil];omega
  by_cases h63:kind=63
  ·have h63':((kind:Nat):Int)=63:=by omega
   have h44:¬ ((kind:Nat):Int)=44:=by omega
   have h59':¬ ((kind:Nat):Int)=59:=by omega
   have hp3:=o63 h63
   obtain⟨rfl,eb,ecs,d0,d1,d2,d3,rfl,r1,r2,r3,r4,r5,r6⟩:=hbd4.part (j:=2) (by omega)
   obtain⟨z0,z1,z2,z3,z4,z5,z6,z7,hd0,hd1,hd2,hd3⟩:=id r5
   have hone:d0.oneCell'=true/\d1.oneCell'=true/\d2.oneCell'=true/\d3.oneCell'=true:=by rw[hd0,hd1,hd2,hd3];exact⟨rfl,rfl,rfl,rfl⟩
   obtain⟨y0,y1,y2,y3⟩:=hone
   have leb:=ltOf r2
   have hl9:=hi.lists
   have hb9:=hi.backs
   rw[hp3] at *
   simp (disch:=first|assumption|omega|simp only[zS]<;>omega|decide) only[zb75,simprocAttr,g4,b4,q4,r2,r4]
   have k4d:=k4.ext (w':=w4.drew) ((FrM.refl _ _).drew)
   refine Calls.mono (rPush k4d r5 (IsRb.mono (F:=fun b=>b<hb) (F':=fun b=>b<hb) (w:=w4) (w':=w4.drew) (fun _ h=>h) (fun _ _ _ ho=>ho) (fun _ _ _ ho=>ho) _ _ r6) (IsSl.mono (F:=fun b=>¬ OwnOf w4 hb b) (F':=fun b=>¬ OwnOf w4.drew hb b) (w:=w4) (w':=w4.drew) hvr4 (fun _ h=>h) (fun _ _ _ ho=>ho)) g.cut g.rest (by omega)) ?_
   rintro e w5 ⟨rfl,⟨lv5,kv5,lc5,kc5,k5,K5⟩,u5⟩
   have b5:=K5 _ _ (show w4.drew.heap[w3.heap.size]?=_ from b4) (by omega) hlv4 hkv4
   have g5:=K5 _ _ (show w4.drew.heap[w1.heap.size]?=_ from g4) (by omega) hlv3 hkv3
   simp (disch:=first|assumption|omega|simp only[zS]<;>omega|decide) only[zb75,simprocAttr]
   refine Calls.mono (rCome k5 (L.length:Nat) (by omega)) ?_
   rintro e w6 ⟨rfl,⟨lv6,kv6,lc6,kc6,k6,K6⟩,u6⟩
   have b6:=K6 _ _ b5.1 (by omega) b5.2.1 b5.2.2
   have g6:=K6 _ _ g5.1 (by omega) g5.2.1 g5.2.2
   have u46:UpFr hb w4 w6:=((drewU:UpFr hb w4 w4.drew).trans u5).trans u6
   have r26:=u46.block _ _ r2 (by omega)
   have q6:=k6.cell
   obtain⟨-,eb',ecs',f0,f1',f2,f3,hq',s1',s2',s3',s4',s5',s6'⟩:=hbd4.part (j:=1) (by omega)
   simp only[Option.some.injEq,Addr.mk.injEq,and_true] at hq'
   subst hq'
   rw[r2] at s2'
   injection s2' with s2'
   injection s2' with s2' _ _
   subst s2'
   obtain⟨x0,x1,x2,x3,x4,x5,x6,x7,hf0,hf1,hf2,hf3⟩:=id s5'
   have hone2:f0.oneCell'=true/\f1'.oneCell'=true/\f2.oneCell'=true/\f3.oneCell'=true:=by rw[hf0,hf1,hf2,hf3];exact⟨rfl,rfl,rfl,rfl⟩
   obtain⟨t0,t1,t2,t3⟩:=hone2
   simp (disch:=first|assumption|omega|simp only[zS]<;>omega|decide) only[zb75,simprocAttr,b6.1,g6.1,q6,r26,s4']
   have hv4d:IsSl (fun b=>¬ OwnOf w4.drew hb b) w4.drew 3 (.slice a9 (g.vars.map fun n=>(zi (n:Nat):Value)).length c9) (g.vars.map fun n=>zi (n:Nat)):=
    IsSl.mono (F:=fun b=>¬ OwnOf w4 hb b) (F':=fun b=>¬ OwnOf w4.drew hb b) (w:=w4) (w':=w4.drew) hvr4 (fun _ h=>h) (fun _ _ _ ho=>ho)
   have hv6:=K6.vars k5 (K5.vars k4d hv4d)
   have hv6d:IsSl (fun b=>¬ OwnOf w6.drew hb b) w6.drew 3 (.slice a9 (g.vars.map fun n=>(zi (n:Nat):Value)).length c9) (g.vars.map fun n=>zi (n:Nat)):=
    IsSl.mono (F:=fun b=>¬ OwnOf w6 hb b) (F':=fun b=>¬ OwnOf w6.drew hb b) (w:=w6) (w':=w6.drew) hv6 (fun _ h=>h) (fun _ _ _ ho=>ho)
   have k6d:=k6.ext (w':=w6.drew) ((FrM.refl _ _).drew)
   have hb6:IsRb (fun b=>b<hb) w6.drew [f0,f1',f2,f3] parts[1]:=IsRb.mono (F:=fun b=>b<hb) (F':=fun b=>b<hb) (w:=w4) (w':=w6.drew) (fun _ h=>h) (fun b _ hb ho=>u46.block _ _ ho (by omega)) (fun b _ hb ho=>u46.block _ _ ho (by omega)) _ _ s6'
   refine Calls.mono (rPush k6d s5' hb6 hv6d g.cut g.rest (by simp;omega)) ?_
   rintro e w7 ⟨rfl,⟨lv7,kv7,lc7,kc7,k7,K7⟩,u7⟩
   have b7:=K7 _ _ (show w6.drew.heap[w3.heap.size]?=_ from b6.1) (by omega) b6.2.1 b6.2.2
   have g7:=K7 _ _ (show w6.drew.heap[w1.heap.size]?=_ from g6.1) (by omega) g6.2.1 g6.2.2
   have hv7:=K7.vars k6d hv6d
   simp (disch:=first|assumption|omega|simp only[zS]<;>omega|decide) only[zb75,simprocAttr]
   refine Calls.mono (rCutting k7 B.length ((L++[(⟨false,parts[2],g.vars,g.cut,g.rest⟩:Gl)]).length:Nat) (by simp;omega)) ?_
   rintro e w8 ⟨rfl,⟨lv8,kv8,lc8,kc8,k8,K8⟩,u8⟩
   have b8:=K8 _ _ b7.1 (by omega) b7.2.1 b7.2.2
   have g8:=K8 _ _ g7.1 (by omega) g7.2.1 g7.2.2
   have hv8:=K8.vars k7 hv7
   simp (disch:=first|assumption|omega|simp only[zS]<;>omega|decide) only[zb75,simprocAttr]
   have u48:UpFr hb w4 w8:=((u46.trans drewU).trans u7).trans u8
   have r28:=u48.block _ _ r2 (by omega)
   obtain⟨-,eb2,ecs2,v0,v1,v2,v3,hq2,p1',p2',p3',p4',p5',p6'⟩:=hbd4.part (j:=0) (by omega)
   simp only[Option.some.injEq,Addr.mk.injEq,and_true] at hq2
   subst hq2
   rw[r2] at p2'
   injection p2' with p2'
   injection p2' with p2' _ _
   subst p2'
   have p4'':List.take 4 ecs.toList=[v0,v1,v2,v3]:=by simpa using p4'
   obtain⟨m0,m1,m2,m3,m4,m5,m6,m7,hm0,hm1,hm2,hm3⟩:=id p5'
   have hone3:v0.oneCell'=true/\v1.oneCell'=true/\v2.oneCell'=true/\v3.oneCell'=true:=by rw[hm0,hm1,hm2,hm3];exact⟨rfl,rfl,rfl,rfl⟩
   obtain⟨n0,n1',n2',n3⟩:=hone3
   refine⟨fun w'=>w'.heap[w3.heap.size]?=w8.heap[w3.heap.size]?/\w'.heap[w1.heap.size]?=w8.heap[w1.heap.size]?/\w'.heap[eb]?=w8.heap[eb]?,⟨rfl,rfl,rfl⟩,?_⟩
   refine rds (pq w3.heap.size 3) (fun w' hS=>by rw[b8.1] at hS;have:=hS.1;simp (disch:=first|assumption|omega|simp only[zS]<;>omega|decide) only[zb75,simprocAttr,this]) (rds (.slice (some ⟨eb,0,none⟩) 3 c2) (fun w' hS=>by rw[b8.1] at hS;have h9:=hS.1;have:=ltOf h9;simp (disch:=first|assumption|omega|simp only[zS]<;>omega|decide) only[zb75,simprocAttr,h9]) ?_)
   refine rds (pp eb) (fun w' hS=>by simp (disch:=first|assumption|omega|simp only[zS]<;>omega|decide) only[zb75,simprocAttr]) (rds (.agg #[v0,v1,v2,v3]) (fun w' hS=>by rw[r28] at hS;have h9:=hS.2.2;have:=ltOf h9;simp (disch:=first|assumption|omega|simp only[zS]<;>omega|decide) only[zb75,simprocAttr,h9,p4'']) ?_)
   refine rds (pq w1.heap.size 5) (fun w' hS=>by rw[g8.1] at hS;have h9:=hS.2.1;simp (disch:=first|assumption|omega|simp only[zS]<;>omega|decide) only[zb75,simprocAttr,h9]) (rds (.slice a9 (g.vars.map fun n=>(zi (n:Nat):Value)).length c9) (fun w' hS=>by rw[g8.1] at hS;have h9:=hS.2.1;have:=ltOf h9;simp (disch:=first|assumption|omega|simp only[zS]<;>omega|decide) only[zb75,simprocAttr,h9]) ?_)
   have k8d:=k8.ext (w':=w8.drew) ((FrM.refl _ _).drew)
   have hb8:IsRb (fun b=>b<hb) w8.drew [v0,v1,v2,v3] parts[0]:=IsRb.mono (F:=fun b=>b<hb) (F':=fun b=>b<hb) (w:=w4) (w':=w8.drew) (fun _ h=>h) (fun b _ hb ho=>u48.block _ _ ho (by omega)) (fun b _ hb ho=>u48.block _ _ ho (by omega)) _ _ p6'
   refine Calls.mono (rPush k8d p5' hb8 (IsSl.mono (F:=fun b=>¬ OwnOf w8 hb b) (F':=fun b=>¬ OwnOf w8.drew hb b) (w:=w8) (w':=w8.drew) hv8 (fun _ h=>h) (fun _ _ _ ho=>ho)) B.length _ (by simp;omega)) ?_
   rintro e w9 ⟨rfl,⟨lv9,kv9,lc9,kc9,k9,K9⟩,u9⟩
   have b9:=K9 _ _ (show w8.drew.heap[w3.heap.size]?=_ from b8.1) (by omega) b8.2.1 b8.2.2
   have g9:=K9 _ _ (show w8.drew.heap[w1.heap.size]?=_ from g8.1) (by omega) g8.2.1 g8.2.2
   have q9:=k9.cell
   refine⟨⟨by rw[b9.1,b8.1],by rw[g9.1,g8.1],by rw[r28];exact u9.block _ _ r28 (by omega)⟩,?_⟩
   simp (disch:=first|assumption|omega|simp only[zS]<;>omega|decide) only[zb75,simprocAttr,q9]
   obtain⟨kA,uA⟩:=k9.head _ rfl
   have hn9:=hi.nodes
   have tr:=hi.tr
   obtain⟨K,hK⟩:∃ K,H.most+1-H.cost=K+1:=⟨H.most-H.cost,by omega⟩
   have hK5:H.most+1-(H.cost+1)≤K:=by omega
   have mul1:(M+2)*(H.most+1-(H.cost+1))≤(M+2)*K:=Nat.mul_le_mul_left _ hK5
   have mul2:(M+5)*(H.most+1-(H.cost+1))≤(M+5)*K:=Nat.mul_le_mul_left _ hK5
   rw[hK,Nat.mul_succ] at hn9 hl9
   have hg2:GOk M (H.ce (H.cost+1) H.err) L ⟨false,parts[2],g.vars,g.cut,g.rest⟩:=⟨fun _=>o8'.at _,hgo.vars,hrestL⟩
   have hg1:GOk M (H.ce (H.cost+1) H.err) (L++[⟨false,parts[2],g.vars,g.cut,g.rest⟩]) ⟨false,parts[1],g.vars,g.cut,g.rest⟩:=⟨fun _=>o8'.at _,hgo.vars,hrestL.more _⟩
   have hgc:GOk M (H.ce (H.cost+1) H.err) (L++[⟨false,parts[2],g.vars,g.cut,g.rest⟩]++[⟨false,parts[1],g.vars,g.cut,g.rest⟩]) ⟨true,P.failB,[],B.length,((L++[(⟨false,parts[2],g.vars,g.cut,g.rest⟩:Gl)]).length:Nat)⟩:=⟨fun h=>(by cases h),fun v hv=>(by cases hv),fine_new hcutB⟩
   have hg0:GOk M (H.ce (H.cost+1) H.err) (L++[⟨false,parts[2],g.vars,g.cut,g.rest⟩]++[⟨false,parts[1],g.vars,g.cut,g.rest⟩]++[⟨true,P.failB,[],B.length,((L++[(⟨false,parts[2],g.vars,g.cut,g.rest⟩:Gl)]).length:Nat)⟩]) ⟨false,parts[0],g.vars,B.length,((L++[(⟨false,parts[2],g.vars,g.cut,g.rest⟩:Gl)]++[(⟨false,parts[1],g.vars,g.cut,g.rest⟩:Gl)]).length:Nat)⟩:=⟨fun _=>o8'.at _,hgo.vars,fine_new (Nat.le_refl _)⟩
   refine⟨true,H.ce (H.cost+1) H.err,_,_,_,rfl,⟨_,_,_,_,kA⟩,((((hU4.trans u48).trans drewU).trans u9).trans uA),?_,rfl,Nat.le_refl _,hpu',Nat.le_refl _⟩
   refine⟨hi.fit.ce _ _,hi.few,hi.err,by show H.trail.length≤H.cost+1;omega,by show H.pot (H.cost+1)≤_;omega,by show H.nodes.length+(M+2)*(H.most+1-(H.cost+1))≤_;omega,?_,?_,
    ((((GsOk.mono (H':=H.ce (H.cost+1) H.err) hi.gs (Nat.le_refl _)).snoc hg2).snoc hg1).snoc hgc).snoc hg0,
    fine_new (by show B.length≤(B++[_]).length;simp),ags_snoc (ags_more (ags_more (ags_more (ags_more hi.ags _) _) _) _) ((((fine_new (L:=L) (g:=(⟨false,parts[2],g.vars,g.cut,g.rest⟩:Gl)) hcutB).more _).more _).more _)⟩
   ·show _+(M+5)*(H.most+1-(H.cost+1))≤_
    simp only[List.length_append,List.length_cons,List.length_nil];omega
   ·show _+2*(H.most+1-(H.cost+1))≤_
    simp only[List.length_append,List.length_cons,List.length_nil];omega
  have hk44:kind=44:=by omega
  have h44':((kind:Nat):Int)=44:=by omega
  have hn2:n2=parts.length:=by
   have h9:=hbd4
   unfold IsRb at h9
   obtain⟨av,pv,us,ps,e,-,-,h2,-⟩:=h9
   obtain⟨pa,pc,rfl⟩:=h2.shape
   simp only[List.cons.injEq,Value.slice.injEq,and_true] at e
   exact e.2.2.2.2.1
  subst hn2
  have hl9:=hi.lists
  have hb9:=hi.backs
  simp (disch:=first|assumption|omega|simp only[zS]<;>omega|decide) only[zb75,simprocAttr,g4,b4]
  refine⟨fun m z w'=>∃ (j:Nat) (L':List Gl) (todo':Int) (lv' kv':Value) (lc' kc':List Value),z 6=zi (((j:Nat):Int)-1)/\m=j/\j≤parts.length/\WKx w' hb wb (H.ce (H.cost+1) H.err) bv todo' L' B lv' kv' vv nv lc' kc'/\UpFr hb w4 w' /\
    (w'.heap[w3.heap.size]?=some (.cells #[.int .u8 (kind:Nat),.string (bs nm),.slice p n1 c1,.slice q parts.length c2] 40)/\lv'.ownBlock≠some w3.heap.size/\kv'.ownBlock≠some w3.heap.size) /\
    (w'.heap[w1.heap.size]?=some (.cells #[.int .u8 (kind:Nat),.string (bs nm),.slice p n1 c1,.slice q parts.length c2,.bool false,.slice a9 (g.vars.map fun n=>(zi (n:Nat):Value)).length c9,zi (g.cut:Nat),zi g.rest] 143)/\lv'.ownBlock≠some w1.heap.size/\kv'.ownBlock≠some w1.heap.size) /\
    IsSl (fun b=>¬ OwnOf w' hb b) w' 3 (.slice a9 (g.vars.map fun n=>(zi (n:Nat):Value)).length c9) (g.vars.map fun n=>zi (n:Nat))/\GsOk M (H.ce (H.cost+1) H.err) L'/\Fine L' todo' g.cut/\(∀ i a,B[i]?=some a->Fine L' a.todo i)/\L'.length+j=L.length+parts.length,
   ⟨_,parts.length,L,g.rest,_,_,_,_,rfl,rfl,Nat.le_refl _,k4,UpFr.refl _ _,⟨b4,hlv4,hkv4⟩,⟨g4,hlv3,hkv3⟩,hvr4,hi.gs.mono (Nat.le_refl _),hrestL,hi.ags,rfl⟩,?_⟩
  intro m z d w5 hI
  refine toPr ?_
  obtain⟨j,L5,todo5,lv5,kv5,lc5,kc5,h6,hmj,hj,k5,u5,b5,g5,hv5,gs5,fn5,ag5,hl5⟩:=hI
  have hmj':=hmj.symm
  subst hmj'
  have q5:=k5.cell
  cases j with
  | zero=>
   simp (disch:=first|assumption|omega|simp only[zS]<;>omega|decide) only[zb75,simprocAttr,h6]
   have hn9:=hi.nodes
   have tr:=hi.tr
   obtain⟨K,hK⟩:∃ K,H.most+1-H.cost=K+1:=⟨H.most-H.cost,by omega⟩
   have hK5:H.most+1-(H.cost+1)≤K:=by omega
   have mul1:(M+2)*(H.most+1-(H.cost+1))≤(M+2)*K:=Nat.mul_le_mul_left _ hK5
   have mul2:(M+5)*(H.most+1-(H.cost+1))≤(M+5)*K:=Nat.mul_le_mul_left _ hK5
   rw[hK,Nat.mul_succ] at hn9 hl9
   exact⟨true,H.ce (H.cost+1) H.err,todo5,L5,B,rfl,⟨_,_,_,_,k5⟩,hU4.trans u5,⟨hi.fit.ce _ _,hi.few,hi.err,by show H.trail.length≤H.cost+1;omega,by show H.pot (H.cost+1)≤_;omega,by show H.nodes.length+(M+2)*(H.most+1-(H.cost+1))≤_;omega,
    by show L5.length+(M+5)*(H.most+1-(H.cost+1))≤_;omega,by show B.length+2*(H.most+1-(H.cost+1))≤_;omega,gs5,fn5.up hcutB,ag5⟩,rfl,Nat.le_refl _,hpu',Nat.le_refl _⟩
  | succ j=>
   have e1:((j+1:Nat):Int)-1=((j:Nat):Int):=by omega
   rw[e1] at h6
   obtain⟨-,eb,ecs,d0,d1,d2,d3,rfl,r1,r2,r3,r4,r5,r6⟩:=hbd4.part (j:=j) (by omega)
   obtain⟨z0,z1,z2,z3,z4,z5,z6,z7,hd0,hd1,hd2,hd3⟩:=id r5
   have hone:d0.oneCell'=true/\d1.oneCell'=true/\d2.oneCell'=true/\d3.oneCell'=true:=by rw[hd0,hd1,hd2,hd3];exact⟨rfl,rfl,rfl,rfl⟩
   obtain⟨y0,y1,y2,y3⟩:=hone
   have ej:((j:Nat):Int).toNat=j:=by omega
   have hjl':((j:Nat):Int)<((parts.length:Nat):Int):=by omega
   have r25:=u5.block _ _ r2 (by omega)
   simp (disch:=first|assumption|omega|simp only[zS]<;>omega|decide) only[zb75,simprocAttr,h6]
   refine⟨fun w'=>w'.heap[w3.heap.size]?=w5.heap[w3.heap.size]?/\w'.heap[w1.heap.size]?=w5.heap[w1.heap.size]?/\w'.heap[eb]?=w5.heap[eb]?,⟨rfl,rfl,rfl⟩,?_⟩
   refine rds (pq w3.heap.size 3) (fun w' hS=>by rw[b5.1] at hS;have:=hS.1;simp (disch:=first|assumption|omega|simp only[zS]<;>omega|decide) only[zb75,simprocAttr,this]) (rds (.slice (some ⟨eb,0,none⟩) parts.length c2) (fun w' hS=>by rw[b5.1] at hS;have h9:=hS.1;have:=ltOf h9;simp (disch:=first|assumption|omega|simp only[zS]<;>omega|decide) only[zb75,simprocAttr,h9]) ?_)
   refine rds (pq eb (j*4)) (fun w' hS=>by simp (disch:=first|assumption|omega|simp only[zS]<;>omega|decide) only[zb75,simprocAttr,ej,h6]) (rds (.agg #[d0,d1,d2,d3]) (fun w' hS=>by rw[r25] at hS;have h9:=hS.2.2;have:=ltOf h9;simp (disch:=first|assumption|omega|simp only[zS]<;>omega|decide) only[zb75,simprocAttr,h9,r4]) ?_)
   refine rds (pq w1.heap.size 5) (fun w' hS=>by rw[g5.1] at hS;have h9:=hS.2.1;simp (disch:=first|assumption|omega|simp only[zS]<;>omega|decide) only[zb75,simprocAttr,h9]) (rds (.slice a9 (g.vars.map fun n=>(zi (n:Nat):Value)).length c9) (fun w' hS=>by rw[g5.1] at hS;have h9:=hS.2.1;have:=ltOf h9;simp (disch:=first|assumption|omega|simp only[zS]<;>omega|decide) only[zb75,simprocAttr,h9]) ?_)
   refine rds (pq w1.heap.size 6) (fun w' hS=>by rw[g5.1] at hS;have h9:=hS.2.1;simp (disch:=first|assumption|omega|simp only[zS]<;>omega|decide) only[zb75,simprocAttr,h9]) (rds (zi (g.cut:Nat)) (fun w' hS=>by rw[g5.1] at hS;have h9:=hS.2.1;have:=ltOf h9;simp (disch:=first|assumption|omega|simp only[zS]<;>omega|decide) only[zb75,simprocAttr,h9]) ?_)
   simp (disch:=first|assumption|omega|simp only[zS]<;>omega|decide) only[zb75,simprocAttr,q5]
   have k5d:=k5.ext (w':=w5.drew) ((FrM.refl _ _).drew)
   have hb5:IsRb (fun b=>b<hb) w5.drew [d0,d1,d2,d3] parts[j]:=IsRb.mono (F:=fun b=>b<hb) (F':=fun b=>b<hb) (w:=w4) (w':=w5.drew) (fun _ h=>h) (fun b _ hb ho=>u5.block _ _ ho (by omega)) (fun b _ hb ho=>u5.block _ _ ho (by omega)) _ _ r6
   have hv5d:=(drewU (w:=w5)).vars k5.h.lt hv5
   refine Calls.mono (rPush k5d r5 hb5 hv5d g.cut todo5 (by omega)) ?_
   rintro e w6 ⟨rfl,⟨lv6,kv6,lc6,kc6,k6,K6⟩,u6⟩
   have b6:=K6 _ _ (show w5.drew.heap[w3.heap.size]?=_ from b5.1) (by omega) b5.2.1 b5.2.2
   have g6:=K6 _ _ (show w5.drew.heap[w1.heap.size]?=_ from g5.1) (by omega) g5.2.1 g5.2.2
   have hv6:=u6.vars k5d.h.lt hv5d
   have q6:=k6.cell
   refine⟨⟨by rw[b6.1,b5.1],by rw[g6.1,g5.1],by rw[r25];exact u6.block _ _ r25 (by omega)⟩,?_⟩
   simp (disch:=first|assumption|omega|simp only[zS]<;>omega|decide) only[zb75,simprocAttr,q6,h6]
   obtain⟨w7,hw7⟩:∃ y,y=upd w6 wb (.cells #[pp hb,bv,lv6,zi (L5.length:Nat),kv6,vv,nv,zi 0] 85):=⟨_,rfl⟩
   obtain⟨k7,u7⟩:=k6.head (L5.length:Nat) hw7
   rw[<- hw7]
   refine⟨_,Nat.lt_succ_self _,j,_,_,_,_,_,_,rfl,rfl,by omega,k7,((u5.trans drewU).trans u6).trans u7,⟨by first | exact b6.1 | (rw[hw7,hp_upd_other (by omega)];exact b6.1),b6.2⟩,⟨by first | exact g6.1 | (rw[hw7,hp_upd_other (by omega)];exact g6.1),g6.2⟩,u7.vars k6.h.lt hv6,
    gs5.snoc ⟨fun _=>o8'.at _,hgo.vars,fn5⟩,fine_new (Nat.le_refl _),ags_more ag5 _,by rw[List.length_append];simp;omega⟩
theorem Inv.undo{M:Nat}{H H':P.Hp}{todo todo':Int}{L:List Gl}{B:List Ag}{n:Nat}(h:Inv M H todo L B)(hf:H'.Fit)(h1:H'.nodes=H.nodes)(h2:H'.cost=H.cost)(h3:H'.most=H.most)(h4:H'.err=H.err)(h5:H'.trail.length≤H.trail.length)
  (hn:n≤B.length) (ht:Fine L todo' n):Inv M H' todo' L (B.take n):=
 ⟨hf,P.Hp.few_same h1 h.few,by rw[h4];exact h.err,by rw[h2];exact Nat.le_trans h5 h.tr,by rw[h2,P.Hp.pot_most h3];exact h.pot,by rw[h1,h2,h3];exact h.nodes,by rw[h2,h3];exact h.lists,
  by rw[h2,h3,List.length_take];have:=h.backs;omega,h.gs.mono (by rw[h1];exact Nat.le_refl _),by rw[List.length_take,Nat.min_eq_left hn];exact ht,ags_take h.ags n⟩
def OPost(M hb wb:Nat)(H:P.Hp)(bv vv nv:Value)(w:World)(e:Ending)(w':World):Prop:=
 ∃ r H' todo' L' B',e = .returned (.bool r)/\WK w' hb wb H' bv vv nv todo' L' B'/\UpFr hb w w'/\Inv M H' todo' L' B'/\H'.most=H.most/\H.cost≤H'.cost/\H'.pot H'.cost≤H.pot H.cost/\H.nodes.length≤H'.nodes.length
def zb76:=(zA zG0 (zA @sh_Pr_Walk_on.eq_1 (zA @al_146 (zA @fa_146_0 (zA @fa_146_1 (zA @fa_146_2 (zA @fa_146_3 (zA @fa_146_4 (zA @fa_146_5 (zA @fa_85_0 (zA @fa_85_3 (zA @fa_85_4 (zA @ix_82 (zA @ld_146 (zA @ld_3 (zA @ld_4 (zA @ld_79 (zA @ld_82 (zA @ld_83 (zA @ld_9 (zA @ln_82 (zA @sh_82 (zA @st_146 (zA @st_3 @st_82))))))))))))))))))))))))
set_option maxHeartbeats 2000000 in
theorem rOn {M:Nat} {w:World} {hb wb:Nat} {H:P.Hp} {bv vv nv:Value} {todo:Int} {L:List Gl} {B:List Ag} (h:WK w hb wb H bv vv nv todo L B) (hB:BaseA w hb bv) (hi:Inv M H todo L B) (hM:M≤2900) (first:Bool) :
  Calls Tryz.prog 28 #[pp wb,.bool first] w (OPost M hb wb H bv vv nv w):=by
 refine sh_Pr_Walk_on_ok ?_
 refine⟨fun m z w'=>∃ ok H' todo' L' B',z 5 = .bool ok/\WK w' hb wb H' bv vv nv todo' L' B'/\UpFr hb w w'/\Inv M H' todo' L' B'/\H'.most=H.most/\H.cost≤H'.cost/\H'.pot H'.cost≤H.pot H.cost/\H.nodes.length≤H'.nodes.length/\m=(H'.most+1-H'.cost)*800000001+B'.length,
  ⟨_,first,H,todo,L,B,rfl,h,UpFr.refl _ _,hi,rfl,Nat.le_refl _,Nat.le_refl _,Nat.le_refl _,rfl⟩,?_⟩
 intro m z d w1 hI
 refine toPr ?_
 obtain⟨ok,H1,todo1,L1,B1,h5,⟨lv,kv,lc,kc,k1⟩,u1,i1,hmo,hco,hpo,hno,rfl⟩:=hI
 have c1:=k1.cell
 simp (disch:=first|assumption|omega|simp only[zS]<;>omega|decide) only[zb76,simprocAttr,h5,c1]
 refine Calls.mono (rSpent k1.h) ?_
 rintro e w2 ⟨rfl,hE2⟩
 have k2:=k1.ext hE2
 have u2:UpFr hb w w2:=u1.trans hE2.toU
 have hB2:=hB.up u2
 have c2:=k2.cell
 have lw2:=ltOf c2
 cases hsp:H1.spent with
 | true=>
  simp (disch:=first|assumption|omega|simp only[zS]<;>omega|decide) only[zb76,simprocAttr]
  exact⟨false,H1,todo1,L1,B1,rfl,⟨_,_,_,_,k2⟩,u2,i1,hmo,hco,hpo,hno⟩
 | false=>
  have hcm:H1.cost≤H1.most:=by
   unfold P.Hp.spent at hsp
   simp only[Bool.or_eq_false_iff,decide_eq_false_iff_not] at hsp
   omega
  cases ok with
  | true=>
   by_cases ht:todo1<0
   ·simp (disch:=first|assumption|omega|simp only[zS]<;>omega|decide) only[zb76,simprocAttr,h5,c2]
    exact⟨true,H1,todo1,L1,B1,rfl,⟨_,_,_,_,k2⟩,u2,i1,hmo,hco,hpo,hno⟩
   ·obtain⟨n,rfl⟩:∃ n:Nat,todo1=n:=⟨todo1.toNat,by omega⟩
    simp (disch:=first|assumption|omega|simp only[zS]<;>omega|decide) only[zb76,simprocAttr,h5,c2]
    refine Calls.mono (rStep k2 hB2 i1 hM hcm) ?_
    rintro e w3 ⟨r,H3,todo3,L3,B3,rfl,k3,u3,i3,m3,c3,p3,nn3⟩
    simp (disch:=first|assumption|omega|simp only[zS]<;>omega|decide) only[zb76,simprocAttr]
    have hb3:=i3.backs
    refine⟨_,?_,r,H3,todo3,L3,B3,rfl,k3,u2.trans u3,i3,m3.trans hmo,by omega,Nat.le_trans p3 hpo,Nat.le_trans hno nn3,rfl⟩
    obtain⟨K,hK⟩:∃ K,H1.most+1-H1.cost=K+1:=⟨H1.most-H1.cost,by omega⟩
    have hK3:H3.most+1-H3.cost≤K:=by omega
    rw[hK,Nat.succ_mul]
    omega
  | false=>
   obtain⟨pk,dk,hkv⟩:=own_slice k2.ok
   subst hkv
   by_cases h0:B1.length=0
   ·have h0':((B1.length:Nat):Int)-1<0:=by omega
    simp (disch:=first|assumption|omega|simp only[zS]<;>omega|decide) only[zb76,simprocAttr,h5,c2]
    exact⟨false,H1,todo1,L1,B1,rfl,⟨_,_,_,_,k2⟩,u2,i1,hmo,hco,hpo,hno⟩
   ·obtain⟨n,hn⟩:∃ n,B1.length=n+1:=⟨B1.length-1,by omega⟩
    obtain⟨xl,hol⟩:=k2.ok
    rcases hol with⟨-,h00⟩| ⟨gb,cap,cur,hpk,o1,o2,o3,o4,o5,o6⟩
    ·omega
    simp only[Value.slice.injEq,true_and] at hpk
    obtain⟨rfl,rfl⟩:=hpk
    have hag:=IsAgs.at n (by omega) k2.gk
    obtain⟨a,ha⟩:∃ a,a=B1[n]:=⟨_,rfl⟩
    rw[<- ha] at hag
    obtain⟨x3,x4,x5,e6,hone⟩:=hag
    have hcells:List.take 6 (List.drop (n*6) cur.toList)=[zi (a.mark:Nat),zi a.todo,.bool false,zi x3,.string x4,x5]:=by
     rw[<- e6,<- o6,List.drop_take,List.take_take,Nat.min_eq_left (by omega)]
    have etn:(((B1.length:Nat):Int)-1).toNat=n:=by omega
    have hnl:((B1.length:Nat):Int)-1<((B1.length:Nat):Int):=by omega
    have hbl:B1.length≤800000000:=by have:=i1.backs;omega
    have hnp:¬ (((B1.length:Nat):Int)-1<0):=by omega
    have hsz:n*6+6≤cur.size:=by omega
    simp (disch:=first|assumption|omega|simp only[zS]<;>omega|decide) only[zb76,simprocAttr,h5,c2,etn,o2,hcells,hone]
    obtain⟨w3,hw3⟩:∃ y,y=(upd (w2.alloc (.cells #[zi 0,zi 0,.bool false,zi 0,.string (bs []),.slice none 0 0] 146 (0,0))) w2.heap.size
     (.cells #[zi (a.mark:Nat),zi a.todo,.bool false,zi x3,.string x4,x5] 146)).drew:=⟨_,rfl⟩
    have hE3:Ext w2 w3:=by rw[hw3];exact(((FrM.refl _ _).alloc _).upd (.inr (Nat.le_refl _))).drew
    have g3:w3.heap[w2.heap.size]?=some (.cells #[zi (a.mark:Nat),zi a.todo,.bool false,zi x3,.string x4,x5] 146):=by
     rw[hw3];exact hp_upd_same rfl (by rw[size_alloc];omega)
    rw[<- hw3]
    have k3:=k2.ext hE3
    have htr:=i1.tr
    have hnd:=i1.nodes
    refine Calls.mono (rUndo (m:=a.mark) H1.trail.length (Nat.le_refl _) k3.h i1.fit (by have:=P.pot_le H1 H1.cost;have:=i1.pot;omega) (by omega)) ?_
    rintro e w4 ⟨rfl,H4,r4,f4,n4,e4,m4,er4,hf4,t4⟩
    have k4:=k3.table r4 hf4
    have g4:w4.heap[w2.heap.size]?=some (.cells #[zi (a.mark:Nat),zi a.todo,.bool false,zi x3,.string x4,x5] 146):=hf4.fr.block _ _ g3 (k3.h.ty g3 (by decide))
    have u4:UpFr hb w w4:=(u2.trans hE3.toU).trans (hf4.up k3.h)
    have c4:=k4.cell
    have lc4:=ltOf c4
    obtain⟨w5,hw5⟩:∃ y,y=upd w4 wb (.cells #[pp hb,bv,lv,zi a.todo,.slice (some ⟨gb,0,none⟩) B1.length dk,vv,nv,zi 0] 85):=⟨_,rfl⟩
    obtain⟨k5,u5⟩:=k4.head a.todo hw5
    have c5:=k5.cell
    have hsc:sliced (some ⟨gb,0,none⟩) 0 n dk 6 = .slice (some ⟨gb,0,none⟩) n dk:=sliced_own2 k5.ok (by omega)
    have hncap:((B1.length:Nat):Int)-1≤((dk:Nat):Int):=by omega
    simp (disch:=first|assumption|omega|simp only[zS]<;>omega|decide) only[zb76,simprocAttr,g4,c4,etn,hsc]
    obtain⟨k6,u6⟩:=k4.forget2 (n:=n) (by omega) a.todo rfl
    have hfa:Fine L1 a.todo n:=i1.ags n a (by rw[ha];exact List.getElem?_eq_getElem (by omega))
    have i6:=i1.undo (H':=H4) f4 n4 e4 m4 er4 t4 (n:=n) (by omega) hfa
    refine⟨_,?_,true,H4,a.todo,L1,B1.take n,rfl,k6,u4.trans u6,i6,m4.trans hmo,by omega,by rw[P.Hp.pot_most m4,e4];exact hpo,by rw[n4];exact hno,rfl⟩
    rw[m4,e4,List.length_take]
    omega
end Go.Proofs.YtilpjhceemaplaaGreatDoor
