/- A part of one proof (RW23, SX6, SX7, SX8, SX9, LA1, AQ0, PX1, PX2, PureW, PureW2, PureE, PureG, PureQ, ShQ1, PK1). -/
import Derived.Test.YtilpjhceemaplaaGreatDoorPkAAJ
import Derived.WalkKit
import Derived.LaidEql
import Derived.Stop.Asserts
import Derived.RowKitTokens
import Derived.Recover
import Derived.Tactics
import Derived.Tactics2
set_option linter.all false
set_option linter.unusedVariables false
set_option linter.unusedSimpArgs false
set_option maxRecDepth 100000
set_option maxHeartbeats 4000000
namespace Go.Proofs.YtilpjhceemaplaaGreatDoor
open Go.RowKit Sx
theorem take_at{cs:Array Value}{vs:List Value}{m i j:Nat}(h:cs.toList.take m=vs)(hi:i+j<m)(l:List Value)(hl:(vs.drop i).take l.length=l)(hj:j<l.length):cs[i+j]?=l[j]?:=by
 have h1:vs[i+j]?=l[j]?:=by
  have:=congrArg (fun x:List Value=>x[j]?) hl
  simp only[List.getElem?_take_of_lt hj,List.getElem?_drop] at this
  exact this
 rw[<- h1,<- h,List.getElem?_take_of_lt hi,Array.getElem?_toList]
theorem sizeOf_args{xs:List P.Ex}{x:P.Ex}(h:x∈xs):SizeOf.sizeOf x.args<SizeOf.sizeOf xs:=by
 have h1:=List.sizeOf_lt_of_mem h
 cases x with
 | mk kind name n k args=>
  simp only[P.Ex.args,P.Ex.mk.sizeOf_spec] at h1 ⊢
  omega
def zb34:=(zA zG0 (zA @sh_r_size.eq_1 (zA @fa_111_4 (zA @ix_37 (zA @ld_37 @ln_37)))))
theorem rSize:∀ (xs:List P.Ex) (F:Nat->Prop) (w:World) (v:Value) (vs:List Value),IsRw F w 111 5 v xs.length vs->IsRxs F w vs xs ->
  Calls Tryz.prog 19 #[v] w fun e w'=>w'=w/\∃ z:Int,e = .returned (zi z)
 | xs,F,w,v,vs,h1,h2=>by
  refine sh_r_size_ok ?_
  obtain⟨va,vc,hv⟩:=h1.shape
  refine⟨fun n t w'=>w'=w/\∃ i z,n=xs.length-i/\i≤xs.length/\t 4=zi ((i:Nat):Int)/\t 3=zi z,⟨_,rfl,0,0,rfl,Nat.zero_le _,rfl,rfl⟩,?_⟩
  intro n t dd w1 hI
  refine toPr ?_
  obtain⟨rfl,i,z,rfl,hi,h4,h3⟩:=hI
  by_cases hlt:i<xs.length
  ·rcases h1 with⟨h0,_,_⟩| ⟨b,cap,cs,rfl,hb,hc,hm,ht,hn63⟩
   ·omega
   have hx:=IsRxs.at i hlt h2
   obtain⟨x,hxe⟩:∃ x,x=xs[i]:=⟨_,rfl⟩
   rw[<- hxe] at hx
   have hmem:x∈xs:=hxe ▸ List.getElem_mem hlt
   have hdec:=sizeOf_args hmem
   obtain⟨kind,name,nn,kk,args⟩:=x
   have hx2:=hx
   unfold IsRx at hx2
   obtain⟨av,us,e5,g1,g2⟩:=hx2
   have hcell:cs[i*5+4]?=some av:=by
    have:=take_at (j:=4) ht (i:=5*i) (by omega) [.int .u8 kind,.string (bs name),zi nn,zi kk,av] (by simpa using e5) (by simp)
    rw[show i*5+4=5*i+4 by omega,this]
    rfl
   simp (disch:=first|assumption|omega|simp only[zS]<;>omega|decide) only[zb34,simprocAttr,h4,h3,hc,hcell]
   refine(rSize args F w1 av us g1 g2).mono ?_
   rintro e w2 ⟨rfl,z2,rfl⟩
   simp (disch:=first|assumption|omega|simp only[zS]<;>omega|decide) only[zb34,simprocAttr,h4,h3]
   exact⟨xs.length-(i+1),by omega,i+1,_,rfl,by omega,by simp,rfl⟩
  ·rw[hv]
   simp (disch:=first|assumption|omega|simp only[zS]<;>omega|decide) only[zb34,simprocAttr,h4,h3]
   exact⟨_,rfl⟩
 termination_by xs=>SizeOf.sizeOf xs
 decreasing_by exact hdec
theorem IsRbs.at{F:Nat->Prop}{w:World}:∀ {xs:List P.Bd} {vs:List Value} (j:Nat) (hj:j<xs.length),IsRbs F w vs xs->IsRb F w ((vs.drop (4*j)).take 4) xs[j]
 | x::xs,vs,0,_,h=>by
  unfold IsRbs at h
  obtain⟨l,r,rfl,h2,h3⟩:=h
  obtain⟨a,b,c,d,rfl,-⟩:=h2.len
  exact h2
 | x::xs,vs,j+1,hj,h=>by
  unfold IsRbs at h
  obtain⟨l,r,rfl,h2,h3⟩:=h
  obtain⟨a,b,c,d,rfl,-⟩:=h2.len
  have:=IsRbs.at (w:=w) (F:=F) j (by simpa using hj) h3
  have e1:4*(j+1)=4+4*j:=by omega
  rw[e1,<- List.drop_drop]
  exact this
theorem keepsExt{F:Nat->Prop}{et:Nat}{w w':World}(h:Ext w w'):Keeps F et w w':=fun b _ _ hb=>h.ext b _ hb
theorem sizeOf_parts{xs:List P.Bd}{x:P.Bd}(h:x∈xs){kind:Nat}{name:P.Bs}{args:List P.Ex}:SizeOf.sizeOf x<SizeOf.sizeOf (P.Bd.mk kind name args xs):=by
 have h1:=List.sizeOf_lt_of_mem h
 simp only[P.Bd.mk.sizeOf_spec]
 omega
def zb35:=(zA zG0 (zA @sh_r_weight.eq_1 (zA @fa_40_0 (zA @fa_40_2 (zA @fa_40_3 (zA @ix_38 (zA @ld_37 (zA @ld_38 (zA @ld_40 (zA @ld_5 @ln_38))))))))))
theorem rWeight:∀ (x:P.Bd) (F:Nat->Prop) (w:World) (l:List Value),IsRb F w l x ->
  Calls Tryz.prog 20 #[.agg l.toArray] w fun e w'=>Ext w w'/\∃ z:Int,e = .returned (zi z)
 | .mk kind name args parts,F,w,l,h=>by
  have hh:=h
  unfold IsRb at h
  obtain⟨av,pv,vs,us,rfl,g1,g2,g3,g4⟩:=h
  obtain⟨va,vc,hav⟩:=g1.shape
  obtain⟨pa,pc,hpv⟩:=g3.shape
  refine sh_r_weight_ok ?_
  subst hav hpv
  simp (disch:=first|assumption|omega|simp only[zS]<;>omega|decide) only[zb35,simprocAttr]
  obtain⟨wA,hwA⟩:∃ x,x=w.alloc (.cells #[.int .u8 kind,.string (bs name),.slice va args.length vc,.slice pa parts.length pc] 40):=⟨_,rfl⟩
  have hE:Ext w wA:=by rw[hwA];exact FrM.alloc (FrM.refl _ _) _
  have hx:wA.heap[w.heap.size]?=some (.cells #[.int .u8 kind,.string (bs name),.slice va args.length vc,.slice pa parts.length pc] 40):=by rw[hwA];exact Array.getElem?_push_size
  rw[<- hwA]
  refine(rSize args F _ _ vs (g1.mono (fun _ h=>h) (keepsExt hE)) (IsRxs.mono (fun _ h=>h) (keepsExt hE) _ _ g2)).mono ?_
  rintro e w2 ⟨rfl,z,rfl⟩
  simp (disch:=first|assumption|omega|simp only[zS]<;>omega|decide) only[zb35,simprocAttr]
  refine⟨fun s w'=>w'=w2/\∃ z:Int,s 3=zi z,?_,?_⟩
  ·refine⟨fun s w'=>w'=w2/\∃ b:Bool,s 16 = .bool b,?_,?_⟩
   ·by_cases hk:kind=63
    ·subst hk
     simp (disch:=first|assumption|omega|simp only[zS]<;>omega|decide) only[zb35,simprocAttr,hx]
     exact⟨_,rfl⟩
    ·have e1:((kind:Int) == 63)=false:=by simpa using (by omega:(kind:Int)≠63)
     simp (disch:=first|assumption|omega|simp only[zS]<;>omega|decide) only[zb35,simprocAttr,hx,e1]
     exact⟨_,rfl⟩
   ·rintro s w' ⟨rfl,b,hb⟩ d
    cases b<;>simp (disch:=first|assumption|omega|simp only[zS]<;>omega|decide) only[zb35,simprocAttr,hb]
    ·exact⟨_,rfl⟩
    ·exact⟨_,rfl⟩
  ·rintro s w' ⟨rfl,z2,hz⟩ d
   refine⟨fun n t w''=>Ext w w''/\w''.heap[w.heap.size]?=some (.cells #[.int .u8 kind,.string (bs name),.slice va args.length vc,.slice pa parts.length pc] 40) /\
    ∃ i z,n=parts.length-i/\i≤parts.length/\t 4=zi ((i:Nat):Int)/\t 3=zi z,⟨_,hE,hx,0,z2,rfl,Nat.zero_le _,rfl,hz⟩,?_⟩
   intro n t dd w3 hI
   refine toPr ?_
   obtain⟨hE3,hx3,i,z3,rfl,hi,h4,h3⟩:=hI
   by_cases hlt:i<parts.length
   ·have g3':=g3
    rcases g3 with⟨h0,_,_⟩| ⟨b,cap,cs,hvv,hb,hc,hm,ht,hn63⟩
    ·omega
    have hy:=(IsRbs.at i hlt g4).mono (F':=F) (fun _ h=>h) (keepsExt hE3) (keepsExt hE3)
    obtain⟨y,hye⟩:∃ y,y=parts[i]:=⟨_,rfl⟩
    rw[<- hye] at hy
    have hmem:y∈parts:=hye ▸ List.getElem_mem hlt
    have hdec:SizeOf.sizeOf y<SizeOf.sizeOf (P.Bd.mk kind name args parts):=sizeOf_parts hmem
    have hc3:=hE3.ext b _ hc
    have q:List.take 4 (List.drop (i*4) cs.toList)=List.take 4 (List.drop (4*i) us):=by
     rw[<- ht,List.drop_take,List.take_take,Nat.min_eq_left (by omega),Nat.mul_comm i 4]
    obtain⟨rfl,rfl⟩:pa=some ⟨b,0,none⟩/\pc=cap:=by simpa using hvv
    simp (disch:=first|assumption|omega|simp only[zS]<;>omega|decide) only[zb35,simprocAttr,hx3,h4,h3,hc3]
    rw[q]
    refine(rWeight y F w3 _ hy).mono ?_
    rintro e w4 ⟨hE4,z4,rfl⟩
    simp (disch:=first|assumption|omega|simp only[zS]<;>omega|decide) only[zb35,simprocAttr,h4,h3]
    exact⟨_,by omega,hE3.trans hE4,hE4.ext _ _ hx3,i+1,_,rfl,by omega,by simp,rfl⟩
   ·simp (disch:=first|assumption|omega|simp only[zS]<;>omega|decide) only[zb35,simprocAttr,hx3,h4,h3]
    exact⟨hE3,_,rfl⟩
 termination_by x=>SizeOf.sizeOf x
 decreasing_by exact hdec
def zb36:=(zA zG0 (zA @sh_r_Clause_Size.eq_1 (zA @fa_43_1 (zA @fa_43_2 (zA @ld_37 @ld_40)))))
theorem rClauseSize (c:P.Cl) (F:Nat->Prop) (w:World) (l:List Value) (h:IsRc F w l c) :
  Calls Tryz.prog 8 #[.agg l.toArray] w fun e w'=>Ext w w'/\∃ z:Int,e = .returned (zi z):=by
 obtain⟨av,vs,b0,b1,b2,b3,va,vc,rfl,g1,g2,g3⟩:=h
 obtain⟨a,b,c',d,hl,o0,o1,o2,o3⟩:=g3.len
 simp only[List.cons.injEq,and_true] at hl
 obtain⟨rfl,rfl,rfl,rfl⟩:=hl
 obtain⟨xa,xc,hav⟩:=g1.shape
 subst hav
 refine sh_r_Clause_Size_ok ?_
 simp (disch:=first|assumption|omega|simp only[zS]<;>omega|decide) only[sh_r_Clause_Size,Pr,PX,PC,NX,ends,fillL,wrL,sOf,Nat.reduceAdd,Nat.reduceMul,Nat.reduceLeDiff,Nat.reduceEqDiff,Int.reduceToNat,Int.reduceAdd,Int.reduceLT,Int.reduceLE,↓reduceIte,forall_const,eq_self,jn_e,nc_ptr,nc_iface,nc_func,bs_true,bs_false,bs_pos,bs_neg,bo_add,bo_sub,bo_mul,bo_lss,bo_leq,bo_gtr,bo_geq,bo_eql,bo_neq,bo_eqs,bo_nes,un_not,un_neg,rd_extract0,rd_extract1,rd_extract2,rd_panic_iface,wr_func,wr_box,ldK_e,ldV_some,xaK_some,ldN_e,stK_e,blK_some,brK_some,hp_alloc_old,hp_alloc_new,hp_upd_same,hp_upd_other,hp_drew,sz_drew,size_upd,size_alloc,upd_upd,cells_agg,cells_aggA,cells_stringA,cells_intA,cells_sliceA,cells_pointerA,cells_int,cells_bool,cells_string,cells_slice,cells_pointer,cells_iface,cells_nilIface,cells_func,cells_map,one_int,one_bool,one_string,one_slice,one_pointer,one_iface,one_nilIface,one_func,one_map,i64w,u8w,df_func,lv_ret,lv_panic,Int.toNat_natCast,Option.isNone_none,Option.isNone_some,List.getElem?_toArray,List.getElem?_cons_zero,List.getElem?_cons_succ,List.setIfInBounds_toArray,List.set_cons_zero,List.set_cons_succ,List.size_toArray,List.length_cons,List.length_nil,List.drop_zero,List.drop_succ_cons,List.take_succ_cons,List.take_zero,List.take_nil,List.drop_nil,List.all_cons,List.all_nil,Bool.and_true,Bool.true_and,Nat.zero_add,Nat.add_zero,Nat.mul_one,and_self,and_true,true_and,decide_true,decide_false,Bool.not_true,Bool.not_false,not_true_eq_false,not_false_eq_true,fa_43_1,fa_43_2,ld_37,ld_40,zSh]
 obtain⟨wA,hwA⟩:∃ x,x=(w.alloc (.cells #[.string (bs c.name),.slice xa c.args.length xc,b0,b1,b2,b3,.slice va c.vars.length vc] 43)).drew:=⟨_,rfl⟩
 have hE:Ext w wA:=by rw[hwA];exact FrM.drew (FrM.alloc (FrM.refl _ _) _)
 have hx:wA.heap[w.heap.size]?=some (.cells #[.string (bs c.name),.slice xa c.args.length xc,b0,b1,b2,b3,.slice va c.vars.length vc] 43):=by rw[hwA];exact Array.getElem?_push_size
 rw[<- hwA]
 refine⟨fun w'=>w'.heap[w.heap.size]?=some (.cells #[.string (bs c.name),.slice xa c.args.length xc,b0,b1,b2,b3,.slice va c.vars.length vc] 43),hx,?_⟩
 refine rds (pq w.heap.size 1) (fun w' h=>by simp (disch:=first|assumption|omega|simp only[zS]<;>omega|decide) only[zb36,simprocAttr,h]) ?_
 refine rds (.slice xa c.args.length xc) (fun w' h=>by simp (disch:=first|assumption|omega|simp only[zS]<;>omega|decide) only[zb36,simprocAttr,h]) ?_
 refine rds (pq w.heap.size 2) (fun w' h=>by simp (disch:=first|assumption|omega|simp only[zS]<;>omega|decide) only[zb36,simprocAttr,h]) ?_
 refine rds (.agg #[b0,b1,b2,b3]) (fun w' h=>by simp (disch:=first|assumption|omega|simp only[zS]<;>omega|decide) only[zb36,simprocAttr,h]) ?_
 refine(rSize c.args F _ _ vs (g1.mono (fun _ h=>h) (keepsExt hE)) (IsRxs.mono (fun _ h=>h) (keepsExt hE) _ _ g2)).mono ?_
 rintro e w2 ⟨rfl,z,rfl⟩
 refine⟨hx,?_⟩
 refine(rWeight c.body F w2 _ (g3.mono (F':=F) (fun _ h=>h) (keepsExt hE) (keepsExt hE))).mono ?_
 rintro e w3 ⟨hE3,z3,rfl⟩
 simp (disch:=first|assumption|omega|simp only[zS]<;>omega|decide) only[zb36,simprocAttr]
 exact⟨hE.trans hE3,_,rfl⟩
theorem STab.up{w:World}{B B':Nat}(h:STab w B)(hb:B≤B'):STab w B':=
 ⟨Nat.lt_of_lt_of_le h.lt hb,fun l hl=>let ⟨b,o,c,h1,h2⟩:=h.lev l hl;⟨b,o,c,Nat.lt_of_lt_of_le h1 hb,h2⟩⟩
theorem STabC.up{w:World}{B B':Nat}(h:STabC w B)(hb:B≤B'):STabC w B':=⟨Nat.lt_of_lt_of_le h.lt hb,h.cell⟩
structure STabs(w:World):Prop where
 lev:STab w w.heap.size
 cmp:STabC w w.heap.size
 sig:STabS w
theorem STabs.ext{w w':World}(h:STabs w)(hE:Ext w w'):STabs w':=
 ⟨(h.lev.ext fun b o _=>hE.ext b o).up hE.size,(h.cmp.ext fun b o _=>hE.ext b o).up hE.size,h.sig.ext hE⟩
theorem lvIdle{res:World->Prop}{R:Ending->World->Prop}{v4 v5:Value}{w:World}(h:res w) :
  LV Tryz.prog res R [{ target:=.fn (.func 91) #[v4,v5],args:=#[]++#[] }] .returning w:=by
 refine lv_call (by kernel_rfl) (by simp) ((sCatchIdle v4 v5 w).mono ?_)
 rintro e u' w' ⟨rfl,rfl,rfl⟩
 exact h
theorem lvCatch{res:World->Prop}{R:Ending->World->Prop}{b4 b5:Nat}{o4 o5 v:Value}{w:World}(h4:w.heap[b4]?=some (.cells #[o4] 95))
  (h5:w.heap[b5]?=some (.cells #[o5] 57)) (hne:b4≠b5)
  (h:res (upd (upd w b4 (.cells #[.slice none 0 0] 95)) b5 (.cells #[.iface 100 v] 57))) :
  LV Tryz.prog res R [{ target:=.fn (.func 91) #[pp b4,pp b5],args:=#[]++#[] }]
   (.panicking [{ v:=.iface 100 v,recovered:=false }]) w:=by
 have e1:w.setCell ⟨b4,0,none⟩ (.slice none 0 0)=upd w b4 (.cells #[.slice none 0 0] 95):=upd_setCell h4 _
 have h5':(upd w b4 (.cells #[.slice none 0 0] 95)).heap[b5]?=some (.cells #[o5] 57):=by
  rw[hp_upd_other (by omega)];exact h5
 refine lv_call (by kernel_rfl) (by simp) ((sCatchAt b4 b5 o4 o5 v [] w (by simp [World.cell?,h4]) (freeOf h4 0) (by rw[e1];simp [World.cell?,h5']) (by rw[e1];exact freeOf h5' 0)).mono ?_)
 rintro e u' w' ⟨rfl,rfl,rfl⟩
 rw[e1,upd_setCell h5']
 exact h
theorem SP.fresh{w:World}{pb:Nat}{T:List P.Tok}{n:Nat}{tb cap:Nat}{cur:Array Value}(hT:P.LexOk n T)(hn:n≤2000)(ht:w.heap[tb]?=some (.cells cur 157 (0,0)))
  (hc:cur.toList.take (T.length*3)=scells T) (hs:STab w tb) (hlt:tb<pb) (h1:T.length≤cap) (h2:cap≤9223372036854775807)
  (hp:w.heap[pb]?=some (.cells #[.slice (some ⟨tb,0,none⟩) T.length cap,.slice none 0 0,zi 0] 160)):SP w pb tb T 0 [] 0:=by
 have htw:=TWs.of hT hn
 have hcl:∀ i,i<T.length*3->cur[i]?=(scells T)[i]?:=fun i hi=>by
  rw[<- hc,List.getElem?_take_of_lt hi,Array.getElem?_toList]
 refine⟨htw.toTW,hlt,htw.toTW.pos,by simp,⟨hs,cur,ht,fun j hj=>?_⟩,cap,.slice none 0 0,h1,h2,by simpa using hp,World.ownsRow_nil _ _ _ _⟩
 obtain⟨c1,c2,c3⟩:=scells_at T j hj
 rw[hcl _ (by omega),hcl _ (by omega),hcl _ (by omega)]
 exact⟨c1,c2,c3⟩
def SPostQ(w:World)(s:P.Bs)(e:Ending)(w':World):Prop:=
 Ext w w'/\match P.program s with
 | .err c a=>∃ b,e = .returned (.tuple #[.slice none 0 0,.iface 100 (.pointer (some ⟨b,0,none⟩))])/\w'.heap[b]?=some (.cells #[.int .i64 c,.int .i64 a] 104 (0,0))
 | .ok cs _ _=>∃ v vs,e = .returned (.tuple #[v,.nilIface])/\IsSl (Nu w w') w' 112 v vs/\IsCls (Nu w w') w' vs cs
def zb37:=(zA zG0 (zA @sh_s_caught_LPs_Clause.eq_1 (zA @al_57 (zA @al_95 (zA @bd_160 (zA @ld_57 (zA @ld_95 (zA @st_57 @st_95))))))))
theorem caughtErr {s:P.Bs} {w wz:World} {c a b:Nat} {o4 o5:Value} (hpr:P.program s = .err c a) (hE:Ext w wz) (q4:wz.heap[w.heap.size]?=some (.cells #[o4] 95))
  (q5:wz.heap[w.heap.size+1]?=some (.cells #[o5] 57)) (h1:wz.heap[b]?=some (.cells #[zi c,zi a] 104)) (hb:w.heap.size+2≤b) :
  LV Tryz.prog (fun wz=>RD Tryz.prog (Instr.loadAt 95 (pp w.heap.size)) wz (fun r=>RD Tryz.prog (Instr.loadAt 57 (pp (w.heap.size+1))) wz
    (fun r1=>SPostQ w s (.returned (.tuple #[r,r1])) wz) NX) NX) (SPostQ w s)
   [{ target:=.fn (.func 91) #[pp w.heap.size,pp (w.heap.size+1)],args:=#[]++#[] }]
   (.panicking [{ v:=.iface 100 (pp b),recovered:=false }]) wz:=by
 refine lvCatch q4 q5 (by omega) ?_
 have l4:=ltOf q4
 have l5:=ltOf q5
 have k4:(upd (upd wz w.heap.size (.cells #[.slice none 0 0] 95)) (w.heap.size+1) (.cells #[.iface 100 (pp b)] 57)).heap[w.heap.size]?=some (.cells #[.slice none 0 0] 95):=by
  simp (disch:=first|assumption|omega|simp only[zS]<;>omega|decide) only[zH]
 have k5:(upd (upd wz w.heap.size (.cells #[.slice none 0 0] 95)) (w.heap.size+1) (.cells #[.iface 100 (pp b)] 57)).heap[w.heap.size+1]?=some (.cells #[.iface 100 (pp b)] 57):=by
  simp (disch:=first|assumption|omega|simp only[zS]<;>omega|decide) only[zH]
 simp (disch:=first|assumption|omega|simp only[zS]<;>omega|decide) only[zb37,simprocAttr,k4,k5]
 refine⟨by(repeat (first | assumption | exact FrM.refl _ _ | (refine FrM.upd ?_ (.inr (by(try simp only[zS])<;>omega))) | refine FrM.alloc ?_ _ | refine FrM.drew ?_)),?_⟩
 rw[hpr]
 refine⟨b,rfl,?_⟩
 rw[hp_upd_other (by omega),hp_upd_other (by omega)]
 exact h1
theorem sCaughtL(s:P.Bs)(w:World)(hl:s.length≤100000)(hT:STabs w) :
  Calls Tryz.prog 51 #[.string (bs s),.func (.func 52) #[] #[]] w (SPostQ w s):=by
 refine sh_s_caught_LPs_Clause_ok ?_
 simp (disch:=first|assumption|omega|simp only[zS]<;>omega|decide) only[zb37,simprocAttr]
 obtain⟨wA,hwA⟩:∃ x,x=(w.alloc (.cells #[.slice none 0 0] 95)).alloc (.cells #[.nilIface] 57):=⟨_,rfl⟩
 have sA:wA.heap.size=w.heap.size+2:=by rw[hwA];simp
 have hEA:Ext w wA:=by rw[hwA];(repeat (first | assumption | exact FrM.refl _ _ | (refine FrM.upd ?_ (.inr (by(try simp only[zS])<;>omega))) | refine FrM.alloc ?_ _ | refine FrM.drew ?_))
 have b4:wA.heap[w.heap.size]?=some (.cells #[.slice none 0 0] 95):=by rw[hwA];simp (disch:=first|assumption|omega|simp only[zS]<;>omega|decide) only[zH]
 have b5:wA.heap[w.heap.size+1]?=some (.cells #[.nilIface] 57):=by rw[hwA];simp (disch:=first|assumption|omega|simp only[zS]<;>omega|decide) only[zH]
 rw[size_alloc,<- hwA]
 refine(sLex s wA hl (hT.sig.ext hEA)).mono ?_
 rintro e w1 ⟨hE1,hp⟩
 have s1:=hE1.size
 by_cases h2:2000<s.length
 ·rw[if_pos h2] at hp
  obtain⟨b,rfl,h1,h3⟩:=hp
  exact caughtErr (by rw[P.program,if_pos h2]) (hEA.trans hE1) (hE1.ext _ _ b4) (hE1.ext _ _ b5) h1 (by omega)
 rw[if_neg h2] at hp
 cases hx:P.lex s with
 | inl i=>
  rw[hx] at hp
  obtain⟨b,rfl,h1,h3⟩:=hp
  exact caughtErr (by rw[P.program,if_neg h2,hx]) (hEA.trans hE1) (hE1.ext _ _ b4) (hE1.ext _ _ b5) h1 (by omega)
 | inr T=>
  rw[hx] at hp
  obtain⟨v,rfl,hown⟩:=hp
  have hlo:=lex_ok hx
  have hTn:0<T.length:=(TWs.of hlo (by omega)).toTW.pos
  obtain⟨htl,hown⟩:=hown
  rcases hown with⟨-,h0⟩| ⟨tb,cap,cur,rfl,ht1,ht2,ht3,ht4,ht5,ht6⟩
  ·omega
  simp (disch:=first|assumption|omega|simp only[zS]<;>omega|decide) only[zb37,simprocAttr]
  have lt1:=ltOf ht2
  obtain⟨wP,hwP⟩:∃ x,x=w1.alloc (.cells #[.slice (some ⟨tb,0,none⟩) T.length cap,.slice none 0 0,zi 0] 160):=⟨_,rfl⟩
  have hEP:Ext w1 wP:=by rw[hwP];(repeat (first | assumption | exact FrM.refl _ _ | (refine FrM.upd ?_ (.inr (by(try simp only[zS])<;>omega))) | refine FrM.alloc ?_ _ | refine FrM.drew ?_))
  have sP:wP.heap.size=w1.heap.size+1:=by rw[hwP];simp
  have bP:wP.heap[w1.heap.size]?=some (.cells #[.slice (some ⟨tb,0,none⟩) T.length cap,.slice none 0 0,zi 0] 160):=by rw[hwP];simp (disch:=first|assumption|omega|simp only[zS]<;>omega|decide) only[zH]
  rw[<- hwP]
  have hEw:Ext w wP:=(hEA.trans hE1).trans hEP
  have hsp:SP wP w1.heap.size tb T 0 [] 0:=SP.fresh hlo (by omega) (hEP.ext _ _ ht2) ht6 ((hT.lev.ext fun b o _=>hEw.ext b o).up (by omega)) lt1 ht3 (by unfold maxLen at ht4;omega) bP
  refine⟨by kernel_rfl,(sProg1 hsp ((hT.cmp.ext fun b o _=>hEw.ext b o).up (by omega))).mono ?_⟩
  have hpr:P.program s=P.progT T:=by rw[P.program,if_neg h2,hx]
  rintro e w3 ⟨hF,hq⟩
  have s3:=hF.size
  have hE3:Ext w1 w3:=⟨hF.os.trans hEP.os,hF.tape.trans hEP.tape,hF.output.trans hEP.output,by omega,fun b o hb _=>hF.block b o (hEP.ext _ _ hb) (by
   have:=ltOf hb
   rintro (h | ⟨h,_⟩)<;>omega)⟩
  have hEw3:Ext w w3:=(hEA.trans hE1).trans hE3
  have q4:=hE3.ext _ _ (hE1.ext _ _ b4)
  have q5:=hE3.ext _ _ (hE1.ext _ _ b5)
  cases hr:P.progT T with
  | err c a=>
   rw[hr] at hq
   obtain⟨b,rfl,h1,h3⟩:=hq
   exact caughtErr (hpr.trans hr) hEw3 q4 q5 h1 (by omega)
  | ok cs k vs'=>
   rw[hr] at hq
   obtain⟨v,vs,rfl,g1,g2⟩:=hq
   obtain⟨sa,sn,sc,rfl⟩:∃ a n c,v = .slice a n c:=by rcases g1 with⟨-,rfl⟩| ⟨b,cs',rfl,-⟩<;>exact⟨_,_,_,rfl⟩
   have l4:=ltOf q4
   have l5:=ltOf q5
   simp (disch:=first|assumption|omega|simp only[zS]<;>omega|decide) only[zb37,simprocAttr,q4,q5]
   refine lvIdle ?_
   obtain⟨wz,hwz⟩:∃ x,x=upd (upd w3 w.heap.size (.cells #[.slice sa sn sc] 95)) (w.heap.size+1) (.cells #[.nilIface] 57):=⟨_,rfl⟩
   have k4:wz.heap[w.heap.size]?=some (.cells #[.slice sa sn sc] 95):=by rw[hwz];simp (disch:=first|assumption|omega|simp only[zS]<;>omega|decide) only[zH]
   have k5:wz.heap[w.heap.size+1]?=some (.cells #[.nilIface] 57):=by rw[hwz];simp (disch:=first|assumption|omega|simp only[zS]<;>omega|decide) only[zH]
   have hz:∀ b o,b≠w.heap.size->b≠w.heap.size+1->w3.heap[b]?=some o->wz.heap[b]?=some o:=fun b o n1 n2 ho=>by
    rw[hwz,hp_upd_other (by omega),hp_upd_other (by omega)];exact ho
   have hEz:Ext w wz:=by rw[hwz];(repeat (first | assumption | exact FrM.refl _ _ | (refine FrM.upd ?_ (.inr (by(try simp only[zS])<;>omega))) | refine FrM.alloc ?_ _ | refine FrM.drew ?_))
   have sz:wz.heap.size=w3.heap.size:=by rw[hwz,size_upd,size_upd]
   rw[<- hwz]
   simp (disch:=first|assumption|omega|simp only[zS]<;>omega|decide) only[zb37,simprocAttr,k4,k5]
   refine⟨hEz,?_⟩
   rw[hpr,hr]
   have hf:∀ b,Nu wP w3 b->Nu w wz b:=fun b hb=>⟨by have:=hb.1;omega,by have:=hb.2;omega⟩
   exact⟨_,vs,rfl,g1.mono hf fun b cs hb ho=>hz b _ (by have:=hb.1;omega) (by have:=hb.1;omega) ho,g2.mono hf (fun b cs t hb _ ho=>hz b _ (by have:=hb.1;omega) (by have:=hb.1;omega) ho)⟩
def zb38:=(zA zG0 @sh_s_Program.eq_1)
theorem sProgram (s:P.Bs) (w:World) (hl:s.length≤100000) (hT:STabs w):Calls Tryz.prog 30 #[.string (bs s)] w (SPostQ w s):=by
 refine sh_s_Program_ok ?_
 refine(sCaughtL s w hl hT).mono ?_
 rintro e w1 ⟨hE,hp⟩
 cases hr:P.program s with
 | err c a=>
  rw[hr] at hp
  obtain⟨b,rfl,h1⟩:=hp
  simp (disch:=first|assumption|omega|simp only[zS]<;>omega|decide) only[zb38,simprocAttr]
  refine⟨hE,?_⟩
  rw[hr]
  exact⟨b,rfl,h1⟩
 | ok cs k vs=>
  rw[hr] at hp
  obtain⟨v,vs,rfl,h1,h2⟩:=hp
  simp (disch:=first|assumption|omega|simp only[zS]<;>omega|decide) only[zb38,simprocAttr]
  refine⟨hE,?_⟩
  rw[hr]
  exact⟨v,vs,rfl,h1,h2⟩
def SPostB(w:World)(s:P.Bs)(e:Ending)(w':World):Prop:=
 Ext w w'/\match P.program s with
 | .err c a=>∃ b,e = .returned (.tuple #[.pointer none,.iface 100 (.pointer (some ⟨b,0,none⟩))])/\w'.heap[b]?=some (.cells #[.int .i64 c,.int .i64 a] 104 (0,0))
 | .ok cs _ _=>∃ b v vs,e = .returned (.tuple #[.pointer (some ⟨b,0,none⟩),.nilIface])/\w'.heap[b]?=some (.cells #[v] 99 (0,0))/\Nu w w' b /\
  IsSl (Nu w w') w' 112 v vs/\IsCls (Nu w w') w' vs cs
def zb39:=(zA zG0 (zA @sh_h_Load.eq_1 (zA @bd_99 (zA @nei0_57 @nei1_57))))
theorem hLoad (s:P.Bs) (w:World) (hl:s.length≤100000) (hT:STabs w):Calls Tryz.prog 13 #[.string (bs s)] w (SPostB w s):=by
 refine sh_h_Load_ok ?_
 refine(sProgram s w hl hT).mono ?_
 rintro e w1 ⟨hE,hp⟩
 have s1:=hE.size
 cases hr:P.program s with
 | err c a=>
  rw[hr] at hp
  obtain⟨b,rfl,h1⟩:=hp
  simp (disch:=first|assumption|omega|simp only[zS]<;>omega|decide) only[zb39,simprocAttr]
  refine⟨hE,?_⟩
  rw[hr]
  exact⟨b,rfl,h1⟩
 | ok cs k vs=>
  rw[hr] at hp
  obtain⟨v,vs,rfl,h1,h2⟩:=hp
  obtain⟨sa,sn,sc,rfl⟩:∃ a n c,v = .slice a n c:=by rcases h1 with⟨-,rfl⟩| ⟨b,cs',rfl,-⟩<;>exact⟨_,_,_,rfl⟩
  simp (disch:=first|assumption|omega|simp only[zS]<;>omega|decide) only[zb39,simprocAttr]
  refine⟨by(repeat (first | assumption | exact FrM.refl _ _ | (refine FrM.upd ?_ (.inr (by(try simp only[zS])<;>omega))) | refine FrM.alloc ?_ _ | refine FrM.drew ?_)),?_⟩
  rw[hr]
  have hX:Ext w1 (w1.alloc (.cells #[.slice sa sn sc] 99)):=by(repeat (first | assumption | exact FrM.refl _ _ | (refine FrM.upd ?_ (.inr (by(try simp only[zS])<;>omega))) | refine FrM.alloc ?_ _ | refine FrM.drew ?_))
  refine⟨_,_,vs,rfl,blk_alloc_new _ _,⟨s1,by simp⟩,h1.mono (fun b hb=>⟨hb.1,by have:=hb.2;simp;omega⟩) fun b cs _ ho=>hX.ext _ _ ho,h2.mono (fun b hb=>⟨hb.1,by have:=hb.2;simp;omega⟩) fun b cs t _ _ ho=>hX.ext _ _ ho⟩
end Go.Proofs.YtilpjhceemaplaaGreatDoor
namespace Go.Proofs.YtilpjhceemaplaaGreatDoor
open Go.RowKit Go.Extern.Stop Go.Stop Go.Extern
theorem Tryz.as_valueOf27(t:Addr)(w:World):(ReflectliteValue.unpack (.iface 102 (.pointer (some t)))).run Tryz.prog w
 = .ok (.agg #[pq 12 102,pp w.heap.size,.int .u64 150]) (w.alloc (.cells #[.pointer (some t)] 102)):=by kernel_rfl
theorem Tryz.as_type27(a:Addr)(w:World):(ReflectliteValue.methodAny (ReflectliteValue.valueError "reflectlite.Value.Type" 0) (fun t _ _ _=>ReflectliteType.toType t) #[.agg #[pq 12 102,.pointer (some a),.int .u64 150]]).run Tryz.prog w
 = .ok (.iface 223 (.agg #[pq 12 102])) w:=by kernel_rfl
theorem Tryz.as_methodKind(h:Value)(w:World):(Go.method 511 223 (.agg #[h]) "Kind").run Tryz.prog w = .ok (236,h) w:=by kernel_rfl
theorem Tryz.as_kind27(w:World):((ReflectliteType.abiMethod fun t=>(fun a:Nat=>Value.int IntKind.u8 (a:Int)) <$> Rtype.kind t) #[pq 12 102]).run Tryz.prog w = .ok (.int .u8 22) w:=by kernel_rfl
theorem Tryz.as_kind25(w:World):((ReflectliteType.abiMethod fun t=>(fun a:Nat=>Value.int IntKind.u8 (a:Int)) <$> Rtype.kind t) #[pq 12 100]).run Tryz.prog w = .ok (.int .u8 22) w:=by kernel_rfl
theorem as_rlm(z:Sem Value)(f:TypeId->Addr->Nat->Nat->Sem Value)(v:Value) :
 ReflectliteValue.method z f #[v]=(do match <- ReflectliteValue.parts v with | none=>z | some (t,a,fl)=>f t a fl (fl % 32)):=rfl
theorem Tryz.as_parts27(a:Addr)(w:World):(ReflectliteValue.parts (.agg #[pq 12 102,.pointer (some a),.int .u64 150])).run Tryz.prog w = .ok (some (102,a,150)) w:=by kernel_rfl
theorem Tryz.as_isNil27(a p:Addr)(W:World)(ha:W.cell? a=some (.pointer (some p))) :
  (ReflectliteValue.method (ReflectliteValue.valueError "reflectlite.Value.IsNil" 0) ReflectliteValue.isNil #[.agg #[pq 12 102,.pointer (some a),.int .u64 150]]).run Tryz.prog W = .ok (.bool false) W:=by
 rw[as_rlm]
 simp only[Sem.run_bind,Tryz.as_parts27,Result.andThen]
 simp [ReflectliteValue.isNil,loadVar,isAgg,underlying,Tryz.underlying102,ha,Result.andThen]
theorem Tryz.as_methodElem(h:Value)(w:World):(Go.method 511 223 (.agg #[h]) "Elem").run Tryz.prog w = .ok (252,.agg #[h]) w:=by kernel_rfl
theorem Tryz.as_methodImplements(h:Value)(w:World):(Go.method 511 223 (.agg #[h]) "Implements").run Tryz.prog w = .ok (253,.agg #[h]) w:=by kernel_rfl
theorem Tryz.as_methodAssignableTo(h:Value)(w:World):(Go.method 511 223 (.agg #[h]) "AssignableTo").run Tryz.prog w = .ok (250,.agg #[h]) w:=by kernel_rfl
theorem Tryz.as_elem27(w:World):(ReflectliteType.method ReflectliteType.elem #[.agg #[pq 12 102]]).run Tryz.prog w = .ok (.iface 223 (.agg #[pq 12 100])) w:=by kernel_rfl
theorem Tryz.as_implements25(w:World):(ReflectliteType.relation "Implements" ReflectliteType.implements_ #[.agg #[pq 12 100],.iface 223 (.agg #[pq 12 57])]).run Tryz.prog w = .ok (.bool true) w:=by kernel_rfl
theorem Tryz.as_typeOf25(v:Value)(w:World):(ReflectliteType.typeOf #[.iface 100 v]).run Tryz.prog w = .ok (.iface 223 (.agg #[pq 12 100])) w:=by kernel_rfl
theorem Tryz.as_assignable25(w:World):(ReflectliteType.relation "AssignableTo" ReflectliteType.assignableTo #[.agg #[pq 12 100],.iface 223 (.agg #[pq 12 100])]).run Tryz.prog w = .ok (.bool true) w:=by kernel_rfl
theorem Tryz.as_valueOf25(e:Addr)(w:World):(ReflectliteValue.unpack (.iface 100 (.pointer (some e)))).run Tryz.prog w
 = .ok (.agg #[pq 12 100,pp w.heap.size,.int .u64 150]) (w.alloc (.cells #[.pointer (some e)] 100)):=by kernel_rfl
theorem Tryz.as_elemOf27(w:World):(Rtype.elem? 102).run Tryz.prog w = .ok (some 100) w:=by kernel_rfl
theorem Tryz.as_mk25(p:Addr)(w:World):(ReflectliteValue.mk 100 p ReflectliteValue.flagAddr).run Tryz.prog w = .ok (.agg #[pq 12 100,.pointer (some p),.int .u64 406]) w:=by kernel_rfl
theorem Tryz.as_elemV27(a p:Addr)(W:World)(ha:W.cell? a=some (.pointer (some p))) :
  (ReflectliteValue.method (ReflectliteValue.valueError "reflectlite.Value.Elem" 0) ReflectliteValue.elem #[.agg #[pq 12 102,.pointer (some a),.int .u64 150]]).run Tryz.prog W
   = .ok (.agg #[pq 12 100,.pointer (some p),.int .u64 406]) W:=by
 rw[as_rlm]
 simp only[Sem.run_bind,Tryz.as_parts27,Result.andThen]
 simp [ReflectliteValue.elem,loadVar,isAgg,underlying,Tryz.underlying102,ha,Result.andThen,Tryz.as_elemOf27,Tryz.as_mk25]
theorem as_rls(v x:Value):ReflectliteValue.set #[v,x]=(do
 let (some (dst,a,fl),some (src,b,_)):=(<- ReflectliteValue.parts v,<- ReflectliteValue.parts x)
  | unsupported (.noEntry "extern/(internal/reflectlite.Value).Set.zeroValue")
 if fl / ReflectliteValue.flagAddr % 2 == 0 then unsupported (.noEntry "extern/(internal/reflectlite.Value).Set.unaddressable")
 let val <- loadVar src b
 if <- Rtype.directlyAssignable dst src then storeVar dst a val
 else if <- Rtype.implements dst src then
  if (<- Rtype.kind src) == 20 then
   match val with
   | .nilIface=>unsupported (.noEntry "extern/reflectlite: a nil value of one interface type handed on as a value of another")
   | _=>storeVar dst a val
  else storeVar dst a (.iface src val)
 else panicString ("reflectlite.Set: value of type "++(<- Rtype.spelt src)++ " is not assignable to type "++(<- Rtype.spelt dst))
 pure (.tuple #[])):=rfl
theorem Tryz.as_parts25a(a:Addr)(w:World):(ReflectliteValue.parts (.agg #[pq 12 100,.pointer (some a),.int .u64 406])).run Tryz.prog w = .ok (some (100,a,406)) w:=by kernel_rfl
theorem Tryz.as_parts25(a:Addr)(w:World):(ReflectliteValue.parts (.agg #[pq 12 100,.pointer (some a),.int .u64 150])).run Tryz.prog w = .ok (some (100,a,150)) w:=by kernel_rfl
theorem Tryz.as_direct25(w:World):(Rtype.directlyAssignable 100 100).run Tryz.prog w = .ok true w:=by kernel_rfl
theorem Tryz.as_set25(ta b e:Addr)(old:Value)(W:World)(hb:W.cell? b=some (.pointer (some e)))(ht:W.cell? ta=some old)(hf:W.frozen? ta=false) :
  (ReflectliteValue.set #[.agg #[pq 12 100,.pointer (some ta),.int .u64 406],.agg #[pq 12 100,.pointer (some b),.int .u64 150]]).run Tryz.prog W
   = .ok (.tuple #[]) (W.setCell ta (.pointer (some e))):=by
 rw[as_rls]
 simp only[Sem.run_bind,Tryz.as_parts25a,Tryz.as_parts25,Result.andThen]
 simp [ReflectliteValue.flagAddr,loadVar,isAgg,underlying,Tryz.underlying100,hb,Result.andThen,Tryz.as_direct25,storeVar,Value.cells,storeCells,Addr.add]
 rw[run_store Tryz.prog W ta _ _ (by rfl)]
 simp [ht,hf]
theorem as_hit(e t:Addr)(old:Value)(w:World)(hg:w.cell? ⟨0,0,none⟩=some (.iface 223 (.agg #[pq 12 57])))(ht0:w.cell? t=some old)(hf0:w.frozen? t=false) :
  Calls Tryz.prog 31 #[.iface 100 (.pointer (some e)),.iface 102 (.pointer (some t))] w fun ev w'=>ev = .returned (.bool true)/\w'=((((w.alloc (.cells #[.pointer (some t)] 102)).alloc (.cells #[pq 12 102,pp w.heap.size,.int .u64 150] 170)).alloc (.cells #[pq 12 102,pp w.heap.size,.int .u64 150] 170)).alloc (.cells #[.pointer (some e)] 100)).setCell t (.pointer (some e)):=by
 have h6:=@run_callFunc_extern Tryz.prog 60 _ (fun args=>ReflectliteValue.unpack (args.getD 0 (.tuple #[]))) Tryz.func60 (by kernel_rfl) (by kernel_rfl) (by kernel_rfl) (by kernel_rfl)
 have h7:=@run_callFunc_extern Tryz.prog 61 _ (ReflectliteValue.methodAny (ReflectliteValue.valueError "reflectlite.Value.Type" 0) (fun t _ _ _=>ReflectliteType.toType t)) Tryz.func61 (by kernel_rfl) (by kernel_rfl) (by kernel_rfl) (by kernel_rfl)
 have h8:=@run_callFunc_extern Tryz.prog 62 _ (ReflectliteValue.method (ReflectliteValue.valueError "reflectlite.Value.IsNil" 0) ReflectliteValue.isNil) Tryz.func62 (by kernel_rfl) (by kernel_rfl) (by kernel_rfl) (by kernel_rfl)
 have h27:=@run_callFunc_extern Tryz.prog 236 _ (ReflectliteType.abiMethod fun t=>do pure (.int .u8 (<- Rtype.kind t))) Tryz.func236 (by kernel_rfl) (by kernel_rfl) (by kernel_rfl) (by kernel_rfl)
 have h37:=@run_callFunc_extern Tryz.prog 252 _ (ReflectliteType.method ReflectliteType.elem) Tryz.func252 (by kernel_rfl) (by kernel_rfl) (by kernel_rfl) (by kernel_rfl)
 have h38:=@run_callFunc_extern Tryz.prog 253 _ (ReflectliteType.relation "Implements" ReflectliteType.implements_) Tryz.func253 (by kernel_rfl) (by kernel_rfl) (by kernel_rfl) (by kernel_rfl)
 have h10:=@run_callFunc_extern Tryz.prog 96 _ ReflectliteType.typeOf Tryz.func96 (by kernel_rfl) (by kernel_rfl) (by kernel_rfl) (by kernel_rfl)
 have h35:=@run_callFunc_extern Tryz.prog 250 _ (ReflectliteType.relation "AssignableTo" ReflectliteType.assignableTo) Tryz.func250 (by kernel_rfl) (by kernel_rfl) (by kernel_rfl) (by kernel_rfl)
 have h11:=@run_callFunc_extern Tryz.prog 97 _ (ReflectliteValue.method (ReflectliteValue.valueError "reflectlite.Value.Elem" 0) ReflectliteValue.elem) Tryz.func97 (by kernel_rfl) (by kernel_rfl) (by kernel_rfl) (by kernel_rfl)
 have h12:=@run_callFunc_extern Tryz.prog 98 _ ReflectliteValue.set Tryz.func98 (by kernel_rfl) (by kernel_rfl) (by kernel_rfl) (by kernel_rfl)
 have tO:=Tryz.as_typeOf25
 have mA:=Tryz.as_methodAssignableTo
 have a25:=Tryz.as_assignable25
 have v25:=Tryz.as_valueOf25
 have f6:=Tryz.as_valueOf27
 have f7:=Tryz.as_type27
 have mK:=Tryz.as_methodKind
 have mE:=Tryz.as_methodElem
 have mI:=Tryz.as_methodImplements
 have k27:=Tryz.as_kind27
 have k25:=Tryz.as_kind25
 have e27:=Tryz.as_elem27
 have i25:=Tryz.as_implements25
 have n8:=Tryz.as_isNil27 ⟨w.heap.size,0,none⟩ t ((w.alloc (.cells #[.pointer (some t)] 102)).alloc (.cells #[pq 12 102,pp w.heap.size,.int .u64 150] 170)) (by simp)
 have hlt:0<w.heap.size:=by
  rcases Nat.eq_zero_or_pos w.heap.size with h0 | h
  ·simp [World.cell?,h0] at hg
  ·exact h
 have hg2:((w.alloc (.cells #[.pointer (some t)] 102)).alloc (.cells #[pq 12 102,pp w.heap.size,.int .u64 150] 170)).cell? ⟨0,0,none⟩=some (.iface 223 (.agg #[pq 12 57])):=by
  rw[World.cell?_alloc_lt _ _ ⟨0,0,none⟩ (by simp),World.cell?_alloc_lt _ _ ⟨0,0,none⟩ hlt];exact hg
 have htl:t.block<w.heap.size:=by
  rcases Nat.lt_or_ge t.block w.heap.size with h | h
  ·exact h
  ·simp [World.cell?,Array.getElem?_eq_none h] at ht0
 have el:=Tryz.as_elemV27 ⟨w.heap.size,0,none⟩ t (((w.alloc (.cells #[.pointer (some t)] 102)).alloc (.cells #[pq 12 102,pp w.heap.size,.int .u64 150] 170)).alloc (.cells #[pq 12 102,pp w.heap.size,.int .u64 150] 170)) (by rw[World.cell?_alloc_lt _ _ ⟨w.heap.size,0,none⟩ (by simp;omega)];simp)
 have st:=Tryz.as_set25 t ⟨w.heap.size+1+1+1,0,none⟩ e old ((((w.alloc (.cells #[.pointer (some t)] 102)).alloc (.cells #[pq 12 102,pp w.heap.size,.int .u64 150] 170)).alloc (.cells #[pq 12 102,pp w.heap.size,.int .u64 150] 170)).alloc (.cells #[.pointer (some e)] 100))
  (by rw[World.cell?_alloc_at _ _ _ _ (by simp)];rfl)
  (by rw[World.cell?_alloc_lt _ _ t (by simp;omega),World.cell?_alloc_lt _ _ t (by simp;omega),World.cell?_alloc_lt _ _ t (by simp;omega),World.cell?_alloc_lt _ _ t htl];exact ht0)
  (by rw[World.frozen?_alloc_old _ _ t (by simp;omega),World.frozen?_alloc_old _ _ t (by simp;omega),World.frozen?_alloc_old _ _ t (by simp;omega),World.frozen?_alloc_old _ _ t (Nat.ne_of_lt htl)];exact hf0)
 go_enter Tryz.func31,Tryz.ntmps31
 go_wp2
 refine wp_loop_rounds 1 ?_
 rw[rounds_succ]
 go_wp2
 go_ret
 exact⟨rfl,rfl⟩
end Go.Proofs.YtilpjhceemaplaaGreatDoor
namespace Go.Proofs.YtilpjhceemaplaaGreatDoor
open Go.RowKit Sx
def zb40:=(zA zG0 (zA @sh_a_Tell.eq_1 (zA @al_100 (zA @al_32 (zA @eqi0_57 (zA @eqi1_57 (zA @fa_104_0 (zA @fa_104_1 (zA @ld_100 (zA @ld_3 (zA @ld_32 (zA @mi_102 @mi_105))))))))))))
theorem aTellNil (w:World):Calls Tryz.prog 14 #[.nilIface] w fun e w'=>Ext w w'/\e = .returned (.tuple #[zi 0,zi (-1)]):=by
 refine sh_a_Tell_ok ?_
 simp (disch:=first|assumption|omega|simp only[zS]<;>omega|decide) only[zb40,simprocAttr]
 exact(by(repeat (first | assumption | exact FrM.refl _ _ | (refine FrM.upd ?_ (.inr (by(try simp only[zS])<;>omega))) | refine FrM.alloc ?_ _ | refine FrM.drew ?_)))
def TabE(w:World):Prop:=w.cell? ⟨0,0,none⟩=some (.iface 223 (.agg #[pq 12 57]))
theorem TabE.ext{w w':World}(h:TabE w)(hE:Ext w w'):TabE w':=cellKeep h fun o ho=>hE.ext _ o ho
theorem aTellAt(b:Nat)(c a:Int)(w:World)(hb:w.heap[b]?=some (.cells #[zi c,zi a] 104))(hT:TabE w) :
  Calls Tryz.prog 14 #[.iface 100 (pp b)] w fun e w'=>Ext w w'/\e = .returned (.tuple #[zi c,zi a]):=by
 refine sh_a_Tell_ok ?_
 simp (disch:=first|assumption|omega|simp only[zS]<;>omega|decide) only[zb40,simprocAttr]
 obtain⟨wA,hwA⟩:∃ x,x=(w.alloc (.cells #[.pointer none] 100)).alloc (.cells #[zi 0] 32):=⟨_,rfl⟩
 have hEA:Ext w wA:=by rw[hwA];(repeat (first | assumption | exact FrM.refl _ _ | (refine FrM.upd ?_ (.inr (by(try simp only[zS])<;>omega))) | refine FrM.alloc ?_ _ | refine FrM.drew ?_))
 have q0:wA.heap[w.heap.size]?=some (.cells #[.pointer none] 100):=by rw[hwA];simp (disch:=first|assumption|omega|simp only[zS]<;>omega|decide) only[zH]
 rw[<- hwA]
 refine(as_hit ⟨b,0,none⟩ ⟨w.heap.size,0,none⟩ _ wA (hT.ext hEA) (by simp [World.cell?,q0];rfl) (freeOf q0 0)).mono ?_
 rintro e w3 ⟨rfl,hw3⟩
 obtain⟨wB,hwB⟩:∃ x,x=(((wA.alloc (.cells #[pp w.heap.size] 102)).alloc (.cells #[pq 12 102,pp wA.heap.size,.int .u64 150] 170)).alloc (.cells #[pq 12 102,pp wA.heap.size,.int .u64 150] 170)).alloc (.cells #[pp b] 100):=⟨_,rfl⟩
 rw[<- hwB] at hw3
 have hEB:Ext wA wB:=by rw[hwB];(repeat (first | assumption | exact FrM.refl _ _ | (refine FrM.upd ?_ (.inr (by(try simp only[zS])<;>omega))) | refine FrM.alloc ?_ _ | refine FrM.drew ?_))
 have qB:=hEB.ext _ _ q0
 rw[upd_setCell qB] at hw3
 have hE3:Ext w w3:=by
  rw[hw3]
  exact FrM.upd (hEA.trans hEB) (.inr (Nat.le_refl _))
 have q3:w3.heap[w.heap.size]?=some (.cells #[pp b] 100):=by
  rw[hw3]
  exact hp_upd_same rfl (ltOf qB)
 have q4:=hE3.ext _ _ hb
 simp (disch:=first|assumption|omega|simp only[zS]<;>omega|decide) only[zb40,simprocAttr,q3,q4]
 exact hE3.drew
def SPostT(w:World)(s:P.Bs)(e:Ending)(w':World):Prop:=
 Ext w w'/\match P.program s with
 | .err c a=>e = .returned (.tuple #[.pointer none,.int .i64 c,.int .i64 a])
 | .ok cs _ _=>∃ b v vs,e = .returned (.tuple #[.pointer (some ⟨b,0,none⟩),.int .i64 0,.int .i64 (-1)])/\w'.heap[b]?=some (.cells #[v] 99 (0,0))/\Nu w w' b /\
  IsSl (Nu w w') w' 112 v vs/\IsCls (Nu w w') w' vs cs
def zb41:=(zA zG0 @sh_p_Load.eq_1)
theorem pLoad (s:P.Bs) (w:World) (hl:s.length≤100000) (hT:STabs w) (hE0:TabE w):Calls Tryz.prog 6 #[.string (bs s)] w (SPostT w s):=by
 refine sh_p_Load_ok ?_
 refine(hLoad s w hl hT).mono ?_
 rintro e w1 ⟨hE,hp⟩
 cases hr:P.program s with
 | err c a=>
  rw[hr] at hp
  obtain⟨b,rfl,h1⟩:=hp
  simp (disch:=first|assumption|omega|simp only[zS]<;>omega|decide) only[zb41,simprocAttr]
  refine(aTellAt b c a w1 h1 (hE0.ext hE)).mono ?_
  rintro e w2 ⟨hE2,rfl⟩
  simp (disch:=first|assumption|omega|simp only[zS]<;>omega|decide) only[zb41,simprocAttr]
  refine⟨hE.trans hE2,?_⟩
  rw[hr]
 | ok cs k vs=>
  rw[hr] at hp
  obtain⟨b,v,vs,rfl,h1,h2,h3,h4⟩:=hp
  simp (disch:=first|assumption|omega|simp only[zS]<;>omega|decide) only[zb41,simprocAttr]
  refine(aTellNil w1).mono ?_
  rintro e w2 ⟨hE2,rfl⟩
  have s2:=hE2.size
  simp (disch:=first|assumption|omega|simp only[zS]<;>omega|decide) only[zb41,simprocAttr]
  refine⟨hE.trans hE2,?_⟩
  rw[hr]
  have hf:∀ b,Nu w w1 b->Nu w w2 b:=fun b hb=>⟨hb.1,by have:=hb.2;omega⟩
  exact⟨b,v,vs,rfl,hE2.ext _ _ h1,hf _ h2,h3.mono hf fun b cs _ ho=>hE2.ext _ _ ho,h4.mono hf fun b cs t _ _ ho=>hE2.ext _ _ ho⟩
theorem IsRcs.at{F:Nat->Prop}{w:World}:∀ {xs:List P.Cl} {vs:List Value} (j:Nat) (hj:j<xs.length),IsRcs F w vs xs->IsRc F w ((vs.drop (7*j)).take 7) xs[j]
 | x::xs,vs,0,_,h=>by
  obtain⟨l,r,rfl,h1,h2,h3⟩:=h
  have:((l++r).drop (7*0)).take 7=l:=by simp [<- h1]
  rw[this]
  exact h2
 | x::xs,vs,j+1,hj,h=>by
  obtain⟨l,r,rfl,h1,h2,h3⟩:=h
  have:=IsRcs.at (w:=w) (F:=F) j (by simpa using hj) h3
  have e1:((l++r).drop (7*(j+1)))=r.drop (7*j):=by
   rw[show 7*(j+1)=l.length+7*j by omega,<- List.drop_drop]
   simp
  rw[e1]
  exact this
def LPost(w:World)(s:P.Bs)(e:Ending)(w':World):Prop:=
 Ext w w'/\match P.program s with
 | .err _ _=>e = .returned (.tuple #[.agg #[.pointer none,.slice none 0 0,.bool false],.bool true])
 | .ok cs _ _=>∃ b v vs rv xs hv,e = .returned (.tuple #[.agg #[.pointer (some ⟨b,0,none⟩),rv,.bool hv],.bool true])/\w'.heap[b]?=some (.cells #[v] 99 (0,0))/\Nu w w' b /\
  IsSl (Nu w w') w' 112 v vs/\IsCls (Nu w w') w' vs cs/\w'.ownsRow w.heap.size 43 7 rv cs.length xs/\IsRcs (Nu w w') w' xs cs
def zb42:=(zA zG0 (zA @sh_l_loaded.eq_1 (zA @al_25 (zA @bd_25 (zA @eqp_22 (zA @fa_25_2 (zA @ix_23 (zA @ld_25 (zA @ld_4 (zA @ld_43 (zA @ln_23 (zA @nep_22 (zA @st_25 @st_4)))))))))))))
theorem lLoaded (s:P.Bs) (w:World) (hl:s.length≤100000) (hT:STabs w) (hE0:TabE w):Calls Tryz.prog 4 #[.string (bs s)] w (LPost w s):=by
 refine sh_l_loaded_ok ?_
 simp (disch:=first|assumption|omega|simp only[zS]<;>omega|decide) only[zb42,simprocAttr]
 obtain⟨wA,hwA⟩:∃ x,x=w.alloc (.cells #[.pointer none,.slice none 0 0,.bool false] 25):=⟨_,rfl⟩
 have sA:wA.heap.size=w.heap.size+1:=by rw[hwA];simp
 have hEA:Ext w wA:=by rw[hwA];(repeat (first | assumption | exact FrM.refl _ _ | (refine FrM.upd ?_ (.inr (by(try simp only[zS])<;>omega))) | refine FrM.alloc ?_ _ | refine FrM.drew ?_))
 have q0:wA.heap[w.heap.size]?=some (.cells #[.pointer none,.slice none 0 0,.bool false] 25):=by rw[hwA];simp (disch:=first|assumption|omega|simp only[zS]<;>omega|decide) only[zH]
 rw[<- hwA]
 refine(pLoad s wA hl (hT.ext hEA) (hE0.ext hEA)).mono ?_
 rintro e w1 ⟨hE1,hp⟩
 have s1:=hE1.size
 cases hr:P.program s with
 | err c a=>
  rw[hr] at hp
  subst hp
  simp (disch:=first|assumption|omega|simp only[zS]<;>omega|decide) only[zb42,simprocAttr]
  refine(rProgram s w1 hl).mono ?_
  rintro e w2 ⟨hE2,hq⟩
  have s2:=hE2.size
  rw[hr] at hq
  obtain⟨hc,rfl⟩:=hq
  have q2:=hE2.ext _ _ (hE1.ext _ _ q0)
  have l2:=ltOf q2
  simp (disch:=first|assumption|omega|simp only[zS]<;>omega|decide) only[zb42,simprocAttr,q2]
  refine⟨FrM.upd (FrM.trans (hEA.trans hE1) hE2) (.inr (Nat.le_refl _)),?_⟩
  rw[hr]
 | ok cs k vs'=>
  rw[hr] at hp
  obtain⟨b,v,vs,rfl,g1,g2,g3,g4⟩:=hp
  simp (disch:=first|assumption|omega|simp only[zS]<;>omega|decide) only[zb42,simprocAttr]
  refine(rProgram s w1 hl).mono ?_
  rintro e w2 ⟨hE2,hq⟩
  have s2:=hE2.size
  rw[hr] at hq
  obtain⟨rv,rfl,xs,o1,o2⟩:=hq
  have q2:=hE2.ext _ _ (hE1.ext _ _ q0)
  have l2:=ltOf q2
  obtain⟨ra,rc,hrv⟩:=own_slice o1
  subst hrv
  simp (disch:=first|assumption|omega|simp only[zS]<;>omega|decide) only[zb42,simprocAttr,q2]
  have hE02:Ext w w2:=(hEA.trans hE1).trans hE2
  refine⟨fun n t w''=>Ext w2 w''/\(∃ hv,w''.heap[w2.heap.size]?=some (.cells #[pp b,.slice ra cs.length rc,.bool hv] 25)) /\
   ∃ i,n=cs.length-i/\i≤cs.length/\t 11=zi ((i:Nat):Int),⟨_,by(repeat (first | assumption | exact FrM.refl _ _ | (refine FrM.upd ?_ (.inr (by(try simp only[zS])<;>omega))) | refine FrM.alloc ?_ _ | refine FrM.drew ?_)),⟨false,by simp (disch:=first|assumption|omega|simp only[zS]<;>omega|decide) only[zH]⟩,0,rfl,Nat.zero_le _,rfl⟩,?_⟩
  intro n t dd w3 hI
  refine toPr ?_
  obtain⟨hE3,⟨hv,q3⟩,i,rfl,hi,h11⟩:=hI
  have l3:=ltOf q3
  have hE03:Ext w w3:=hE02.trans hE3
  have q23:=hE3.ext _ _ q2
  by_cases hlt:i<cs.length
  ·have hcl:=(IsRcs.at i hlt o2).mono (F':=fun _=>True) (fun _ _=>trivial) (keepsExt hE3) (keepsExt hE3)
   have o1':=o1
   obtain⟨xl,o1'⟩:=o1'
   rcases o1' with⟨-,h0⟩| ⟨tb,cap,cur,hvv,ht1,ht2,ht3,ht4,ht5,ht6⟩
   ·omega
   obtain⟨rfl,rfl⟩:ra=some ⟨tb,0,none⟩/\rc=cap:=by simpa using hvv
   have ht23:=hE3.ext _ _ ht2
   have hn63:cs.length≤9223372036854775807:=by unfold maxLen at ht4;omega
   have e7:List.take 7 (List.drop (i*7) cur.toList)=List.take 7 (List.drop (7*i) xs):=by
    rw[<- ht6,List.drop_take,List.take_take,Nat.min_eq_left (by omega),Nat.mul_comm i 7]
   simp (disch:=first|assumption|omega|simp only[zS]<;>omega|decide) only[zb42,simprocAttr,h11]
   refine⟨fun s' w'=>Ext w2 w'/\∃ hv,w'.heap[w2.heap.size]?=some (.cells #[pp b,.slice (some ⟨tb,0,none⟩) cs.length rc,.bool hv] 25),?_,?_⟩
   ·simp (disch:=first|assumption|omega|simp only[zS]<;>omega|decide) only[zb42,simprocAttr,h11,ht23]
    rw[e7]
    refine(rClauseSize _ _ w3 _ hcl).mono ?_
    rintro e w4 ⟨hE4,z,rfl⟩
    have q4:=hE4.ext _ _ q3
    have l4:=ltOf q4
    cases hv<;>simp (disch:=first|assumption|omega|simp only[zS]<;>omega|decide) only[zb42,simprocAttr,q4]
    ·exact⟨FrM.upd (hE3.trans hE4) (.inr (Nat.le_refl _)),_,rfl⟩
    ·exact⟨FrM.upd (hE3.trans hE4) (.inr (Nat.le_refl _)),_,rfl⟩
   ·rintro s' w' ⟨hE4,hv',q4⟩ d
    simp (disch:=first|assumption|omega|simp only[zS]<;>omega|decide) only[zb42,simprocAttr,h11]
    exact⟨_,by omega,hE4,⟨hv',q4⟩,i+1,rfl,by omega,by simp⟩
  ·simp (disch:=first|assumption|omega|simp only[zS]<;>omega|decide) only[zb42,simprocAttr,h11,q3,q23]
   have hz:∀ (x:Nat) o o',x≠w.heap.size->w3.heap[x]?=some o->(upd w3 w.heap.size o').heap[x]?=some o:=fun x o o' n1 ho=>by
    rw[hp_upd_other (by omega)];exact ho
   have hsz:∀ o',(upd w3 w.heap.size o').heap.size=w3.heap.size:=fun o'=>size_upd _ _ _
   refine⟨FrM.upd hE03 (.inr (Nat.le_refl _)),?_⟩
   rw[hr]
   have hE13:=hE2.trans hE3
   have hf1:∀ o' x,Nu wA w1 x->Nu w (upd w3 w.heap.size o') x:=fun o' x hx=>⟨by have:=hx.1;omega,by have:=hx.2;rw[hsz];omega⟩
   refine⟨b,v,vs,_,xs,hv,rfl,hz _ _ _ (by have:=g2.1;omega) (hE13.ext _ _ g1),hf1 _ _ g2,g3.mono (hf1 _) fun x c hx ho=>hz _ _ _ (by have:=hx.1;omega) (hE13.ext _ _ ho),
    g4.mono (hf1 _) fun x c t hx _ ho=>hz _ _ _ (by have:=hx.1;omega) (hE13.ext _ _ ho),?_,o2.mono (fun x hx=>⟨by have:=hx.1;omega,by have:=hx.2.1;rw[hsz];omega⟩) (fun x c hx ho=>hz _ _ _ (by have:=hx.1;omega) (hE3.ext _ _ ho)) (fun x c hx ho=>hz _ _ _ (by have:=hx.1;omega) (hE3.ext _ _ ho))⟩
   obtain⟨xl,h | ⟨tb,cap,cur,hvv,ht1,ht2,ht3,ht4,ht5,ht6⟩⟩:=o1
   ·exact⟨xl,.inl h⟩
   ·exact⟨xl,.inr ⟨tb,cap,cur,hvv,by omega,hz _ _ _ (by omega) (hE3.ext _ _ ht2),ht3,ht4,ht5,ht6⟩⟩
end Go.Proofs.YtilpjhceemaplaaGreatDoor
namespace Go.Proofs.YtilpjhceemaplaaGreatDoor
theorem P.program_a:∃ k vs,P.program [97,46] = .ok [⟨[97],[],P.trueB,[]⟩] k vs:=⟨_,_,by rfl⟩
end Go.Proofs.YtilpjhceemaplaaGreatDoor
namespace Go.Proofs.YtilpjhceemaplaaGreatDoor
open Go.RowKit Sx
theorem sCatchIdleC(v4 v5:Value)(w:World):CallsD Tryz.prog 100 #[v4,v5] .returning w fun e u' w'=>e = .returned (.tuple #[])/\u' = .returning/\w'=w:=by
 refine callsD_of_wpS Tryz.func100 rfl fun c₀ cs hu=>?_
 apply wpS_seq
 apply wpS_region
 simp [wpOpsS,go_sem,recoverD,hu,Tryz.ntmps100,Exit.thenS,Tryz.taNil]
 apply wpS_seq
 apply wpS_region
 simp [wpOpsS,go_sem,recoverD,hu,Tryz.ntmps100,Exit.thenS]
 refine wpS_cond (t:=false) (by simp [Act.eval]) ?_
 simp only[Bool.false_eq_true,if_false]
 refine wpS_of_wp (wp_skip ?_)
 cases c₀
 simp_all [bodyPostS,results,Tryz.results100]
theorem sCatchAtC(b4 b5:Nat)(o4 o5:Value)(v:Value)(older:List PanicEntry)(w:World)(h4:w.cell? ⟨b4,0,none⟩=some o4)(z4:w.frozen? ⟨b4,0,none⟩=false)
  (h5:(w.setCell ⟨b4,0,none⟩ (.pointer none)).cell? ⟨b5,0,none⟩=some o5) (z5:(w.setCell ⟨b4,0,none⟩ (.pointer none)).frozen? ⟨b5,0,none⟩=false) :
  CallsD Tryz.prog 100 #[pp b4,pp b5] (.panicking ({ v:=.iface 100 v,recovered:=false }::older)) w fun e u' w'=>
   e = .returned (.tuple #[])/\u' = .panicking ({ v:=.iface 100 v,recovered:=true }::older)/\w'=(w.setCell ⟨b4,0,none⟩ (.pointer none)).setCell ⟨b5,0,none⟩ (.iface 100 v):=by
 refine callsD_of_wpS Tryz.func100 rfl fun c₀ cs hu=>?_
 apply wpS_seq
 apply wpS_region
 simp [wpOpsS,go_sem,recoverD,hu,Tryz.ntmps100,Exit.thenS,Tryz.taAt]
 apply wpS_seq
 apply wpS_region
 simp [wpOpsS,go_sem,recoverD,hu,Tryz.ntmps100,Exit.thenS]
 refine wpS_cond (t:=true) (by simp [Act.eval]) ?_
 simp only[if_true]
 apply wpS_seq
 apply wpS_region
 simp [wpOpsS,go_sem,recoverD,hu,Tryz.ntmps100,Exit.thenS]
 apply wpS_region
 simp [wpOpsS,go_sem,recoverD,hu,Tryz.ntmps100,Exit.thenS,h4,z4,h5,z5]
 simp [bodyPostS,results,Tryz.results100]
theorem lvIdleC{res:World->Prop}{R:Ending->World->Prop}{v4 v5:Value}{w:World}(h:res w) :
  LV Tryz.prog res R [{ target:=.fn (.func 100) #[v4,v5],args:=#[]++#[] }] .returning w:=by
 refine lv_call (by kernel_rfl) (by simp) ((sCatchIdleC v4 v5 w).mono ?_)
 rintro e u' w' ⟨rfl,rfl,rfl⟩
 exact h
theorem lvCatchC{res:World->Prop}{R:Ending->World->Prop}{b4 b5:Nat}{o4 o5 v:Value}{w:World}(h4:w.heap[b4]?=some (.cells #[o4] 112))
  (h5:w.heap[b5]?=some (.cells #[o5] 57)) (hne:b4≠b5)
  (h:res (upd (upd w b4 (.cells #[.pointer none] 112)) b5 (.cells #[.iface 100 v] 57))) :
  LV Tryz.prog res R [{ target:=.fn (.func 100) #[pp b4,pp b5],args:=#[]++#[] }]
   (.panicking [{ v:=.iface 100 v,recovered:=false }]) w:=by
 have e1:w.setCell ⟨b4,0,none⟩ (.pointer none)=upd w b4 (.cells #[.pointer none] 112):=upd_setCell h4 _
 have h5':(upd w b4 (.cells #[.pointer none] 112)).heap[b5]?=some (.cells #[o5] 57):=by
  rw[hp_upd_other (by omega)];exact h5
 refine lv_call (by kernel_rfl) (by simp) ((sCatchAtC b4 b5 o4 o5 v [] w (by simp [World.cell?,h4]) (freeOf h4 0) (by rw[e1];simp [World.cell?,h5']) (by rw[e1];exact freeOf h5' 0)).mono ?_)
 rintro e u' w' ⟨rfl,rfl,rfl⟩
 rw[e1,upd_setCell h5']
 exact h
def P.ofText{α:Type}(g:List P.Tok->P.Res α)(s:P.Bs):P.Res α:=if 2000<s.length then .err 1 0 else match P.lex s with
 | .inl i=>.err 2 i
 | .inr T=>g T
def SPostC{α:Type}(I:(Nat->Prop)->World->Nat->α->List P.Bs->Prop)(pb:Nat)(w:World)(r:P.Res α)(e:Ending)(w':World):Prop:=
 SFr pb w w'/\match r with
 | .err c a=>faulted c a w w' e
 | .ok x _ vs=>∃ b,e = .returned (.pointer (some ⟨b,0,none⟩))/\I (Nu w w') w' b x vs
def SPostK{α:Type}(I:(Nat->Prop)->World->Nat->α->List P.Bs->Prop)(w:World)(r:P.Res α)(e:Ending)(w':World):Prop:=
 Ext w w'/\match r with
 | .err c a=>∃ b,e = .returned (.tuple #[.pointer none,.iface 100 (.pointer (some ⟨b,0,none⟩))])/\w'.heap[b]?=some (.cells #[.int .i64 c,.int .i64 a] 104 (0,0))
 | .ok x _ vs=>∃ b,e = .returned (.tuple #[.pointer (some ⟨b,0,none⟩),.nilIface])/\I (Nu w w') w' b x vs
def zb43:=(zA zG0 (zA @sh_s_caught_Ps_Clause.eq_1 (zA @al_112 (zA @al_57 (zA @bd_160 (zA @ld_112 (zA @ld_57 (zA @st_112 @st_57))))))))
theorem caughtErrC {α:Type} {I:(Nat->Prop)->World->Nat->α->List P.Bs->Prop} {r:P.Res α} {w wz:World} {c a b:Nat} {o4 o5:Value} (hpr:r = .err c a) (hE:Ext w wz) (q4:wz.heap[w.heap.size]?=some (.cells #[o4] 112))
  (q5:wz.heap[w.heap.size+1]?=some (.cells #[o5] 57)) (h1:wz.heap[b]?=some (.cells #[zi c,zi a] 104)) (hb:w.heap.size+2≤b) :
  LV Tryz.prog (fun wz=>RD Tryz.prog (Instr.loadAt 112 (pp w.heap.size)) wz (fun r1=>RD Tryz.prog (Instr.loadAt 57 (pp (w.heap.size+1))) wz
    (fun r2=>SPostK I w r (.returned (.tuple #[r1,r2])) wz) NX) NX) (SPostK I w r)
   [{ target:=.fn (.func 100) #[pp w.heap.size,pp (w.heap.size+1)],args:=#[]++#[] }]
   (.panicking [{ v:=.iface 100 (pp b),recovered:=false }]) wz:=by
 subst hpr
 refine lvCatchC q4 q5 (by omega) ?_
 have l4:=ltOf q4
 have l5:=ltOf q5
 have k4:(upd (upd wz w.heap.size (.cells #[.pointer none] 112)) (w.heap.size+1) (.cells #[.iface 100 (pp b)] 57)).heap[w.heap.size]?=some (.cells #[.pointer none] 112):=by
  simp (disch:=first|assumption|omega|simp only[zS]<;>omega|decide) only[zH]
 have k5:(upd (upd wz w.heap.size (.cells #[.pointer none] 112)) (w.heap.size+1) (.cells #[.iface 100 (pp b)] 57)).heap[w.heap.size+1]?=some (.cells #[.iface 100 (pp b)] 57):=by
  simp (disch:=first|assumption|omega|simp only[zS]<;>omega|decide) only[zH]
 simp (disch:=first|assumption|omega|simp only[zS]<;>omega|decide) only[zb43,simprocAttr,k4,k5]
 refine⟨by(repeat (first | assumption | exact FrM.refl _ _ | (refine FrM.upd ?_ (.inr (by(try simp only[zS])<;>omega))) | refine FrM.alloc ?_ _ | refine FrM.drew ?_)),b,rfl,?_⟩
 rw[hp_upd_other (by omega),hp_upd_other (by omega)]
 exact h1
structure STabs2(w:World):Prop where
 lev:STab w w.heap.size
 sig:STabS w
theorem STabs.two{w:World}(h:STabs w):STabs2 w:=⟨h.lev,h.sig⟩
theorem sCaughtC{α:Type}{I:(Nat->Prop)->World->Nat->α->List P.Bs->Prop}
  (hI:∀ (F F':Nat->Prop) (w w':World) (b:Nat) (x:α) (vs:List P.Bs),(∀ b,F b->F' b)->(∀ b o,F b->w.heap[b]?=some o->w'.heap[b]?=some o)->I F w b x vs->I F' w' b x vs)
  {g:List P.Tok->P.Res α} {cf:Nat} (hcf:callable Tryz.prog cf=true)
  (s:P.Bs) (w:World) (hl:s.length≤100000) (hT:STabs2 w)
  (hgo:let w0:=w;∀ {pb tb:Nat} {T:List P.Tok} {w:World},P.lex s = .inr T->SP w pb tb T 0 [] 0->(STabC w0 w0.heap.size->STabC w tb)->Calls Tryz.prog cf #[pp pb] w (SPostC I pb w (g T))) :
  Calls Tryz.prog 68 #[.string (bs s),.func (.func cf) #[] #[]] w (SPostK I w (P.ofText g s)):=by
 refine sh_s_caught_Ps_Clause_ok ?_
 simp (disch:=first|assumption|omega|simp only[zS]<;>omega|decide) only[zb43,simprocAttr]
 obtain⟨wA,hwA⟩:∃ x,x=(w.alloc (.cells #[.pointer none] 112)).alloc (.cells #[.nilIface] 57):=⟨_,rfl⟩
 have sA:wA.heap.size=w.heap.size+2:=by rw[hwA];simp
 have hEA:Ext w wA:=by rw[hwA];(repeat (first | assumption | exact FrM.refl _ _ | (refine FrM.upd ?_ (.inr (by(try simp only[zS])<;>omega))) | refine FrM.alloc ?_ _ | refine FrM.drew ?_))
 have b4:wA.heap[w.heap.size]?=some (.cells #[.pointer none] 112):=by rw[hwA];simp (disch:=first|assumption|omega|simp only[zS]<;>omega|decide) only[zH]
 have b5:wA.heap[w.heap.size+1]?=some (.cells #[.nilIface] 57):=by rw[hwA];simp (disch:=first|assumption|omega|simp only[zS]<;>omega|decide) only[zH]
 rw[size_alloc,<- hwA]
 refine(sLex s wA hl (hT.sig.ext hEA)).mono ?_
 rintro e w1 ⟨hE1,hp⟩
 have s1:=hE1.size
 by_cases h2:2000<s.length
 ·rw[if_pos h2] at hp
  obtain⟨b,rfl,h1,h3⟩:=hp
  exact caughtErrC (by rw[P.ofText,if_pos h2]) (hEA.trans hE1) (hE1.ext _ _ b4) (hE1.ext _ _ b5) h1 (by omega)
 rw[if_neg h2] at hp
 cases hx:P.lex s with
 | inl i=>
  rw[hx] at hp
  obtain⟨b,rfl,h1,h3⟩:=hp
  exact caughtErrC (by rw[P.ofText,if_neg h2,hx]) (hEA.trans hE1) (hE1.ext _ _ b4) (hE1.ext _ _ b5) h1 (by omega)
 | inr T=>
  rw[hx] at hp
  obtain⟨v,rfl,hown⟩:=hp
  have hlo:=lex_ok hx
  have hTn:0<T.length:=(TWs.of hlo (by omega)).toTW.pos
  obtain⟨htl,hown⟩:=hown
  rcases hown with⟨-,h0⟩| ⟨tb,cap,cur,rfl,ht1,ht2,ht3,ht4,ht5,ht6⟩
  ·omega
  simp (disch:=first|assumption|omega|simp only[zS]<;>omega|decide) only[zb43,simprocAttr]
  have lt1:=ltOf ht2
  obtain⟨wP,hwP⟩:∃ x,x=w1.alloc (.cells #[.slice (some ⟨tb,0,none⟩) T.length cap,.slice none 0 0,zi 0] 160):=⟨_,rfl⟩
  have hEP:Ext w1 wP:=by rw[hwP];(repeat (first | assumption | exact FrM.refl _ _ | (refine FrM.upd ?_ (.inr (by(try simp only[zS])<;>omega))) | refine FrM.alloc ?_ _ | refine FrM.drew ?_))
  have sP:wP.heap.size=w1.heap.size+1:=by rw[hwP];simp
  have bP:wP.heap[w1.heap.size]?=some (.cells #[.slice (some ⟨tb,0,none⟩) T.length cap,.slice none 0 0,zi 0] 160):=by rw[hwP];simp (disch:=first|assumption|omega|simp only[zS]<;>omega|decide) only[zH]
  rw[<- hwP]
  have hEw:Ext w wP:=(hEA.trans hE1).trans hEP
  have hsp:SP wP w1.heap.size tb T 0 [] 0:=SP.fresh hlo (by omega) (hEP.ext _ _ ht2) ht6 ((hT.lev.ext fun b o _=>hEw.ext b o).up (by omega)) lt1 ht3 (by unfold maxLen at ht4;omega) bP
  refine⟨hcf,(hgo hx hsp (fun hC=>(hC.ext fun b o _=>hEw.ext b o).up (by omega))).mono ?_⟩
  have hpr:P.ofText g s=g T:=by rw[P.ofText,if_neg h2,hx]
  rintro e w3 ⟨hF,hq⟩
  have s3:=hF.size
  have hE3:Ext w1 w3:=⟨hF.os.trans hEP.os,hF.tape.trans hEP.tape,hF.output.trans hEP.output,by omega,fun b o hb _=>hF.block b o (hEP.ext _ _ hb) (by
   have:=ltOf hb
   rintro (h | ⟨h,_⟩)<;>omega)⟩
  have hEw3:Ext w w3:=(hEA.trans hE1).trans hE3
  have q4:=hE3.ext _ _ (hE1.ext _ _ b4)
  have q5:=hE3.ext _ _ (hE1.ext _ _ b5)
  cases hr:g T with
  | err c a=>
   rw[hr] at hq
   obtain⟨b,rfl,h1,h3⟩:=hq
   exact caughtErrC (hpr.trans hr) hEw3 q4 q5 h1 (by omega)
  | ok x k vs=>
   rw[hr] at hq
   obtain⟨b,rfl,g1⟩:=hq
   have l4:=ltOf q4
   have l5:=ltOf q5
   simp (disch:=first|assumption|omega|simp only[zS]<;>omega|decide) only[zb43,simprocAttr,q4,q5]
   refine lvIdleC ?_
   obtain⟨wz,hwz⟩:∃ x,x=upd (upd w3 w.heap.size (.cells #[pp b] 112)) (w.heap.size+1) (.cells #[.nilIface] 57):=⟨_,rfl⟩
   have k4:wz.heap[w.heap.size]?=some (.cells #[pp b] 112):=by rw[hwz];simp (disch:=first|assumption|omega|simp only[zS]<;>omega|decide) only[zH]
   have k5:wz.heap[w.heap.size+1]?=some (.cells #[.nilIface] 57):=by rw[hwz];simp (disch:=first|assumption|omega|simp only[zS]<;>omega|decide) only[zH]
   have hz:∀ b o,b≠w.heap.size->b≠w.heap.size+1->w3.heap[b]?=some o->wz.heap[b]?=some o:=fun b o n1 n2 ho=>by
    rw[hwz,hp_upd_other (by omega),hp_upd_other (by omega)];exact ho
   have hEz:Ext w wz:=by rw[hwz];(repeat (first | assumption | exact FrM.refl _ _ | (refine FrM.upd ?_ (.inr (by(try simp only[zS])<;>omega))) | refine FrM.alloc ?_ _ | refine FrM.drew ?_))
   have sz:wz.heap.size=w3.heap.size:=by rw[hwz,size_upd,size_upd]
   rw[<- hwz]
   simp (disch:=first|assumption|omega|simp only[zS]<;>omega|decide) only[zb43,simprocAttr,k4,k5]
   refine⟨hEz,?_⟩
   rw[hpr,hr]
   exact⟨b,rfl,hI _ _ _ _ _ _ _ (fun b hb=>⟨by have:=hb.1;omega,by have:=hb.2;omega⟩) (fun b o hb ho=>hz b _ (by have:=hb.1;omega) (by have:=hb.1;omega) ho) g1⟩
end Go.Proofs.YtilpjhceemaplaaGreatDoor
namespace Go.Proofs.YtilpjhceemaplaaGreatDoor.P
inductive Tm where
 | atom (s:Bs)
 | int (n:Int)
 | var (i:Nat)
 | comp (name:Bs) (args:List Tm)
deriving Inhabited
abbrev Tr:=List (Nat×Tm)
def look(i:Nat):Tr->Option Tm
 | []=>none
 | (j,t)::r=>if i=j then some t else look i r
def walkN(tr:Tr):Nat->Tm->Option Tm
 | f,.var i=>match look i tr with
  | none=>some (.var i)
  | some t=>match f with
   | 0=>none
   | f+1=>walkN tr f t
 | _,t=>some t
def digs:Nat->Nat->Bs
 | 0,_=>[]
 | f+1,n=>if n<10 then [UInt8.ofNat (48+n)] else digs f (n / 10)++[UInt8.ofNat (48+n % 10)]
def decN(n:Nat):Bs:=digs (n+1) n
def decI(n:Int):Bs:=if n<0 then 45::decN n.natAbs else decN n.natAbs
structure Ws where
 fuel:Nat
 out:Bs
 seen:List Nat
def power(name:Bs)(n:Nat):Nat:=
 if n≠2 then 0 else if name=[43]\/name=[45] then 1 else if name=[42]\/name=[47,47]\/name=[109,111,100] then 2 else 0
def Wb(x:Option (Option Ws))(k:Ws->Option (Option Ws)):Option (Option Ws):=
 match x with
 | none=>none
 | some none=>some none
 | some (some s)=>k s
def Ws.add(s:Ws)(x:Bs):Ws:={ s with out:=s.out++x }
def varText(s:Ws)(i:Nat):Ws:=
 match s.seen.idxOf? i with
 | some k=>s.add (95::decN (k+1))
 | none=>{ s with out:=s.out++95::decN (s.seen.length+1),seen:=s.seen++[i] }
mutual
def wTm (tr:Tr):Nat->Tm->Nat->Ws->Option (Option Ws)
 | 0,_,_,_=>none
 | f+1,t,least,s=>
  if s.fuel=0 then some none
  else match walkN tr f t with
   | none=>none
   | some (.atom a)=>some (some ({ s with fuel:=s.fuel-1 }.add a))
   | some (.int n)=>some (some ({ s with fuel:=s.fuel-1 }.add (decI n)))
   | some (.var i)=>some (some (varText { s with fuel:=s.fuel-1 } i))
   | some (.comp name args)=>wComp tr f name args least { s with fuel:=s.fuel-1 }
 termination_by structural f=>f
def wComp (tr:Tr):Nat->Bs->List Tm->Nat->Ws->Option (Option Ws)
 | 0,_,_,_,_=>none
 | f+1,name,args,least,s=>
  match args with
  | [a,b]=>
   if power name 2≠0 then
    if power name 2<least then
     Wb (wTm tr f a (power name 2) (s.add [40])) fun s=>Wb (wTm tr f b (power name 2+1) (s.add (if name=[109,111,100] then [32,109,111,100,32] else name))) fun s=>some (some (s.add [41]))
    else Wb (wTm tr f a (power name 2) s) fun s=>wTm tr f b (power name 2+1) (s.add (if name=[109,111,100] then [32,109,111,100,32] else name))
   else if name=[46] then wList tr f 91 a b s
   else Wb (wArgs tr f 40 [a,b] (s.add name)) fun s=>some (some (s.add [41]))
  | _=>Wb (wArgs tr f 40 args (s.add name)) fun s=>some (some (s.add [41]))
 termination_by structural f=>f
def wArgs (tr:Tr):Nat->UInt8->List Tm->Ws->Option (Option Ws)
 | 0,_,_,_=>none
 | _+1,_,[],s=>some (some s)
 | f+1,sep,a::r,s=>Wb (wTm tr f a 0 (s.add [sep])) fun s=>wArgs tr f 44 r s
 termination_by structural f=>f
def wList (tr:Tr):Nat->UInt8->Tm->Tm->Ws->Option (Option Ws)
 | 0,_,_,_,_=>none
 | f+1,sep,a,b,s=>
  Wb (wTm tr f a 0 (s.add [sep])) fun s=>
   match walkN tr f b with
   | none=>none
   | some (.comp name args)=>match args with
    | [c,d]=>if name=[46] then wList tr f 44 c d s else Wb (wTm tr f b 0 (s.add [124])) fun s=>some (some (s.add [93]))
    | _=>Wb (wTm tr f b 0 (s.add [124])) fun s=>some (some (s.add [93]))
   | some (.atom x)=>if x=[91,93] then some (some (s.add [93])) else Wb (wTm tr f b 0 (s.add [124])) fun s=>some (some (s.add [93]))
   | some _=>Wb (wTm tr f b 0 (s.add [124])) fun s=>some (some (s.add [93]))
 termination_by structural f=>f
end
mutual
def made (vs:List Nat):Ex->Tm
 | .mk kind name n k args=>if kind=97 then .atom name else if kind=110 then .int n else if kind=118 then .var (vs.getD k 0) else .comp name (mades vs args)
 termination_by structural x=>x
def mades (vs:List Nat):List Ex->List Tm
 | []=>[]
 | x::xs=>made vs x::mades vs xs
 termination_by structural x=>x
end
mutual
def TmOk:Tm->Prop
 | .atom s=>s.length≤20/\s≠[]
 | .int n=>-9223372036854775808≤n/\n≤9223372036854775807
 | .var _=>True
 | .comp name args=>name.length≤20/\args.length≤100000/\TmsOk args
 termination_by structural t=>t
def TmsOk:List Tm->Prop
 | []=>True
 | t::ts=>TmOk t/\TmsOk ts
 termination_by structural t=>t
end
theorem decN_lenB(n:Nat):∀ k,n<10 ^ (k+1)->∀ f,n<f->(digs f n).length≤k+1:=by
 intro k
 induction k generalizing n with
 | zero=>
  intro h f hf
  cases f with
  | zero=>omega
  | succ f=>rw[digs,if_pos (by omega)];simp
 | succ k ih=>
  intro h f hf
  cases f with
  | zero=>omega
  | succ f=>
   rw[digs]
   split
   ·simp
   ·rw[List.length_append]
    have:n / 10<10 ^ (k+1):=by rw[Nat.pow_succ] at h;omega
    have:=ih (n / 10) this f (by omega)
    simp only[List.length_cons,List.length_nil]
    omega
theorem decN_len{n:Nat}(h:n<10000000000000000000):(decN n).length≤19:=decN_lenB n 18 (by simpa using h) _ (by omega)
theorem decI_len'{n:Int}(h0:-9223372036854775808≤n)(h1:n≤9223372036854775807):(decI n).length≤20:=by
 have:(decN n.natAbs).length≤19:=decN_len (by omega)
 unfold decI
 split
 ·simp;omega
 ·omega
def Ws.phi(s:Ws):Nat:=s.out.length+60*s.fuel
structure Ws.Ok(s:Ws):Prop where
 big:s.phi≤900000000
 seen:s.seen.length≤s.out.length
structure LenW(tr:Tr)(f:Nat):Prop where
 tm:∀ t least s r,TmOk t->s.phi≤900000100->s.seen.length≤s.out.length->wTm tr f t least s=some (some r)->r.phi+30≤s.phi/\r.seen.length≤r.out.length
 comp:∀ name args least s r,TmOk (.comp name args)->s.phi≤900000100-60->s.seen.length≤s.out.length->wComp tr f name args least s=some (some r)->r.phi≤s.phi+21/\r.seen.length≤r.out.length
 args:∀ c l s r,TmsOk l->s.phi≤900000100-30->s.seen.length≤s.out.length->wArgs tr f c l s=some (some r)->r.phi≤s.phi/\r.seen.length≤r.out.length
 list:∀ c a b s r,TmOk a->TmOk b->s.phi≤900000100-30->s.seen.length≤s.out.length->wList tr f c a b s=some (some r)->r.phi≤s.phi/\r.seen.length≤r.out.length
theorem wordKind_len{w:Bs}(h:wordKind w≠0):w.length≤9:=by
 unfold wordKind at h
 split at h
 ·simp
 ·split at h
  ·split at h
   ·omega
   ·exact absurd rfl h
  ·split at h
   ·split at h
    ·omega
    ·exact absurd rfl h
   ·split at h
    ·rename_i h2;exact h2.1
    ·exact absurd rfl h
theorem signs_len{s:Bs}(hm:s∈signs):s.length≤9:=by
 simp only[signs,List.mem_cons,List.not_mem_nil,or_false] at hm
 rcases hm with rfl | rfl | rfl | rfl | rfl | rfl | rfl | rfl | rfl | rfl | rfl | rfl | rfl | rfl | rfl | rfl | rfl | rfl | rfl | rfl | rfl | rfl | rfl<;>decide
theorem lexGo_len:∀ (f:Nat) (r:Bs) (i:Nat) (T:List Tok),lexGo f r i=some (.inr T)->∀ u∈T,u.text.length≤9
 | 0,r,i,T,h=>by rw[lexGo] at h;cases h
 | f+1,[],i,T,h=>by
  rw[lexGo] at h
  simp only[Option.some.injEq,Sum.inr.injEq] at h
  subst h
  intro u hu
  simp only[List.mem_cons,List.not_mem_nil,or_false] at hu
  subst hu
  simp
 | f+1,c::r,i,T,h=>by
  have key:∀ (x:Option (Sum Nat (List Tok))) (t:Tok),(∀ l,x=some (.inr l)->∀ u∈l,u.text.length≤9)->t.text.length≤9 ->
    (match x with | some (.inr l)=>some (.inr (t::l)) | y=>y)=some (.inr T)->∀ u∈T,u.text.length≤9:=by
   intro x t hx ht h
   split at h
   ·rename_i l
    simp only[Option.some.injEq,Sum.inr.injEq] at h
    rw[<- h]
    intro u hu
    rcases List.mem_cons.1 hu with rfl | hu
    ·exact ht
    ·exact hx l rfl u hu
   ·exact hx T h
  rw[lexGo] at h
  split at h
  ·exact lexGo_len f r (i+1) T h
  split at h
  ·dsimp only at h
   split at h
   ·cases h
   ·rename_i hc hw
    exact key _ _ (fun l hl=>lexGo_len f _ _ l hl) (wordKind_len hw) h
  split at h
  ·exact key _ _ (fun l hl=>lexGo_len f _ _ l hl) (by simp) h
  split at h
  ·cases h
  ·rename_i s hs
   exact key _ _ (fun l hl=>lexGo_len f _ _ l hl) (signs_len (List.mem_of_find?_eq_some hs)) h
mutual
def exSz:Ex->Nat
 | .mk _ _ _ _ args=>exSzs args+1
 termination_by structural x=>x
def exSzs:List Ex->Nat
 | []=>0
 | x::xs=>exSz x+exSzs xs
 termination_by structural x=>x
end
theorem exSzs_append:∀ (a b:List Ex),exSzs (a++b)=exSzs a+exSzs b
 | [],b=>by simp [exSzs]
 | x::a,b=>by simp [exSzs,exSzs_append a b];omega
mutual
def ExOk (nv:Nat):Ex->Prop
 | .mk kind name n k args=>name.length≤9/\(-999999999≤n/\n≤999999999)/\(kind=97\/kind=110\/kind=118\/kind=99)/\(kind=118->k<nv)/\(args.length≤4/\(kind=99->args≠[]))/\(kind=97->name≠[])/\(kind≠99->args=[])/\ExsOk nv args
 termination_by structural x=>x
def ExsOk (nv:Nat):List Ex->Prop
 | []=>True
 | x::xs=>ExOk nv x/\ExsOk nv xs
 termination_by structural x=>x
end
mutual
theorem ExOk.mono {n m:Nat} (h:n≤m):∀ (x:Ex),ExOk n x->ExOk m x
 | .mk kind name k v args,hx=>by
  unfold ExOk at hx ⊢
  obtain⟨h1,h2,h3,h4,h5,h6,h7,h8⟩:=hx
  exact⟨h1,h2,h3,fun e=>Nat.lt_of_lt_of_le (h4 e) h,h5,h6,h7,ExsOk.mono h args h8⟩
 termination_by structural x=>x
theorem ExsOk.mono {n m:Nat} (h:n≤m):∀ (l:List Ex),ExsOk n l->ExsOk m l
 | [],hx=>by unfold ExsOk;trivial
 | x::xs,hx=>by
  unfold ExsOk at hx ⊢
  exact⟨ExOk.mono h x hx.1,ExsOk.mono h xs hx.2⟩
 termination_by structural x=>x
end
theorem ExsOk.append{n:Nat}:∀ {a b:List Ex},ExsOk n a->ExsOk n b->ExsOk n (a++b)
 | [],b,_,hb=>hb
 | x::a,b,ha,hb=>by
  show ExsOk n (x::(a++b))
  unfold ExsOk at ha ⊢
  exact⟨ha.1,ExsOk.append ha.2 hb⟩
theorem ExsOk.snoc{n:Nat}{a:List Ex}{x:Ex}(ha:ExsOk n a)(hx:ExOk n x):ExsOk n (a++[x]):=ha.append (by unfold ExsOk;exact⟨hx,by unfold ExsOk;trivial⟩)
theorem ExsOk.nil{n:Nat}:ExsOk n []:=by unfold ExsOk;trivial
theorem ExsOk.at{n:Nat}:∀ {l:List Ex} {j:Nat},ExsOk n l->(hj:j<l.length)->ExOk n l[j]
 | x::xs,0,h,_=>by unfold ExsOk at h;exact h.1
 | x::xs,j+1,h,hj=>by unfold ExsOk at h;exact ExsOk.at h.2 (by simpa using hj)
theorem ExOk.two{nv:Nat}{name:Bs}{a b:Ex}(hn:name.length≤9)(ha:ExOk nv a)(hb:ExOk nv b):ExOk nv (.mk 99 name 0 0 [a,b]):=by
 unfold ExOk
 refine⟨hn,by omega,by simp,by simp,by simp,by simp,by simp,?_⟩
 unfold ExsOk ExsOk
 exact⟨ha,hb,ExsOk.nil⟩
theorem exSz_two{name:Bs}{a b:Ex}{k:Nat}:exSz (.mk k name 0 0 [a,b])=exSz a+exSz b+1:=by simp [exSz,exSzs]
theorem ops_len{l:Nat}{T:List Tok}{k:Nat}{o:Bs}(h:opAt T l k=some o):o.length≤9:=by
 have hm:=List.mem_of_find?_eq_some h
 unfold ops at hm
 split at hm<;>simp only[List.mem_cons,List.not_mem_nil,or_false] at hm
 ·rcases hm with rfl | rfl<;>decide
 ·rcases hm with rfl | rfl | rfl<;>decide
structure TkOk(T:List Tok):Prop where
 len:∀ u∈T,u.text.length≤9
 word:∀ u∈T,u.kind=1->u.text≠[]
 digits:∀ u∈T,u.kind=3->u.text.all digit=true
theorem tk_in{T:List Tok}{k:Nat}(h:(tk T k).kind≠0):tk T k∈T:=by
 have hk:k<T.length:=by
  rcases Nat.lt_or_ge k T.length with h1 | h1
  ·exact h1
  ·exact absurd (by simp [tk,List.getD_eq_getElem?_getD,List.getElem?_eq_none h1]) h
 have:tk T k=T[k]:=by simp [tk,List.getD_eq_getElem?_getD,List.getElem?_eq_getElem hk]
 rw[this];exact List.getElem_mem hk
theorem pVar_E{t:Tok}{k k':Nat}{v v':List Bs}{x:Ex}(h:pVar t k v = .ok x k' v'):ExOk v'.length x/\v.length≤v'.length/\k'=k/\exSz x=1:=by
 unfold pVar at h
 split at h
 ·rename_i j hj
  injection h with h1 h2 h3
  subst h1 h2 h3
  have hj2:j<v.length:=by
   split at hj
   ·cases hj
   ·exact(List.idxOf?_eq_some_iff.1 hj).1
  refine⟨?_,Nat.le_refl _,rfl,by simp [exSz,exSzs]⟩
  unfold ExOk
  exact⟨by simp,by omega,by simp,fun _=>hj2,by simp,by simp,by simp,ExsOk.nil⟩
 ·split at h
  ·cases h
  ·injection h with h1 h2 h3
   subst h1 h2 h3
   refine⟨?_,by simp,rfl,by simp [exSz,exSzs]⟩
   unfold ExOk
   exact⟨by simp,by omega,by simp,fun _=>by simp,by simp,by simp,by simp,ExsOk.nil⟩
theorem mkList_E{nv:Nat}{x:Ex}(hx:ExOk nv x):∀ {all:List Ex},ExsOk nv all->ExOk nv (mkList all x)/\exSz (mkList all x)=exSzs all+all.length+exSz x
 | [],_=>⟨hx,by simp [mkList,exSzs]⟩
 | a::l,h=>by
  unfold ExsOk at h
  obtain⟨h1,h2⟩:=mkList_E hx h.2
  refine⟨ExOk.two (by simp) h.1 h1,?_⟩
  show exSz (.mk 99 [46] 0 0 [a,mkList l x])=_
  rw[exSz_two,h2]
  simp [exSzs]
  omega
theorem nil_E{nv:Nat}:ExOk nv (.mk 97 [91,93] 0 0 []):=by
 unfold ExOk
 exact⟨by simp,by omega,by simp,by simp,by simp,by simp,by simp,ExsOk.nil⟩
structure EOk(T:List Tok)(f:Nat):Prop where
 prim:∀ k v d x k' v',pPrim T f k v d=some (.ok x k' v')->ExOk v'.length x/\v.length≤v'.length/\k+exSz x≤k'
 args:∀ k v d a acc x k' v',ExsOk v.length acc->pArgs T f k v d a acc=some (.ok x k' v')->ExsOk v'.length x/\v.length≤v'.length/\k+exSzs x≤k'+exSzs acc/\x.length≤4/\x≠[]
 list:∀ k v d x k' v',pList T f k v d=some (.ok x k' v')->ExOk v'.length x/\v.length≤v'.length/\k+exSz x≤k'+1
 elems:∀ k v d acc x k' v',ExsOk v.length acc->pElems T f k v d acc=some (.ok x k' v')->ExsOk v'.length x/\v.length≤v'.length/\k+exSzs x+x.length≤k'+exSzs acc+acc.length+1
 oper:∀ l k v d x k' v',pOper T f l k v d=some (.ok x k' v')->ExOk v'.length x/\v.length≤v'.length/\k+exSz x≤k'
 more:∀ l y k v d x k' v',ExOk v.length y->pMore T f l y k v d=some (.ok x k' v')->ExOk v'.length x/\v.length≤v'.length/\k+exSz x≤k'+exSz y
theorem eOk{T:List Tok}(hT:TkOk T):∀ f,EOk T f
 | 0=>⟨by intros;simp [pPrim] at *,by intros;simp [pArgs] at *,by intros;simp [pList] at *,by intros;simp [pElems] at *,by intros;simp [pOper] at *,by intros;simp [pMore] at *⟩
 | f+1=>by
  have ih:=eOk hT f
  refine⟨?_,?_,?_,?_,?_,?_⟩
  ·intro k v d x k' v' h
   rw[pPrim] at h
   split at h
   ·simp at h
   split at h
   ·rename_i hk
    simp only[Option.some.injEq,Res.ok.injEq] at h
    obtain⟨rfl,rfl,rfl⟩:=h
    have hm:=tk_in (T:=T) (k:=k) (by omega)
    obtain⟨a,b⟩:=num_bound (hT.digits _ hm hk) (hT.len _ hm)
    refine⟨?_,Nat.le_refl _,by simp [exSz,exSzs]⟩
    unfold ExOk
    exact⟨by simp,by omega,by simp,by simp,by simp,by simp,by simp,ExsOk.nil⟩
   split at h
   ·simp only[Option.some.injEq] at h
    obtain⟨h1,h2,rfl,h4⟩:=pVar_E h
    exact⟨h1,h2,by omega⟩
   split at h
   ·rename_i hk
    have hm:=tk_in (T:=T) (k:=k) (by omega)
    split at h
    ·obtain⟨a,k1,v1,h1,h2⟩:=bind_ok h
     obtain⟨g1,g2,g3,g4⟩:=ih.args _ _ _ _ _ _ _ _ ExsOk.nil h1
     obtain⟨rfl,rfl,rfl⟩:=musT_ok h2
     refine⟨?_,g2,by simp [exSz,exSzs] at g3 ⊢;omega⟩
     unfold ExOk
     exact⟨hT.len _ hm,by omega,by simp,by simp,⟨g4.1,fun _=>g4.2⟩,by simp,by simp,g1⟩
    ·simp only[Option.some.injEq,Res.ok.injEq] at h
     obtain⟨rfl,rfl,rfl⟩:=h
     refine⟨?_,Nat.le_refl _,by simp [exSz,exSzs]⟩
     unfold ExOk
     exact⟨hT.len _ hm,by omega,by simp,by simp,by simp,fun _=>hT.word _ hm hk,by simp,ExsOk.nil⟩
   split at h
   ·split at h
    ·rename_i hk
     simp only[Option.some.injEq,Res.ok.injEq] at h
     obtain⟨rfl,rfl,rfl⟩:=h
     have hm:=tk_in (T:=T) (k:=k+1) (by omega)
     obtain⟨a,b⟩:=num_bound (hT.digits _ hm hk) (hT.len _ hm)
     refine⟨?_,Nat.le_refl _,by simp [exSz,exSzs]⟩
     unfold ExOk
     exact⟨by simp,by omega,by simp,by simp,by simp,by simp,by simp,ExsOk.nil⟩
    ·simp at h
   split at h
   ·obtain⟨a,k1,v1,h1,h2⟩:=bind_ok h
    obtain⟨g1,g2,g3⟩:=ih.oper _ _ _ _ _ _ _ h1
    obtain⟨rfl,rfl,rfl⟩:=musT_ok h2
    exact⟨g1,g2,by omega⟩
   split at h
   ·obtain⟨g1,g2,g3⟩:=ih.list _ _ _ _ _ _ h
    exact⟨g1,g2,by omega⟩
   ·simp at h
  ·intro k v d a acc x k' v' ha h
   rw[pArgs] at h
   obtain⟨y,k1,v1,h1,h2⟩:=bind_ok h
   obtain⟨g1,g2,g3⟩:=ih.oper _ _ _ _ _ _ _ h1
   have hs:=(ExsOk.mono g2 _ ha).snoc g1
   have hz:exSzs (acc++[y])=exSzs acc+exSz y:=by rw[exSzs_append];simp [exSzs]
   split at h2
   ·obtain⟨q1,q2,q3,q4⟩:=ih.args _ _ _ _ _ _ _ _ hs h2
    exact⟨q1,by omega,by omega,q4⟩
   ·split at h2
    ·simp at h2
    ·rename_i hl
     simp only[Option.some.injEq,Res.ok.injEq] at h2
     obtain⟨rfl,rfl,rfl⟩:=h2
     unfold maxArity at hl
     exact⟨hs,g2,by omega,by omega,by simp⟩
  ·intro k v d x k' v' h
   rw[pList] at h
   split at h
   ·simp only[Option.some.injEq,Res.ok.injEq] at h
    obtain⟨rfl,rfl,rfl⟩:=h
    exact⟨nil_E,Nat.le_refl _,by simp [exSz,exSzs]⟩
   ·obtain⟨all,k1,v1,h1,h2⟩:=bind_ok h
    obtain⟨g1,g2,g3⟩:=ih.elems _ _ _ _ _ _ _ ExsOk.nil h1
    simp [exSzs] at g3
    split at h2
    ·obtain⟨y,k2,v2,h3,h4⟩:=bind_ok h2
     obtain⟨q1,q2,q3⟩:=ih.oper _ _ _ _ _ _ _ h3
     obtain⟨rfl,rfl,rfl⟩:=musT_ok h4
     obtain⟨m1,m2⟩:=mkList_E q1 (ExsOk.mono q2 _ g1)
     exact⟨m1,by omega,by omega⟩
    ·obtain⟨rfl,rfl,rfl⟩:=musT_ok h2
     obtain⟨m1,m2⟩:=mkList_E (nil_E (nv:=v'.length)) g1
     have:exSz (.mk 97 [91,93] 0 0 [])=1:=by simp [exSz,exSzs]
     exact⟨m1,by omega,by omega⟩
  ·intro k v d acc x k' v' ha h
   rw[pElems] at h
   obtain⟨y,k1,v1,h1,h2⟩:=bind_ok h
   obtain⟨g1,g2,g3⟩:=ih.oper _ _ _ _ _ _ _ h1
   have hs:=(ExsOk.mono g2 _ ha).snoc g1
   have hz:exSzs (acc++[y])=exSzs acc+exSz y:=by rw[exSzs_append];simp [exSzs]
   have hl:(acc++[y]).length=acc.length+1:=by simp
   split at h2
   ·obtain⟨q1,q2,q3⟩:=ih.elems _ _ _ _ _ _ _ hs h2
    exact⟨q1,by omega,by omega⟩
   ·simp only[Option.some.injEq,Res.ok.injEq] at h2
    obtain⟨rfl,rfl,rfl⟩:=h2
    exact⟨hs,g2,by omega⟩
  ·intro l k v d x k' v' h
   rw[pOper] at h
   split at h
   ·exact ih.prim _ _ _ _ _ _ h
   ·obtain⟨y,k1,v1,h1,h2⟩:=bind_ok h
    obtain⟨g1,g2,g3⟩:=ih.oper _ _ _ _ _ _ _ h1
    obtain⟨q1,q2,q3⟩:=ih.more _ _ _ _ _ _ _ _ g1 h2
    exact⟨q1,by omega,by omega⟩
  ·intro l y k v d x k' v' hy h
   rw[pMore] at h
   split at h
   ·simp only[Option.some.injEq,Res.ok.injEq] at h
    obtain⟨rfl,rfl,rfl⟩:=h
    exact⟨hy,Nat.le_refl _,by omega⟩
   ·rename_i o ho
    obtain⟨z,k1,v1,h1,h2⟩:=bind_ok h
    obtain⟨g1,g2,g3⟩:=ih.oper _ _ _ _ _ _ _ h1
    obtain⟨q1,q2,q3⟩:=ih.more _ _ _ _ _ _ _ _ (ExOk.two (ops_len ho) (ExOk.mono g2 _ hy) g1) h2
    rw[exSz_two] at q3
    exact⟨q1,by omega,by omega⟩
structure LeT(T:List Tok)(f:Nat):Prop where
 prim:∀ k v d x k' v',pPrim T f k v d=some (.ok x k' v')->k'≤T.length
 args:∀ k v d a acc x k' v',pArgs T f k v d a acc=some (.ok x k' v')->k'≤T.length
 list:∀ k v d x k' v',pList T f k v d=some (.ok x k' v')->k'≤T.length
 elems:∀ k v d acc x k' v',pElems T f k v d acc=some (.ok x k' v')->k'≤T.length
 oper:∀ l k v d x k' v',pOper T f l k v d=some (.ok x k' v')->k'≤T.length
 more:∀ l y k v d x k' v',k≤T.length->pMore T f l y k v d=some (.ok x k' v')->k'≤T.length
theorem musT_le{α:Type}{T:List Tok}{s:Bs}{x y:α}{k k':Nat}{v v':List Bs}(h:musT T s x k v=some (.ok y k' v')):k'≤T.length:=by
 unfold musT at h
 split at h
 ·rename_i hi
  have:=isT_lt hi
  simp only[Option.some.injEq,Res.ok.injEq] at h
  omega
 ·simp at h
theorem leT(T:List Tok):∀ f,LeT T f
 | 0=>⟨by intros;simp [pPrim] at *,by intros;simp [pArgs] at *,by intros;simp [pList] at *,by intros;simp [pElems] at *,by intros;simp [pOper] at *,by intros;simp [pMore] at *⟩
 | f+1=>by
  have ih:=leT T f
  refine⟨?_,?_,?_,?_,?_,?_⟩
  ·intro k v d x k' v' h
   rw[pPrim] at h
   split at h
   ·simp at h
   split at h
   ·rename_i hk
    have:=tk_lt (T:=T) (k:=k) (by omega)
    simp only[Option.some.injEq,Res.ok.injEq] at h
    omega
   split at h
   ·rename_i hk
    have:=tk_lt (T:=T) (k:=k) (by omega)
    simp only[Option.some.injEq] at h
    have:=pVar_k h
    omega
   split at h
   ·rename_i hk
    have:=tk_lt (T:=T) (k:=k) (by omega)
    split at h
    ·obtain⟨a,k1,v1,h1,h2⟩:=bind_ok h
     exact musT_le h2
    ·simp only[Option.some.injEq,Res.ok.injEq] at h
     omega
   split at h
   ·split at h
    ·rename_i hk
     have:=tk_lt (T:=T) (k:=k+1) (by omega)
     simp only[Option.some.injEq,Res.ok.injEq] at h
     omega
    ·simp at h
   split at h
   ·obtain⟨a,k1,v1,h1,h2⟩:=bind_ok h
    exact musT_le h2
   split at h
   ·exact ih.list _ _ _ _ _ _ h
   ·simp at h
  ·intro k v d a acc x k' v' h
   rw[pArgs] at h
   obtain⟨y,k1,v1,h1,h2⟩:=bind_ok h
   split at h2
   ·exact ih.args _ _ _ _ _ _ _ _ h2
   ·split at h2
    ·simp at h2
    ·simp only[Option.some.injEq,Res.ok.injEq] at h2
     have:=ih.oper _ _ _ _ _ _ _ h1
     omega
  ·intro k v d x k' v' h
   rw[pList] at h
   split at h
   ·rename_i hi
    have:=isT_lt hi
    simp only[Option.some.injEq,Res.ok.injEq] at h
    omega
   ·obtain⟨all,k1,v1,h1,h2⟩:=bind_ok h
    split at h2
    ·obtain⟨y,k2,v2,h3,h4⟩:=bind_ok h2
     exact musT_le h4
    ·exact musT_le h2
  ·intro k v d acc x k' v' h
   rw[pElems] at h
   obtain⟨y,k1,v1,h1,h2⟩:=bind_ok h
   split at h2
   ·exact ih.elems _ _ _ _ _ _ _ h2
   ·simp only[Option.some.injEq,Res.ok.injEq] at h2
    have:=ih.oper _ _ _ _ _ _ _ h1
    omega
  ·intro l k v d x k' v' h
   rw[pOper] at h
   split at h
   ·exact ih.prim _ _ _ _ _ _ h
   ·obtain⟨y,k1,v1,h1,h2⟩:=bind_ok h
    exact ih.more _ _ _ _ _ _ _ _ (ih.oper _ _ _ _ _ _ _ h1) h2
  ·intro l y k v d x k' v' hk h
   rw[pMore] at h
   split at h
   ·simp only[Option.some.injEq,Res.ok.injEq] at h
    omega
   ·obtain⟨z,k1,v1,h1,h2⟩:=bind_ok h
    exact ih.more _ _ _ _ _ _ _ _ (ih.oper _ _ _ _ _ _ _ h1) h2
mutual
def BdOk (nv M:Nat):Bd->Prop
 | .mk kind name args parts=>name.length≤9/\(kind=33\/kind=44\/kind=59\/kind=63\/kind=126\/kind=103)/\((kind=59->parts.length=2)/\(kind=63->parts.length=3)/\(kind=126->parts.length=1)) /\
  args.length≤4/\ExsOk nv args/\exSzs args≤M/\parts.length≤M/\BdsOk nv M parts
 termination_by structural x=>x
def BdsOk (nv M:Nat):List Bd->Prop
 | []=>True
 | x::xs=>BdOk nv M x/\BdsOk nv M xs
 termination_by structural x=>x
end
mutual
theorem BdOk.mono {n m M:Nat} (h:n≤m):∀ (x:Bd),BdOk n M x->BdOk m M x
 | .mk kind name args parts,hx=>by
  unfold BdOk at hx ⊢
  obtain⟨h1,h2,h3,h4,h5,h6,h7,h8⟩:=hx
  exact⟨h1,h2,h3,h4,ExsOk.mono h args h5,h6,h7,BdsOk.mono h parts h8⟩
 termination_by structural x=>x
theorem BdsOk.mono {n m M:Nat} (h:n≤m):∀ (l:List Bd),BdsOk n M l->BdsOk m M l
 | [],hx=>by unfold BdsOk;trivial
 | x::xs,hx=>by
  unfold BdsOk at hx ⊢
  exact⟨BdOk.mono h x hx.1,BdsOk.mono h xs hx.2⟩
 termination_by structural x=>x
end
theorem BdsOk.nil{n M:Nat}:BdsOk n M []:=by unfold BdsOk;trivial
theorem BdsOk.snoc{n M:Nat}{x:Bd}(hx:BdOk n M x):∀ {a:List Bd},BdsOk n M a->BdsOk n M (a++[x])
 | [],_=>by show BdsOk n M [x];unfold BdsOk;exact⟨hx,BdsOk.nil⟩
 | y::a,h=>by
  show BdsOk n M (y::(a++[x]))
  unfold BdsOk at h ⊢
  exact⟨h.1,BdsOk.snoc hx h.2⟩
theorem BdsOk.at{n M:Nat}:∀ {l:List Bd} {j:Nat},BdsOk n M l->(hj:j<l.length)->BdOk n M l[j]
 | x::xs,0,h,_=>by unfold BdsOk at h;exact h.1
 | x::xs,j+1,h,hj=>by unfold BdsOk at h;exact BdsOk.at h.2 (by simpa using hj)
theorem failB_ok{n M:Nat}:BdOk n M failB:=by unfold failB BdOk;exact⟨by simp,by simp,by simp,by simp,ExsOk.nil,by simp [exSzs],by simp,BdsOk.nil⟩
theorem trueB_ok{n M:Nat}:BdOk n M trueB:=by unfold trueB BdOk;exact⟨by simp,by simp,by simp,by simp,ExsOk.nil,by simp [exSzs],by simp,BdsOk.nil⟩
theorem BdsOk.one{n M:Nat}{a:Bd}(h:BdOk n M a):BdsOk n M [a]:=by unfold BdsOk;exact⟨h,BdsOk.nil⟩
theorem BdsOk.cons{n M:Nat}{a:Bd}{l:List Bd}(h:BdOk n M a)(hl:BdsOk n M l):BdsOk n M (a::l):=by unfold BdsOk;exact⟨h,hl⟩
theorem exSz_pos:∀ (x:Ex),1≤exSz x
 | .mk ..=>by simp [exSz]
theorem cmpAt_len{T:List Tok}{k:Nat}{c:Bs}(h:cmpAt T k=some c):c.length≤9/\k<T.length:=by
 unfold cmpAt at h
 have hm:=List.mem_of_find?_eq_some h
 refine⟨?_,isT_lt (List.find?_some h)⟩
 simp only[compares,List.mem_cons,List.not_mem_nil,or_false] at hm
 rcases hm with rfl | rfl | rfl | rfl | rfl | rfl | rfl | rfl | rfl<;>decide
structure BOk(T:List Tok)(f:Nat):Prop where
 lit:∀ k v d x k' v',pLit T f k v d=some (.ok x k' v')->BdOk v'.length T.length x/\v.length≤v'.length/\k+1≤k'/\k'≤T.length
 lits:∀ k v d acc x k' v',BdsOk v.length T.length acc->pLits T f k v d acc=some (.ok x k' v')->BdsOk v'.length T.length x/\v.length≤v'.length/\k+x.length≤k'+acc.length/\k'≤T.length/\k+1≤k'
 row:∀ k v d x k' v',pRow T f k v d=some (.ok x k' v')->BdOk v'.length T.length x/\v.length≤v'.length/\k+1≤k'/\k'≤T.length
 rest:∀ k v d x k' v',pRest T f k v d=some (.ok x k' v')->BdOk v'.length T.length x/\v.length≤v'.length/\k+1≤k'/\k'≤T.length
 body:∀ k v d x k' v',pBody T f k v d=some (.ok x k' v')->BdOk v'.length T.length x/\v.length≤v'.length/\k+1≤k'/\k'≤T.length
theorem bdTwo{nv M:Nat}{a b:Bd}(hM:3≤M)(ha:BdOk nv M a)(hb:BdOk nv M b):BdOk nv M (.mk 59 [] [] [a,b]):=by
 unfold BdOk
 exact⟨by simp,by simp,by simp,by simp,ExsOk.nil,by simp [exSzs],by simp;omega,.cons ha (.one hb)⟩
theorem bdThree{nv M:Nat}{a b c:Bd}(hM:3≤M)(ha:BdOk nv M a)(hb:BdOk nv M b)(hc:BdOk nv M c):BdOk nv M (.mk 63 [] [] [a,b,c]):=by
 unfold BdOk
 exact⟨by simp,by simp,by simp,by simp,ExsOk.nil,by simp [exSzs],by simp;omega,.cons ha (.cons hb (.one hc))⟩
theorem bOk{T:List Tok}(hT:TkOk T):∀ f,BOk T f
 | 0=>⟨by intros;simp [pLit] at *,by intros;simp [pLits] at *,by intros;simp [pRow] at *,by intros;simp [pRest] at *,by intros;simp [pBody] at *⟩
 | f+1=>by
  have ih:=bOk hT f
  refine⟨?_,?_,?_,?_,?_⟩
  ·intro k v d x k' v' h
   rw[pLit] at h
   split at h
   ·simp at h
   split at h
   ·rename_i hi
    have hlt:=isT_lt hi
    simp only[Option.some.injEq,Res.ok.injEq] at h
    obtain⟨rfl,rfl,rfl⟩:=h
    refine⟨?_,Nat.le_refl _,by omega,by omega⟩
    unfold BdOk
    exact⟨by simp,by simp,by simp,by simp,ExsOk.nil,by simp [exSzs],by simp,BdsOk.nil⟩
   split at h
   ·obtain⟨b,k1,v1,h1,h2⟩:=bind_ok h
    obtain⟨g1,g2,g3,g4⟩:=ih.lit _ _ _ _ _ _ h1
    simp only[Option.some.injEq,Res.ok.injEq] at h2
    obtain⟨rfl,rfl,rfl⟩:=h2
    refine⟨?_,g2,by omega,g4⟩
    unfold BdOk
    exact⟨by simp,by simp,by simp,by simp,ExsOk.nil,by simp [exSzs],by simp;omega,.one g1⟩
   split at h
   ·obtain⟨b,k1,v1,h1,h2⟩:=bind_ok h
    obtain⟨g1,g2,g3,g4⟩:=ih.body _ _ _ _ _ _ h1
    have hm:=musT_le h2
    obtain⟨rfl,rfl,rfl⟩:=musT_ok h2
    exact⟨g1,g2,by omega,hm⟩
   ·obtain⟨y,k1,v1,h1,h2⟩:=bind_ok h
    obtain⟨g1,g2,g3⟩:=(eOk hT f).oper _ _ _ _ _ _ _ h1
    have hz1:=exSz_pos y
    have hl1:=(leT T f).oper _ _ _ _ _ _ _ h1
    split at h2
    ·rename_i c hc
     obtain⟨c1,c2⟩:=cmpAt_len hc
     obtain⟨z,k2,v2,h3,h4⟩:=bind_ok h2
     obtain⟨q1,q2,q3⟩:=(eOk hT f).oper _ _ _ _ _ _ _ h3
     have hl2:=(leT T f).oper _ _ _ _ _ _ _ h3
     simp only[Option.some.injEq,Res.ok.injEq] at h4
     obtain⟨rfl,rfl,rfl⟩:=h4
     refine⟨?_,by omega,by omega,hl2⟩
     unfold BdOk
     refine⟨c1,by simp,by simp,by simp,?_,by simp [exSzs];omega,by simp,BdsOk.nil⟩
     unfold ExsOk
     refine⟨ExOk.mono q2 _ g1,?_⟩
     unfold ExsOk
     exact⟨q1,ExsOk.nil⟩
    ·split at h2
     ·simp at h2
     ·split at h2
      ·simp at h2
      ·simp only[Option.some.injEq,Res.ok.injEq] at h2
       obtain⟨rfl,rfl,rfl⟩:=h2
       refine⟨?_,g2,by omega,hl1⟩
       obtain⟨kind,name,n,kk,args⟩:=y
       unfold ExOk at g1
       unfold BdOk
       simp only[exSz] at g3
       exact⟨g1.1,by simp,by simp,g1.2.2.2.2.1.1,g1.2.2.2.2.2.2.2,by simp only[Ex.args];omega,by simp,BdsOk.nil⟩
  ·intro k v d acc x k' v' ha h
   rw[pLits] at h
   obtain⟨y,k1,v1,h1,h2⟩:=bind_ok h
   obtain⟨g1,g2,g3,g4⟩:=ih.lit _ _ _ _ _ _ h1
   have hs:=BdsOk.snoc g1 (BdsOk.mono g2 _ ha)
   split at h2
   ·obtain⟨q1,q2,q3,q4,q5⟩:=ih.lits _ _ _ _ _ _ _ hs h2
    simp only[List.length_append,List.length_cons,List.length_nil] at q3
    exact⟨q1,by omega,by omega,q4,by omega⟩
   ·simp only[Option.some.injEq,Res.ok.injEq] at h2
    obtain⟨rfl,rfl,rfl⟩:=h2
    exact⟨hs,g2,by simp;omega,g4,by omega⟩
  ·intro k v d x k' v' h
   rw[pRow] at h
   obtain⟨l,k1,v1,h1,h2⟩:=bind_ok h
   obtain⟨g1,g2,g3,g4,g5⟩:=ih.lits _ _ _ _ _ _ _ BdsOk.nil h1
   simp only[Option.some.injEq,Res.ok.injEq] at h2
   obtain⟨rfl,rfl,rfl⟩:=h2
   refine⟨?_,g2,g5,g4⟩
   simp only[List.length_nil] at g3
   split
   ·unfold BdsOk at g1
    exact g1.1
   ·unfold BdOk
    exact⟨by simp,by simp,by simp,by simp,ExsOk.nil,by simp [exSzs],by omega,g1⟩
  ·intro k v d x k' v' h
   rw[pRest] at h
   split at h
   ·simp at h
   ·exact ih.body _ _ _ _ _ _ h
  ·intro k v d x k' v' h
   rw[pBody] at h
   obtain⟨a,k1,v1,h1,h2⟩:=bind_ok h
   obtain⟨g1,g2,g3,g4⟩:=ih.row _ _ _ _ _ _ h1
   split at h2
   ·obtain⟨b,k2,v2,h3,h4⟩:=bind_ok h2
    obtain⟨q1,q2,q3,q4⟩:=ih.row _ _ _ _ _ _ h3
    split at h4
    ·obtain⟨c,k3,v3,h5,h6⟩:=bind_ok h4
     obtain⟨m1,m2,m3,m4⟩:=ih.rest _ _ _ _ _ _ h5
     simp only[Option.some.injEq,Res.ok.injEq] at h6
     obtain⟨rfl,rfl,rfl⟩:=h6
     exact⟨bdThree (by omega) (BdOk.mono (by omega) _ g1) (BdOk.mono m2 _ q1) m1,by omega,by omega,m4⟩
    ·simp only[Option.some.injEq,Res.ok.injEq] at h4
     obtain⟨rfl,rfl,rfl⟩:=h4
     exact⟨bdThree (by omega) (BdOk.mono q2 _ g1) q1 failB_ok,by omega,by omega,q4⟩
   ·split at h2
    ·obtain⟨b,k2,v2,h3,h4⟩:=bind_ok h2
     obtain⟨q1,q2,q3,q4⟩:=ih.rest _ _ _ _ _ _ h3
     simp only[Option.some.injEq,Res.ok.injEq] at h4
     obtain⟨rfl,rfl,rfl⟩:=h4
     exact⟨bdTwo (by omega) (BdOk.mono q2 _ g1) q1,by omega,by omega,q4⟩
    ·simp only[Option.some.injEq,Res.ok.injEq] at h2
     obtain⟨rfl,rfl,rfl⟩:=h2
     exact⟨g1,g2,g3,g4⟩
def quesT(T:List Tok):Res Bd:=
 match pBody T (fuelFor T) 0 [] 0 with
 | some (.ok b k vs)=>match musT T [46] b k vs with
  | some (.ok b k vs)=>if (tk T k).kind=0 then .ok b k vs else .err 2 (tk T k).pos
  | some (.err e a)=>.err e a
  | none=>.err 0 0
 | some (.err e a)=>.err e a
 | none=>.err 0 0
end Go.Proofs.YtilpjhceemaplaaGreatDoor.P
namespace Go.Proofs.YtilpjhceemaplaaGreatDoor
open Go.Proofs.YtilpjhceemaplaaGreatDoor.Sx
section
variable{p0 p1 p2 p3 p4 p5 p6 p7:Value}{w:World}{R:Ending->World->Prop}
def sh_s_Question_c1(p0:Value)(w:World)(R:Ending->World->Prop):Prop:=
 xC 59 #[p0] w R fun x5 w1=>
 xC 57 #[p0,(.string (bs [46]))] w1 R fun x7 v1=>
 JS (fun j=>
 xH 160 0 158 p0 v1 R fun x11=>
 xrI 158 x11 (.int .i64 0) v1 R fun x12=>
 xG 157 0 155 x12 v1 R fun x14=>
 xrO .neq 155 14 x14 (.int .i64 0) v1 R fun x15=>
 BS x15 (xC 54 #[p0] v1 R fun x17 v3=>
 j (sOf []) v3) (j (sOf []) v1))
 (fun s d v2=>
 xH 160 1 41 p0 v2 R fun x22=>
 xrD 132 #[(2,x5),(3,x22)] v2 R fun x23=>
 xwB 132 x23 v2 R fun x24 v4=>
 R (.returned x24) v4)
theorem sh_s_Question_c1_ok(h:sh_s_Question_c1 p0 w R):Calls Tryz.prog 69 #[p0] w R:=
 cq (args:=[p0]) (good (fun _=>[]) (zO [(4001,[])]) (fun _=>0) (fun _=>none) (fun _=>[]) (zL [(4001,[])]) (zT [4001]) (zT [15])) Tryz.func69 rfl (by kernel_rfl) (by kernel_rfl) h
def sh_s_Question(p0:Value)(w:World)(R:Ending->World->Prop):Prop:=
 xC 68 #[p0,(.func (.func 69) #[] #[])] w R fun x5 w1=>
 xrE x5 0 w1 R fun x6=>
 xrE x5 1 w1 R fun x7=>
 R (.returned (.tuple #[x6,x7])) w1
theorem sh_s_Question_ok(h:sh_s_Question p0 w R):Calls Tryz.prog 37 #[p0] w R:=
 cq (args:=[p0]) (good (fun _=>[]) (fun _=>none) (fun _=>0) (fun _=>none) (fun _=>[]) (fun _=>[]) (fun _=>false) (fun _=>false)) Tryz.func37 rfl (by kernel_rfl) (by kernel_rfl) h
def sh_r_Question(p0:Value)(w:World)(R:Ending->World->Prop):Prop:=
 xwA 43 w R fun x2 w1=>
 xC 15 #[p0] w1 R fun x11 v1=>
 xrE x11 0 v1 R fun x12=>
 xrE x11 1 v1 R fun x13=>
 xrE x11 2 v1 R fun x14=>
 xrO .eql 62 15 x12 (.pointer none) v1 R fun x16=>
 BS x16 (xrD 43 #[] v1 R fun x17=>
 xuS 43 x2 x17 v1 R fun v2=>
 nrL 43 x2 v2 fun r=>R (.returned (.tuple #[r,x13,x14])) v2) (xC 22 #[x12] v1 R fun x21 v3=>
 xwA 40 v3 R fun x8 v4=>
 xuS 40 x8 x21 v4 R fun v5=>
 JS (fun j=>
 xH 67 4 32 x12 v5 R fun x25=>
 xrO .eql 32 25 x25 (.int .i64 0) v5 R fun x26=>
 BS x26 (xC 23 #[x12,(.string (bs [46]))] v5 R fun x28 v7=>
 j (sOf []) v7) (j (sOf []) v5))
 (fun s d v6=>
 xC 24 #[x12] v6 R fun x30 v8=>
 xH 67 4 32 x12 v8 R fun x34=>
 xrO .neq 32 34 x34 (.int .i64 0) v8 R fun x35=>
 BS x35 (HD fun S=>S v8.drew /\
 sD 43 #[] S fun x36=>
 NC x12 fun x38=>
 sG 67 4 32 x38 S fun x40=>
 NC x12 fun x42=>
 sG 67 5 3 x42 S fun x44=>
 nuS 43 x2 x36 v8.drew fun v9=>
 S v9 /\
 nrL 43 x2 v9 fun r_1=>R (.returned (.tuple #[r_1,x40,x44])) v9) (nrL 40 x8 v8.drew fun x45=>
 nH 67 2 41 x12 v8.drew fun x49=>
 nrD 43 #[(2,x45),(3,x49)] v8.drew fun x50=>
 xuS 43 x2 x50 v8.drew R fun v10=>
 nrL 43 x2 v10 fun r_2=>R (.returned (.tuple #[r_2,(.int .i64 0),(.int .i64 (-1))])) v10)))
theorem sh_r_Question_ok(h:sh_r_Question p0 w R):Calls Tryz.prog 10 #[p0] w R:=
 cq (args:=[p0]) (good (fun _=>[]) (zO [(6001,[])]) (zN [(10,6)]) (zO [(9,[0,0,1,2,3,4,5,6,7,8,9,10,11])]) (fun _=>[]) (zL [(6001,[])]) (zT [6001]) (zT [16,26,35])) Tryz.func10 rfl (by kernel_rfl) (by kernel_rfl) h
end
end Go.Proofs.YtilpjhceemaplaaGreatDoor
namespace Go.Proofs.YtilpjhceemaplaaGreatDoor
open Go.RowKit Sx
def IQu(F:Nat->Prop)(w:World)(b:Nat)(_x:P.Bd)(vs:List P.Bs):Prop:=
 F b/\vs.length≤12/\∃ xb va vc,w.heap[b]?=some (.cells #[.string (bs []),.slice none 0 0,pp xb,.slice va vs.length vc] 132 (0,0))
theorem IQu.stab(F F':Nat->Prop)(w w':World)(b:Nat)(x:P.Bd)(vs:List P.Bs)(hf:∀ b,F b->F' b)(hw:∀ b o,F b->w.heap[b]?=some o->w'.heap[b]?=some o)(h:IQu F w b x vs):IQu F' w' b x vs:=by
 obtain⟨h1,h0,xb,va,vc,h2⟩:=h
 exact⟨hf _ h1,h0,xb,va,vc,hw _ _ h1 h2⟩
def zb44:=(zA zG0 (zA @sh_s_Question_c1.eq_1 (zA @bd_132 (zA @fa_157_0 (zA @fa_160_0 (zA @fa_160_1 (zA @ix_158 (zA @ld_155 (zA @ld_158 @ld_41)))))))))
theorem sQuestion1 {pb tb:Nat} {T:List P.Tok} {w:World} (h:SP w pb tb T 0 [] 0) (hc:STabC w tb):Calls Tryz.prog 69 #[pp pb] w (SPostC IQu pb w (P.quesT T)):=by
 refine sh_s_Question_c1_ok ?_
 cases hq:P.pBody T (P.fuelFor T) 0 [] 0 with
 | none=>
  obtain⟨r,hr⟩:=(P.totB T (P.fuelFor T)).body 0 [] 0 (by unfold P.fuelFor;omega)
  rw[hr] at hq;cases hq
 | some q=>
 refine Calls.mono ((cBodies (P.fuelFor T)).go h hc (by omega) hq) ?_
 rintro e w1 hp
 cases q with
 | err c a=>
  obtain⟨⟨b,rfl,h1,h2⟩,hF,hsb⟩:=hp
  simp (disch:=first|assumption|omega|simp only[zS]<;>omega|decide) only[zb44,simprocAttr]
  refine⟨hF,?_⟩
  simp only[P.quesT,hq]
  exact⟨b,rfl,h1,h2⟩
 | ok x k vs=>
  obtain⟨v,rfl,hx,hsp,hF⟩:=hp
  obtain⟨xb,rfl,-⟩:=hx.shape
  have s1:=hF.size
  cases hmu:P.musT T [46] x k vs with
  | none=>unfold P.musT at hmu;split at hmu<;>cases hmu
  | some qm=>
  simp (disch:=first|assumption|omega|simp only[zS]<;>omega|decide) only[zb44,simprocAttr]
  refine(sMustX hsp [46] (by decide) x hmu).mono ?_
  rintro e w2 ⟨hF2,(⟨rfl,hr,hsp2⟩| ⟨c,a,hr,hfl⟩)⟩
  ·have s2:=hF2.size
   obtain⟨cap,va,vc,cs,h3,hc1,hc2,hlT,hkt,g0,g1,g2,g3,g4,g5⟩:=hsp2.x
   have l3:=ltOf h3
   simp (disch:=first|assumption|omega|simp only[zS]<;>omega|decide) only[zb44,simprocAttr]
   refine⟨fun _ w'=>w'=w2/\(P.tk T (k+1)).kind=0,?_,?_⟩
   ·by_cases hk0:(P.tk T (k+1)).kind=0
    ·have hk0':(((P.tk T (k+1)).kind:Nat):Int)=0:=by omega
     simp (disch:=first|assumption|omega|simp only[zS]<;>omega|decide) only[zb44,simprocAttr,h3,g0,g3]
     exact hk0
    ·have hk0':¬ (((P.tk T (k+1)).kind:Nat):Int)=0:=by omega
     simp (disch:=first|assumption|omega|simp only[zS]<;>omega|decide) only[zb44,simprocAttr,h3,g0,g3]
     refine(sNone hsp2).mono ?_
     rintro e w3 ⟨hfl,hF3,-⟩
     have hfl2:=faulted_back hfl (Nat.le_trans s1 s2)
     obtain⟨b,rfl,-,-⟩:=hfl
     simp (disch:=first|assumption|omega|simp only[zS]<;>omega|decide) only[zb44,simprocAttr]
     refine⟨(hF.trans hF2).trans hF3,?_⟩
     simp only[P.quesT,hq,hmu,hr,if_neg hk0]
     exact hfl2
   ·rintro _ w3 ⟨rfl,hk0⟩ d
    simp (disch:=first|assumption|omega|simp only[zS]<;>omega|decide) only[zb44,simprocAttr,h3]
    have hX:Ext w3 (w3.alloc (.cells #[.string (bs []),.slice none 0 0,pp xb,.slice va vs.length vc] 132)):=by(repeat (first | assumption | exact FrM.refl _ _ | (refine FrM.upd ?_ (.inr (by(try simp only[zS])<;>omega))) | refine FrM.alloc ?_ _ | refine FrM.drew ?_))
    refine⟨(hF.trans hF2).trans hX.toM,?_⟩
    simp only[P.quesT,hq,hmu,hr,if_pos hk0]
    exact⟨_,rfl,⟨by omega,by rw[size_alloc];omega⟩,hsp2.nv,xb,va,vc,hp_alloc_new rfl⟩
  ·have hfl2:=faulted_back hfl s1
   obtain⟨b,rfl,-,-⟩:=hfl
   simp (disch:=first|assumption|omega|simp only[zS]<;>omega|decide) only[zb44,simprocAttr]
   refine⟨hF.trans hF2,?_⟩
   simp only[P.quesT,hq,hmu,hr]
   exact hfl2
def zb45:=(zA zG0 @sh_s_Question.eq_1)
theorem sQuestion (s:P.Bs) (w:World) (hl:s.length≤100000) (hT:STabs2 w) (hC:STabC w w.heap.size):Calls Tryz.prog 37 #[.string (bs s)] w (SPostK IQu w (P.ofText P.quesT s)):=by
 refine sh_s_Question_ok ?_
 refine(sCaughtC IQu.stab (g:=P.quesT) (by kernel_rfl) s w hl hT fun _ h hc=>sQuestion1 h (hc hC)).mono ?_
 rintro e w1 ⟨hE,hp⟩
 cases hr:P.ofText P.quesT s with
 | err c a=>
  rw[hr] at hp
  obtain⟨b,rfl,h1⟩:=hp
  simp (disch:=first|assumption|omega|simp only[zS]<;>omega|decide) only[zb45,simprocAttr]
  exact⟨hE,b,rfl,h1⟩
 | ok x k vs=>
  rw[hr] at hp
  obtain⟨b,rfl,h1⟩:=hp
  simp (disch:=first|assumption|omega|simp only[zS]<;>omega|decide) only[zb45,simprocAttr]
  exact⟨hE,b,rfl,h1⟩
end Go.Proofs.YtilpjhceemaplaaGreatDoor
