/- A part of one proof (RW4, RW5, RW6, RW7, RW8, RW9, RW10). -/
import Derived.Test.YtilpjhceemaplaaGreatDoorPkAAG
set_option linter.all false
set_option linter.unusedVariables false
set_option linter.unusedSimpArgs false
set_option maxRecDepth 100000
set_option maxHeartbeats 4000000
namespace Go.Proofs.YtilpjhceemaplaaGreatDoor
open Go.RowKit Sx
theorem Tryz.infoS:(Tryz.prog.info? 9).map (fun i=>(i.zero,i.size,i.bytes))=some (some (.string (bs [])),1,16):=by kernel_rfl
theorem wr_appendS{w:World}{base n:Nat}{v:Value}{xs:List Value}(hown:w.ownsRow base 9 1 v n xs){b m:Nat}{s:List UInt8}
  (hb:w.heap[b]?=some (.cells #[.string (bs s)] 9)) (hn:n≤100000) (hbase:base≤w.heap.size) {K:Value->World->Prop} {X:Value->World->Prop}
  (h:∀ v' w',w'.ownsRow base 9 1 v' (n+1) (xs++[.string (bs s)])->w.grownBy w' v.ownBlock->(v'.ownBlock=v.ownBlock\/∀ k,v'.ownBlock=some k->w.heap.size≤k)->K v' w') :
  WR Tryz.prog (Builtin.append_ #[41,41] 41 #[v,.slice (some ⟨b,0,none⟩) 1 m]) w K X:=by
 obtain⟨i,hi,h0⟩:=Option.map_eq_some_iff.1 Tryz.infoS
 simp only[Prod.mk.injEq] at h0
 obtain⟨hz,hs,hbt⟩:=h0
 refine wr_append (t:=41) (e:=9) (by kernel_rfl) hi hz hs hbt rfl (by decide) hown hb rfl (fun u hu=>?_) (by omega) (by decide) hbase h
 simp only[List.mem_cons,List.not_mem_nil,or_false] at hu
 subst hu;rfl
theorem isRx_var(F:Nat->Prop)(w:World)(j:Nat):IsRx F w [.int .u8 118,.string (bs []),zi 0,zi j,.slice none 0 0] (.mk 118 [] 0 j []):=by
 unfold IsRx
 exact⟨_,[],rfl,.inl ⟨rfl,rfl,rfl⟩,by unfold IsRxs;rfl⟩
theorem own_str{w:World}{base:Nat}{vv:Value}{vars:List P.Bs}(h:w.ownsRow base 9 1 vv vars.length (vars.map fun s=>.string (bs s))){j:Nat}(hj:j<vars.length) :
  ∃ g cap cur,vv = .slice (some ⟨g,0,none⟩) vars.length cap/\base≤g/\w.heap[g]?=some (.cells cur 9 (0,0))/\cur[j]?=some (.string (bs (vars.getD j []))):=by
 rcases h.2 with⟨rfl,h0⟩| ⟨g,cap,cur,rfl,h1,h2,h3,h4,h5,h6⟩
 ·omega
 ·refine⟨g,cap,cur,rfl,h1,h2,?_⟩
  have e:(cur.toList.take (vars.length*1))[j]?=some (.string (bs (vars.getD j []))):=by
   rw[h6]
   simp [hj]
  rw[List.getElem?_take] at e
  rw[if_pos (by omega)] at e
  simpa using e
theorem own_ne{w:World}{base e size n:Nat}{v:Value}{xs:List Value}(h:w.ownsRow base e size v n xs){b T:Nat}{cs:Array Value}{z:Nat×Nat}(hb:w.heap[b]?=some (.cells cs T z))(hT:T≠e):some b≠v.ownBlock:=by
 intro e1
 rcases h.2 with⟨rfl,_⟩| ⟨g,cap,cur,rfl,h1,h2,_⟩
 ·cases e1
 ·simp only[Value.ownBlock,Option.some.injEq] at e1
  subst e1
  rw[h2] at hb
  injection hb with hb
  injection hb with _ hb
  exact hT hb.symm
theorem own_updT{w:World}{base e size n:Nat}{v:Value}{xs:List Value}(h:w.ownsRow base e size v n xs){p T:Nat}{cs:Array Value}{z:Nat×Nat}{o:Obj}(hb:w.heap[p]?=some (.cells cs T z))(hT:T≠e):(upd w p o).ownsRow base e size v n xs:=by
 have hne:=own_ne h hb hT
 obtain⟨g1,g2⟩:=h
 refine⟨g1,?_⟩
 rcases g2 with g | ⟨g,cp,cur,e1,e2,e3,e4⟩
 ·exact .inl g
 ·refine .inr ⟨g,cp,cur,e1,e2,?_,e4⟩
  have:p≠g:=fun e5=>hne (by rw[e1,e5];rfl)
  rw[hp_upd_other (by omega)];exact e3
theorem FrM.growS{pb:Nat}{a b c:World}(h:RFr pb a b){n:Nat}{v:Value}{xs:List Value}(hu:b.ownsRow (pb+1) 9 1 v n xs)(hg:b.grownBy c v.ownBlock):RFr pb a c:=
 ⟨hg.os.trans h.os,hg.tape.trans h.tape,hg.output.trans h.output,Nat.le_trans h.size hg.size,fun i o hi hm=>by
  have h1:=h.block i o hi hm
  rw[hg.block i (ltOf h1) (fun e1=>?_)]
  ·exact h1
  ·rcases hu.2 with⟨rfl,_⟩| ⟨g,cap,cur,rfl,h2,h3,_⟩
   ·cases e1
   ·simp only[Value.ownBlock,Option.some.injEq] at e1
    subst e1
    rw[h3] at h1
    injection h1 with h1
    exact hm (.inr ⟨by omega,_,_,h1.symm⟩)⟩
def VT(p0 x3 x4:Value)(w:World)(R:Ending->World->Prop):Prop:=
 HD fun S=>S w.drew /\
 NC p0 fun x44=>
 RDS Tryz.prog (Instr.fieldAt 67 x44 2) S (fun x45=>
 RDS Tryz.prog (Instr.loadAt 41 x45) S (fun x46=>
 RD Tryz.prog (Instr.fieldAt 69 x3 1) w.drew (fun x47=>
 RD Tryz.prog (Instr.loadAt 9 x47) w.drew (fun x48=>
 WR Tryz.prog (Instr.buildSlice 41 1 #[(0,x48)]) w.drew (fun x49 w1=>
 S w1 /\
 WR Tryz.prog (Builtin.append_ #[41,41] 41 #[x46,x49]) w1 (fun x50 w2=>
 S w2 /\
 NC p0 fun x51=>
 RD Tryz.prog (Instr.fieldAt 67 x51 2) w2 (fun x52=>
 WU Tryz.prog (Instr.storeAt 41 x52 x50) w2 (fun w3=>
 NC p0 fun x54=>
 RD Tryz.prog (Instr.fieldAt 67 x54 2) w3 (fun x55=>
 RD Tryz.prog (Instr.loadAt 41 x55) w3 (fun x56=>
 RD Tryz.prog (Builtin.len_ #[41] 3 #[x56]) w3 (fun x57=>
 RD Tryz.prog (bo .sub 3 (.tmp 57) (.const (zi 1)) x57 (zi 1)) w3 (fun x58=>
 RD Tryz.prog (Instr.build 111 #[(0,(.int .u8 118)),(3,x58)]) w3 (fun x59=>
 WU Tryz.prog (Instr.storeAt 111 x4 x59) w3 (fun w4=>
 RD Tryz.prog (Instr.loadAt 111 x4) w4 (fun r=>R (.returned r) w4) NX) (PX R)) (PX R)) (PX R)) (PX R)) (PX R)) (PX R)) NX) NX) NX) NX) NX) NX))
def zb13:=(zA zG0 (zA @sh_Pr_parser_variable.eq_1 (zA @al_111 (zA @bd_111 (zA @br_41_1 (zA @fa_67_2 (zA @fa_69_1 (zA @fa_69_2 (zA @ix_41 (zA @ld_111 (zA @ld_3 (zA @ld_41 (zA @ld_9 (zA @ln_41 (zA @st_111 @st_41)))))))))))))))
theorem rVarTail {pb tb:Nat} {T:List P.Tok} {k:Nat} {vars:List P.Bs} {d:Int} {er at_ lc:Nat} {vv:Value} {w:World} (hx:RPx w pb tb T k vars d er at_ lc vv) (hn:vars.length≤11\/(er≠0/\vars.length≤12))
  {bx bx2:Nat} {t:P.Tok} {kd:Nat} (hpb:pb<bx) (hbx:bx<bx2) (b1:w.heap[bx]?=some (.cells #[.int .u8 kd,.string (bs t.text),zi t.pos] 69))
  (b2:w.heap[bx2]?=some (.cells #[.int .u8 0,.string (bs []),zi 0,zi 0,.slice none 0 0] 111 (0,0))) {R:Ending->World->Prop}
  (hR:∀ w',RP w' pb tb T k (vars++[t.text]) d er at_->(∀ w0,RFr pb w0 w->w0.heap.size≤bx->RFr pb w0 w')->R (.returned (.agg #[.int .u8 118,.string (bs []),zi 0,zi vars.length,.slice none 0 0])) w') :
  VT (pp pb) (pp bx) (pp bx2) w R:=by
 have l1:=ltOf hx.cell
 have l3:=ltOf b2
 obtain⟨va,vc,hvv⟩:=own_slice hx.own
 subst hvv
 have h3:=hx.cell
 refine⟨fun w'=>w'.heap[pb]?=some (.cells #[.slice (some ⟨tb,0,none⟩) T.length lc,zi k,.slice va vars.length vc,zi d,zi er,zi at_] 67),hx.cell,?_⟩
 refine rds (pq pb 2) (fun w' hS=>?_) (rds (.slice va vars.length vc) (fun w' hS=>?_) ?_)
 ·simp (disch:=first|assumption|omega|simp only[zS]<;>omega|decide) only[zb13,simprocAttr,hS]
 ·have:=ltOf hS
  simp (disch:=first|assumption|omega|simp only[zS]<;>omega|decide) only[zb13,simprocAttr,hS]
 ·simp (disch:=first|assumption|omega|simp only[zS]<;>omega|decide) only[zb13,simprocAttr,h3,b1,b2]
  have hx3:Ext w (w.drew.alloc (.cells #[.string (bs t.text)] 9)):=(FrM.refl _ _).drew.alloc _
  have hown:=own_ext hx3.ext hx.own
  have hv12:=hx.nv
  refine wr_appendS (base:=pb+1) hown (hp_alloc_new (by rw[sz_drew])) (by omega) (by have:=hx3.size;omega) ?_
  intro v' w4 hown4 hg4 hv4
  obtain⟨va',vc',hvv'⟩:=own_slice hown4
  subst hvv'
  have hs4:=hg4.size
  have hs3:=hx3.size
  have kp:∀ b o,w.heap[b]?=some o->some b≠(Value.slice va vars.length vc).ownBlock->w4.heap[b]?=some o:=fun b o hb hne=>by
   have h1:=hx3.ext _ _ hb
   rw[hg4.block b (ltOf h1) hne];exact h1
  have p4:=kp _ _ h3 (fun e=>by have:=(hown.lt _ e.symm).1;omega)
  have b4:=kp _ _ b2 (own_ne hx.own b2 (by decide))
  simp (disch:=first|assumption|omega|simp only[zS]<;>omega|decide) only[zb13,simprocAttr,p4,b4]
  have e1:((vars.length+1:Nat):Int)-1=vars.length:=by omega
  rw[e1]
  have hl:(vars++[t.text]).length=vars.length+1:=by simp
  refine hR _ ⟨lc,.slice va' (vars.length+1) vc',hx.tw,hx.lt,hx.kt,?_,hx.dp,?_,hx.lc1,hx.lc2,?_,?_⟩ (fun w0 hf0 hs0=>?_)
  ·rw[hl]
   refine⟨by omega,fun e=>?_⟩
   omega
  ·obtain⟨cs,c1,c2⟩:=hx.toks
   have:=hx.lt
   refine⟨cs,?_,c2⟩
   rw[hp_upd_other (by omega),hp_upd_other (by omega)]
   exact kp _ _ c1 (own_ne hx.own c1 (by decide))
  ·rw[hp_upd_other (by omega)]
   exact hp_upd_same rfl (ltOf p4)
  ·rw[hl,List.map_append]
   refine own_updT (T:=111) (own_upd hown4 (Nat.lt_succ_self _)) (by rw[hp_upd_other (by omega)];exact b4) (by decide)
  ·exact(((hf0.trans hx3.toM).growS hown hg4).upd (.inl fun _=>.inl rfl)).upd (.inr (by omega))
theorem rVariable{pb tb:Nat}{T:List P.Tok}{k:Nat}{vars:List P.Bs}{d:Nat}{w:World}(h:RP w pb tb T k vars d 0 0)(t:P.Tok)(kd:Nat) :
  Calls Tryz.prog 175 #[.pointer (some ⟨pb,0,none⟩),.agg #[.int .u8 kd,.string (bs t.text),.int .i64 t.pos]] w (RPostX pb tb T d w (P.pVar t k vars)):=by
 obtain⟨lc,vv,hx⟩:=id h
 have l1:=ltOf hx.cell
 have nv:=hx.nv.2 rfl
 obtain⟨va,vc,hvv⟩:=own_slice hx.own
 subst hvv
 have h3:=hx.cell
 refine sh_Pr_parser_variable_ok ?_
 simp (disch:=first | assumption | omega | ((simp only[size_alloc,sz_drew,size_upd,List.size_toArray,List.length_cons,List.length_nil])<;>omega) | decide) only[sh_Pr_parser_variable,Pr,PX,PC,NX,ends,fillL,wrL,sOf,Nat.reduceAdd,Nat.reduceMul,Nat.reduceLeDiff,Nat.reduceEqDiff,Int.reduceToNat,Int.reduceAdd,Int.reduceLT,Int.reduceLE,↓reduceIte,forall_const,eq_self,zG1,zG2,al_111,bd_111,br_41_1,fa_67_2,fa_69_1,fa_69_2,ix_41,ld_111,ld_3,ld_41,ld_9,ln_41,st_111,st_41]
 refine⟨fun n s w1=>∃ j:Nat,j≤vars.length/\n=vars.length-j/\s 5 = .int .i64 j/\Ext ((w.alloc (.cells #[.int .u8 kd,.string (bs t.text),.int .i64 t.pos] 69)).alloc (.cells #[.int .u8 0,.string (bs []),.int .i64 0,.int .i64 0,.slice none 0 0] 111)) w1 /\
   (t.text≠[95]->∀ i,i<j->vars.getD i []≠t.text)/\(t.text=[95]->j=0),
  ⟨vars.length,0,Nat.zero_le _,rfl,rfl,FrM.refl _ _,fun _ i hi=>absurd hi (Nat.not_lt_zero _),fun _=>rfl⟩,?_⟩
 intro n s dd w1 hI
 refine toPr ?_
 obtain⟨j,hj,rfl,h5,hf,hno,hno2⟩:=hI
 have hz:=hf.size
 rw[size_alloc,size_alloc] at hz
 have b1:w1.heap[w.heap.size]?=some (.cells #[.int .u8 kd,.string (bs t.text),.int .i64 t.pos] 69 (0,0)):=hf.ext _ _ (blk_alloc_old (blk_alloc_new w _))
 have b2:w1.heap[w.heap.size+1]?=some (.cells #[.int .u8 0,.string (bs []),.int .i64 0,.int .i64 0,.slice none 0 0] 111 (0,0)):=hf.ext _ _ (hp_alloc_new (by rw[size_alloc]))
 have hf1:Ext w w1:=(((FrM.refl _ _).alloc _).alloc _).trans hf
 have hx1:=hx.ext hf1
 have h3:=hx1.cell
 have hv12:vars.length≤12:=nv
 have hfound:∀ {w2:World},Ext w w2->t.text≠[95]->j<vars.length->vars.getD j []=t.text ->
   RPostX pb tb T d w (P.pVar t k vars) (.returned (.agg #[.int .u8 118,.string (bs []),.int .i64 0,.int .i64 j,.slice none 0 0])) w2:=fun hf2 ht hj hg=>by
  have e:vars.idxOf? t.text=some j:=by
   rw[List.idxOf?_eq_some_iff]
   refine⟨hj,?_,fun i hi=>?_⟩
   ·simpa [List.getD,hj] using hg
   ·have:=hno ht i hi
    simpa [List.getD,show i<vars.length by omega] using this
  unfold P.pVar
  rw[if_neg ht,e]
  exact⟨_,_,_,_,_,rfl,⟨rfl,rfl,rfl,rfl,rfl,.of (by decide)⟩,hf2.toM,isRx_var _ _ _,h.ext hf2⟩
 have hend:t.text=[95]\/(∀ i,i<vars.length->vars.getD i []≠t.text)->(if t.text=[95] then none else vars.idxOf? t.text)=none:=fun h0=>by
  by_cases ht:t.text=[95]
  ·rw[if_pos ht]
  ·rw[if_neg ht]
   have h0:=h0.resolve_left ht
   rw[List.idxOf?_eq_none_iff]
   intro hm
   obtain⟨i,hi,e⟩:=List.getElem_of_mem hm
   exact h0 i hi (by simp [List.getD,hi,e])
 have hnew:∀ {bx2:Nat},bx2=w.heap.size+1->(if t.text=[95] then none else vars.idxOf? t.text)=none->vars.length≠12 ->
   VT (.pointer (some ⟨pb,0,none⟩)) (.pointer (some ⟨w.heap.size,0,none⟩)) (.pointer (some ⟨bx2,0,none⟩)) w1 (RPostX pb tb T d w (P.pVar t k vars)):=fun hb0 he hne=>by
  subst hb0
  refine rVarTail hx1 (.inl (by omega)) l1 (Nat.lt_succ_self _) b1 b2 fun w' hP hF=>?_
  unfold P.pVar
  rw[he]
  dsimp only
  rw[if_neg (show ¬ vars.length=P.maxVars from hne)]
  exact⟨_,_,_,_,_,rfl,⟨rfl,rfl,rfl,rfl,rfl,.of (by decide)⟩,hF w hf1.toM (Nat.le_refl _),isRx_var _ _ _,hP⟩
 have hfull:∀ {bx2:Nat} {w2:World},bx2=w.heap.size+1->(if t.text=[95] then none else vars.idxOf? t.text)=none->vars.length=12->RP w2 pb tb T k vars d 4 t.pos->RFr pb w1 w2 ->
   VT (.pointer (some ⟨pb,0,none⟩)) (.pointer (some ⟨w.heap.size,0,none⟩)) (.pointer (some ⟨bx2,0,none⟩)) w2 (RPostX pb tb T d w (P.pVar t k vars)):=fun hb0 he hne hP2 hF2=>by
  subst hb0
  obtain⟨lc2,vv2,hx2⟩:=hP2
  refine rVarTail hx2 (.inr ⟨by decide,by omega⟩) l1 (Nat.lt_succ_self _) (SFr.keep hF2 b1 (by omega) (by decide)) (SFr.keep hF2 b2 (by omega) (by decide)) fun w' hP hF=>?_
  unfold P.pVar
  rw[he]
  dsimp only
  rw[if_pos (show vars.length=P.maxVars from hne)]
  exact⟨_,_,_,_,_,rfl,⟨rfl,rfl,rfl,rfl,rfl,.of (by decide)⟩,hF w (hf1.toM.trans hF2) (Nat.le_refl _),by decide,_,_,hP⟩
 by_cases hlt:j<vars.length
 ·by_cases ht:t.text=[95]
  ·have hj0:=hno2 ht
   subst hj0
   have he:=hend (.inl ht)
   by_cases h12:vars.length=12
   ·simp (disch:=first | assumption | omega | ((simp only[size_alloc,sz_drew,size_upd,List.size_toArray,List.length_cons,List.length_nil])<;>omega) | decide) only[sh_Pr_parser_variable,Pr,PX,PC,NX,ends,fillL,wrL,sOf,Nat.reduceAdd,Nat.reduceMul,Nat.reduceLeDiff,Nat.reduceEqDiff,Int.reduceToNat,Int.reduceAdd,Int.reduceLT,Int.reduceLE,↓reduceIte,forall_const,eq_self,zG1,zG2,al_111,bd_111,br_41_1,fa_67_2,fa_69_1,fa_69_2,ix_41,ld_111,ld_3,ld_41,ld_9,ln_41,st_111,st_41,h3,b1,b2,h5,ht,h12]
    refine(rFault (RP.of hx1) 4 _).mono ?_
    rintro e w2 ⟨rfl,hP2,hF2⟩
    rw[if_pos rfl,if_pos rfl] at hP2
    exact fun _=>hfull (by rw[size_alloc]) he h12 hP2 hF2
   ·simp (disch:=first | assumption | omega | ((simp only[size_alloc,sz_drew,size_upd,List.size_toArray,List.length_cons,List.length_nil])<;>omega) | decide) only[sh_Pr_parser_variable,Pr,PX,PC,NX,ends,fillL,wrL,sOf,Nat.reduceAdd,Nat.reduceMul,Nat.reduceLeDiff,Nat.reduceEqDiff,Int.reduceToNat,Int.reduceAdd,Int.reduceLT,Int.reduceLE,↓reduceIte,forall_const,eq_self,zG1,zG2,al_111,bd_111,br_41_1,fa_67_2,fa_69_1,fa_69_2,ix_41,ld_111,ld_3,ld_41,ld_9,ln_41,st_111,st_41,h3,b1,b2,h5,ht]
    exact hnew (by rw[size_alloc]) he h12
  ·obtain⟨g,cap,cur,hvv,hg1,hg2,hg3⟩:=own_str hx1.own hlt
   injection hvv with hva _ hvc
   subst hva
   subst hvc
   have lg:=ltOf hg2
   by_cases he:vars.getD j []=t.text
   ·rw[he] at hg3
    simp (disch:=first | assumption | omega | ((simp only[size_alloc,sz_drew,size_upd,List.size_toArray,List.length_cons,List.length_nil])<;>omega) | decide) only[sh_Pr_parser_variable,Pr,PX,PC,NX,ends,fillL,wrL,sOf,Nat.reduceAdd,Nat.reduceMul,Nat.reduceLeDiff,Nat.reduceEqDiff,Int.reduceToNat,Int.reduceAdd,Int.reduceLT,Int.reduceLE,↓reduceIte,forall_const,eq_self,zG1,zG2,al_111,bd_111,br_41_1,fa_67_2,fa_69_1,fa_69_2,ix_41,ld_111,ld_3,ld_41,ld_9,ln_41,st_111,st_41,h3,b1,b2,h5,hg2,hg3]
    exact hfound (hf1.drew.upd (.inr (by omega))) ht hlt he
   ·simp (disch:=first | assumption | omega | ((simp only[size_alloc,sz_drew,size_upd,List.size_toArray,List.length_cons,List.length_nil])<;>omega) | decide) only[sh_Pr_parser_variable,Pr,PX,PC,NX,ends,fillL,wrL,sOf,Nat.reduceAdd,Nat.reduceMul,Nat.reduceLeDiff,Nat.reduceEqDiff,Int.reduceToNat,Int.reduceAdd,Int.reduceLT,Int.reduceLE,↓reduceIte,forall_const,eq_self,zG1,zG2,al_111,bd_111,br_41_1,fa_67_2,fa_69_1,fa_69_2,ix_41,ld_111,ld_3,ld_41,ld_9,ln_41,st_111,st_41,h3,b1,b2,h5,hg2,hg3]
    refine⟨vars.length-(j+1),by omega,j+1,by omega,rfl,rfl,hf.drew,fun _ i hi=>?_,fun h=>absurd h ht⟩
    rcases Nat.lt_or_ge i j with h1 | h1
    ·exact hno ht i h1
    ·obtain rfl:i=j:=by omega
     exact he
 ·have he:=hend (by
   by_cases ht:t.text=[95]
   ·exact .inl ht
   ·exact .inr fun i hi=>hno ht i (by omega))
  by_cases h12:vars.length=12
  ·simp (disch:=first | assumption | omega | ((simp only[size_alloc,sz_drew,size_upd,List.size_toArray,List.length_cons,List.length_nil])<;>omega) | decide) only[sh_Pr_parser_variable,Pr,PX,PC,NX,ends,fillL,wrL,sOf,Nat.reduceAdd,Nat.reduceMul,Nat.reduceLeDiff,Nat.reduceEqDiff,Int.reduceToNat,Int.reduceAdd,Int.reduceLT,Int.reduceLE,↓reduceIte,forall_const,eq_self,zG1,zG2,al_111,bd_111,br_41_1,fa_67_2,fa_69_1,fa_69_2,ix_41,ld_111,ld_3,ld_41,ld_9,ln_41,st_111,st_41,h3,b1,b2,h5,h12]
   refine(rFault (RP.of hx1) 4 _).mono ?_
   rintro e w2 ⟨rfl,hP2,hF2⟩
   rw[if_pos rfl,if_pos rfl] at hP2
   exact fun _=>hfull (by rw[size_alloc]) he h12 hP2 hF2
  ·simp (disch:=first | assumption | omega | ((simp only[size_alloc,sz_drew,size_upd,List.size_toArray,List.length_cons,List.length_nil])<;>omega) | decide) only[sh_Pr_parser_variable,Pr,PX,PC,NX,ends,fillL,wrL,sOf,Nat.reduceAdd,Nat.reduceMul,Nat.reduceLeDiff,Nat.reduceEqDiff,Int.reduceToNat,Int.reduceAdd,Int.reduceLT,Int.reduceLE,↓reduceIte,forall_const,eq_self,zG1,zG2,al_111,bd_111,br_41_1,fa_67_2,fa_69_1,fa_69_2,ix_41,ld_111,ld_3,ld_41,ld_9,ln_41,st_111,st_41,h3,b1,b2,h5]
   exact hnew (by rw[size_alloc]) he h12
theorem isRx_nil(F:Nat->Prop)(w:World)(kd:Nat)(s:P.Bs)(n:Int):IsRx F w [.int .u8 kd,.string (bs s),zi n,zi 0,.slice none 0 0] (.mk kd s n 0 []):=by
 unfold IsRx
 exact⟨_,[],rfl,.inl ⟨rfl,rfl,rfl⟩,by unfold IsRxs;rfl⟩
theorem RP.cs{w:World}{pb tb:Nat}{T:List P.Tok}{k:Nat}{vars:List P.Bs}{d:Int}{er at_:Nat}(h:RP w pb tb T k vars d er at_):pb<w.heap.size/\k<T.length/\T.length≤2001/\(P.tk T k).kind≤4:=by
 obtain⟨_,_,h⟩:=h
 exact⟨ltOf h.cell,h.kt,h.tw.len,h.kind4⟩
theorem rMustX{pb tb:Nat}{T:List P.Tok}{k:Nat}{vars:List P.Bs}{d:Int}{w:World}(h:RP w pb tb T k vars d 0 0)(s:P.Bs){α:Type}(x:α){r:P.Res α}(hr:P.musT T s x k vars=some r){R:Ending->World->Prop}
  (hok:∀ w',r = .ok x (k+1) vars->RP w' pb tb T (k+1) vars d 0 0->RFr pb w w'->R (.returned (.tuple #[])) w')
  (herr:∀ w' a,r = .err 2 a->RP w' pb tb T k vars d 2 a->RFr pb w w'->R (.returned (.tuple #[])) w') :
  Calls Tryz.prog 23 #[pp pb,.string (bs s)] w R:=by
 unfold P.musT at hr
 split at hr
 ·rename_i hs
  refine(rMust_yes h s hs).mono ?_
  rintro e w1 ⟨rfl,h1,hf⟩
  exact hok w1 (Option.some.inj hr).symm h1 hf
 ·rename_i hs
  refine(rMust_no h s (.inr (by simpa using hs))).mono ?_
  rintro e w1 ⟨rfl,h1,hf⟩
  exact herr w1 _ (Option.some.inj hr).symm h1 hf
theorem rMustE{pb tb:Nat}{T:List P.Tok}{k:Nat}{vars:List P.Bs}{d:Int}{c a:Nat}{w:World}(h:RP w pb tb T k vars d c a)(s:P.Bs)(hc:c≠0) :
  Calls Tryz.prog 23 #[pp pb,.string (bs s)] w fun e w'=>e = .returned (.tuple #[])/\RP w' pb tb T k vars d c a/\RFr pb w w':=by
 refine(rMust_no h s (.inl hc)).mono ?_
 rintro e w1 ⟨rfl,h1,hf⟩
 rw[if_neg hc,if_neg hc] at h1
 exact⟨rfl,h1,hf⟩
theorem RPx.updT{w:World}{pb tb:Nat}{T:List P.Tok}{k:Nat}{vars:List P.Bs}{d:Int}{er at_ lc:Nat}{vv:Value}(h:RPx w pb tb T k vars d er at_ lc vv){q t:Nat}{cs:Array Value}{z:Nat×Nat}{o:Obj}
  (hq:pb<q) (hb:w.heap[q]?=some (.cells cs t z)) (ht:t≠9):RPx (upd w q o) pb tb T k vars d er at_ lc vv:=by
 obtain⟨tw,lt,kt,nv,dp,⟨cs,c1,c2⟩,h1,h2,h3,g⟩:=h
 refine⟨tw,lt,kt,nv,dp,⟨cs,?_,c2⟩,h1,h2,?_,own_updT g hb ht⟩
 ·rw[hp_upd_other (by omega)];exact c1
 ·rw[hp_upd_other (by omega)];exact h3
theorem RP.updT{w:World}{pb tb:Nat}{T:List P.Tok}{k:Nat}{vars:List P.Bs}{d:Int}{er at_:Nat}(h:RP w pb tb T k vars d er at_){q t:Nat}{cs:Array Value}{z:Nat×Nat}{o:Obj}
  (hq:pb<q) (hb:w.heap[q]?=some (.cells cs t z)) (ht:t≠9):RP (upd w q o) pb tb T k vars d er at_:=by
 obtain⟨lc,vv,h⟩:=h
 exact⟨lc,vv,h.updT hq hb ht⟩
theorem rStepP{w w2:World}{pb tb:Nat}{T:List P.Tok}{k:Nat}{vars:List P.Bs}{d:Int}{lc:Nat}{vv:Value}(hx:RPx w pb tb T k vars d 0 0 lc vv)(hf:Ext w w2){kz:Int}(hkz:kz=(k+1:Nat))(hk:k+1<T.length) :
  RP (upd w2 pb (.cells #[.slice (some ⟨tb,0,none⟩) T.length lc,zi kz,vv,zi d,zi (0:Nat),zi (0:Nat)] 67)) pb tb T (k+1) vars d 0 0:=
 RP.of ((hx.ext hf).set hk hx.dp hkz fun _=>rfl)
theorem rStepF{w w2:World}{pb:Nat}(hf:Ext w w2){o:Obj}:RFr pb w (upd w2 pb o):=hf.toM.upd (.inl fun _=>.inl rfl)
theorem rBoxX{w wA w2:World}{pb tb:Nat}{T:List P.Tok}{d:Nat}{l:List Value}{r:P.Res P.Ex}(hfr:RFr pb w wA)(hF2:RFr pb wA w2)(hst:RStX pb tb T d wA w2 l r){q t:Nat}{cs:Array Value}{z:Nat×Nat}
  (hq:w.heap.size≤q) (hqA:q<wA.heap.size) (hpb:pb<w.heap.size) (hb:w2.heap[q]?=some (.cells cs t z)) (ht:t≠9) (o:Obj) :
  RFr pb w (upd w2 q o)/\RStX pb tb T d w (upd w2 q o) l r:=by
 refine⟨(hfr.trans hF2).upd (.inr hq),?_⟩
 cases r with
 | err c a=>
  obtain⟨hc,k,vs,hP⟩:=hst
  exact⟨hc,k,vs,hP.updT (by omega) hb ht⟩
 | ok x k vs=>
  obtain⟨hx,hP⟩:=hst
  refine⟨IsRx.mono (fun b hb=>⟨by have:=hb.1;omega,by rw[size_upd];exact hb.2⟩) (fun b cs hb hc=>?_) _ _ hx,hP.updT (by omega) hb ht⟩
  rw[hp_upd_other (by have:=hb.1;omega)];exact hc
structure RCB(f:Nat):Prop where
 go:∀ {pb tb:Nat} {T:List P.Tok} {k:Nat} {vars:List P.Bs} {d:Nat} {w:World} {r:P.Res P.Ex},RP w pb tb T k vars (d+1:Nat) 0 0->d+1≤8 ->
  P.pPrim T (f+1) k vars d=some r->Calls Tryz.prog 149 #[pp pb] w (RPostX pb tb T (d+1) w r)
def zb14:=(zA zG0 (zA @sh_Pr_parser_bare.eq_1 (zA @al_111 (zA @al_69 (zA @bd_111 (zA @fa_111_0 (zA @fa_111_4 (zA @fa_67_1 (zA @fa_69_0 (zA @fa_69_1 (zA @fa_69_2 (zA @ld_111 (zA @ld_3 (zA @ld_5 (zA @ld_69 (zA @ld_9 (zA @st_111 (zA @st_3 (zA @st_37 (zA @st_5 @st_69))))))))))))))))))))
theorem rBare {f:Nat} (hE:RCE f) (hA:RCA f) (hL:RCL f):RCB f:=⟨by
 intro pb tb T k vars d w r h hd hr
 obtain⟨l1,hkt,hlT,h4⟩:=h.cs
 obtain⟨lc,vv,hx⟩:=id h
 rw[P.pPrim,if_neg (by unfold P.maxDepth;omega)] at hr
 have hf0:Ext w (w.alloc (.cells #[.int .u8 0,.string (bs []),zi 0,zi 0,.slice none 0 0] 111)):=(FrM.refl _ _).alloc _
 have hkn:(P.tk T k).kind≠0->k+1<T.length:=fun h0=>hx.tw.next hkt h0
 by_cases k3:(P.tk T k).kind=3
 ·rw[if_pos k3] at hr
  obtain rfl:=(Option.some.inj hr).symm
  obtain⟨-,hdg,hln⟩:=hx.tw.digits _ (tk_mem hkt) k3
  refine sh_Pr_parser_bare_ok ?_
  simp (disch:=first|assumption|omega|simp only[zS]<;>omega|decide) only[zb14,simprocAttr]
  refine(rNext (h.ext hf0)).mono ?_
  rintro e w1 ⟨rfl,hf1⟩
  have hs1:=hf1.size
  rw[size_alloc] at hs1
  have b0:=hf1.ext _ _ (blk_alloc_new w _)
  have hf01:=hf0.trans hf1
  have hx1:=hx.ext hf01
  have h3:=hx1.cell
  rw[k3,show rk 3=110 from rfl]
  simp (disch:=first|assumption|omega|simp only[zS]<;>omega|decide) only[zb14,simprocAttr,h3,b0]
  refine(rValue _ _ hdg hln).mono ?_
  rintro e w2 ⟨rfl,rfl⟩
  simp (disch:=first|assumption|omega|simp only[zS]<;>omega|decide) only[zb14,simprocAttr,h3,b0]
  refine⟨_,_,_,_,_,rfl,⟨rfl,rfl,rfl,rfl,rfl,.of (by decide)⟩,(rStepF ?_).upd (.inr (Nat.le_refl _)),isRx_nil _ _ _ _ _,(rStepP hx ?_ rfl (hkn (by omega))).updT l1 (by simp (disch:=first|assumption|omega|simp only[zS]<;>omega|decide) only[hp_alloc_old,hp_alloc_new,hp_upd_same,hp_upd_other,hp_drew,sz_drew,size_upd,size_alloc];exact b0) (by decide)⟩
  ·(repeat (first | assumption | exact FrM.refl _ _ | (refine FrM.upd ?_ (.inr (by(try simp only[zS])<;>omega))) | refine FrM.alloc ?_ _ | refine FrM.drew ?_))
  ·(repeat (first | assumption | exact FrM.refl _ _ | (refine FrM.upd ?_ (.inr (by(try simp only[zS])<;>omega))) | refine FrM.alloc ?_ _ | refine FrM.drew ?_))
 rw[if_neg k3] at hr
 by_cases k2:(P.tk T k).kind=2
 ·rw[if_pos k2] at hr
  obtain rfl:=(Option.some.inj hr).symm
  refine sh_Pr_parser_bare_ok ?_
  simp (disch:=first|assumption|omega|simp only[zS]<;>omega|decide) only[zb14,simprocAttr]
  refine(rNext (h.ext hf0)).mono ?_
  rintro e w1 ⟨rfl,hf1⟩
  have hs1:=hf1.size
  rw[size_alloc] at hs1
  have b0:=hf1.ext _ _ (blk_alloc_new w _)
  have hf01:=hf0.trans hf1
  have hx1:=hx.ext hf01
  have h3:=hx1.cell
  rw[k2,show rk 2=118 from rfl]
  simp (disch:=first|assumption|omega|simp only[zS]<;>omega|decide) only[zb14,simprocAttr,h3,b0]
  have hf2:Ext w (upd (w1.alloc (.cells #[.int .u8 0,.string (bs []),zi 0] 69)) w1.heap.size (.cells #[.int .u8 (118:Nat),.string (bs (P.tk T k).text),zi ((P.tk T k).pos)] 69)):=by(repeat (first | assumption | exact FrM.refl _ _ | (refine FrM.upd ?_ (.inr (by(try simp only[zS])<;>omega))) | refine FrM.alloc ?_ _ | refine FrM.drew ?_))
  refine(rVariable (rStepP hx hf2 rfl (hkn (by omega))) (P.tk T k) 118).mono ?_
  rintro e w2 ⟨a,b,c,g,u,rfl,⟨o1,o2,o3,o4,o5,oh⟩,hF2,hst⟩
  have c0:w2.heap[w.heap.size]?=some (.cells #[.int .u8 0,.string (bs []),zi 0,zi 0,.slice none 0 0] 111 (0,0)):=SFr.keep hF2 (by simp (disch:=first|assumption|omega|simp only[zS]<;>omega|decide) only[hp_alloc_old,hp_alloc_new,hp_upd_same,hp_upd_other,hp_drew,sz_drew,size_upd,size_alloc];exact b0) (by omega) (by decide)
  have l2:=ltOf c0
  simp (disch:=first|assumption|omega|simp only[zS]<;>omega|decide) only[zb14,simprocAttr,c0,o1,o2,o3,o4,o5]
  obtain⟨p1,p2⟩:=rBoxX (rStepF hf2) hF2 hst (Nat.le_refl _) (by((try simp only[zS])<;>omega)) l1 c0 (by decide) (.cells #[a,b,c,g,u] 111)
  exact⟨_,_,_,_,_,rfl,⟨o1,o2,o3,o4,o5,oh⟩,p1,p2⟩
 rw[if_neg k2] at hr
 by_cases k1:(P.tk T k).kind=1
 ·rw[if_pos k1] at hr
  have hf2:∀ {w1:World},Ext w w1->w.heap.size+1≤w1.heap.size->Ext w (upd (w1.alloc (.cells #[.int .u8 0,.string (bs []),zi 0] 69)) w1.heap.size (.cells #[.int .u8 (97:Nat),.string (bs (P.tk T k).text),zi ((P.tk T k).pos)] 69)):=fun hf hs=>by(repeat (first | assumption | exact FrM.refl _ _ | (refine FrM.upd ?_ (.inr (by(try simp only[zS])<;>omega))) | refine FrM.alloc ?_ _ | refine FrM.drew ?_))
  by_cases ho:P.isT T (k+1) [40]=true
  ·rw[if_pos ho] at hr
   refine sh_Pr_parser_bare_ok ?_
   simp (disch:=first|assumption|omega|simp only[zS]<;>omega|decide) only[zb14,simprocAttr]
   refine(rNext (h.ext hf0)).mono ?_
   rintro e w1 ⟨rfl,hf1⟩
   have hs1:=hf1.size
   rw[size_alloc] at hs1
   have b0:=hf1.ext _ _ (blk_alloc_new w _)
   have hf01:=hf0.trans hf1
   have hx1:=hx.ext hf01
   have h3:=hx1.cell
   rw[k1,show rk 1=97 from rfl]
   simp (disch:=first|assumption|omega|simp only[zS]<;>omega|decide) only[zb14,simprocAttr,h3,b0]
   have hP2:=rStepP (kz:=(k:Int)+1) hx (hf2 hf01 hs1) rfl (hkn (by omega))
   have hF2:=rStepF (pb:=pb) (o:=.cells #[.slice (some ⟨tb,0,none⟩) T.length lc,zi ((k:Int)+1),vv,zi (d+1:Nat),zi (0:Nat),zi (0:Nat)] 67) (hf2 hf01 hs1)
   refine Calls.mono (rIs_yes (hP2.ext ?_) [40] ho) ?_
   ·(repeat (first | assumption | exact FrM.refl _ _ | (refine FrM.upd ?_ (.inr (by(try simp only[zS])<;>omega))) | refine FrM.alloc ?_ _ | refine FrM.drew ?_))
   rintro e w2 ⟨rfl,hP3,hF3⟩
   have hs3:=hF3.size
   rw[size_upd,size_alloc,size_upd,size_upd,size_alloc] at hs3
   have c0:w2.heap[w.heap.size]?=some (.cells #[.int .u8 0,.string (bs []),zi 0,zi 0,.slice none 0 0] 111 (0,0)):=SFr.keep hF3 (by simp (disch:=first|assumption|omega|simp only[zS]<;>omega|decide) only[hp_alloc_old,hp_alloc_new,hp_upd_same,hp_upd_other,hp_drew,sz_drew,size_upd,size_alloc];exact b0) (by omega) (by decide)
   have c1:w2.heap[w1.heap.size]?=some (.cells #[.int .u8 97,.string (bs (P.tk T k).text),zi ((P.tk T k).pos)] 69):=SFr.keep hF3 (by simp (disch:=first|assumption|omega|simp only[zS]<;>omega|decide) only[hp_alloc_old,hp_alloc_new,hp_upd_same,hp_upd_other,hp_drew,sz_drew,size_upd,size_alloc]) (by omega) (by decide)
   have c2:w2.heap[w1.heap.size+1]?=some (.cells #[.int .u8 97,.string (bs (P.tk T k).text),zi 0,zi 0,.slice none 0 0] 111):=SFr.keep hF3 (by simp (disch:=first|assumption|omega|simp only[zS]<;>omega|decide) only[hp_alloc_old,hp_alloc_new,hp_upd_same,hp_upd_other,hp_drew,sz_drew,size_upd,size_alloc]) (by omega) (by decide)
   simp (disch:=first|assumption|omega|simp only[zS]<;>omega|decide) only[zb14,simprocAttr,c0,c1,c2]
   have hFa:RFr pb w (upd w2 (w1.heap.size+1) (.cells #[.int .u8 99,.string (bs (P.tk T k).text),zi 0,zi 0,.slice none 0 0] 111)):=
    ((((hF2.alloc _).upd (.inr (by((try simp only[zS])<;>omega)))).trans hF3).upd (.inr (by omega)))
   have hsa:=hF3.size
   cases hq:P.pArgs T f (k+2) vars (d+1) (P.tk T k).pos [] with
   | none=>rw[hq] at hr;simp [P.Res.bind] at hr
   | some q=>
   rw[hq] at hr
   refine Calls.mono (hA.go _ (hP3.updT (by omega) c2 (by decide)) hd hq) ?_
   rintro e w3 ⟨a,n,c,rfl,hF4,hst⟩
   have hs4:=hF4.size
   rw[size_upd] at hs4
   have c0:w3.heap[w.heap.size]?=some (.cells #[.int .u8 0,.string (bs []),zi 0,zi 0,.slice none 0 0] 111 (0,0)):=SFr.keep hF4 (by simp (disch:=first|assumption|omega|simp only[zS]<;>omega|decide) only[hp_alloc_old,hp_alloc_new,hp_upd_same,hp_upd_other,hp_drew,sz_drew,size_upd,size_alloc];exact c0) (by omega) (by decide)
   have c2:w3.heap[w1.heap.size+1]?=some (.cells #[.int .u8 99,.string (bs (P.tk T k).text),zi 0,zi 0,.slice none 0 0] 111):=SFr.keep hF4 (by simp (disch:=first|assumption|omega|simp only[zS]<;>omega|decide) only[hp_alloc_old,hp_alloc_new,hp_upd_same,hp_upd_other,hp_drew,sz_drew,size_upd,size_alloc]) (by omega) (by decide)
   simp (disch:=first|assumption|omega|simp only[zS]<;>omega|decide) only[zb14,simprocAttr,c0,c2]
   have hFb:RFr pb w (upd w3 (w1.heap.size+1) (.cells #[.int .u8 99,.string (bs (P.tk T k).text),zi 0,zi 0,.slice a n c] 111)):=(hFa.trans hF4).upd (.inr (by omega))
   have hend:∀ {w4:World},RFr pb (upd w3 (w1.heap.size+1) (.cells #[.int .u8 99,.string (bs (P.tk T k).text),zi 0,zi 0,.slice a n c] 111)) w4 ->
     w4.heap[w.heap.size]?=some (.cells #[.int .u8 0,.string (bs []),zi 0,zi 0,.slice none 0 0] 111 (0,0))/\w4.heap[w1.heap.size+1]?=some (.cells #[.int .u8 99,.string (bs (P.tk T k).text),zi 0,zi 0,.slice a n c] 111):=fun hF=>
    ⟨SFr.keep hF (by simp (disch:=first|assumption|omega|simp only[zS]<;>omega|decide) only[hp_alloc_old,hp_alloc_new,hp_upd_same,hp_upd_other,hp_drew,sz_drew,size_upd,size_alloc];exact c0) (by omega) (by decide),SFr.keep hF (by simp (disch:=first|assumption|omega|simp only[zS]<;>omega|decide) only[hp_alloc_old,hp_alloc_new,hp_upd_same,hp_upd_other,hp_drew,sz_drew,size_upd,size_alloc]) (by omega) (by decide)⟩
   cases q with
   | err c0 a0=>
    obtain⟨hc,k2,vs2,hP4⟩:=hst
    simp only[P.Res.bind,Option.some.injEq] at hr
    refine Calls.mono (rMustE (hP4.updT (by omega) c2 (by decide)) [41] hc) ?_
    rintro e w4 ⟨rfl,hP5,hF5⟩
    obtain⟨d0,d2⟩:=hend hF5
    have l4:=ltOf d0
    simp (disch:=first|assumption|omega|simp only[zS]<;>omega|decide) only[zb14,simprocAttr,d0,d2]
    rw[<- hr]
    exact⟨_,_,_,_,_,rfl,⟨rfl,rfl,rfl,rfl,rfl,.of (by decide)⟩,(hFb.trans hF5).upd (.inr (Nat.le_refl _)),hc,_,_,hP5.updT l1 d0 (by decide)⟩
   | ok l k2 vs2=>
    obtain⟨⟨us,u1,u2⟩,hP4⟩:=hst
    simp only[P.Res.bind] at hr
    refine rMustX (hP4.updT (by omega) c2 (by decide)) [41] _ hr ?_ ?_
    ·intro w4 hr4 hP5 hF5
     obtain⟨d0,d2⟩:=hend hF5
     have l4:=ltOf d0
     have s5:=hF5.size
     rw[size_upd] at s5
     simp (disch:=first|assumption|omega|simp only[zS]<;>omega|decide) only[zb14,simprocAttr,d0,d2]
     rw[hr4]
     have hk:Keeps (Nu (upd w2 (w1.heap.size+1) (.cells #[.int .u8 99,.string (bs (P.tk T k).text),zi 0,zi 0,.slice none 0 0] 111)) w3) 111 w3 (upd w4 w.heap.size (.cells #[.int .u8 99,.string (bs (P.tk T k).text),zi 0,zi 0,.slice a n c] 111)):=fun b cs hb hc=>by
      have hb1:=hb.1
      rw[size_upd] at hb1
      rw[hp_upd_other (by omega)]
      exact SFr.keep hF5 (by rw[hp_upd_other (by omega)];exact hc) (by omega) (by decide)
     have hn:∀ b,Nu (upd w2 (w1.heap.size+1) (.cells #[.int .u8 99,.string (bs (P.tk T k).text),zi 0,zi 0,.slice none 0 0] 111)) w3 b->Nu w (upd w4 w.heap.size (.cells #[.int .u8 99,.string (bs (P.tk T k).text),zi 0,zi 0,.slice a n c] 111)) b:=fun b hb=>by
      have hb1:=hb.1
      have hb2:=hb.2
      rw[size_upd] at hb1
      exact⟨by omega,by rw[size_upd];omega⟩
     refine⟨_,_,_,_,_,rfl,⟨rfl,rfl,rfl,rfl,rfl,.of (by decide)⟩,(hFb.trans hF5).upd (.inr (Nat.le_refl _)),?_,hP5.updT l1 d0 (by decide)⟩
     unfold IsRx
     exact⟨_,us,rfl,u1.mono hn hk,IsRxs.mono hn hk _ _ u2⟩
    ·intro w4 a4 hr4 hP5 hF5
     obtain⟨d0,d2⟩:=hend hF5
     have l4:=ltOf d0
     simp (disch:=first|assumption|omega|simp only[zS]<;>omega|decide) only[zb14,simprocAttr,d0,d2]
     rw[hr4]
     exact⟨_,_,_,_,_,rfl,⟨rfl,rfl,rfl,rfl,rfl,.of (by decide)⟩,(hFb.trans hF5).upd (.inr (Nat.le_refl _)),by decide,_,_,hP5.updT l1 d0 (by decide)⟩
  ·rw[if_neg ho] at hr
   obtain rfl:=(Option.some.inj hr).symm
   refine sh_Pr_parser_bare_ok ?_
   simp (disch:=first|assumption|omega|simp only[zS]<;>omega|decide) only[zb14,simprocAttr]
   refine(rNext (h.ext hf0)).mono ?_
   rintro e w1 ⟨rfl,hf1⟩
   have hs1:=hf1.size
   rw[size_alloc] at hs1
   have b0:=hf1.ext _ _ (blk_alloc_new w _)
   have hf01:=hf0.trans hf1
   have hx1:=hx.ext hf01
   have h3:=hx1.cell
   rw[k1,show rk 1=97 from rfl]
   simp (disch:=first|assumption|omega|simp only[zS]<;>omega|decide) only[zb14,simprocAttr,h3,b0]
   have hP2:=rStepP (kz:=(k:Int)+1) hx (hf2 hf01 hs1) rfl (hkn (by omega))
   have hF2:=rStepF (pb:=pb) (o:=.cells #[.slice (some ⟨tb,0,none⟩) T.length lc,zi ((k:Int)+1),vv,zi (d+1:Nat),zi (0:Nat),zi (0:Nat)] 67) (hf2 hf01 hs1)
   refine Calls.mono (rIs_no (hP2.ext ?_) [40] (.inr (by simpa using ho))) ?_
   ·(repeat (first | assumption | exact FrM.refl _ _ | (refine FrM.upd ?_ (.inr (by(try simp only[zS])<;>omega))) | refine FrM.alloc ?_ _ | refine FrM.drew ?_))
   rintro e w2 ⟨rfl,hP3,hF3⟩
   have hs3:=hF3.size
   rw[size_upd,size_alloc,size_upd,size_upd,size_alloc] at hs3
   have c0:w2.heap[w.heap.size]?=some (.cells #[.int .u8 0,.string (bs []),zi 0,zi 0,.slice none 0 0] 111 (0,0)):=SFr.keep hF3 (by simp (disch:=first|assumption|omega|simp only[zS]<;>omega|decide) only[hp_alloc_old,hp_alloc_new,hp_upd_same,hp_upd_other,hp_drew,sz_drew,size_upd,size_alloc];exact b0) (by omega) (by decide)
   have c2:w2.heap[w1.heap.size+1]?=some (.cells #[.int .u8 97,.string (bs (P.tk T k).text),zi 0,zi 0,.slice none 0 0] 111):=SFr.keep hF3 (by simp (disch:=first|assumption|omega|simp only[zS]<;>omega|decide) only[hp_alloc_old,hp_alloc_new,hp_upd_same,hp_upd_other,hp_drew,sz_drew,size_upd,size_alloc]) (by omega) (by decide)
   have l2:=ltOf c0
   simp (disch:=first|assumption|omega|simp only[zS]<;>omega|decide) only[zb14,simprocAttr,c0,c2]
   exact⟨_,_,_,_,_,rfl,⟨rfl,rfl,rfl,rfl,rfl,.of (by decide)⟩,(((hF2.alloc _).upd (.inr (by((try simp only[zS])<;>omega)))).trans hF3).upd (.inr (Nat.le_refl _)),isRx_nil _ _ _ _ _,hP3.updT l1 c0 (by decide)⟩
 rw[if_neg k1] at hr
 have n3:¬ (rk (P.tk T k).kind:Int)=110:=fun e=>k3 ((rk_num h4).1 (by omega))
 have n2:¬ (rk (P.tk T k).kind:Int)=118:=fun e=>k2 ((rk_var h4).1 (by omega))
 have n1:¬ (rk (P.tk T k).kind:Int)=97:=fun e=>k1 ((rk_atom h4).1 (by omega))
 refine sh_Pr_parser_bare_ok ?_
 simp (disch:=first|assumption|omega|simp only[zS]<;>omega|decide) only[zb14,simprocAttr]
 refine(rNext (h.ext hf0)).mono ?_
 rintro e w1 ⟨rfl,hf1⟩
 have hs1:=hf1.size
 rw[size_alloc] at hs1
 have b0:=hf1.ext _ _ (blk_alloc_new w _)
 have hf01:=hf0.trans hf1
 have hr4:=rk_small (P.tk T k).kind
 generalize hgq:rk (P.tk T k).kind=q at *
 simp (disch:=first|assumption|omega|simp only[zS]<;>omega|decide) only[zb14,simprocAttr,b0]
 have hP1:=h.ext (hf01.trans (show Ext w1 (upd (w1.alloc (.cells #[.int .u8 0,.string (bs []),zi 0] 69)) w1.heap.size (.cells #[.int .u8 q,.string (bs (P.tk T k).text),zi ((P.tk T k).pos)] 69)) by(repeat (first | assumption | exact FrM.refl _ _ | (refine FrM.upd ?_ (.inr (by(try simp only[zS])<;>omega))) | refine FrM.alloc ?_ _ | refine FrM.drew ?_))))
 have hF1:RFr pb w (upd (w1.alloc (.cells #[.int .u8 0,.string (bs []),zi 0] 69)) w1.heap.size (.cells #[.int .u8 q,.string (bs (P.tk T k).text),zi ((P.tk T k).pos)] 69)):=FrM.toM (by(repeat (first | assumption | exact FrM.refl _ _ | (refine FrM.upd ?_ (.inr (by(try simp only[zS])<;>omega))) | refine FrM.alloc ?_ _ | refine FrM.drew ?_)))
 by_cases hm:P.isT T k [45]=true
 ·rw[if_pos hm] at hr
  refine Calls.mono (rIs_yes hP1 [45] hm) ?_
  rintro e w2 ⟨rfl,hP2,hF2⟩
  simp (disch:=first|assumption|omega|simp only[zS]<;>omega|decide) only[zb14,simprocAttr]
  have hs2:=hF2.size
  rw[size_upd,size_alloc] at hs2
  have c0:w2.heap[w.heap.size]?=some (.cells #[.int .u8 0,.string (bs []),zi 0,zi 0,.slice none 0 0] 111 (0,0)):=SFr.keep hF2 (by simp (disch:=first|assumption|omega|simp only[zS]<;>omega|decide) only[hp_alloc_old,hp_alloc_new,hp_upd_same,hp_upd_other,hp_drew,sz_drew,size_upd,size_alloc];exact b0) (by omega) (by decide)
  have c1:w2.heap[w1.heap.size]?=some (.cells #[.int .u8 q,.string (bs (P.tk T k).text),zi ((P.tk T k).pos)] 69):=SFr.keep hF2 (by simp (disch:=first|assumption|omega|simp only[zS]<;>omega|decide) only[hp_alloc_old,hp_alloc_new,hp_upd_same,hp_upd_other,hp_drew,sz_drew,size_upd,size_alloc]) (by omega) (by decide)
  have hF12:=hF1.trans hF2
  refine(rNext hP2).mono ?_
  rintro e w3 ⟨rfl,hf3⟩
  have hs3:=hf3.size
  have d0:=hf3.ext _ _ c0
  have d1:=hf3.ext _ _ c1
  have ld1:=ltOf d1
  obtain⟨lc3,vv3,hx3⟩:=hP2.ext hf3
  have h3:=hx3.cell
  have hk4:=hx3.kind4
  have hr5:=rk_small (P.tk T (k+1)).kind
  by_cases k3':(P.tk T (k+1)).kind=3
  ·rw[if_pos k3'] at hr
   obtain rfl:=(Option.some.inj hr).symm
   obtain⟨-,hdg,hln⟩:=hx.tw.digits _ (tk_mem hx3.kt) k3'
   have hb:=P.num_bound hdg hln
   rw[k3',show rk 3=110 from rfl]
   simp (disch:=first|assumption|omega|simp only[zS]<;>omega|decide) only[zb14,simprocAttr,d0,d1,h3]
   refine(rValue _ _ hdg hln).mono ?_
   rintro e w4 ⟨rfl,rfl⟩
   have ld0:=ltOf d0
   simp (disch:=first|assumption|omega|simp only[zS]<;>omega|decide) only[zb14,simprocAttr,h3,d0]
   rw[Int.zero_sub]
   refine⟨_,_,_,_,_,rfl,⟨rfl,rfl,rfl,rfl,rfl,.of (by decide)⟩,(((hF12.trans hf3.toM).upd (.inr (by omega))).upd (.inl fun _=>.inl rfl)).upd (.inr (Nat.le_refl _)),isRx_nil _ _ _ _ _,
    (RP.of ((hx3.updT (by omega) d1 (by decide)).set (hx3.tw.next hx3.kt (by omega)) hx3.dp (by omega) fun _=>rfl)).updT l1 (by simp (disch:=first|assumption|omega|simp only[zS]<;>omega|decide) only[hp_alloc_old,hp_alloc_new,hp_upd_same,hp_upd_other,hp_drew,sz_drew,size_upd,size_alloc];exact d0) (by decide)⟩
  ·rw[if_neg k3'] at hr
   obtain rfl:=(Option.some.inj hr).symm
   have n3':¬ (rk (P.tk T (k+1)).kind:Int)=110:=fun e=>k3' ((rk_num hk4).1 (by omega))
   generalize hgq2:rk (P.tk T (k+1)).kind=q2 at *
   simp (disch:=first|assumption|omega|simp only[zS]<;>omega|decide) only[zb14,simprocAttr,d0,d1]
   refine Calls.mono (rNone ((RP.of hx3).updT (by omega) d1 (by decide))) ?_
   rintro e w4 ⟨rfl,hP4,hF4⟩
   have e0:w4.heap[w.heap.size]?=some (.cells #[.int .u8 0,.string (bs []),zi 0,zi 0,.slice none 0 0] 111 (0,0)):=SFr.keep hF4 (by simp (disch:=first|assumption|omega|simp only[zS]<;>omega|decide) only[hp_alloc_old,hp_alloc_new,hp_upd_same,hp_upd_other,hp_drew,sz_drew,size_upd,size_alloc];exact d0) (by omega) (by decide)
   have l4:=ltOf e0
   simp (disch:=first|assumption|omega|simp only[zS]<;>omega|decide) only[zb14,simprocAttr,e0]
   rw[if_pos rfl,if_pos rfl] at hP4
   exact⟨_,_,_,_,_,rfl,⟨rfl,rfl,rfl,rfl,rfl,.of (by decide)⟩,(((hF12.trans hf3.toM).upd (.inr (by omega))).trans hF4).upd (.inr (Nat.le_refl _)),by decide,_,_,hP4.updT l1 e0 (by decide)⟩
 rw[if_neg hm] at hr
 refine Calls.mono (rIs_no hP1 [45] (.inr (by simpa using hm))) ?_
 rintro e w2 ⟨rfl,hP2,hF2⟩
 simp (disch:=first|assumption|omega|simp only[zS]<;>omega|decide) only[zb14,simprocAttr]
 have hs2:=hF2.size
 rw[size_upd,size_alloc] at hs2
 have c0:w2.heap[w.heap.size]?=some (.cells #[.int .u8 0,.string (bs []),zi 0,zi 0,.slice none 0 0] 111 (0,0)):=SFr.keep hF2 (by simp (disch:=first|assumption|omega|simp only[zS]<;>omega|decide) only[hp_alloc_old,hp_alloc_new,hp_upd_same,hp_upd_other,hp_drew,sz_drew,size_upd,size_alloc];exact b0) (by omega) (by decide)
 have hF12:=hF1.trans hF2
 by_cases ho:P.isT T k [40]=true
 ·rw[if_pos ho] at hr
  refine Calls.mono (rIs_yes hP2 [40] ho) ?_
  rintro e w3 ⟨rfl,hP3,hF3⟩
  simp (disch:=first|assumption|omega|simp only[zS]<;>omega|decide) only[zb14,simprocAttr]
  have hs3:=hF3.size
  have d0:=SFr.keep hF3 c0 (by omega) (by decide)
  cases hq:P.pOper T f 0 (k+1) vars (d+1) with
  | none=>rw[hq] at hr;simp [P.Res.bind] at hr
  | some q=>
  rw[hq] at hr
  refine Calls.mono (hE.go hP3 hd hq) ?_
  rintro e w4 ⟨a,b,c,g,u,rfl,⟨o1,o2,o3,o4,o5,oh⟩,hF4,hst⟩
  have hs4:=hF4.size
  have e0:=SFr.keep hF4 d0 (by omega) (by decide)
  simp (disch:=first|assumption|omega|simp only[zS]<;>omega|decide) only[zb14,simprocAttr,o1,o2,o3,o4,o5]
  have hX4:Ext w4 (upd (w4.alloc (.cells #[.int .u8 0,.string (bs []),zi 0,zi 0,.slice none 0 0] 111)) w4.heap.size (.cells #[a,b,c,g,u] 111)):=by(repeat (first | assumption | exact FrM.refl _ _ | (refine FrM.upd ?_ (.inr (by(try simp only[zS])<;>omega))) | refine FrM.alloc ?_ _ | refine FrM.drew ?_))
  have hF14:RFr pb w w4:=(hF12.trans hF3).trans hF4
  have hend:∀ {w5:World},RFr pb (upd (w4.alloc (.cells #[.int .u8 0,.string (bs []),zi 0,zi 0,.slice none 0 0] 111)) w4.heap.size (.cells #[a,b,c,g,u] 111)) w5 ->
     w5.heap[w.heap.size]?=some (.cells #[.int .u8 0,.string (bs []),zi 0,zi 0,.slice none 0 0] 111 (0,0))/\w5.heap[w4.heap.size]?=some (.cells #[a,b,c,g,u] 111):=fun hF=>
    ⟨SFr.keep hF (by simp (disch:=first|assumption|omega|simp only[zS]<;>omega|decide) only[hp_alloc_old,hp_alloc_new,hp_upd_same,hp_upd_other,hp_drew,sz_drew,size_upd,size_alloc];exact e0) (by omega) (by decide),SFr.keep hF (by simp (disch:=first|assumption|omega|simp only[zS]<;>omega|decide) only[hp_alloc_old,hp_alloc_new,hp_upd_same,hp_upd_other,hp_drew,sz_drew,size_upd,size_alloc]) (by omega) (by decide)⟩
  cases q with
  | err c0 a0=>
   obtain⟨hc,k2,vs2,hP4⟩:=hst
   simp only[P.Res.bind,Option.some.injEq] at hr
   refine Calls.mono (rMustE (hP4.ext hX4) [41] hc) ?_
   rintro e w5 ⟨rfl,hP5,hF5⟩
   obtain⟨f0,f2⟩:=hend hF5
   have l5:=ltOf f0
   simp (disch:=first|assumption|omega|simp only[zS]<;>omega|decide) only[zb14,simprocAttr,f0,f2,o1,o2,o3,o4,o5]
   rw[<- hr]
   exact⟨_,_,_,_,_,rfl,⟨o1,o2,o3,o4,o5,oh⟩,((hF14.trans hX4.toM).trans hF5).upd (.inr (Nat.le_refl _)),hc,_,_,hP5.updT l1 f0 (by decide)⟩
  | ok x k2 vs2=>
   obtain⟨hx4,hP4⟩:=hst
   simp only[P.Res.bind] at hr
   refine rMustX (hP4.ext hX4) [41] _ hr ?_ ?_
   ·intro w5 hr5 hP5 hF5
    obtain⟨f0,f2⟩:=hend hF5
    have l5:=ltOf f0
    have s5:=hF5.size
    rw[size_upd,size_alloc] at s5
    simp (disch:=first|assumption|omega|simp only[zS]<;>omega|decide) only[zb14,simprocAttr,f0,f2,o1,o2,o3,o4,o5]
    rw[hr5]
    refine⟨_,_,_,_,_,rfl,⟨o1,o2,o3,o4,o5,oh⟩,((hF14.trans hX4.toM).trans hF5).upd (.inr (Nat.le_refl _)),IsRx.mono (fun b hb=>?_) (fun b cs hb hc=>?_) _ _ hx4,hP5.updT l1 f0 (by decide)⟩
    ·exact⟨by have:=hb.1;omega,by have:=hb.2;rw[size_upd];omega⟩
    ·have h1:=hb.1
     rw[hp_upd_other (by omega)]
     exact SFr.keep hF5 (hX4.ext _ _ hc) (by omega) (by decide)
   ·intro w5 a5 hr5 hP5 hF5
    obtain⟨f0,f2⟩:=hend hF5
    have l5:=ltOf f0
    simp (disch:=first|assumption|omega|simp only[zS]<;>omega|decide) only[zb14,simprocAttr,f0,f2,o1,o2,o3,o4,o5]
    rw[hr5]
    exact⟨_,_,_,_,_,rfl,⟨o1,o2,o3,o4,o5,oh⟩,((hF14.trans hX4.toM).trans hF5).upd (.inr (Nat.le_refl _)),by decide,_,_,hP5.updT l1 f0 (by decide)⟩
 rw[if_neg ho] at hr
 refine Calls.mono (rIs_no hP2 [40] (.inr (by simpa using ho))) ?_
 rintro e w3 ⟨rfl,hP3,hF3⟩
 simp (disch:=first|assumption|omega|simp only[zS]<;>omega|decide) only[zb14,simprocAttr]
 have hs3:=hF3.size
 have d0:=SFr.keep hF3 c0 (by omega) (by decide)
 have hF13:=hF12.trans hF3
 by_cases hb:P.isT T k [91]=true
 ·rw[if_pos hb] at hr
  refine Calls.mono (rIs_yes hP3 [91] hb) ?_
  rintro e w4 ⟨rfl,hP4,hF4⟩
  simp (disch:=first|assumption|omega|simp only[zS]<;>omega|decide) only[zb14,simprocAttr]
  have hs4:=hF4.size
  have e0:=SFr.keep hF4 d0 (by omega) (by decide)
  refine Calls.mono (hL.go hP4 hd hr) ?_
  rintro e w5 ⟨a,b,c,g,u,rfl,⟨o1,o2,o3,o4,o5,oh⟩,hF5,hst⟩
  have f0:=SFr.keep hF5 e0 (by omega) (by decide)
  have l5:=ltOf f0
  simp (disch:=first|assumption|omega|simp only[zS]<;>omega|decide) only[zb14,simprocAttr,f0,o1,o2,o3,o4,o5]
  obtain⟨p1,p2⟩:=rBoxX (hF13.trans hF4) hF5 hst (Nat.le_refl _) (by omega) l1 f0 (by decide) (.cells #[a,b,c,g,u] 111)
  exact⟨_,_,_,_,_,rfl,⟨o1,o2,o3,o4,o5,oh⟩,p1,p2⟩
 rw[if_neg hb] at hr
 obtain rfl:=(Option.some.inj hr).symm
 refine Calls.mono (rIs_no hP3 [91] (.inr (by simpa using hb))) ?_
 rintro e w4 ⟨rfl,hP4,hF4⟩
 simp (disch:=first|assumption|omega|simp only[zS]<;>omega|decide) only[zb14,simprocAttr]
 have e0:=SFr.keep hF4 d0 (by omega) (by decide)
 refine Calls.mono (rNone hP4) ?_
 rintro e w5 ⟨rfl,hP5,hF5⟩
 have f0:=SFr.keep hF5 e0 (by omega) (by decide)
 have l5:=ltOf f0
 simp (disch:=first|assumption|omega|simp only[zS]<;>omega|decide) only[zb14,simprocAttr,f0]
 rw[if_pos rfl,if_pos rfl] at hP5
 exact⟨_,_,_,_,_,rfl,⟨rfl,rfl,rfl,rfl,rfl,.of (by decide)⟩,(((hF13.trans hF4)).trans hF5).upd (.inr (Nat.le_refl _)),by decide,_,_,hP5.updT l1 f0 (by decide)⟩⟩
theorem rStX_RP{wA w2:World}{pb tb:Nat}{T:List P.Tok}{d:Nat}{l:List Value}{r:P.Res P.Ex}(hst:RStX pb tb T d wA w2 l r) :
  ∃ k vs c a,RP w2 pb tb T k vs d c a/\∀ {w w3:World} (d':Nat),w.heap.size≤wA.heap.size->w2.heap.size≤w3.heap.size->Keeps (Nu wA w2) 111 w2 w3->RP w3 pb tb T k vs d' c a->RStX pb tb T d' w w3 l r:=by
 cases r with
 | err c a=>
  obtain⟨hc,k,vs,hP⟩:=hst
  exact⟨k,vs,c,a,hP,fun d' _ _ _ hP'=>⟨hc,k,vs,hP'⟩⟩
 | ok x k vs=>
  obtain⟨hx,hP⟩:=hst
  exact⟨k,vs,0,0,hP,fun d' h1 h2 h3 hP'=>⟨IsRx.mono (fun b hb=>⟨by have:=hb.1;omega,by have:=hb.2;omega⟩) h3 _ _ hx,hP'⟩⟩
def zb15:=(zA zG0 (zA @sh_Pr_parser_prim.eq_1 (zA @al_111 (zA @bd_111 (zA @fa_67_3 (zA @ld_111 (zA @ld_3 (zA @st_111 @st_3))))))))
theorem rPrim {f:Nat} (hB:RCB f):RCP (f+1):=⟨by
 intro pb tb T k vars d w r h hd hr
 obtain⟨l1,hkt,hlT,h4⟩:=h.cs
 refine sh_Pr_parser_prim_ok ?_
 simp (disch:=first|assumption|omega|simp only[zS]<;>omega|decide) only[zb15,simprocAttr]
 have hf0:Ext w (upd ((w.alloc (.cells #[.int .u8 0,.string (bs []),zi 0,zi 0,.slice none 0 0] 111)).alloc (.cells #[.int .u8 0,.string (bs []),zi 0,zi 0,.slice none 0 0] 111)) (w.heap.size+1) (.cells #[.int .u8 0,.string (bs []),zi 0,zi 0,.slice none 0 0] 111)):=by(repeat (first | assumption | exact FrM.refl _ _ | (refine FrM.upd ?_ (.inr (by(try simp only[zS])<;>omega))) | refine FrM.alloc ?_ _ | refine FrM.drew ?_))
 by_cases h8:d+1≤8
 ·refine Calls.mono (rEnter_ok (h.ext hf0) (by omega) (by omega)) ?_
  rintro e w1 ⟨rfl,hP1,hF1⟩
  simp (disch:=first|assumption|omega|simp only[zS]<;>omega|decide) only[zb15,simprocAttr]
  have s1:=hF1.size
  rw[size_upd,size_alloc,size_alloc] at s1
  have c0:w1.heap[w.heap.size]?=some (.cells #[.int .u8 0,.string (bs []),zi 0,zi 0,.slice none 0 0] 111 (0,0)):=SFr.keep hF1 (by simp (disch:=first|assumption|omega|simp only[zS]<;>omega|decide) only[zH]) (by omega) (by decide)
  have c1:w1.heap[w.heap.size+1]?=some (.cells #[.int .u8 0,.string (bs []),zi 0,zi 0,.slice none 0 0] 111 (0,0)):=SFr.keep hF1 (by simp (disch:=first|assumption|omega|simp only[zS]<;>omega|decide) only[zH]) (by omega) (by decide)
  refine Calls.mono (hB.go (d:=d) hP1 h8 hr) ?_
  rintro e w2 ⟨a,b,c,g,u,rfl,⟨o1,o2,o3,o4,o5,oh⟩,hF2,hst⟩
  have s2:=hF2.size
  have d0:=SFr.keep hF2 c0 (by omega) (by decide)
  have d1:=SFr.keep hF2 c1 (by omega) (by decide)
  obtain⟨k2,vs2,c2,a2,hP2,hfin⟩:=rStX_RP hst
  obtain⟨lc2,vv2,hx2⟩:=id hP2
  have h3:=hx2.cell
  simp (disch:=first|assumption|omega|simp only[zS]<;>omega|decide) only[zb15,simprocAttr,d0,d1,h3,o1,o2,o3,o4,o5]
  have ed:((d+1:Nat):Int)-1=d:=by omega
  rw[ed]
  have hRP:=RP.of (((hx2.updT (q:=w.heap.size+1) (o:=.cells #[a,b,c,g,u] 111) (by omega) d1 (by decide))).set (k':=k2) (kz:=k2) (d':=d) (er':=c2) (at':=a2) hx2.kt (by omega) rfl (fun h=>h))
  refine⟨_,_,_,_,_,rfl,⟨o1,o2,o3,o4,o5,oh⟩,(((((hf0.toM.trans hF1).trans hF2).upd (.inr (by omega))).upd (.inl fun _=>.inl rfl)).upd (.inr (by omega))),
   hfin d (by omega) (by((try simp only[zS])<;>omega)) (fun b' cs hb hc=>?_) (hRP.updT (by omega) (by simp (disch:=first|assumption|omega|simp only[zS]<;>omega|decide) only[zH];exact d0) (by decide))⟩
  rw[hp_upd_other (by omega),hp_upd_other (by omega),hp_upd_other (by omega)]
  exact hc
 ·have hd8:d=8:=by omega
  rw[P.pPrim,if_pos (by unfold P.maxDepth;omega)] at hr
  obtain rfl:=(Option.some.inj hr).symm
  refine Calls.mono (rEnter_deep (h.ext hf0) (by omega) (by omega)) ?_
  rintro e w1 ⟨rfl,hP1,hF1⟩
  have s1:=hF1.size
  rw[size_upd,size_alloc,size_alloc] at s1
  have c0:w1.heap[w.heap.size]?=some (.cells #[.int .u8 0,.string (bs []),zi 0,zi 0,.slice none 0 0] 111 (0,0)):=SFr.keep hF1 (by simp (disch:=first|assumption|omega|simp only[zS]<;>omega|decide) only[zH]) (by omega) (by decide)
  have c1:w1.heap[w.heap.size+1]?=some (.cells #[.int .u8 0,.string (bs []),zi 0,zi 0,.slice none 0 0] 111 (0,0)):=SFr.keep hF1 (by simp (disch:=first|assumption|omega|simp only[zS]<;>omega|decide) only[zH]) (by omega) (by decide)
  obtain⟨lc2,vv2,hx2⟩:=id hP1
  have h3:=hx2.cell
  simp (disch:=first|assumption|omega|simp only[zS]<;>omega|decide) only[zb15,simprocAttr,c0,c1,h3]
  have ed:((d:Nat):Int)+1-1=d:=by omega
  rw[ed]
  exact⟨_,_,_,_,_,rfl,⟨rfl,rfl,rfl,rfl,rfl,.of (by decide)⟩,((hf0.toM.trans hF1).upd (.inl fun _=>.inl rfl)).upd (.inr (by omega)),by decide,_,_,
   (RP.of (hx2.set (k':=k) (kz:=k) (d':=d) (er':=4) (at':=(P.tk T k).pos) hx2.kt (by omega) rfl (fun h=>h))).updT (by omega) (by simp (disch:=first|assumption|omega|simp only[zS]<;>omega|decide) only[zH];exact c0) (by decide)⟩⟩
theorem opAt1{T:List P.Tok}{k:Nat}:P.opAt T 1 k=if P.isT T k [42] then some [42] else if P.isT T k [47,47] then some [47,47] else if P.isT T k [109,111,100] then some [109,111,100] else none:=by
 unfold P.opAt P.ops
 simp only[Nat.one_ne_zero,if_false,List.find?_cons,List.find?_nil]
 split<;>rename_i h1
 ·rw[if_pos h1]
 ·rw[if_neg (by simp [h1])]
  split<;>rename_i h2
  ·rw[if_pos h2]
  ·rw[if_neg (by simp [h2])]
   split<;>rename_i h3
   ·rw[if_pos h3]
   ·rw[if_neg (by simp [h3])]
theorem opAt0{T:List P.Tok}{k:Nat}:P.opAt T 0 k=if P.isT T k [43] then some [43] else if P.isT T k [45] then some [45] else none:=by
 unfold P.opAt P.ops
 simp only[if_true,List.find?_cons,List.find?_nil]
 split<;>rename_i h1
 ·rw[if_pos h1]
 ·rw[if_neg (by simp [h1])]
  split<;>rename_i h2
  ·rw[if_pos h2]
  ·rw[if_neg (by simp [h2])]
theorem isT_4{T:List P.Tok}{k:Nat}{s:P.Bs}(hk:(P.tk T k).kind=4):P.isT T k s=true↔(P.tk T k).text=s:=by simp [P.isT,hk]
theorem isT_1{T:List P.Tok}{k:Nat}{s:P.Bs}(hk:(P.tk T k).kind=1):P.isT T k s=true↔(P.tk T k).text=s:=by simp [P.isT,hk]
theorem isT_n{T:List P.Tok}{k:Nat}{s:P.Bs}(h4:(P.tk T k).kind≠4)(h1:(P.tk T k).kind≠1):P.isT T k s=false:=by simp [P.isT,h4,h1]
theorem isRx_two{F:Nat->Prop}{w:World}{l ly:List Value}{x y:P.Ex}(hx:IsRx F w l x)(hy:IsRx F w ly y){q:Nat}{cs:Array Value}(hq:w.heap[q]?=some (.cells cs 111 (0,0)))(hc:cs.toList=l++ly)(hF:F q)(o:P.Bs)(kd:Nat) :
  IsRx F w [.int .u8 kd,.string (bs o),zi 0,zi 0,.slice (some ⟨q,0,none⟩) 2 2] (.mk kd o 0 0 [x,y]):=by
 have h2:IsRxs F w (l++ly) [x,y]:=by
  unfold IsRxs
  refine⟨l,ly,rfl,hx,?_⟩
  unfold IsRxs
  exact⟨ly,[],by simp,hy,by unfold IsRxs;rfl⟩
 have h3:=h2.length
 unfold IsRx
 refine⟨_,l++ly,rfl,.inr ⟨q,2,cs,rfl,hF,hq,?_,?_,by simp⟩,h2⟩
 ·have:cs.size=cs.toList.length:=by simp
  rw[this,hc,h3]
  simp
 ·rw[hc,List.take_of_length_le (by rw[h3];simp)]
theorem opAt1_cases{T:List P.Tok}(h:TWs T){k:Nat}(hk:k<T.length) :
  ((((P.tk T k).kind=4/\(P.tk T k).text=[42])\/((P.tk T k).kind=4/\(P.tk T k).text=[47,47])\/((P.tk T k).kind=1/\(P.tk T k).text=[109,111,100]))/\P.opAt T 1 k=some (P.tk T k).text) \/
  (((P.tk T k).kind=4/\(P.tk T k).text≠[42]/\(P.tk T k).text≠[47,47])\/((P.tk T k).kind=1/\(P.tk T k).text≠[109,111,100])\/((P.tk T k).kind≠4/\(P.tk T k).kind≠1))/\P.opAt T 1 k=none:=by
 rw[opAt1]
 by_cases k4:(P.tk T k).kind=4
 ·have hm:(P.tk T k).text≠[109,111,100]:=by
   intro e
   rcases h.sg _ (tk_mem hk) k4 with h1 | h1
   ·rw[e] at h1;cases h1
   ·rw[e] at h1;revert h1;decide
  simp only[isT_4 k4]
  by_cases h1:(P.tk T k).text=[42]
  ·exact .inl ⟨.inl ⟨k4,h1⟩,by rw[if_pos h1,h1]⟩
  ·rw[if_neg h1]
   by_cases h2:(P.tk T k).text=[47,47]
   ·exact .inl ⟨.inr (.inl ⟨k4,h2⟩),by rw[if_pos h2,h2]⟩
   ·rw[if_neg h2,if_neg hm]
    exact .inr ⟨.inl ⟨k4,h1,h2⟩,rfl⟩
 ·by_cases k1:(P.tk T k).kind=1
  ·obtain⟨c,r,e,hc⟩:=h.words _ (tk_mem hk) k1
   simp only[isT_1 k1]
   rw[if_neg (by rw[e];intro h1;injection h1 with h1;rw[h1] at hc;revert hc;decide),if_neg (by rw[e];intro h1;injection h1 with h1;rw[h1] at hc;revert hc;decide)]
   by_cases h3:(P.tk T k).text=[109,111,100]
   ·exact .inl ⟨.inr (.inr ⟨k1,h3⟩),by rw[if_pos h3,h3]⟩
   ·rw[if_neg h3]
    exact .inr ⟨.inr (.inl ⟨k1,h3⟩),rfl⟩
  ·simp only[isT_n k4 k1]
   exact .inr ⟨.inr (.inr ⟨k4,k1⟩),rfl⟩
theorem opAt0_cases{T:List P.Tok}(h:TWs T){k:Nat}(hk:k<T.length) :
  ((((P.tk T k).kind=4/\(P.tk T k).text=[43])\/((P.tk T k).kind=4/\(P.tk T k).text=[45]))/\P.opAt T 0 k=some (P.tk T k).text) \/
  (((P.tk T k).kind=4/\(P.tk T k).text≠[43]/\(P.tk T k).text≠[45])\/(P.tk T k).kind≠4)/\P.opAt T 0 k=none:=by
 rw[opAt0]
 by_cases k4:(P.tk T k).kind=4
 ·simp only[isT_4 k4]
  by_cases h1:(P.tk T k).text=[43]
  ·exact .inl ⟨.inl ⟨k4,h1⟩,by rw[if_pos h1,h1]⟩
  ·rw[if_neg h1]
   by_cases h2:(P.tk T k).text=[45]
   ·exact .inl ⟨.inr ⟨k4,h2⟩,by rw[if_pos h2,h2]⟩
   ·rw[if_neg h2]
    exact .inr ⟨.inl ⟨k4,h1,h2⟩,rfl⟩
 ·by_cases k1:(P.tk T k).kind=1
  ·obtain⟨c,r,e,hc⟩:=h.words _ (tk_mem hk) k1
   simp only[isT_1 k1]
   rw[if_neg (by rw[e];intro h1;injection h1 with h1;rw[h1] at hc;revert hc;decide),if_neg (by rw[e];intro h1;injection h1 with h1;rw[h1] at hc;revert hc;decide)]
   exact .inr ⟨.inr k4,rfl⟩
  ·simp only[isT_n k4 k1]
   exact .inr ⟨.inr k4,rfl⟩
abbrev Fb(w w':World)(q:Nat):Nat->Prop:=fun b=>w.heap.size<b/\b<w'.heap.size/\b≠q
def zb16:=(zA zG0 (zA @sh_Pr_parser_product.eq_1 (zA @al_111 (zA @al_69 (zA @bd_111 (zA @br_37_2 (zA @fa_67_1 (zA @fa_67_4 (zA @fa_69_0 (zA @fa_69_1 (zA @ld_111 (zA @ld_3 (zA @ld_32 (zA @ld_5 (zA @ld_9 (zA @st_111 (zA @st_3 @st_69)))))))))))))))))
theorem rProduct {f:Nat} (hP:∀ g,g<f->RCP g):RCT f:=⟨by
 intro pb tb T k vars d w r h hd hr
 obtain⟨l1,hkt,hlT,h4⟩:=h.cs
 cases f with
 | zero=>simp [P.pOper] at hr
 | succ f=>
 rw[P.pOper,if_neg (by decide)] at hr
 cases f with
 | zero=>simp [P.pOper,P.Res.bind] at hr
 | succ f=>
 rw[show(1+1:Nat)=2 from rfl,P.pOper,if_pos rfl] at hr
 cases hq:P.pPrim T f k vars d with
 | none=>rw[hq] at hr;simp [P.Res.bind] at hr
 | some q=>
 rw[hq] at hr
 refine sh_Pr_parser_product_ok ?_
 simp (disch:=first|assumption|omega|simp only[zS]<;>omega|decide) only[zb16,simprocAttr]
 have hf0:Ext w (w.alloc (.cells #[.int .u8 0,.string (bs []),zi 0,zi 0,.slice none 0 0] 111)):=by(repeat (first | assumption | exact FrM.refl _ _ | (refine FrM.upd ?_ (.inr (by(try simp only[zS])<;>omega))) | refine FrM.alloc ?_ _ | refine FrM.drew ?_))
 refine Calls.mono ((hP f (by omega)).go (h.ext hf0) hd hq) ?_
 rintro e w1 ⟨a,b,c,g,u,rfl,⟨o1,o2,o3,o4,o5,oh⟩,hF1,hst⟩
 have s1:=hF1.size
 rw[size_alloc] at s1
 have c0:w1.heap[w.heap.size]?=some (.cells #[.int .u8 0,.string (bs []),zi 0,zi 0,.slice none 0 0] 111 (0,0)):=SFr.keep hF1 (by simp (disch:=first|assumption|omega|simp only[zS]<;>omega|decide) only[zH]) (by omega) (by decide)
 simp (disch:=first|assumption|omega|simp only[zS]<;>omega|decide) only[zb16,simprocAttr,o1,o2,o3,o4,o5]
 have hX2:Ext w1 (upd (w1.alloc (.cells #[.int .u8 0,.string (bs []),zi 0,zi 0,.slice none 0 0] 111)) w1.heap.size (.cells #[a,b,c,g,u] 111)):=by(repeat (first | assumption | exact FrM.refl _ _ | (refine FrM.upd ?_ (.inr (by(try simp only[zS])<;>omega))) | refine FrM.alloc ?_ _ | refine FrM.drew ?_))
 refine⟨fun n s wl=>∃ a b c g u,(a.oneCell'=true/\b.oneCell'=true/\c.oneCell'=true/\g.oneCell'=true/\u.oneCell'=true/\ShX a b c g u) /\
   wl.heap[w.heap.size]?=some (.cells #[.int .u8 0,.string (bs []),zi 0,zi 0,.slice none 0 0] 111 (0,0))/\wl.heap[w1.heap.size]?=some (.cells #[a,b,c,g,u] 111)/\RFr pb w wl /\
   ((∃ f' x k' vs,n=f'+1/\f'≤f+1/\IsRx (Fb w wl w1.heap.size) wl [a,b,c,g,u] x/\RP wl pb tb T k' vs d 0 0/\P.pMore T f' 1 x k' vs d=some r) \/
    (n=0/\∃ c a k' vs,r = .err c a/\c≠0/\RP wl pb tb T k' vs d c a)),?_,?_⟩
 ·cases q with
  | err c1 a1=>
   obtain⟨hc,k2,vs2,hP2⟩:=hst
   simp only[P.Res.bind,Option.some.injEq] at hr
   exact⟨0,a,b,c,g,u,⟨o1,o2,o3,o4,o5,oh⟩,by simp (disch:=first|assumption|omega|simp only[zS]<;>omega|decide) only[zH];exact c0,by simp (disch:=first|assumption|omega|simp only[zS]<;>omega|decide) only[zH],(hf0.toM.trans hF1).trans hX2.toM,.inr ⟨rfl,c1,a1,k2,vs2,hr.symm,hc,hP2.ext hX2⟩⟩
  | ok x k2 vs2=>
   obtain⟨hx,hP2⟩:=hst
   simp only[P.Res.bind] at hr
   refine⟨f+1+1,a,b,c,g,u,⟨o1,o2,o3,o4,o5,oh⟩,by simp (disch:=first|assumption|omega|simp only[zS]<;>omega|decide) only[zH];exact c0,by simp (disch:=first|assumption|omega|simp only[zS]<;>omega|decide) only[zH],(hf0.toM.trans hF1).trans hX2.toM,.inl ⟨f+1,x,k2,vs2,rfl,Nat.le_refl _,IsRx.mono (fun b hb=>?_) (fun b cs hb hc=>hX2.ext _ _ hc) _ _ hx,hP2.ext hX2,hr⟩⟩
   have hb1:=hb.1
   have hb2:=hb.2
   rw[size_alloc] at hb1
   exact⟨by omega,by((try simp only[zS])<;>omega),by omega⟩
 ·intro n s dd wl hI
  refine toPr ?_
  obtain⟨a,b,c,g,u,⟨o1,o2,o3,o4,o5,oh⟩,e0,e1,hF,hI⟩:=hI
  have le0:=ltOf e0
  have le1:=ltOf e1
  rcases hI with⟨f',x,k',vs,rfl,hf',hx,hPl,hm⟩| ⟨rfl,c1,a1,k',vs,rfl,hc,hPl⟩
  ·cases f' with
   | zero=>simp [P.pMore] at hm
   | succ f'=>
   rw[P.pMore] at hm
   obtain⟨lc3,vv3,hx3⟩:=id hPl
   have h3:=hx3.cell
   rcases opAt1_cases hx3.tw hx3.kt with⟨hop,ho⟩| ⟨hop,ho⟩
   · rw[ho] at hm
     simp only at hm
     cases f' with
     | zero=>simp [P.pOper,P.Res.bind] at hm
     | succ f'=>
     rw[show(1+1:Nat)=2 from rfl,P.pOper,if_pos rfl] at hm
     cases hq2:P.pPrim T f' (k'+1) vs d with
     | none=>rw[hq2] at hm;simp [P.Res.bind] at hm
     | some q2=>
     rw[hq2] at hm
     have hkn:=hx3.tw.next hx3.kt (by omega)
     rcases hop with⟨k4,ht⟩| ⟨k4,ht⟩| ⟨k4,ht⟩
     all_goals
      simp (disch:=first|assumption|omega|simp only[zS]<;>omega|decide) only[zb16,simprocAttr,h3]
      refine Calls.mono (rNext hPl) ?_
      rintro e w2 ⟨rfl,hf2⟩
      have s2:=hf2.size
      have g1:=hf2.ext _ _ e1
      have g0:=hf2.ext _ _ e0
      have h3':=hf2.ext _ _ h3
      rw[k4,ht]
      try rw[show rk 4=115 from rfl]
      try rw[show rk 1=97 from rfl]
      simp (disch:=first|assumption|omega|simp only[zS]<;>omega|decide) only[zb16,simprocAttr,h3',g1]
      refine Calls.mono ((hP f' (by omega)).go (rStepP (kz:=(k':Int)+1) hx3 ?_ rfl hkn) hd hq2) ?_
      ·(repeat (first | assumption | exact FrM.refl _ _ | (refine FrM.upd ?_ (.inr (by(try simp only[zS])<;>omega))) | refine FrM.alloc ?_ _ | refine FrM.drew ?_))
      rintro e w3 ⟨a',b',c',g',u',rfl,⟨p1,p2,p3,p4,p5,ph⟩,hF3,hst3⟩
      have s3:=hF3.size
      rw[size_upd,size_upd,size_alloc] at s3
      have i0:w3.heap[w.heap.size]?=some (.cells #[.int .u8 0,.string (bs []),zi 0,zi 0,.slice none 0 0] 111 (0,0)):=SFr.keep hF3 (by simp (disch:=first|assumption|omega|simp only[zS]<;>omega|decide) only[zH];exact g0) (by omega) (by decide)
      have i1:w3.heap[w1.heap.size]?=some (.cells #[a,b,c,g,u] 111):=SFr.keep hF3 (by simp (disch:=first|assumption|omega|simp only[zS]<;>omega|decide) only[zH];exact g1) (by omega) (by decide)
      have i2:=SFr.keep (b:=w2.heap.size) hF3 (by simp (disch:=first|assumption|omega|simp only[zS]<;>omega|decide) only[zH];rfl) (by omega) (by decide)
      have li1:=ltOf i1
      have li2:=ltOf i2
      simp (disch:=first|assumption|omega|simp only[zS]<;>omega|decide) only[zb16,simprocAttr,i0,i1,i2,o1,o2,o3,o4,o5,p1,p2,p3,p4,p5]
      have hX3:Ext w3 ((upd (w3.alloc (.cells #[.int .u8 0,.string (bs []),zi 0,zi 0,.slice none 0 0] 111)) w3.heap.size (.cells #[a',b',c',g',u'] 111)).alloc (.cells #[a,b,c,g,u,a',b',c',g',u'] 111)):=by(repeat (first | assumption | exact FrM.refl _ _ | (refine FrM.upd ?_ (.inr (by(try simp only[zS])<;>omega))) | refine FrM.alloc ?_ _ | refine FrM.drew ?_))
      have hF4:=(hF.trans ((rStepF (show Ext wl _ from(by(repeat (first | assumption | exact FrM.refl _ _ | (refine FrM.upd ?_ (.inr (by(try simp only[zS])<;>omega))) | refine FrM.alloc ?_ _ | refine FrM.drew ?_)):Ext wl (upd (w2.alloc (.cells #[.int .u8 0,.string (bs []),zi 0] 69)) w2.heap.size (.cells _ 69))))).trans hF3)).trans hX3.toM
      cases q2 with
      | err c2 a2=>
       obtain⟨hc2,k5,vs5,hP5⟩:=hst3
       simp only[P.Res.bind,Option.some.injEq] at hm
       exact⟨0,Nat.succ_pos _,_,_,_,_,_,⟨rfl,rfl,rfl,rfl,rfl,.of (by decide)⟩,rfl,hF4.upd (.inr (by omega)),.inr ⟨rfl,c2,a2,k5,vs5,hm.symm,hc2,(hP5.ext hX3).updT (by omega) (hX3.ext _ _ i1) (by decide)⟩⟩
      | ok y k5 vs5=>
       obtain⟨hy,hP5⟩:=hst3
       simp only[P.Res.bind] at hm
       rw[ht] at hm
       refine⟨f'+1+1,by omega,_,_,_,_,_,⟨rfl,rfl,rfl,rfl,rfl,.of (by decide)⟩,rfl,hF4.upd (.inr (by omega)),.inl ⟨f'+1,_,k5,vs5,rfl,by omega,?_,(hP5.ext hX3).updT (by omega) (hX3.ext _ _ i1) (by decide),hm⟩⟩
       refine isRx_two (q:=w3.heap.size+1) (l:=[a,b,c,g,u]) (ly:=[a',b',c',g',u']) (IsRx.mono (fun b hb=>?_) (fun b cs hb hc=>?_) _ _ hx) (IsRx.mono (fun b hb=>?_) (fun b cs hb hc=>?_) _ _ hy) (by simp (disch:=first|assumption|omega|simp only[zS]<;>omega|decide) only[zH];rfl) rfl ⟨by omega,by((try simp only[zS])<;>omega),by omega⟩ _ _
       ·have h1:=hb.1
        exact⟨h1,by((try simp only[zS])<;>omega),hb.2.2⟩
       ·have h1:=hb.1
        have h3:=hb.2.2
        have hc2:=hf2.ext _ _ hc
        rw[hp_upd_other (by omega)]
        have hbp:b≠pb:=by omega
        exact hX3.ext _ _ (SFr.keep hF3 (by simp (disch:=first|assumption|omega|simp only[zS]<;>omega|decide) only[zH];exact hc2) hbp (by decide))
       ·have h1:=hb.1
        have h2:=hb.2
        rw[size_upd,size_upd,size_alloc] at h1
        exact⟨by omega,by((try simp only[zS])<;>omega),by omega⟩
       ·have h1:=hb.1
        rw[size_upd,size_upd,size_alloc] at h1
        rw[hp_upd_other (by omega)]
        exact hX3.ext _ _ hc
   · rw[ho] at hm
     simp only[Option.some.injEq] at hm
     have hend:∀ {w3:World},Ext wl w3->RPostX pb tb T d w r (.returned (.agg #[a,b,c,g,u])) (upd w3 w.heap.size (.cells #[a,b,c,g,u] 111)):=fun hf3=>by
      have s3:=hf3.size
      rw[<- hm]
      refine⟨_,_,_,_,_,rfl,⟨o1,o2,o3,o4,o5,oh⟩,(hF.trans hf3.toM).upd (.inr (Nat.le_refl _)),IsRx.mono (fun b hb=>?_) (fun b cs hb hc=>?_) _ _ hx,(hPl.ext hf3).updT l1 (hf3.ext _ _ e0) (by decide)⟩
      ·exact⟨by have:=hb.1;omega,by have:=hb.2.1;rw[size_upd];omega⟩
      ·have:=hb.1
       rw[hp_upd_other (by omega)]
       exact hf3.ext _ _ hc
     rcases hop with⟨k4,ht1,ht2⟩| ⟨k4,ht1⟩| ⟨k4,k1⟩
     ·simp (disch:=first|assumption|omega|simp only[zS]<;>omega|decide) only[zb16,simprocAttr,h3]
      refine Calls.mono (rNext hPl) ?_
      rintro e w2 ⟨rfl,hf2⟩
      have s2:=hf2.size
      have g1:=hf2.ext _ _ e1
      have g0:=hf2.ext _ _ e0
      rw[k4,show rk 4=115 from rfl]
      simp (disch:=first|assumption|omega|simp only[zS]<;>omega|decide) only[zb16,simprocAttr,g1,g0,o1,o2,o3,o4,o5]
      refine hend ?_
      (repeat (first | assumption | exact FrM.refl _ _ | (refine FrM.upd ?_ (.inr (by(try simp only[zS])<;>omega))) | refine FrM.alloc ?_ _ | refine FrM.drew ?_))
     ·simp (disch:=first|assumption|omega|simp only[zS]<;>omega|decide) only[zb16,simprocAttr,h3]
      refine Calls.mono (rNext hPl) ?_
      rintro e w2 ⟨rfl,hf2⟩
      have s2:=hf2.size
      have g1:=hf2.ext _ _ e1
      have g0:=hf2.ext _ _ e0
      rw[k4,show rk 1=97 from rfl]
      simp (disch:=first|assumption|omega|simp only[zS]<;>omega|decide) only[zb16,simprocAttr,g1,g0,o1,o2,o3,o4,o5]
      refine hend ?_
      (repeat (first | assumption | exact FrM.refl _ _ | (refine FrM.upd ?_ (.inr (by(try simp only[zS])<;>omega))) | refine FrM.alloc ?_ _ | refine FrM.drew ?_))
     ·have q1:¬ (rk (P.tk T k').kind:Int)=115:=fun e=>k4 ((rk_sign hx3.kind4).1 (by omega))
      have q2:¬ (rk (P.tk T k').kind:Int)=97:=fun e=>k1 ((rk_atom hx3.kind4).1 (by omega))
      have q3:=rk_small (P.tk T k').kind
      simp (disch:=first|assumption|omega|simp only[zS]<;>omega|decide) only[zb16,simprocAttr,h3]
      refine Calls.mono (rNext hPl) ?_
      rintro e w2 ⟨rfl,hf2⟩
      have s2:=hf2.size
      have g1:=hf2.ext _ _ e1
      have g0:=hf2.ext _ _ e0
      generalize hgq:rk (P.tk T k').kind=q at *
      simp (disch:=first|assumption|omega|simp only[zS]<;>omega|decide) only[zb16,simprocAttr,g1,g0,o1,o2,o3,o4,o5]
      refine hend ?_
      (repeat (first | assumption | exact FrM.refl _ _ | (refine FrM.upd ?_ (.inr (by(try simp only[zS])<;>omega))) | refine FrM.alloc ?_ _ | refine FrM.drew ?_))
  ·obtain⟨lc3,vv3,hx3⟩:=id hPl
   have h3:=hx3.cell
   simp (disch:=first|assumption|omega|simp only[zS]<;>omega|decide) only[zb16,simprocAttr,h3,e0,e1,o1,o2,o3,o4,o5]
   exact⟨_,_,_,_,_,rfl,⟨o1,o2,o3,o4,o5,oh⟩,hF.upd (.inr (Nat.le_refl _)),hc,_,_,hPl.updT l1 e0 (by decide)⟩⟩
def zb17:=(zA zG0 (zA @sh_Pr_parser_expr.eq_1 (zA @al_111 (zA @al_69 (zA @bd_111 (zA @br_37_2 (zA @fa_67_1 (zA @fa_67_4 (zA @fa_69_0 (zA @fa_69_1 (zA @ld_111 (zA @ld_3 (zA @ld_32 (zA @ld_5 (zA @ld_9 (zA @st_111 (zA @st_3 @st_69)))))))))))))))))
theorem rExpr {f:Nat} (hP:∀ g,g<f->RCT g):RCE f:=⟨by
 intro pb tb T k vars d w r h hd hr
 obtain⟨l1,hkt,hlT,h4⟩:=h.cs
 cases f with
 | zero=>simp [P.pOper] at hr
 | succ f=>
 rw[P.pOper,if_neg (by decide)] at hr
 rw[show(0+1:Nat)=1 from rfl] at hr
 cases hq:P.pOper T f 1 k vars d with
 | none=>rw[hq] at hr;simp [P.Res.bind] at hr
 | some q=>
 rw[hq] at hr
 refine sh_Pr_parser_expr_ok ?_
 simp (disch:=first|assumption|omega|simp only[zS]<;>omega|decide) only[zb17,simprocAttr]
 have hf0:Ext w (w.alloc (.cells #[.int .u8 0,.string (bs []),zi 0,zi 0,.slice none 0 0] 111)):=by(repeat (first | assumption | exact FrM.refl _ _ | (refine FrM.upd ?_ (.inr (by(try simp only[zS])<;>omega))) | refine FrM.alloc ?_ _ | refine FrM.drew ?_))
 refine Calls.mono ((hP f (by omega)).go (h.ext hf0) hd hq) ?_
 rintro e w1 ⟨a,b,c,g,u,rfl,⟨o1,o2,o3,o4,o5,oh⟩,hF1,hst⟩
 have s1:=hF1.size
 rw[size_alloc] at s1
 have c0:w1.heap[w.heap.size]?=some (.cells #[.int .u8 0,.string (bs []),zi 0,zi 0,.slice none 0 0] 111 (0,0)):=SFr.keep hF1 (by simp (disch:=first|assumption|omega|simp only[zS]<;>omega|decide) only[zH]) (by omega) (by decide)
 simp (disch:=first|assumption|omega|simp only[zS]<;>omega|decide) only[zb17,simprocAttr,o1,o2,o3,o4,o5]
 have hX2:Ext w1 (upd (w1.alloc (.cells #[.int .u8 0,.string (bs []),zi 0,zi 0,.slice none 0 0] 111)) w1.heap.size (.cells #[a,b,c,g,u] 111)):=by(repeat (first | assumption | exact FrM.refl _ _ | (refine FrM.upd ?_ (.inr (by(try simp only[zS])<;>omega))) | refine FrM.alloc ?_ _ | refine FrM.drew ?_))
 refine⟨fun n s wl=>∃ a b c g u,(a.oneCell'=true/\b.oneCell'=true/\c.oneCell'=true/\g.oneCell'=true/\u.oneCell'=true/\ShX a b c g u) /\
   wl.heap[w.heap.size]?=some (.cells #[.int .u8 0,.string (bs []),zi 0,zi 0,.slice none 0 0] 111 (0,0))/\wl.heap[w1.heap.size]?=some (.cells #[a,b,c,g,u] 111)/\RFr pb w wl /\
   ((∃ f' x k' vs,n=f'+1/\f'≤f/\IsRx (Fb w wl w1.heap.size) wl [a,b,c,g,u] x/\RP wl pb tb T k' vs d 0 0/\P.pMore T f' 0 x k' vs d=some r) \/
    (n=0/\∃ c a k' vs,r = .err c a/\c≠0/\RP wl pb tb T k' vs d c a)),?_,?_⟩
 ·cases q with
  | err c1 a1=>
   obtain⟨hc,k2,vs2,hP2⟩:=hst
   simp only[P.Res.bind,Option.some.injEq] at hr
   exact⟨0,a,b,c,g,u,⟨o1,o2,o3,o4,o5,oh⟩,by simp (disch:=first|assumption|omega|simp only[zS]<;>omega|decide) only[zH];exact c0,by simp (disch:=first|assumption|omega|simp only[zS]<;>omega|decide) only[zH],(hf0.toM.trans hF1).trans hX2.toM,.inr ⟨rfl,c1,a1,k2,vs2,hr.symm,hc,hP2.ext hX2⟩⟩
  | ok x k2 vs2=>
   obtain⟨hx,hP2⟩:=hst
   simp only[P.Res.bind] at hr
   refine⟨f+1,a,b,c,g,u,⟨o1,o2,o3,o4,o5,oh⟩,by simp (disch:=first|assumption|omega|simp only[zS]<;>omega|decide) only[zH];exact c0,by simp (disch:=first|assumption|omega|simp only[zS]<;>omega|decide) only[zH],(hf0.toM.trans hF1).trans hX2.toM,.inl ⟨f,x,k2,vs2,rfl,Nat.le_refl _,IsRx.mono (fun b hb=>?_) (fun b cs hb hc=>hX2.ext _ _ hc) _ _ hx,hP2.ext hX2,hr⟩⟩
   have hb1:=hb.1
   have hb2:=hb.2
   rw[size_alloc] at hb1
   exact⟨by omega,by((try simp only[zS])<;>omega),by omega⟩
 ·intro n s dd wl hI
  refine toPr ?_
  obtain⟨a,b,c,g,u,⟨o1,o2,o3,o4,o5,oh⟩,e0,e1,hF,hI⟩:=hI
  have le0:=ltOf e0
  have le1:=ltOf e1
  rcases hI with⟨f',x,k',vs,rfl,hf',hx,hPl,hm⟩| ⟨rfl,c1,a1,k',vs,rfl,hc,hPl⟩
  ·cases f' with
   | zero=>simp [P.pMore] at hm
   | succ f'=>
   rw[P.pMore] at hm
   obtain⟨lc3,vv3,hx3⟩:=id hPl
   have h3:=hx3.cell
   rcases opAt0_cases hx3.tw hx3.kt with⟨hop,ho⟩| ⟨hop,ho⟩
   · rw[ho] at hm
     simp only at hm
     rw[show(0+1:Nat)=1 from rfl] at hm
     cases hq2:P.pOper T f' 1 (k'+1) vs d with
     | none=>rw[hq2] at hm;simp [P.Res.bind] at hm
     | some q2=>
     rw[hq2] at hm
     have hkn:=hx3.tw.next hx3.kt (by omega)
     rcases hop with⟨k4,ht⟩| ⟨k4,ht⟩
     all_goals
      simp (disch:=first|assumption|omega|simp only[zS]<;>omega|decide) only[zb17,simprocAttr,h3]
      refine Calls.mono (rNext hPl) ?_
      rintro e w2 ⟨rfl,hf2⟩
      have s2:=hf2.size
      have g1:=hf2.ext _ _ e1
      have g0:=hf2.ext _ _ e0
      have h3':=hf2.ext _ _ h3
      rw[k4,ht]
      try rw[show rk 4=115 from rfl]
      simp (disch:=first|assumption|omega|simp only[zS]<;>omega|decide) only[zb17,simprocAttr,h3',g1]
      refine Calls.mono ((hP f' (by omega)).go (rStepP (kz:=(k':Int)+1) hx3 ?_ rfl hkn) hd hq2) ?_
      ·(repeat (first | assumption | exact FrM.refl _ _ | (refine FrM.upd ?_ (.inr (by(try simp only[zS])<;>omega))) | refine FrM.alloc ?_ _ | refine FrM.drew ?_))
      rintro e w3 ⟨a',b',c',g',u',rfl,⟨p1,p2,p3,p4,p5,ph⟩,hF3,hst3⟩
      have s3:=hF3.size
      rw[size_upd,size_upd,size_alloc] at s3
      have i0:w3.heap[w.heap.size]?=some (.cells #[.int .u8 0,.string (bs []),zi 0,zi 0,.slice none 0 0] 111 (0,0)):=SFr.keep hF3 (by simp (disch:=first|assumption|omega|simp only[zS]<;>omega|decide) only[zH];exact g0) (by omega) (by decide)
      have i1:w3.heap[w1.heap.size]?=some (.cells #[a,b,c,g,u] 111):=SFr.keep hF3 (by simp (disch:=first|assumption|omega|simp only[zS]<;>omega|decide) only[zH];exact g1) (by omega) (by decide)
      have i2:=SFr.keep (b:=w2.heap.size) hF3 (by simp (disch:=first|assumption|omega|simp only[zS]<;>omega|decide) only[zH];rfl) (by omega) (by decide)
      have li1:=ltOf i1
      have li2:=ltOf i2
      simp (disch:=first|assumption|omega|simp only[zS]<;>omega|decide) only[zb17,simprocAttr,i0,i1,i2,o1,o2,o3,o4,o5,p1,p2,p3,p4,p5]
      have hX3:Ext w3 ((upd (w3.alloc (.cells #[.int .u8 0,.string (bs []),zi 0,zi 0,.slice none 0 0] 111)) w3.heap.size (.cells #[a',b',c',g',u'] 111)).alloc (.cells #[a,b,c,g,u,a',b',c',g',u'] 111)):=by(repeat (first | assumption | exact FrM.refl _ _ | (refine FrM.upd ?_ (.inr (by(try simp only[zS])<;>omega))) | refine FrM.alloc ?_ _ | refine FrM.drew ?_))
      have hF4:=(hF.trans ((rStepF (show Ext wl _ from(by(repeat (first | assumption | exact FrM.refl _ _ | (refine FrM.upd ?_ (.inr (by(try simp only[zS])<;>omega))) | refine FrM.alloc ?_ _ | refine FrM.drew ?_)):Ext wl (upd (w2.alloc (.cells #[.int .u8 0,.string (bs []),zi 0] 69)) w2.heap.size (.cells _ 69))))).trans hF3)).trans hX3.toM
      cases q2 with
      | err c2 a2=>
       obtain⟨hc2,k5,vs5,hP5⟩:=hst3
       simp only[P.Res.bind,Option.some.injEq] at hm
       exact⟨0,Nat.succ_pos _,_,_,_,_,_,⟨rfl,rfl,rfl,rfl,rfl,.of (by decide)⟩,rfl,hF4.upd (.inr (by omega)),.inr ⟨rfl,c2,a2,k5,vs5,hm.symm,hc2,(hP5.ext hX3).updT (by omega) (hX3.ext _ _ i1) (by decide)⟩⟩
      | ok y k5 vs5=>
       obtain⟨hy,hP5⟩:=hst3
       simp only[P.Res.bind] at hm
       rw[ht] at hm
       refine⟨f'+1,by omega,_,_,_,_,_,⟨rfl,rfl,rfl,rfl,rfl,.of (by decide)⟩,rfl,hF4.upd (.inr (by omega)),.inl ⟨f',_,k5,vs5,rfl,by omega,?_,(hP5.ext hX3).updT (by omega) (hX3.ext _ _ i1) (by decide),hm⟩⟩
       refine isRx_two (q:=w3.heap.size+1) (l:=[a,b,c,g,u]) (ly:=[a',b',c',g',u']) (IsRx.mono (fun b hb=>?_) (fun b cs hb hc=>?_) _ _ hx) (IsRx.mono (fun b hb=>?_) (fun b cs hb hc=>?_) _ _ hy) (by simp (disch:=first|assumption|omega|simp only[zS]<;>omega|decide) only[zH];rfl) rfl ⟨by omega,by((try simp only[zS])<;>omega),by omega⟩ _ _
       ·have h1:=hb.1
        exact⟨h1,by((try simp only[zS])<;>omega),hb.2.2⟩
       ·have h1:=hb.1
        have h3:=hb.2.2
        have hc2:=hf2.ext _ _ hc
        rw[hp_upd_other (by omega)]
        have hbp:b≠pb:=by omega
        exact hX3.ext _ _ (SFr.keep hF3 (by simp (disch:=first|assumption|omega|simp only[zS]<;>omega|decide) only[zH];exact hc2) hbp (by decide))
       ·have h1:=hb.1
        have h2:=hb.2
        rw[size_upd,size_upd,size_alloc] at h1
        exact⟨by omega,by((try simp only[zS])<;>omega),by omega⟩
       ·have h1:=hb.1
        rw[size_upd,size_upd,size_alloc] at h1
        rw[hp_upd_other (by omega)]
        exact hX3.ext _ _ hc
   · rw[ho] at hm
     simp only[Option.some.injEq] at hm
     have hend:∀ {w3:World},Ext wl w3->RPostX pb tb T d w r (.returned (.agg #[a,b,c,g,u])) (upd w3 w.heap.size (.cells #[a,b,c,g,u] 111)):=fun hf3=>by
      have s3:=hf3.size
      rw[<- hm]
      refine⟨_,_,_,_,_,rfl,⟨o1,o2,o3,o4,o5,oh⟩,(hF.trans hf3.toM).upd (.inr (Nat.le_refl _)),IsRx.mono (fun b hb=>?_) (fun b cs hb hc=>?_) _ _ hx,(hPl.ext hf3).updT l1 (hf3.ext _ _ e0) (by decide)⟩
      ·exact⟨by have:=hb.1;omega,by have:=hb.2.1;rw[size_upd];omega⟩
      ·have:=hb.1
       rw[hp_upd_other (by omega)]
       exact hf3.ext _ _ hc
     rcases hop with⟨k4,ht1,ht2⟩| k4
     ·simp (disch:=first|assumption|omega|simp only[zS]<;>omega|decide) only[zb17,simprocAttr,h3]
      refine Calls.mono (rNext hPl) ?_
      rintro e w2 ⟨rfl,hf2⟩
      have s2:=hf2.size
      have g1:=hf2.ext _ _ e1
      have g0:=hf2.ext _ _ e0
      rw[k4,show rk 4=115 from rfl]
      simp (disch:=first|assumption|omega|simp only[zS]<;>omega|decide) only[zb17,simprocAttr,g1,g0,o1,o2,o3,o4,o5]
      refine hend ?_
      (repeat (first | assumption | exact FrM.refl _ _ | (refine FrM.upd ?_ (.inr (by(try simp only[zS])<;>omega))) | refine FrM.alloc ?_ _ | refine FrM.drew ?_))
     ·have q1:¬ (rk (P.tk T k').kind:Int)=115:=fun e=>k4 ((rk_sign hx3.kind4).1 (by omega))
      have q3:=rk_small (P.tk T k').kind
      simp (disch:=first|assumption|omega|simp only[zS]<;>omega|decide) only[zb17,simprocAttr,h3]
      refine Calls.mono (rNext hPl) ?_
      rintro e w2 ⟨rfl,hf2⟩
      have s2:=hf2.size
      have g1:=hf2.ext _ _ e1
      have g0:=hf2.ext _ _ e0
      generalize hgq:rk (P.tk T k').kind=q at *
      simp (disch:=first|assumption|omega|simp only[zS]<;>omega|decide) only[zb17,simprocAttr,g1,g0,o1,o2,o3,o4,o5]
      refine hend ?_
      (repeat (first | assumption | exact FrM.refl _ _ | (refine FrM.upd ?_ (.inr (by(try simp only[zS])<;>omega))) | refine FrM.alloc ?_ _ | refine FrM.drew ?_))
  ·obtain⟨lc3,vv3,hx3⟩:=id hPl
   have h3:=hx3.cell
   simp (disch:=first|assumption|omega|simp only[zS]<;>omega|decide) only[zb17,simprocAttr,h3,e0,e1,o1,o2,o3,o4,o5]
   exact⟨_,_,_,_,_,rfl,⟨o1,o2,o3,o4,o5,oh⟩,hF.upd (.inr (Nat.le_refl _)),hc,_,_,hPl.updT l1 e0 (by decide)⟩⟩
def LT(p0 x2 x3 rv:Value)(w1_13:World)(R:Ending->World->Prop):Prop:=
 CA Tryz.prog 23 #[p0,(.string (bs [93]))] w1_13 (fun x30 w1_16=>
 RD Tryz.prog (Builtin.len_ #[37] 3 #[rv]) w1_16 (fun x32=>
 RD Tryz.prog (bo .sub 3 (.tmp 32) (.const (zi 1)) x32 (zi 1)) w1_16 (fun x33=>
 LoopW (fun rec_1 s_2 d_2 w1_17=>
  RD Tryz.prog (bo .geq 3 (.tmp 34) (.const (zi 0)) (s_2 9) (zi 0)) w1_17 (fun x35=>BS x35 (
  RD Tryz.prog (Instr.indexAt 37 rv (s_2 9)) w1_17.drew (fun x40=>
  RD Tryz.prog (Instr.loadAt 111 x40) w1_17.drew (fun x41=>
  RD Tryz.prog (Instr.loadAt 111 x3) w1_17.drew (fun x42=>
  WR Tryz.prog (Instr.buildSlice 37 2 #[(0,x41),(1,x42)]) w1_17.drew (fun x43 w1_18=>
  RD Tryz.prog (Instr.build 111 #[(0,(.int .u8 99)),(1,(.string (bs [46]))),(4,x43)]) w1_18 (fun x44=>
  WU Tryz.prog (Instr.storeAt 111 x3 x44) w1_18 (fun w1_19=>
  RD Tryz.prog (bo .sub 3 (.tmp 36) (.const (zi 1)) (s_2 9) (zi 1)) w1_19 (fun x37=>
  rec_1 (sOf [(9,x37)]) w1_19) (PX R)) (PX R)) (PX R)) (PX R)) NX) NX) NX) (
  RD Tryz.prog (Instr.loadAt 111 x3) w1_17 (fun x45=>
 WU Tryz.prog (Instr.storeAt 111 x2 x45) w1_17 (fun w1_20=>
 RD Tryz.prog (Instr.loadAt 111 x2) w1_20 (fun r_1=>R (.returned r_1) w1_20) NX) (PX R)) (PX R))) (PX R))
  (sOf [(9,x33)]) w1_16) (PX R)) (PX R)) (PC R)
theorem mkList_drop(acc:List P.Ex)(x:P.Ex)(i:Nat)(hi:i<acc.length):P.mkList (acc.drop i) x = .mk 99 [46] 0 0 [acc[i],P.mkList (acc.drop (i+1)) x]:=by
 rw[List.drop_eq_getElem_cons hi]
 rfl
theorem own_five{w:World}{base:Nat}{v:Value}{m:Nat}{xs:List Value}(h:w.ownsRow base 111 5 v m xs){i:Nat}(hi:i<m)(h1:∀ u∈xs,u.oneCell'=true) :
  ∃ g cap cur a0 a1 a2 a3 a4,v = .slice (some ⟨g,0,none⟩) m cap/\w.heap[g]?=some (.cells cur 111 (0,0))/\i*5+5≤cur.size/\(cur.toList.drop (i*5)).take 5=[a0,a1,a2,a3,a4] /\
   (xs.drop (5*i)).take 5=[a0,a1,a2,a3,a4]/\a0.oneCell'=true/\a1.oneCell'=true/\a2.oneCell'=true/\a3.oneCell'=true/\a4.oneCell'=true:=by
 obtain⟨hl,h⟩:=h
 rcases h with⟨_,rfl⟩| ⟨g,cap,cur,rfl,g1,g2,g3,g4,g5,g6⟩
 ·omega
 have hms:m*5≤cur.size:=by rw[g5];exact Nat.mul_le_mul_right _ g3
 have e1:(xs.drop (5*i)).take 5=(cur.toList.drop (i*5)).take 5:=by
  rw[<- g6,List.drop_take,List.take_take,Nat.mul_comm 5 i]
  congr 1
  omega
 have e2:((cur.toList.drop (i*5)).take 5).length=5:=by
  simp
  omega
 have hone:∀ u∈(cur.toList.drop (i*5)).take 5,u.oneCell'=true:=fun u hu=>by
  rw[<- e1] at hu
  exact h1 u (List.mem_of_mem_drop (List.mem_of_mem_take hu))
 match hq:(cur.toList.drop (i*5)).take 5,e2 with
 | [a0,a1,a2,a3,a4],_=>
  rw[hq] at hone e1
  exact⟨g,cap,cur,a0,a1,a2,a3,a4,rfl,g2,by omega,hq,e1,hone _ (by simp),hone _ (by simp),hone _ (by simp),hone _ (by simp),hone _ (by simp)⟩
theorem IsRxs.one{F:Nat->Prop}{w:World}:∀ {xs:List P.Ex} {vs:List Value},IsRxs F w vs xs->∀ u∈vs,u.oneCell'=true
 | [],vs,h,u,hu=>by unfold IsRxs at h;subst h;cases hu
 | x::xs,vs,h,u,hu=>by
  unfold IsRxs at h
  obtain⟨l,r,rfl,h2,h3⟩:=h
  obtain⟨a,b,c,d,e,rfl,p1,p2,p3,p4,p5⟩:=h2.len
  simp only[List.mem_append,List.mem_cons,List.not_mem_nil,or_false] at hu
  rcases hu with(rfl | rfl | rfl | rfl | rfl) | hu
  ·exact p1
  ·exact p2
  ·exact p3
  ·exact p4
  ·exact p5
  ·exact IsRxs.one h3 u hu
abbrev Fl(B:Nat)(w:World):Nat->Prop:=fun b=>B≤b/\b<w.heap.size
def zb18:=(zA zG0 (zA @sh_Pr_parser_list.eq_1 (zA @al_111 (zA @bd_111 (zA @br_37_1 (zA @br_37_2 (zA @ix_37 (zA @ld_111 (zA @ln_37 @st_111)))))))))
theorem rListTail {pb tb:Nat} {T:List P.Tok} {d:Nat} {w wt:World} {r:P.Res P.Ex} {q2 q3 B m:Nat} {rv:Value} {xs:List Value} {a b c g u:Value} (hpb:pb<w.heap.size) (hq2:w.heap.size≤q2) (hq3:q2<q3) (hB:q3<B) (hF:RFr pb w wt)
  (h2:wt.heap[q2]?=some (.cells #[.int .u8 0,.string (bs []),zi 0,zi 0,.slice none 0 0] 111 (0,0))) (h3:wt.heap[q3]?=some (.cells #[a,b,c,g,u] 111)) (hone:a.oneCell'=true/\b.oneCell'=true/\c.oneCell'=true/\g.oneCell'=true/\u.oneCell'=true/\ShX a b c g u)
  (hown:wt.ownsRow B 111 5 rv m xs) (hx1:∀ u∈xs,u.oneCell'=true) (hm:m≤100000)
  (hst:(∃ k vs acc x0,P.musT T [93] (P.mkList acc x0) k vs=some r/\RP wt pb tb T k vs d 0 0/\IsRx (Fl B wt) wt [a,b,c,g,u] x0/\IsRxs (Fl B wt) wt xs acc/\m=acc.length) \/
   (∃ k vs c a,r = .err c a/\c≠0/\RP wt pb tb T k vs d c a)) :
  LT (pp pb) (pp q2) (pp q3) rv wt (RPostX pb tb T d w r):=by
 obtain⟨a0,c0,hrv⟩:=own_slice hown
 subst hrv
 have hgo:∀ w2:World,RFr pb wt w2->((∃ k vs acc x0,r = .ok (P.mkList acc x0) k vs/\RP w2 pb tb T k vs d 0 0/\IsRx (Fl B w2) w2 [a,b,c,g,u] x0/\IsRxs (Fl B w2) w2 xs acc/\m=acc.length) \/
   (∃ k vs c a,r = .err c a/\c≠0/\RP w2 pb tb T k vs d c a))->ends (fun x30 w1_16=>
  RD Tryz.prog (Builtin.len_ #[37] 3 #[.slice a0 m c0]) w1_16 (fun x32=>
  RD Tryz.prog (bo .sub 3 (.tmp 32) (.const (zi 1)) x32 (zi 1)) w1_16 (fun x33=>
  LoopW (fun rec_1 s_2 d_2 w1_17=>
   RD Tryz.prog (bo .geq 3 (.tmp 34) (.const (zi 0)) (s_2 9) (zi 0)) w1_17 (fun x35=>BS x35 (
   RD Tryz.prog (Instr.indexAt 37 (.slice a0 m c0) (s_2 9)) w1_17.drew (fun x40=>
   RD Tryz.prog (Instr.loadAt 111 x40) w1_17.drew (fun x41=>
   RD Tryz.prog (Instr.loadAt 111 (pp q3)) w1_17.drew (fun x42=>
   WR Tryz.prog (Instr.buildSlice 37 2 #[(0,x41),(1,x42)]) w1_17.drew (fun x43 w1_18=>
   RD Tryz.prog (Instr.build 111 #[(0,(.int .u8 99)),(1,(.string (bs [46]))),(4,x43)]) w1_18 (fun x44=>
   WU Tryz.prog (Instr.storeAt 111 (pp q3) x44) w1_18 (fun w1_19=>
   RD Tryz.prog (bo .sub 3 (.tmp 36) (.const (zi 1)) (s_2 9) (zi 1)) w1_19 (fun x37=>
   rec_1 (sOf [(9,x37)]) w1_19) (PX (RPostX pb tb T d w r))) (PX (RPostX pb tb T d w r))) (PX (RPostX pb tb T d w r))) (PX (RPostX pb tb T d w r))) NX) NX) NX) (
   RD Tryz.prog (Instr.loadAt 111 (pp q3)) w1_17 (fun x45=>
  WU Tryz.prog (Instr.storeAt 111 (pp q2) x45) w1_17 (fun w1_20=>
  RD Tryz.prog (Instr.loadAt 111 (pp q2)) w1_20 (fun r_1=>(RPostX pb tb T d w r) (.returned r_1) w1_20) NX) (PX (RPostX pb tb T d w r))) (PX (RPostX pb tb T d w r)))) (PX (RPostX pb tb T d w r)))
   (sOf [(9,x33)]) w1_16) (PX (RPostX pb tb T d w r))) (PX (RPostX pb tb T d w r))) (PC (RPostX pb tb T d w r)) (.returned (.tuple #[])) w2:=by
  intro w2 hF2 hst
  have d2:=SFr.keep hF2 h2 (by omega) (by decide)
  have d3:=SFr.keep hF2 h3 (by omega) (by decide)
  have own2:=own_fr hF2 hown (by omega) (by decide)
  simp (disch:=first|assumption|omega|simp only[zS]<;>omega|decide) only[zb18,simprocAttr]
  refine⟨fun n s wl=>∃ i a b c g u,i≤m/\n=i/\s 9=zi ((i:Int)-1)/\(a.oneCell'=true/\b.oneCell'=true/\c.oneCell'=true/\g.oneCell'=true/\u.oneCell'=true/\ShX a b c g u) /\
   wl.heap[q2]?=some (.cells #[.int .u8 0,.string (bs []),zi 0,zi 0,.slice none 0 0] 111 (0,0))/\wl.heap[q3]?=some (.cells #[a,b,c,g,u] 111)/\RFr pb w wl/\wl.ownsRow B 111 5 (.slice a0 m c0) m xs /\
   ((∃ k vs acc x0,r = .ok (P.mkList acc x0) k vs/\RP wl pb tb T k vs d 0 0/\IsRx (Fl B wl) wl [a,b,c,g,u] (P.mkList (acc.drop i) x0)/\IsRxs (Fl B wl) wl xs acc/\m=acc.length) \/
    (∃ k vs c a,r = .err c a/\c≠0/\RP wl pb tb T k vs d c a)),?_,?_⟩
  ·refine⟨m,m,a,b,c,g,u,Nat.le_refl _,rfl,rfl,hone,d2,d3,hF.trans hF2,own2,?_⟩
   rcases hst with⟨k,vs,acc,x0,e1,e2,e3,e4,e5⟩| h
   · exact .inl ⟨k,vs,acc,x0,e1,e2,by rw[e5,List.drop_length];exact e3,e4,e5⟩
   · exact .inr h
  ·intro n s dd wl hI
   refine toPr ?_
   obtain⟨i,a,b,c,g,u,hi,rfl,h9,⟨o1,o2,o3,o4,o5,oh⟩,f2,f3,hFl,hol,hst⟩:=hI
   have lf3:=ltOf f3
   cases n with
   | zero=>
     have h9:s 9=zi (-1):=h9
     simp (disch:=first|assumption|omega|simp only[zS]<;>omega|decide) only[zb18,simprocAttr,h9,f2,f3,o1,o2,o3,o4,o5]
     refine⟨_,_,_,_,_,rfl,⟨o1,o2,o3,o4,o5,oh⟩,hFl.upd (.inr hq2),?_⟩
     rcases hst with⟨k,vs,acc,x0,e1,e2,e3,e4,e5⟩| ⟨k,vs,c,a,e1,e2,e3⟩
     ·rw[e1]
      refine⟨IsRx.mono (fun b hb=>?_) (fun b cs hb hc=>?_) _ _ e3,e2.updT (by omega) f2 (by decide)⟩
      ·exact⟨by have:=hb.1;omega,by rw[size_upd];exact hb.2⟩
      ·rw[hp_upd_other (by have:=hb.1;omega)];exact hc
     ·rw[e1]
      exact⟨e2,_,_,e3.updT (by omega) f2 (by decide)⟩
   | succ j=>
     have h9:s 9=zi (j:Int):=by rw[h9];congr 1;omega
     obtain⟨gb,cap,cur,v0,v1,v2,v3,v4,hv,g2,g3,g4,g5,p0,p1,p2,p3,p4⟩:=own_five hol (i:=j) (by omega) hx1
     injection hv with hv _ hv2
     subst hv
     subst hv2
     have lg2:=ltOf g2
     simp (disch:=first|assumption|omega|simp only[zS]<;>omega|decide) only[zb18,simprocAttr,h9,f2,f3,g2,g4,o1,o2,o3,o4,o5,p0,p1,p2,p3,p4]
     have hX:Ext wl (wl.drew.alloc (.cells #[v0,v1,v2,v3,v4,a,b,c,g,u] 111)):=by(repeat (first | assumption | exact FrM.refl _ _ | (refine FrM.upd ?_ (.inr (by(try simp only[zS])<;>omega))) | refine FrM.alloc ?_ _ | refine FrM.drew ?_))
     have sX:=hX.size
     rw[size_alloc,sz_drew] at sX
     refine⟨j,Nat.lt_succ_self _,j,_,_,_,_,_,by omega,rfl,rfl,⟨rfl,rfl,rfl,rfl,rfl,.of (by decide)⟩,rfl,(hFl.trans hX.toM).upd (.inr (by omega)),?_,?_⟩
     ·exact own_upd (own_ext hX.ext hol) hB
     ·rcases hst with⟨k,vs,acc,x0,e1,e2,e3,e4,e5⟩| ⟨k,vs,c,a,e1,e2,e3⟩
      ·have hk:Keeps (Fl B wl) 111 wl (upd (wl.drew.alloc (.cells #[v0,v1,v2,v3,v4,a,b,c,g,u] 111)) q3
         (.cells #[.int .u8 99,.string (bs [46]),zi 0,zi 0,.slice (some ⟨wl.heap.size,0,none⟩) 2 2] 111)):=fun b cs hb hc=>by
        rw[hp_upd_other (by have:=hb.1;omega)]
        exact hX.ext _ _ hc
       have hn:∀ i,Fl B wl i->Fl B (upd (wl.drew.alloc (.cells #[v0,v1,v2,v3,v4,a,b,c,g,u] 111)) q3
         (.cells #[.int .u8 99,.string (bs [46]),zi 0,zi 0,.slice (some ⟨wl.heap.size,0,none⟩) 2 2] 111)) i:=fun i hb=>⟨hb.1,by rw[size_upd,size_alloc,sz_drew];have:=hb.2;omega⟩
       refine .inl ⟨k,vs,acc,x0,e1,(e2.ext hX).updT (by omega) (hX.ext _ _ f3) (by decide),?_,IsRxs.mono hn hk _ _ e4,e5⟩
       rw[mkList_drop _ _ _ (by omega)]
       have hat:=IsRxs.at j (by omega) e4
       rw[g5] at hat
       refine isRx_two (q:=wl.heap.size) (cs:=#[v0,v1,v2,v3,v4,a,b,c,g,u]) (l:=[v0,v1,v2,v3,v4]) (ly:=[a,b,c,g,u]) (IsRx.mono hn hk _ _ hat) (IsRx.mono hn hk _ _ e3) (by rw[hp_upd_other (by omega)];exact hp_alloc_new (by rw[sz_drew])) rfl ⟨?_,by((try simp only[zS])<;>omega)⟩ _ _
       have:=(hol.lt gb rfl).1
       omega
      ·exact .inr ⟨k,vs,c,a,e1,e2,(e3.ext hX).updT (by omega) (hX.ext _ _ f3) (by decide)⟩
 rcases hst with⟨k,vs,acc,x0,e1,e2,e3,e4,e5⟩| ⟨k,vs,c,a,e1,e2,e3⟩
 ·refine rMustX e2 [93] _ e1 ?_ ?_
  ·intro w2 hr2 hP2 hF2
   have s2:=hF2.size
   exact hgo w2 hF2 (.inl ⟨_,_,acc,x0,hr2,hP2,IsRx.mono (fun b hb=>⟨hb.1,by have:=hb.2;omega⟩) (RFr.keeps hF2 (fun b hb=>by have:=hb.1;omega) (by decide)) _ _ e3,
     IsRxs.mono (fun b hb=>⟨hb.1,by have:=hb.2;omega⟩) (RFr.keeps hF2 (fun b hb=>by have:=hb.1;omega) (by decide)) _ _ e4,e5⟩)
  ·intro w2 a2 hr2 hP2 hF2
   exact hgo w2 hF2 (.inr ⟨_,_,_,_,hr2,by decide,hP2⟩)
 ·refine Calls.mono (rMustE e3 [93] e2) ?_
  rintro e w2 ⟨rfl,hP2,hF2⟩
  exact hgo w2 hF2 (.inr ⟨_,_,_,_,e1,e2,hP2⟩)
theorem ownsRow_det{w:World}{base e size n:Nat}{v:Value}{xs ys:List Value}(h:w.ownsRow base e size v n xs)(h':w.ownsRow base e size v n ys):xs=ys:=by
 rcases h.2 with⟨hv1,hn⟩| ⟨g1,c1,cur1,hv1,_,g2,_,_,_,g3⟩
 ·have l1:=h.1
  have l2:=h'.1
  rw[hn,Nat.zero_mul] at l1 l2
  rw[List.eq_nil_of_length_eq_zero l1,List.eq_nil_of_length_eq_zero l2]
 ·rcases h'.2 with⟨hv2,_⟩| ⟨g1',c1',cur1',hv2,_,g2',_,_,_,g3'⟩
  ·rw[hv1] at hv2;cases hv2
  ·rw[hv1] at hv2
   injection hv2 with hv2 _ _
   injection hv2 with hv2
   injection hv2 with hv2 _ _
   subst hv2
   rw[g2] at g2'
   injection g2' with g2'
   injection g2' with g2' _ _
   subst g2'
   rw[<- g3,<- g3']
theorem rList{f:Nat}(hE:∀ g,g<f+1->RCE g):RCL (f+1):=⟨by
 intro pb tb T k vars d w r h hd hr
 obtain⟨l1,hkt,hlT,h4⟩:=h.cs
 rw[P.pList] at hr
 refine sh_Pr_parser_list_ok ?_
 simp (disch:=first|assumption|omega|simp only[zS]<;>omega|decide) only[zb18,simprocAttr]
 have hf0:Ext w (upd ((w.alloc (.cells #[.int .u8 0,.string (bs []),zi 0,zi 0,.slice none 0 0] 111)).alloc (.cells #[.int .u8 0,.string (bs []),zi 0,zi 0,.slice none 0 0] 111)) (w.heap.size+1) (.cells #[.int .u8 97,.string (bs [91,93]),zi 0,zi 0,.slice none 0 0] 111)):=by(repeat (first | assumption | exact FrM.refl _ _ | (refine FrM.upd ?_ (.inr (by(try simp only[zS])<;>omega))) | refine FrM.alloc ?_ _ | refine FrM.drew ?_))
 by_cases h9:P.isT T k [93]=true
 ·rw[if_pos h9] at hr
  obtain rfl:=(Option.some.inj hr).symm
  refine Calls.mono (rIs_yes (h.ext hf0) [93] h9) ?_
  rintro e w1 ⟨rfl,hP1,hF1⟩
  have s1:=hF1.size
  rw[size_upd,size_alloc,size_alloc] at s1
  have c0:w1.heap[w.heap.size]?=some (.cells #[.int .u8 0,.string (bs []),zi 0,zi 0,.slice none 0 0] 111 (0,0)):=SFr.keep hF1 (by simp (disch:=first|assumption|omega|simp only[zS]<;>omega|decide) only[zH]) (by omega) (by decide)
  have c1:w1.heap[w.heap.size+1]?=some (.cells #[.int .u8 97,.string (bs [91,93]),zi 0,zi 0,.slice none 0 0] 111 (0,0)):=SFr.keep hF1 (by simp (disch:=first|assumption|omega|simp only[zS]<;>omega|decide) only[zH]) (by omega) (by decide)
  have lc0:=ltOf c0
  simp (disch:=first|assumption|omega|simp only[zS]<;>omega|decide) only[zb18,simprocAttr,c0,c1]
  exact⟨_,_,_,_,_,rfl,⟨rfl,rfl,rfl,rfl,rfl,.of (by decide)⟩,(hf0.toM.trans hF1).upd (.inr (Nat.le_refl _)),isRx_nil _ _ _ _ _,hP1.updT l1 c0 (by decide)⟩
 rw[if_neg h9] at hr
 refine Calls.mono (rIs_no (h.ext hf0) [93] (.inr (by simpa using h9))) ?_
 rintro e wB ⟨rfl,hP1,hF1⟩
 have s1:=hF1.size
 rw[size_upd,size_alloc,size_alloc] at s1
 have c0:wB.heap[w.heap.size]?=some (.cells #[.int .u8 0,.string (bs []),zi 0,zi 0,.slice none 0 0] 111 (0,0)):=SFr.keep hF1 (by simp (disch:=first|assumption|omega|simp only[zS]<;>omega|decide) only[zH]) (by omega) (by decide)
 have c1:wB.heap[w.heap.size+1]?=some (.cells #[.int .u8 97,.string (bs [91,93]),zi 0,zi 0,.slice none 0 0] 111 (0,0)):=SFr.keep hF1 (by simp (disch:=first|assumption|omega|simp only[zS]<;>omega|decide) only[zH]) (by omega) (by decide)
 have hFB:RFr pb w wB:=hf0.toM.trans hF1
 cases hq:P.pElems T f k vars d [] with
 | none=>rw[hq] at hr;simp [P.Res.bind] at hr
 | some q=>
 rw[hq] at hr
 have hpb:pb<wB.heap.size:=by omega
 simp (disch:=first|assumption|omega|simp only[zS]<;>omega|decide) only[zb18,simprocAttr]
 refine⟨fun n s w1=>RFr pb wB w1 /\
   ((s 6 = .bool true/\∃ f' k' vs acc,n=f'+1/\f'≤f/\acc.length≤k'/\P.pElems T f' k' vs d acc=some q/\RowS wB w1 (s 5) acc/\RP w1 pb tb T k' vs d 0 0) \/
   (s 6 = .bool false/\n=0/\∃ m xs,w1.ownsRow wB.heap.size 111 5 (s 5) m xs/\(∀ u∈xs,u.oneCell'=true)/\m≤100000 /\
    ((∃ k' vs acc,m=acc.length/\q = .ok acc k' vs/\RowS wB w1 (s 5) acc/\RP w1 pb tb T k' vs d 0 0)\/(∃ c a k' vs,q = .err c a/\c≠0/\RP w1 pb tb T k' vs d c a)))),
  ⟨f+1,FrM.refl _ _,.inl ⟨rfl,f,k,vars,[],rfl,Nat.le_refl _,Nat.zero_le _,hq,RowS.nil wB,hP1⟩⟩,?_⟩
 intro n s dd w1 hI
 refine toPr ?_
 rcases hI with⟨hF,⟨h6,f',k',vs,acc,rfl,hf',hak,hp,hrow,hP⟩| ⟨h6,rfl,m,xs,hown,hone,hm,hfin⟩⟩
 ·cases f' with
  | zero=>simp [P.pElems] at hp
  | succ f'=>
  rw[P.pElems] at hp
  have hkt:k'<T.length:=by obtain⟨_,_,hx⟩:=id hP;exact hx.kt
  have hs1:=hF.size
  cases hq2:P.pOper T f' 0 k' vs d with
  | none=>rw[hq2] at hp;simp [P.Res.bind] at hp
  | some q2=>
  rw[hq2] at hp
  simp (disch:=first|assumption|omega|simp only[zS]<;>omega|decide) only[zb18,simprocAttr,h6]
  refine((hE f' (by omega)).go hP hd hq2).mono ?_
  rintro e w2 ⟨a,b,c,g,u,rfl,⟨o1,o2,o3,o4,o5,oh⟩,hF2,hst⟩
  have hs2:=hF2.size
  obtain⟨xs0,ho0,hi0⟩:=id hrow.own
  have hrow2:w2.ownsRow wB.heap.size 111 5 (s 5) acc.length xs0:=own_fr hF2 ho0 hpb (by decide)
  simp (disch:=first|assumption|omega|simp only[zS]<;>omega|decide) only[zb18,simprocAttr,o1,o2,o3,o4,o5]
  have hx3:Ext w2 ((upd (w2.alloc (.cells #[.int .u8 0,.string (bs []),zi 0,zi 0,.slice none 0 0] 111)) w2.heap.size (.cells #[a,b,c,g,u] 111)).alloc (.cells #[a,b,c,g,u] 111)):=
   (((FrM.refl _ _).alloc _).upd (.inr (Nat.le_refl _))).alloc _
  refine wr_appendE (base:=wB.heap.size) (n:=acc.length) (own_ext hx3.ext hrow2) (hp_alloc_new (by rw[size_upd,size_alloc])) ⟨o1,o2,o3,o4,o5⟩ (by omega) (by have:=hx3.size;omega) ?_
  intro v' w4 hown4 hg4 hv4
  have hF4:RFr pb wB w4:=(((hF.trans hF2).trans hx3.toM)).grow hg4 (fun k hk=>(hrow2.lt k hk).1)
  have hone4:∀ u'∈xs0++[a,b,c,g,u],u'.oneCell'=true:=fun u' hu=>by
   simp only[List.mem_append,List.mem_cons,List.not_mem_nil,or_false] at hu
   rcases hu with hu | rfl | rfl | rfl | rfl | rfl
   ·exact IsRxs.one hi0 _ hu
   ·exact o1
   ·exact o2
   ·exact o3
   ·exact o4
   ·exact o5
  cases q2 with
  | err c0 a0=>
   obtain⟨hc0,k2,vs2,hP2⟩:=hst
   simp only[P.Res.bind,Option.some.injEq] at hp
   have hP4:=(hP2.ext hx3).grow (own_ext hx3.ext hrow2) (by decide) hpb hg4
   refine(rIs_no hP4 [44] (.inl hc0)).mono ?_
   rintro e w5 ⟨rfl,hP5,hF5⟩
   simp (disch:=first|assumption|omega|simp only[zS]<;>omega|decide) only[zb18,simprocAttr]
   exact⟨0,Nat.succ_pos _,hF4.trans hF5,.inr ⟨rfl,_,_,own_fr hF5 hown4 hpb (by decide),hone4,by omega,.inr ⟨c0,a0,k2,vs2,hp.symm,hc0,hP5⟩⟩⟩
  | ok x k2 vs2=>
   obtain⟨hx,hP2⟩:=hst
   have hk2:=(P.mono T f').oper _ _ _ _ _ _ _ hq2
   have hP4:=(hP2.ext hx3).grow (own_ext hx3.ext hrow2) (by decide) hpb hg4
   have hrow4:RowS wB w4 v' (acc++[x]):=hrow.more hF2 hpb hx hs1 hx3 (own_ext hx3.ext hrow2) hown4 hg4 hv4
   simp only[P.Res.bind] at hp
   have hmn:∀ {w5:World},RFr pb w4 w5->RowS wB w5 v' (acc++[x]):=fun hF5=>by
    obtain⟨xs,p1,p2⟩:=hrow4.own
    have:=hF5.size
    exact⟨xs,own_fr hF5 p1 hpb (by decide),IsRxs.mono (fun b hb=>⟨hb.1,by have:=hb.2.1;omega,hb.2.2⟩) (RFr.keeps hF5 (fun b hb=>by have:=hb.1;omega) (by decide)) _ _ p2⟩
   by_cases hc:P.isT T k2 [44]=true
   ·rw[if_pos hc] at hp
    refine(rIs_yes hP4 [44] hc).mono ?_
    rintro e w5 ⟨rfl,hP5,hF5⟩
    simp (disch:=first|assumption|omega|simp only[zS]<;>omega|decide) only[zb18,simprocAttr]
    exact⟨f'+1,by omega,hF4.trans hF5,.inl ⟨f',k2+1,vs2,acc++[x],rfl,by omega,by simp;omega,hp,hmn hF5,hP5⟩⟩
   ·rw[if_neg hc] at hp
    refine(rIs_no hP4 [44] (.inr (by simpa using hc))).mono ?_
    rintro e w5 ⟨rfl,hP5,hF5⟩
    simp (disch:=first|assumption|omega|simp only[zS]<;>omega|decide) only[zb18,simprocAttr]
    exact⟨0,Nat.succ_pos _,hF4.trans hF5,.inr ⟨rfl,_,_,own_fr hF5 hown4 hpb (by decide),hone4,by omega,.inl ⟨k2,vs2,acc++[x],by simp,(Option.some.inj hp).symm,hmn hF5,hP5⟩⟩⟩
 ·have hsB:=hF.size
  have d0:=SFr.keep hF c0 (by omega) (by decide)
  have d1:=SFr.keep hF c1 (by omega) (by decide)
  have hFw:=hFB.trans hF
  simp (disch:=first|assumption|omega|simp only[zS]<;>omega|decide) only[zb18,simprocAttr,h6]
  rcases hfin with⟨k',vs,acc,rfl,rfl,hrow,hP⟩| ⟨c,a,k',vs,rfl,hc,hP⟩
  ·simp only[P.Res.bind] at hr
   obtain⟨xs',p1,p2⟩:=hrow.own
   have hxx:=ownsRow_det hown p1
   subst hxx
   have p2':IsRxs (Fl wB.heap.size w1) w1 xs acc:=IsRxs.mono (fun b hb=>⟨hb.1,hb.2.1⟩) (fun b cs _ hc=>hc) _ _ p2
   by_cases hbar:P.isT T k' [124]=true
   ·rw[if_pos hbar] at hr
    refine Calls.mono (rIs_yes hP [124] hbar) ?_
    rintro e w2 ⟨rfl,hP2,hF2⟩
    have s2:=hF2.size
    have e0:=SFr.keep hF2 d0 (by omega) (by decide)
    have e1:=SFr.keep hF2 d1 (by omega) (by decide)
    have own2:=own_fr hF2 hown (by omega) (by decide)
    simp (disch:=first|assumption|omega|simp only[zS]<;>omega|decide) only[zb18,simprocAttr]
    cases hq3:P.pOper T f 0 (k'+1) vs d with
    | none=>rw[hq3] at hr;simp [P.Res.bind] at hr
    | some q3=>
    rw[hq3] at hr
    refine Calls.mono ((hE f (by omega)).go hP2 hd hq3) ?_
    rintro e w3 ⟨a,b,c,g,u,rfl,⟨o1,o2,o3,o4,o5,oh⟩,hF3,hst⟩
    have s3:=hF3.size
    have f0:=SFr.keep hF3 e0 (by omega) (by decide)
    have f1:=SFr.keep hF3 e1 (by omega) (by decide)
    have own3:=own_fr hF3 own2 (by omega) (by decide)
    have lf1:=ltOf f1
    simp (disch:=first|assumption|omega|simp only[zS]<;>omega|decide) only[zb18,simprocAttr,f1,o1,o2,o3,o4,o5]
    refine rListTail (q2:=w.heap.size) (q3:=(w.alloc (.cells #[.int .u8 0,.string (bs []),zi 0,zi 0,.slice none 0 0] 111)).heap.size) (B:=wB.heap.size) (m:=acc.length) (xs:=xs) (a:=a) (b:=b) (c:=c) (g:=g) (u:=u) l1 (Nat.le_refl _) (by rw[size_alloc];exact Nat.lt_succ_self _) (by rw[size_alloc];omega) (((hFw.trans hF2).trans hF3).upd (.inr (by omega))) (by simp (disch:=first|assumption|omega|simp only[zS]<;>omega|decide) only[zH];exact f0) (by rw[size_alloc];exact hp_upd_same rfl lf1) ⟨o1,o2,o3,o4,o5,oh⟩
     (own_upd own3 (by omega)) hone hm ?_
    cases q3 with
    | err c3 a3=>
     obtain⟨hc3,k5,vs5,hP5⟩:=hst
     simp only[P.Res.bind,Option.some.injEq] at hr
     exact .inr ⟨k5,vs5,c3,a3,hr.symm,hc3,hP5.updT (by omega) f1 (by decide)⟩
    | ok x k5 vs5=>
     obtain⟨hx5,hP5⟩:=hst
     simp only[P.Res.bind] at hr
     refine .inl ⟨k5,vs5,acc,x,hr,hP5.updT (by omega) f1 (by decide),IsRx.mono (fun i hi=>?_) (fun i cs hi hc=>?_) _ _ hx5,IsRxs.mono (fun i hi=>?_) (fun i cs hi hc=>?_) _ _ p2',rfl⟩
     ·exact⟨by have:=hi.1;omega,by rw[size_upd];exact hi.2⟩
     ·rw[hp_upd_other (by have:=hi.1;omega)];exact hc
     ·exact⟨hi.1,by rw[size_upd];have:=hi.2;omega⟩
     ·rw[hp_upd_other (by have:=hi.1;omega)]
      exact SFr.keep hF3 (SFr.keep hF2 hc (by have:=hi.1;omega) (by decide)) (by have:=hi.1;omega) (by decide)
   ·rw[if_neg hbar] at hr
    refine Calls.mono (rIs_no hP [124] (.inr (by simpa using hbar))) ?_
    rintro e w2 ⟨rfl,hP2,hF2⟩
    have s2:=hF2.size
    have e0:=SFr.keep hF2 d0 (by omega) (by decide)
    have e1:=SFr.keep hF2 d1 (by omega) (by decide)
    have own2:=own_fr hF2 hown (by omega) (by decide)
    simp (disch:=first|assumption|omega|simp only[zS]<;>omega|decide) only[zb18,simprocAttr]
    refine rListTail (q2:=w.heap.size) (q3:=(w.alloc (.cells #[.int .u8 0,.string (bs []),zi 0,zi 0,.slice none 0 0] 111)).heap.size) (B:=wB.heap.size) (m:=acc.length) (xs:=xs) l1 (Nat.le_refl _) (by rw[size_alloc];exact Nat.lt_succ_self _) (by rw[size_alloc];omega) (hFw.trans hF2) e0 (by rw[size_alloc];exact e1) ⟨rfl,rfl,rfl,rfl,rfl,.of (by decide)⟩ own2 hone hm
     (.inl ⟨k',vs,acc,_,hr,hP2,isRx_nil _ _ _ _ _,IsRxs.mono (fun i hi=>⟨hi.1,by have:=hi.2;omega⟩) (RFr.keeps hF2 (fun b hb=>by have:=hb.1;omega) (by decide)) _ _ p2',rfl⟩)
  ·simp only[P.Res.bind,Option.some.injEq] at hr
   refine Calls.mono (rIs_no hP [124] (.inl hc)) ?_
   rintro e w2 ⟨rfl,hP2,hF2⟩
   have e0:=SFr.keep hF2 d0 (by omega) (by decide)
   have e1:=SFr.keep hF2 d1 (by omega) (by decide)
   have own2:=own_fr hF2 hown (by omega) (by decide)
   simp (disch:=first|assumption|omega|simp only[zS]<;>omega|decide) only[zb18,simprocAttr]
   exact rListTail (q2:=w.heap.size) (q3:=(w.alloc (.cells #[.int .u8 0,.string (bs []),zi 0,zi 0,.slice none 0 0] 111)).heap.size) (B:=wB.heap.size) (m:=m) (xs:=xs) l1 (Nat.le_refl _) (by rw[size_alloc];exact Nat.lt_succ_self _) (by rw[size_alloc];omega) (hFw.trans hF2) e0 (by rw[size_alloc];exact e1) ⟨rfl,rfl,rfl,rfl,rfl,.of (by decide)⟩ own2 hone hm
    (.inr ⟨_,_,_,_,hr.symm,hc,hP2⟩)⟩
theorem rTerms(f:Nat):RCE f/\RCT f/\RCP f/\RCA f/\RCL f:=by
 induction f using Nat.strongRecOn with
 | ind f ih=>
  have hE:∀ g,g<f->RCE g:=fun g hg=>(ih g hg).1
  have hT:∀ g,g<f->RCT g:=fun g hg=>(ih g hg).2.1
  have hP:∀ g,g<f->RCP g:=fun g hg=>(ih g hg).2.2.1
  refine⟨rExpr hT,rProduct hP,?_,rArgs hE,?_⟩
  ·cases f with
   | zero=>exact⟨fun _ _ hr=>by simp [P.pPrim] at hr⟩
   | succ f=>
    obtain⟨a,b,c,d,e⟩:=ih f (Nat.lt_succ_self _)
    exact rPrim (rBare a d e)
  ·cases f with
   | zero=>exact⟨fun _ _ hr=>by simp [P.pList] at hr⟩
   | succ f=>exact rList hE
end Go.Proofs.YtilpjhceemaplaaGreatDoor
