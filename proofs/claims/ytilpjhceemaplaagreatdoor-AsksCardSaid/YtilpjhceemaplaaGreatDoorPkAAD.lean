/- A part of one proof (SList, SPrim, SPrim2, SPrim3, SPrim4, SPrim5, SIdx, SVar, Shelf, SInt, STie). -/
import Derived.Test.YtilpjhceemaplaaGreatDoorPkAAC
import Derived.Deep.Cut
import Derived.Deep.QuietTactic
import Derived.BigQuiet
import Derived.Shelf.Strings.Builder1
import Derived.Shelf.Strings.Trim
import Derived.Shelf.Small.Utf8
import Derived.Shelf.Small.Strs
import Derived.Shelf.Strings.BuilderF
import Derived.Shelf.Strings.BuilderK
import Derived.Shelf.Strconv.Itoa0
import Derived.Shelf.Strconv.Itoa1
import Derived.Shelf.LaysM
import Derived.Shelf.Strconv.Itoa2
import Derived.Shelf.Strconv.Itoa3
import Derived.Shelf.Strconv.Itoa4
import Derived.Shelf.Strconv.ParseIntEmpty
import Derived.Shelf.Strconv.Clone
import Derived.Shelf.Strconv.SyntaxError
import Derived.Shelf.LaysC
import Derived.Shelf.Strconv.ToError
import Derived.Shelf.Strconv.Lower
import Derived.Shelf.Strconv.ParseUint10
import Derived.Shelf.Strconv.ParseUint10Empty
import Derived.Shelf.Strconv.ParseUint10Any
import Derived.Shelf.Strconv.ParseInt10
import Derived.Shelf.Strconv.RangeError
import Derived.Shelf.Strconv.ToErrorRange
import Derived.Shelf.Strconv.ParseUintEmpty
import Derived.Shelf.Strconv.ParseUint10b64
import Derived.Shelf.Strconv.ParseUint10b32
import Derived.Shelf.Strconv.ParseUint10b16
import Derived.Shelf.Strconv.ParseUint10b8
import Derived.Shelf.Strconv.ParseUint10At
import Derived.Shelf.Strconv.ParseInt10At64
import Derived.Shelf.Strconv.ParseInt10At32
import Derived.Shelf.Strconv.ParseInt10At16
import Derived.Shelf.Strconv.ParseInt10At8
import Derived.Shelf.Strconv.ParseInt10All
import Derived.Shelf.Strconv.ParseIntPublic10
import Derived.Shelf.Strconv.ErrVarParseInt
import Derived.Shelf.Strings.Search1
import Derived.Shelf.Strings.Search2
import Derived.Shelf.Strings.Search3
import Derived.Shelf.Strings.Count
import Derived.Shelf.Strings.Shaped
import Derived.Shelf.Strings.Prefix
import Derived.Shelf.Strings.Runes
import Derived.Shelf.Strings.AsciiSet
import Derived.Shelf.Unicode.DecodeSlow
import Derived.Shelf.Unicode.DecodeAny
import Derived.Shelf.Unicode.DecodeLast
import Derived.Shelf.Strings.BuilderCap
import Derived.Shelf.Slices.Turned
import Derived.Test.YtilpjhceemaplaaGreatDoorProg
set_option linter.all false
set_option linter.unusedSimpArgs false
set_option maxRecDepth 100000
set_option maxHeartbeats 4000000
namespace Go.Proofs.YtilpjhceemaplaaGreatDoor
open Go.RowKit
theorem calls_of_marks{P:Program}{f:FuncId}{fn:Func}{c:Code}{args:Array Value}{w:World}{R:Ending->World->Prop}
  (hf:P.funcs[f]?=some fn) (hb:fn.body=some c)
  (h:c.wp P (bodyPostM Fence.wide 3 P fn R) { tmps:=args++Array.replicate (fn.ntmps-args.size) undef,defers:=[] } w):Calls P f args w R:=
 callsIn_wide.1 (callsIn_of_wp_marks (n:=3) hf hb trivial (wpIn_wide.2 h) rfl)
theorem marks_ret{P:Program}{fn:Func}{R:Ending->World->Prop}{tmps:Array Value}{w:World}{v:Value}(hr:(results fn tmps).run P w = .ok v w)(hR:R (.returned v) w) :
 bodyPostM Fence.wide 3 P fn R .ret { tmps:=tmps,defers:=[] } w:=⟨v,hr,hR⟩
theorem sList_nil{pb tb:Nat}{T:List P.Tok}{k:Nat}{vars:List P.Bs}{d:Nat}{w:World}(hp:SP w pb tb T k vars d)(hc:P.isT T k [93]=true) :
  Calls Tryz.prog 173 #[pp pb] w (SPost IsEx pb tb T d w (.ok (.mk 97 [91,93] 0 0 []) (k+1) vars)):=by
 have hp1:=Lib.hid (hp.ext (w':=w.alloc (Obj.cells #[.int .u8 97,.string (bs [91,93]),zi 0,zi 0,.slice none 0 0] 277)) fun b o h=>blk_alloc_old h)
 have HC:=Lib.hid hc
 have hpb:=hp.d2.2.2
 clear hp hc
 refine calls_of_marks Tryz.func173 rfl ?_
 simp only[Tryz.ntmps173,List.size_toArray,List.length_cons,List.length_nil,Nat.reduceAdd,Nat.reduceSub,Array.replicate_succ,Array.replicate_zero,List.push_toArray,List.append_toArray,List.nil_append,List.cons_append]
 go_wp2_with fail
 refine(sIs_yes hp1.out [93] HC.out).mono ?_
 rintro e w3 ⟨rfl,hp3,hf3⟩
 have HP3:=Lib.hid hp3
 have HF3:=Lib.hid hf3
 clear hp3 hf3
 go_wp2_with fail
 refine marks_ret (results_tmp rfl _ _ _) ⟨_,rfl,?_,HP3.out,((FrM.refl _ _).alloc _).trans HF3.out⟩
 have hz:=HF3.out.size
 rw[size_alloc] at hz
 exact isEx_leaf ⟨Nat.le_refl _,by omega⟩ (SFr.keep HF3.out (blk_alloc_new _ _) (by omega) (by decide))
abbrev nilObj:Obj:=.cells #[.int .u8 97,.string (bs [91,93]),zi 0,zi 0,.slice none 0 0] 277
def LJ(pb tb:Nat)(T:List P.Tok)(d:Nat)(w0:World)(re:P.Res (List P.Ex))(n:Nat)(a:Act)(w:World):Prop:=
 ∃ (acc:List P.Ex) (k:Nat) (vs:List P.Bs) (xs:List Value) (sl u1 u2 u5 u6 u7 u8 u9 u10 u11 u12 u13 u14 u15 u16 u17 u18 u19 u20 u21 u22 u23 u24 u25 u26 u27 u28 u29 u30 u31 u32 u33 u34 u35 u36 u37 u38 u39:Value),a={ tmps:=#[pp pb,u1,u2,pp w0.heap.size,sl,u5,u6,u7,u8,u9,u10,u11,u12,u13,u14,u15,u16,u17,u18,u19,u20,u21,u22,u23,u24,u25,u26,u27,u28,u29,u30,u31,u32,u33,u34,u35,u36,u37,u38,u39],defers:=[] } /\
  w.ownsRow w0.heap.size 219 1 sl acc.length xs/\IsExs (fun b=>Nu w0 w b/\sl.ownBlock≠some b) w xs acc/\SP w pb tb T k vs d/\SFr pb w0 w/\0<acc.length/\acc.length≤k /\
  w.heap[w0.heap.size]?=some nilObj/\(if P.isT T k [44] then P.pElems T n (k+1) vs d acc else some (.ok acc k vs))=some re
noncomputable def listT:Code:=match Tryz.f173.body with
 | some (.seq _ (.seq _ (.seq _ (.seq _ (.seq _ (.seq _ (.seq _ c)))))))=>c
 | _=>.skip
noncomputable def listR:Code:=match listT with | .seq c _=>c | _=>.skip
noncomputable def listS:Code:=match listT with | .seq _ c=>c | _=>.skip
theorem grown_cells{A B:World}{row:Option Nat}(hg:A.grownBy B row)(hr:∀ r,row=some r->∃ o:Obj,A.heap[r]?=some o/\o.isCells=false)(b:Nat)(cs:Array Value)(t:TypeId)(z:Nat×Nat)
  (h:A.heap[b]?=some (.cells cs t z)):B.heap[b]?=some (.cells cs t z):=by
 rw[hg.block b (ltOf h) (fun e=>by
  obtain⟨o,ho,hc⟩:=hr b e.symm
  rw[h] at ho
  injection ho with ho
  subst ho
  cases hc)]
 exact h
theorem blk_new1'{w:World}{o o':Obj}{n:Nat}(ho:o'=o)(h:n=w.heap.size):(w.alloc o).heap[n]?=some o':=by subst h;subst ho;exact blk_alloc_new w _
def LI(pb tb:Nat)(T:List P.Tok)(k:Nat)(vs:List P.Bs)(d X:Nat)(w0:World)(bl:List Nat)(acc:List P.Ex)(x:P.Ex)(pre:List (Nat×Nat))(W:World):Prop:=
 SP W pb tb T k vs d/\SFr pb w0 W/\IsExs (fun b=>Nu w0 W b/\b≠X) W (bl.map (fun b=>Value.pointer (some ⟨b,0,none⟩))) acc/\X<W.heap.size /\
 ∃ bv,W.heap[X]?=some (.cells #[pp bv] 219) /\
  (pre=downto bl pre.length->pre.length≤acc.length->IsEx (fun b=>Nu w0 W b/\b≠X) W (pp bv) (P.mkList (acc.drop (acc.length-pre.length)) x))
theorem LI.own{pb tb:Nat}{T:List P.Tok}{k:Nat}{vs:List P.Bs}{d X:Nat}{w0:World}{bl:List Nat}{acc:List P.Ex}{x:P.Ex}{B:Nat}(hB:w0.heap.size≤B) :
  OwnFrom B (LI pb tb T k vs d X w0 bl acc x):=by
 rintro pre W W' row ⟨h1,h2,h3,h4,bv,h5,h6⟩ hg hr
 have hc:=grown_cells hg (fun r e=>(hr r e).2)
 have hast:∀ (b:Nat) (o:Obj),astObj o->W.heap[b]?=some o->W'.heap[b]?=some o:=fun b o ha ho=>by
  obtain⟨cs,t,z,rfl⟩:=ast_cells ha
  exact hc _ _ _ _ ho
 have hs:=hg.size
 refine⟨h1.extC hc,h2.grownNew hg (fun r e=>Nat.le_trans hB (hr r e).1),?_,by omega,bv,hc _ _ _ _ h5,fun a b=>?_⟩
 ·exact IsExs.mono (fun b hb=>⟨⟨hb.1.1,by have:=hb.1.2;omega⟩,hb.2⟩) (fun b o _ ha ho=>hast b o ha ho) _ _ h3
 ·exact IsEx.mono (fun b hb=>⟨⟨hb.1.1,by have:=hb.1.2;omega⟩,hb.2⟩) (fun b o _ ha ho=>hast b o ha ho) _ _ (h6 a b)
theorem drop_mkList{acc:List P.Ex}{x:P.Ex}{n:Nat}(hn:n<acc.length) :
  P.mkList (acc.drop (acc.length-(n+1))) x = .mk 99 [46] 0 0 [acc[acc.length-1-n],P.mkList (acc.drop (acc.length-n)) x]:=by
 have e:acc.length-(n+1)=acc.length-1-n:=by omega
 have e2:acc.length-n=acc.length-1-n+1:=by omega
 rw[e,e2,List.drop_eq_getElem_cons (by omega)]
 rfl
theorem LI.step{pb tb:Nat}{T:List P.Tok}{k:Nat}{vs:List P.Bs}{d X:Nat}{w0 W:World}{bl:List Nat}{acc:List P.Ex}{x:P.Ex}{pre:List (Nat×Nat)}{y:Nat×Nat}(hbl:bl.length=acc.length)
  (h0:w0.heap.size≤X) (hpb:pb<w0.heap.size) (h:LI pb tb T k vs d X w0 bl acc x pre W) (bv:Nat) (hbv:W.heap[X]?=some (.cells #[pp bv] 219)) :
  LI pb tb T k vs d X w0 bl acc x (pre++[y])
   (((W.alloc (.cells #[pp y.2,pp bv] 219)).alloc (.cells #[.int .u8 99,.string (bs [46]),zi 0,zi 0,.slice (some ⟨W.heap.size,0,none⟩) 2 2] 277)).setCell ⟨X,0,none⟩ (pp (W.heap.size+1))):=by
 obtain⟨h1,h2,h3,h4,bv',h5,h6⟩:=h
 have:bv'=bv:=by
  rw[h5] at hbv
  injection hbv with e
  injection e with e
  have:=congrArg (fun a=>a[0]?) e
  simpa using this
 subst this
 generalize hr:(Obj.cells #[pp y.2,pp bv'] 219)=row at *
 generalize hn:(Obj.cells #[.int .u8 99,.string (bs [46]),zi 0,zi 0,.slice (some ⟨W.heap.size,0,none⟩) 2 2] 277)=node at *
 have hX:((W.alloc row).alloc node).heap[X]?=_:=blk_alloc_old (blk_alloc_old h5)
 have hsz:(((W.alloc row).alloc node).setCell ⟨X,0,none⟩ (pp (W.heap.size+1))).heap.size=W.heap.size+2:=by rw[size_setCell,size_alloc,size_alloc]
 have hk:∀ (b:Nat) (o:Obj),b≠X->((W.alloc row).alloc node).heap[b]?=some o->(((W.alloc row).alloc node).setCell ⟨X,0,none⟩ (pp (W.heap.size+1))).heap[b]?=some o:=fun b o hb ho=>by
  rw[blk_setCell_other (show b≠X from hb)];exact ho
 have hko:∀ (b:Nat) (o:Obj),b≠X->W.heap[b]?=some o->(((W.alloc row).alloc node).setCell ⟨X,0,none⟩ (pp (W.heap.size+1))).heap[b]?=some o:=fun b o hb ho=>hk b o hb (blk_alloc_old (blk_alloc_old ho))
 have hlt:=h1.lt
 refine⟨(h1.ext fun b o ho=>blk_alloc_old (blk_alloc_old ho)).setOther hX (by decide) (by omega) (by omega) _,((h2.alloc _).alloc _).setNew h0 _,?_,by rw[hsz];omega,W.heap.size+1,by rw[blk_setCell_same hX];rfl,fun e1 e2=>?_⟩
 ·exact IsExs.mono (fun b hb=>⟨⟨hb.1.1,by rw[hsz];have:=hb.1.2;omega⟩,hb.2⟩) (fun b o hb _ ho=>hko b o hb.2 ho) _ _ h3
 ·simp only[List.length_append,List.length_cons,List.length_nil,Nat.zero_add] at e1 e2 ⊢
  rw[downto_succ] at e1
  obtain⟨e3,e4⟩:=List.append_inj' e1 rfl
  have e5:y=(bl.length-1-pre.length,bl.getD (bl.length-1-pre.length) 0):=by simpa using e4
  rw[drop_mkList (by omega)]
  have hx:=h6 e3 (by omega)
  have hi:acc.length-1-pre.length<acc.length:=by omega
  have hy:=h3.get (acc.length-1-pre.length) hi
  have ey:y.2=bl.getD (acc.length-1-pre.length) 0:=by rw[e5,hbl]
  rw[<- ey] at hy
  have h0W:w0.heap.size≤W.heap.size:=h2.size
  have hwX:W.heap.size≠X:=by omega
  refine isEx_node ⟨⟨by omega,by rw[hsz];omega⟩,by omega⟩ (hk _ _ (by omega) (blk_new1' hn (by rw[size_alloc]))) (isSlEx_two ⟨⟨h0W,by rw[hsz];omega⟩,hwX⟩ (hk _ _ hwX (blk_alloc_old (blk_new1' hr rfl))) ?_ ?_)
  ·exact IsEx.mono (fun b hb=>⟨⟨hb.1.1,by rw[hsz];have:=hb.1.2;omega⟩,hb.2⟩) (fun b o hb _ ho=>hko b o hb.2 ho) _ _ hy
  ·exact IsEx.mono (fun b hb=>⟨⟨hb.1.1,by rw[hsz];have:=hb.1.2;omega⟩,hb.2⟩) (fun b o hb _ ho=>hko b o hb.2 ho) _ _ hx
theorem sListTail{pb tb:Nat}{T:List P.Tok}{k:Nat}{vs:List P.Bs}{d nb g cap X bx:Nat}{w0 w:World}{acc:List P.Ex}{x:P.Ex}{bl:List Nat}{cur:Array Value}{r:P.Res P.Ex}(u1 u2 u6 u7 u8 u9 u10 u11 u12 u13 u14 u15 u16 u17 u18 u19 u20 u21 u22 u23 u24 u25 u26 u27 u28 u29 u30 u31 u32 u33 u34 u35 u36 u37 u38 u39:Value)
  (hp:SP w pb tb T k vs d) (hf:SFr pb w0 w) (hpb:pb<w0.heap.size) (hX0:w0.heap.size≤X) (hgX:g≠X) (hL:acc.length≤3000) (hbl:bl.length=acc.length) (hg0:pb<g)
  (hXb:w.heap[X]?=some (.cells #[pp bx] 219)) (hx:IsEx (fun b=>Nu w0 w b/\b≠X) w (pp bx) x)
  (hg:w.heap[g]?=some (.cells cur 219 (0,0))) (hcur:∀ j,j<bl.length->cur[j]?=some (pp (bl.getD j 0)))
  (hxs:IsExs (fun b=>Nu w0 w b/\b≠X) w (bl.map (fun b=>Value.pointer (some ⟨b,0,none⟩))) acc)
  (hr:P.musT T [93] (P.mkList acc x) k vs=some r)
  (K:Act->World->Prop) (hK:∀ a w,listS.wp Tryz.prog (bodyPostM Fence.wide 3 Tryz.prog Tryz.f173 (SPost IsEx pb tb T d w0 r)) a w->K a w) :
  listR.wp Tryz.prog (Exit.then K (bodyPostM Fence.wide 3 Tryz.prog Tryz.f173 (SPost IsEx pb tb T d w0 r))) { tmps:=#[pp pb,u1,u2,pp nb,.slice (some ⟨g,0,none⟩) acc.length cap,pp X,u6,u7,u8,u9,u10,u11,u12,u13,u14,u15,u16,u17,u18,u19,u20,u21,u22,u23,u24,u25,u26,u27,u28,u29,u30,u31,u32,u33,u34,u35,u36,u37,u38,u39],defers:=[] } w:=by
 change ∀ a w,Code.wp _ (Code.seq _ _) _ a w->_ at hK
 have H:=Lib.hid hp
 have HF:=Lib.hid hf
 have HX:=Lib.hid hXb
 have HE:=Lib.hid hx
 have HG:=Lib.hid hg
 have HC:=Lib.hid hcur
 have HXS:=Lib.hid hxs
 have HR:=Lib.hid hr
 have HBL:=Lib.hid hbl
 have hz0:=hf.size
 have hXl:=ltOf hXb
 clear hp hf hXb hx hg hcur hxs hr hbl
 change Code.wp _ (Code.region _ _ _) _ _ _
 go_wp2_with fail
 have hq:=HR.out
 rw[P.musT] at hq
 by_cases hc:P.isT T k [93]=true
 ·rw[if_pos hc,Option.some.injEq] at hq
  subst hq
  refine(sMust_yes H.out [93] hc).mono ?_
  rintro e w1 ⟨rfl,hp1,hf1⟩
  have HP1:=Lib.hid hp1
  have HF1:=Lib.hid hf1
  clear hp1 hf1 hc HR
  go_wp2_with fail
  refine(backward _ _ _ _).mono ?_
  rintro e w2 ⟨rfl,rfl⟩
  have hz1:=HF1.out.size
  have hX1:w1.heap[X]?=_:=SFr.keep HF1.out HX.out (by omega) (by decide)
  have hg1:w1.heap[g]?=_:=SFr.keep HF1.out HG.out (by omega) (by decide)
  have hI0:LI pb tb T (k+1) vs d X w0 bl acc x [] (w1.alloc (.cells #[.slice (some ⟨g,0,none⟩) acc.length cap] 129)):=by
   refine⟨HP1.out.ext fun b o h=>blk_alloc_old h,(HF.out.trans HF1.out).alloc _,?_,by rw[size_alloc];omega,bx,blk_alloc_old hX1,fun _ _=>?_⟩
   ·exact IsExs.mono (fun b hb=>⟨⟨hb.1.1,by rw[size_alloc];have:=hb.1.2;omega⟩,hb.2⟩) (fun b o hb ha ho=>blk_alloc_old (SFr.ast HF1.out ha ho (by have:=hb.1.1;omega))) _ _ HXS.out
   ·simp only[List.length_nil,Nat.sub_zero,List.drop_length]
    exact IsEx.mono (fun b hb=>⟨⟨hb.1.1,by rw[size_alloc];have:=hb.1.2;omega⟩,hb.2⟩) (fun b o hb ha ho=>blk_alloc_old (SFr.ast HF1.out ha ho (by have:=hb.1.1;omega))) _ _ HE.out
  have hB:(w1.alloc (.cells #[.slice (some ⟨g,0,none⟩) acc.length cap] 129)).heap[w1.heap.size]?=_:=blk_alloc_new _ _
  have hgB:(w1.alloc (.cells #[.slice (some ⟨g,0,none⟩) acc.length cap] 129)).heap[g]?=_:=blk_alloc_old hg1
  have hsz2:w0.heap.size≤(w1.alloc (.cells #[.slice (some ⟨g,0,none⟩) acc.length cap] 129)).heap.size:=by rw[size_alloc];omega
  have HI:=Lib.hid hI0
  have HB:=Lib.hid hB
  have HGB:=Lib.hid hgB
  have HS2:=Lib.hid hsz2
  clear hI0 hB hgB hsz2 hX1 hg1
  go_wp2_with fail
  have hX1:X<w1.heap.size:=by omega
  refine(wpIn_wide (n:=3)).1 (wpIn_rangeFunc_ownF (F:=Fence.wide) (n:=3) rfl (by decide) (gf:=213) (lb:=#[pp w1.heap.size]) rfl trivial (enters_of Tryz.func213 (by kernel_rfl) rfl)
   (back_stops Fence.wide 2 trivial rfl (by decide) w1.heap.size g cap X bl (by omega) hgX (by rw[HBL.out];omega) _ (by rw[HBL.out];exact HB.out) cur HGB.out HC.out) (fun h k=>h.trans k)
   (fun W l o o' _ hl ho _ b cs t z _ hb=>grown_cells (grownBy_putObj' W l o') (fun r e=>by cases e;exact⟨o,hl,ho⟩) b cs t z hb) (Below.refl _ _) (fun _=>rfl)
   (LI pb tb T (k+1) vs d X w0 bl acc x) (fun _ _ _=>False) (LI.own HS2.out) (fun c s W W' row h=>h.elim) HI.out
   (fun y=>{ tmps:=#[pp pb,u1,u2,pp nb,.slice (some ⟨g,0,none⟩) acc.length cap,pp X,u6,pp y.2,u8,u9,u10,u11,u12,u13,u14,u15,u16,u17,u18,u19,u20,u21,u22,u23,u24,u25,u26,u27,pp pb,.tuple #[],.slice (some ⟨g,0,none⟩) acc.length cap,.func (.func 213) #[] #[pp w1.heap.size],zi (y.1:Int),pp y.2,u34,u35,u36,u37,u38,u39],defers:=[] }) ?assign ?body ?done ?stop)
  case assign=>
   intro l y W K hK
   gi_wp2_with (rw[Oper.semAt_eq _ _ _ (fun c h=>by cases h)];go_simp;try go_bits)
   exact hK
  case body=>
   intro l pre y W hI hlen
   obtain⟨bv,hbv,-⟩:=hI.2.2.2.2
   have hc0:W.cell? ⟨X,0,none⟩=some (pp bv):=cellOf hbv rfl
   have hf0:=freeOf hbv 0
   have hXW:=hI.2.2.2.1
   have hstep:=LI.step (y:=y) HBL.out hX0 hpb hI bv hbv
   rw[World.setCell_alloc_past _ _ _ _ (by rw[size_alloc];omega),World.setCell_alloc_past _ _ _ _ hXW] at hstep
   have HST:=Lib.hid hstep
   clear hI hstep hbv
   gi_wp2_with (rw[Oper.semAt_eq _ _ _ (fun c h=>by cases h)];go_simp;try go_bits)
   exact⟨((KeepsOthers.setCell _ _ _).trans (KeepsOthers.alloc _ _)).trans (KeepsOthers.alloc _ _),fun b cs t z hb hc=>blk_alloc_old (blk_alloc_old (by rw[blk_setCell_other (show b≠X from hb)];exact hc)),HST.out⟩
  case done=>
   rintro D ys W hD rfl hI hK
   have hI2:=LI.own HS2.out _ W (W.putObj D (.deferred none)) (some D) hI (grownBy_putObj' W D _) (fun r e=>by cases e;exact⟨hD,_,hK,rfl⟩)
   obtain⟨bv,hbv,-⟩:=hI.2.2.2.2
   have hc0:W.cell? ⟨X,0,none⟩=some (pp bv):=cellOf hbv rfl
   have hXW:=hI.2.2.2.1
   have HBV:=Lib.hid hbv
   have HII:=Lib.hid hI2
   have HK:=Lib.hid hK
   clear hI hI2 hbv hK
   go_wp2_with fail
   refine⟨by simp,.inl ⟨_,_,rfl,run_takeDeferred HK.out,?_⟩⟩
   refine⟨_,results_tmp rfl _ _ _,?_⟩
   obtain⟨g1,g2,g3,g4,bv2,g5,g6⟩:=HII.out
   have e5:=grown_cells (grownBy_putObj' W D (.deferred none)) (fun r e=>by cases e;exact⟨_,HK.out,rfl⟩) _ _ _ _ HBV.out
   have:bv2=bv:=by
    rw[g5] at e5
    injection e5 with e
    injection e with e
    have:=congrArg (fun a=>a[0]?) e
    simpa using this
   subst this
   have e6:=g6 (by rw[downto_length]) (by rw[downto_length,HBL.out];exact Nat.le_refl _)
   rw[downto_length,HBL.out,Nat.sub_self,List.drop_zero] at e6
   exact⟨_,rfl,IsEx.mono (fun b hb=>hb.1) (fun _ _ _ _ h=>h) _ _ e6,g1,g2⟩
  case stop=>
   rintro D c pre W _ _ h _
   exact h.elim
 ·rw[if_neg hc,Option.some.injEq] at hq
  subst hq
  refine(sMust_no H.out [93] (by simpa using hc) (by decide)).mono ?_
  rintro e w1 ⟨⟨b,rfl,hb3,hl3⟩,hf3,hs3⟩
  exact⟨⟨b,rfl,hb3,by omega⟩,HF.out.trans hf3,hs3⟩
theorem sList{f:Nat}(hexp:∀ m,m<f+1->CExpr m){pb tb:Nat}{T:List P.Tok}{k:Nat}{vars:List P.Bs}{d:Nat}{w0:World}{r:P.Res P.Ex}(hp0:SP w0 pb tb T k vars d)(hd:d≤8)
  (h:P.pList T (f+1) k vars d=some r):Calls Tryz.prog 173 #[pp pb] w0 (SPost IsEx pb tb T d w0 r):=by
 rw[P.pList] at h
 by_cases hc0:P.isT T k [93]=true
 ·rw[if_pos hc0,Option.some.injEq] at h
  subst h
  exact sList_nil hp0 hc0
 rw[if_neg hc0] at h
 cases hre:P.pElems T f k vars d [] with
 | none=>rw[hre] at h;simp [P.Res.bind] at h
 | some re=>
 rw[hre] at h
 cases f with
 | zero=>simp [P.pElems] at hre
 | succ f=>
 rw[P.pElems] at hre
 have hp1:=Lib.hid (hp0.ext (w':=w0.alloc nilObj) fun b o h=>blk_alloc_old h)
 have HR:=Lib.hid h
 have HRE:=Lib.hid hre
 have hpb0:=hp0.d2.2.2
 have hT:=hp0.tw.len
 obtain⟨i0,hi,iz0,iz1,iz2⟩:=info_parts sInfoEx
 have HF1:Hid (SFr pb w0 (w0.alloc nilObj)):=Lib.hid ((FrM.refl _ _).alloc _)
 clear hp0 h hre
 refine calls_of_marks Tryz.func173 rfl ?_
 simp only[Tryz.ntmps173,List.size_toArray,List.length_cons,List.length_nil,Nat.reduceAdd,Nat.reduceSub,Array.replicate_succ,Array.replicate_zero,List.push_toArray,List.append_toArray,List.nil_append,List.cons_append]
 go_wp2_with fail
 refine(sIs_no hp1.out [93] (by simpa using hc0) (by decide)).mono ?_
 rintro e w3 ⟨rfl,rfl⟩
 clear hc0
 go_wp2_with fail
 cases hq:P.pOper T f 0 k vars d with
 | none=>have e:=HRE.out;rw[hq] at e;simp [P.Res.bind] at e
 | some q=>
 have e:=HRE.out
 rw[hq] at e
 refine((hexp f (by omega)).go hp1.out hd hq).mono ?_
 cases q with
 | err c0 a0=>
  rintro e2 w4 ⟨⟨b,rfl,hb3,hl3⟩,hf3,hs3⟩
  simp only[P.Res.bind,Option.some.injEq] at e
  subst e
  have hr:=HR.out
  simp only[P.Res.bind,Option.some.injEq] at hr
  subst hr
  exact⟨⟨b,rfl,hb3,by rw[size_alloc] at hl3;omega⟩,HF1.out.trans hf3,hs3⟩
 | ok x k' vs'=>
 rintro e2 w1 ⟨v,rfl,hv,hp2,hf2⟩
 simp only[P.Res.bind] at e
 obtain⟨bx,rfl,hbx⟩:=hv.shape
 have hkk:=(P.mono T f).oper _ _ _ _ _ _ _ hq
 have hz1:=hf2.size
 rw[size_alloc] at hz1
 have hn1:=SFr.keep hf2 (blk_alloc_new w0 nilObj) (by omega) (by decide)
 have hrow:(w1.alloc (.cells #[pp bx] 219)).ownsRow w0.heap.size 219 1 (.slice (some ⟨w1.heap.size,0,none⟩) 1 1) 1 [pp bx]:=
  ⟨rfl,.inr ⟨w1.heap.size,1,_,rfl,by omega,blk_alloc_new _ _,Nat.le_refl _,by decide,rfl,rfl⟩⟩
 have hx1:IsExs (fun b=>Nu w0 (w1.alloc (.cells #[pp bx] 219)) b/\(Value.slice (some ⟨w1.heap.size,0,none⟩) 1 1).ownBlock≠some b) (w1.alloc (.cells #[pp bx] 219)) [pp bx] [x]:=by
  have:=IsExs.snoc (l:=[]) (vs:=[]) (F:=fun b=>Nu w0 (w1.alloc (.cells #[pp bx] 219)) b/\(Value.slice (some ⟨w1.heap.size,0,none⟩) 1 1).ownBlock≠some b) (w:=w1.alloc (.cells #[pp bx] 219)) (v:=pp bx) (x:=x)
   (IsEx.mono (fun b hb=>⟨⟨by have:=hb.1;rw[size_alloc] at this;omega,by have:=hb.2;rw[size_alloc];omega⟩,fun e=>by injection e with e;have:=hb.2;simp only at e;omega⟩) (fun b o _ _ ho=>blk_alloc_old ho) _ _ hv) (by unfold IsExs;rfl)
  simpa using this
 have HROW:=Lib.hid hrow
 have HX1:=Lib.hid hx1
 have HP2:=Lib.hid (hp2.ext (w':=w1.alloc (.cells #[pp bx] 219)) fun b o h=>blk_alloc_old h)
 have HF2:Hid (SFr pb w0 (w1.alloc (.cells #[pp bx] 219))):=Lib.hid ((HF1.out.trans hf2).alloc _)
 have HN1:Hid ((w1.alloc (.cells #[pp bx] 219)).heap[w0.heap.size]?=some nilObj):=Lib.hid (blk_alloc_old hn1)
 have HE:=Lib.hid e
 have HK:=Lib.hid hkk
 clear hv hp2 hf2 hrow hx1 e hq hbx hn1 HRE hkk HF1 hp1
 go_wp2_with fail
 refine wp_loop_ghost (fun n a w=>n≤f/\LJ pb tb T d w0 re n a w) ⟨f,Nat.le_refl _,[x],k',vs',_,_,_,_,_,_,_,_,_,_,_,_,_,_,_,_,_,_,_,_,_,_,_,_,_,_,_,_,_,_,_,_,_,_,_,_,_,_,_,rfl,HROW.out,HX1.out,HP2.out,HF2.out,Nat.zero_lt_one,by have:=HK.out;simp;omega,HN1.out,by simpa using HE.out⟩ ?_
 clear HROW HX1 HP2 HF2 HK HN1 HE hz1
 rintro n a w ⟨hnf,acc,k2,vs,xs,sl,u1,u2,u5,u6,u7,u8,u9,u10,u11,u12,u13,u14,u15,u16,u17,u18,u19,u20,u21,u22,u23,u24,u25,u26,u27,u28,u29,u30,u31,u32,u33,u34,u35,u36,u37,u38,u39,rfl,hown,hxs,hp,hf,h0a,hak,hn1,hr⟩
 have hkt:=hp.kt
 have hz:=hf.size
 have hpw:=hp.d2.2.2
 obtain⟨g',cap',rfl⟩:∃ g cap,sl = .slice (some ⟨g,0,none⟩) acc.length cap:=by
  obtain⟨g1,g2 | ⟨g,cp,cur,e1,e2,e3,e4⟩⟩:=hown
  ·omega
  ·exact⟨g,cp,e1⟩
 have HO:=Lib.hid hown
 have HX:=Lib.hid hxs
 have HP:=Lib.hid hp
 have HF:=Lib.hid hf
 have HN:=Lib.hid hn1
 by_cases hc:P.isT T k2 [44]=true
 ·rw[if_pos hc] at hr
  cases n with
  | zero=>simp [P.pElems] at hr
  | succ n=>
  rw[P.pElems] at hr
  have HRR:=Lib.hid hr
  clear hown hxs hp hf hn1 hr
  go_wp2_with fail
  refine(sIs_yes HP.out [44] hc).mono ?_
  rintro e w2 ⟨rfl,hp2,hf2⟩
  have HP2:=Lib.hid hp2
  have HF2:=Lib.hid hf2
  clear hp2 hf2 hc
  go_wp2_with fail
  cases hq:P.pOper T n 0 (k2+1) vs d with
  | none=>have e:=HRR.out;rw[hq] at e;simp [P.Res.bind] at e
  | some q=>
  have e:=HRR.out
  rw[hq] at e
  refine((hexp n (by omega)).go HP2.out hd hq).mono ?_
  cases q with
  | err c0 a0=>
   rintro e2 w4 ⟨⟨b,rfl,hb3,hl3⟩,hf3,hs3⟩
   simp only[P.Res.bind,Option.some.injEq] at e
   subst e
   have hr:=HR.out
   simp only[P.Res.bind,Option.some.injEq] at hr
   subst hr
   have:=HF2.out.size
   exact⟨⟨b,rfl,hb3,by omega⟩,(HF.out.trans HF2.out).trans hf3,hs3⟩
  | ok x k' vs'=>
  rintro e2 w3 ⟨v,rfl,hv,hp3,hf3⟩
  simp only[P.Res.bind] at e
  obtain⟨bx,rfl,hbx⟩:=hv.shape
  have hkk:=(P.mono T n).oper _ _ _ _ _ _ _ hq
  have hz2:=HF2.out.size
  have hz3:=hf3.size
  have hk1:=hp3.kt
  have hpw2:=HP2.out.d2.2.2
  have hw3:=hp3.d2.2.2
  have hown1:w3.ownsRow w0.heap.size 219 1 (.slice (some ⟨g',0,none⟩) acc.length cap') acc.length xs:=by
   obtain⟨g1,g2 | ⟨g,cp,cur,e1,e2,e3,e4⟩⟩:=HO.out
   ·exact⟨g1,.inl g2⟩
   ·exact⟨g1,.inr ⟨g,cp,cur,e1,e2,SFr.ast hf3 ⟨.inr (.inl rfl),rfl⟩ (SFr.ast HF2.out ⟨.inr (.inl rfl),rfl⟩ e3 (by omega)) (by omega),e4⟩⟩
  have hxs1:IsExs (fun b=>Nu w0 w3 b/\(Value.slice (some ⟨g',0,none⟩) acc.length cap').ownBlock≠some b) w3 xs acc:=
   IsExs.mono (fun b hb=>⟨⟨hb.1.1,by have:=hb.1.2;omega⟩,hb.2⟩) (fun b o hb ha ho=>SFr.ast hf3 ha (SFr.ast HF2.out ha ho (by have:=hb.1.1;omega)) (by have:=hb.1.1;omega)) _ _ HX.out
  have hn3:w3.heap[w0.heap.size]?=some nilObj:=SFr.keep hf3 (SFr.keep HF2.out HN.out (by omega) (by decide)) (by omega) (by decide)
  have HO1:=Lib.hid hown1
  have HX1:=Lib.hid hxs1
  have HV:=Lib.hid hv
  have HP1:=Lib.hid hp3
  have HF1:=Lib.hid ((HF.out.trans HF2.out).trans hf3)
  have HE:=Lib.hid e
  have HBX:=Lib.hid hbx
  have HK:=Lib.hid hkk
  have HN3:=Lib.hid hn3
  have hgw:w0.heap.size≤g':=(HO.out.lt g' rfl).1
  have hgl:g'<w.heap.size:=(HO.out.lt g' rfl).2
  have hng0:g'≠w0.heap.size:=fun e=>by
   obtain⟨g1,g2 | ⟨g,cp,cur,e1,e2,e3,e4⟩⟩:=HO.out
   ·omega
   ·injection e1 with e1 _ _
    injection e1 with e1
    injection e1 with e1 _ _
    rw[<- e1,e] at e3
    rw[HN.out] at e3
    injection e3 with e3
    injection e3 with _ e3 _
    exact absurd e3 (by decide)
  clear hv hp3 hf3 hown1 hxs1 e hq hbx hn3 hkk
  go_wp2_with (at_builtin;go_must (refine wpList_append_own2 rfl _ _ 129 rfl w0.heap.size 219 i0 _ 1 8 Tryz.underlying129 hi iz0 iz1 iz2 rfl (by decide) _ _ _ rfl (HO1.out.alloc _) ⟨w3.heap.size,0,none⟩ 1 1 [pp bx] rfl rfl (one_new rfl) (by simp [Value.oneCell']) (by unfold maxLen;omega) (by omega) (by simp;omega) ?_;intro v' w4 hown2 hgrow2 hfr2;obtain⟨g2,cap2,rfl⟩:=own_succ hown2;have HO2:=Lib.hid hown2;have HG2:=Lib.hid hgrow2;have HFR2:=Lib.hid hfr2;clear hown2 hgrow2 hfr2))
  have hp4:SP w4 pb tb T k' vs' d:=(HP1.out.ext fun b o h=>blk_alloc_old (o:=Obj.cells #[Value.pointer (some ⟨bx,0,none⟩)] 219) h).grownRow (HO1.out.alloc _) (by decide) (by omega) HG2.out
  have hf4:SFr pb w0 w4:=(HF1.out.alloc _).grownNew HG2.out fun k hk=>(HO1.out.lt k hk).1
  have hg4:=HG2.out.size
  rw[size_alloc] at hg4
  have hkeep:∀ (b:Nat) (o:Obj),w3.heap[b]?=some o->(Value.slice (some ⟨g',0,none⟩) acc.length cap').ownBlock≠some b->w4.heap[b]?=some o:=fun b o h hne=>by
   have h':=blk_alloc_old (o:=Obj.cells #[Value.pointer (some ⟨bx,0,none⟩)] 219) h
   rw[HG2.out.block b (ltOf h') (fun e=>hne e.symm)];exact h'
  have hnb:∀ b,b<w3.heap.size->(Value.slice (some ⟨g',0,none⟩) acc.length cap').ownBlock≠some b->(Value.slice (some ⟨g2,0,none⟩) (acc.length+1) cap2).ownBlock≠some b:=fun b hb hne=>by
   rcases HFR2.out with h | h
   ·rw[h];exact hne
   ·intro e
    have:=h b e
    rw[size_alloc] at this
    omega
  have hbn:∀ b,Nu w2 w3 b->(Value.slice (some ⟨g',0,none⟩) acc.length cap').ownBlock≠some b:=fun b hb e=>by
   have:=(HO.out.lt b e).2
   have:=hb.1
   omega
  have hxs4:IsExs (fun b=>Nu w0 w4 b/\(Value.slice (some ⟨g2,0,none⟩) (acc.length+1) cap2).ownBlock≠some b) w4 (xs++[pp bx]) (acc++[x]):=
   IsExs.snoc (IsEx.mono (fun b hb=>⟨⟨by have:=hb.1;omega,by have:=hb.2;omega⟩,hnb b hb.2 (hbn b hb)⟩) (fun b o hb _ ho=>hkeep b o ho (hbn b hb)) _ _ HV.out)
    (IsExs.mono (fun b hb=>⟨⟨hb.1.1,by have:=hb.1.2;omega⟩,hnb b hb.1.2 hb.2⟩) (fun b o hb _ ho=>hkeep b o ho hb.2) _ _ HX1.out)
  have hn4:w4.heap[w0.heap.size]?=some nilObj:=hkeep _ _ HN3.out (fun e=>hng0 (by injection e))
  have hkk:=HK.out
  exact⟨n,Nat.lt_succ_self n,by omega,acc++[x],k',vs',_,_,_,_,_,_,_,_,_,_,_,_,_,_,_,_,_,_,_,_,_,_,_,_,_,_,_,_,_,_,_,_,_,_,_,_,_,_,_,rfl,by rw[List.length_append];exact HO2.out,hxs4,hp4,hf4,by simp,by simp;omega,hn4,HE.out⟩
 ·rw[if_neg hc,Option.some.injEq] at hr
  subst hr
  clear hown hxs hp hf hn1
  go_wp2_with fail
  refine(sIs_no HP.out [44] (by simpa using hc) (by decide)).mono ?_
  rintro e w2 ⟨rfl,rfl⟩
  clear hc
  have hX0:w0.heap.size≤w.heap.size:=hz
  have hNX:=ltOf HN.out
  have hgl:=(HO.out.lt g' rfl)
  obtain⟨bl,hxb,hbl⟩:=HX.out.blocks
  subst hxb
  have hcur:∃ cur:Array Value,w.heap[g']?=some (.cells cur 219 (0,0))/\∀ j,j<bl.length->cur[j]?=some (pp (bl.getD j 0)):=by
   obtain⟨g1,g2 | ⟨g,cp,cur,e1,e2,e3,e4,e5,e6,e7⟩⟩:=HO.out
   ·omega
   ·injection e1 with e1 _ _
    injection e1 with e1
    injection e1 with e1 _ _
    subst e1
    refine⟨cur,e3,fun j hj=>?_⟩
    have h1:(cur.toList.take (acc.length*1))[j]?=(bl.map (fun b=>Value.pointer (some ⟨b,0,none⟩)))[j]?:=by rw[e7]
    rw[List.getElem?_take,if_pos (by omega),Array.getElem?_toList] at h1
    rw[h1,List.getElem?_map,List.getD_eq_getElem?_getD,List.getElem?_eq_getElem hj]
    rfl
  obtain⟨cur,hcb,hcur⟩:=hcur
  have hbX:(w.alloc (.cells #[pp w0.heap.size] 219)).heap[w.heap.size]?=some (.cells #[pp w0.heap.size] 219):=blk_alloc_new _ _
  have hxsX:IsExs (fun b=>Nu w0 (w.alloc (.cells #[pp w0.heap.size] 219)) b/\b≠w.heap.size) (w.alloc (.cells #[pp w0.heap.size] 219)) (bl.map (fun b=>Value.pointer (some ⟨b,0,none⟩))) acc:=
   IsExs.mono (fun b hb=>⟨⟨hb.1.1,by rw[size_alloc];have:=hb.1.2;omega⟩,by have:=hb.1.2;omega⟩) (fun b o _ _ ho=>blk_alloc_old ho) _ _ HX.out
  have hgX:(w.alloc (.cells #[pp w0.heap.size] 219)).heap[g']?=some (.cells cur 219 (0,0)):=blk_alloc_old hcb
  have HPX:=Lib.hid (HP.out.ext (w':=w.alloc (.cells #[pp w0.heap.size] 219)) fun b o h=>blk_alloc_old h)
  have hFX:SFr pb w0 (w.alloc (.cells #[pp w0.heap.size] 219)):=HF.out.alloc _
  have hnX:(w.alloc (.cells #[pp w0.heap.size] 219)).heap[w0.heap.size]?=some nilObj:=blk_alloc_old HN.out
  have hsX:(w.alloc (.cells #[pp w0.heap.size] 219)).heap.size=w.heap.size+1:=size_alloc _ _
  have HFX:=Lib.hid hFX
  have HNX:=Lib.hid hnX
  have HBX:=Lib.hid hbX
  have HGX:=Lib.hid hgX
  have HCU:=Lib.hid hcur
  have HXX:=Lib.hid hxsX
  have HBL:=Lib.hid hbl
  have HSX:=Lib.hid hsX
  have hr:=HR.out
  simp only[P.Res.bind] at hr
  have hg1:=hgl.1
  have hg2:=hgl.2
  clear hFX hnX hbX hgX hcur hxsX hbl hcb hgl HO HX HF HN HP hsX HR
  by_cases hb:P.isT T k2 [124]=true
  ·rw[if_pos hb] at hr
   have HRR:=Lib.hid hr
   clear hr
   go_wp2_with fail
   refine(sIs_yes HPX.out [124] hb).mono ?_
   rintro e w3 ⟨rfl,hp3,hf3⟩
   have HP3:=Lib.hid hp3
   have HF3:=Lib.hid hf3
   have hz3:=hf3.size
   rw[HSX.out] at hz3
   clear hp3 hf3 hb
   have hXw:w.heap.size<w3.heap.size:=by omega
   go_wp2_with fail
   cases hq:P.pOper T (f+1) 0 (k2+1) vs d with
   | none=>have e:=HRR.out;rw[hq] at e;simp [P.Res.bind] at e
   | some q=>
   have e:=HRR.out
   rw[hq] at e
   refine((hexp (f+1) (by omega)).go HP3.out hd hq).mono ?_
   cases q with
   | err c0 a0=>
    rintro e2 w4 ⟨⟨b,rfl,hb3,hl3⟩,hf4,hs4⟩
    simp only[P.Res.bind,Option.some.injEq] at e
    subst e
    exact⟨⟨b,rfl,hb3,by omega⟩,(HFX.out.trans HF3.out).trans hf4,hs4⟩
   | ok x k' vs'=>
   rintro e2 w4 ⟨v,rfl,hv,hp4,hf4⟩
   simp only[P.Res.bind] at e
   obtain⟨bx,rfl,hbx⟩:=hv.shape
   have hz4:=hf4.size
   have hlt4:=hp4.lt
   have hX3:=SFr.keep HF3.out HBX.out (by omega) (by decide)
   have hX4:w4.heap[w.heap.size]?=_:=SFr.keep hf4 hX3 (by omega) (by decide)
   have hg4:=SFr.keep hf4 (SFr.keep HF3.out HGX.out (by omega) (by decide)) (by omega) (by decide)
   have hc4:w4.cell? ⟨w.heap.size,0,none⟩=some (pp w0.heap.size):=cellOf hX4 rfl
   have hf0:=freeOf hX4 0
   have hX4l:w.heap.size<w4.heap.size:=by omega
   have hs5:(w4.setCell ⟨w.heap.size,0,none⟩ (pp bx)).heap.size=w4.heap.size:=size_setCell _ _ _
   have hX5:(w4.setCell ⟨w.heap.size,0,none⟩ (pp bx)).heap[w.heap.size]?=some (.cells #[pp bx] 219):=by rw[blk_setCell_same hX4];rfl
   have hk5:∀ (b:Nat) (o:Obj),b≠w.heap.size->w4.heap[b]?=some o->(w4.setCell ⟨w.heap.size,0,none⟩ (pp bx)).heap[b]?=some o:=fun b o hb ho=>by
    rw[blk_setCell_other (show b≠w.heap.size from hb)];exact ho
   have hp5:=hp4.setOther (o:=0) hX4 (by decide) (by omega) (by omega) (pp bx)
   have hf5:SFr pb w0 (w4.setCell ⟨w.heap.size,0,none⟩ (pp bx)):=((HFX.out.trans HF3.out).trans hf4).setNew hX0 _
   have hx5:IsEx (fun b=>Nu w0 (w4.setCell ⟨w.heap.size,0,none⟩ (pp bx)) b/\b≠w.heap.size) (w4.setCell ⟨w.heap.size,0,none⟩ (pp bx)) (pp bx) x:=
    IsEx.mono (fun b hb=>⟨⟨by have:=hb.1;omega,by rw[hs5];exact hb.2⟩,by have:=hb.1;omega⟩) (fun b o hb _ ho=>hk5 b o (by have:=hb.1;omega) ho) _ _ hv
   have hxs5:IsExs (fun b=>Nu w0 (w4.setCell ⟨w.heap.size,0,none⟩ (pp bx)) b/\b≠w.heap.size) (w4.setCell ⟨w.heap.size,0,none⟩ (pp bx)) (bl.map (fun b=>Value.pointer (some ⟨b,0,none⟩))) acc:=
    IsExs.mono (fun b hb=>⟨⟨hb.1.1,by rw[hs5];have:=hb.1.2;rw[HSX.out] at this;omega⟩,hb.2⟩) (fun b o hb ha ho=>hk5 b o hb.2 (SFr.ast hf4 ha (SFr.ast HF3.out ha ho (by have:=hb.1.1;omega)) (by have:=hb.1.1;omega))) _ _ HXX.out
   have hg5:=hk5 g' _ (by omega) hg4
   have HTAIL:=Lib.hid (And.intro hp5 (And.intro hf5 (And.intro hX5 (And.intro hx5 (And.intro hg5 (And.intro hxs5 e))))))
   clear hp5 hf5 hX5 hx5 hg5 hxs5 e hv hp4 hf4 hX3 hX4 hg4 hk5 hs5 hq hbx
   go_upto_region 10 with(fail)
   obtain⟨t1,t2,t3,t4,t5,t6,t7⟩:=HTAIL.out
   exact sListTail _ _ _ _ _ _ _ _ _ _ _ _ _ _ _ _ _ _ _ _ _ _ _ _ _ _ _ _ _ _ _ _ _ _ _ _ t1 t2 hpb0 hX0 (by omega) (by omega) HBL.out (by omega) t3 t4 t5 HCU.out t6 t7 _ (by assumption)
  ·rw[if_neg hb] at hr
   have HRR:=Lib.hid hr
   clear hr
   go_wp2_with fail
   refine(sIs_no HPX.out [124] (by simpa using hb) (by decide)).mono ?_
   rintro e w3 ⟨rfl,rfl⟩
   clear hb
   go_upto_region 10 with(fail)
   have hxn:IsEx (fun b=>Nu w0 (w.alloc (.cells #[pp w0.heap.size] 219)) b/\b≠w.heap.size) (w.alloc (.cells #[pp w0.heap.size] 219)) (pp w0.heap.size) (.mk 97 [91,93] 0 0 []):=
    isEx_leaf ⟨⟨Nat.le_refl _,by rw[HSX.out];omega⟩,by omega⟩ HNX.out
   exact sListTail _ _ _ _ _ _ _ _ _ _ _ _ _ _ _ _ _ _ _ _ _ _ _ _ _ _ _ _ _ _ _ _ _ _ _ _ HPX.out HFX.out hpb0 hX0 (by omega) (by omega) HBL.out (by omega) HBX.out hxn HGX.out HCU.out HXX.out HRR.out _ (by assumption)
theorem cList0:CList 0:=⟨fun _ _ h=>by simp [P.pList] at h⟩
theorem cList{f:Nat}(hexp:∀ m,m<f->CExpr m):CList f:=by
 cases f with
 | zero=>exact cList0
 | succ f=>exact⟨fun hp hd h=>sList hexp hp hd h⟩
theorem sPrim_deep{pb tb:Nat}{T:List P.Tok}{k:Nat}{vars:List P.Bs}{d:Nat}{w:World}(hp:SP w pb tb T k vars d)(hd:8<d+1)(hd2:d≤8) :
  Calls Tryz.prog 148 #[pp pb] w (SPost IsEx pb tb T d w (.err 4 (P.tk T k).pos)):=by
 have H:=Lib.hid hp
 clear hp
 go_enter_defers Tryz.func148,Tryz.ntmps148
 go_wp2_with fail
 refine(sDeeper_no H.out hd (by omega)).mono ?_
 rintro e w1 ⟨⟨b,rfl,hb⟩,hf,hs⟩
 exact⟨⟨b,rfl,hb⟩,hf,hs⟩
theorem sPrim_num(hint:CInt){pb tb:Nat}{T:List P.Tok}{k:Nat}{vars:List P.Bs}{d:Nat}{w:World}(hp:SP w pb tb T k vars d)(hd:d+1≤8)
  (hk:(P.tk T k).kind=3) :
  Calls Tryz.prog 148 #[pp pb] w (SPost IsEx pb tb T d w (.ok (.mk 110 [] (P.num (P.tk T k).text) 0 []) (k+1) vars)):=by
 have H:=Lib.hid hp
 have HK:=Lib.hid hk
 clear hp hk
 go_enter_defers Tryz.func148,Tryz.ntmps148
 go_wp2_with fail
 refine(sDeeper_yes H.out hd).mono ?_
 rintro e w1 ⟨rfl,hs1,hx1,hp1,hf1⟩
 have HX1:=Lib.hid hx1
 have HF1:=Lib.hid hf1
 have HP1:=Lib.hid hp1
 have HS1:=Lib.hid hs1
 obtain⟨n,c,h0,f0,hb,l1,l2,l3,l4,hp2,hf2⟩:=hp1.on (by have:=HK.out;omega)
 obtain⟨t0,t1,t2⟩:=hp1.toks.at hp1.kt
 have htb:tb<w1.heap.size:=by have:=hp1.lt;omega
 have hne:¬ tb=pb:=by have:=hp1.lt;omega
 have hne':¬ pb=tb:=by omega
 have HP2:=Lib.hid hp2
 have HF2:=Lib.hid hf2
 rw[HK.out] at t0
 clear hp1 hf1 hx1 hs1 hp2 hf2
 go_wp2_with fail
 have hdg:=H.out.tw.digits _ (tk_mem H.out.kt) HK.out
 refine(hint.go _ hdg.1 hdg.2.1 hdg.2.2).mono ?_
 rintro e w3 ⟨rfl,he3⟩
 have HE3:=Lib.hid he3
 clear hdg he3
 go_wp2_with fail
 have hs1:=HS1.out
 have hpb:pb<w.heap.size:=H.out.d2.2.2
 have hbx:=HF2.out.keep HX1.out (by omega) (by decide)
 have hz:=HE3.out.size
 rw[size_alloc,size_setCell] at hz
 refine doorRet (j:=2) stab_Ex rfl hpb (((HP2.out.ext fun b o h=>blk_alloc_old h).ext HE3.out.ext).ext fun b o h=>blk_alloc_old h) (by omega) (blk_alloc_old (HE3.out.ext _ _ (blk_alloc_old hbx))) ?_
  ((((HF1.out.trans HF2.out).alloc _).trans HE3.out.toM).alloc _)
 exact isEx_leaf ⟨by omega,by rw[size_alloc];omega⟩ (blk_alloc_new _ _)
theorem sPrim_var(hvar:CVar){pb tb:Nat}{T:List P.Tok}{k:Nat}{vars:List P.Bs}{d:Nat}{w:World}(hp:SP w pb tb T k vars d)(hd:d+1≤8)
  (hk:(P.tk T k).kind=2) :
  Calls Tryz.prog 148 #[pp pb] w (SPost IsEx pb tb T d w (P.pVar (P.tk T k) (k+1) vars)):=by
 have H:=Lib.hid hp
 have HK:=Lib.hid hk
 clear hp hk
 go_enter_defers Tryz.func148,Tryz.ntmps148
 go_wp2_with fail
 refine(sDeeper_yes H.out hd).mono ?_
 rintro e w1 ⟨rfl,hs1,hx1,hp1,hf1⟩
 have HX1:=Lib.hid hx1
 have HF1:=Lib.hid hf1
 have HP1:=Lib.hid hp1
 have HS1:=Lib.hid hs1
 obtain⟨n,c,h0,f0,hb,l1,l2,l3,l4,hp2,hf2⟩:=hp1.on (by have:=HK.out;omega)
 obtain⟨t0,t1,t2⟩:=hp1.toks.at hp1.kt
 have htb:tb<w1.heap.size:=by have:=hp1.lt;omega
 have hne:¬ tb=pb:=by have:=hp1.lt;omega
 have hne':¬ pb=tb:=by omega
 have HP2:=Lib.hid hp2
 have HF2:=Lib.hid hf2
 rw[HK.out] at t0
 clear hp1 hf1 hx1 hs1 hp2 hf2
 go_wp2_with fail
 have hpv:=hvar.go (P.tk T k) (HP2.out.ext fun b o (h:_=some o)=>blk_alloc_old (o:=.cells #[zi 2,.string (bs (P.tk T k).text),zi (P.tk T k).pos] 157) h)
  (H.out.tw.vars _ (tk_mem H.out.kt) HK.out)
 rw[HK.out] at hpv
 refine hpv.mono ?_
 have hs1:=HS1.out
 have hpb:pb<w.heap.size:=H.out.d2.2.2
 have hbx:=HF2.out.keep HX1.out (by omega) (by decide)
 have hbx':∀ o,((onW w1 pb tb k n c).alloc o).heap[w.heap.size]?=_:=fun o=>blk_alloc_old (o:=o) hbx
 have hfr:=fun o=>(HF1.out.trans HF2.out).alloc o
 have hsz:∀ o,((onW w1 pb tb k n c).alloc o).heap.size=w.heap.size+2:=fun o=>by rw[size_alloc,size_setCell,hs1]
 have HB:=Lib.hid hbx'
 have HR:=Lib.hid hfr
 have HZ:=Lib.hid hsz
 clear hpv hbx hbx' hfr hsz
 cases hr:P.pVar (P.tk T k) (k+1) vars with
 | ok x k' vs=>
  rintro e w3 ⟨v,rfl,hv,hp3,hf3⟩
  have HV:=Lib.hid hv
  have HP3:=Lib.hid hp3
  have HF3:=Lib.hid hf3
  have HRR:=Lib.hid hr
  clear hv hp3 hf3 hr
  go_wp2_with fail
  have hz:=HZ.out (.cells #[zi 2,.string (bs (P.tk T k).text),zi (P.tk T k).pos] 157)
  have hz3:=HF3.out.size
  rw[HRR.out]
  refine doorRet (j:=2) stab_Ex rfl hpb HP3.out (by omega) (HF3.out.keep (HB.out _) (by omega) (by decide)) ?_ ((HR.out _).trans HF3.out)
  exact IsEx.mono (fun b hb=>⟨by have:=hb.1;omega,hb.2⟩) (fun _ _ _ _ h=>h) _ _ HV.out
 | err c0 a0=>
  rintro e w3 ⟨⟨b,rfl,hb3,hl3⟩,hf3,hs3⟩
  have hz:=HZ.out (.cells #[zi 2,.string (bs (P.tk T k).text),zi (P.tk T k).pos] 157)
  exact doorPanic hpb hs3 (hf3.keep (HB.out _) (by omega) (by decide)) ⟨b,rfl,hb3,by omega⟩ ((HR.out _).trans hf3)
theorem sPrim_atom{pb tb:Nat}{T:List P.Tok}{k:Nat}{vars:List P.Bs}{d:Nat}{w:World}(hp:SP w pb tb T k vars d)(hd:d+1≤8)
  (hk:(P.tk T k).kind=1) (ho:P.isT T (k+1) [40]=false) :
  Calls Tryz.prog 148 #[pp pb] w (SPost IsEx pb tb T d w (.ok (.mk 97 (P.tk T k).text 0 0 []) (k+1) vars)):=by
 have HO:=Lib.hid ho
 clear ho
 have H:=Lib.hid hp
 have HK:=Lib.hid hk
 clear hp hk
 go_enter_defers Tryz.func148,Tryz.ntmps148
 go_wp2_with fail
 refine(sDeeper_yes H.out hd).mono ?_
 rintro e w1 ⟨rfl,hs1,hx1,hp1,hf1⟩
 have HX1:=Lib.hid hx1
 have HF1:=Lib.hid hf1
 have HP1:=Lib.hid hp1
 have HS1:=Lib.hid hs1
 obtain⟨n,c,h0,f0,hb,l1,l2,l3,l4,hp2,hf2⟩:=hp1.on (by have:=HK.out;omega)
 obtain⟨t0,t1,t2⟩:=hp1.toks.at hp1.kt
 have htb:tb<w1.heap.size:=by have:=hp1.lt;omega
 have hne:¬ tb=pb:=by have:=hp1.lt;omega
 have hne':¬ pb=tb:=by omega
 have HP2:=Lib.hid hp2
 have HF2:=Lib.hid hf2
 rw[HK.out] at t0
 clear hp1 hf1 hx1 hs1 hp2 hf2
 go_wp2_with fail
 refine(sIs_no (HP2.out.ext fun b o h=>blk_alloc_old (blk_alloc_old h)) [40] HO.out (by decide)).mono ?_
 rintro e w3 ⟨rfl,rfl⟩
 go_wp2_with fail
 have hs1:=HS1.out
 have hpb:pb<w.heap.size:=H.out.d2.2.2
 have hbx:=HF2.out.keep HX1.out (by omega) (by decide)
 refine doorRet (j:=2) stab_Ex rfl hpb (HP2.out.ext fun b o h=>blk_alloc_old (blk_alloc_old h)) (by omega) (blk_alloc_old (blk_alloc_old hbx)) ?_
  (((HF1.out.trans HF2.out).alloc _).alloc _)
 exact isEx_leaf ⟨by omega,by rw[size_alloc,size_alloc,size_setCell];omega⟩ (blk_new1 (by rw[size_alloc,size_setCell]))
theorem sPrim_comp{f:Nat}(hargs:CArgs f){pb tb:Nat}{T:List P.Tok}{k:Nat}{vars:List P.Bs}{d:Nat}{w:World}(hp:SP w pb tb T k vars d)(hd:d+1≤8)
  (hk:(P.tk T k).kind=1) (ho:P.isT T (k+1) [40]=true) {r:P.Res (List P.Ex)} (hr:P.pArgs T f (k+2) vars (d+1) (P.tk T k).pos []=some r)
  {q:P.Res P.Ex} (hq:P.Res.bind (some r) (fun l k' vars'=>P.musT T [41] (P.Ex.mk 99 (P.tk T k).text 0 0 l) k' vars')=some q) :
  Calls Tryz.prog 148 #[pp pb] w (SPost IsEx pb tb T d w (q)):=by
 have HO:=Lib.hid ho
 have HR:=Lib.hid hr
 have HQ:=Lib.hid hq
 clear ho hr hq
 have H:=Lib.hid hp
 have HK:=Lib.hid hk
 clear hp hk
 go_enter_defers Tryz.func148,Tryz.ntmps148
 go_wp2_with fail
 refine(sDeeper_yes H.out hd).mono ?_
 rintro e w1 ⟨rfl,hs1,hx1,hp1,hf1⟩
 have HX1:=Lib.hid hx1
 have HF1:=Lib.hid hf1
 have HP1:=Lib.hid hp1
 have HS1:=Lib.hid hs1
 obtain⟨n,c,h0,f0,hb,l1,l2,l3,l4,hp2,hf2⟩:=hp1.on (by have:=HK.out;omega)
 obtain⟨t0,t1,t2⟩:=hp1.toks.at hp1.kt
 have htb:tb<w1.heap.size:=by have:=hp1.lt;omega
 have hne:¬ tb=pb:=by have:=hp1.lt;omega
 have hne':¬ pb=tb:=by omega
 have HP2:=Lib.hid hp2
 have HF2:=Lib.hid hf2
 rw[HK.out] at t0
 clear hp1 hf1 hx1 hs1 hp2 hf2
 go_wp2_with fail
 refine(sIs_yes (HP2.out.ext fun b o h=>blk_alloc_old (blk_alloc_old h)) [40] HO.out).mono ?_
 have hs1:=HS1.out
 have hpb:pb<w.heap.size:=H.out.d2.2.2
 have htp:=H.out.lt
 have hbx:=HF2.out.keep HX1.out (by omega) (by decide)
 have hbx2:∀ o o',(((onW w1 pb tb k n c).alloc o).alloc o').heap[w.heap.size]?=_:=fun o o'=>blk_alloc_old (o:=o') (blk_alloc_old (o:=o) hbx)
 have hex:∀ o o',(((onW w1 pb tb k n c).alloc o).alloc o').heap[w1.heap.size+1]?=some o':=fun o o'=>blk_new1 (by rw[size_alloc,size_setCell])
 have hsz:∀ o o',(((onW w1 pb tb k n c).alloc o).alloc o').heap.size=w1.heap.size+2:=fun o o'=>by rw[size_alloc,size_alloc,size_setCell]
 have hfr:=fun o o'=>((HF1.out.trans HF2.out).alloc o).alloc o'
 rintro e w3 ⟨rfl,hp3,hf3⟩
 have hbx3:=hf3.keep (hbx2 _ _) (by omega) (by decide)
 have hex3:=hf3.keep (hex _ _) (by omega) (by decide)
 have hfr3:=(hfr _ _).trans hf3
 have hz3:w1.heap.size+2≤w3.heap.size:=by rw[<- hsz];exact hf3.size
 have HB3:=Lib.hid hbx3
 have HE3:=Lib.hid hex3
 have HF3:=Lib.hid hfr3
 have HP3:=Lib.hid hp3
 have HS:=Lib.hid hs1
 have c2:w3.cell? ⟨w1.heap.size,2,none⟩=some (zi (P.tk T k).pos):=
  cellOf (hf3.keep (b:=w1.heap.size) (blk_alloc_old (blk_new1 (by rw[size_setCell]))) (by omega) (by decide)) rfl
 clear hbx hbx2 hex hsz hfr hp3 hf3 hbx3 hex3 hfr3 hs1 t0 t1 t2 h0 f0
 go_wp2_with fail
 refine(hargs.go _ HP3.out (by omega) HR.out).mono ?_
 cases r with
 | err c0 a0=>
  rintro e w4 ⟨⟨b,rfl,hb3,hl3⟩,hf3,hs3⟩
  have e:=HQ.out
  simp only[P.Res.bind,Option.some.injEq] at e
  subst e
  have hs1:=HS1.out
  exact doorPanic hpb hs3 (hf3.keep HB3.out (by omega) (by decide)) ⟨b,rfl,hb3,by omega⟩ (HF3.out.trans hf3)
 | ok l k' vs=>
  rintro e w4 ⟨v,rfl,hv,hp4,hf4⟩
  obtain⟨sa,sn,sc,rfl,-,-⟩:=hv.shape
  have hs1:=HS1.out
  have hex4:=hf4.keep HE3.out (by omega) (by decide)
  have hbx4:=hf4.keep HB3.out (by omega) (by decide)
  have x0:w4.cell? ⟨w1.heap.size+1,0,none⟩=some (.int .u8 97):=cellOf hex4 rfl
  have x4:w4.cell? ⟨w1.heap.size+1,4,none⟩=some (.slice none 0 0):=cellOf hex4 rfl
  have y0:=freeOf hex4 0
  have y4:=freeOf hex4 4
  have z4:=ltOf hex4
  have hz4:=hf4.size
  have HP4:=Lib.hid hp4
  have HV4:=Lib.hid hv
  have HF4:=Lib.hid (HF3.out.trans hf4)
  have HE4:=Lib.hid hex4
  have HB4:=Lib.hid hbx4
  clear hv hp4 hf4 hex4 hbx4 hs1 c2
  go_wp2_with fail
  have hs1:=HS1.out
  have n1:w1.heap.size+1≠pb:=by omega
  have n2:tb<w1.heap.size+1:=by omega
  have n3:w.heap.size≠w1.heap.size+1:=by omega
  have hex5:=blk_setCell_same (o:=0) HE4.out (.int .u8 99)
  have hp6:=(HP4.out.setOther (o:=0) HE4.out (by decide) n1 n2 (.int .u8 99)).setOther (o:=4) hex5 (by decide) n1 n2 (.slice sa sn sc)
  have hex6:=blk_setCell_same (o:=4) hex5 (.slice sa sn sc)
  have hbx6:=(blk_setCell_other (a:=⟨w1.heap.size+1,4,none⟩) n3 (.slice sa sn sc)).trans ((blk_setCell_other (a:=⟨w1.heap.size+1,0,none⟩) n3 (.int .u8 99)).trans HB4.out)
  have hfr6:=(HF4.out.setNew (p:=⟨w1.heap.size+1,0,none⟩) (by show w.heap.size≤w1.heap.size+1;omega) (.int .u8 99)).setNew (p:=⟨w1.heap.size+1,4,none⟩) (by show w.heap.size≤w1.heap.size+1;omega) (.slice sa sn sc)
  have hv6:=(HV4.out.set (x:=w1.heap.size+1) (o:=0) (fun b hb=>by have:=hb.1;omega) (.int .u8 99)).set (x:=w1.heap.size+1) (o:=4) (fun b hb=>by have:=hb.1;omega) (.slice sa sn sc)
  have hz6:∀ u v,((w4.setCell ⟨w1.heap.size+1,0,none⟩ u).setCell ⟨w1.heap.size+1,4,none⟩ v).heap.size=w4.heap.size:=fun u v=>by rw[size_setCell,size_setCell]
  have HE6:=Lib.hid hex6
  have HB6:=Lib.hid hbx6
  have HF6:=Lib.hid hfr6
  have HV6:=Lib.hid hv6
  have HZ6:=Lib.hid hz6
  have HP6:=Lib.hid hp6
  clear hex5 hp6 hex6 hbx6 hfr6 hv6 hz6 x0 x4 y0 y4
  have hq:=HQ.out
  simp only[P.Res.bind,P.musT] at hq
  by_cases hc:P.isT T k' [41]=true
  ·rw[if_pos hc,Option.some.injEq] at hq
   subst hq
   refine(sMust_yes HP6.out [41] hc).mono ?_
   rintro e w7 ⟨rfl,hp7,hf7⟩
   have HP7:=Lib.hid hp7
   have HF7:=Lib.hid hf7
   clear hp7 hf7 hc n1 n2 n3 hs1
   go_wp2_with fail
   have hs1:=HS1.out
   have hz7:=HF7.out.size
   rw[HZ6.out] at hz7
   refine doorRet (j:=2) stab_Ex rfl hpb HP7.out (by omega) (HF7.out.keep HB6.out (by omega) (by decide)) ?_ (HF6.out.trans HF7.out)
   refine isEx_node ⟨by omega,by omega⟩ (HF7.out.keep HE6.out (by omega) (by decide)) ?_
   exact stab_SlEx _ _ _ _ _ _ _ HV6.out HF7.out fun b hb=>⟨by have:=hb.1;omega,by have:=hb.1;have:=hb.2;exact⟨by omega,by omega⟩⟩
  ·rw[if_neg hc,Option.some.injEq] at hq
   subst hq
   refine(sMust_no HP6.out [41] (by simpa using hc) (by decide)).mono ?_
   rintro e w7 ⟨⟨b,rfl,hb3,hl3⟩,hf3,hs3⟩
   rw[HZ6.out] at hl3
   exact doorPanic hpb hs3 (hf3.keep HB6.out (by omega) (by decide)) ⟨b,rfl,hb3,by omega⟩ (HF6.out.trans hf3)
theorem sPrim_none{pb tb:Nat}{T:List P.Tok}{k:Nat}{vars:List P.Bs}{d:Nat}{w:World}(hp:SP w pb tb T k vars d)(hd:d+1≤8)
  (hk:(P.tk T k).kind=0\/(P.tk T k).kind=4) (hm:P.isT T k [45]=false) (hn:P.isT T k [40]=false) (hl:P.isT T k [91]=false) :
  Calls Tryz.prog 148 #[pp pb] w (SPost IsEx pb tb T d w (.err 2 (P.tk T k).pos)):=by
 have HM:=Lib.hid hm
 have HN:=Lib.hid hn
 have HL:=Lib.hid hl
 clear hm hn hl
 have H:=Lib.hid hp
 go_enter_defers Tryz.func148,Tryz.ntmps148
 go_wp2_with fail
 refine(sDeeper_yes H.out hd).mono ?_
 rintro e w1 ⟨rfl,hs1,hx1,hp1,hf1⟩
 have HX1:=Lib.hid hx1
 have HF1:=Lib.hid hf1
 have HP1:=Lib.hid hp1
 have HS1:=Lib.hid hs1
 obtain⟨n,c,h0,l1,l2,-,l3,l4⟩:=hp1.l0
 obtain⟨t0,t1,t2⟩:=hp1.toks.at hp1.kt
 obtain⟨kd,hkd⟩:∃ kd:Int,kd=((P.tk T k).kind:Int):=⟨_,rfl⟩
 rw[<- hkd] at t0
 have k1:(kd == 1)=false:=by simp;omega
 have k2:(kd == 2)=false:=by simp;omega
 have k3:(kd == 3)=false:=by simp;omega
 have hpw:pb<w1.heap.size:=hp1.d2.2.2
 have htb:tb<w1.heap.size:=Nat.lt_trans hp1.lt hpw
 have hpb:pb<w.heap.size:=hp.d2.2.2
 have htp:=hp.lt
 clear hp1 hf1 hx1 hs1 hk hkd hp
 go_wp2_with fail
 have hpa:∀ o,SP (w1.alloc o) pb tb T k vars (d+1):=fun o=>HP1.out.ext fun b x h=>blk_alloc_old h
 have hbxa:∀ o,(w1.alloc o).heap[w.heap.size]?=_:=fun o=>blk_alloc_old (o:=o) HX1.out
 have hfra:=fun o=>HF1.out.alloc o
 have hsza:∀ o,(w1.alloc o).heap.size=w.heap.size+2:=fun o=>by rw[size_alloc,HS1.out]
 have HPA:=Lib.hid hpa
 have HBA:=Lib.hid hbxa
 have HFA:=Lib.hid hfra
 have HZA:=Lib.hid hsza
 clear hpa hbxa hfra hsza
 refine(sIs_no (HPA.out _) [45] HM.out (by decide)).mono ?_
 rintro e w2 ⟨rfl,rfl⟩
 go_wp2_with fail
 refine(sIs_no (HPA.out _) [40] HN.out (by decide)).mono ?_
 rintro e w2 ⟨rfl,rfl⟩
 go_wp2_with fail
 refine(sIs_no (HPA.out _) [91] HL.out (by decide)).mono ?_
 rintro e w2 ⟨rfl,rfl⟩
 go_wp2_with fail
 refine(sNone (HPA.out _)).mono ?_
 rintro e w2 ⟨⟨b,rfl,hb3,hl3⟩,hf3,hs3⟩
 rw[HZA.out] at hl3
 have hs1:=HS1.out
 exact doorPanic hpb hs3 (hf3.keep (HBA.out _) (by omega) (by decide)) ⟨b,rfl,hb3,by omega⟩ ((HFA.out _).trans hf3)
theorem sPrim_list{f:Nat}(hlist:CList f){pb tb:Nat}{T:List P.Tok}{k:Nat}{vars:List P.Bs}{d:Nat}{w:World}(hp:SP w pb tb T k vars d)(hd:d+1≤8)
  (hk:(P.tk T k).kind=0\/(P.tk T k).kind=4) (hm:P.isT T k [45]=false) (hn:P.isT T k [40]=false) (hl:P.isT T k [91]=true)
  {r:P.Res P.Ex} (hr:P.pList T f (k+1) vars (d+1)=some r) :
  Calls Tryz.prog 148 #[pp pb] w (SPost IsEx pb tb T d w (r)):=by
 have HM:=Lib.hid hm
 have HN:=Lib.hid hn
 have HL:=Lib.hid hl
 have HR:=Lib.hid hr
 clear hm hn hl hr
 have H:=Lib.hid hp
 go_enter_defers Tryz.func148,Tryz.ntmps148
 go_wp2_with fail
 refine(sDeeper_yes H.out hd).mono ?_
 rintro e w1 ⟨rfl,hs1,hx1,hp1,hf1⟩
 have HX1:=Lib.hid hx1
 have HF1:=Lib.hid hf1
 have HP1:=Lib.hid hp1
 have HS1:=Lib.hid hs1
 obtain⟨n,c,h0,l1,l2,-,l3,l4⟩:=hp1.l0
 obtain⟨t0,t1,t2⟩:=hp1.toks.at hp1.kt
 obtain⟨kd,hkd⟩:∃ kd:Int,kd=((P.tk T k).kind:Int):=⟨_,rfl⟩
 rw[<- hkd] at t0
 have k1:(kd == 1)=false:=by simp;omega
 have k2:(kd == 2)=false:=by simp;omega
 have k3:(kd == 3)=false:=by simp;omega
 have hpw:pb<w1.heap.size:=hp1.d2.2.2
 have htb:tb<w1.heap.size:=Nat.lt_trans hp1.lt hpw
 have hpb:pb<w.heap.size:=hp.d2.2.2
 have htp:=hp.lt
 clear hp1 hf1 hx1 hs1 hk hkd hp
 go_wp2_with fail
 have hpa:∀ o,SP (w1.alloc o) pb tb T k vars (d+1):=fun o=>HP1.out.ext fun b x h=>blk_alloc_old h
 have hbxa:∀ o,(w1.alloc o).heap[w.heap.size]?=_:=fun o=>blk_alloc_old (o:=o) HX1.out
 have hfra:=fun o=>HF1.out.alloc o
 have hsza:∀ o,(w1.alloc o).heap.size=w.heap.size+2:=fun o=>by rw[size_alloc,HS1.out]
 have HPA:=Lib.hid hpa
 have HBA:=Lib.hid hbxa
 have HFA:=Lib.hid hfra
 have HZA:=Lib.hid hsza
 clear hpa hbxa hfra hsza
 refine(sIs_no (HPA.out _) [45] HM.out (by decide)).mono ?_
 rintro e w2 ⟨rfl,rfl⟩
 go_wp2_with fail
 refine(sIs_no (HPA.out _) [40] HN.out (by decide)).mono ?_
 rintro e w2 ⟨rfl,rfl⟩
 go_wp2_with fail
 refine(sIs_yes (HPA.out _) [91] HL.out).mono ?_
 rintro e w2 ⟨rfl,hp2,hf2⟩
 have HP2:=Lib.hid hp2
 have hz2:=hf2.size
 rw[HZA.out] at hz2
 have HB2:=Lib.hid (hf2.keep (HBA.out _) (by omega) (by decide))
 have HF2:=Lib.hid ((HFA.out _).trans hf2)
 clear hp2 hf2
 go_wp2_with fail
 refine(hlist.go HP2.out (by omega) HR.out).mono ?_
 cases r with
 | err c0 a0=>
  rintro e w4 ⟨⟨b,rfl,hb3,hl3⟩,hf3,hs3⟩
  exact doorPanic hpb hs3 (hf3.keep HB2.out (by omega) (by decide)) ⟨b,rfl,hb3,by omega⟩ (HF2.out.trans hf3)
 | ok x k' vs=>
  rintro e w4 ⟨v,rfl,hv,hp4,hf4⟩
  have HV:=Lib.hid hv
  have HP4:=Lib.hid hp4
  have HF4:=Lib.hid hf4
  clear hv hp4 hf4
  go_wp2_with fail
  refine doorRet (j:=2) stab_Ex rfl hpb HP4.out (by omega) (HF4.out.keep HB2.out (by omega) (by decide)) ?_ (HF2.out.trans HF4.out)
  exact IsEx.mono (fun b hb=>⟨by have:=hb.1;omega,hb.2⟩) (fun _ _ _ _ h=>h) _ _ HV.out
theorem sPrim_paren{f:Nat}(hexpr:CExpr f){pb tb:Nat}{T:List P.Tok}{k:Nat}{vars:List P.Bs}{d:Nat}{w:World}(hp:SP w pb tb T k vars d)(hd:d+1≤8)
  (hk:(P.tk T k).kind=0\/(P.tk T k).kind=4) (hm:P.isT T k [45]=false) (hn:P.isT T k [40]=true)
  {r:P.Res P.Ex} (hr:P.pOper T f 0 (k+1) vars (d+1)=some r) {q:P.Res P.Ex} (hq:P.Res.bind (some r) (fun x k' vars'=>P.musT T [41] x k' vars')=some q) :
  Calls Tryz.prog 148 #[pp pb] w (SPost IsEx pb tb T d w (q)):=by
 have HM:=Lib.hid hm
 have HN:=Lib.hid hn
 have HR:=Lib.hid hr
 have HQ:=Lib.hid hq
 clear hm hn hr hq
 have H:=Lib.hid hp
 go_enter_defers Tryz.func148,Tryz.ntmps148
 go_wp2_with fail
 refine(sDeeper_yes H.out hd).mono ?_
 rintro e w1 ⟨rfl,hs1,hx1,hp1,hf1⟩
 have HX1:=Lib.hid hx1
 have HF1:=Lib.hid hf1
 have HP1:=Lib.hid hp1
 have HS1:=Lib.hid hs1
 obtain⟨n,c,h0,l1,l2,-,l3,l4⟩:=hp1.l0
 obtain⟨t0,t1,t2⟩:=hp1.toks.at hp1.kt
 obtain⟨kd,hkd⟩:∃ kd:Int,kd=((P.tk T k).kind:Int):=⟨_,rfl⟩
 rw[<- hkd] at t0
 have k1:(kd == 1)=false:=by simp;omega
 have k2:(kd == 2)=false:=by simp;omega
 have k3:(kd == 3)=false:=by simp;omega
 have hpw:pb<w1.heap.size:=hp1.d2.2.2
 have htb:tb<w1.heap.size:=Nat.lt_trans hp1.lt hpw
 have hpb:pb<w.heap.size:=hp.d2.2.2
 have htp:=hp.lt
 clear hp1 hf1 hx1 hs1 hk hkd hp
 go_wp2_with fail
 have hpa:∀ o,SP (w1.alloc o) pb tb T k vars (d+1):=fun o=>HP1.out.ext fun b x h=>blk_alloc_old h
 have hbxa:∀ o,(w1.alloc o).heap[w.heap.size]?=_:=fun o=>blk_alloc_old (o:=o) HX1.out
 have hfra:=fun o=>HF1.out.alloc o
 have hsza:∀ o,(w1.alloc o).heap.size=w.heap.size+2:=fun o=>by rw[size_alloc,HS1.out]
 have HPA:=Lib.hid hpa
 have HBA:=Lib.hid hbxa
 have HFA:=Lib.hid hfra
 have HZA:=Lib.hid hsza
 clear hpa hbxa hfra hsza
 refine(sIs_no (HPA.out _) [45] HM.out (by decide)).mono ?_
 rintro e w2 ⟨rfl,rfl⟩
 go_wp2_with fail
 refine(sIs_yes (HPA.out _) [40] HN.out).mono ?_
 rintro e w2 ⟨rfl,hp2,hf2⟩
 have HP2:=Lib.hid hp2
 have hz2:=hf2.size
 rw[HZA.out] at hz2
 have HB2:=Lib.hid (hf2.keep (HBA.out _) (by omega) (by decide))
 have HF2:=Lib.hid ((HFA.out _).trans hf2)
 clear hp2 hf2
 go_wp2_with fail
 refine(hexpr.go HP2.out (by omega) HR.out).mono ?_
 cases r with
 | err c0 a0=>
  rintro e w4 ⟨⟨b,rfl,hb3,hl3⟩,hf3,hs3⟩
  have e:=HQ.out
  simp only[P.Res.bind,Option.some.injEq] at e
  subst e
  exact doorPanic hpb hs3 (hf3.keep HB2.out (by omega) (by decide)) ⟨b,rfl,hb3,by omega⟩ (HF2.out.trans hf3)
 | ok x k' vs=>
  rintro e w4 ⟨v,rfl,hv,hp4,hf4⟩
  have HV:=Lib.hid hv
  have HP4:=Lib.hid hp4
  have HF4:=Lib.hid hf4
  have HB4:=Lib.hid (hf4.keep HB2.out (by omega) (by decide))
  have hz4:=hf4.size
  clear hv hp4 hf4
  go_wp2_with fail
  have hq:=HQ.out
  simp only[P.Res.bind,P.musT] at hq
  by_cases hc:P.isT T k' [41]=true
  ·rw[if_pos hc,Option.some.injEq] at hq
   subst hq
   refine(sMust_yes HP4.out [41] hc).mono ?_
   rintro e w7 ⟨rfl,hp7,hf7⟩
   have HP7:=Lib.hid hp7
   have HF7:=Lib.hid hf7
   clear hp7 hf7 hc
   go_wp2_with fail
   have hz7:=HF7.out.size
   refine doorRet (j:=2) stab_Ex rfl hpb HP7.out (by omega) (HF7.out.keep HB4.out (by omega) (by decide)) ?_ ((HF2.out.trans HF4.out).trans HF7.out)
   exact stab_Ex _ _ _ _ _ _ _ HV.out HF7.out fun b hb=>⟨by have:=hb.1;omega,by have:=hb.1;have:=hb.2;exact⟨by omega,by omega⟩⟩
  ·rw[if_neg hc,Option.some.injEq] at hq
   subst hq
   refine(sMust_no HP4.out [41] (by simpa using hc) (by decide)).mono ?_
   rintro e w7 ⟨⟨b,rfl,hb3,hl3⟩,hf3,hs3⟩
   exact doorPanic hpb hs3 (hf3.keep HB4.out (by omega) (by decide)) ⟨b,rfl,hb3,by omega⟩ ((HF2.out.trans HF4.out).trans hf3)
abbrev box3(w:World)(x:Nat)(a b c:Value):World:=((w.setCell ⟨x,0,none⟩ a).setCell ⟨x,1,none⟩ b).setCell ⟨x,2,none⟩ c
theorem box3_size(w:World)(x:Nat)(a b c:Value):(box3 w x a b c).heap.size=w.heap.size:=by rw[size_setCell,size_setCell,size_setCell]
theorem box3_other{w:World}{x y:Nat}(h:y≠x)(a b c:Value):(box3 w x a b c).heap[y]?=w.heap[y]?:=by
 rw[blk_setCell_other (show y≠x from h),blk_setCell_other (show y≠x from h),blk_setCell_other (show y≠x from h)]
theorem SP.box3{w:World}{pb tb x:Nat}{T:List P.Tok}{k:Nat}{vars:List P.Bs}{d:Nat}{cs:Array Value}{t:TypeId}{z:Nat×Nat}(h:SP w pb tb T k vars d)
  (hx:w.heap[x]?=some (.cells cs t z)) (ht:t≠9) (hp:x≠pb) (htb:tb<x) (a b c:Value):SP (box3 w x a b c) pb tb T k vars d:=
 ((h.setOther hx ht hp htb a).setOther (blk_setCell_same hx a) ht hp htb b).setOther (blk_setCell_same (blk_setCell_same hx a) b) ht hp htb c
theorem FrM.box3{M:Nat->Obj->Prop}{a b:World}(h:FrM M a b){x:Nat}(hx:a.heap.size≤x)(u v s:Value):FrM M a (box3 b x u v s):=
 ((h.setNew (p:=⟨x,0,none⟩) hx u).setNew (p:=⟨x,1,none⟩) hx v).setNew (p:=⟨x,2,none⟩) hx s
theorem sPrim_minus_no{pb tb:Nat}{T:List P.Tok}{k:Nat}{vars:List P.Bs}{d:Nat}{w:World}(hp:SP w pb tb T k vars d)(hd:d+1≤8)
  (hk:(P.tk T k).kind=0\/(P.tk T k).kind=4) (hm:P.isT T k [45]=true) (hn:(P.tk T (k+1)).kind≠3) :
  Calls Tryz.prog 148 #[pp pb] w (SPost IsEx pb tb T d w (.err 2 (P.tk T (k+1)).pos)):=by
 have HM:=Lib.hid hm
 have HN:=Lib.hid hn
 clear hm hn
 have H:=Lib.hid hp
 go_enter_defers Tryz.func148,Tryz.ntmps148
 go_wp2_with fail
 refine(sDeeper_yes H.out hd).mono ?_
 rintro e w1 ⟨rfl,hs1,hx1,hp1,hf1⟩
 have HX1:=Lib.hid hx1
 have HF1:=Lib.hid hf1
 have HP1:=Lib.hid hp1
 have HS1:=Lib.hid hs1
 obtain⟨n,c,h0,l1,l2,-,l3,l4⟩:=hp1.l0
 obtain⟨t0,t1,t2⟩:=hp1.toks.at hp1.kt
 obtain⟨kd,hkd⟩:∃ kd:Int,kd=((P.tk T k).kind:Int):=⟨_,rfl⟩
 rw[<- hkd] at t0
 have k1:(kd == 1)=false:=by simp;omega
 have k2:(kd == 2)=false:=by simp;omega
 have k3:(kd == 3)=false:=by simp;omega
 have hpw:pb<w1.heap.size:=hp1.d2.2.2
 have htb:tb<w1.heap.size:=Nat.lt_trans hp1.lt hpw
 have hpb:pb<w.heap.size:=hp.d2.2.2
 have htp:=hp.lt
 clear hp1 hf1 hx1 hs1 hk hkd hp
 go_wp2_with fail
 have hpa:∀ o,SP (w1.alloc o) pb tb T k vars (d+1):=fun o=>HP1.out.ext fun b x h=>blk_alloc_old h
 have hbxa:∀ o,(w1.alloc o).heap[w.heap.size]?=_:=fun o=>blk_alloc_old (o:=o) HX1.out
 have hfra:=fun o=>HF1.out.alloc o
 have hsza:∀ o,(w1.alloc o).heap.size=w.heap.size+2:=fun o=>by rw[size_alloc,HS1.out]
 have HPA:=Lib.hid hpa
 have HBA:=Lib.hid hbxa
 have HFA:=Lib.hid hfra
 have HZA:=Lib.hid hsza
 clear hpa hbxa hfra hsza
 have hxb:∀ o,(w1.alloc o).heap[w1.heap.size]?=some o:=fun o=>blk_alloc_new w1 o
 refine(sIs_yes (HPA.out _) [45] HM.out).mono ?_
 rintro e w2 ⟨rfl,hp2,hf2⟩
 have hs1:=HS1.out
 have hz2:=hf2.size
 rw[HZA.out] at hz2
 have hb2:=hf2.keep (hxb _) (by omega) (by decide)
 have y0:=freeOf hb2 0
 have y1:=freeOf hb2 1
 have y2:=freeOf hb2 2
 have c0:w2.cell? ⟨w1.heap.size,0,none⟩=some (zi kd):=cellOf hb2 rfl
 have c1:w2.cell? ⟨w1.heap.size,1,none⟩=some (.string (bs (P.tk T k).text)):=cellOf hb2 rfl
 have c2:w2.cell? ⟨w1.heap.size,2,none⟩=some (zi (P.tk T k).pos):=cellOf hb2 rfl
 have HP2:=Lib.hid hp2
 have HX2:=Lib.hid hb2
 have HB2:=Lib.hid (hf2.keep (HBA.out _) (by omega) (by decide))
 have HF2:=Lib.hid ((HFA.out _).trans hf2)
 have hpw2:pb<w2.heap.size:=by omega
 have htw2:tb<w2.heap.size:=by omega
 have hww2:w1.heap.size<w2.heap.size:=by omega
 have q1:¬ w1.heap.size=pb:=by omega
 have q2:¬ w1.heap.size=tb:=by omega
 have q3:¬ pb=w1.heap.size:=by omega
 have q4:¬ tb=w1.heap.size:=by omega
 obtain⟨n2,cc2,g0,g1,g2,-,g3,g4⟩:=hp2.l0
 obtain⟨u0,u1,u2⟩:=hp2.toks.at hp2.kt
 obtain⟨kd2,hkd2⟩:∃ kd:Int,kd=((P.tk T (k+1)).kind:Int):=⟨_,rfl⟩
 rw[<- hkd2] at u0
 have k32:(kd2 != 3)=true:=by simp;have:=HN.out;omega
 clear hp2 hf2 hb2 hs1 hxb hkd2 h0 t0 t1 t2
 go_wp2_with fail
 refine(sNone (HP2.out.box3 HX2.out (by decide) q1 (by omega) _ _ _)).mono ?_
 rintro e w3 ⟨⟨b,rfl,hb3,hl3⟩,hf3,hs3⟩
 rw[box3_size] at hl3
 have hs1:=HS1.out
 exact doorPanic hpb hs3 (hf3.keep ((box3_other (by omega) _ _ _).trans HB2.out) (by omega) (by decide)) ⟨b,rfl,hb3,by omega⟩ ((HF2.out.box3 (by omega) _ _ _).trans hf3)
theorem sPrim_minus(hint:CInt){pb tb:Nat}{T:List P.Tok}{k:Nat}{vars:List P.Bs}{d:Nat}{w:World}(hp:SP w pb tb T k vars d)(hd:d+1≤8)
  (hk:(P.tk T k).kind=0\/(P.tk T k).kind=4) (hm:P.isT T k [45]=true) (hn:(P.tk T (k+1)).kind=3) :
  Calls Tryz.prog 148 #[pp pb] w (SPost IsEx pb tb T d w (.ok (.mk 110 [] (- P.num (P.tk T (k+1)).text) 0 []) (k+2) vars)):=by
 have HM:=Lib.hid hm
 have HN:=Lib.hid hn
 clear hm hn
 have H:=Lib.hid hp
 go_enter_defers Tryz.func148,Tryz.ntmps148
 go_wp2_with fail
 refine(sDeeper_yes H.out hd).mono ?_
 rintro e w1 ⟨rfl,hs1,hx1,hp1,hf1⟩
 have HX1:=Lib.hid hx1
 have HF1:=Lib.hid hf1
 have HP1:=Lib.hid hp1
 have HS1:=Lib.hid hs1
 obtain⟨n,c,h0,l1,l2,-,l3,l4⟩:=hp1.l0
 obtain⟨t0,t1,t2⟩:=hp1.toks.at hp1.kt
 obtain⟨kd,hkd⟩:∃ kd:Int,kd=((P.tk T k).kind:Int):=⟨_,rfl⟩
 rw[<- hkd] at t0
 have k1:(kd == 1)=false:=by simp;omega
 have k2:(kd == 2)=false:=by simp;omega
 have k3:(kd == 3)=false:=by simp;omega
 have hpw:pb<w1.heap.size:=hp1.d2.2.2
 have htb:tb<w1.heap.size:=Nat.lt_trans hp1.lt hpw
 have hpb:pb<w.heap.size:=hp.d2.2.2
 have htp:=hp.lt
 clear hp1 hf1 hx1 hs1 hk hkd hp
 go_wp2_with fail
 have hpa:∀ o,SP (w1.alloc o) pb tb T k vars (d+1):=fun o=>HP1.out.ext fun b x h=>blk_alloc_old h
 have hbxa:∀ o,(w1.alloc o).heap[w.heap.size]?=_:=fun o=>blk_alloc_old (o:=o) HX1.out
 have hfra:=fun o=>HF1.out.alloc o
 have hsza:∀ o,(w1.alloc o).heap.size=w.heap.size+2:=fun o=>by rw[size_alloc,HS1.out]
 have HPA:=Lib.hid hpa
 have HBA:=Lib.hid hbxa
 have HFA:=Lib.hid hfra
 have HZA:=Lib.hid hsza
 clear hpa hbxa hfra hsza
 have hxb:∀ o,(w1.alloc o).heap[w1.heap.size]?=some o:=fun o=>blk_alloc_new w1 o
 refine(sIs_yes (HPA.out _) [45] HM.out).mono ?_
 rintro e w2 ⟨rfl,hp2,hf2⟩
 have hs1:=HS1.out
 have hz2:=hf2.size
 rw[HZA.out] at hz2
 have hb2:=hf2.keep (hxb _) (by omega) (by decide)
 have y0:=freeOf hb2 0
 have y1:=freeOf hb2 1
 have y2:=freeOf hb2 2
 have c0:w2.cell? ⟨w1.heap.size,0,none⟩=some (zi kd):=cellOf hb2 rfl
 have c1:w2.cell? ⟨w1.heap.size,1,none⟩=some (.string (bs (P.tk T k).text)):=cellOf hb2 rfl
 have c2:w2.cell? ⟨w1.heap.size,2,none⟩=some (zi (P.tk T k).pos):=cellOf hb2 rfl
 have HP2:=Lib.hid hp2
 have HX2:=Lib.hid hb2
 have HB2:=Lib.hid (hf2.keep (HBA.out _) (by omega) (by decide))
 have HF2:=Lib.hid ((HFA.out _).trans hf2)
 have hpw2:pb<w2.heap.size:=by omega
 have htw2:tb<w2.heap.size:=by omega
 have hww2:w1.heap.size<w2.heap.size:=by omega
 have q1:¬ w1.heap.size=pb:=by omega
 have q2:¬ w1.heap.size=tb:=by omega
 have q3:¬ pb=w1.heap.size:=by omega
 have q4:¬ tb=w1.heap.size:=by omega
 have hp3:=hp2.box3 hb2 (by decide) q1 (by omega) (zi 3) (.string (bs (P.tk T (k+1)).text)) (zi (P.tk T (k+1)).pos)
 obtain⟨n2,cc2,g0,f0,g5,g1,g2,g3,g4,hp4,hf4⟩:=hp3.on (by rw[HN.out];decide)
 have e0:w2.cell? ⟨pb,0,none⟩=some (.slice (some ⟨tb,(k+1)*3,none⟩) n2 cc2):=by
  rw[<- g0];exact(World.cell?_of_block (a:=⟨pb,0,none⟩) (box3_other q3 _ _ _)).symm
 have e1:w2.frozen? ⟨pb,0,none⟩=false:=by
  obtain⟨_,_,_,_,q,_⟩:=hp2.blk
  exact freeOf q 0
 obtain⟨u0,u1,u2⟩:=hp2.toks.at hp2.kt
 have hdg:=hp2.tw.digits _ (tk_mem hp2.kt) HN.out
 rw[HN.out] at u0
 have e2:(k+1)*3=k*3+3:=by omega
 rw[e2] at e0 u0 u1 u2
 have hp5:SP ((box3 w2 w1.heap.size (zi 3) (.string (bs (P.tk T (k+1)).text)) (zi (P.tk T (k+1)).pos)).setCell ⟨pb,0,none⟩ (.slice (some ⟨tb,k*3+3+3,none⟩) (n2-1) (cc2-1)))
   pb tb T (k+1+1) vars (d+1):=by rw[<- e2];exact hp4
 have HP4:=Lib.hid hp5
 have HDG:=Lib.hid hdg
 have HE2:=Lib.hid e2
 have nb:=P.num_bound hdg.2.1 hdg.2.2
 obtain⟨nb1,nb2⟩:=nb
 clear hp2 hf2 hb2 hs1 hxb h0 t0 t1 t2 hp3 hp4 hf4 hdg g0 f0 g5 e2 hp5
 go_wp2_with fail
 refine(hint.go _ HDG.out.1 HDG.out.2.1 HDG.out.2.2).mono ?_
 rintro e w3 ⟨rfl,he3⟩
 have HE3:=Lib.hid he3
 clear he3
 go_wp2_with fail
 have hs1:=HS1.out
 have hz:=HE3.out.size
 rw[size_setCell,box3_size] at hz
 refine doorRet (j:=2) stab_Ex rfl hpb ((HP4.out.ext HE3.out.ext).ext fun b o h=>blk_alloc_old h) (by omega)
  (blk_alloc_old (HE3.out.ext _ _ ((blk_setCell_other (show w.heap.size≠pb by omega) _).trans ((box3_other (by omega) _ _ _).trans HB2.out)))) ?_
  ((((HF2.out.box3 (by omega) _ _ _).trans (SFr.setp (FrM.refl _ _) _)).trans HE3.out.toM).alloc _)
 exact isEx_leaf ⟨by omega,by rw[size_alloc];omega⟩ (blk_alloc_new _ _)
end Go.Proofs.YtilpjhceemaplaaGreatDoor
namespace Go.Proofs.YtilpjhceemaplaaGreatDoor
open Go.RowKit
theorem cPrim0:CPrim 0:=⟨fun _ _ h=>by simp [P.pPrim] at h⟩
theorem cPrim{f:Nat}(hargs:CArgs f)(hexpr:CExpr f)(hlist:CList f)(hvar:CVar)(hint:CInt):CPrim (f+1):=by
 refine⟨fun{pb tb T k vars d w r} hp hd h=>?_⟩
 rw[P.pPrim] at h
 by_cases hdd:P.maxDepth<d+1
 ·rw[if_pos hdd,Option.some.injEq] at h
  subst h
  exact sPrim_deep hp hdd hd
 rw[if_neg hdd] at h
 have hd':d+1≤8:=by unfold P.maxDepth at hdd;omega
 by_cases h3:(P.tk T k).kind=3
 ·rw[if_pos h3,Option.some.injEq] at h
  subst h
  exact sPrim_num hint hp hd' h3
 rw[if_neg h3] at h
 by_cases h2:(P.tk T k).kind=2
 ·rw[if_pos h2,Option.some.injEq] at h
  subst h
  exact sPrim_var hvar hp hd' h2
 rw[if_neg h2] at h
 by_cases h1:(P.tk T k).kind=1
 ·rw[if_pos h1] at h
  by_cases ho:P.isT T (k+1) [40]=true
  ·rw[if_pos ho] at h
   cases hr:P.pArgs T f (k+2) vars (d+1) (P.tk T k).pos [] with
   | none=>rw[hr] at h;simp [P.Res.bind] at h
   | some q=>rw[hr] at h;exact sPrim_comp hargs hp hd' h1 ho hr h
  ·rw[if_neg ho,Option.some.injEq] at h
   subst h
   exact sPrim_atom hp hd' h1 (by simpa using ho)
 rw[if_neg h1] at h
 have hk:(P.tk T k).kind=0\/(P.tk T k).kind=4:=by have:=hp.tw.kind _ (tk_mem hp.kt);omega
 by_cases hm:P.isT T k [45]=true
 ·rw[if_pos hm] at h
  by_cases hn:(P.tk T (k+1)).kind=3
  ·rw[if_pos hn,Option.some.injEq] at h
   subst h
   exact sPrim_minus hint hp hd' hk hm hn
  ·rw[if_neg hn,Option.some.injEq] at h
   subst h
   exact sPrim_minus_no hp hd' hk hm hn
 rw[if_neg hm] at h
 have hm':P.isT T k [45]=false:=by simpa using hm
 by_cases hn:P.isT T k [40]=true
 ·rw[if_pos hn] at h
  cases hr:P.pOper T f 0 (k+1) vars (d+1) with
  | none=>rw[hr] at h;simp [P.Res.bind] at h
  | some q=>rw[hr] at h;exact sPrim_paren hexpr hp hd' hk hm' hn hr h
 rw[if_neg hn] at h
 have hn':P.isT T k [40]=false:=by simpa using hn
 by_cases hl:P.isT T k [91]=true
 ·rw[if_pos hl] at h
  exact sPrim_list hlist hp hd' hk hm' hn' hl h
 rw[if_neg hl,Option.some.injEq] at h
 subst h
 exact sPrim_none hp hd' hk hm' hn' (by simpa using hl)
end Go.Proofs.YtilpjhceemaplaaGreatDoor
namespace Go.Proofs.YtilpjhceemaplaaGreatDoor
open Go.RowKit
theorem idx_none{l:List P.Bs}{s:P.Bs}(h:∀ j,j<l.length->l.getD j []≠s):l.idxOf? s=none:=by
 rw[List.idxOf?_eq_none_iff]
 intro hm
 obtain⟨j,hj,e⟩:=List.getElem_of_mem hm
 exact h j hj (by rw[List.getD_eq_getElem?_getD,List.getElem?_eq_getElem hj];exact e)
theorem idx_some{l:List P.Bs}{s:P.Bs}{k:Nat}(hk:k<l.length)(he:l.getD k []=s)(h:∀ j,j<k->l.getD j []≠s):l.idxOf? s=some k:=by
 rw[List.getD_eq_getElem?_getD,List.getElem?_eq_getElem hk,Option.getD_some] at he
 rw[List.idxOf?,List.findIdx?_eq_some_iff_getElem]
 refine⟨hk,by simpa using he,fun j hj=>?_⟩
 have:=h j hj
 rw[List.getD_eq_getElem?_getD,List.getElem?_eq_getElem (by omega),Option.getD_some] at this
 simpa using this
def goIdx(o:Option Nat):Int:=match o with | some k=>k | none=>-1
theorem goIdx_none{l:List P.Bs}{s:P.Bs}(h:∀ j,j<l.length->l.getD j []≠s):goIdx (l.idxOf? s)=-1:=by rw[idx_none h];rfl
theorem goIdx_some{l:List P.Bs}{s:P.Bs}{k:Nat}(hk:k<l.length)(he:l.getD k []=s)(h:∀ j,j<k->l.getD j []≠s):goIdx (l.idxOf? s)=k:=by rw[idx_some hk he h];rfl
theorem index_nil(s:P.Bs)(w:World) :
  Calls Tryz.prog 196 #[.slice none 0 0,.string (bs s)] w fun e w'=>e = .returned (zi (-1))/\w=w':=by
 go_enter Tryz.func196,Tryz.ntmps196
 go_wp2
 go_loop [8] (fun i=>i=zi 0) (fun _=>0)
 case atStart=>rfl
 case round=>
  obtain rfl:=hrel
  go_wp2
  go_ret
  exact⟨rfl,rfl⟩
theorem index_row(l:List P.Bs)(s:P.Bs)(g c:Nat)(w:World)(hl:l.length≤100)(hc:∀ j,j<l.length->w.cell? ⟨g,j,none⟩=some (.string (bs (l.getD j [])))) :
  Calls Tryz.prog 196 #[.slice (some ⟨g,0,none⟩) l.length c,.string (bs s)] w fun e w'=>e = .returned (zi (goIdx (l.idxOf? s)))/\w=w':=by
 have HC:=Lib.hid hc
 clear hc
 obtain⟨n,hn⟩:∃ n,n=l.length:=⟨_,rfl⟩
 rw[<- hn] at hl ⊢
 have HN:=Lib.hid hn
 clear hn
 obtain⟨q,hq⟩:∃ q,q=goIdx (l.idxOf? s):=⟨_,rfl⟩
 rw[<- hq]
 have HQ:=Lib.hid hq
 clear hq
 go_enter Tryz.func196,Tryz.ntmps196
 go_wp2
 go_loop [5,8] (fun _ i=>∃ k:Nat,k≤n/\i=zi k/\∀ j,j<k->l.getD j []≠s) (fun _ i=>n-(intOf i).toNat)
 case atStart=>exact⟨0,Nat.zero_le _,rfl,fun j hj=>absurd hj (Nat.not_lt_zero _)⟩
 case round=>
  obtain⟨k,hk,rfl,hno⟩:=hrel
  have HNO:=Lib.hid hno
  clear hno
  by_cases hlt:k<n
  ·have hcell:=HC.out k (by rw[<- HN.out];exact hlt)
   obtain⟨x,hx⟩:∃ x,x=l.getD k []:=⟨_,rfl⟩
   rw[<- hx] at hcell
   have HX:=Lib.hid hx
   clear hx
   by_cases he:s=x
   ·subst he
    go_wp2
    go_ret
    exact⟨by rw[HQ.out,goIdx_some (by rw[<- HN.out];exact hlt) HX.out.symm HNO.out];rfl,rfl⟩
   ·have hbf:(s == x)=false:=by simpa using he
    go_wp2
    refine⟨⟨k+1,by omega,by go_num,fun j hj=>?_⟩,by simp [intOf];omega⟩
    rcases Nat.lt_or_ge j k with h | h
    ·exact HNO.out j h
    ·obtain rfl:j=k:=by omega
     rw[<- HX.out];exact fun h=>he h.symm
  ·go_wp2
   go_ret
   refine⟨?_,rfl⟩
   have e:=HN.out
   rw[HQ.out,goIdx_none (fun j hj=>HNO.out j (by omega))]
   rfl
theorem index_at(l:List P.Bs)(s:P.Bs)(vv:Value)(w:World)(hl:l.length≤100)(q:Int)(hq:goIdx (l.idxOf? s)=q)
  (hr:(l=[]/\vv = .slice none 0 0)\/∃ g c,vv = .slice (some ⟨g,0,none⟩) l.length c/\∀ j,j<l.length->w.cell? ⟨g,j,none⟩=some (.string (bs (l.getD j [])))) :
  Calls Tryz.prog 196 #[vv,.string (bs s)] w fun e w'=>e = .returned (zi q)/\w'=w:=by
 rcases hr with⟨rfl,rfl⟩| ⟨g,c,rfl,h⟩
 ·have:q=-1:=by rw[<- hq];rfl
  subst this
  exact(index_nil s w).mono fun e w' h=>⟨h.1,h.2.symm⟩
 ·subst hq
  exact(index_row l s g c w hl h).mono fun e w' h=>⟨h.1,h.2.symm⟩
theorem SP.row{w:World}{pb tb:Nat}{T:List P.Tok}{k:Nat}{vars:List P.Bs}{d:Nat}(h:SP w pb tb T k vars d) :
  ∃ a n c,w.cell? ⟨pb,1,none⟩=some (.slice a n c)/\n=vars.length/\w.ownsRow (pb+1) 9 1 (.slice a n c) vars.length (vars.map fun s=>.string (bs s)) /\
   ((vars=[]/\(Value.slice a n c) = .slice none 0 0)\/∃ g cp,(Value.slice a n c) = .slice (some ⟨g,0,none⟩) vars.length cp/\∀ j,j<vars.length->w.cell? ⟨g,j,none⟩=some (.string (bs (vars.getD j [])))):=by
 obtain⟨cap,vv,-,-,hpb,hrow⟩:=h.blk
 have hrow':=hrow
 rcases hrow with⟨g1,⟨rfl,g2⟩| ⟨g,cp,cur,rfl,e2,e3,e4,e5,e6,e7⟩⟩
 ·refine⟨_,_,_,cellOf hpb rfl,g2.symm,hrow',.inl ⟨List.length_eq_zero_iff.1 g2,rfl⟩⟩
 ·refine⟨_,_,_,cellOf hpb rfl,rfl,hrow',.inr ⟨g,cp,rfl,fun i hi=>cellOf e3 ?_⟩⟩
  have h1:cur[i]?=(cur.toList.take (vars.length*1))[i]?:=by
   rw[List.getElem?_take,if_pos (by omega)];simp
  rw[h1,e7]
  simp [List.getD_eq_getElem?_getD,List.getElem?_eq_getElem hi]
theorem rowExt{w w':World}{l:List P.Bs}{v:Value}(h:(l=[]/\v = .slice none 0 0)\/∃ g cp,v = .slice (some ⟨g,0,none⟩) l.length cp/\∀ j,j<l.length->w.cell? ⟨g,j,none⟩=some (.string (bs (l.getD j []))))
  (hw:∀ (b:Nat) (o:Obj),w.heap[b]?=some o->w'.heap[b]?=some o) :
  (l=[]/\v = .slice none 0 0)\/∃ g cp,v = .slice (some ⟨g,0,none⟩) l.length cp/\∀ j,j<l.length->w'.cell? ⟨g,j,none⟩=some (.string (bs (l.getD j []))):=by
 rcases h with h | ⟨g,cp,h1,h2⟩
 ·exact .inl h
 ·exact .inr ⟨g,cp,h1,fun j hj=>cellExt (h2 j hj) hw⟩
theorem sVar_old{pb tb:Nat}{T:List P.Tok}{k:Nat}{vars:List P.Bs}{d:Nat}{w:World}(t:P.Tok)(hp:SP w pb tb T k vars d)(ht:t.text≠[95]){j:Nat}(hj:vars.idxOf? t.text=some j)(hj2:j<100) :
  Calls Tryz.prog 172 #[pp pb,.agg #[zi t.kind,.string (bs t.text),zi t.pos]] w
   (SPost IsEx pb tb T d w (.ok (.mk 118 [] 0 j []) k vars)):=by
 have H:=Lib.hid hp
 obtain⟨a,n,c,hv,hn,-,hrow⟩:=hp.row
 have hlt:=hp.d2.2.2
 have hnv:=hp.nv
 obtain⟨s,hs⟩:∃ s,s=t.text:=⟨_,rfl⟩
 have hgi:goIdx (vars.idxOf? s)=(j:Int):=by rw[hs,hj];rfl
 rw[<- hs] at ht ⊢
 have HS:=Lib.hid hs
 have HR:=Lib.hid hrow
 have HG:=Lib.hid hgi
 have hsx:(s == [95])=false:=by simpa using ht
 clear hp hj hs hrow hgi ht hn
 go_enter Tryz.func172,Tryz.ntmps172
 go_wp2_with fail
 go_quiet ((go_at_call 196;exact Calls.quiet_of_same (index_at vars s _ _ (by omega) _ HG.out (by exact rowExt HR.out (fun b o h=>blk_alloc_old h)))))
 go_wp2_with fail
 go_ret
 exact⟨_,rfl,isEx_leaf ⟨by omega,by rw[size_alloc,size_drewN,size_alloc];omega⟩ (blk_new1 (by rw[size_drewN,size_alloc])),H.out.ext fun b o h=>blk_alloc_old (blk_alloc_old h),
  (((FrM.refl _ _).alloc _).drewN _).alloc _⟩
theorem SFr.ofGrown{pb n:Nat}{a b:World}{v:Value}{xs:List Value}(hown:a.ownsRow (pb+1) 9 1 v n xs)(h:a.grownBy b v.ownBlock):SFr pb a b:=by
 refine(FrM.grownBy h).mono fun i o hi hm=>?_
 rcases hown.2 with⟨rfl,_⟩| ⟨g,cap,cur,rfl,hb,hg,_⟩
 ·cases hm
 ·simp only[Value.ownBlock,Option.some.injEq] at hm
  subst hm
  rw[hg] at hi
  injection hi with hi
  exact .inr ⟨by omega,_,_,hi.symm⟩
theorem SP.appended{w w1 w2:World}{pb tb:Nat}{T:List P.Tok}{k:Nat}{vars:List P.Bs}{d:Nat}{s:P.Bs}{v v':Value}(h:SP w pb tb T k vars d)(hl:vars.length<12)
  (hv:w.cell? ⟨pb,1,none⟩=some v) (hw:∀ (b:Nat) (o:Obj),w.heap[b]?=some o->w1.heap[b]?=some o) (hown:w1.ownsRow (pb+1) 9 1 v vars.length (vars.map fun s=>.string (bs s)))
  (hown':w2.ownsRow (pb+1) 9 1 v' (vars.length+1) ((vars.map fun s=>.string (bs s))++[.string (bs s)])) (hg:w1.grownBy w2 v.ownBlock) :
  SP (w2.setCell ⟨pb,1,none⟩ v') pb tb T k (vars++[s]) d/\SFr pb w1 (w2.setCell ⟨pb,1,none⟩ v'):=by
 have hf:SFr pb w1 (w2.setCell ⟨pb,1,none⟩ v'):=SFr.setp (SFr.ofGrown hown hg) _
 refine⟨?_,hf⟩
 have h1:=h.ext hw
 obtain⟨tw,lt,kt,nv,toks,cap,vv,h1,h2,h3,-⟩:=h1
 have h4:w2.heap[pb]?=some (.cells #[.slice (some ⟨tb,k*3,none⟩) (T.length-k) (cap-k),vv,zi d] 160):=by
  rw[hg.block pb (ltOf h3) (by
   intro e
   have:=hown.lt pb e.symm
   omega)]
  exact h3
 refine⟨tw,lt,kt,by simp;omega,hf.toks lt toks,cap,v',h1,h2,by rw[blk_setCell_same h4];rfl,?_⟩
 have:=ownsRow_setCell_below hown' (a:=⟨pb,1,none⟩) (by show pb<pb+1;omega) v'
 simpa using this
theorem grown_cell{w w2:World}{o:Obj}{pb tb:Nat}{T:List P.Tok}{k:Nat}{vars:List P.Bs}{d n:Nat}{v:Value}{xs:List Value}(hg:(w.alloc o).drew.grownBy w2 v.ownBlock)
  (hown:(w.alloc o).drew.ownsRow (pb+1) 9 1 v n xs) (h:SP w pb tb T k vars d):(∃ u,w2.cell? ⟨pb,1,none⟩=some u)/\w2.frozen? ⟨pb,1,none⟩=false/\pb<w2.heap.size:=by
 obtain⟨cap,vv,-,-,h3,-⟩:=h.blk
 have h3':(w.alloc o).drew.heap[pb]?=_:=blk_alloc_old h3
 have h4:=hg.block pb (ltOf h3') (by
   intro e
   have:=hown.lt pb e.symm
   omega)
 rw[h3'] at h4
 exact⟨⟨_,cellOf h4 rfl⟩,freeOf h4 1,ltOf h4⟩
theorem sInfoStr:(Tryz.prog.info? 9).map (fun i=>(i.zero,i.size,i.bytes))=some (some (.string ⟨#[]⟩),1,16):=by kernel_rfl
theorem sVar_new{pb tb:Nat}{T:List P.Tok}{k:Nat}{vars:List P.Bs}{d:Nat}{w:World}(t:P.Tok)(hp:SP w pb tb T k vars d)(ht:vars.idxOf? t.text=none)(hl:vars.length<12) :
  Calls Tryz.prog 172 #[pp pb,.agg #[zi t.kind,.string (bs t.text),zi t.pos]] w
   (SPost IsEx pb tb T d w (.ok (.mk 118 [] 0 vars.length []) k (vars++[t.text]))):=by
 have H:=Lib.hid hp
 obtain⟨a,n,c,hv,hn,hown,hrow⟩:=hp.row
 have hlt:=hp.d2.2.2
 have hfz:w.frozen? ⟨pb,1,none⟩=false:=by
  obtain⟨_,_,_,_,q,_⟩:=hp.blk
  exact freeOf q 1
 have hnv:=hp.nv
 obtain⟨s,hs⟩:∃ s,s=t.text:=⟨_,rfl⟩
 have hgi:goIdx (vars.idxOf? s)=-1:=by rw[hs,ht];rfl
 rw[<- hs]
 have HS:=Lib.hid hs
 have HR:=Lib.hid hrow
 have HG:=Lib.hid hgi
 have HO:=Lib.hid hown
 have hn12:n<12:=by omega
 have hn12':((n:Int) == 12)=false:=by simp;omega
 have HN:=Lib.hid hn
 obtain⟨i0,hi,hz0,hz1,hz2⟩:=info_parts sInfoStr
 clear hp hs hrow hgi ht hown hn
 go_enter Tryz.func172,Tryz.ntmps172
 go_wp2_with fail
 go_quiet ((go_at_call 196;exact Calls.quiet_of_same (index_at vars s _ _ (by omega) _ HG.out (by exact rowExt HR.out (fun b o h=>blk_alloc_old h)))))
 go_wp2_with fail
 have xb:(w.alloc (Obj.cells #[Value.int IntKind.i64 t.kind,Value.string (bs s),Value.int IntKind.i64 t.pos] 157)).heap[w.heap.size]?=_:=blk_alloc_new _ _
 have hextW:∀ (b:Nat) (o:Obj),w.heap[b]?=some o->((w.alloc (Obj.cells #[Value.int IntKind.i64 t.kind,Value.string (bs s),Value.int IntKind.i64 t.pos] 157)).drewN nq).heap[b]?=some o:=fun b o h=>blk_alloc_old h
 have hszW:((w.alloc (Obj.cells #[Value.int IntKind.i64 t.kind,Value.string (bs s),Value.int IntKind.i64 t.pos] 157)).drewN nq).heap.size=w.heap.size+1:=by rw[size_drewN,size_alloc]
 have hfrW:SFr pb w ((w.alloc (Obj.cells #[Value.int IntKind.i64 t.kind,Value.string (bs s),Value.int IntKind.i64 t.pos] 157)).drewN nq):=((FrM.refl _ _).alloc _).drewN _
 have xbW:((w.alloc (Obj.cells #[Value.int IntKind.i64 t.kind,Value.string (bs s),Value.int IntKind.i64 t.pos] 157)).drewN nq).heap[w.heap.size]?=_:=xb
 generalize (w.alloc (Obj.cells #[Value.int IntKind.i64 t.kind,Value.string (bs s),Value.int IntKind.i64 t.pos] 157)).drewN nq=W at *
 have c1:W.cell? ⟨w.heap.size,1,none⟩=some (.string (bs s)):=cellOf xbW rfl
 have hvW:=cellExt hv hextW
 have hpW:=H.out.ext hextW
 have hltW:=hpW.d2.2.2
 have hfzW:W.frozen? ⟨pb,1,none⟩=false:=by
  obtain⟨_,_,_,_,q,_⟩:=hpW.blk
  exact freeOf q 1
 have hownW:W.ownsRow (pb+1) 9 1 (.slice a n c) vars.length (vars.map fun s=>.string (bs s)):=by
  obtain⟨g1,g2 | ⟨g,cp,cur,e1,e2,e3,e4⟩⟩:=HO.out
  ·exact⟨g1,.inl g2⟩
  ·exact⟨g1,.inr ⟨g,cp,cur,e1,e2,hextW _ _ e3,e4⟩⟩
 have HOW:=Lib.hid hownW
 have HPW:=Lib.hid hpW
 have HFW:=Lib.hid hfrW
 clear hownW hpW hfrW xb xbW hv hfz hextW
 go_region_law (refine step_append_own rfl _ _ _ rfl (pb+1) 9 i0 _ 1 16 Tryz.underlying41 hi hz0 hz1 hz2 rfl (by decide) _ _ _ rfl (own_allocD HOW.out _) ⟨w.heap.size+1,0,none⟩ 1 1 [.string (bs s)] rfl rfl (one_newD hszW.symm) (by simp [Value.oneCell']) (by unfold maxLen;omega) (by omega) (by simp;omega) ?_;intro v' w1 hown1 hgrow1 hnn1;obtain⟨g',cap',rfl⟩:=own_succ hown1;have HA:=Lib.hid (SP.appended (w1:=(W.alloc (Obj.cells #[Value.string (bs s)] 9)).drew) HPW.out (by have:=HN.out;omega) hvW (fun b o h=>blk_alloc_old (o:=Obj.cells #[Value.string (bs s)] 9) h) (own_allocD HOW.out _) hown1 hgrow1);obtain⟨⟨u1',c1'⟩,f1',l1'⟩:=grown_cell hgrow1 (own_allocD HOW.out (Obj.cells #[Value.string (bs s)] 9)) HPW.out;clear hown1 hgrow1 hnn1)
 all_goals
  go_wp2_with fail
  go_ret
  have hn:=HN.out
  subst hn
  have hs2:=HA.out.2.size
  rw[size_drew,size_alloc,size_setCell] at hs2
  exact⟨_,rfl,isEx_leaf ⟨by omega,by rw[size_alloc,size_setCell];omega⟩ (blk_new1 (by rw[size_setCell])),HA.out.1.ext fun b o h=>blk_alloc_old h,
   ((HFW.out.trans (((FrM.refl _ _).alloc _).drew)).trans HA.out.2).alloc _⟩
theorem sVar_und{pb tb:Nat}{T:List P.Tok}{k:Nat}{vars:List P.Bs}{d:Nat}{w:World}(t:P.Tok)(hp:SP w pb tb T k vars d)(ht:t.text=[95]){j:Nat}(hj:vars.idxOf? t.text=some j)(hj2:j<100)(hl:vars.length<12) :
  Calls Tryz.prog 172 #[pp pb,.agg #[zi t.kind,.string (bs t.text),zi t.pos]] w
   (SPost IsEx pb tb T d w (.ok (.mk 118 [] 0 vars.length []) k (vars++[t.text]))):=by
 have H:=Lib.hid hp
 obtain⟨a,n,c,hv,hn,hown,hrow⟩:=hp.row
 have hlt:=hp.d2.2.2
 have hfz:w.frozen? ⟨pb,1,none⟩=false:=by
  obtain⟨_,_,_,_,q,_⟩:=hp.blk
  exact freeOf q 1
 have hnv:=hp.nv
 obtain⟨s,hs⟩:∃ s,s=t.text:=⟨_,rfl⟩
 have hgi:goIdx (vars.idxOf? s)=(j:Int):=by rw[hs,hj];rfl
 rw[<- hs]
 have HS:=Lib.hid hs
 have HR:=Lib.hid hrow
 have HG:=Lib.hid hgi
 have HO:=Lib.hid hown
 have hn12:n<12:=by omega
 have hn12':((n:Int) == 12)=false:=by simp;omega
 have HN:=Lib.hid hn
 obtain⟨i0,hi,hz0,hz1,hz2⟩:=info_parts sInfoStr
 have hse:(s == [95])=true:=by rw[hs,ht];rfl
 clear hp hs hrow hgi ht hown hn hj
 go_enter Tryz.func172,Tryz.ntmps172
 go_wp2_with fail
 go_quiet ((go_at_call 196;exact Calls.quiet_of_same (index_at vars s _ _ (by omega) _ HG.out (by exact rowExt HR.out (fun b o h=>blk_alloc_old h)))))
 go_wp2_with fail
 have xb:(w.alloc (Obj.cells #[Value.int IntKind.i64 t.kind,Value.string (bs s),Value.int IntKind.i64 t.pos] 157)).heap[w.heap.size]?=_:=blk_alloc_new _ _
 have hextW:∀ (b:Nat) (o:Obj),w.heap[b]?=some o->((w.alloc (Obj.cells #[Value.int IntKind.i64 t.kind,Value.string (bs s),Value.int IntKind.i64 t.pos] 157)).drewN nq).heap[b]?=some o:=fun b o h=>blk_alloc_old h
 have hszW:((w.alloc (Obj.cells #[Value.int IntKind.i64 t.kind,Value.string (bs s),Value.int IntKind.i64 t.pos] 157)).drewN nq).heap.size=w.heap.size+1:=by rw[size_drewN,size_alloc]
 have hfrW:SFr pb w ((w.alloc (Obj.cells #[Value.int IntKind.i64 t.kind,Value.string (bs s),Value.int IntKind.i64 t.pos] 157)).drewN nq):=((FrM.refl _ _).alloc _).drewN _
 have xbW:((w.alloc (Obj.cells #[Value.int IntKind.i64 t.kind,Value.string (bs s),Value.int IntKind.i64 t.pos] 157)).drewN nq).heap[w.heap.size]?=_:=xb
 generalize (w.alloc (Obj.cells #[Value.int IntKind.i64 t.kind,Value.string (bs s),Value.int IntKind.i64 t.pos] 157)).drewN nq=W at *
 have c1:W.cell? ⟨w.heap.size,1,none⟩=some (.string (bs s)):=cellOf xbW rfl
 have hvW:=cellExt hv hextW
 have hpW:=H.out.ext hextW
 have hltW:=hpW.d2.2.2
 have hfzW:W.frozen? ⟨pb,1,none⟩=false:=by
  obtain⟨_,_,_,_,q,_⟩:=hpW.blk
  exact freeOf q 1
 have hownW:W.ownsRow (pb+1) 9 1 (.slice a n c) vars.length (vars.map fun s=>.string (bs s)):=by
  obtain⟨g1,g2 | ⟨g,cp,cur,e1,e2,e3,e4⟩⟩:=HO.out
  ·exact⟨g1,.inl g2⟩
  ·exact⟨g1,.inr ⟨g,cp,cur,e1,e2,hextW _ _ e3,e4⟩⟩
 have HOW:=Lib.hid hownW
 have HPW:=Lib.hid hpW
 have HFW:=Lib.hid hfrW
 clear hownW hpW hfrW xb xbW hv hfz hextW
 go_region_law (refine step_append_own rfl _ _ _ rfl (pb+1) 9 i0 _ 1 16 Tryz.underlying41 hi hz0 hz1 hz2 rfl (by decide) _ _ _ rfl (own_allocD HOW.out _) ⟨w.heap.size+1,0,none⟩ 1 1 [.string (bs s)] rfl rfl (one_newD hszW.symm) (by simp [Value.oneCell']) (by unfold maxLen;omega) (by omega) (by simp;omega) ?_;intro v' w1 hown1 hgrow1 hnn1;obtain⟨g',cap',rfl⟩:=own_succ hown1;have HA:=Lib.hid (SP.appended (w1:=(W.alloc (Obj.cells #[Value.string (bs s)] 9)).drew) HPW.out (by have:=HN.out;omega) hvW (fun b o h=>blk_alloc_old (o:=Obj.cells #[Value.string (bs s)] 9) h) (own_allocD HOW.out _) hown1 hgrow1);obtain⟨⟨u1',c1'⟩,f1',l1'⟩:=grown_cell hgrow1 (own_allocD HOW.out (Obj.cells #[Value.string (bs s)] 9)) HPW.out;clear hown1 hgrow1 hnn1)
 all_goals
  go_wp2_with fail
  go_ret
  have hn:=HN.out
  subst hn
  have hs2:=HA.out.2.size
  rw[size_drew,size_alloc,size_setCell] at hs2
  exact⟨_,rfl,isEx_leaf ⟨by omega,by rw[size_alloc,size_setCell];omega⟩ (blk_new1 (by rw[size_setCell])),HA.out.1.ext fun b o h=>blk_alloc_old h,
   ((HFW.out.trans (((FrM.refl _ _).alloc _).drew)).trans HA.out.2).alloc _⟩
theorem sVar_full{pb tb:Nat}{T:List P.Tok}{k:Nat}{vars:List P.Bs}{d:Nat}{w:World}(t:P.Tok)(hp:SP w pb tb T k vars d)(ht:vars.idxOf? t.text=none)(hl:vars.length=12) :
  Calls Tryz.prog 172 #[pp pb,.agg #[zi t.kind,.string (bs t.text),zi t.pos]] w
   (SPost IsEx pb tb T d w (.err 4 t.pos)):=by
 have H:=Lib.hid hp
 obtain⟨a,n,c,hv,hn,hown,hrow⟩:=hp.row
 have hlt:=hp.d2.2.2
 have hfz:w.frozen? ⟨pb,1,none⟩=false:=by
  obtain⟨_,_,_,_,q,_⟩:=hp.blk
  exact freeOf q 1
 have hnv:=hp.nv
 obtain⟨s,hs⟩:∃ s,s=t.text:=⟨_,rfl⟩
 have hgi:goIdx (vars.idxOf? s)=-1:=by rw[hs,ht];rfl
 rw[<- hs]
 have HS:=Lib.hid hs
 have HR:=Lib.hid hrow
 have HG:=Lib.hid hgi
 have HO:=Lib.hid hown
 have hn12':((n:Int) == 12)=true:=by simp;omega
 have HN:=Lib.hid hn
 obtain⟨i0,hi,hz0,hz1,hz2⟩:=info_parts sInfoStr
 clear hp hs hrow hgi ht hown hn HN
 go_enter Tryz.func172,Tryz.ntmps172
 go_wp2_with fail
 go_quiet ((go_at_call 196;exact Calls.quiet_of_same (index_at vars s _ _ (by omega) _ HG.out (by exact rowExt HR.out (fun b o h=>blk_alloc_old h)))))
 go_wp2_with fail
 refine(sFail _ _ _ pb (H.out.ext (w':=(w.alloc (Obj.cells #[Value.int IntKind.i64 t.kind,Value.string (bs s),Value.int IntKind.i64 t.pos] 157)).drewN nq) fun b o h=>blk_alloc_old h).sb).mono ?_
 rintro e w3 ⟨⟨b,rfl,hb3,hl3⟩,hf3,hs3⟩
 rw[size_drewN,size_alloc] at hl3
 exact⟨rfl,⟨b,rfl,hb3,by omega⟩,(((FrM.refl _ _).alloc _).drewN _).trans hf3,hs3⟩
theorem sVar_fullu{pb tb:Nat}{T:List P.Tok}{k:Nat}{vars:List P.Bs}{d:Nat}{w:World}(t:P.Tok)(hp:SP w pb tb T k vars d)(ht:t.text=[95]){j:Nat}(hj:vars.idxOf? t.text=some j)(hj2:j<100)(hl:vars.length=12) :
  Calls Tryz.prog 172 #[pp pb,.agg #[zi t.kind,.string (bs t.text),zi t.pos]] w
   (SPost IsEx pb tb T d w (.err 4 t.pos)):=by
 have H:=Lib.hid hp
 obtain⟨a,n,c,hv,hn,hown,hrow⟩:=hp.row
 have hlt:=hp.d2.2.2
 have hfz:w.frozen? ⟨pb,1,none⟩=false:=by
  obtain⟨_,_,_,_,q,_⟩:=hp.blk
  exact freeOf q 1
 have hnv:=hp.nv
 obtain⟨s,hs⟩:∃ s,s=t.text:=⟨_,rfl⟩
 have hgi:goIdx (vars.idxOf? s)=(j:Int):=by rw[hs,hj];rfl
 rw[<- hs]
 have HS:=Lib.hid hs
 have HR:=Lib.hid hrow
 have HG:=Lib.hid hgi
 have HO:=Lib.hid hown
 have hn12':((n:Int) == 12)=true:=by simp;omega
 have HN:=Lib.hid hn
 obtain⟨i0,hi,hz0,hz1,hz2⟩:=info_parts sInfoStr
 have hse:(s == [95])=true:=by rw[hs,ht];rfl
 clear hp hs hrow hgi ht hown hn HN hj
 go_enter Tryz.func172,Tryz.ntmps172
 go_wp2_with fail
 go_quiet ((go_at_call 196;exact Calls.quiet_of_same (index_at vars s _ _ (by omega) _ HG.out (by exact rowExt HR.out (fun b o h=>blk_alloc_old h)))))
 go_wp2_with fail
 refine(sFail _ _ _ pb (H.out.ext (w':=(w.alloc (Obj.cells #[Value.int IntKind.i64 t.kind,Value.string (bs s),Value.int IntKind.i64 t.pos] 157)).drewN nq) fun b o h=>blk_alloc_old h).sb).mono ?_
 rintro e w3 ⟨⟨b,rfl,hb3,hl3⟩,hf3,hs3⟩
 rw[size_drewN,size_alloc] at hl3
 exact⟨rfl,⟨b,rfl,hb3,by omega⟩,(((FrM.refl _ _).alloc _).drewN _).trans hf3,hs3⟩
theorem idx_lt{l:List P.Bs}{s:P.Bs}{j:Nat}(h:l.idxOf? s=some j):j<l.length:=by
 rw[List.idxOf?,List.findIdx?_eq_some_iff_getElem] at h
 exact h.1
theorem cVar:CVar:=by
 refine⟨fun{pb tb T k vars d w} t hp _=>?_⟩
 unfold P.pVar
 have hnv:=hp.nv
 by_cases hu:t.text=[95]
 ·rw[if_pos hu]
  by_cases hl:vars.length=12
  ·dsimp only
   rw[if_pos (show vars.length=P.maxVars from hl)]
   cases hj:vars.idxOf? t.text with
   | none=>exact sVar_full t hp hj hl
   | some j=>exact sVar_fullu t hp hu hj (by have:=idx_lt hj;omega) hl
  ·dsimp only
   rw[if_neg (show ¬ vars.length=P.maxVars from hl)]
   cases hj:vars.idxOf? t.text with
   | none=>exact sVar_new t hp hj (by omega)
   | some j=>exact sVar_und t hp hu hj (by have:=idx_lt hj;omega) (by omega)
 ·rw[if_neg hu]
  cases hj:vars.idxOf? t.text with
  | some j=>exact sVar_old t hp hu hj (by have:=idx_lt hj;omega)
  | none=>
   by_cases hl:vars.length=12
   ·dsimp only
    rw[if_pos (show vars.length=P.maxVars from hl)]
    exact sVar_full t hp hj hl
   ·dsimp only
    rw[if_neg (show ¬ vars.length=P.maxVars from hl)]
    exact sVar_new t hp hj (by omega)
end Go.Proofs.YtilpjhceemaplaaGreatDoor
namespace Go.Proofs
open Go.Shelf
def Tryz.lays160_ren:Go.Shelf.Ren:=⟨fun | 160=>140 | 232=>162 | 231=>161 | 227=>163 | 234=>165 | 233=>164 | 236=>167 | 235=>166 | 228=>188 | 271=>190 | 151=>189 | 197=>185 | 120=>209 | 152=>208 | 260=>203 | 137=>218 | 119=>219 | 224=>206 | 225=>205 | 217=>204 | 266=>216 | n=>n,fun | 9=>9 | 4=>4 | 3=>3 | 5=>5 | 117=>313 | 116=>312 | 0=>0 | 124=>316 | 21=>21 | 105=>338 | 46=>356 | 119=>367 | 139=>370 | 138=>369 | n=>n,fun | 3=>8 | 4=>9 | n=>n⟩
theorem Tryz.lays160:Go.Proofs.Lays.n160 Tryz.prog Tryz.lays160_ren:={
 mixed:=by kernel_rfl
 f119:=Tryz.func219.trans (congrArg some (by kernel_rfl))
 f120:=Tryz.func209.trans (congrArg some (by kernel_rfl))
 f137:=Tryz.func218.trans (congrArg some (by kernel_rfl))
 f151:=Tryz.func189.trans (congrArg some (by kernel_rfl))
 f152:=Tryz.func208.trans (congrArg some (by kernel_rfl))
 f160:=Tryz.func140.trans (congrArg some (by kernel_rfl))
 f197:=Tryz.func185.trans (congrArg some (by kernel_rfl))
 f217:=Tryz.func204.trans (congrArg some (by kernel_rfl))
 f224:=Tryz.func206.trans (congrArg some (by kernel_rfl))
 f225:=Tryz.func205.trans (congrArg some (by kernel_rfl))
 f227:=Tryz.func163.trans (congrArg some (by kernel_rfl))
 f228:=Tryz.func188.trans (congrArg some (by kernel_rfl))
 f231:=Tryz.func161.trans (congrArg some (by kernel_rfl))
 f232:=Tryz.func162.trans (congrArg some (by kernel_rfl))
 f233:=Tryz.func164.trans (congrArg some (by kernel_rfl))
 f234:=Tryz.func165.trans (congrArg some (by kernel_rfl))
 f235:=Tryz.func166.trans (congrArg some (by kernel_rfl))
 f236:=Tryz.func167.trans (congrArg some (by kernel_rfl))
 f260:=Tryz.func203.trans (congrArg some (by kernel_rfl))
 f266:=Tryz.func216.trans (congrArg some (by kernel_rfl))
 f271:=Tryz.func190.trans (congrArg some (by kernel_rfl))
 t0:=Tryz.underlying0
 a0:=Tryz.isAgg0
 z0:=Tryz.sizeOf0
 v0:=Tryz.zeroValue0
 t3:=Tryz.underlying3
 a3:=Tryz.isAgg3
 z3:=Tryz.sizeOf3
 v3:=Tryz.zeroValue3
 t4:=Tryz.underlying4
 a4:=Tryz.isAgg4
 z4:=Tryz.sizeOf4
 v4:=Tryz.zeroValue4
 t5:=Tryz.underlying5
 a5:=Tryz.isAgg5
 z5:=Tryz.sizeOf5
 v5:=Tryz.zeroValue5
 t9:=Tryz.underlying9
 a9:=Tryz.isAgg9
 z9:=Tryz.sizeOf9
 v9:=Tryz.zeroValue9
 t21:=Tryz.underlying21
 a21:=Tryz.isAgg21
 z21:=Tryz.sizeOf21
 v21:=Tryz.zeroValue21
 t46:=Tryz.underlying356
 a46:=Tryz.isAgg356
 z46:=Tryz.sizeOf356
 v46:=Tryz.zeroValue356
 t105:=Tryz.underlying338
 a105:=Tryz.isAgg338
 z105:=Tryz.sizeOf338
 v105:=Tryz.zeroValue338
 t116:=Tryz.underlying312
 a116:=Tryz.isAgg312
 z116:=Tryz.sizeOf312
 t117:=Tryz.underlying313
 a117:=Tryz.isAgg313
 z117:=Tryz.sizeOf313
 v117:=Tryz.zeroValue313
 t119:=Tryz.underlying367
 a119:=Tryz.isAgg367
 z119:=Tryz.sizeOf367
 t124:=Tryz.underlying316
 a124:=Tryz.isAgg316
 z124:=Tryz.sizeOf316
 v124:=Tryz.zeroValue316
 t138:=Tryz.underlying369
 a138:=Tryz.isAgg369
 z138:=Tryz.sizeOf369
 v138:=Tryz.zeroValue369
 t139:=Tryz.underlying370
 a139:=Tryz.isAgg370
 z139:=Tryz.sizeOf370
 v139:=Tryz.zeroValue370
 g3:=by kernel_rfl
 g4:=by kernel_rfl }
def Tryz.laysC174_ren:Go.Shelf.Ren:=⟨fun | 174=>170 | 247=>191 | 245=>169 | 287=>210 | 279=>192 | 280=>193 | 281=>194 | 282=>195 | 321=>220 | 322=>221 | 316=>211 | 171=>106 | 205=>212 | 243=>135 | 246=>152 | 283=>178 | 284=>179 | 285=>180 | 286=>181 | 129=>199 | 317=>198 | 318=>200 | 319=>201 | 320=>202 | 337=>214 | 338=>215 | n=>n,fun | 9=>9 | 3=>3 | 2=>2 | 75=>57 | 85=>318 | 4=>4 | 167=>343 | 5=>5 | 53=>326 | 175=>359 | 46=>356 | 168=>344 | 37=>89 | 0=>0 | 210=>363 | 21=>21 | 127=>290 | 145=>376 | 143=>374 | 171=>325 | 173=>329 | 212=>352 | 51=>353 | 20=>20 | 213=>354 | 232=>377 | 233=>378 | 80=>94 | n=>n,fun | 15=>6 | 16=>7 | 17=>4 | 18=>10 | 19=>11 | n=>n⟩
theorem Tryz.laysC174:Go.Proofs.LaysC.n174 Tryz.prog Tryz.laysC174_ren:={
 mixed:=by kernel_rfl
 f129:=Tryz.func199.trans (congrArg some (by kernel_rfl))
 f171:=Tryz.func106.trans (congrArg some (by kernel_rfl))
 f174:=Tryz.func170.trans (congrArg some (by kernel_rfl))
 f205:=Tryz.func212.trans (congrArg some (by kernel_rfl))
 f243:=Tryz.func135.trans (congrArg some (by kernel_rfl))
 f245:=Tryz.func169.trans (congrArg some (by kernel_rfl))
 f246:=Tryz.func152.trans (congrArg some (by kernel_rfl))
 f247:=Tryz.func191.trans (congrArg some (by kernel_rfl))
 f279:=Tryz.func192.trans (congrArg some (by kernel_rfl))
 f280:=Tryz.func193.trans (congrArg some (by kernel_rfl))
 f281:=Tryz.func194.trans (congrArg some (by kernel_rfl))
 f282:=Tryz.func195.trans (congrArg some (by kernel_rfl))
 f283:=Tryz.func178.trans (congrArg some (by kernel_rfl))
 f284:=Tryz.func179.trans (congrArg some (by kernel_rfl))
 f285:=Tryz.func180.trans (congrArg some (by kernel_rfl))
 f286:=Tryz.func181.trans (congrArg some (by kernel_rfl))
 f287:=Tryz.func210.trans (congrArg some (by kernel_rfl))
 f316:=Tryz.func211.trans (congrArg some (by kernel_rfl))
 f317:=Tryz.func198.trans (congrArg some (by kernel_rfl))
 f318:=Tryz.func200.trans (congrArg some (by kernel_rfl))
 f319:=Tryz.func201.trans (congrArg some (by kernel_rfl))
 f320:=Tryz.func202.trans (congrArg some (by kernel_rfl))
 f321:=Tryz.func220.trans (congrArg some (by kernel_rfl))
 f322:=Tryz.func221.trans (congrArg some (by kernel_rfl))
 f337:=Tryz.func214.trans (congrArg some (by kernel_rfl))
 f338:=Tryz.func215.trans (congrArg some (by kernel_rfl))
 t0:=Tryz.underlying0
 a0:=Tryz.isAgg0
 z0:=Tryz.sizeOf0
 v0:=Tryz.zeroValue0
 t2:=Tryz.underlying2
 a2:=Tryz.isAgg2
 z2:=Tryz.sizeOf2
 v2:=Tryz.zeroValue2
 t3:=Tryz.underlying3
 a3:=Tryz.isAgg3
 z3:=Tryz.sizeOf3
 v3:=Tryz.zeroValue3
 t4:=Tryz.underlying4
 a4:=Tryz.isAgg4
 z4:=Tryz.sizeOf4
 v4:=Tryz.zeroValue4
 t5:=Tryz.underlying5
 a5:=Tryz.isAgg5
 z5:=Tryz.sizeOf5
 v5:=Tryz.zeroValue5
 t9:=Tryz.underlying9
 a9:=Tryz.isAgg9
 z9:=Tryz.sizeOf9
 v9:=Tryz.zeroValue9
 t20:=Tryz.underlying20
 a20:=Tryz.isAgg20
 z20:=Tryz.sizeOf20
 v20:=Tryz.zeroValue20
 t21:=Tryz.underlying21
 a21:=Tryz.isAgg21
 z21:=Tryz.sizeOf21
 v21:=Tryz.zeroValue21
 t37:=Tryz.underlying89
 a37:=Tryz.isAgg89
 z37:=Tryz.sizeOf89
 v37:=Tryz.zeroValue89
 t46:=Tryz.underlying356
 a46:=Tryz.isAgg356
 z46:=Tryz.sizeOf356
 v46:=Tryz.zeroValue356
 t51:=Tryz.underlying353
 a51:=Tryz.isAgg353
 z51:=Tryz.sizeOf353
 v51:=Tryz.zeroValue353
 t53:=Tryz.underlying326
 a53:=Tryz.isAgg326
 z53:=Tryz.sizeOf326
 v53:=Tryz.zeroValue326
 t75:=Tryz.underlying57
 a75:=Tryz.isAgg57
 z75:=Tryz.sizeOf57
 v75:=Tryz.zeroValue57
 t85:=Tryz.underlying318
 a85:=Tryz.isAgg318
 z85:=Tryz.sizeOf318
 v85:=Tryz.zeroValue318
 t127:=Tryz.underlying290
 a127:=Tryz.isAgg290
 z127:=Tryz.sizeOf290
 v127:=Tryz.zeroValue290
 t143:=Tryz.underlying374
 a143:=Tryz.isAgg374
 z143:=Tryz.sizeOf374
 v143:=Tryz.zeroValue374
 t145:=Tryz.underlying376
 a145:=Tryz.isAgg376
 z145:=Tryz.sizeOf376
 v145:=Tryz.zeroValue376
 t167:=Tryz.underlying343
 a167:=Tryz.isAgg343
 z167:=Tryz.sizeOf343
 v167:=Tryz.zeroValue343
 t168:=Tryz.underlying344
 a168:=Tryz.isAgg344
 z168:=Tryz.sizeOf344
 v168:=Tryz.zeroValue344
 t171:=Tryz.underlying325
 a171:=Tryz.isAgg325
 z171:=Tryz.sizeOf325
 v171:=Tryz.zeroValue325
 t173:=Tryz.underlying329
 a173:=Tryz.isAgg329
 z173:=Tryz.sizeOf329
 v173:=Tryz.zeroValue329
 t175:=Tryz.underlying359
 a175:=Tryz.isAgg359
 z175:=Tryz.sizeOf359
 v175:=Tryz.zeroValue359
 t210:=Tryz.underlying363
 a210:=Tryz.isAgg363
 z210:=Tryz.sizeOf363
 v210:=Tryz.zeroValue363
 t212:=Tryz.underlying352
 a212:=Tryz.isAgg352
 z212:=Tryz.sizeOf352
 v212:=Tryz.zeroValue352
 t213:=Tryz.underlying354
 a213:=Tryz.isAgg354
 z213:=Tryz.sizeOf354
 t232:=Tryz.underlying377
 a232:=Tryz.isAgg377
 z232:=Tryz.sizeOf377
 v232:=Tryz.zeroValue377
 t233:=Tryz.underlying378
 a233:=Tryz.isAgg378
 z233:=Tryz.sizeOf378
 v233:=Tryz.zeroValue378
 g15:=by kernel_rfl
 g16:=by kernel_rfl
 g17:=by kernel_rfl
 g18:=by kernel_rfl
 g19:=by kernel_rfl
 t80:=Tryz.underlying94
 a80:=Tryz.isAgg94
 z80:=Tryz.sizeOf94
 v80:=Tryz.zeroValue94
 i0:=by kernel_rfl
 i2:=by kernel_rfl
 i3:=by kernel_rfl
 i4:=by kernel_rfl
 i5:=by kernel_rfl
 i9:=by kernel_rfl
 i20:=by kernel_rfl
 i21:=by kernel_rfl
 i37:=by kernel_rfl
 i46:=by kernel_rfl
 i51:=by kernel_rfl
 i53:=by kernel_rfl
 i75:=by kernel_rfl
 i80:=by kernel_rfl
 i85:=by kernel_rfl
 i127:=by kernel_rfl
 i143:=by kernel_rfl
 i145:=by kernel_rfl
 i167:=by kernel_rfl
 i168:=by kernel_rfl
 i171:=by kernel_rfl
 i173:=by kernel_rfl
 i175:=by kernel_rfl
 i210:=by kernel_rfl
 i212:=by kernel_rfl
 i232:=by kernel_rfl
 i233:=by kernel_rfl
 m15:=by kernel_rfl
 m16:=by kernel_rfl
 m17:=by kernel_rfl
 m18:=by kernel_rfl
 m19:=by kernel_rfl
 c0:=by kernel_rfl
 c2:=by kernel_rfl
 c3:=by kernel_rfl
 c4:=by kernel_rfl
 c5:=by kernel_rfl
 c9:=by kernel_rfl
 c20:=by kernel_rfl
 c21:=by kernel_rfl
 c37:=by kernel_rfl
 c46:=by kernel_rfl
 c51:=by kernel_rfl
 c53:=by kernel_rfl
 c75:=by kernel_rfl
 c80:=by kernel_rfl
 c85:=by kernel_rfl
 c127:=by kernel_rfl
 c143:=by kernel_rfl
 c145:=by kernel_rfl
 c167:=by kernel_rfl
 c168:=by kernel_rfl
 c171:=by kernel_rfl
 c173:=by kernel_rfl
 c175:=by kernel_rfl
 c210:=by kernel_rfl
 c212:=by kernel_rfl
 c213:=by kernel_rfl
 c232:=by kernel_rfl
 c233:=by kernel_rfl }
open Go.RowKit in
theorem Tryz.strconv_ParseInt_10_at64_ok (s:ByteArray) (hmax:s.size≤9223372036854775806) (v:Int) (h:Lib.parseIntB 64 s.data.toList = .ok v) (w:World) :
 Calls Tryz.prog 170 #[.string s,.int .i64 10,.int .i64 64] w fun e w'=>e = .returned (.tuple #[.int .i64 v,.nilIface])/\(w'=w\/∃ t,w'=Lib.bytesWorld w 5 t):=Any.strconv_ParseInt_10_at64_ok Tryz.laysC174 s hmax v h w
def Tryz.lays99_ren:Go.Shelf.Ren:=⟨fun | 99=>124 | 206=>147 | n=>n,fun | 9=>9 | 4=>4 | 3=>3 | n=>n,fun | n=>n⟩
theorem Tryz.lays99:Go.Proofs.Lays.n99 Tryz.prog Tryz.lays99_ren:={
 mixed:=by kernel_rfl
 f99:=Tryz.func124.trans (congrArg some (by kernel_rfl))
 f206:=Tryz.func147.trans (congrArg some (by kernel_rfl))
 t3:=Tryz.underlying3
 a3:=Tryz.isAgg3
 z3:=Tryz.sizeOf3
 v3:=Tryz.zeroValue3
 t4:=Tryz.underlying4
 a4:=Tryz.isAgg4
 z4:=Tryz.sizeOf4
 v4:=Tryz.zeroValue4
 t9:=Tryz.underlying9
 a9:=Tryz.isAgg9
 z9:=Tryz.sizeOf9
 v9:=Tryz.zeroValue9 }
open Go.RowKit Go.Lib in
theorem Tryz.strings_HasPrefix (s p:ByteArray) (w:World) :
 Calls Tryz.prog 124 #[.string s,.string p] w fun e w'=>e = .returned (.bool (Lib.hasPrefix s.data.toList p.data.toList))/\w'=w:=Any.strings_HasPrefix Tryz.lays99 s p w
end Go.Proofs
namespace Go.Proofs.YtilpjhceemaplaaGreatDoor
open Go.RowKit
theorem parseUintM_num:∀ (l:P.Bs) (acc:Nat),l.all P.digit=true->l.length≤9->acc<10 ^ (9-l.length) ->
  Go.Lib.parseUintM (2 ^ 64-1) acc l = .ok (l.foldl (fun v c=>10*v+(c.toNat-48)) acc)
 | [],acc,_,_,_=>by simp [Go.Lib.parseUintM]
 | c::r,acc,h,hl,ha=>by
  simp only[List.all_cons,Bool.and_eq_true,P.digit,decide_eq_true_eq] at h
  simp only[List.length_cons] at hl ha
  have h9:10 ^ (9-(r.length+1))≤10 ^ 8:=Nat.pow_le_pow_right (by decide) (by omega)
  have hp:10*10 ^ (9-(r.length+1))=10 ^ (9-r.length):=by
   rw[<- Nat.pow_succ']
   congr 1
   omega
  rw[Go.Lib.parseUintM,if_pos h.1,if_neg (by omega),if_neg (by
   omega)]
  rw[parseUintM_num r (acc*10+(c.toNat-48)) h.2 (by omega) (by omega)]
  simp only[List.foldl_cons,Nat.mul_comm]
theorem num_nat:∀ (l:P.Bs) (acc:Nat),l.all P.digit=true->l.foldl (fun(v:Int) c=>10*v+((c.toNat:Int)-48)) (acc:Int)=((l.foldl (fun v c=>10*v+(c.toNat-48)) acc:Nat):Int)
 | [],acc,_=>rfl
 | c::r,acc,h=>by
  simp only[List.all_cons,Bool.and_eq_true,P.digit,decide_eq_true_eq] at h
  simp only[List.foldl_cons]
  rw[<- num_nat r _ h.2]
  congr 1
  omega
theorem foldl_lt:∀ (l:P.Bs) (acc n:Nat),l.all P.digit=true->l.length≤n->n≤9->acc<10 ^ (9-n)->l.foldl (fun v c=>10*v+(c.toNat-48)) acc<10 ^ 9
 | [],acc,n,_,_,hn,ha=>by
  have:10 ^ (9-n)≤10 ^ 9:=Nat.pow_le_pow_right (by decide) (by omega)
  simp only[List.foldl_nil]
  omega
 | c::r,acc,n,h,hl,hn,ha=>by
  simp only[List.all_cons,Bool.and_eq_true,P.digit,decide_eq_true_eq] at h
  simp only[List.length_cons] at hl
  simp only[List.foldl_cons]
  have hp:10*10 ^ (9-n)=10 ^ (9-(n-1)):=by
   rw[<- Nat.pow_succ']
   congr 1
   omega
  exact foldl_lt r _ (n-1) h.2 (by omega) (by omega) (by omega)
theorem parseInt_num{l:P.Bs}(h0:l≠[])(h:l.all P.digit=true)(hl:l.length≤9):Go.Lib.parseIntB 64 l = .ok (P.num l):=by
 obtain⟨c,r,rfl⟩:∃ c r,l=c::r:=by
  cases l with
  | nil=>exact absurd rfl h0
  | cons c r=>exact⟨c,r,rfl⟩
 have hc:48≤c.toNat/\c.toNat≤57:=by
  simp only[List.all_cons,Bool.and_eq_true,P.digit,decide_eq_true_eq] at h
  exact h.1
 have hu:Go.Lib.parseUintB 64 (c::r) = .ok ((c::r).foldl (fun v c=>10*v+(c.toNat-48)) 0):=by
  rw[Go.Lib.parseUintB,if_neg (by simp)]
  exact parseUintM_num (c::r) 0 h hl (Nat.pow_pos (by decide))
 have hlt:=foldl_lt (c::r) 0 9 h hl (Nat.le_refl _) (by decide)
 rw[Go.Lib.parseIntB]
 simp only[show ¬ (c.toNat=43\/c.toNat=45) from by omega,if_false,hu]
 rw[if_neg (by simp only[show(64:Nat)-1=63 from rfl];omega),if_neg (by omega)]
 rw[if_neg (by omega)]
 congr 1
 exact(num_nat (c::r) 0 h).symm
theorem ext_freeze{w w':World}(h:Ext w w'){a:Addr}(ha:w.heap.size≤a.block)(n:Nat):Ext w (w'.freeze a n):=by
 unfold World.freeze
 split
 ·exact h
 ·refine⟨h.os,h.tape,h.output,by simpa using h.size,fun b o hb hn=>?_⟩
  have:=ltOf hb
  show(w'.heap.modify a.block _)[b]?=some o
  rw[Array.getElem?_modify,if_neg (by omega)]
  exact h.block b o hb hn
theorem ext_bytesWorld(w:World)(e:TypeId)(s:ByteArray):Ext w (Go.Lib.bytesWorld w e s):=by
 unfold Go.Lib.bytesWorld
 exact ext_freeze (((FrM.refl _ _).drew).alloc _) (Nat.le_refl _) _
theorem cInt:CInt:=by
 refine⟨fun{w} s h0 h hl=>?_⟩
 refine(Tryz.strconv_ParseInt_10_at64_ok (bs s) ?_ (P.num s) (parseInt_num h0 h hl) w).mono ?_
 ·show s.toArray.size≤_
  simp;omega
 ·rintro e w' ⟨rfl,rfl | ⟨t,rfl⟩⟩
  ·exact⟨rfl,FrM.refl _ _⟩
  ·exact⟨rfl,ext_bytesWorld _ _ _⟩
theorem termsBelow:∀ f:Nat,∀ m,m≤f->CPrim m/\CArgs m/\CList m/\COper m
 | 0,m,h=>by
  obtain rfl:m=0:=by omega
  exact⟨cPrim0,cArgs0,cList0,cOper0⟩
 | f+1,m,h=>by
  have ih:=termsBelow f
  rcases Nat.lt_or_ge m (f+1) with hm | hm
  ·exact ih m (by omega)
  ·obtain rfl:m=f+1:=by omega
   have hexp:∀ j,j<f+1->CExpr j:=fun j hj=>cExpr (ih j (by omega)).2.2.2
   have hf:=ih f (Nat.le_refl f)
   exact⟨cPrim hf.2.1 (cExpr hf.2.2.2) hf.2.2.1 cVar cInt,cArgs hexp,cList hexp,cOper hf.1 fun j hj=>(ih j hj).2.2.2⟩
theorem cExprs(f:Nat):CExpr f:=cExpr (termsBelow f f (Nat.le_refl f)).2.2.2
theorem cArgss(f:Nat):CArgs f:=(termsBelow f f (Nat.le_refl f)).2.1
end Go.Proofs.YtilpjhceemaplaaGreatDoor
