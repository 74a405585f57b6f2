/- A part of one proof (RW20, ShR4, RW17, RW18, RW21, RW22, ShL1). -/
import Derived.Test.YtilpjhceemaplaaGreatDoorPkAAI
set_option linter.all false
set_option linter.unusedVariables false
set_option linter.unusedSimpArgs false
set_option maxRecDepth 100000
set_option maxHeartbeats 4000000
namespace Go.Proofs.YtilpjhceemaplaaGreatDoor
open Go.RowKit Sx
def IsRc(F:Nat->Prop)(w:World)(l:List Value)(c:P.Cl):Prop:=∃ av vs b0 b1 b2 b3 va vc,l=[.string (bs c.name),av,b0,b1,b2,b3,.slice va c.vars.length vc] /\
 IsRw F w 111 5 av c.args.length vs/\IsRxs F w vs c.args/\IsRb F w [b0,b1,b2,b3] c.body
def RStC(pb tb:Nat)(T:List P.Tok)(w w':World)(l:List Value):P.Res P.Cl->Prop
 | .ok x k vs=>IsRc (Nu w w') w' l x/\RP w' pb tb T k vs 0 0 0
 | .err c a=>c≠0/\∃ k vs,RP w' pb tb T k vs 0 c a
def One7(l:List Value):Prop:=l.length=7/\∀ u∈l,u.oneCell'=true
def RPostC(pb tb:Nat)(T:List P.Tok)(w:World)(r:P.Res P.Cl)(e:Ending)(w':World):Prop:=
 ∃ l,e = .returned (.agg l.toArray)/\One7 l/\RFr pb w w'/\RStC pb tb T w w' l r
theorem one7{a b c d e f g:Value}(h0:a.oneCell'=true)(h1:b.oneCell'=true)(h2:c.oneCell'=true)(h3:d.oneCell'=true)(h4:e.oneCell'=true)(h5:f.oneCell'=true)(h6:g.oneCell'=true):One7 [a,b,c,d,e,f,g]:=
 ⟨rfl,fun u hu=>by
  simp only[List.mem_cons,List.not_mem_nil,or_false] at hu
  rcases hu with rfl | rfl | rfl | rfl | rfl | rfl | rfl<;>assumption⟩
structure ClSt(pb tb:Nat)(T:List P.Tok)(w:World)(q3 q:Nat)(nm:P.Bs)(at_:Nat)(r:P.Res P.Cl)(cont:List P.Ex->P.Bd->Nat->List P.Bs->Option (P.Res P.Cl))(w':World):Prop where
 fr:RFr pb w w'
 z2:w'.heap[w.heap.size]?=some (.cells #[.string (bs []),.slice none 0 0,.int .u8 0,.string (bs []),.slice none 0 0,.slice none 0 0,.slice none 0 0] 43 (0,0))
 t3:w'.heap[q3]?=some (.cells #[.int .u8 97,.string (bs nm),zi at_] 69)
 st:∃ av b0 b1 b2 b3,w'.heap[q]?=some (.cells #[.string (bs nm),av,b0,b1,b2,b3,.slice none 0 0] 43) /\
  (av.oneCell'=true/\b0.oneCell'=true/\b1.oneCell'=true/\b2.oneCell'=true/\b3.oneCell'=true) /\
  ((∃ us l bd k vs,IsRw (fun b=>q<b/\b<w'.heap.size) w' 111 5 av l.length us/\IsRxs (fun b=>q<b/\b<w'.heap.size) w' us l/\IsRb (fun b=>q<b/\b<w'.heap.size) w' [b0,b1,b2,b3] bd /\
    RP w' pb tb T k vs 0 0 0/\cont l bd k vs=some r) \/
   (∃ c a k vs,c≠0/\r = .err c a/\RP w' pb tb T k vs 0 c a))
theorem ClSt.step{pb tb:Nat}{T:List P.Tok}{w:World}{q3 q:Nat}{nm:P.Bs}{at_:Nat}{r:P.Res P.Cl}{cont':List P.Ex->P.Bd->Nat->List P.Bs->Option (P.Res P.Cl)}{w1 w2:World}(h1:RFr pb w w1)(hF:RFr pb w1 w2)
  (hl:pb<w.heap.size/\w.heap.size<q3/\q3<q)
  (z2:w1.heap[w.heap.size]?=some (.cells #[.string (bs []),.slice none 0 0,.int .u8 0,.string (bs []),.slice none 0 0,.slice none 0 0,.slice none 0 0] 43 (0,0)))
  (t3:w1.heap[q3]?=some (.cells #[.int .u8 97,.string (bs nm),zi at_] 69)) {av b0 b1 b2 b3:Value}
  (g1:w1.heap[q]?=some (.cells #[.string (bs nm),av,b0,b1,b2,b3,.slice none 0 0] 43))
  (g2:av.oneCell'=true/\b0.oneCell'=true/\b1.oneCell'=true/\b2.oneCell'=true/\b3.oneCell'=true)
  (g3:(∃ us l bd k vs,IsRw (fun b=>q<b/\b<w1.heap.size) w1 111 5 av l.length us/\IsRxs (fun b=>q<b/\b<w1.heap.size) w1 us l/\IsRb (fun b=>q<b/\b<w1.heap.size) w1 [b0,b1,b2,b3] bd /\
    RP w2 pb tb T k vs 0 0 0/\cont' l bd k vs=some r) \/
   (∃ c a k vs,c≠0/\r = .err c a/\RP w2 pb tb T k vs 0 c a)):ClSt pb tb T w q3 q nm at_ r cont' w2:=by
 have:=hF.size
 refine⟨h1.trans hF,SFr.keep hF z2 (by omega) (by decide),SFr.keep hF t3 (by omega) (by decide),av,b0,b1,b2,b3,SFr.keep hF g1 (by omega) (by decide),g2,?_⟩
 rcases g3 with⟨us,l,bd,k,vs,e1,e2,e3,e4,e5⟩| g3
 ·have hm:∀ b,(fun b=>q<b/\b<w1.heap.size) b->(fun b=>q<b/\b<w2.heap.size) b:=fun b hb=>⟨hb.1,by have:=hb.2;omega⟩
  have hn:∀ b,(fun b=>q<b/\b<w1.heap.size) b->b≠pb:=fun b hb=>by have:=hb.1;omega
  exact .inl ⟨us,l,bd,k,vs,e1.mono hm (RFr.keeps hF hn (by decide)),IsRxs.mono hm (RFr.keeps hF hn (by decide)) _ _ e2,IsRb.fr e3 hF hn hm,e4,e5⟩
 ·exact .inr g3
theorem rIsB{pb tb:Nat}{T:List P.Tok}{k:Nat}{vars:List P.Bs}{d:Int}{at_:Nat}{w:World}(h:RP w pb tb T k vars d 0 at_)(s:P.Bs) :
  Calls Tryz.prog 34 #[pp pb,.string (bs s)] w fun e w'=>e = .returned (.bool (P.isT T k s))/\RP w' pb tb T (if P.isT T k s=true then k+1 else k) vars d 0 at_/\RFr pb w w':=by
 by_cases hs:P.isT T k s=true
 ·refine Calls.mono (rIs_yes h s hs) ?_
  rintro e w' ⟨rfl,h1,h2⟩
  rw[if_pos hs,hs]
  exact⟨rfl,h1,h2⟩
 ·refine Calls.mono (rIs_no h s (.inr (by simpa using hs))) ?_
  rintro e w' ⟨rfl,h1,h2⟩
  have hs':P.isT T k s=false:=by simpa using hs
  rw[if_neg hs,hs']
  exact⟨rfl,h1,h2⟩
theorem ClSt.at{pb tb:Nat}{T:List P.Tok}{w:World}{q3 q:Nat}{nm:P.Bs}{at_:Nat}{r:P.Res P.Cl}{cont:List P.Ex->P.Bd->Nat->List P.Bs->Option (P.Res P.Cl)}{w':World}(h:ClSt pb tb T w q3 q nm at_ r cont w') :
  ∃ av b0 b1 b2 b3 k vs er a,w'.heap[q]?=some (.cells #[.string (bs nm),av,b0,b1,b2,b3,.slice none 0 0] 43) /\
  (av.oneCell'=true/\b0.oneCell'=true/\b1.oneCell'=true/\b2.oneCell'=true/\b3.oneCell'=true)/\RP w' pb tb T k vs 0 er a /\
  ((er=0/\a=0/\∃ us l bd,IsRw (fun b=>q<b/\b<w'.heap.size) w' 111 5 av l.length us/\IsRxs (fun b=>q<b/\b<w'.heap.size) w' us l/\IsRb (fun b=>q<b/\b<w'.heap.size) w' [b0,b1,b2,b3] bd/\cont l bd k vs=some r) \/
   (er≠0/\r = .err er a)):=by
 obtain⟨h1,h2,h3,av,b0,b1,b2,b3,g1,g2,g3⟩:=h
 rcases g3 with⟨us,l,bd,k,vs,e1,e2,e3,e4,e5⟩| ⟨c,a,k,vs,e1,e2,e3⟩
 ·exact⟨av,b0,b1,b2,b3,k,vs,0,0,g1,g2,e4,.inl ⟨rfl,rfl,us,l,bd,e1,e2,e3,e5⟩⟩
 ·exact⟨av,b0,b1,b2,b3,k,vs,c,a,g1,g2,e3,.inr ⟨e1,e2⟩⟩
theorem isRb_true(F:Nat->Prop)(w:World):IsRb F w [.int .u8 103,.string (bs [116,114,117,101]),.slice none 0 0,.slice none 0 0] P.trueB:=by
 unfold P.trueB IsRb
 exact⟨_,_,[],[],rfl,.inl ⟨rfl,rfl,rfl⟩,by unfold IsRxs;rfl,.inl ⟨rfl,rfl,rfl⟩,isRbs_nil⟩
theorem RPx.noVars{w:World}{pb tb:Nat}{T:List P.Tok}{k:Nat}{vars:List P.Bs}{d:Int}{er at_ lc:Nat}{vv:Value}(h:RPx w pb tb T k vars d er at_ lc vv) :
  RP (upd w pb (.cells #[.slice (some ⟨tb,0,none⟩) T.length lc,zi k,.slice none 0 0,zi d,zi er,zi at_] 67)) pb tb T k [] d er at_:=by
 obtain⟨tw,lt,kt,nv,dp,⟨cs,c1,c2⟩,h1,h2,h3,g⟩:=h
 refine⟨lc,.slice none 0 0,tw,lt,kt,⟨by simp,fun _=>by simp⟩,dp,⟨cs,?_,c2⟩,h1,h2,hp_upd_same rfl (ltOf h3),World.ownsRow_nil _ _ _ _⟩
 rw[hp_upd_other (by omega)];exact c1
def zb25:=(zA zG0 (zA @sh_Pr_parser_clause.eq_1 (zA @al_43 (zA @al_69 (zA @bd_40 (zA @bd_43 (zA @fa_43_1 (zA @fa_43_2 (zA @fa_43_3 (zA @fa_67_1 (zA @fa_67_2 (zA @fa_67_4 (zA @fa_69_0 (zA @fa_69_1 (zA @fa_69_2 (zA @ld_3 (zA @ld_32 (zA @ld_41 (zA @ld_43 (zA @ld_5 (zA @ld_9 (zA @st_3 (zA @st_37 (zA @st_40 (zA @st_41 (zA @st_43 @st_69))))))))))))))))))))))))))
def zb26:=(zA zG0 (zA @sh_Pr_parser_clause.eq_1 (zA @al_43 (zA @al_69 (zA @bd_40 (zA @bd_43 (zA @fa_43_1 (zA @fa_43_2 (zA @fa_43_3 (zA @fa_67_1 (zA @fa_67_2 (zA @fa_67_4 (zA @fa_69_0 (zA @fa_69_1 (zA @fa_69_2 (zA @ld_3 (zA @ld_32 (zA @ld_41 (zA @ld_43 (zA @ld_5 (zA @ld_9 (zA @st_3 (zA @st_37 (zA @st_40 (zA @st_41 (zA @st_43 (zA @st_69 @bs_dec)))))))))))))))))))))))))))
set_option maxHeartbeats 1000000 in
theorem rClause {f:Nat} {pb tb:Nat} {T:List P.Tok} {k:Nat} {vars:List P.Bs} {w:World} {r:P.Res P.Cl} (h:RP w pb tb T k vars 0 0 0) (hr:P.pClause T f k=some r) :
  Calls Tryz.prog 18 #[pp pb] w (RPostC pb tb T w r):=by
 obtain⟨l1,hkt,hlT,h4⟩:=h.cs
 obtain⟨lc,vv,hx⟩:=id h
 have h3:=hx.cell
 have htw:=hx.tw
 refine sh_Pr_parser_clause_ok ?_
 simp (disch:=first|assumption|omega|simp only[zS]<;>omega|decide) only[zb25,simprocAttr,h3]
 have hZ:Ext w (w.alloc (.cells #[.string (bs []),.slice none 0 0,.int .u8 0,.string (bs []),.slice none 0 0,.slice none 0 0,.slice none 0 0] 43)):=by(repeat (first | assumption | exact FrM.refl _ _ | (refine FrM.upd ?_ (.inr (by(try simp only[zS])<;>omega))) | refine FrM.alloc ?_ _ | refine FrM.drew ?_))
 have hP0:=(hx.ext hZ).noVars
 have hF0:RFr pb w (upd (w.alloc (.cells #[.string (bs []),.slice none 0 0,.int .u8 0,.string (bs []),.slice none 0 0,.slice none 0 0,.slice none 0 0] 43)) pb (.cells #[.slice (some ⟨tb,0,none⟩) T.length lc,zi k,.slice none 0 0,zi 0,zi 0,zi 0] 67)):=hZ.toM.upd (.inl fun _=>.inl rfl)
 have z0:(upd (w.alloc (.cells #[.string (bs []),.slice none 0 0,.int .u8 0,.string (bs []),.slice none 0 0,.slice none 0 0,.slice none 0 0] 43)) pb (.cells #[.slice (some ⟨tb,0,none⟩) T.length lc,zi k,.slice none 0 0,zi 0,zi 0,zi 0] 67)).heap[w.heap.size]?=some (.cells #[.string (bs []),.slice none 0 0,.int .u8 0,.string (bs []),.slice none 0 0,.slice none 0 0,.slice none 0 0] 43 (0,0)):=by rw[hp_upd_other (by omega)];exact hp_alloc_new rfl
 refine Calls.mono (rNext hP0) ?_
 rintro e w1 ⟨rfl,hE1⟩
 have z1:=hE1.ext _ _ z0
 have hP1:=hP0.ext hE1
 have hF1:=hF0.trans hE1.toM
 have lz1:=ltOf z1
 clear hP0 hF0 z0 hE1 hZ h3 hx h
 by_cases hk1:(P.tk T k).kind=1
 ·have hrk:rk (P.tk T k).kind=97:=(rk_atom h4).2 hk1
  rw[hrk]
  obtain⟨lc,vv,hx1⟩:=id hP1
  have h3:=hx1.cell
  simp (disch:=first|assumption|omega|simp only[zS]<;>omega|decide) only[zb25,simprocAttr,h3]
  have hnx:=hx1.tw.toTW.next hkt (by omega)
  rw[P.pClause,if_pos hk1] at hr
  generalize hnm:(P.tk T k).text=nm at *
  generalize hps:(P.tk T k).pos=pos at *
  have hXa:Ext w1 (upd (w1.alloc (.cells #[.int .u8 0,.string (bs []),zi 0] 69)) w1.heap.size (.cells #[.int .u8 ((97:Nat):Int),.string (bs nm),zi pos] 69)):=by(repeat (first | assumption | exact FrM.refl _ _ | (refine FrM.upd ?_ (.inr (by(try simp only[zS])<;>omega))) | refine FrM.alloc ?_ _ | refine FrM.drew ?_))
  have hPb:=RP.of ((hx1.ext hXa).set (k':=k+1) (kz:=(k:Int)+1) (d':=0) (er':=0) (at':=0) hnx (by omega) (by omega) (fun h=>h))
  have e4:(upd (upd (w1.alloc (.cells #[.int .u8 0,.string (bs []),zi 0] 69)) w1.heap.size (.cells #[.int .u8 ((97:Nat):Int),.string (bs nm),zi pos] 69)) pb
   (.cells #[.slice (some ⟨tb,0,none⟩) T.length lc,zi (↑k+1),vv,zi 0,zi ((0:Nat):Int),zi ((0:Nat):Int)] 67)).heap.size=w1.heap.size+1:=by simp only[size_upd,size_alloc]
  rw[size_upd,size_upd,size_alloc]
  have hXb:Ext (upd (upd (w1.alloc (.cells #[.int .u8 0,.string (bs []),zi 0] 69)) w1.heap.size (.cells #[.int .u8 ((97:Nat):Int),.string (bs nm),zi pos] 69)) pb
   (.cells #[.slice (some ⟨tb,0,none⟩) T.length lc,zi (↑k+1),vv,zi 0,zi ((0:Nat):Int),zi ((0:Nat):Int)] 67)) (upd ((upd (upd (w1.alloc (.cells #[.int .u8 0,.string (bs []),zi 0] 69)) w1.heap.size (.cells #[.int .u8 ((97:Nat):Int),.string (bs nm),zi pos] 69)) pb
   (.cells #[.slice (some ⟨tb,0,none⟩) T.length lc,zi (↑k+1),vv,zi 0,zi ((0:Nat):Int),zi ((0:Nat):Int)] 67)).alloc (.cells #[.string (bs []),.slice none 0 0,.int .u8 0,.string (bs []),.slice none 0 0,.slice none 0 0,.slice none 0 0] 43)) (w1.heap.size+1)
   (.cells #[.string (bs nm),.slice none 0 0,.int .u8 103,.string (bs [116,114,117,101]),.slice none 0 0,.slice none 0 0,.slice none 0 0] 43)):=(FrM.alloc (FrM.refl _ _) _).upd (.inr (by rw[e4];exact Nat.le_refl _))
  have hP4:=hPb.ext hXb
  have hF4:=((hF1.trans hXa.toM).upd (p:=pb) (o:=.cells #[.slice (some ⟨tb,0,none⟩) T.length lc,zi (↑k+1),vv,zi 0,zi ((0:Nat):Int),zi ((0:Nat):Int)] 67) (.inl fun _=>.inl rfl)).trans hXb.toM
  have z4:=hXb.ext _ _ (show _=_ by rw[hp_upd_other (show ¬ w.heap.size=pb by omega)];exact hXa.ext _ _ z1)
  have t4:=hXb.ext _ _ (show _=some (.cells #[.int .u8 ((97:Nat):Int),.string (bs nm),zi pos] 69) by rw[hp_upd_other (show ¬ w1.heap.size=pb by omega)];exact hp_upd_same rfl (by rw[size_alloc];omega))
  have g4:(upd ((upd (upd (w1.alloc (.cells #[.int .u8 0,.string (bs []),zi 0] 69)) w1.heap.size (.cells #[.int .u8 ((97:Nat):Int),.string (bs nm),zi pos] 69)) pb
   (.cells #[.slice (some ⟨tb,0,none⟩) T.length lc,zi (↑k+1),vv,zi 0,zi ((0:Nat):Int),zi ((0:Nat):Int)] 67)).alloc (.cells #[.string (bs []),.slice none 0 0,.int .u8 0,.string (bs []),.slice none 0 0,.slice none 0 0,.slice none 0 0] 43)) (w1.heap.size+1)
   (.cells #[.string (bs nm),.slice none 0 0,.int .u8 103,.string (bs [116,114,117,101]),.slice none 0 0,.slice none 0 0,.slice none 0 0] 43)).heap[w1.heap.size+1]?=some (.cells #[.string (bs nm),.slice none 0 0,.int .u8 103,.string (bs [116,114,117,101]),.slice none 0 0,.slice none 0 0,.slice none 0 0] 43 (0,0)):=
   hp_upd_same rfl (by rw[size_alloc,e4];omega)
  have s4:(upd ((upd (upd (w1.alloc (.cells #[.int .u8 0,.string (bs []),zi 0] 69)) w1.heap.size (.cells #[.int .u8 ((97:Nat):Int),.string (bs nm),zi pos] 69)) pb
   (.cells #[.slice (some ⟨tb,0,none⟩) T.length lc,zi (↑k+1),vv,zi 0,zi ((0:Nat):Int),zi ((0:Nat):Int)] 67)).alloc (.cells #[.string (bs []),.slice none 0 0,.int .u8 0,.string (bs []),.slice none 0 0,.slice none 0 0,.slice none 0 0] 43)) (w1.heap.size+1)
   (.cells #[.string (bs nm),.slice none 0 0,.int .u8 103,.string (bs [116,114,117,101]),.slice none 0 0,.slice none 0 0,.slice none 0 0] 43)).heap.size=w1.heap.size+2:=by rw[size_upd,size_alloc,e4]
  generalize (upd ((upd (upd (w1.alloc (.cells #[.int .u8 0,.string (bs []),zi 0] 69)) w1.heap.size (.cells #[.int .u8 ((97:Nat):Int),.string (bs nm),zi pos] 69)) pb
   (.cells #[.slice (some ⟨tb,0,none⟩) T.length lc,zi (↑k+1),vv,zi 0,zi ((0:Nat):Int),zi ((0:Nat):Int)] 67)).alloc (.cells #[.string (bs []),.slice none 0 0,.int .u8 0,.string (bs []),.slice none 0 0,.slice none 0 0,.slice none 0 0] 43)) (w1.heap.size+1)
   (.cells #[.string (bs nm),.slice none 0 0,.int .u8 103,.string (bs [116,114,117,101]),.slice none 0 0,.slice none 0 0,.slice none 0 0] 43))=w4 at *
  clear hXb e4 hPb hXa h3 hx1 hF1 hP1 z1
  generalize hq3:w1.heap.size=q3 at *
  have hqq:pb<w.heap.size/\w.heap.size<q3/\q3<q3+1:=⟨l1,by omega,by omega⟩
  have hnilx:∀ (F:Nat->Prop) (w:World),IsRw F w 111 5 (.slice none 0 0) ([]:List P.Ex).length []:=fun _ _=>.inl ⟨rfl,rfl,rfl⟩
  refine Calls.mono (rIsB hP4 [40]) ?_
  rintro e w5 ⟨rfl,hP5,hF5⟩
  simp (disch:=first|assumption|omega|simp only[zS]<;>omega|decide) only[zb25,simprocAttr]
  refine⟨fun s w'=>ClSt pb tb T w q3 (q3+1) nm pos r (pTail1 T f nm pos) w',?_,?_⟩
  ·by_cases ho:P.isT T (k+1) [40]=true
   ·rw[if_pos ho] at hr hP5
    rw[ho]
    have z5:=SFr.keep hF5 z4 (by omega) (by decide)
    have t5:=SFr.keep hF5 t4 (by omega) (by decide)
    have g5:=SFr.keep hF5 g4 (by omega) (by decide)
    simp (disch:=first|assumption|omega|simp only[zS]<;>omega|decide) only[zb25,simprocAttr,t5]
    cases hq:P.pArgs T f (k+2) [] 0 pos [] with
    | none=>rw[hq] at hr;simp [P.Res.bind] at hr
    | some qa=>
    rw[hq] at hr
    refine Calls.mono ((rTerms f).2.2.2.1.go (d:=0) pos hP5 (by omega) hq) ?_
    rintro e w6 ⟨av,an,ac,rfl,hF6,hst⟩
    have s5:=hF5.size
    have z6:=SFr.keep hF6 z5 (by omega) (by decide)
    have t6:=SFr.keep hF6 t5 (by omega) (by decide)
    have g6:=SFr.keep hF6 g5 (by omega) (by decide)
    have lg6:=ltOf g6
    simp (disch:=first|assumption|omega|simp only[zS]<;>omega|decide) only[zb25,simprocAttr,g6]
    have hF06:=((hF4.trans hF5).trans hF6).upd (p:=q3+1) (o:=.cells #[.string (bs nm),.slice av an ac,.int .u8 103,.string (bs [116,114,117,101]),.slice none 0 0,.slice none 0 0,.slice none 0 0] 43 (0,0)) (.inr (by omega))
    have z7:(upd w6 (q3+1) (.cells #[.string (bs nm),.slice av an ac,.int .u8 103,.string (bs [116,114,117,101]),.slice none 0 0,.slice none 0 0,.slice none 0 0] 43 (0,0))).heap[w.heap.size]?=some _:=(hp_upd_other (by omega)).trans z6
    have t7:(upd w6 (q3+1) (.cells #[.string (bs nm),.slice av an ac,.int .u8 103,.string (bs [116,114,117,101]),.slice none 0 0,.slice none 0 0,.slice none 0 0] 43 (0,0))).heap[q3]?=some _:=(hp_upd_other (by omega)).trans t6
    have g7:(upd w6 (q3+1) (.cells #[.string (bs nm),.slice av an ac,.int .u8 103,.string (bs [116,114,117,101]),.slice none 0 0,.slice none 0 0,.slice none 0 0] 43 (0,0))).heap[q3+1]?=some _:=hp_upd_same rfl lg6
    cases qa with
    | err c a=>
     obtain⟨hc,k2,vs2,hP6⟩:=hst
     simp only[P.Res.bind,Option.some.injEq] at hr
     refine Calls.mono (rMustE (hP6.updT (by omega) g6 (by decide)) [41] hc) ?_
     rintro e w8 ⟨rfl,hP8,hF8⟩
     simp (disch:=first|assumption|omega|simp only[zS]<;>omega|decide) only[zb25,simprocAttr]
     exact ClSt.step hF06 hF8 hqq z7 t7 g7 ⟨rfl,rfl,rfl,rfl,rfl⟩ (.inr ⟨c,a,k2,vs2,hc,hr.symm,hP8⟩)
    | ok l k2 vs2=>
     obtain⟨⟨us,hu1,hu2⟩,hP6⟩:=hst
     simp only[P.Res.bind] at hr
     have hm:∀ b,Nu w5 w6 b->q3+1<b/\b<(upd w6 (q3+1) (.cells #[.string (bs nm),.slice av an ac,.int .u8 103,.string (bs [116,114,117,101]),.slice none 0 0,.slice none 0 0,.slice none 0 0] 43 (0,0))).heap.size:=fun b hb=>⟨by have:=hb.1;omega,by rw[size_upd];exact hb.2⟩
     have hk:Keeps (Nu w5 w6) 111 w6 (upd w6 (q3+1) (.cells #[.string (bs nm),.slice av an ac,.int .u8 103,.string (bs [116,114,117,101]),.slice none 0 0,.slice none 0 0,.slice none 0 0] 43 (0,0))):=fun b cs hb hc=>by
      rw[hp_upd_other (by have:=hb.1;omega)];exact hc
     cases hmu:P.musT T [41] l k2 vs2 with
     | none=>rw[hmu] at hr;cases hr
     | some qm=>
     rw[hmu] at hr
     refine rMustX (hP6.updT (by omega) g6 (by decide)) [41] l hmu ?_ ?_
     ·intro w8 hrm hP8 hF8
      rw[hrm] at hr
      simp (disch:=first|assumption|omega|simp only[zS]<;>omega|decide) only[zb25,simprocAttr]
      exact ClSt.step hF06 hF8 hqq z7 t7 g7 ⟨rfl,rfl,rfl,rfl,rfl⟩ (.inl ⟨us,l,P.trueB,_,_,hu1.mono hm hk,IsRxs.mono hm hk _ _ hu2,isRb_true _ _,hP8,hr⟩)
     ·intro w8 a hrm hP8 hF8
      rw[hrm] at hr
      simp only[Option.some.injEq] at hr
      simp (disch:=first|assumption|omega|simp only[zS]<;>omega|decide) only[zb25,simprocAttr]
      exact ClSt.step hF06 hF8 hqq z7 t7 g7 ⟨rfl,rfl,rfl,rfl,rfl⟩ (.inr ⟨2,a,_,_,by decide,hr.symm,hP8⟩)
   ·rw[if_neg ho] at hr hP5
    have ho':P.isT T (k+1) [40]=false:=by simpa using ho
    rw[ho',bs_false]
    exact ClSt.step hF4 hF5 hqq z4 t4 g4 ⟨rfl,rfl,rfl,rfl,rfl⟩ (.inl ⟨[],[],P.trueB,_,_,hnilx _ _,by unfold IsRxs;rfl,isRb_true _ _,hP5,hr⟩)
  ·rintro s w6 hS dd
   have z6:=hS.z2
   have t6:=hS.t3
   have hF6:=hS.fr
   obtain⟨av,b0,b1,b2,b3,k6,vs6,er,a6,g6,⟨o0,o1,o2,o3,o4⟩,hP6,hq6⟩:=hS.at
   simp (disch:=first|assumption|omega|simp only[zS]<;>omega|decide) only[zb25,simprocAttr,t6]
   refine(rTests _ _).mono ?_
   rintro e w7 ⟨rfl,rfl⟩
   obtain⟨lc6,vv6,hx6⟩:=id hP6
   have h36:=hx6.cell
   simp (disch:=first|assumption|omega|simp only[zS]<;>omega|decide) only[zb25,simprocAttr]
   refine⟨fun s w'=>ClSt pb tb T w q3 (q3+1) nm pos r (pTail2 T f nm) w',?_,?_⟩
   ·refine⟨fun s w'=>w'=w7/\s 56 = .bool (decide (er=0/\(0≤P.tests nm\/nm=[109,111,100]))),?_,?_⟩
    ·simp (disch:=first|assumption|omega|simp only[zS]<;>omega|decide) only[zb26,simprocAttr,h36,t6]
     by_cases b1:er=0<;>by_cases b2:0≤P.tests nm<;>by_cases b3:nm=[109,111,100]<;>simp [b1,b2,b3]
    ·rintro s8 w8 ⟨rfl,hs8⟩ dd8
     rw[hs8]
     by_cases hb:er=0/\(0≤P.tests nm\/nm=[109,111,100])
     ·rw[bs_pos _ _ hb]
      obtain⟨rfl,hb⟩:=hb
      obtain⟨-,rfl,us,l,bd,e1,e2,e3,e5⟩:=hq6.resolve_right (by simp)
      rw[pTail1,if_pos hb] at e5
      simp (disch:=first|assumption|omega|simp only[zS]<;>omega|decide) only[zb25,simprocAttr,t6]
      refine Calls.mono (rFault hP6 3 _) ?_
      rintro e w9 ⟨rfl,hP9,hF9⟩
      rw[if_pos rfl,if_pos rfl] at hP9
      simp (disch:=first|assumption|omega|simp only[zS]<;>omega|decide) only[zb25,simprocAttr]
      exact ClSt.step hF6 hF9 hqq z6 t6 g6 ⟨o0,o1,o2,o3,o4⟩ (.inr ⟨3,pos,_,_,by decide,(Option.some.inj e5).symm,hP9⟩)
     ·rw[bs_neg _ _ hb]
      refine ClSt.step hF6 (FrM.refl _ _) hqq z6 t6 g6 ⟨o0,o1,o2,o3,o4⟩ ?_
      rcases hq6 with⟨rfl,rfl,us,l,bd,e1,e2,e3,e5⟩| ⟨h1,h2⟩
      ·rw[pTail1,if_neg (fun h=>hb ⟨rfl,h⟩)] at e5
       exact .inl ⟨us,l,bd,_,_,e1,e2,e3,hP6,e5⟩
      ·exact .inr ⟨er,a6,_,_,h1,h2,hP6⟩
   ·clear hq6 hP6 g6 o0 o1 o2 o3 o4 h36 hx6 t6 z6 hF6 hS
    rintro s8 w8 hS dd8
    have z6:=hS.z2
    have t6:=hS.t3
    have hF6:=hS.fr
    obtain⟨av,b0,b1,b2,b3,k6,vs6,er,a6,g6,⟨o0,o1,o2,o3,o4⟩,hP6,hq6⟩:=hS.at
    obtain⟨lc6,vv6,hx6⟩:=id hP6
    have h36:=hx6.cell
    have lz6:=ltOf z6
    by_cases he:er=0
    ·subst he
     obtain⟨-,rfl,us,l,bd,e1,e2,e3,e5⟩:=hq6.resolve_right (by simp)
     simp (disch:=first|assumption|omega|simp only[zS]<;>omega|decide) only[zb25,simprocAttr,h36]
     refine Calls.mono (rIsB hP6 [58,45]) ?_
     rintro e w9 ⟨rfl,hP9,hF9⟩
     have z9:=SFr.keep hF9 z6 (by omega) (by decide)
     have t9:=SFr.keep hF9 t6 (by omega) (by decide)
     have g9:=SFr.keep hF9 g6 (by omega) (by decide)
     simp (disch:=first|assumption|omega|simp only[zS]<;>omega|decide) only[zb25,simprocAttr]
     refine⟨fun s w'=>ClSt pb tb T w q3 (q3+1) nm pos r (fun l bd k vs=>P.musT T [46] ⟨nm,l,bd,vs⟩ k vs) w',?_,?_⟩
     ·by_cases ho:P.isT T k6 [58,45]=true
      ·rw[pTail2,if_pos ho] at e5
       rw[if_pos ho] at hP9
       rw[ho]
       simp (disch:=first|assumption|omega|simp only[zS]<;>omega|decide) only[zb25,simprocAttr]
       cases hb:P.pBody T f (k6+1) vs6 0 with
       | none=>rw[hb] at e5;simp [P.Res.bind] at e5
       | some qb=>
       rw[hb] at e5
       refine Calls.mono ((rBodies f).go (d:=0) hP9 (by omega) hb) ?_
       rintro e wA ⟨c0,c1,c2,c3,rfl,⟨p0,p1,p2,p3⟩,hFA,hst⟩
       have s9:=hF9.size
       have sA:=hFA.size
       have zA:=SFr.keep hFA z9 (by omega) (by decide)
       have tA:=SFr.keep hFA t9 (by omega) (by decide)
       have gA:=SFr.keep hFA g9 (by omega) (by decide)
       have lgA:=ltOf gA
       have lg6:=ltOf g6
       simp (disch:=first|assumption|omega|simp only[zS]<;>omega|decide) only[zb25,simprocAttr,gA,p0,p1,p2,p3]
       have hFn:=((hF6.trans hF9).trans hFA).upd (p:=q3+1) (o:=.cells #[.string (bs nm),av,c0,c1,c2,c3,.slice none 0 0] 43) (.inr (by omega))
       have zn:(upd wA (q3+1) (.cells #[.string (bs nm),av,c0,c1,c2,c3,.slice none 0 0] 43)).heap[w.heap.size]?=some _:=(hp_upd_other (by omega)).trans zA
       have tn:(upd wA (q3+1) (.cells #[.string (bs nm),av,c0,c1,c2,c3,.slice none 0 0] 43)).heap[q3]?=some _:=(hp_upd_other (by omega)).trans tA
       have gn:(upd wA (q3+1) (.cells #[.string (bs nm),av,c0,c1,c2,c3,.slice none 0 0] 43)).heap[q3+1]?=some _:=hp_upd_same rfl lgA
       refine ClSt.step hFn (FrM.refl _ _) hqq zn tn gn ⟨o0,p0,p1,p2,p3⟩ ?_
       cases qb with
       | err c a=>
        obtain⟨hc,k2,vs2,hP⟩:=hst
        simp only[P.Res.bind,Option.some.injEq] at e5
        exact .inr ⟨c,a,k2,vs2,hc,e5.symm,hP.updT (by omega) gA (by decide)⟩
       | ok bd2 k2 vs2=>
        obtain⟨hb2,hP⟩:=hst
        simp only[P.Res.bind] at e5
        have hm:∀ b,(q3+1<b/\b<w8.heap.size)->q3+1<b/\b<(upd wA (q3+1) (.cells #[.string (bs nm),av,c0,c1,c2,c3,.slice none 0 0] 43)).heap.size:=fun b hb=>⟨hb.1,by rw[size_upd];have:=hb.2;omega⟩
        have hk:Keeps (fun b=>q3+1<b/\b<w8.heap.size) 111 w8 (upd wA (q3+1) (.cells #[.string (bs nm),av,c0,c1,c2,c3,.slice none 0 0] 43)):=fun b cs hb hc=>by
         rw[hp_upd_other (by have:=hb.1;omega)]
         exact SFr.keep hFA (SFr.keep hF9 hc (by have:=hb.1;omega) (by decide)) (by have:=hb.1;omega) (by decide)
        exact .inl ⟨us,l,bd2,k2,vs2,e1.mono hm hk,IsRxs.mono hm hk _ _ e2,hb2.updT (fun b hb=>by have:=hb.1;omega) (fun b hb=>⟨by have:=hb.1;omega,by rw[size_upd];exact hb.2⟩),hP.updT (by omega) gA (by decide),e5⟩
      ·rw[pTail2,if_neg ho] at e5
       rw[if_neg ho] at hP9
       have ho':P.isT T k6 [58,45]=false:=by simpa using ho
       rw[ho',bs_false]
       exact ClSt.step hF6 hF9 hqq z6 t6 g6 ⟨o0,o1,o2,o3,o4⟩ (.inl ⟨us,l,bd,_,_,e1,e2,e3,hP9,e5⟩)
     ·clear e5 e3 e2 e1 hq6 hP6 g6 o0 o1 o2 o3 o4 h36 hx6 t6 z6 hF6 hS z9 t9 g9 hP9 hF9 lz6
      rintro s9 wB hS dd9
      have z6:=hS.z2
      have t6:=hS.t3
      have hF6:=hS.fr
      obtain⟨av,b0,b1,b2,b3,k6,vs6,er,a6,g6,⟨o0,o1,o2,o3,o4⟩,hP6,hq6⟩:=hS.at
      obtain⟨lc6,vv6,hx6⟩:=id hP6
      have h36:=hx6.cell
      refine⟨fun s w'=>ClSt pb tb T w q3 (q3+1) nm pos r (fun l bd k vs=>some (.ok ⟨nm,l,bd,vs⟩ k vs)) w',?_,?_⟩
      ·by_cases he:er=0
       ·subst he
        obtain⟨-,rfl,us,l,bd,e1,e2,e3,e5⟩:=hq6.resolve_right (by simp)
        simp (disch:=first|assumption|omega|simp only[zS]<;>omega|decide) only[zb25,simprocAttr,h36]
        refine rMustX hP6 [46] _ e5 ?_ ?_
        ·intro wC hrm hPC hFC
         simp (disch:=first|assumption|omega|simp only[zS]<;>omega|decide) only[zb25,simprocAttr]
         exact ClSt.step hF6 hFC hqq z6 t6 g6 ⟨o0,o1,o2,o3,o4⟩ (.inl ⟨us,l,bd,_,_,e1,e2,e3,hPC,by rw[hrm]⟩)
        ·intro wC a hrm hPC hFC
         simp (disch:=first|assumption|omega|simp only[zS]<;>omega|decide) only[zb25,simprocAttr]
         exact ClSt.step hF6 hFC hqq z6 t6 g6 ⟨o0,o1,o2,o3,o4⟩ (.inr ⟨2,a,_,_,by decide,hrm,hPC⟩)
       ·obtain⟨h1,h2⟩:=hq6.resolve_left (fun h=>he h.1)
        have he':¬ (er:Int)=0:=by omega
        simp (disch:=first|assumption|omega|simp only[zS]<;>omega|decide) only[zb25,simprocAttr,h36]
        exact ClSt.step hF6 (FrM.refl _ _) hqq z6 t6 g6 ⟨o0,o1,o2,o3,o4⟩ (.inr ⟨er,a6,_,_,h1,h2,hP6⟩)
      ·clear hq6 hP6 g6 o0 o1 o2 o3 o4 h36 hx6 t6 z6 hF6 hS
       rintro s10 wD hS dd10
       have z6:=hS.z2
       have hF6:=hS.fr
       obtain⟨av,b0,b1,b2,b3,k6,vs6,er,a6,g6,⟨o0,o1,o2,o3,o4⟩,hP6,hq6⟩:=hS.at
       obtain⟨lc6,vv6,hx6⟩:=id hP6
       have h36:=hx6.cell
       have lz6:=ltOf z6
       have lg6:=ltOf g6
       obtain⟨va,vc,rfl⟩:=own_slice hx6.own
       simp (disch:=first|assumption|omega|simp only[zS]<;>omega|decide) only[zb25,simprocAttr,h36,g6,z6,o0,o1,o2,o3,o4]
       have hPn:=hP6.updT (q:=q3+1) (o:=.cells #[.string (bs nm),av,b0,b1,b2,b3,.slice va vs6.length vc] 43) (by omega) g6 (by decide)
       have zn:(upd wD (q3+1) (.cells #[.string (bs nm),av,b0,b1,b2,b3,.slice va vs6.length vc] 43)).heap[w.heap.size]?=some _:=(hp_upd_other (by omega)).trans z6
       refine⟨[.string (bs nm),av,b0,b1,b2,b3,.slice va vs6.length vc],rfl,one7 rfl o0 o1 o2 o3 o4 rfl,(hF6.upd (.inr (by omega))).upd (.inr (Nat.le_refl _)),?_⟩
       rcases hq6 with⟨rfl,rfl,us,l,bd,e1,e2,e3,e5⟩| ⟨h1,rfl⟩
       ·simp only[Option.some.injEq] at e5
        rw[<- e5]
        refine⟨?_,hPn.updT (by omega) zn (by decide)⟩
        have hm:∀ b,(q3+1<b/\b<wD.heap.size)->Nu w (upd (upd wD (q3+1) (.cells #[.string (bs nm),av,b0,b1,b2,b3,.slice va vs6.length vc] 43)) w.heap.size (.cells #[.string (bs nm),av,b0,b1,b2,b3,.slice va vs6.length vc] 43)) b:=fun b hb=>⟨by have:=hb.1;omega,by rw[size_upd,size_upd];exact hb.2⟩
        have hk:∀ t,Keeps (fun b=>q3+1<b/\b<wD.heap.size) t wD (upd (upd wD (q3+1) (.cells #[.string (bs nm),av,b0,b1,b2,b3,.slice va vs6.length vc] 43)) w.heap.size (.cells #[.string (bs nm),av,b0,b1,b2,b3,.slice va vs6.length vc] 43)):=fun t b cs hb hc=>by
         rw[hp_upd_other (by have:=hb.1;omega),hp_upd_other (by have:=hb.1;omega)];exact hc
        exact⟨_,us,_,_,_,_,_,_,rfl,e1.mono hm (hk _),IsRxs.mono hm (hk _) _ _ e2,IsRb.mono hm (hk _) (hk _) _ _ e3⟩
       ·exact⟨h1,_,_,hPn.updT (by omega) zn (by decide)⟩
    ·obtain⟨-,rfl⟩:=hq6.resolve_left (fun h=>he h.1)
     have he':¬ (er:Int)=0:=by omega
     simp (disch:=first|assumption|omega|simp only[zS]<;>omega|decide) only[zb25,simprocAttr,h36,g6,z6,o0,o1,o2,o3,o4]
     exact⟨[.string (bs nm),av,b0,b1,b2,b3,.slice none 0 0],rfl,one7 rfl o0 o1 o2 o3 o4 rfl,hF6.upd (.inr (Nat.le_refl _)),he,_,_,hP6.updT (by omega) z6 (by decide)⟩
 ·rw[P.pClause,if_neg hk1] at hr
  obtain rfl:=(Option.some.inj hr).symm
  have hrk:¬ ((rk (P.tk T k).kind:Nat):Int)=97:=by have:=rk_atom h4;omega
  simp (disch:=first|assumption|omega|simp only[zS]<;>omega|decide) only[zb25,simprocAttr]
  refine Calls.mono (rNone (hP1.ext (by(repeat (first | assumption | exact FrM.refl _ _ | (refine FrM.upd ?_ (.inr (by(try simp only[zS])<;>omega))) | refine FrM.alloc ?_ _ | refine FrM.drew ?_))))) ?_
  rintro e w2 ⟨rfl,hP2,hF2⟩
  have z2:=SFr.keep hF2 (by rw[hp_upd_other (show ¬ w.heap.size=w1.heap.size by omega),hp_alloc_old (by omega)];exact z1) (by omega) (by decide)
  have lz2:=ltOf z2
  simp (disch:=first|assumption|omega|simp only[zS]<;>omega|decide) only[zb25,simprocAttr,z2]
  exact⟨_,rfl,⟨rfl,by decide⟩,((hF1.trans (FrM.upd (FrM.alloc (FrM.refl _ _) _) (.inr (Nat.le_refl _)))).trans hF2).upd (.inr (Nat.le_refl _)),by decide,_,_,hP2.updT l1 z2 (by decide)⟩
end Go.Proofs.YtilpjhceemaplaaGreatDoor
namespace Go.Proofs.YtilpjhceemaplaaGreatDoor
open Go.Proofs.YtilpjhceemaplaaGreatDoor.Sx
section
variable{p0 p1 p2 p3 p4 p5 p6 p7:Value}{w:World}{R:Ending->World->Prop}
def sh_r_begun(p0:Value)(w:World)(R:Ending->World->Prop):Prop:=
 xrN 9 p0 w R fun x8=>
 xrO .gtr 3 8 x8 (.int .i64 2000) w R fun x9=>
 BS x9 (R (.returned (.tuple #[(.pointer none),(.int .i64 1),(.int .i64 0)])) w) (xC 32 #[p0] w R fun x12 w1=>
 xrE x12 0 w1 R fun x13=>
 xrE x12 1 w1 R fun x14=>
 xrO .geq 3 15 x14 (.int .i64 0) w1 R fun x16=>
 BS x16 (R (.returned (.tuple #[(.pointer none),(.int .i64 2),x14])) w1) (xrD 67 #[(0,x13)] w1 R fun x19=>
 xwB 67 x19 w1 R fun x20 v1=>
 R (.returned (.tuple #[x20,(.int .i64 0),(.int .i64 (-1))])) v1))
theorem sh_r_begun_ok(h:sh_r_begun p0 w R):Calls Tryz.prog 15 #[p0] w R:=
 cq (args:=[p0]) (good (fun _=>[]) (fun _=>none) (fun _=>0) (fun _=>none) (fun _=>[]) (fun _=>[]) (fun _=>false) (zT [9,16])) Tryz.func15 rfl (by kernel_rfl) (by kernel_rfl) h
def sh_r_Program(p0:Value)(w:World)(R:Ending->World->Prop):Prop:=
 xC 15 #[p0] w R fun x13 w1=>
 xrE x13 0 w1 R fun x14=>
 xrE x13 1 w1 R fun x15=>
 xrE x13 2 w1 R fun x16=>
 xrO .eql 62 17 x14 (.pointer none) w1 R fun x18=>
 BS x18 (R (.returned (.tuple #[(.slice none 0 0),x15,x16])) w1) (JS (fun j=>
 LoopW (fun rec s_1 d_1 v2=>
 xH 67 4 32 x14 v2 R fun x24=>
 xrO .eql 32 24 x24 (.int .i64 0) v2 R fun x25=>
 BS x25 (xC 16 #[x14] v2 R fun x27 v3=>
 xwA 69 v3 R fun x9 v4=>
 xuS 69 x9 x27 v4 R fun v5=>
 xG 69 0 5 x9 v5 R fun x29=>
 xrO .eql 5 29 x29 (.int .u8 101) v5 R fun x30=>
 BS x30 (R (.returned (.tuple #[(s_1 8),(.int .i64 0),(.int .i64 (-1))])) v5) (xrN 23 ((s_1 8)) v5 R fun x33=>
 xrO .eql 3 33 x33 (.int .i64 40) v5 R fun x34=>
 BS x34 (xG 69 2 3 x9 v5 R fun x37=>
 xC 17 #[x14,(.int .i64 4),x37] v5 R fun x38 v6=>
 j (sOf []) v6) (xC 18 #[x14] v5 R fun x40 v7=>
 xwA 43 v7 R fun x10 v8=>
 xuS 43 x10 x40 v8 R fun v9=>
 xrL 43 x10 v9 R fun x42=>
 WR Tryz.prog (Instr.buildSlice 23 1 #[(0,x42)]) v9 (fun x43 v10=>
 WR Tryz.prog (Builtin.append_ #[23,23] 23 #[(s_1 8),x43]) v10 (fun x44 v11=>
 rec (sOf [(8,x44)]) v11) (PX R)) (PX R)))) (j (sOf []) v2))
 (sOf [(8,(.slice none 0 0))]) w1)
 (fun s d v1=>
 nH 67 4 32 x14 v1.drew fun x48=>
 nH 67 5 3 x14 v1.drew fun x52=>
 R (.returned (.tuple #[(.slice none 0 0),x48,x52])) v1.drew))
theorem sh_r_Program_ok(h:sh_r_Program p0 w R):Calls Tryz.prog 7 #[p0] w R:=
 cq (args:=[p0]) (good (zL [(5,[8])]) (zO [(12007,[])]) (zN [(13,11)]) (fun _=>none) (zL [(5,[])]) (zL [(12007,[])]) (zT [12007]) (zT [18,25,30,34])) Tryz.func7 rfl (by kernel_rfl) (by kernel_rfl) h
def sh_r_lex(p0:Value)(w:World)(R:Ending->World->Prop):Prop:=
 xC 64 #[] w R fun x13 w1=>
 LoopW (fun rec s d v1=>
 xrN 9 p0 v1 R fun x16=>
 xrT .lss 3 14 16 (s 6) x16 v1 R fun x17=>
 BS x17 (RD Tryz.prog (Instr.index 9 p0 (s 6)) v1 (fun x20=>
 JS (fun j=>
 JS (fun j_1=>
 xrO .eql 5 21 x20 (.int .u8 32) v1 R fun x22=>BS x22 (
 j_1 (sOf [(26,(.bool true))]) v1) (
 xrO .eql 5 24 x20 (.int .u8 10) v1 R fun x25=>
 j_1 (sOf [(26,x25)]) v1))
 (fun s_2 d_2 v3=>
 BS (s_2 26) (xrO .add 3 27 (s 6) (.int .i64 1) v3 R fun x28=>
 rec (sOf [(4,(s 4)),(6,x28)]) v3) (j (sOf [(6,(s 6))]) v3)))
 (fun s_1 d_1 v2=>
 JS (fun j_2=>
 LoopW (fun rec_1 s_4 d_4 v5=>
 xrN 9 p0 v5 R fun x32=>
 xrT .lss 3 30 32 (s_4 8) x32 v5 R fun x33=>BS x33 (
 RD Tryz.prog (Instr.index 9 p0 (s_4 8)) v5 (fun x37=>
 xC 65 #[x37] v5 R fun x38 v6=>
 xrO .neq 5 38 x38 (.int .u8 0) v6 R fun x39=>
 BS x39 (xrO .add 3 41 (s_4 8) (.int .i64 1) v6 R fun x42=>
 rec_1 (sOf [(8,x42)]) v6) (j_2 (sOf [(8,(s_4 8))]) v6)) (PX R)) (
 BS (.bool false) (xrO .add 3 41 (s_4 8) (.int .i64 1) v5 R fun x42_1=>
 rec_1 (sOf [(8,x42_1)]) v5) (j_2 (sOf [(8,(s_4 8))]) v5)))
 (sOf [(8,(s_1 6))]) v2)
 (fun s_3 d_3 v4=>
 xrT .gtr 3 43 44 (s_3 8) (s_1 6) v4 R fun x45=>
 BS x45 (RD Tryz.prog (Instr.sliceAt 9 p0 (some (s_1 6)) (some (s_3 8)) none) v4 (fun x49=>
 xC 66 #[x49,(s_1 6)] v4 R fun x51 v7=>
 xwA 69 v7 R fun x9 v8=>
 xuS 69 x9 x51 v8 R fun v9=>
 xG 69 0 5 x9 v9 R fun x53=>
 xrO .eql 5 53 x53 (.int .u8 0) v9 R fun x54=>
 BS x54 (R (.returned (.tuple #[(.slice none 0 0),(s_1 6)])) v9) (xrL 69 x9 v9 R fun x57=>
 WR Tryz.prog (Instr.buildSlice 65 1 #[(0,x57)]) v9 (fun x58 v10=>
 WR Tryz.prog (Builtin.append_ #[65,65] 65 #[(s 4),x58]) v10 (fun x59 v11=>
 rec (sOf [(4,x59),(6,(s_3 8))]) v11) (PX R)) (PX R))) (PX R)) (JS (fun j_3=>
 JS (fun j_4=>
 xrO .eql 5 61 x20 (.int .u8 46) v4 R fun x62=>BS x62 (
 xrO .add 3 64 (s_1 6) (.int .i64 1) v4 R fun x65=>
 xrN 9 p0 v4 R fun x67=>
 xrT .eql 3 65 67 x65 x67 v4 R fun x68=>BS x68 (
 j_4 (sOf [(83,(.bool true))]) v4) (
 xrO .add 3 71 (s_1 6) (.int .i64 1) v4 R fun x72=>
 RD Tryz.prog (Instr.index 9 p0 x72) v4 (fun x73=>
 xrO .eql 5 73 x73 (.int .u8 32) v4 R fun x74=>BS x74 (
 j_4 (sOf [(83,(.bool true))]) v4) (
 xrO .add 3 78 (s_1 6) (.int .i64 1) v4 R fun x79=>
 RD Tryz.prog (Instr.index 9 p0 x79) v4 (fun x80=>
 xrO .eql 5 80 x80 (.int .u8 10) v4 R fun x81=>
 j_4 (sOf [(83,x81)]) v4) (PX R))) (PX R))) (
 j_4 (sOf [(83,(.bool false))]) v4))
 (fun s_6 d_6 v13=>
 BS (s_6 83) (j_3 (sOf [(10,(.string (bs [46])))]) v13) (j_3 (sOf [(10,(.string (bs [])))]) v13)))
 (fun s_5 d_5 v12=>
 JS (fun j_5=>
 LoopW (fun rec_2 s_8 d_8 v15=>
 xrN 41 x13 v15 R fun x86=>
 xrT .lss 3 84 86 (s_8 11) x86 v15 R fun x87=>BS x87 (
 xrO .eql 9 89 (s_8 10) (.string (bs [])) v15 R fun x90=>
 BS x90 (JS (fun j_6=>
 xrI 41 x13 (s_8 11) v15 R fun x96=>
 xrL 9 x96 v15 R fun x97=>
 JS (fun j_7=>
 xrN 9 x97 v15 R fun x100=>
 xrT .add 3 98 100 (s_1 6) x100 v15 R fun x101=>
 xrN 9 p0 v15 R fun x103=>
 xrT .leq 3 101 103 x101 x103 v15 R fun x104=>BS x104 (
 xrN 9 x97 v15 R fun x110=>
 xrT .add 3 108 110 (s_1 6) x110 v15 R fun x111=>
 RD Tryz.prog (Instr.sliceAt 9 p0 (some (s_1 6)) (some x111) none) v15 (fun x112=>
 xrT .eql 9 112 113 x112 x97 v15 R fun x114=>
 j_7 (sOf [(115,x114)]) v15) (PX R)) (
 j_7 (sOf [(115,(.bool false))]) v15))
 (fun s_10 d_10 v17=>
 BS (s_10 115) (j_6 (sOf [(10,x97)]) v17) (j_6 (sOf [(10,(s_8 10))]) v17)))
 (fun s_9 d_9 v16=>
 xrO .add 3 92 (s_8 11) (.int .i64 1) v16 R fun x93=>
 rec_2 (sOf [(10,(s_9 10)),(11,x93)]) v16)) (j_5 (sOf [(10,(s_8 10))]) v15)) (
 BS (.bool false) (JS (fun j_8=>
 xrI 41 x13 (s_8 11) v15 R fun x96_1=>
 xrL 9 x96_1 v15 R fun x97_1=>
 JS (fun j_9=>
 xrN 9 x97_1 v15 R fun x100_1=>
 xrT .add 3 98 100 (s_1 6) x100_1 v15 R fun x101_1=>
 xrN 9 p0 v15 R fun x103_1=>
 xrT .leq 3 101 103 x101_1 x103_1 v15 R fun x104_1=>BS x104_1 (
 xrN 9 x97_1 v15 R fun x110_1=>
 xrT .add 3 108 110 (s_1 6) x110_1 v15 R fun x111_1=>
 RD Tryz.prog (Instr.sliceAt 9 p0 (some (s_1 6)) (some x111_1) none) v15 (fun x112_1=>
 xrT .eql 9 112 113 x112_1 x97_1 v15 R fun x114_1=>
 j_9 (sOf [(115,x114_1)]) v15) (PX R)) (
 j_9 (sOf [(115,(.bool false))]) v15))
 (fun s_12 d_12 v19=>
 BS (s_12 115) (j_8 (sOf [(10,x97_1)]) v19) (j_8 (sOf [(10,(s_8 10))]) v19)))
 (fun s_11 d_11 v18=>
 xrO .add 3 92 (s_8 11) (.int .i64 1) v18 R fun x93_1=>
 rec_2 (sOf [(10,(s_11 10)),(11,x93_1)]) v18)) (j_5 (sOf [(10,(s_8 10))]) v15)))
 (sOf [(10,(s_5 10)),(11,(.int .i64 0))]) v12)
 (fun s_7 d_7 v14=>
 xrO .eql 9 117 (s_7 10) (.string (bs [])) v14 R fun x118=>
 BS x118 (R (.returned (.tuple #[(.slice none 0 0),(s_1 6)])) v14) (xrD 69 #[(0,(.int .u8 115)),(1,(s_7 10)),(2,(s_1 6))] v14 R fun x123=>
 WR Tryz.prog (Instr.buildSlice 65 1 #[(0,x123)]) v14 (fun x124 v20=>
 WR Tryz.prog (Builtin.append_ #[65,65] 65 #[(s 4),x124]) v20 (fun x125 v21=>
 xrN 9 ((s_7 10)) v21 R fun x128=>
 xrT .add 3 126 128 (s_1 6) x128 v21 R fun x129=>
 rec (sOf [(4,x125),(6,x129)]) v21) (PX R)) (PX R)))))))) (PX R)) (xrN 9 p0 v1 R fun x132=>
 xrD 69 #[(0,(.int .u8 101)),(2,x132)] v1 R fun x133=>
 WR Tryz.prog (Instr.buildSlice 65 1 #[(0,x133)]) v1 (fun x134 v22=>
 WR Tryz.prog (Builtin.append_ #[65,65] 65 #[(s 4),x134]) v22 (fun x135 v23=>
 R (.returned (.tuple #[x135,(.int .i64 (-1))])) v23) (PX R)) (PX R)))
 (sOf [(4,(.slice none 0 0)),(6,(.int .i64 0))]) w1
theorem sh_r_lex_ok(h:sh_r_lex p0 w R):Calls Tryz.prog 32 #[p0] w R:=
 cq (args:=[p0]) (good (zL [(4,[4,6]),(9,[8]),(21,[10,11])]) (zO [(6000,[26]),(7001,[6]),(10001,[8]),(18000,[83]),(19001,[10]),(22005,[10]),(24000,[115]),(25002,[10])]) (fun _=>0) (fun _=>none) (zL [(4,[]),(9,[]),(21,[])]) (zL [(6000,[]),(7001,[]),(10001,[]),(18000,[]),(19001,[]),(22005,[]),(24000,[]),(25002,[])]) (zT [6000,7001,10001,18000,19001,22005,24000,25002]) (zT [17,25,26,39,40,45,54,81,82,83,90,91,114,115,118])) Tryz.func32 rfl (by kernel_rfl) (by kernel_rfl) h
def sh_r_word(p0 p1:Value)(w:World)(R:Ending->World->Prop):Prop:=
 xwA 69 w R fun x4 w1=>
 RD Tryz.prog (Instr.index 9 p0 (.int .i64 0)) w1 (fun x8=>
 xC 65 #[x8] w1 R fun x9 v1=>
 JN (fun j=>
 xrO .eql 5 10 x9 (.int .u8 115) v1 R fun x11=>BS x11 (
 xrN 9 p0 v1 R fun x14=>
 xrO .leq 3 14 x14 (.int .i64 8) v1 R fun x15=>
 j (sOf [(16,x15)]) v1) (
 j (sOf [(16,(.bool false))]) v1))
 (fun s d v2=>
 BS (s 16) (xrD 69 #[(0,(.int .u8 97)),(1,p0),(2,p1)] v2 R fun x19=>
 xuS 69 x4 x19 v2 R fun v3=>
 nrL 69 x4 v3 fun r=>R (.returned r) v3) (JN (fun j_1=>
 xrO .eql 5 20 x9 (.int .u8 99) v2 R fun x21=>BS x21 (
 xrN 9 p0 v2 R fun x24=>
 xrO .leq 3 24 x24 (.int .i64 8) v2 R fun x25=>
 j_1 (sOf [(26,x25)]) v2) (
 j_1 (sOf [(26,(.bool false))]) v2))
 (fun s_1 d_1 v4=>
 BS (s_1 26) (xrD 69 #[(0,(.int .u8 118)),(1,p0),(2,p1)] v4 R fun x29=>
 xuS 69 x4 x29 v4 R fun v5=>
 nrL 69 x4 v5 fun r_1=>R (.returned r_1) v5) (JN (fun j_2=>
 xrO .neq 5 30 x9 (.int .u8 100) v4 R fun x31=>BS x31 (
 j_2 (sOf [(46,(.bool true))]) v4) (
 xrN 9 p0 v4 R fun x34=>
 xrO .gtr 3 34 x34 (.int .i64 9) v4 R fun x35=>BS x35 (
 j_2 (sOf [(46,(.bool true))]) v4) (
 RD Tryz.prog (Instr.index 9 p0 (.int .i64 0)) v4 (fun x39=>
 xrO .eql 5 39 x39 (.int .u8 48) v4 R fun x40=>BS x40 (
 xrN 9 p0 v4 R fun x43=>
 xrO .gtr 3 43 x43 (.int .i64 1) v4 R fun x44=>
 j_2 (sOf [(46,x44)]) v4) (
 j_2 (sOf [(46,(.bool false))]) v4)) (PX R))))
 (fun s_2 d_2 v6=>
 BS (s_2 46) (xrD 69 #[] v6 R fun x47=>
 xuS 69 x4 x47 v6 R fun v7=>
 nrL 69 x4 v7 fun r_2=>R (.returned r_2) v7) (LoopW (fun rec s_3 d_3 v8=>
 xrN 9 p0 v8 R fun x50=>
 xrT .lss 3 48 50 (s_3 6) x50 v8 R fun x51=>
 BS x51 (JN (fun j_3=>
 RD Tryz.prog (Instr.index 9 p0 (s_3 6)) v8 (fun x56=>
 xrO .lss 5 56 x56 (.int .u8 48) v8 R fun x57=>BS x57 (
 j_3 (sOf [(63,(.bool true))]) v8) (
 RD Tryz.prog (Instr.index 9 p0 (s_3 6)) v8 (fun x61=>
 xrO .gtr 5 61 x61 (.int .u8 57) v8 R fun x62=>
 j_3 (sOf [(63,x62)]) v8) (PX R))) (PX R))
 (fun s_4 d_4 v9=>
 BS (s_4 63) (xrD 69 #[] v9 R fun x64=>
 xuS 69 x4 x64 v9 R fun v10=>
 nrL 69 x4 v10 fun r_3=>R (.returned r_3) v10) (xrO .add 3 52 (s_3 6) (.int .i64 1) v9 R fun x53=>
 rec (sOf [(6,x53)]) v9))) (xrD 69 #[(0,(.int .u8 110)),(1,p0),(2,p1)] v8 R fun x67=>
 xuS 69 x4 x67 v8 R fun v11=>
 nrL 69 x4 v11 fun r_4=>R (.returned r_4) v11))
 (sOf [(6,(.int .i64 0))]) v6))))))) (PX R)
theorem sh_r_word_ok(h:sh_r_word p0 p1 w R):Calls Tryz.prog 66 #[p0,p1] w R:=
 cq (args:=[p0,p1]) (good (zL [(9,[6])]) (zO [(2000,[16]),(4000,[26]),(6000,[46]),(11000,[63])]) (fun _=>0) (fun _=>none) (zL [(9,[])]) (zL [(2000,[]),(4000,[]),(6000,[]),(11000,[])]) (fun _=>false) (zT [15,16,25,26,44,45,46,51,62,63])) Tryz.func66 rfl (by kernel_rfl) (by kernel_rfl) h
def sh_r_class(p0:Value)(w:World)(R:Ending->World->Prop):Prop:=
 JN (fun j=>
 xrO .geq 5 3 p0 (.int .u8 97) w R fun x4=>BS x4 (
 xrO .leq 5 6 p0 (.int .u8 122) w R fun x7=>
 j (sOf [(8,x7)]) w) (
 j (sOf [(8,(.bool false))]) w))
 (fun s d w1=>
 BS (s 8) (R (.returned (.int .u8 115)) w1) (JN (fun j_1=>
 xrO .geq 5 9 p0 (.int .u8 65) w1 R fun x10=>BS x10 (
 xrO .leq 5 12 p0 (.int .u8 90) w1 R fun x13=>BS x13 (
 j_1 (sOf [(18,(.bool true))]) w1) (
 xrO .eql 5 16 p0 (.int .u8 95) w1 R fun x17=>
 j_1 (sOf [(18,x17)]) w1)) (
 xrO .eql 5 16 p0 (.int .u8 95) w1 R fun x17_1=>
 j_1 (sOf [(18,x17_1)]) w1))
 (fun s_1 d_1 v1=>
 BS (s_1 18) (R (.returned (.int .u8 99)) v1) (JN (fun j_2=>
 xrO .geq 5 19 p0 (.int .u8 48) v1 R fun x20=>BS x20 (
 xrO .leq 5 22 p0 (.int .u8 57) v1 R fun x23=>
 j_2 (sOf [(24,x23)]) v1) (
 j_2 (sOf [(24,(.bool false))]) v1))
 (fun s_2 d_2 v2=>
 BS (s_2 24) (R (.returned (.int .u8 100)) v2) (R (.returned (.int .u8 0)) v2))))))
theorem sh_r_class_ok(h:sh_r_class p0 w R):Calls Tryz.prog 65 #[p0] w R:=
 cq (args:=[p0]) (good (fun _=>[]) (zO [(1000,[8]),(3000,[18]),(5000,[24])]) (fun _=>0) (fun _=>none) (fun _=>[]) (zL [(1000,[]),(3000,[]),(5000,[])]) (fun _=>false) (zT [7,8,17,18,23,24])) Tryz.func65 rfl (by kernel_rfl) (by kernel_rfl) h
def sh_r_signs(w:World)(R:Ending->World->Prop):Prop:=
 WR Tryz.prog (Instr.buildSlice 41 23 #[(0,(.string (bs [61,58,61]))),(1,(.string (bs [58,45]))),(2,(.string (bs [45,62]))),(3,(.string (bs [92,43]))),(4,(.string (bs [92,61]))),(5,(.string (bs [61,61]))),(6,(.string (bs [61,60]))),(7,(.string (bs [62,61]))),(8,(.string (bs [47,47]))),(9,(.string (bs [40]))),(10,(.string (bs [41]))),(11,(.string (bs [91]))),(12,(.string (bs [93]))),(13,(.string (bs [44]))),(14,(.string (bs [124]))),(15,(.string (bs [59]))),(16,(.string (bs [33]))),(17,(.string (bs [61]))),(18,(.string (bs [60]))),(19,(.string (bs [62]))),(20,(.string (bs [43]))),(21,(.string (bs [45]))),(22,(.string (bs [42])))]) w (fun x1 w1=>
 R (.returned x1) w1) (PX R)
theorem sh_r_signs_ok(h:sh_r_signs  w R):Calls Tryz.prog 64 #[] w R:=
 cq (args:=[]) (good (fun _=>[]) (fun _=>none) (fun _=>0) (fun _=>none) (fun _=>[]) (fun _=>[]) (fun _=>false) (fun _=>false)) Tryz.func64 rfl (by kernel_rfl) (by kernel_rfl) h
end
end Go.Proofs.YtilpjhceemaplaaGreatDoor
namespace Go.Proofs.YtilpjhceemaplaaGreatDoor
open Go.RowKit Sx
def zb27:=(zA zG0 @sh_r_class.eq_1)
theorem rClass (c:UInt8) (w:World):Calls Tryz.prog 65 #[.int .u8 c.toNat] w fun e w'=>e = .returned (.int .u8 (P.cls c))/\w'=w:=by
 have hc:=c.toNat_lt
 unfold P.cls
 generalize c.toNat=q at *
 by_cases h1:97≤q
 ·by_cases h2:q≤122
  ·rw[if_pos ⟨h1,h2⟩]
   refine sh_r_class_ok ?_
   simp (disch:=first|assumption|omega|simp only[zS]<;>omega|decide) only[zb27,Nat.reduceAdd,Nat.reduceMul,Nat.reduceLeDiff,Nat.reduceEqDiff,Int.reduceToNat,Int.reduceAdd,Int.reduceLT,Int.reduceLE,↓reduceIte]
   rfl
  ·rw[if_neg (by omega),if_neg (by omega),if_neg (by omega)]
   refine sh_r_class_ok ?_
   simp (disch:=first|assumption|omega|simp only[zS]<;>omega|decide) only[zb27,Nat.reduceAdd,Nat.reduceMul,Nat.reduceLeDiff,Nat.reduceEqDiff,Int.reduceToNat,Int.reduceAdd,Int.reduceLT,Int.reduceLE,↓reduceIte]
   rfl
 ·rw[if_neg (by omega)]
  by_cases h3:65≤q/\q≤90
  ·rw[if_pos (.inl h3)]
   obtain⟨h3,h4⟩:=h3
   refine sh_r_class_ok ?_
   simp (disch:=first|assumption|omega|simp only[zS]<;>omega|decide) only[zb27,Nat.reduceAdd,Nat.reduceMul,Nat.reduceLeDiff,Nat.reduceEqDiff,Int.reduceToNat,Int.reduceAdd,Int.reduceLT,Int.reduceLE,↓reduceIte]
   rfl
  ·by_cases h5:q=95
   ·subst h5
    rw[if_pos (.inr rfl)]
    refine sh_r_class_ok ?_
    simp (disch:=first|assumption|omega|simp only[zS]<;>omega|decide) only[zb27,Nat.reduceAdd,Nat.reduceMul,Nat.reduceLeDiff,Nat.reduceEqDiff,Int.reduceToNat,Int.reduceAdd,Int.reduceLT,Int.reduceLE,↓reduceIte]
    rfl
   ·rw[if_neg (by omega)]
    by_cases h6:65≤q
    ·rw[if_neg (by omega)]
     refine sh_r_class_ok ?_
     simp (disch:=first|assumption|omega|simp only[zS]<;>omega|decide) only[zb27,Nat.reduceAdd,Nat.reduceMul,Nat.reduceLeDiff,Nat.reduceEqDiff,Int.reduceToNat,Int.reduceAdd,Int.reduceLT,Int.reduceLE,↓reduceIte]
     rfl
    ·by_cases h7:48≤q
     ·by_cases h8:q≤57
      ·rw[if_pos ⟨h7,h8⟩]
       refine sh_r_class_ok ?_
       simp (disch:=first|assumption|omega|simp only[zS]<;>omega|decide) only[zb27,Nat.reduceAdd,Nat.reduceMul,Nat.reduceLeDiff,Nat.reduceEqDiff,Int.reduceToNat,Int.reduceAdd,Int.reduceLT,Int.reduceLE,↓reduceIte]
       rfl
      ·rw[if_neg (by omega)]
       refine sh_r_class_ok ?_
       simp (disch:=first|assumption|omega|simp only[zS]<;>omega|decide) only[zb27,Nat.reduceAdd,Nat.reduceMul,Nat.reduceLeDiff,Nat.reduceEqDiff,Int.reduceToNat,Int.reduceAdd,Int.reduceLT,Int.reduceLE,↓reduceIte]
       rfl
     ·rw[if_neg (by omega)]
      refine sh_r_class_ok ?_
      simp (disch:=first|assumption|omega|simp only[zS]<;>omega|decide) only[zb27,Nat.reduceAdd,Nat.reduceMul,Nat.reduceLeDiff,Nat.reduceEqDiff,Int.reduceToNat,Int.reduceAdd,Int.reduceLT,Int.reduceLE,↓reduceIte]
      rfl
def zb28:=(zA zG0 (zA @sh_r_signs.eq_1 @br_41_23))
theorem rSigns (w:World):Calls Tryz.prog 64 #[] w fun e w'=>e = .returned (.slice (some ⟨w.heap.size,0,none⟩) 23 23)/\w'=w.alloc (.cells (P.signs.map fun s=>.string (bs s)).toArray 9):=by
 refine sh_r_signs_ok ?_
 simp (disch:=first|assumption|omega|simp only[zS]<;>omega|decide) only[zb28,simprocAttr]
 rfl
def wordV(s:P.Bs)(at_:Nat):Value:=if P.wordKind s=0 then .agg #[.int .u8 0,.string (bs []),zi 0] else .agg #[.int .u8 (rk (P.wordKind s)),.string (bs s),zi at_]
def zb29:=(zA zG0 (zA @sh_r_word.eq_1 (zA @al_69 (zA @bd_69 (zA @ch_9 (zA @ld_69 (zA @ln_9 @st_69)))))))
theorem rWord (c:UInt8) (r:P.Bs) (hl:(c::r).length≤100000) (at_:Nat) (w:World) :
  Calls Tryz.prog 66 #[.string (bs (c::r)),zi at_] w fun e w'=>e = .returned (wordV (c::r) at_)/\Ext w w':=by
 have hf0:Ext w (w.alloc (.cells #[.int .u8 0,.string (bs []),zi 0] 69)):=by(repeat (first | assumption | exact FrM.refl _ _ | (refine FrM.upd ?_ (.inr (by(try simp only[zS])<;>omega))) | refine FrM.alloc ?_ _ | refine FrM.drew ?_))
 have hg0:(c::r).getD 0 0=c:=rfl
 have hn:0<(c::r).length:=by simp
 have hln:(c::r).length=r.length+1:=rfl
 have hr0:r=[]↔¬ (1<(c::r).length):=by cases r<;>simp
 have hc:=c.toNat_lt
 have h48:c=48↔c.toNat=48:=by rw[<- UInt8.toNat_inj];rfl
 have hwk:P.wordKind (c::r)=if P.cls c=115 then(if (c::r).length≤8 then 1 else 0) else if P.cls c=99 then(if (c::r).length≤8 then 2 else 0)
  else if (c::r).length≤9/\(c::r).all P.digit=true/\(c≠48\/r=[]) then 3 else 0:=rfl
 obtain⟨s,hs⟩:∃ s,s=c::r:=⟨_,rfl⟩
 rw[<- hs] at hl hg0 hn hln hr0 hwk ⊢
 unfold wordV
 rw[hwk]
 by_cases h1:P.cls c=115
 ·rw[if_pos h1]
  by_cases h8:s.length≤8
  ·rw[if_pos h8,if_neg (by decide)]
   refine sh_r_word_ok ?_
   simp (disch:=first|assumption|omega|simp only[zS]<;>omega|decide) only[zb29,simprocAttr,hg0]
   refine(rClass c _).mono ?_
   rintro e w1 ⟨rfl,rfl⟩
   rw[h1]
   simp (disch:=first|assumption|omega|simp only[zS]<;>omega|decide) only[zb29,simprocAttr]
   refine⟨rfl,?_⟩
   (repeat (first | assumption | exact FrM.refl _ _ | (refine FrM.upd ?_ (.inr (by(try simp only[zS])<;>omega))) | refine FrM.alloc ?_ _ | refine FrM.drew ?_))
  ·rw[if_neg h8,if_pos rfl]
   refine sh_r_word_ok ?_
   simp (disch:=first|assumption|omega|simp only[zS]<;>omega|decide) only[zb29,simprocAttr,hg0]
   refine(rClass c _).mono ?_
   rintro e w1 ⟨rfl,rfl⟩
   rw[h1]
   simp (disch:=first|assumption|omega|simp only[zS]<;>omega|decide) only[zb29,simprocAttr]
   (repeat (first | assumption | exact FrM.refl _ _ | (refine FrM.upd ?_ (.inr (by(try simp only[zS])<;>omega))) | refine FrM.alloc ?_ _ | refine FrM.drew ?_))
 rw[if_neg h1]
 by_cases h2:P.cls c=99
 ·rw[if_pos h2]
  by_cases h8:s.length≤8
  ·rw[if_pos h8,if_neg (by decide)]
   refine sh_r_word_ok ?_
   simp (disch:=first|assumption|omega|simp only[zS]<;>omega|decide) only[zb29,simprocAttr,hg0]
   refine(rClass c _).mono ?_
   rintro e w1 ⟨rfl,rfl⟩
   rw[h2]
   simp (disch:=first|assumption|omega|simp only[zS]<;>omega|decide) only[zb29,simprocAttr]
   refine⟨rfl,?_⟩
   (repeat (first | assumption | exact FrM.refl _ _ | (refine FrM.upd ?_ (.inr (by(try simp only[zS])<;>omega))) | refine FrM.alloc ?_ _ | refine FrM.drew ?_))
  ·rw[if_neg h8,if_pos rfl]
   refine sh_r_word_ok ?_
   simp (disch:=first|assumption|omega|simp only[zS]<;>omega|decide) only[zb29,simprocAttr,hg0]
   refine(rClass c _).mono ?_
   rintro e w1 ⟨rfl,rfl⟩
   rw[h2]
   simp (disch:=first|assumption|omega|simp only[zS]<;>omega|decide) only[zb29,simprocAttr]
   (repeat (first | assumption | exact FrM.refl _ _ | (refine FrM.upd ?_ (.inr (by(try simp only[zS])<;>omega))) | refine FrM.alloc ?_ _ | refine FrM.drew ?_))
 rw[if_neg h2]
 have hdig:s.all P.digit=true->P.cls c=100:=fun h=>by
  rw[hs,List.all_cons,Bool.and_eq_true] at h
  have:=h.1
  simp only[P.digit,decide_eq_true_eq] at this
  unfold P.cls
  rw[if_neg (by omega),if_neg (by omega),if_pos this]
 by_cases h3:P.cls c=100
 ·by_cases h9:s.length≤9
  ·by_cases hz:c.toNat=48/\1<s.length
   ·have hb:¬ (s.length≤9/\s.all P.digit=true/\(c≠48\/r=[])):=fun h=>h.2.2.elim (fun e=>e (h48.2 hz.1)) (fun e=>hr0.1 e hz.2)
    rw[if_neg hb,if_pos (show(0:Nat)=0 from rfl)]
    obtain⟨hz1,hz2⟩:=hz
    refine sh_r_word_ok ?_
    simp (disch:=first|assumption|omega|simp only[zS]<;>omega|decide) only[zb29,simprocAttr,hg0]
    refine(rClass c _).mono ?_
    rintro e w1 ⟨rfl,rfl⟩
    rw[h3]
    simp (disch:=first|assumption|omega|simp only[zS]<;>omega|decide) only[zb29,simprocAttr,hg0,hz1]
    (repeat (first | assumption | exact FrM.refl _ _ | (refine FrM.upd ?_ (.inr (by(try simp only[zS])<;>omega))) | refine FrM.alloc ?_ _ | refine FrM.drew ?_))
   ·have hz':¬ c.toNat=48\/¬ 1<s.length:=by omega
    refine sh_r_word_ok ?_
    simp (disch:=first|assumption|omega|simp only[zS]<;>omega|decide) only[zb29,simprocAttr,hg0]
    refine(rClass c _).mono ?_
    rintro e w1 ⟨rfl,rfl⟩
    rw[h3]
    have hcr:c≠48\/r=[]:=hz'.elim (fun h=>.inl fun e=>h (h48.1 e)) (fun h=>.inr (hr0.2 h))
    rcases Decidable.em (c.toNat=48) with h0 | h0
    all_goals
     first
      | (have hz2:=hz'.resolve_left (fun h=>h h0);simp (disch:=first|assumption|omega|simp only[zS]<;>omega|decide) only[zb29,simprocAttr,hg0,h0])
      | simp (disch:=first|assumption|omega|simp only[zS]<;>omega|decide) only[zb29,simprocAttr,hg0]
     refine⟨fun n t w1=>∃ j:Nat,j≤s.length/\n=s.length-j/\t 6=zi j/\w1=w.alloc (.cells #[.int .u8 0,.string (bs []),zi 0] 69)/\∀ i,i<j->P.digit (s.getD i 0)=true,⟨s.length,0,Nat.zero_le _,rfl,rfl,rfl,fun i hi=>absurd hi (Nat.not_lt_zero _)⟩,?_⟩
     intro n t dd w1 hI
     refine toPr ?_
     obtain⟨j,hj,rfl,h6,rfl,hall⟩:=hI
     by_cases hlt:j<s.length
     ·by_cases hd:P.digit (s.getD j 0)=true
      ·have hd':=hd
       simp only[P.digit,decide_eq_true_eq] at hd'
       obtain⟨hd1,hd2⟩:=hd'
       simp (disch:=first|assumption|omega|simp only[zS]<;>omega|decide) only[zb29,simprocAttr,h6]
       refine⟨s.length-(j+1),by omega,j+1,by omega,rfl,rfl,fun i hi=>?_⟩
       rcases Nat.lt_or_ge i j with h | h
       ·exact hall i h
       ·obtain rfl:i=j:=by omega
        exact hd
      ·have hb:¬ (s.length≤9/\s.all P.digit=true/\(c≠48\/r=[])):=fun h=>hd (by
        have:=List.all_eq_true.1 h.2.1 _ (List.getElem_mem hlt)
        simpa [List.getD,hlt] using this)
       rw[if_neg hb,if_pos (show(0:Nat)=0 from rfl)]
       simp only[P.digit,decide_eq_true_eq] at hd
       have hcl:=(s.getD j 0).toNat_lt
       by_cases hlo:(s.getD j 0).toNat<48
       ·simp (disch:=first|assumption|omega|simp only[zS]<;>omega|decide) only[zb29,simprocAttr,h6]
        (repeat (first | assumption | exact FrM.refl _ _ | (refine FrM.upd ?_ (.inr (by(try simp only[zS])<;>omega))) | refine FrM.alloc ?_ _ | refine FrM.drew ?_))
       ·simp (disch:=first|assumption|omega|simp only[zS]<;>omega|decide) only[zb29,simprocAttr,h6]
        (repeat (first | assumption | exact FrM.refl _ _ | (refine FrM.upd ?_ (.inr (by(try simp only[zS])<;>omega))) | refine FrM.alloc ?_ _ | refine FrM.drew ?_))
     ·have hb:s.length≤9/\s.all P.digit=true/\(c≠48\/r=[]):=⟨h9,by
       rw[List.all_eq_true]
       intro x hx
       obtain⟨i,hi,e⟩:=List.getElem_of_mem hx
       have:=hall i (by omega)
       rw[<- e]
       simpa [List.getD,hi] using this,hcr⟩
      rw[if_pos hb,if_neg (show ¬ (3:Nat)=0 by decide)]
      simp (disch:=first|assumption|omega|simp only[zS]<;>omega|decide) only[zb29,simprocAttr,h6]
      refine⟨rfl,?_⟩
      (repeat (first | assumption | exact FrM.refl _ _ | (refine FrM.upd ?_ (.inr (by(try simp only[zS])<;>omega))) | refine FrM.alloc ?_ _ | refine FrM.drew ?_))
  ·have hb:¬ (s.length≤9/\s.all P.digit=true/\(c≠48\/r=[])):=fun h=>h9 h.1
   rw[if_neg hb,if_pos (show(0:Nat)=0 from rfl)]
   refine sh_r_word_ok ?_
   simp (disch:=first|assumption|omega|simp only[zS]<;>omega|decide) only[zb29,simprocAttr,hg0]
   refine(rClass c _).mono ?_
   rintro e w1 ⟨rfl,rfl⟩
   rw[h3]
   simp (disch:=first|assumption|omega|simp only[zS]<;>omega|decide) only[zb29,simprocAttr]
   (repeat (first | assumption | exact FrM.refl _ _ | (refine FrM.upd ?_ (.inr (by(try simp only[zS])<;>omega))) | refine FrM.alloc ?_ _ | refine FrM.drew ?_))
 ·have hz:¬ (s.length≤9/\s.all P.digit=true/\(c≠48\/r=[])):=fun h=>h3 (hdig h.2.1)
  rw[if_neg hz,if_pos rfl]
  have q1:¬ (P.cls c:Int)=115:=by omega
  have q2:¬ (P.cls c:Int)=99:=by omega
  have q3:¬ (P.cls c:Int)=100:=by omega
  refine sh_r_word_ok ?_
  simp (disch:=first|assumption|omega|simp only[zS]<;>omega|decide) only[zb29,simprocAttr,hg0]
  refine(rClass c _).mono ?_
  rintro e w1 ⟨rfl,rfl⟩
  generalize P.cls c=q at *
  simp (disch:=first|assumption|omega|simp only[zS]<;>omega|decide) only[zb29,simprocAttr]
  (repeat (first | assumption | exact FrM.refl _ _ | (refine FrM.upd ?_ (.inr (by(try simp only[zS])<;>omega))) | refine FrM.alloc ?_ _ | refine FrM.drew ?_))
def tcells:List P.Tok->List Value
 | []=>[]
 | t::l=>.int .u8 (rk t.kind)::.string (bs t.text)::.int .i64 t.pos::tcells l
theorem tcells_snoc:∀ (l:List P.Tok) (t:P.Tok),tcells (l++[t])=tcells l++[.int .u8 (rk t.kind),.string (bs t.text),zi t.pos]
 | [],t=>rfl
 | u::l,t=>by
  show _::_::_::tcells (l++[t])=_
  rw[tcells_snoc l t]
  rfl
theorem tcells_at:∀ (l:List P.Tok) (j:Nat),j<l.length->(tcells l)[j*3]?=some (.int .u8 (rk (P.tk l j).kind))/\(tcells l)[j*3+1]?=some (.string (bs (P.tk l j).text))/\(tcells l)[j*3+2]?=some (zi (P.tk l j).pos)
 | [],j,h=>absurd h (Nat.not_lt_zero _)
 | u::l,0,_=>⟨rfl,rfl,rfl⟩
 | u::l,j+1,h=>by
  have:=tcells_at l j (by simpa using h)
  have e:(j+1)*3=j*3+3:=by omega
  rw[e]
  exact this
theorem Tryz.infoTok:(Tryz.prog.info? 69).map (fun i=>(i.zero,i.size,i.bytes))=some (some (.agg #[.int .u8 0,.string (bs []),zi 0]),3,32):=by kernel_rfl
theorem wr_appendT{w:World}{base:Nat}{v:Value}{acc:List P.Tok}(hown:w.ownsRow base 69 3 v acc.length (tcells acc)){b m:Nat}{kd:Nat}{tx:P.Bs}{ps:Nat}{kv tv pv:Value}
  (hb:w.heap[b]?=some (.cells #[kv,tv,pv] 69)) (hk:kv = .int .u8 (rk kd)) (ht:tv = .string (bs tx)) (hp:pv=zi ps)
  (hn:acc.length≤100000) (hbase:base≤w.heap.size) {K:Value->World->Prop} {X:Value->World->Prop}
  (h:∀ v' w',w'.ownsRow base 69 3 v' (acc++([⟨kd,tx,ps⟩]:List P.Tok)).length (tcells (acc++([⟨kd,tx,ps⟩]:List P.Tok)))->w.grownBy w' v.ownBlock->(v'.ownBlock=v.ownBlock\/∀ k,v'.ownBlock=some k->w.heap.size≤k)->K v' w') :
  WR Tryz.prog (Builtin.append_ #[65,65] 65 #[v,.slice (some ⟨b,0,none⟩) 1 m]) w K X:=by
 subst hk ht hp
 obtain⟨i,hi,h0⟩:=Option.map_eq_some_iff.1 Tryz.infoTok
 simp only[Prod.mk.injEq] at h0
 obtain⟨hz,hs,hbt⟩:=h0
 refine wr_append (m:=1) (t:=65) (e:=69) (by kernel_rfl) hi hz hs hbt rfl (by decide) hown hb rfl (fun u hu=>?_) (by omega) (by decide) hbase ?_
 ·simp only[List.mem_cons,List.not_mem_nil,or_false] at hu
  rcases hu with rfl | rfl | rfl<;>rfl
 ·intro v' w' h1 h2 h3
  refine h v' w' ?_ h2 h3
  rw[tcells_snoc,List.length_append]
  exact h1
def RPostL(w:World)(r:Sum Nat (List P.Tok))(e:Ending)(w':World):Prop:=
 Ext w w'/\match r with
 | .inl i=>e = .returned (.tuple #[.slice none 0 0,.int .i64 i])
 | .inr T=>∃ v,e = .returned (.tuple #[v,.int .i64 (-1)])/\w'.ownsRow w.heap.size 69 3 v T.length (tcells T)
def zb30:=(zA zG0 (zA @sh_r_lex.eq_1 (zA @al_69 (zA @bd_69 (zA @br_65_1 (zA @ch_9 (zA @fa_69_0 (zA @ix_41 (zA @ld_5 (zA @ld_69 (zA @ld_9 (zA @ln_41 (zA @ln_9 (zA @slh_9 @st_69))))))))))))))
def zb31:=(zA zG0 (zA @sh_r_lex.eq_1 (zA @al_69 (zA @bd_69 (zA @br_65_1 (zA @ch_9 (zA @fa_69_0 (zA @ix_41 (zA @ld_5 (zA @ld_69 (zA @ld_9 (zA @ln_41 (zA @ln_9 (zA @slh_9 (zA @st_69 @bs_dec)))))))))))))))
set_option maxHeartbeats 1000000 in
theorem rLex (s:P.Bs) (w:World) (hl:s.length≤2000):Calls Tryz.prog 32 #[.string (bs s)] w (RPostL w (P.lex s)):=by
 refine sh_r_lex_ok ?_
 simp (disch:=first|assumption|omega|simp only[zS]<;>omega|decide) only[zb30,simprocAttr]
 refine(rSigns w).mono ?_
 rintro e w1 ⟨rfl,rfl⟩
 have hE1:Ext w (w.alloc (.cells (P.signs.map fun s=>.string (bs s)).toArray 9)):=by(repeat (first | assumption | exact FrM.refl _ _ | (refine FrM.upd ?_ (.inr (by(try simp only[zS])<;>omega))) | refine FrM.alloc ?_ _ | refine FrM.drew ?_))
 have g1:(w.alloc (.cells (P.signs.map fun s=>.string (bs s)).toArray 9)).heap[w.heap.size]?=some (.cells (P.signs.map fun s=>.string (bs s)).toArray 9 (0,0)):=blk_alloc_new w _
 have s1:(w.alloc (.cells (P.signs.map fun s=>.string (bs s)).toArray 9)).heap.size=w.heap.size+1:=size_alloc _ _
 generalize w.alloc (.cells (P.signs.map fun s=>.string (bs s)).toArray 9)=wS at *
 simp (disch:=first|assumption|omega|simp only[zS]<;>omega|decide) only[zb30,simprocAttr]
 refine⟨fun n t w1=>Ext wS w1/\∃ j acc f q,n=s.length-j/\j≤s.length/\acc.length≤j/\t 6=zi j/\w1.ownsRow wS.heap.size 69 3 (t 4) acc.length (tcells acc) /\
   P.lexGo f (s.drop j) j=some q/\lexFin acc q=P.lex s,⟨s.length,FrM.refl _ _,0,[],_,_,rfl,Nat.zero_le _,Nat.le_refl _,rfl,World.ownsRow_nil _ _ _ _,P.lex_eq s,?_⟩,?_⟩
 ·cases P.lex s<;>rfl
 intro n t dd w1 hI
 refine toPr ?_
 obtain⟨hE,j,acc,f,q,rfl,hj,haj,h6,hown,hq,hfin⟩:=hI
 have hs1:=hE.size
 by_cases hlt:j<s.length
 ·obtain⟨c,r,hcr⟩:∃ c r,s.drop j=c::r:=⟨s[j],s.drop (j+1),List.drop_eq_getElem_cons hlt⟩
  have hcg:s.getD j 0=c:=by
   rw[List.drop_eq_getElem_cons hlt] at hcr
   injection hcr with h _
   rw[List.getD_eq_getElem?_getD,List.getElem?_eq_getElem hlt,<- h];rfl
  have hr:s.drop (j+1)=r:=by
   rw[List.drop_eq_getElem_cons hlt] at hcr
   injection hcr
  have hc256:=c.toNat_lt
  cases f with
  | zero=>rw[P.lexGo] at hq;cases hq
  | succ f=>
  rw[hcr,P.lexGo] at hq
  have hbl:(P.blank c=true)↔((c.toNat:Int)=32\/(c.toNat:Int)=10):=by
   have e1:c=32↔c.toNat=32:=by rw[<- UInt8.toNat_inj];rfl
   have e2:c=10↔c.toNat=10:=by rw[<- UInt8.toNat_inj];rfl
   simp only[P.blank,Bool.or_eq_true,beq_iff_eq,e1,e2]
   omega
  simp (disch:=first|assumption|omega|simp only[zS]<;>omega|decide) only[zb30,simprocAttr,h6,hcg]
  refine⟨fun t2 w2=>w2=w1/\t2 6=zi j/\P.blank c=false,?_,?_⟩
  ·refine⟨fun t2 w2=>w2=w1/\t2 26 = .bool (P.blank c),?_,?_⟩
   ·simp (disch:=first|assumption|omega|simp only[zS]<;>omega|decide) only[zb31,simprocAttr,hcg]
    by_cases h32:(c.toNat:Int)=32
    ·simp [h32,hbl.2 (.inl h32)]
    ·by_cases h10:(c.toNat:Int)=10
     ·simp [h10,hbl.2 (.inr h10)]
     ·have:P.blank c=false:=by
       cases hb:P.blank c with
       | false=>rfl
       | true=>rcases hbl.1 hb with h | h<;>contradiction
      simp [h32,h10,this]
   ·rintro t2 w2 ⟨rfl,h26⟩ d2
    rw[h26]
    cases hb:P.blank c with
    | true=>
     rw[bs_true,h6]
     simp (disch:=first|assumption|omega|simp only[zS]<;>omega|decide) only[zb30,simprocAttr]
     refine⟨s.length-(j+1),by omega,hE,j+1,acc,f,q,rfl,by omega,by omega,?_,?_,?_,hfin⟩
     ·simp
     ·simpa using hown
     ·rw[if_pos hb] at hq
      rw[hr];exact hq
    | false=>
     rw[bs_false]
     refine⟨rfl,?_,rfl⟩
     simp [sOf,h6]
  ·rintro t2 w2 ⟨rfl,h26,hnb⟩ d2
   rw[if_neg (by simp [hnb])] at hq
   obtain⟨W,hW⟩:∃ W,W=((c::r).takeWhile (fun x=>P.cls x≠0)).length:=⟨_,rfl⟩
   have htw:=twhile (fun x=>P.cls x≠0) (c::r)
   rw[<- hW] at htw
   dsimp only at hq
   rw[<- hW] at hq
   obtain⟨ht1,ht2,ht3,ht4⟩:=htw
   have hlen:(c::r).length=s.length-j:=by rw[<- hcr,List.length_drop]
   rw[hlen] at ht2 ht3
   rw[<- hcr] at ht1 ht2
   simp only[getD_drop0,decide_eq_true_eq,decide_eq_false_iff_not,ne_eq,Decidable.not_not] at ht1 ht2
   refine⟨fun t3 w3=>w3=w2/\t3 8=zi ((j+W:Nat):Int),?_,?_⟩
   ·refine⟨fun n t3 w3=>w3=w2/\∃ m,n=W-m/\m≤W/\t3 8=zi ((j+m:Nat):Int),⟨W,rfl,0,rfl,Nat.zero_le _,?_⟩,?_⟩
    ·simp [sOf,h26]
    ·intro n t3 d3 w3 hI
     refine toPr ?_
     obtain⟨rfl,m,rfl,hm,h8⟩:=hI
     by_cases hjm:j+m<s.length
     ·simp (disch:=first|assumption|omega|simp only[zS]<;>omega|decide) only[zb30,simprocAttr,h8]
      refine(rClass _ _).mono ?_
      rintro e w4 ⟨rfl,rfl⟩
      by_cases hmW:m<W
      ·have hc0:¬ ((P.cls (s.getD (j+m) 0):Nat):Int)=0:=by have:=ht1 m hmW;omega
       simp (disch:=first|assumption|omega|simp only[zS]<;>omega|decide) only[zb30,simprocAttr,h8]
       exact⟨W-(m+1),by omega,m+1,rfl,by omega,by simp;omega⟩
      ·have hmW':m=W:=by omega
       subst hmW'
       have hc0:((P.cls (s.getD (j+m) 0):Nat):Int)=0:=by have:=ht2 (by omega);omega
       simp (disch:=first|assumption|omega|simp only[zS]<;>omega|decide) only[zb30,simprocAttr,h8]
     ·have hmW:m=W:=by
       rcases Nat.lt_or_ge m W with h | h
       ·omega
       ·omega
      subst hmW
      simp (disch:=first|assumption|omega|simp only[zS]<;>omega|decide) only[zb30,simprocAttr,h8]
   ·rintro t3 w3 ⟨rfl,h8⟩ d3
    by_cases hc0:P.cls c≠0
    ·rw[if_pos hc0] at hq
     have hWp:0<W:=by
      rw[hW,List.takeWhile_cons,if_pos (by simpa using hc0)]
      simp
     simp (disch:=first|assumption|omega|simp only[zS]<;>omega|decide) only[zb30,simprocAttr,h8,h26]
     have hdt:List.drop j (List.take (j+W) s)=c::r.takeWhile (fun x=>P.cls x≠0):=by
      rw[List.drop_take,hcr,show j+W-j=W by omega,ht4,List.takeWhile_cons,if_pos (by simpa using hc0)]
     have htk:(c::r).takeWhile (fun x=>P.cls x≠0)=c::r.takeWhile (fun x=>P.cls x≠0):=by rw[List.takeWhile_cons,if_pos (by simpa using hc0)]
     rw[hdt]
     rw[htk] at hq hW
     obtain⟨wd,hwd⟩:∃ wd,wd=c::r.takeWhile (fun x=>P.cls x≠0):=⟨_,rfl⟩
     refine(rWord c _ (by rw[<- hW];omega) j w3).mono ?_
     rw[<- hwd] at hq hW ⊢
     rintro e w4 ⟨rfl,hE4⟩
     have s4:=hE4.size
     unfold wordV
     by_cases hk0:P.wordKind wd=0
     ·rw[if_pos hk0] at hq ⊢
      simp (disch:=first|assumption|omega|simp only[zS]<;>omega|decide) only[zb30,simprocAttr,h26]
      have hq':=(Option.some.inj hq).symm
      subst hq'
      simp only[lexFin] at hfin
      rw[<- hfin]
      have hEf:=(hE1.trans hE).trans hE4
      refine⟨?_,rfl⟩
      (repeat (first | assumption | exact FrM.refl _ _ | (refine FrM.upd ?_ (.inr (by(try simp only[zS])<;>omega))) | refine FrM.alloc ?_ _ | refine FrM.drew ?_))
     ·rw[if_neg hk0] at hq ⊢
      have hwo:=P.wordKind_ok (i:=j) hk0
      have hrk:¬ ((rk (P.wordKind wd):Nat):Int)=0:=by
       have:rk (P.wordKind wd)≠0:=by
        unfold rk
        repeat' split
        all_goals decide
       omega
      simp (disch:=first|assumption|omega|simp only[zS]<;>omega|decide) only[zb30,simprocAttr,h26]
      have hx5:Ext w4 ((upd (w4.alloc (.cells #[.int .u8 0,.string (bs []),zi 0] 69)) w4.heap.size (.cells #[.int .u8 (rk (P.wordKind wd)),.string (bs wd),zi j] 69)).alloc (.cells #[.int .u8 (rk (P.wordKind wd)),.string (bs wd),zi j] 69)):=by(repeat (first | assumption | exact FrM.refl _ _ | (refine FrM.upd ?_ (.inr (by(try simp only[zS])<;>omega))) | refine FrM.alloc ?_ _ | refine FrM.drew ?_))
      have own4:=own_ext (hE4.trans hx5).ext hown
      refine wr_appendT (acc:=acc) (base:=wS.heap.size) (kd:=P.wordKind wd) (tx:=wd) (ps:=j) own4 (hp_alloc_new (by rw[size_upd,size_alloc])) rfl rfl rfl (by omega) (by have:=hx5.size;omega) ?_
      intro v' w6 hown6 hg6 hv6
      have hE6:Ext wS w6:=((hE.trans hE4).trans hx5).grow hg6 (fun k hk=>(own4.lt k hk).1)
      cases hq2:P.lexGo f (List.drop wd.length (c::r)) (j+wd.length) with
      | none=>rw[hW,hq2] at hq;cases hq
      | some q2=>
      rw[hW,hq2] at hq
      refine⟨s.length-(j+W),by omega,hE6,j+W,acc++[⟨P.wordKind wd,wd,j⟩],f,q2,rfl,by omega,by simp;omega,by simp [sOf,h8],by simpa [sOf] using hown6,?_,?_⟩
      ·rw[<- List.drop_drop,hcr,hW];exact hq2
      ·rw[<- hfin]
       cases q2 with
       | inl i=>simp only[Option.some.injEq] at hq;rw[<- hq];rfl
       | inr l=>simp only[Option.some.injEq] at hq;rw[<- hq];simp [lexFin]
    ·rw[if_neg hc0] at hq
     have hW0:W=0:=by
      rw[hW,List.takeWhile_cons,if_neg (by simpa using hc0)]
      rfl
     simp (disch:=first|assumption|omega|simp only[zS]<;>omega|decide) only[zb30,simprocAttr,h8,h26]
     have hcp:(c=46/\P.endsB r=true)↔((c.toNat:Int)=46/\(j+1=s.length\/(j+1<s.length/\((s.getD (j+1) 0).toNat=32\/(s.getD (j+1) 0).toNat=10)))):=by
      have e1:c=46↔c.toNat=46:=by rw[<- UInt8.toNat_inj];rfl
      have hrl:r.length=s.length-(j+1):=by rw[<- hr,List.length_drop]
      rw[e1]
      cases r with
      | nil=>
       have hl1:s.length=j+1:=by simp at hrl;omega
       simp [P.endsB,hl1]
       omega
      | cons d r'=>
       have hd:s.getD (j+1) 0=d:=by rw[show j+1=j+1+0 from rfl,<- getD_drop0,hr];rfl
       rw[hd]
       have e2:d=32↔d.toNat=32:=by rw[<- UInt8.toNat_inj];rfl
       have e3:d=10↔d.toNat=10:=by rw[<- UInt8.toNat_inj];rfl
       simp only[P.endsB,P.blank,Bool.or_eq_true,beq_iff_eq,e2,e3]
       simp at hrl
       omega
     obtain⟨pt,hpt⟩:∃ pt:P.Bs,pt=if c=46/\P.endsB r=true then [46] else []:=⟨_,rfl⟩
     refine⟨fun t4 w4=>w4=w3/\t4 10 = .string (bs pt),?_,?_⟩
     ·refine⟨fun t4 w4=>w4=w3/\t4 83 = .bool (decide (c=46/\P.endsB r=true)),?_,?_⟩
      ·by_cases h46:(c.toNat:Int)=46
       ·by_cases hje:j+1=s.length
        ·have hje':((j:Int)+1)=(s.length:Int):=by omega
         have hyes:=hcp.2 ⟨h46,.inl hje⟩
         simp (disch:=first|assumption|omega|simp only[zS]<;>omega|decide) only[zb30,simprocAttr,h26,hcg]
         simp [sOf,hyes]
        ·have hje':¬ ((j:Int)+1)=(s.length:Int):=by omega
         have htn:((j:Int)+1).toNat=j+1:=by omega
         simp (disch:=first|assumption|omega|simp only[zS]<;>omega|decide) only[zb31,simprocAttr,h26,hcg,htn]
         generalize hd:(s.getD (j+1) 0).toNat=d at *
         by_cases g1:d=32
         ·have hyes:=hcp.2 ⟨h46,.inr ⟨by omega,.inl g1⟩⟩
          simp [sOf,hyes,g1]
         ·have g1':¬ (d:Int)=32:=by omega
          by_cases g2:d=10
          ·have hyes:=hcp.2 ⟨h46,.inr ⟨by omega,.inr g2⟩⟩
           simp [sOf,hyes,g2]
          ·have hno:¬ (c=46/\P.endsB r=true):=fun h=>by
            rcases(hcp.1 h).2 with h | ⟨_,h | h⟩
            ·exact hje h
            ·exact g1 h
            ·exact g2 h
           have g2':¬ (d:Int)=10:=by omega
           rw[decide_eq_false hno]
           simp [sOf,g1',g2']
       ·have hno:¬ (c=46/\P.endsB r=true):=fun h=>h46 (hcp.1 h).1
        rw[decide_eq_false hno]
        simp (disch:=first|assumption|omega|simp only[zS]<;>omega|decide) only[zb30,simprocAttr,h26,hcg]
      ·rintro t4 w4 ⟨rfl,h83⟩ d4
       rw[h83]
       by_cases hy:c=46/\P.endsB r=true
       ·rw[bs_pos _ _ hy,hpt,if_pos hy]
        simp [sOf]
       ·rw[bs_neg _ _ hy,hpt,if_neg hy]
        simp [sOf]
     ·rintro t4 w4 ⟨rfl,h10⟩ d4
      have hsg:=(hE1.trans hE).ext
      have g4:=hE.ext _ _ g1
      have lg4:=ltOf g4
      obtain⟨pr,hpr⟩:∃ pr:P.Bs->Bool,pr=fun x=>x.isPrefixOf (c::r):=⟨_,rfl⟩
      obtain⟨F,hF⟩:∃ F:P.Bs,F=if pt≠[] then pt else signK pr 23:=⟨_,rfl⟩
      refine⟨fun t5 w5=>w5=w4/\t5 10 = .string (bs F),?_,?_⟩
      ·refine⟨fun n t5 w5=>w5=w4/\∃ k,n=23-k/\k≤23/\t5 11=zi k/\t5 10 = .string (bs (if pt≠[] then pt else signK pr k)),⟨23,rfl,0,rfl,Nat.zero_le _,rfl,?_⟩,?_⟩
       ·by_cases hp:pt=[]
        ·simp [sOf,h10,hp,signK]
        ·simp [sOf,h10,hp]
       ·intro n t5 d5 w5 hI
        refine toPr ?_
        obtain⟨rfl,k,rfl,hk,h11,h10'⟩:=hI
        by_cases hk23:k<23
        ·by_cases hne:(if pt≠[] then pt else signK pr k)=[]
         ·rw[hne] at h10'
          have hp:pt=[]:=by
           by_cases hp:pt=[]
           ·exact hp
           ·rw[if_pos hp] at hne;exact hne
          rw[if_neg (by simp [hp])] at hne
          simp (disch:=first|assumption|omega|simp only[zS]<;>omega|decide) only[zb30,simprocAttr,h11,h10']
          obtain⟨x,hx⟩:∃ x,x=P.signs.getD k []:=⟨_,rfl⟩
          have hxm:x∈P.signs:=by
           rw[hx,List.getD_eq_getElem?_getD,List.getElem?_eq_getElem (show k<P.signs.length from hk23)]
           exact List.getElem_mem _
          obtain⟨hxn,hxl⟩:=signs_ne hxm
          have hld:(P.signs.map fun s=>Value.string (bs s)).toArray[k]?=some (.string (bs x)):=by
           rw[List.getElem?_toArray,List.getElem?_map,hx,List.getD_eq_getElem?_getD,List.getElem?_eq_getElem (show k<P.signs.length from hk23)]
           rfl
          have hkn:((k:Nat):Int).toNat=k:=by omega
          refine⟨fun t6 w6=>w6=w5/\t6 10 = .string (bs (signK pr (k+1))),?_,?_⟩
          ·simp (disch:=first|assumption|omega|simp only[zS]<;>omega|decide) only[zb30,simprocAttr,h11,g4,hld,hkn]
           have hpx:=isPrefix_iff x s j
           refine⟨fun t7 w7=>w7=w5/\t7 115 = .bool (decide (x.isPrefixOf (s.drop j)=true)),?_,?_⟩
           ·by_cases hjl:j+x.length≤s.length
            ·have hjl':(j:Int)+(x.length:Int)≤(s.length:Int):=by omega
             have hjt:((j:Int)+(x.length:Int)).toNat=j+x.length:=by omega
             have hjt2:((j:Nat):Int).toNat=j:=by omega
             simp (disch:=first|assumption|omega|simp only[zS]<;>omega|decide) only[zb30,simprocAttr,h26,hjt,hjt2]
             simp only[sOf,hpx]
             simp [hjl]
            ·have hjl':¬ (j:Int)+(x.length:Int)≤(s.length:Int):=by omega
             simp (disch:=first|assumption|omega|simp only[zS]<;>omega|decide) only[zb30,simprocAttr,h26]
             simp only[sOf,hpx]
             simp [hjl,hxn]
           ·rintro t7 w7 ⟨rfl,h115⟩ d7
            rw[h115]
            have hpe2:pr (P.signs.getD k [])=x.isPrefixOf (s.drop j):=by rw[hpr,<- hx,hcr]
            rw[signK_succ hk23 hne,hpe2]
            by_cases hpp:x.isPrefixOf (s.drop j)=true
            ·rw[bs_pos _ _ hpp,if_pos hpp,<- hx]
             simp [sOf]
            ·rw[bs_neg _ _ hpp,if_neg hpp]
             simp [sOf,h10']
          ·rintro t6 w6 ⟨rfl,h10''⟩ d6
           simp (disch:=first|assumption|omega|simp only[zS]<;>omega|decide) only[zb30,simprocAttr,h11,h10'']
           refine⟨23-(k+1),by omega,k+1,rfl,by omega,by simp,?_⟩
           simp [hp]
         ·have hFk:F=if pt≠[] then pt else signK pr k:=by
           rw[hF]
           by_cases hp:pt=[]
           ·rw[if_neg (by simp [hp])] at hne ⊢
            rw[if_neg (by simp [hp])]
            exact signK_ne hne
           ·rw[if_pos hp,if_pos hp]
          rw[<- hFk] at hne h10'
          simp (disch:=first|assumption|omega|simp only[zS]<;>omega|decide) only[zb30,simprocAttr,h11,h10']
        ·have:k=23:=by omega
         subst this
         rw[<- hF] at h10'
         simp (disch:=first|assumption|omega|simp only[zS]<;>omega|decide) only[zb30,simprocAttr,h11,h10']
      ·rintro t5 w5 ⟨rfl,h10'⟩ d5
       by_cases hFe:F=[]
       ·have hpe:pt=[]:=by
         by_cases hp:pt=[]
         ·exact hp
         ·rw[hF,if_pos hp] at hFe;exact hFe
        have hno:¬ (c=46/\P.endsB r=true):=fun h=>by rw[hpt,if_pos h] at hpe;cases hpe
        have hnf:P.signs.find? (fun s=>s.isPrefixOf (c::r))=none:=by
         rw[hF,if_neg (by simp [hpe]),signK_all,hpr] at hFe
         cases hf:P.signs.find? (fun s=>s.isPrefixOf (c::r)) with
         | none=>rfl
         | some x=>
          rw[hf] at hFe
          exact absurd hFe (signs_ne (List.mem_of_find?_eq_some hf)).1
        rw[if_neg hno,hnf] at hq
        have hq':=(Option.some.inj hq).symm
        subst hq'
        simp only[lexFin] at hfin
        subst hFe
        simp (disch:=first|assumption|omega|simp only[zS]<;>omega|decide) only[zb30,simprocAttr,h10',h26]
        rw[<- hfin]
        exact⟨hE1.trans hE,rfl⟩
       ·have hFm:(F=[46]\/F∈P.signs)/\F.length≤3/\0<F.length/\F.length≤(c::r).length/\∃ q2,P.lexGo f ((c::r).drop F.length) (j+F.length)=some q2/\q=(match q2 with | .inl i=>.inl i | .inr l=>.inr (⟨4,F,j⟩::l)):=by
         by_cases hy:c=46/\P.endsB r=true
         ·have hF46:F=[46]:=by rw[hF,hpt,if_pos hy];rfl
          rw[if_pos hy] at hq
          rw[hF46]
          refine⟨.inl rfl,by decide,by decide,by simp,?_⟩
          show ∃ q2,P.lexGo f r (j+1)=some q2/\_
          cases hq2:P.lexGo f r (j+1) with
          | none=>rw[hq2] at hq;cases hq
          | some q2=>
           rw[hq2] at hq
           refine⟨q2,rfl,?_⟩
           cases q2<;>exact(Option.some.inj hq).symm
         ·have hpe:pt=[]:=by rw[hpt,if_neg hy]
          rw[if_neg hy] at hq
          have hFs:F=(P.signs.find? (fun s=>s.isPrefixOf (c::r))).getD []:=by rw[hF,if_neg (by simp [hpe]),signK_all,hpr]
          cases hf:P.signs.find? (fun s=>s.isPrefixOf (c::r)) with
          | none=>rw[hf] at hFs;exact absurd hFs hFe
          | some x=>
           rw[hf] at hFs hq
           have hFx:F=x:=hFs
           subst hFx
           have hm:=List.mem_of_find?_eq_some hf
           have hpx:=List.find?_some hf
           have hle:=(List.isPrefixOf_iff_prefix.1 hpx).length_le
           refine⟨.inr hm,(signs_ne hm).2,by have:=(signs_ne hm).1;exact List.length_pos_iff.2 this,hle,?_⟩
           dsimp only at hq
           cases hq2:P.lexGo f ((c::r).drop F.length) (j+F.length) with
           | none=>rw[hq2] at hq;cases hq
           | some q2=>
            rw[hq2] at hq
            refine⟨q2,rfl,?_⟩
            cases q2<;>exact(Option.some.inj hq).symm
        obtain⟨-,hF3,hF0,hFl,q2,hq2,hqq⟩:=hFm
        rw[hlen] at hFl
        have s5:=hE.size
        simp (disch:=first|assumption|omega|simp only[zS]<;>omega|decide) only[zb30,simprocAttr,h10',h26]
        have hx5:Ext w5 (w5.alloc (.cells #[.int .u8 115,.string (bs F),zi j] 69)):=by(repeat (first | assumption | exact FrM.refl _ _ | (refine FrM.upd ?_ (.inr (by(try simp only[zS])<;>omega))) | refine FrM.alloc ?_ _ | refine FrM.drew ?_))
        have own4:=own_ext hx5.ext hown
        refine wr_appendT (acc:=acc) (base:=wS.heap.size) (kd:=4) (tx:=F) (ps:=j) own4 (hp_alloc_new rfl) rfl rfl rfl (by omega) (by rw[size_alloc];omega) ?_
        intro v' w6 hown6 hg6 hv6
        have hE6:Ext wS w6:=(hE.trans hx5).grow hg6 (fun k hk=>(own4.lt k hk).1)
        simp (disch:=first|assumption|omega|simp only[zS]<;>omega|decide) only[zb30,simprocAttr,h10',h26]
        refine⟨s.length-(j+F.length),by omega,hE6,j+F.length,acc++[⟨4,F,j⟩],f,q2,rfl,by omega,by simp;omega,by simp,by simpa using hown6,?_,?_⟩
        ·rw[<- List.drop_drop,hcr];exact hq2
        ·rw[<- hfin,hqq]
         cases q2 with
         | inl i=>rfl
         | inr l=>simp [lexFin]
 ·have hj2:j=s.length:=by omega
  subst hj2
  have hdn:List.drop s.length s=[]:=List.drop_length
  cases f with
  | zero=>rw[P.lexGo] at hq;cases hq
  | succ f=>
  rw[hdn,P.lexGo] at hq
  have hq':=(Option.some.inj hq).symm
  subst hq'
  simp only[lexFin] at hfin
  simp (disch:=first|assumption|omega|simp only[zS]<;>omega|decide) only[zb30,simprocAttr,h6]
  have hx5:Ext w1 (w1.alloc (.cells #[.int .u8 101,.string (bs []),zi (s.length)] 69)):=by(repeat (first | assumption | exact FrM.refl _ _ | (refine FrM.upd ?_ (.inr (by(try simp only[zS])<;>omega))) | refine FrM.alloc ?_ _ | refine FrM.drew ?_))
  have own4:=own_ext hx5.ext hown
  refine wr_appendT (acc:=acc) (base:=wS.heap.size) (kd:=0) (tx:=[]) (ps:=s.length) own4 (hp_alloc_new rfl) rfl rfl rfl (by omega) (by rw[size_alloc];omega) ?_
  intro v' w6 hown6 hg6 hv6
  rw[<- hfin]
  exact⟨hE1.trans ((hE.trans hx5).grow hg6 (fun k hk=>(own4.lt k hk).1)),v',rfl,own_base hown6 (by omega)⟩
theorem TWs.of{n:Nat}{T:List P.Tok}(h:P.LexOk n T)(hn:n≤2000):TWs T:=
 { len:=by have:=h.len;omega,last:=h.last,kind:=fun u hu=>(h.tok u hu).1,digits:=fun u hu=>(h.tok u hu).2.1,words:=fun u hu=>(h.tok u hu).2.2.1,vars:=fun u hu=>(h.tok u hu).2.2.2.1,sg:=fun u hu=>(h.tok u hu).2.2.2.2 }
theorem lex_ok{s:P.Bs}{T:List P.Tok}(h:P.lex s = .inr T):P.LexOk s.length T:=P.lexGo_ok _ _ _ _ (by rw[P.lex_eq,h])
def P.program(s:P.Bs):P.Res (List P.Cl):=
 if 2000<s.length then .err 1 0 else match P.lex s with
 | .inl i=>.err 2 i
 | .inr T=>P.progT T
def zb32:=(zA zG0 (zA @sh_r_begun.eq_1 (zA @bd_67 @ln_9)))
theorem rBegun (s:P.Bs) (w:World) (hl:s.length≤100000):Calls Tryz.prog 15 #[.string (bs s)] w fun e w'=>Ext w w' /\
  ((2000<s.length/\e = .returned (.tuple #[.pointer none,zi 1,zi 0])) \/
  (s.length≤2000/\∃ i,P.lex s = .inl i/\e = .returned (.tuple #[.pointer none,zi 2,zi i])) \/
  (s.length≤2000/\∃ T pb tb,P.lex s = .inr T/\e = .returned (.tuple #[pp pb,zi 0,zi (-1)])/\w.heap.size≤pb/\RP w' pb tb T 0 [] 0 0 0)):=by
 by_cases h2:2000<s.length
 ·refine sh_r_begun_ok ?_
  simp (disch:=first|assumption|omega|simp only[zS]<;>omega|decide) only[zb32,simprocAttr]
  exact⟨FrM.refl _ _,.inl h2⟩
 ·refine sh_r_begun_ok ?_
  simp (disch:=first|assumption|omega|simp only[zS]<;>omega|decide) only[zb32,simprocAttr]
  refine(rLex s w (by omega)).mono ?_
  rintro e w1 ⟨hE,hp⟩
  cases hx:P.lex s with
  | inl i=>
   rw[hx] at hp
   dsimp only at hp
   subst hp
   simp (disch:=first|assumption|omega|simp only[zS]<;>omega|decide) only[zb32,simprocAttr]
   exact⟨hE,.inr (.inl ⟨by omega,i,rfl,rfl⟩)⟩
  | inr T=>
   rw[hx] at hp
   obtain⟨v,rfl,hown⟩:=hp
   have hlo:=lex_ok hx
   have htw:=TWs.of hlo (by omega)
   have hTn:0<T.length:=htw.toTW.pos
   obtain⟨htl,hown⟩:=hown
   rcases hown with⟨-,h0⟩| ⟨tb,cap,cur,rfl,ht1,ht2,ht3,ht4,ht5,ht6⟩
   ·omega
   simp (disch:=first|assumption|omega|simp only[zS]<;>omega|decide) only[zb32,simprocAttr]
   have hX:Ext w1 (w1.alloc (.cells #[.slice (some ⟨tb,0,none⟩) T.length cap,zi 0,.slice none 0 0,zi 0,zi 0,zi 0] 67)):=by(repeat (first | assumption | exact FrM.refl _ _ | (refine FrM.upd ?_ (.inr (by(try simp only[zS])<;>omega))) | refine FrM.alloc ?_ _ | refine FrM.drew ?_))
   have s1:=hE.size
   have ltb:=ltOf ht2
   refine⟨hE.trans hX,.inr (.inr ⟨by omega,T,_,tb,rfl,rfl,s1,cap,.slice none 0 0,htw,ltb,hTn,⟨by simp,fun _=>by simp⟩,by omega,⟨cur,hX.ext _ _ ht2,fun j hj=>?_⟩,ht3,by unfold maxLen at ht4;omega,blk_alloc_new _ _,World.ownsRow_nil _ _ _ _⟩)⟩
   obtain⟨c1,c2,c3⟩:=tcells_at T j hj
   have hcl:∀ i,i<T.length*3->cur[i]?=(tcells T)[i]?:=fun i hi=>by
    rw[<- ht6,List.getElem?_take_of_lt hi,Array.getElem?_toList]
   rw[hcl _ (by omega),hcl _ (by omega),hcl _ (by omega)]
   exact⟨c1,c2,c3⟩
def IsRcs(F:Nat->Prop)(w:World)(vs:List Value):List P.Cl->Prop
 | []=>vs=[]
 | x::xs=>∃ l r,vs=l++r/\l.length=7/\IsRc F w l x/\IsRcs F w r xs
theorem IsRc.mono{F F':Nat->Prop}{w w':World}{l:List Value}{c:P.Cl}(hf:∀ b,F b->F' b)(hw:Keeps F 111 w w')(hb:Keeps F 40 w w')(h:IsRc F w l c):IsRc F' w' l c:=by
 obtain⟨av,vs,b0,b1,b2,b3,va,vc,h1,h2,h3,h4⟩:=h
 exact⟨av,vs,b0,b1,b2,b3,va,vc,h1,h2.mono hf hw,IsRxs.mono hf hw _ _ h3,IsRb.mono hf hw hb _ _ h4⟩
theorem IsRcs.mono{F F':Nat->Prop}{w w':World}(hf:∀ b,F b->F' b)(hw:Keeps F 111 w w')(hb:Keeps F 40 w w'):∀ (xs:List P.Cl) (vs:List Value),IsRcs F w vs xs->IsRcs F' w' vs xs
 | [],vs,h=>h
 | x::xs,vs,h=>by
  obtain⟨l,r,h1,hl,h2,h3⟩:=h
  exact⟨l,r,h1,hl,h2.mono hf hw hb,IsRcs.mono hf hw hb xs r h3⟩
theorem IsRcs.snoc{F:Nat->Prop}{w:World}{l:List Value}{x:P.Cl}(hl:l.length=7)(hx:IsRc F w l x):∀ {xs:List P.Cl} {vs:List Value},IsRcs F w vs xs->IsRcs F w (vs++l) (xs++[x])
 | [],vs,h=>by
  have h:vs=[]:=h
  subst h
  exact⟨l,[],by simp,hl,hx,rfl⟩
 | y::ys,vs,h=>by
  obtain⟨m,r,rfl,hm,h2,h3⟩:=h
  exact⟨m,r++l,by simp,hm,h2,IsRcs.snoc hl hx h3⟩
theorem Tryz.infoC:(Tryz.prog.info? 43).map (fun i=>(i.zero,i.size,i.bytes))=some (some (.agg #[.string (bs []),.slice none 0 0,.int .u8 0,.string (bs []),.slice none 0 0,.slice none 0 0,.slice none 0 0]),7,136):=by kernel_rfl
theorem wr_appendC{w:World}{base n:Nat}{v:Value}{xs:List Value}(hown:w.ownsRow base 43 7 v n xs){b m:Nat}{l:List Value}
  (hb:w.heap[b]?=some (.cells l.toArray 43 (0,0))) (h1:One7 l)
  (hn:n≤100000) (hbase:base≤w.heap.size) {K:Value->World->Prop} {X:Value->World->Prop}
  (h:∀ v' w',w'.ownsRow base 43 7 v' (n+1) (xs++l)->w.grownBy w' v.ownBlock->(v'.ownBlock=v.ownBlock\/∀ k,v'.ownBlock=some k->w.heap.size≤k)->K v' w') :
  WR Tryz.prog (Builtin.append_ #[23,23] 23 #[v,.slice (some ⟨b,0,none⟩) 1 m]) w K X:=by
 obtain⟨i,hi,h0⟩:=Option.map_eq_some_iff.1 Tryz.infoC
 simp only[Prod.mk.injEq] at h0
 obtain⟨hz,hs,hbt⟩:=h0
 exact wr_append (m:=1) (t:=23) (e:=43) (by kernel_rfl) hi hz hs hbt rfl (by decide) hown hb (by simpa using h1.1) (fun u hu=>h1.2 u (by simpa using hu)) (by omega) (by decide) hbase h
def RowC(B:Nat)(w1:World)(v:Value)(acc:List P.Cl):Prop:=
 ∃ xs,w1.ownsRow B 43 7 v acc.length xs/\IsRcs (fun b=>B≤b/\b<w1.heap.size/\some b≠v.ownBlock) w1 xs acc
theorem RowC.more{B:Nat}{w1 w2 w3 w4:World}{pb:Nat}{v v':Value}{acc:List P.Cl}{x:P.Cl}{l:List Value}(h:RowC B w1 v acc)(h12:RFr pb w1 w2)(hpb:pb<B)(hx:IsRc (Nu w1 w2) w2 l x)(hl:l.length=7)(hww:B≤w1.heap.size)
  (h23:Ext w2 w3) {xs:List Value} (hxs:w3.ownsRow B 43 7 v acc.length xs) (hown':w4.ownsRow B 43 7 v' (acc.length+1) (xs++l))
  (hg:w3.grownBy w4 v.ownBlock) (hv:v'.ownBlock=v.ownBlock\/∀ k,v'.ownBlock=some k->w3.heap.size≤k):RowC B w4 v' (acc++[x]):=by
 obtain⟨xs',o1,o2⟩:=h
 have s12:=h12.size
 have s23:=h23.size
 have s34:=hg.size
 have o3:w3.ownsRow B 43 7 v acc.length xs':=own_ext h23.ext (own_fr h12 o1 (by omega) (by decide))
 have e:xs'=xs:=ownsRow_det o3 hxs
 subst e
 have lt:∀ k,v.ownBlock=some k->k<w1.heap.size:=fun k hk=>(o1.lt k hk).2
 have kp34:∀ b t cs,some b≠v.ownBlock->b<w3.heap.size->w3.heap[b]?=some (.cells cs t (0,0))->w4.heap[b]?=some (.cells cs t (0,0)):=
  fun b t cs hb hl hc=>by rw[hg.block b hl hb];exact hc
 have nv:∀ b,b<w3.heap.size->some b≠v.ownBlock->some b≠v'.ownBlock:=fun b hb hne he=>by
  rcases hv with hv | hv
  ·rw[hv] at he;exact hne he
  ·have:=hv b he.symm;omega
 refine⟨_,by rw[List.length_append];exact hown',IsRcs.snoc hl ?_ ?_⟩
 ·refine IsRc.mono (F:=Nu w1 w2) (fun b hb=>⟨by have:=hb.1;omega,by have:=hb.2;omega,nv b (by have:=hb.2;omega) (fun e=>by have:=lt b e.symm;have:=hb.1;omega)⟩) (fun b cs hb hc=>?_) (fun b cs hb hc=>?_) hx
  all_goals
   have h2:=h23.ext _ _ hc
   exact kp34 b _ cs (fun e=>by have:=lt b e.symm;have:=hb.1;omega) (ltOf h2) h2
 ·refine IsRcs.mono (F:=fun b=>B≤b/\b<w1.heap.size/\some b≠v.ownBlock) (fun b hb=>⟨hb.1,by have:=hb.2.1;omega,nv b (by have:=hb.2.1;omega) hb.2.2⟩) (fun b cs hb hc=>?_) (fun b cs hb hc=>?_) _ _ o2
  all_goals
   have h1:=SFr.keep h12 hc (by have:=hb.1;omega) (by decide)
   have h2:=h23.ext _ _ h1
   exact kp34 b _ cs hb.2.2 (ltOf h2) h2
theorem RowC.fr{B:Nat}{w1 w2:World}{pb:Nat}{v:Value}{acc:List P.Cl}(h:RowC B w1 v acc)(hF:RFr pb w1 w2)(hpb:pb<B):RowC B w2 v acc:=by
 obtain⟨xs,o1,o2⟩:=h
 have:=hF.size
 exact⟨xs,own_fr hF o1 (by omega) (by decide),IsRcs.mono (fun b hb=>⟨hb.1,by have:=hb.2.1;omega,hb.2.2⟩) (RFr.keeps hF (fun b hb=>by have:=hb.1;omega) (by decide)) (RFr.keeps hF (fun b hb=>by have:=hb.1;omega) (by decide)) _ _ o2⟩
theorem RowC.base{B B':Nat}{w1:World}{v:Value}{acc:List P.Cl}(h:RowC B w1 v acc)(hB:B'≤B):RowC B' w1 v acc:=by
 obtain⟨xs,o1,o2⟩:=h
 exact⟨xs,own_base o1 hB,IsRcs.mono (fun b hb=>⟨by have:=hb.1;omega,hb.2⟩) (fun b cs _ hc=>hc) (fun b cs _ hc=>hc) _ _ o2⟩
theorem one7_of{l:List Value}(h:One7 l):∃ a b c d e f g,l=[a,b,c,d,e,f,g]/\a.oneCell'=true/\b.oneCell'=true/\c.oneCell'=true/\d.oneCell'=true/\e.oneCell'=true/\f.oneCell'=true/\g.oneCell'=true:=by
 obtain⟨hl,h⟩:=h
 match l,hl with
 | [a,b,c,d,e,f,g],_=>exact⟨a,b,c,d,e,f,g,rfl,h _ (by simp),h _ (by simp),h _ (by simp),h _ (by simp),h _ (by simp),h _ (by simp),h _ (by simp)⟩
def RPostP(w:World)(r:P.Res (List P.Cl))(e:Ending)(w':World):Prop:=
 Ext w w'/\match r with
 | .err c a=>c≠0/\e = .returned (.tuple #[.slice none 0 0,.int .i64 c,.int .i64 a])
 | .ok cs _ _=>∃ v,e = .returned (.tuple #[v,.int .i64 0,.int .i64 (-1)])/\RowC w.heap.size w' v cs
def zb33:=(zA zG0 (zA @sh_r_Program.eq_1 (zA @al_43 (zA @al_69 (zA @br_23_1 (zA @eqp_62 (zA @fa_67_4 (zA @fa_67_5 (zA @fa_69_0 (zA @fa_69_2 (zA @ld_3 (zA @ld_32 (zA @ld_43 (zA @ld_5 (zA @ln_23 (zA @st_43 @st_69))))))))))))))))
set_option maxHeartbeats 1000000 in
theorem rProgram (s:P.Bs) (w:World) (hl:s.length≤100000):Calls Tryz.prog 7 #[.string (bs s)] w (RPostP w (P.program s)):=by
 refine sh_r_Program_ok ?_
 refine(rBegun s w hl).mono ?_
 rintro e w1 ⟨hE1,(⟨hl2,rfl⟩| ⟨hl2,i,hi,rfl⟩| ⟨hl2,T,pb,tb,hT,rfl,hpw,hP1⟩)⟩
 ·simp (disch:=first|assumption|omega|simp only[zS]<;>omega|decide) only[zb33,simprocAttr]
  rw[P.program,if_pos hl2]
  exact⟨hE1,by decide,rfl⟩
 ·simp (disch:=first|assumption|omega|simp only[zS]<;>omega|decide) only[zb33,simprocAttr]
  rw[P.program,if_neg (by omega),hi]
  exact⟨hE1,by decide,rfl⟩
 ·have hpr:P.program s=P.progT T:=by rw[P.program,if_neg (by omega),hT]
  rw[hpr]
  obtain⟨l1,hkt,hlT,h4⟩:=hP1.cs
  simp (disch:=first|assumption|omega|simp only[zS]<;>omega|decide) only[zb33,simprocAttr]
  have hEf:∀ {w2:World},RFr pb w1 w2->Ext w w2:=fun hF=>⟨hF.os.trans hE1.os,hF.tape.trans hE1.tape,hF.output.trans hE1.output,Nat.le_trans hE1.size hF.size,fun b o hb _=>by
   have h1:=hE1.ext _ _ hb
   have h2:=ltOf hb
   exact hF.block b o h1 (by rintro (h | ⟨h,_⟩)<;>omega)⟩
  refine⟨fun _ w2=>RFr pb w1 w2/\∃ c a k vs,c≠0/\P.progT T = .err c a/\RP w2 pb tb T k vs 0 c a,?_,?_⟩
  ·refine⟨fun n t w2=>RFr pb w1 w2/\((∃ f k vs acc,n=f+1/\acc.length≤40/\P.pProgG T f k acc=some (P.progT T)/\RP w2 pb tb T k vs 0 0 0/\RowC w1.heap.size w2 (t 8) acc) \/
     (n=0/\∃ c a k vs,c≠0/\P.progT T = .err c a/\RP w2 pb tb T k vs 0 c a)),
    ⟨T.length+1+1,FrM.refl _ _,.inl ⟨_,0,[],[],rfl,by simp,P.progT_eq T,hP1,[],World.ownsRow_nil _ _ _ _,rfl⟩⟩,?_⟩
   intro n t dd w2 hI
   refine toPr ?_
   obtain⟨hF,hI⟩:=hI
   have s12:=hF.size
   rcases hI with⟨f,k,vs,acc,rfl,ha40,hq,hP,hrow⟩| ⟨rfl,c,a,k,vs,hc,hpe,hP⟩
   ·obtain⟨lc,vv,hx⟩:=id hP
    have h3:=hx.cell
    have hk4:=hx.kind4
    cases f with
    | zero=>rw[P.pProgG] at hq;cases hq
    | succ f=>
    rw[P.pProgG] at hq
    simp (disch:=first|assumption|omega|simp only[zS]<;>omega|decide) only[zb33,simprocAttr,h3]
    refine(rNext hP).mono ?_
    rintro e w3 ⟨rfl,hE3⟩
    have s23:=hE3.size
    have hP3:=hP.ext hE3
    have hF3:=hF.trans hE3.toM
    obtain⟨xs,o1,o2⟩:=id hrow
    obtain⟨va,vc,hv⟩:=own_slice o1
    rw[hv] at hrow
    by_cases hk0:(P.tk T k).kind=0
    ·rw[if_pos hk0] at hq
     have hrk:rk (P.tk T k).kind=101:=(rk_end hk4).2 hk0
     rw[hrk]
     simp (disch:=first|assumption|omega|simp only[zS]<;>omega|decide) only[zb33,simprocAttr]
     have hq':=(Option.some.inj hq).symm
     rw[hq']
     have hX:Ext w3 (upd (w3.alloc (.cells #[.int .u8 0,.string (bs []),zi 0] 69)) w3.heap.size (.cells #[.int .u8 ((101:Nat):Int),.string (bs (P.tk T k).text),zi ((P.tk T k).pos)] 69)):=by(repeat (first | assumption | exact FrM.refl _ _ | (refine FrM.upd ?_ (.inr (by(try simp only[zS])<;>omega))) | refine FrM.alloc ?_ _ | refine FrM.drew ?_))
     refine⟨hEf (hF3.trans hX.toM),t 8,rfl,?_⟩
     rw[hv]
     exact(hrow.fr (pb:=pb) (hE3.toM.trans hX.toM) (by omega)).base hE1.size
    ·rw[if_neg hk0] at hq
     have hrk:¬ ((rk (P.tk T k).kind:Nat):Int)=101:=by have:=rk_end hk4;omega
     have hX:Ext w3 (upd (w3.alloc (.cells #[.int .u8 0,.string (bs []),zi 0] 69)) w3.heap.size (.cells #[.int .u8 (rk (P.tk T k).kind),.string (bs (P.tk T k).text),zi ((P.tk T k).pos)] 69)):=by(repeat (first | assumption | exact FrM.refl _ _ | (refine FrM.upd ?_ (.inr (by(try simp only[zS])<;>omega))) | refine FrM.alloc ?_ _ | refine FrM.drew ?_))
     by_cases h40:acc.length=40
     ·rw[if_pos h40] at hq
      have h40':((acc.length:Nat):Int)=40:=by omega
      simp (disch:=first|assumption|omega|simp only[zS]<;>omega|decide) only[zb33,simprocAttr,hv]
      refine(rFault (hP3.ext hX) 4 _).mono ?_
      rintro e w5 ⟨rfl,hP5,hF5⟩
      rw[if_pos rfl,if_pos rfl] at hP5
      simp (disch:=first|assumption|omega|simp only[zS]<;>omega|decide) only[zb33,simprocAttr]
      exact⟨(hF3.trans hX.toM).trans hF5,4,_,_,_,by decide,(Option.some.inj hq).symm,hP5⟩
     ·rw[if_neg h40] at hq
      have h40':¬ ((acc.length:Nat):Int)=40:=by omega
      simp (disch:=first|assumption|omega|simp only[zS]<;>omega|decide) only[zb33,simprocAttr,hv]
      cases hc:P.pClause T (P.fuelFor T) k with
      | none=>rw[hc] at hq;cases hq
      | some qc=>
      rw[hc] at hq
      refine(rClause (hP3.ext hX) hc).mono ?_
      rintro e w5 ⟨l,rfl,h7,hF5,hst⟩
      obtain⟨a0,a1,a2,a3,a4,a5,a6,rfl,p0,p1,p2,p3,p4,p5,p6⟩:=one7_of h7
      have s35:=hF5.size
      rw[size_upd,size_alloc] at s35
      simp (disch:=first|assumption|omega|simp only[zS]<;>omega|decide) only[zb33,simprocAttr,p0,p1,p2,p3,p4,p5,p6]
      have hX5:Ext w5 ((upd (w5.alloc (.cells #[.string (bs []),.slice none 0 0,.int .u8 0,.string (bs []),.slice none 0 0,.slice none 0 0,.slice none 0 0] 43)) w5.heap.size (.cells #[a0,a1,a2,a3,a4,a5,a6] 43)).alloc (.cells #[a0,a1,a2,a3,a4,a5,a6] 43)):=by(repeat (first | assumption | exact FrM.refl _ _ | (refine FrM.upd ?_ (.inr (by(try simp only[zS])<;>omega))) | refine FrM.alloc ?_ _ | refine FrM.drew ?_))
      have hF25:RFr pb w2 w5:=(hE3.toM.trans hX.toM).trans hF5
      have own5:=own_ext hX5.ext (own_fr hF25 (hv ▸ o1) (by omega) (by decide))
      rw[hv]
      refine wr_appendC (l:=[a0,a1,a2,a3,a4,a5,a6]) own5 (hp_alloc_new (by rw[size_upd,size_alloc])) h7 (by omega) (by have:=hX5.size;omega) ?_
      intro v' w6 hown6 hg6 hv6
      have hF6:RFr pb w1 w6:=(((hF3.trans hX.toM).trans hF5).trans hX5.toM).grow hg6 (fun kk hkk=>(own5.lt kk hkk).1)
      simp (disch:=first|assumption|omega|simp only[zS]<;>omega|decide) only[zb33,simprocAttr]
      cases qc with
      | err c a=>
       obtain⟨hc0,k2,vs2,hP5⟩:=hst
       simp only[P.Res.bind,Option.some.injEq] at hq
       exact⟨0,Nat.succ_pos _,hF6,.inr ⟨rfl,c,a,k2,vs2,hc0,hq.symm,(hP5.ext hX5).grow own5 (by decide) (by omega) hg6⟩⟩
      | ok c k2 vs2=>
       obtain⟨hc0,hP5⟩:=hst
       simp only[P.Res.bind] at hq
       refine⟨f+1,by omega,hF6,.inl ⟨f,k2,vs2,acc++[c],rfl,by simp;omega,hq,(hP5.ext hX5).grow own5 (by decide) (by omega) hg6,?_⟩⟩
       have hcx:IsRc (Nu w2 w5) w5 [a0,a1,a2,a3,a4,a5,a6] c:=hc0.mono (fun b hb=>⟨by have:=hb.1;rw[size_upd,size_alloc] at this;omega,hb.2⟩) (fun b cs _ hc=>hc) (fun b cs _ hc=>hc)
       simpa [sOf] using hrow.more hF25 (by omega) hcx rfl s12 hX5 own5 hown6 hg6 hv6
   ·obtain⟨lc,vv,hx⟩:=id hP
    have h3:=hx.cell
    have hc':¬ (c:Int)=0:=by omega
    simp (disch:=first|assumption|omega|simp only[zS]<;>omega|decide) only[zb33,simprocAttr,h3]
    exact⟨hF,c,a,k,vs,hc,hpe,hP⟩
  ·rintro t w2 ⟨hF,c,a,k,vs,hc,hpe,hP⟩ dd
   obtain⟨lc,vv,hx⟩:=id hP
   have h3:=hx.cell
   simp (disch:=first|assumption|omega|simp only[zS]<;>omega|decide) only[zb33,simprocAttr,h3]
   rw[hpe]
   exact⟨(hEf hF).drew,hc,rfl⟩
end Go.Proofs.YtilpjhceemaplaaGreatDoor
namespace Go.Proofs.YtilpjhceemaplaaGreatDoor
open Go.Proofs.YtilpjhceemaplaaGreatDoor.Sx
section
variable{p0 p1 p2 p3 p4 p5 p6 p7:Value}{w:World}{R:Ending->World->Prop}
def sh_l_loaded(p0:Value)(w:World)(R:Ending->World->Prop):Prop:=
 xwA 25 w R fun x2 w1=>
 xC 6 #[p0] w1 R fun x15 v1=>
 xrE x15 0 v1 R fun x16=>
 xrE x15 1 v1 R fun x17=>
 xrE x15 2 v1 R fun x18=>
 xC 7 #[p0] v1 R fun x21 v2=>
 xrE x21 0 v2 R fun x22=>
 xrE x21 1 v2 R fun x23=>
 xrE x21 2 v2 R fun x24=>
 xrO .neq 32 25 x23 (.int .i64 0) v2 R fun x26=>
 BS x26 (xrD 25 #[] v2 R fun x27=>
 xrT .eql 32 28 29 x17 x23 v2 R fun x30=>BS x30 (
 xrT .eql 3 32 33 x18 x24 v2 R fun x34=>BS x34 (
 xrO .eql 22 37 x16 (.pointer none) v2 R fun x38=>
 xuS 25 x2 x27 v2 R fun v3=>
 nrL 25 x2 v3 fun r=>R (.returned (.tuple #[r,x38])) v3) (
 xuS 25 x2 x27 v2 R fun v4=>
 nrL 25 x2 v4 fun r_1=>R (.returned (.tuple #[r_1,(.bool false)])) v4)) (
 xuS 25 x2 x27 v2 R fun v5=>
 nrL 25 x2 v5 fun r_2=>R (.returned (.tuple #[r_2,(.bool false)])) v5)) (xrD 25 #[(0,x16),(1,x22)] v2 R fun x42=>
 xwA 25 v2 R fun x10 v6=>
 xuS 25 x10 x42 v6 R fun v7=>
 LoopW (fun rec s d v8=>
 xrN 23 x22 v8 R fun x45=>
 xrT .lss 3 43 45 (s 11) x45 v8 R fun x46=>
 BS x46 (JS (fun j=>
 xrI 23 x22 (s 11) v8 R fun x51=>
 xrL 43 x51 v8 R fun x52=>
 xC 8 #[x52] v8 R fun x53 v10=>
 xG 25 2 4 x10 v10 R fun x55=>BS x55 (
 xrF 25 x10 2 v10 R fun x60=>
 xuS 4 x60 (.bool true) v10 R fun v11=>
 j (sOf []) v11) (
 xrO .gtr 3 57 x53 (.int .i64 50) v10 R fun x58=>
 xrF 25 x10 2 v10 R fun x60_1=>
 xuS 4 x60_1 x58 v10 R fun v12=>
 j (sOf []) v12))
 (fun s_1 d_1 v9=>
 xrO .add 3 47 (s 11) (.int .i64 1) v9 R fun x48=>
 rec (sOf [(11,x48)]) v9)) (xrL 25 x10 v8 R fun x61=>
 xrO .eql 32 62 x17 (.int .i64 0) v8 R fun x63=>BS x63 (
 xrO .neq 22 65 x16 (.pointer none) v8 R fun x66=>
 xuS 25 x2 x61 v8 R fun v13=>
 nrL 25 x2 v13 fun r_3=>R (.returned (.tuple #[r_3,x66])) v13) (
 xuS 25 x2 x61 v8 R fun v14=>
 nrL 25 x2 v14 fun r_4=>R (.returned (.tuple #[r_4,(.bool false)])) v14)))
 (sOf [(11,(.int .i64 0))]) v7)
theorem sh_l_loaded_ok(h:sh_l_loaded p0 w R):Calls Tryz.prog 4 #[p0] w R:=
 cq (args:=[p0]) (good (zL [(7,[11])]) (zO [(10001,[])]) (fun _=>0) (fun _=>none) (zL [(7,[])]) (zL [(10001,[])]) (zT [10001]) (zT [3,26,38,39,46,58,59,66,67])) Tryz.func4 rfl (by kernel_rfl) (by kernel_rfl) h
def sh_p_Load(p0:Value)(w:World)(R:Ending->World->Prop):Prop:=
 xC 13 #[p0] w R fun x11 w1=>
 xrE x11 0 w1 R fun x12=>
 xrE x11 1 w1 R fun x13=>
 xC 14 #[x13] w1 R fun x16 v1=>
 xrE x16 0 v1 R fun x17=>
 xrE x16 1 v1 R fun x18=>
 R (.returned (.tuple #[x12,x17,x18])) v1
theorem sh_p_Load_ok(h:sh_p_Load p0 w R):Calls Tryz.prog 6 #[p0] w R:=
 cq (args:=[p0]) (good (fun _=>[]) (fun _=>none) (fun _=>0) (fun _=>none) (fun _=>[]) (fun _=>[]) (fun _=>false) (fun _=>false)) Tryz.func6 rfl (by kernel_rfl) (by kernel_rfl) h
def sh_h_Load(p0:Value)(w:World)(R:Ending->World->Prop):Prop:=
 xC 30 #[p0] w R fun x8 w1=>
 xrE x8 0 w1 R fun x9=>
 xrE x8 1 w1 R fun x10=>
 xrO .neq 57 11 x10 .nilIface w1 R fun x12=>
 BS x12 (R (.returned (.tuple #[(.pointer none),x10])) w1) (xrD 99 #[(0,x9)] w1 R fun x15=>
 xwB 99 x15 w1 R fun x16 v1=>
 R (.returned (.tuple #[x16,.nilIface])) v1)
theorem sh_h_Load_ok(h:sh_h_Load p0 w R):Calls Tryz.prog 13 #[p0] w R:=
 cq (args:=[p0]) (good (fun _=>[]) (fun _=>none) (fun _=>0) (fun _=>none) (fun _=>[]) (fun _=>[]) (fun _=>false) (zT [12])) Tryz.func13 rfl (by kernel_rfl) (by kernel_rfl) h
def sh_r_Clause_Size(p0:Value)(w:World)(R:Ending->World->Prop):Prop:=
 xwB 43 p0 w R fun x1 w1=>
 HD fun S=>S w1.drew /\
 sG 43 1 37 x1 S fun x4=>
 sG 43 2 40 x1 S fun x7=>
 nC 19 #[x4] w1.drew fun x5 v1=>
 S v1 /\
 nC 20 #[x7] v1 fun x8 v2=>
 nrT .add 3 5 8 x5 x8 v2 fun x9=>
 R (.returned x9) v2
theorem sh_r_Clause_Size_ok(h:sh_r_Clause_Size p0 w R):Calls Tryz.prog 8 #[p0] w R:=
 cq (args:=[p0]) (good (fun _=>[]) (fun _=>none) (fun _=>0) (zO [(1,[6,0,1,3,4,2,5,6,7])]) (fun _=>[]) (fun _=>[]) (fun _=>false) (fun _=>false)) Tryz.func8 rfl (by kernel_rfl) (by kernel_rfl) h
def sh_r_weight(p0:Value)(w:World)(R:Ending->World->Prop):Prop:=
 xwB 40 p0 w R fun x1 w1=>
 xG 40 2 37 x1 w1 R fun x7=>
 xC 19 #[x7] w1 R fun x8 v1=>
 JS (fun j=>
 JS (fun j_1=>
 xG 40 0 5 x1 v1 R fun x10=>
 xrO .eql 5 10 x10 (.int .u8 63) v1 R fun x11=>BS x11 (
 j_1 (sOf [(16,(.bool true))]) v1) (
 xG 40 0 5 x1 v1 R fun x14=>
 xrO .eql 5 14 x14 (.int .u8 126) v1 R fun x15=>
 j_1 (sOf [(16,x15)]) v1))
 (fun s_1 d_1 v3=>
 BS (s_1 16) (xrO .add 3 17 x8 (.int .i64 1) v3 R fun x18=>
 j (sOf [(3,x18)]) v3) (j (sOf [(3,x8)]) v3)))
 (fun s d v2=>
 LoopW (fun rec s_2 d_2 v4=>
 xG 40 3 38 x1 v4 R fun x21=>
 xrN 38 x21 v4 R fun x22=>
 xrT .lss 3 19 22 (s_2 4) x22 v4 R fun x23=>
 BS x23 (xG 40 3 38 x1 v4 R fun x27=>
 xrI 38 x27 (s_2 4) v4 R fun x29=>
 xrL 40 x29 v4 R fun x30=>
 xC 20 #[x30] v4 R fun x31 v5=>
 xrT .add 3 32 33 (s_2 3) x31 v5 R fun x34=>
 xrO .add 3 24 (s_2 4) (.int .i64 1) v5 R fun x25=>
 rec (sOf [(3,x34),(4,x25)]) v5) (R (.returned (s_2 3)) v4))
 (sOf [(3,(s 3)),(4,(.int .i64 0))]) v2)
theorem sh_r_weight_ok(h:sh_r_weight p0 w R):Calls Tryz.prog 20 #[p0] w R:=
 cq (args:=[p0]) (good (zL [(5,[3,4])]) (zO [(2000,[16]),(3001,[3])]) (fun _=>0) (fun _=>none) (zL [(5,[])]) (zL [(2000,[]),(3001,[])]) (zT [2000,3001]) (zT [15,16,23])) Tryz.func20 rfl (by kernel_rfl) (by kernel_rfl) h
end
end Go.Proofs.YtilpjhceemaplaaGreatDoor
