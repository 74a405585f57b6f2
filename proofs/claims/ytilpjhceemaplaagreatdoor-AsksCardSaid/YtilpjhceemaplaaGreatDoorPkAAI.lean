/- A part of one proof (RCon2, RCon3, ShR3, RW11, RW12, RW13, RW14, RW15, RW16, RW16b, RW19). -/
import Derived.Test.YtilpjhceemaplaaGreatDoorPkAAH
set_option linter.all false
set_option linter.unusedVariables false
set_option linter.unusedSimpArgs false
set_option maxRecDepth 100000
set_option maxHeartbeats 4000000
namespace Go.Proofs.YtilpjhceemaplaaGreatDoor
open Go.RowKit Sx
def RStB(pb tb:Nat)(T:List P.Tok)(d:Nat)(w w':World)(l:List Value):P.Res P.Bd->Prop
 | .ok x k vs=>IsRb (Nu w w') w' l x/\RP w' pb tb T k vs d 0 0
 | .err c a=>c≠0/\∃ k vs,RP w' pb tb T k vs d c a
def RPostB(pb tb:Nat)(T:List P.Tok)(d:Nat)(w:World)(r:P.Res P.Bd)(e:Ending)(w':World):Prop:=
 ∃ a b c f,e = .returned (.agg #[a,b,c,f])/\(a.oneCell'=true/\b.oneCell'=true/\c.oneCell'=true/\f.oneCell'=true)/\RFr pb w w'/\RStB pb tb T d w w' [a,b,c,f] r
structure RCLit(f:Nat):Prop where
 go:∀ {pb tb:Nat} {T:List P.Tok} {k:Nat} {vars:List P.Bs} {d:Nat} {w:World} {r:P.Res P.Bd},RP w pb tb T k vars d 0 0->d≤8 ->
  P.pLit T f k vars d=some r->Calls Tryz.prog 79 #[pp pb] w (RPostB pb tb T d w r)
structure RCRow(f:Nat):Prop where
 go:∀ {pb tb:Nat} {T:List P.Tok} {k:Nat} {vars:List P.Bs} {d:Nat} {w:World} {r:P.Res P.Bd},RP w pb tb T k vars d 0 0->d≤8 ->
  P.pRow T f k vars d=some r->Calls Tryz.prog 43 #[pp pb] w (RPostB pb tb T d w r)
structure RCBody(f:Nat):Prop where
 go:∀ {pb tb:Nat} {T:List P.Tok} {k:Nat} {vars:List P.Bs} {d:Nat} {w:World} {r:P.Res P.Bd},RP w pb tb T k vars d 0 0->d≤8 ->
  P.pBody T f k vars d=some r->Calls Tryz.prog 22 #[pp pb] w (RPostB pb tb T d w r)
structure RCRest(f:Nat):Prop where
 go:∀ {pb tb:Nat} {T:List P.Tok} {k:Nat} {vars:List P.Bs} {d:Nat} {w:World} {r:P.Res P.Bd},RP w pb tb T k vars d 0 0->d≤8 ->
  P.pRest T f k vars d=some r->Calls Tryz.prog 44 #[pp pb] w (RPostB pb tb T d w r)
structure RCGoal(f:Nat):Prop where
 go:∀ {pb tb:Nat} {T:List P.Tok} {k:Nat} {vars:List P.Bs} {d:Nat} {w:World} {r:P.Res P.Bd},RP w pb tb T k vars (d+1:Nat) 0 0->d+1≤8 ->
  P.pLit T (f+1) k vars d=some r->Calls Tryz.prog 118 #[pp pb] w (RPostB pb tb T (d+1) w r)
theorem rStB_RP{wA w2:World}{pb tb:Nat}{T:List P.Tok}{d:Nat}{l:List Value}{r:P.Res P.Bd}(hst:RStB pb tb T d wA w2 l r) :
  ∃ k vs c a,RP w2 pb tb T k vs d c a/\∀ {w w3:World} (d':Nat),w.heap.size≤wA.heap.size->w2.heap.size≤w3.heap.size->Keeps (Nu wA w2) 111 w2 w3->Keeps (Nu wA w2) 40 w2 w3 ->
   RP w3 pb tb T k vs d' c a->RStB pb tb T d' w w3 l r:=by
 cases r with
 | err c a=>
  obtain⟨hc,k,vs,hP⟩:=hst
  exact⟨k,vs,c,a,hP,fun d' _ _ _ _ hP'=>⟨hc,k,vs,hP'⟩⟩
 | ok x k vs=>
  obtain⟨hx,hP⟩:=hst
  exact⟨k,vs,0,0,hP,fun d' h1 h2 h3 h4 hP'=>⟨IsRb.mono (fun b hb=>⟨by have:=hb.1;omega,by have:=hb.2;omega⟩) h3 h4 _ _ hx,hP'⟩⟩
theorem Tryz.infoB:(Tryz.prog.info? 40).map (fun i=>(i.zero,i.size,i.bytes))=some (some (.agg #[.int .u8 0,.string (bs []),.slice none 0 0,.slice none 0 0]),4,72):=by kernel_rfl
theorem wr_appendB{w:World}{base n:Nat}{v:Value}{xs:List Value}(hown:w.ownsRow base 40 4 v n xs){b m:Nat}{a0 a1 a2 a3:Value}
  (hb:w.heap[b]?=some (.cells #[a0,a1,a2,a3] 40)) (h1:a0.oneCell'=true/\a1.oneCell'=true/\a2.oneCell'=true/\a3.oneCell'=true)
  (hn:n≤100000) (hbase:base≤w.heap.size) {K:Value->World->Prop} {X:Value->World->Prop}
  (h:∀ v' w',w'.ownsRow base 40 4 v' (n+1) (xs++[a0,a1,a2,a3])->w.grownBy w' v.ownBlock->(v'.ownBlock=v.ownBlock\/∀ k,v'.ownBlock=some k->w.heap.size≤k)->K v' w') :
  WR Tryz.prog (Builtin.append_ #[38,38] 38 #[v,.slice (some ⟨b,0,none⟩) 1 m]) w K X:=by
 obtain⟨i,hi,h0⟩:=Option.map_eq_some_iff.1 Tryz.infoB
 simp only[Prod.mk.injEq] at h0
 obtain⟨hz,hs,hbt⟩:=h0
 refine wr_append (t:=38) (e:=40) (by kernel_rfl) hi hz hs hbt rfl (by decide) hown hb rfl (fun u hu=>?_) (by omega) (by decide) hbase h
 simp only[List.mem_cons,List.not_mem_nil,or_false] at hu
 rcases hu with rfl | rfl | rfl | rfl
 ·exact h1.1
 ·exact h1.2.1
 ·exact h1.2.2.1
 ·exact h1.2.2.2
theorem IsRbs.one{F:Nat->Prop}{w:World}:∀ {xs:List P.Bd} {vs:List Value},IsRbs F w vs xs->∀ u∈vs,u.oneCell'=true
 | [],vs,h,u,hu=>by unfold IsRbs at h;subst h;cases hu
 | x::xs,vs,h,u,hu=>by
  unfold IsRbs at h
  obtain⟨l,r,rfl,h2,h3⟩:=h
  obtain⟨a,b,c,d,rfl,p1,p2,p3,p4⟩:=h2.len
  simp only[List.mem_append,List.mem_cons,List.not_mem_nil,or_false] at hu
  rcases hu with(rfl | rfl | rfl | rfl) | hu
  ·exact p1
  ·exact p2
  ·exact p3
  ·exact p4
  ·exact IsRbs.one h3 u hu
structure RowB(w w1:World)(v:Value)(acc:List P.Bd):Prop where
 own:∃ xs,w1.ownsRow w.heap.size 40 4 v acc.length xs/\IsRbs (Fx w w1 v) w1 xs acc
theorem RowB.nil(w:World):RowB w w (.slice none 0 0) []:=⟨[],World.ownsRow_nil _ _ _ _,by unfold IsRbs;rfl⟩
theorem RowB.more{w w1 w2 w3 w4:World}{pb:Nat}{v v':Value}{acc:List P.Bd}{x:P.Bd}{a b c f:Value}(h:RowB w w1 v acc)(h12:RFr pb w1 w2)(hpb:pb<w.heap.size)(hx:IsRb (Nu w1 w2) w2 [a,b,c,f] x)(hww:w.heap.size≤w1.heap.size)
  (h23:Ext w2 w3) {xs:List Value} (hxs:w3.ownsRow w.heap.size 40 4 v acc.length xs) (hown':w4.ownsRow w.heap.size 40 4 v' (acc.length+1) (xs++[a,b,c,f]))
  (hg:w3.grownBy w4 v.ownBlock) (hv:v'.ownBlock=v.ownBlock\/∀ k,v'.ownBlock=some k->w3.heap.size≤k):RowB w w4 v' (acc++[x]):=by
 obtain⟨xs',o1,o2⟩:=h.own
 have s12:=h12.size
 have s23:=h23.size
 have s34:=hg.size
 have o3:w3.ownsRow w.heap.size 40 4 v acc.length xs':=own_ext h23.ext (own_fr h12 o1 (by omega) (by decide))
 have e:xs'=xs:=by
  rcases o3.2 with⟨hv1,hn⟩| ⟨g1,c1,cur1,hv1,_,g2,_,_,_,g3⟩
  ·have l1:=o3.1
   have l2:=hxs.1
   rw[hn] at l1 l2
   have e1:xs'=[]:=List.eq_nil_of_length_eq_zero (by simpa using l1)
   have e2:xs=[]:=List.eq_nil_of_length_eq_zero (by simpa using l2)
   rw[e1,e2]
  ·rcases hxs.2 with⟨hv2,_⟩| ⟨g1',c1',cur1',hv2,_,g2',_,_,_,g3'⟩
   ·rw[hv1] at hv2;cases hv2
   ·rw[hv1] at hv2
    injection hv2 with hv2 _ _
    injection hv2 with hv2
    injection hv2 with hv2 _ _
    subst hv2
    rw[g2] at g2'
    injection g2' with g2'
    injection g2' with g2' _ _
    subst g2'
    rw[<- g3,<- g3']
 subst e
 have lt:∀ k,v.ownBlock=some k->k<w1.heap.size:=fun k hk=>(o1.lt k hk).2
 have kp34:∀ b t cs,some b≠v.ownBlock->b<w3.heap.size->w3.heap[b]?=some (.cells cs t (0,0))->w4.heap[b]?=some (.cells cs t (0,0)):=
  fun b t cs hb hl hc=>by rw[hg.block b hl hb];exact hc
 have nv:∀ b,b<w3.heap.size->some b≠v.ownBlock->some b≠v'.ownBlock:=fun b hb hne he=>by
  rcases hv with hv | hv
  ·rw[hv] at he;exact hne he
  ·have:=hv b he.symm;omega
 refine⟨_,by rw[List.length_append];exact hown',IsRbs.snoc ?_ ?_⟩
 ·refine IsRbs.mono (F:=Fx w w1 v) (fun b hb=>⟨hb.1,by have:=hb.2.1;omega,nv b (by have:=hb.2.1;omega) hb.2.2⟩) (fun b cs hb hc=>?_) (fun b cs hb hc=>?_) _ _ o2
  all_goals
   have h1:=SFr.keep h12 hc (by have:=hb.1;omega) (by decide)
   have h2:=h23.ext _ _ h1
   exact kp34 b _ cs hb.2.2 (ltOf h2) h2
 ·refine IsRb.mono (F:=Nu w1 w2) (fun b hb=>⟨by have:=hb.1;omega,by have:=hb.2;omega,nv b (by have:=hb.2;omega) (fun e=>by have:=lt b e.symm;have:=hb.1;omega)⟩) (fun b cs hb hc=>?_) (fun b cs hb hc=>?_) _ _ hx
  all_goals
   have h2:=h23.ext _ _ hc
   exact kp34 b _ cs (fun e=>by have:=lt b e.symm;have:=hb.1;omega) (ltOf h2) h2
end Go.Proofs.YtilpjhceemaplaaGreatDoor
namespace Go.Proofs.YtilpjhceemaplaaGreatDoor
open Go.Proofs.YtilpjhceemaplaaGreatDoor.Sx
section
variable{p0 p1 p2 p3 p4 p5 p6 p7:Value}{w:World}{R:Ending->World->Prop}
def sh_Pr_parser_lit(p0:Value)(w:World)(R:Ending->World->Prop):Prop:=
 xwA 40 w R fun x2 w1=>
 xrD 40 #[] w1 R fun x5=>
 xwA 40 w1 R fun x3 v1=>
 xuS 40 x3 x5 v1 R fun v2=>
 xC 80 #[p0] v2 R fun x7 v3=>
 JN (fun j=>
 BS x7 (xC 118 #[p0] v3 R fun x10 v5=>
 xuS 40 x3 x10 v5 R fun v6=>
 j (sOf []) v6) (j (sOf []) v3))
 (fun s d v4=>
 xH 67 3 3 p0 v4 R fun x14=>
 xrO .sub 3 14 x14 (.int .i64 1) v4 R fun x15=>
 NC p0 fun x16=>
 xrF 67 x16 3 v4 R fun x17=>
 xuS 3 x17 x15 v4 R fun v7=>
 xrL 40 x3 v7 R fun x18=>
 xuS 40 x2 x18 v7 R fun v8=>
 nrL 40 x2 v8 fun r=>R (.returned r) v8)
theorem sh_Pr_parser_lit_ok(h:sh_Pr_parser_lit p0 w R):Calls Tryz.prog 79 #[p0] w R:=
 cq (args:=[p0]) (good (fun _=>[]) (zO [(4001,[])]) (fun _=>0) (fun _=>none) (fun _=>[]) (zL [(4001,[])]) (fun _=>false) (zT [4,7,8])) Tryz.func79 rfl (by kernel_rfl) (by kernel_rfl) h
def sh_Pr_parser_goal(p0:Value)(w:World)(R:Ending->World->Prop):Prop:=
 xwA 40 w R fun x2 w1=>
 xC 34 #[p0,(.string (bs [33]))] w1 R fun x16 v1=>
 BS x16 (xrD 40 #[(0,(.int .u8 33))] v1 R fun x18=>
 xuS 40 x2 x18 v1 R fun v2=>
 nrL 40 x2 v2 fun r=>R (.returned r) v2) (xC 34 #[p0,(.string (bs [92,43]))] v1 R fun x20 v3=>
 BS x20 (xC 79 #[p0] v3 R fun x23 v4=>
 xwA 40 v4 R fun x5 v5=>
 xuS 40 x5 x23 v5 R fun v6=>
 xrL 40 x5 v6 R fun x24=>
 WR Tryz.prog (Instr.buildSlice 38 1 #[(0,x24)]) v6 (fun x25 v7=>
 xrD 40 #[(0,(.int .u8 126)),(3,x25)] v7 R fun x26=>
 xuS 40 x2 x26 v7 R fun v8=>
 nrL 40 x2 v8 fun r_1=>R (.returned r_1) v8) (PX R)) (xC 34 #[p0,(.string (bs [40]))] v3 R fun x28 v9=>
 BS x28 (xC 22 #[p0] v9 R fun x31 v10=>
 xwA 40 v10 R fun x7 v11=>
 xuS 40 x7 x31 v11 R fun v12=>
 xC 23 #[p0,(.string (bs [41]))] v12 R fun x33 v13=>
 xrL 40 x7 v13 R fun x34=>
 xuS 40 x2 x34 v13 R fun v14=>
 nrL 40 x2 v14 fun r_2=>R (.returned r_2) v14) (xC 16 #[p0] v9 R fun x36 v15=>
 xwA 69 v15 R fun x8 v16=>
 xuS 69 x8 x36 v16 R fun v17=>
 xC 67 #[p0] v17 R fun x38 v18=>
 xwA 111 v18 R fun x9 v19=>
 xuS 111 x9 x38 v19 R fun v20=>
 xC 16 #[p0] v20 R fun x40 v21=>
 xwA 69 v21 R fun x10 v22=>
 xuS 69 x10 x40 v22 R fun v23=>
 xG 69 1 9 x10 v23 R fun x42=>
 xC 36 #[x42] v23 R fun x43 v24=>
 JS (fun j=>
 xH 67 4 32 p0 v24 R fun x47=>
 xrO .eql 32 47 x47 (.int .i64 0) v24 R fun x48=>BS x48 (
 xrO .eql 3 50 x43 (.int .i64 2) v24 R fun x51=>BS x51 (
 xG 69 0 5 x10 v24 R fun x55=>
 xrO .eql 5 55 x55 (.int .u8 115) v24 R fun x56=>BS x56 (
 j (sOf [(62,(.bool true))]) v24) (
 xG 69 0 5 x10 v24 R fun x59=>
 xrO .eql 5 59 x59 (.int .u8 97) v24 R fun x60=>
 j (sOf [(62,x60)]) v24)) (
 j (sOf [(62,(.bool false))]) v24)) (
 j (sOf [(62,(.bool false))]) v24))
 (fun s d v25=>
 BS (s 62) (xH 67 1 3 p0 v25 R fun x66=>
 xrO .add 3 66 x66 (.int .i64 1) v25 R fun x67=>
 NC p0 fun x68=>
 xrF 67 x68 1 v25 R fun x69=>
 xuS 3 x69 x67 v25 R fun v26=>
 xC 67 #[p0] v26 R fun x71 v27=>
 xwA 111 v27 R fun x12 v28=>
 xuS 111 x12 x71 v28 R fun v29=>
 xG 69 1 9 x10 v29 R fun x73=>
 xrL 111 x9 v29 R fun x74=>
 xrL 111 x12 v29 R fun x75=>
 WR Tryz.prog (Instr.buildSlice 37 2 #[(0,x74),(1,x75)]) v29 (fun x76 v30=>
 xrD 40 #[(0,(.int .u8 103)),(1,x73),(2,x76)] v30 R fun x77=>
 xuS 40 x2 x77 v30 R fun v31=>
 nrL 40 x2 v31 fun r_3=>R (.returned r_3) v31) (PX R)) (JS (fun j_1=>
 xG 111 0 5 x9 v25 R fun x79=>
 xrO .eql 5 79 x79 (.int .u8 99) v25 R fun x80=>BS x80 (
 xG 111 1 9 x9 v25 R fun x83=>
 xrO .eql 9 83 x83 (.string (bs [43])) v25 R fun x84=>BS x84 (
 j_1 (sOf [(13,(.bool true))]) v25) (
 xG 111 1 9 x9 v25 R fun x87=>
 xrO .eql 9 87 x87 (.string (bs [45])) v25 R fun x88=>BS x88 (
 j_1 (sOf [(13,(.bool true))]) v25) (
 xG 111 1 9 x9 v25 R fun x92=>
 xrO .eql 9 92 x92 (.string (bs [42])) v25 R fun x93=>BS x93 (
 j_1 (sOf [(13,(.bool true))]) v25) (
 xG 111 1 9 x9 v25 R fun x97=>
 xrO .eql 9 97 x97 (.string (bs [47,47])) v25 R fun x98=>BS x98 (
 j_1 (sOf [(13,(.bool true))]) v25) (
 xG 111 1 9 x9 v25 R fun x102=>
 xrO .eql 9 102 x102 (.string (bs [109,111,100])) v25 R fun x103=>BS x103 (
 xG 111 4 37 x9 v25 R fun x106=>
 xrN 37 x106 v25 R fun x107=>
 xrO .eql 3 107 x107 (.int .i64 2) v25 R fun x108=>BS x108 (
 j_1 (sOf [(13,(.bool true))]) v25) (
 j_1 (sOf [(13,(.bool false))]) v25)) (
 j_1 (sOf [(13,(.bool false))]) v25)))))) (
 j_1 (sOf [(13,(.bool false))]) v25))
 (fun s_1 d_1 v32=>
 BS (s_1 13) (
 JS (fun j_2=>
 xG 111 0 5 x9 v32 R fun x113=>
 xrO .neq 5 113 x113 (.int .u8 97) v32 R fun x114=>BS x114 (
 xG 111 0 5 x9 v32 R fun x117=>
 xrO .neq 5 117 x117 (.int .u8 99) v32 R fun x118=>BS x118 (
 j_2 (sOf [(132,(.bool true))]) v32) (
 j_2 (sOf [(132,(.bool true))]) v32)) (
 j_2 (sOf [(132,(.bool true))]) v32))
 (fun s_2 d_2 v33=>
 BS (s_2 132) (xG 69 2 3 x8 v33 R fun x135=>
 xC 17 #[p0,(.int .i64 2),x135] v33 R fun x136 v34=>
 xrD 40 #[] v34 R fun x137=>
 xuS 40 x2 x137 v34 R fun v35=>
 nrL 40 x2 v35 fun r_4=>R (.returned r_4) v35) (xG 111 1 9 x9 v33 R fun x139=>
 xC 36 #[x139] v33 R fun x140 v36=>
 JN (fun j_3=>
 JS (fun j_4=>
 xrO .geq 3 141 x140 (.int .i64 0) v36 R fun x142=>BS x142 (
 xG 111 4 37 x9 v36 R fun x146=>
 xrN 37 x146 v36 R fun x147=>
 xrT .neq 3 144 147 x140 x147 v36 R fun x148=>
 j_4 (sOf [(149,x148)]) v36) (
 j_4 (sOf [(149,(.bool false))]) v36))
 (fun s_4 d_4 v38=>
 BS (s_4 149) (xG 69 2 3 x8 v38 R fun x152=>
 xC 17 #[p0,(.int .i64 3),x152] v38 R fun x153 v39=>
 j_3 (sOf []) v39) (j_3 (sOf []) v38)))
 (fun s_3 d_3 v37=>
 xG 111 1 9 x9 v37 R fun x155=>
 xG 111 4 37 x9 v37 R fun x157=>
 xrD 40 #[(0,(.int .u8 103)),(1,x155),(2,x157)] v37 R fun x158=>
 xuS 40 x2 x158 v37 R fun v40=>
 nrL 40 x2 v40 fun r_5=>R (.returned r_5) v40)))) (
 JS (fun j_5=>
 xG 111 0 5 x9 v32 R fun x113_1=>
 xrO .neq 5 113 x113_1 (.int .u8 97) v32 R fun x114_1=>BS x114_1 (
 xG 111 0 5 x9 v32 R fun x117_1=>
 xrO .neq 5 117 x117_1 (.int .u8 99) v32 R fun x118_1=>BS x118_1 (
 j_5 (sOf [(132,(.bool true))]) v32) (
 xG 111 1 9 x9 v32 R fun x125=>
 xrO .eql 9 125 x125 (.string (bs [46])) v32 R fun x126=>BS x126 (
 j_5 (sOf [(132,(.bool true))]) v32) (
 xG 111 1 9 x9 v32 R fun x130=>
 xrO .eql 9 130 x130 (.string (bs [91,93])) v32 R fun x131=>
 j_5 (sOf [(132,x131)]) v32))) (
 xG 111 1 9 x9 v32 R fun x125_1=>
 xrO .eql 9 125 x125_1 (.string (bs [46])) v32 R fun x126_1=>BS x126_1 (
 j_5 (sOf [(132,(.bool true))]) v32) (
 xG 111 1 9 x9 v32 R fun x130_1=>
 xrO .eql 9 130 x130_1 (.string (bs [91,93])) v32 R fun x131_1=>
 j_5 (sOf [(132,x131_1)]) v32)))
 (fun s_5 d_5 v41=>
 BS (s_5 132) (xG 69 2 3 x8 v41 R fun x135_1=>
 xC 17 #[p0,(.int .i64 2),x135_1] v41 R fun x136_1 v42=>
 xrD 40 #[] v42 R fun x137_1=>
 xuS 40 x2 x137_1 v42 R fun v43=>
 nrL 40 x2 v43 fun r_6=>R (.returned r_6) v43) (xG 111 1 9 x9 v41 R fun x139_1=>
 xC 36 #[x139_1] v41 R fun x140_1 v44=>
 JN (fun j_6=>
 JS (fun j_7=>
 xrO .geq 3 141 x140_1 (.int .i64 0) v44 R fun x142_1=>BS x142_1 (
 xG 111 4 37 x9 v44 R fun x146_1=>
 xrN 37 x146_1 v44 R fun x147_1=>
 xrT .neq 3 144 147 x140_1 x147_1 v44 R fun x148_1=>
 j_7 (sOf [(149,x148_1)]) v44) (
 j_7 (sOf [(149,(.bool false))]) v44))
 (fun s_7 d_7 v46=>
 BS (s_7 149) (xG 69 2 3 x8 v46 R fun x152_1=>
 xC 17 #[p0,(.int .i64 3),x152_1] v46 R fun x153_1 v47=>
 j_6 (sOf []) v47) (j_6 (sOf []) v46)))
 (fun s_6 d_6 v45=>
 xG 111 1 9 x9 v45 R fun x155_1=>
 xG 111 4 37 x9 v45 R fun x157_1=>
 xrD 40 #[(0,(.int .u8 103)),(1,x155_1),(2,x157_1)] v45 R fun x158_1=>
 xuS 40 x2 x158_1 v45 R fun v48=>
 nrL 40 x2 v48 fun r_7=>R (.returned r_7) v48))))))))))
theorem sh_Pr_parser_goal_ok(h:sh_Pr_parser_goal p0 w R):Calls Tryz.prog 118 #[p0] w R:=
 cq (args:=[p0]) (good (fun _=>[]) (zO [(17000,[62]),(21000,[13]),(22000,[132]),(26000,[149]),(27001,[])]) (fun _=>0) (fun _=>none) (fun _=>[]) (zL [(17000,[]),(21000,[13]),(22000,[]),(26000,[]),(27001,[])]) (zT [17000,21000,22000,26000]) (zT [3,4,6,16,17,20,21,28,29,60,61,62,131,132,148,149])) Tryz.func118 rfl (by kernel_rfl) (by kernel_rfl) h
def sh_Pr_parser_row(p0:Value)(w:World)(R:Ending->World->Prop):Prop:=
 xwA 40 w R fun x2 w1=>
 LoopW (fun rec s d v1=>
 BS (s 4) (xC 79 #[p0] v1 R fun x8 v2=>
 xwA 40 v2 R fun x5 v3=>
 xuS 40 x5 x8 v3 R fun v4=>
 xrL 40 x5 v4 R fun x10=>
 WR Tryz.prog (Instr.buildSlice 38 1 #[(0,x10)]) v4 (fun x11 v5=>
 WR Tryz.prog (Builtin.append_ #[38,38] 38 #[(s 3),x11]) v5 (fun x12 v6=>
 xC 34 #[p0,(.string (bs [44]))] v6 R fun x14 v7=>
 rec (sOf [(3,x12),(4,x14)]) v7) (PX R)) (PX R)) (xrN 38 ((s 3)) v1 R fun x16=>
 xrO .eql 3 16 x16 (.int .i64 1) v1 R fun x17=>
 BS x17 (xrI 38 (s 3) (.int .i64 0) v1 R fun x19=>
 xrL 40 x19 v1 R fun x20=>
 xuS 40 x2 x20 v1 R fun v8=>
 nrL 40 x2 v8 fun r=>R (.returned r) v8) (xrD 40 #[(0,(.int .u8 44)),(3,(s 3))] v1 R fun x22=>
 xuS 40 x2 x22 v1 R fun v9=>
 nrL 40 x2 v9 fun r_1=>R (.returned r_1) v9)))
 (sOf [(3,(.slice none 0 0)),(4,(.bool true))]) w1
theorem sh_Pr_parser_row_ok(h:sh_Pr_parser_row p0 w R):Calls Tryz.prog 43 #[p0] w R:=
 cq (args:=[p0]) (good (zL [(3,[3,4])]) (fun _=>none) (fun _=>0) (fun _=>none) (zL [(3,[])]) (fun _=>[]) (fun _=>false) (zT [4,6,14,17])) Tryz.func43 rfl (by kernel_rfl) (by kernel_rfl) h
def sh_Pr_parser_rest(p0:Value)(w:World)(R:Ending->World->Prop):Prop:=
 xwA 40 w R fun x2 w1=>
 xrD 40 #[] w1 R fun x5=>
 xwA 40 w1 R fun x3 v1=>
 xuS 40 x3 x5 v1 R fun v2=>
 xC 80 #[p0] v2 R fun x7 v3=>
 JN (fun j=>
 BS x7 (xC 22 #[p0] v3 R fun x10 v5=>
 xuS 40 x3 x10 v5 R fun v6=>
 j (sOf []) v6) (j (sOf []) v3))
 (fun s d v4=>
 xH 67 3 3 p0 v4 R fun x14=>
 xrO .sub 3 14 x14 (.int .i64 1) v4 R fun x15=>
 NC p0 fun x16=>
 xrF 67 x16 3 v4 R fun x17=>
 xuS 3 x17 x15 v4 R fun v7=>
 xrL 40 x3 v7 R fun x18=>
 xuS 40 x2 x18 v7 R fun v8=>
 nrL 40 x2 v8 fun r=>R (.returned r) v8)
theorem sh_Pr_parser_rest_ok(h:sh_Pr_parser_rest p0 w R):Calls Tryz.prog 44 #[p0] w R:=
 cq (args:=[p0]) (good (fun _=>[]) (zO [(4001,[])]) (fun _=>0) (fun _=>none) (fun _=>[]) (zL [(4001,[])]) (fun _=>false) (zT [4,7,8])) Tryz.func44 rfl (by kernel_rfl) (by kernel_rfl) h
def sh_Pr_parser_body(p0:Value)(w:World)(R:Ending->World->Prop):Prop:=
 xwA 40 w R fun x2 w1=>
 xC 43 #[p0] w1 R fun x11 v1=>
 xwA 40 v1 R fun x3 v2=>
 xuS 40 x3 x11 v2 R fun v3=>
 xC 34 #[p0,(.string (bs [45,62]))] v3 R fun x13 v4=>
 BS x13 (xC 43 #[p0] v4 R fun x16 v5=>
 xwA 40 v5 R fun x5 v6=>
 xuS 40 x5 x16 v6 R fun v7=>
 xrD 40 #[(0,(.int .u8 103)),(1,(.string (bs [102,97,105,108])))] v7 R fun x17=>
 xwA 40 v7 R fun x6 v8=>
 xuS 40 x6 x17 v8 R fun v9=>
 xC 34 #[p0,(.string (bs [59]))] v9 R fun x19 v10=>
 JN (fun j=>
 BS x19 (xC 44 #[p0] v10 R fun x22 v12=>
 xuS 40 x6 x22 v12 R fun v13=>
 j (sOf []) v13) (j (sOf []) v10))
 (fun s d v11=>
 xrL 40 x3 v11 R fun x23=>
 xrL 40 x5 v11 R fun x24=>
 xrL 40 x6 v11 R fun x25=>
 WR Tryz.prog (Instr.buildSlice 38 3 #[(0,x23),(1,x24),(2,x25)]) v11 (fun x26 v14=>
 xrD 40 #[(0,(.int .u8 63)),(3,x26)] v14 R fun x27=>
 xuS 40 x2 x27 v14 R fun v15=>
 nrL 40 x2 v15 fun r=>R (.returned r) v15) (PX R))) (xC 34 #[p0,(.string (bs [59]))] v4 R fun x29 v16=>
 BS x29 (xC 44 #[p0] v16 R fun x32 v17=>
 xwA 40 v17 R fun x9 v18=>
 xuS 40 x9 x32 v18 R fun v19=>
 xrL 40 x3 v19 R fun x33=>
 xrL 40 x9 v19 R fun x34=>
 WR Tryz.prog (Instr.buildSlice 38 2 #[(0,x33),(1,x34)]) v19 (fun x35 v20=>
 xrD 40 #[(0,(.int .u8 59)),(3,x35)] v20 R fun x36=>
 xuS 40 x2 x36 v20 R fun v21=>
 nrL 40 x2 v21 fun r_1=>R (.returned r_1) v21) (PX R)) (xrL 40 x3 v16 R fun x37=>
 xuS 40 x2 x37 v16 R fun v22=>
 nrL 40 x2 v22 fun r_2=>R (.returned r_2) v22))
theorem sh_Pr_parser_body_ok(h:sh_Pr_parser_body p0 w R):Calls Tryz.prog 22 #[p0] w R:=
 cq (args:=[p0]) (good (fun _=>[]) (zO [(8001,[])]) (fun _=>0) (fun _=>none) (fun _=>[]) (zL [(8001,[])]) (fun _=>false) (zT [4,7,8,13,14,19,20,29,30])) Tryz.func22 rfl (by kernel_rfl) (by kernel_rfl) h
def sh_Pr_parser_finished(p0:Value)(w:World)(R:Ending->World->Prop):Prop:=
 xC 16 #[p0] w R fun x4 w1=>
 xwA 69 w1 R fun x2 v1=>
 xuS 69 x2 x4 v1 R fun v2=>
 JN (fun j=>
 xH 67 4 32 p0 v2 R fun x8=>
 xrO .eql 32 8 x8 (.int .i64 0) v2 R fun x9=>BS x9 (
 xG 69 0 5 x2 v2 R fun x12=>
 xrO .neq 5 12 x12 (.int .u8 101) v2 R fun x13=>
 j (sOf [(14,x13)]) v2) (
 j (sOf [(14,(.bool false))]) v2))
 (fun s d v3=>
 BS (s 14) (xC 33 #[p0] v3 R fun x16 v4=>
 R (.returned (.tuple #[])) v4) (R (.returned (.tuple #[])) v3))
theorem sh_Pr_parser_finished_ok(h:sh_Pr_parser_finished p0 w R):Calls Tryz.prog 24 #[p0] w R:=
 cq (args:=[p0]) (good (fun _=>[]) (zO [(1000,[14])]) (fun _=>0) (fun _=>none) (fun _=>[]) (zL [(1000,[])]) (fun _=>false) (zT [13,14])) Tryz.func24 rfl (by kernel_rfl) (by kernel_rfl) h
def sh_Pr_parser_clause(p0:Value)(w:World)(R:Ending->World->Prop):Prop:=
 xwA 43 w R fun x2 w1=>
 NC p0 fun x9=>
 xrF 67 x9 2 w1 R fun x10=>
 xuS 41 x10 (.slice none 0 0) w1 R fun v1=>
 xC 16 #[p0] v1 R fun x12 v2=>
 xwA 69 v2 R fun x3 v3=>
 xuS 69 x3 x12 v3 R fun v4=>
 xG 69 0 5 x3 v4 R fun x14=>
 xrO .neq 5 14 x14 (.int .u8 97) v4 R fun x15=>
 BS x15 (xC 33 #[p0] v4 R fun x17 v5=>
 xrD 43 #[] v5 R fun x18=>
 xuS 43 x2 x18 v5 R fun v6=>
 nrL 43 x2 v6 fun r=>R (.returned r) v6) (xH 67 1 3 p0 v4 R fun x22=>
 xrO .add 3 22 x22 (.int .i64 1) v4 R fun x23=>
 NC p0 fun x24=>
 xrF 67 x24 1 v4 R fun x25=>
 xuS 3 x25 x23 v4 R fun v7=>
 xG 69 1 9 x3 v7 R fun x27=>
 xrD 40 #[(0,(.int .u8 103)),(1,(.string (bs [116,114,117,101])))] v7 R fun x28=>
 xrD 43 #[(0,x27),(2,x28)] v7 R fun x29=>
 xwA 43 v7 R fun x4 v8=>
 xuS 43 x4 x29 v8 R fun v9=>
 xC 34 #[p0,(.string (bs [40]))] v9 R fun x31 v10=>
 JS (fun j=>
 BS x31 (xG 69 2 3 x3 v10 R fun x35=>
 xC 35 #[p0,x35] v10 R fun x36 v12=>
 xrF 43 x4 1 v12 R fun x37=>
 xuS 37 x37 x36 v12 R fun v13=>
 xC 23 #[p0,(.string (bs [41]))] v13 R fun x39 v14=>
 j (sOf []) v14) (j (sOf []) v10))
 (fun s d v11=>
 xG 69 1 9 x3 v11 R fun x41=>
 xC 36 #[x41] v11 R fun x42 v15=>
 JS (fun j_1=>
 JS (fun j_2=>
 xH 67 4 32 p0 v15 R fun x46=>
 xrO .eql 32 46 x46 (.int .i64 0) v15 R fun x47=>BS x47 (
 xrO .geq 3 49 x42 (.int .i64 0) v15 R fun x50=>BS x50 (
 j_2 (sOf [(56,(.bool true))]) v15) (
 xG 69 1 9 x3 v15 R fun x53=>
 xrO .eql 9 53 x53 (.string (bs [109,111,100])) v15 R fun x54=>
 j_2 (sOf [(56,x54)]) v15)) (
 j_2 (sOf [(56,(.bool false))]) v15))
 (fun s_2 d_2 v17=>
 BS (s_2 56) (xG 69 2 3 x3 v17 R fun x59=>
 xC 17 #[p0,(.int .i64 3),x59] v17 R fun x60 v18=>
 j_1 (sOf []) v18) (j_1 (sOf []) v17)))
 (fun s_1 d_1 v16=>
 xH 67 4 32 p0 v16 R fun x64=>
 xrO .neq 32 64 x64 (.int .i64 0) v16 R fun x65=>
 BS x65 (xrL 43 x4 v16 R fun x66=>
 xuS 43 x2 x66 v16 R fun v19=>
 nrL 43 x2 v19 fun r_1=>R (.returned r_1) v19) (xC 34 #[p0,(.string (bs [58,45]))] v16 R fun x68 v20=>
 JS (fun j_3=>
 BS x68 (xC 22 #[p0] v20 R fun x71 v22=>
 xrF 43 x4 2 v22 R fun x72=>
 xuS 40 x72 x71 v22 R fun v23=>
 j_3 (sOf []) v23) (j_3 (sOf []) v20))
 (fun s_3 d_3 v21=>
 JS (fun j_4=>
 xH 67 4 32 p0 v21 R fun x76=>
 xrO .eql 32 76 x76 (.int .i64 0) v21 R fun x77=>
 BS x77 (xC 23 #[p0,(.string (bs [46]))] v21 R fun x79 v25=>
 j_4 (sOf []) v25) (j_4 (sOf []) v21))
 (fun s_4 d_4 v24=>
 xH 67 2 41 p0 v24 R fun x83=>
 xrF 43 x4 3 v24 R fun x84=>
 xuS 41 x84 x83 v24 R fun v26=>
 xrL 43 x4 v26 R fun x85=>
 xuS 43 x2 x85 v26 R fun v27=>
 nrL 43 x2 v27 fun r_2=>R (.returned r_2) v27))))))
theorem sh_Pr_parser_clause_ok(h:sh_Pr_parser_clause p0 w R):Calls Tryz.prog 18 #[p0] w R:=
 cq (args:=[p0]) (good (fun _=>[]) (zO [(11002,[]),(13000,[56]),(14001,[]),(19001,[]),(21001,[])]) (fun _=>0) (fun _=>none) (fun _=>[]) (zL [(11002,[]),(13000,[]),(14001,[]),(19001,[]),(21001,[])]) (zT [11002,13000,14001,19001,21001]) (zT [5,7,15,31,32,54,55,56,65,68,69,77])) Tryz.func18 rfl (by kernel_rfl) (by kernel_rfl) h
def sh_r_size(p0:Value)(w:World)(R:Ending->World->Prop):Prop:=
 LoopW (fun rec s d w1=>
 xrN 37 p0 w1 R fun x8=>
 xrT .lss 3 6 8 (s 4) x8 w1 R fun x9=>
 BS x9 (xrI 37 p0 (s 4) w1 R fun x14=>
 xG 111 4 37 x14 w1 R fun x16=>
 xC 19 #[x16] w1 R fun x17 v1=>
 xrO .add 3 18 (s 3) (.int .i64 1) v1 R fun x19=>
 xrT .add 3 19 20 x19 x17 v1 R fun x21=>
 xrO .add 3 10 (s 4) (.int .i64 1) v1 R fun x11=>
 rec (sOf [(3,x21),(4,x11)]) v1) (R (.returned (s 3)) w1))
 (sOf [(3,(.int .i64 0)),(4,(.int .i64 0))]) w
theorem sh_r_size_ok(h:sh_r_size p0 w R):Calls Tryz.prog 19 #[p0] w R:=
 cq (args:=[p0]) (good (zL [(3,[3,4])]) (fun _=>none) (fun _=>0) (fun _=>none) (zL [(3,[])]) (fun _=>[]) (fun _=>false) (zT [9])) Tryz.func19 rfl (by kernel_rfl) (by kernel_rfl) h
end
end Go.Proofs.YtilpjhceemaplaaGreatDoor
namespace Go.Proofs.YtilpjhceemaplaaGreatDoor
open Go.RowKit Sx
def zb19:=(zA zG0 (zA @sh_Pr_parser_lit.eq_1 (zA @al_40 (zA @bd_40 (zA @fa_67_3 (zA @ld_3 (zA @ld_40 (zA @st_3 @st_40))))))))
theorem rLit {f:Nat} (hB:RCGoal f):RCLit (f+1):=⟨by
 intro pb tb T k vars d w r h hd hr
 obtain⟨l1,hkt,hlT,h4⟩:=h.cs
 refine sh_Pr_parser_lit_ok ?_
 simp (disch:=first|assumption|omega|simp only[zS]<;>omega|decide) only[zb19,simprocAttr]
 have hf0:Ext w (upd ((w.alloc (.cells #[.int .u8 0,.string (bs []),.slice none 0 0,.slice none 0 0] 40)).alloc (.cells #[.int .u8 0,.string (bs []),.slice none 0 0,.slice none 0 0] 40)) (w.heap.size+1) (.cells #[.int .u8 0,.string (bs []),.slice none 0 0,.slice none 0 0] 40)):=by(repeat (first | assumption | exact FrM.refl _ _ | (refine FrM.upd ?_ (.inr (by(try simp only[zS])<;>omega))) | refine FrM.alloc ?_ _ | refine FrM.drew ?_))
 by_cases h8:d+1≤8
 ·refine Calls.mono (rEnter_ok (h.ext hf0) (by omega) (by omega)) ?_
  rintro e w1 ⟨rfl,hP1,hF1⟩
  simp (disch:=first|assumption|omega|simp only[zS]<;>omega|decide) only[zb19,simprocAttr]
  have s1:=hF1.size
  rw[size_upd,size_alloc,size_alloc] at s1
  have c0:w1.heap[w.heap.size]?=some (.cells #[.int .u8 0,.string (bs []),.slice none 0 0,.slice none 0 0] 40 (0,0)):=SFr.keep hF1 (by simp (disch:=first|assumption|omega|simp only[zS]<;>omega|decide) only[zH]) (by omega) (by decide)
  have c1:w1.heap[w.heap.size+1]?=some (.cells #[.int .u8 0,.string (bs []),.slice none 0 0,.slice none 0 0] 40 (0,0)):=SFr.keep hF1 (by simp (disch:=first|assumption|omega|simp only[zS]<;>omega|decide) only[zH]) (by omega) (by decide)
  refine Calls.mono (hB.go (d:=d) hP1 h8 hr) ?_
  rintro e w2 ⟨a,b,c,g,rfl,⟨o1,o2,o3,o4⟩,hF2,hst⟩
  have s2:=hF2.size
  have d0:=SFr.keep hF2 c0 (by omega) (by decide)
  have d1:=SFr.keep hF2 c1 (by omega) (by decide)
  obtain⟨k2,vs2,c2,a2,hP2,hfin⟩:=rStB_RP hst
  obtain⟨lc2,vv2,hx2⟩:=id hP2
  have h3:=hx2.cell
  simp (disch:=first|assumption|omega|simp only[zS]<;>omega|decide) only[zb19,simprocAttr,d0,d1,h3,o1,o2,o3,o4]
  have ed:((d+1:Nat):Int)-1=d:=by omega
  rw[ed]
  have hRP:=RP.of (((hx2.updT (q:=w.heap.size+1) (o:=.cells #[a,b,c,g] 40) (by omega) d1 (by decide))).set (k':=k2) (kz:=k2) (d':=d) (er':=c2) (at':=a2) hx2.kt (by omega) rfl (fun h=>h))
  refine⟨_,_,_,_,rfl,⟨o1,o2,o3,o4⟩,(((((hf0.toM.trans hF1).trans hF2).upd (.inr (by omega))).upd (.inl fun _=>.inl rfl)).upd (.inr (by omega))),
   hfin d (by omega) (by((try simp only[zS])<;>omega)) (fun b' cs hb hc=>?_) (fun b' cs hb hc=>?_) (hRP.updT (by omega) (by simp (disch:=first|assumption|omega|simp only[zS]<;>omega|decide) only[zH];exact d0) (by decide))⟩
  all_goals
   rw[hp_upd_other (by omega),hp_upd_other (by omega),hp_upd_other (by omega)]
   exact hc
 ·have hd8:d=8:=by omega
  rw[P.pLit,if_pos (by unfold P.maxDepth;omega)] at hr
  obtain rfl:=(Option.some.inj hr).symm
  refine Calls.mono (rEnter_deep (h.ext hf0) (by omega) (by omega)) ?_
  rintro e w1 ⟨rfl,hP1,hF1⟩
  have s1:=hF1.size
  rw[size_upd,size_alloc,size_alloc] at s1
  have c0:w1.heap[w.heap.size]?=some (.cells #[.int .u8 0,.string (bs []),.slice none 0 0,.slice none 0 0] 40 (0,0)):=SFr.keep hF1 (by simp (disch:=first|assumption|omega|simp only[zS]<;>omega|decide) only[zH]) (by omega) (by decide)
  have c1:w1.heap[w.heap.size+1]?=some (.cells #[.int .u8 0,.string (bs []),.slice none 0 0,.slice none 0 0] 40 (0,0)):=SFr.keep hF1 (by simp (disch:=first|assumption|omega|simp only[zS]<;>omega|decide) only[zH]) (by omega) (by decide)
  obtain⟨lc2,vv2,hx2⟩:=id hP1
  have h3:=hx2.cell
  simp (disch:=first|assumption|omega|simp only[zS]<;>omega|decide) only[zb19,simprocAttr,c0,c1,h3]
  have ed:((d:Nat):Int)+1-1=d:=by omega
  rw[ed]
  exact⟨_,_,_,_,rfl,⟨rfl,rfl,rfl,rfl⟩,((hf0.toM.trans hF1).upd (.inl fun _=>.inl rfl)).upd (.inr (by omega)),by decide,_,_,
   (RP.of (hx2.set (k':=k) (kz:=k) (d':=d) (er':=4) (at':=(P.tk T k).pos) hx2.kt (by omega) rfl (fun h=>h))).updT (by omega) (by simp (disch:=first|assumption|omega|simp only[zS]<;>omega|decide) only[zH];exact c0) (by decide)⟩⟩
def zb20:=(zA zG0 (zA @sh_Pr_parser_rest.eq_1 (zA @al_40 (zA @bd_40 (zA @fa_67_3 (zA @ld_3 (zA @ld_40 (zA @st_3 @st_40))))))))
theorem rRest {f:Nat} (hB:RCBody f):RCRest (f+1):=⟨by
 intro pb tb T k vars d w r h hd hr
 obtain⟨l1,hkt,hlT,h4⟩:=h.cs
 refine sh_Pr_parser_rest_ok ?_
 simp (disch:=first|assumption|omega|simp only[zS]<;>omega|decide) only[zb20,simprocAttr]
 have hf0:Ext w (upd ((w.alloc (.cells #[.int .u8 0,.string (bs []),.slice none 0 0,.slice none 0 0] 40)).alloc (.cells #[.int .u8 0,.string (bs []),.slice none 0 0,.slice none 0 0] 40)) (w.heap.size+1) (.cells #[.int .u8 0,.string (bs []),.slice none 0 0,.slice none 0 0] 40)):=by(repeat (first | assumption | exact FrM.refl _ _ | (refine FrM.upd ?_ (.inr (by(try simp only[zS])<;>omega))) | refine FrM.alloc ?_ _ | refine FrM.drew ?_))
 by_cases h8:d+1≤8
 ·refine Calls.mono (rEnter_ok (h.ext hf0) (by omega) (by omega)) ?_
  rintro e w1 ⟨rfl,hP1,hF1⟩
  simp (disch:=first|assumption|omega|simp only[zS]<;>omega|decide) only[zb20,simprocAttr]
  have s1:=hF1.size
  rw[size_upd,size_alloc,size_alloc] at s1
  have c0:w1.heap[w.heap.size]?=some (.cells #[.int .u8 0,.string (bs []),.slice none 0 0,.slice none 0 0] 40 (0,0)):=SFr.keep hF1 (by simp (disch:=first|assumption|omega|simp only[zS]<;>omega|decide) only[zH]) (by omega) (by decide)
  have c1:w1.heap[w.heap.size+1]?=some (.cells #[.int .u8 0,.string (bs []),.slice none 0 0,.slice none 0 0] 40 (0,0)):=SFr.keep hF1 (by simp (disch:=first|assumption|omega|simp only[zS]<;>omega|decide) only[zH]) (by omega) (by decide)
  rw[P.pRest,if_neg (by unfold P.maxDepth;omega)] at hr
  refine Calls.mono (hB.go (d:=d+1) hP1 h8 hr) ?_
  rintro e w2 ⟨a,b,c,g,rfl,⟨o1,o2,o3,o4⟩,hF2,hst⟩
  have s2:=hF2.size
  have d0:=SFr.keep hF2 c0 (by omega) (by decide)
  have d1:=SFr.keep hF2 c1 (by omega) (by decide)
  obtain⟨k2,vs2,c2,a2,hP2,hfin⟩:=rStB_RP hst
  obtain⟨lc2,vv2,hx2⟩:=id hP2
  have h3:=hx2.cell
  simp (disch:=first|assumption|omega|simp only[zS]<;>omega|decide) only[zb20,simprocAttr,d0,d1,h3,o1,o2,o3,o4]
  have ed:((d+1:Nat):Int)-1=d:=by omega
  rw[ed]
  have hRP:=RP.of (((hx2.updT (q:=w.heap.size+1) (o:=.cells #[a,b,c,g] 40) (by omega) d1 (by decide))).set (k':=k2) (kz:=k2) (d':=d) (er':=c2) (at':=a2) hx2.kt (by omega) rfl (fun h=>h))
  refine⟨_,_,_,_,rfl,⟨o1,o2,o3,o4⟩,(((((hf0.toM.trans hF1).trans hF2).upd (.inr (by omega))).upd (.inl fun _=>.inl rfl)).upd (.inr (by omega))),
   hfin d (by omega) (by((try simp only[zS])<;>omega)) (fun b' cs hb hc=>?_) (fun b' cs hb hc=>?_) (hRP.updT (by omega) (by simp (disch:=first|assumption|omega|simp only[zS]<;>omega|decide) only[zH];exact d0) (by decide))⟩
  all_goals
   rw[hp_upd_other (by omega),hp_upd_other (by omega),hp_upd_other (by omega)]
   exact hc
 ·have hd8:d=8:=by omega
  rw[P.pRest,if_pos (by unfold P.maxDepth;omega)] at hr
  obtain rfl:=(Option.some.inj hr).symm
  refine Calls.mono (rEnter_deep (h.ext hf0) (by omega) (by omega)) ?_
  rintro e w1 ⟨rfl,hP1,hF1⟩
  have s1:=hF1.size
  rw[size_upd,size_alloc,size_alloc] at s1
  have c0:w1.heap[w.heap.size]?=some (.cells #[.int .u8 0,.string (bs []),.slice none 0 0,.slice none 0 0] 40 (0,0)):=SFr.keep hF1 (by simp (disch:=first|assumption|omega|simp only[zS]<;>omega|decide) only[zH]) (by omega) (by decide)
  have c1:w1.heap[w.heap.size+1]?=some (.cells #[.int .u8 0,.string (bs []),.slice none 0 0,.slice none 0 0] 40 (0,0)):=SFr.keep hF1 (by simp (disch:=first|assumption|omega|simp only[zS]<;>omega|decide) only[zH]) (by omega) (by decide)
  obtain⟨lc2,vv2,hx2⟩:=id hP1
  have h3:=hx2.cell
  simp (disch:=first|assumption|omega|simp only[zS]<;>omega|decide) only[zb20,simprocAttr,c0,c1,h3]
  have ed:((d:Nat):Int)+1-1=d:=by omega
  rw[ed]
  exact⟨_,_,_,_,rfl,⟨rfl,rfl,rfl,rfl⟩,((hf0.toM.trans hF1).upd (.inl fun _=>.inl rfl)).upd (.inr (by omega)),by decide,_,_,
   (RP.of (hx2.set (k':=k) (kz:=k) (d':=d) (er':=4) (at':=(P.tk T k).pos) hx2.kt (by omega) rfl (fun h=>h))).updT (by omega) (by simp (disch:=first|assumption|omega|simp only[zS]<;>omega|decide) only[zH];exact c0) (by decide)⟩⟩
theorem own_four{w:World}{base:Nat}{v:Value}{m:Nat}{xs:List Value}(h:w.ownsRow base 40 4 v m xs){i:Nat}(hi:i<m)(h1:∀ u∈xs,u.oneCell'=true) :
  ∃ g cap cur a0 a1 a2 a3,v = .slice (some ⟨g,0,none⟩) m cap/\w.heap[g]?=some (.cells cur 40 (0,0))/\i*4+4≤cur.size/\(cur.toList.drop (i*4)).take 4=[a0,a1,a2,a3] /\
   (xs.drop (4*i)).take 4=[a0,a1,a2,a3]/\a0.oneCell'=true/\a1.oneCell'=true/\a2.oneCell'=true/\a3.oneCell'=true:=by
 obtain⟨hl,h⟩:=h
 rcases h with⟨_,rfl⟩| ⟨g,cap,cur,rfl,g1,g2,g3,g4,g5,g6⟩
 ·omega
 have hms:m*4≤cur.size:=by rw[g5];exact Nat.mul_le_mul_right _ g3
 have e1:(xs.drop (4*i)).take 4=(cur.toList.drop (i*4)).take 4:=by
  rw[<- g6,List.drop_take,List.take_take,Nat.mul_comm 4 i]
  congr 1
  omega
 have e2:((cur.toList.drop (i*4)).take 4).length=4:=by
  simp
  omega
 have hone:∀ u∈(cur.toList.drop (i*4)).take 4,u.oneCell'=true:=fun u hu=>by
  rw[<- e1] at hu
  exact h1 u (List.mem_of_mem_drop (List.mem_of_mem_take hu))
 match hq:(cur.toList.drop (i*4)).take 4,e2 with
 | [a0,a1,a2,a3],_=>
  rw[hq] at hone e1
  exact⟨g,cap,cur,a0,a1,a2,a3,rfl,g2,by omega,hq,e1,hone _ (by simp),hone _ (by simp),hone _ (by simp),hone _ (by simp)⟩
def zb21:=(zA zG0 (zA @sh_Pr_parser_row.eq_1 (zA @al_40 (zA @bd_40 (zA @br_38_1 (zA @ix_38 (zA @ld_40 (zA @ln_38 @st_40))))))))
set_option maxHeartbeats 1000000 in
theorem rRow {f:Nat} (hE:∀ g,g<f+1->RCLit g):RCRow (f+1):=⟨by
 intro pb tb T k vars d w r h hd hr
 obtain⟨l1,hkt,hlT,h4⟩:=h.cs
 rw[P.pRow] at hr
 cases hq:P.pLits T f k vars d [] with
 | none=>rw[hq] at hr;simp [P.Res.bind] at hr
 | some q=>
 rw[hq] at hr
 refine sh_Pr_parser_row_ok ?_
 simp (disch:=first|assumption|omega|simp only[zS]<;>omega|decide) only[zb21,simprocAttr]
 have hf0:Ext w (w.alloc (.cells #[.int .u8 0,.string (bs []),.slice none 0 0,.slice none 0 0] 40)):=by(repeat (first | assumption | exact FrM.refl _ _ | (refine FrM.upd ?_ (.inr (by(try simp only[zS])<;>omega))) | refine FrM.alloc ?_ _ | refine FrM.drew ?_))
 have hpb:pb<(w.alloc (.cells #[.int .u8 0,.string (bs []),.slice none 0 0,.slice none 0 0] 40)).heap.size:=by((try simp only[zS])<;>omega)
 have c0:(w.alloc (.cells #[.int .u8 0,.string (bs []),.slice none 0 0,.slice none 0 0] 40)).heap[w.heap.size]?=some (.cells #[.int .u8 0,.string (bs []),.slice none 0 0,.slice none 0 0] 40 (0,0)):=blk_alloc_new w _
 generalize hwB:w.alloc (.cells #[.int .u8 0,.string (bs []),.slice none 0 0,.slice none 0 0] 40)=wB at *
 have lc0:=ltOf c0
 refine⟨fun n s w1=>RFr pb wB w1 /\
   ((s 4 = .bool true/\∃ f' k' vs acc,n=f'+1/\f'≤f/\acc.length≤k'/\P.pLits T f' k' vs d acc=some q/\RowB wB w1 (s 3) acc/\RP w1 pb tb T k' vs d 0 0) \/
   (s 4 = .bool false/\n=0/\∃ m xs,w1.ownsRow wB.heap.size 40 4 (s 3) m xs/\(∀ u∈xs,u.oneCell'=true)/\m≤100000 /\
    ((∃ k' vs acc,m=acc.length/\q = .ok acc k' vs/\RowB wB w1 (s 3) acc/\RP w1 pb tb T k' vs d 0 0)\/(∃ c a k' vs,q = .err c a/\c≠0/\RP w1 pb tb T k' vs d c a)))),
  ⟨f+1,FrM.refl _ _,.inl ⟨rfl,f,k,vars,[],rfl,Nat.le_refl _,Nat.zero_le _,hq,RowB.nil wB,h.ext hf0⟩⟩,?_⟩
 intro n s dd w1 hI
 refine toPr ?_
 rcases hI with⟨hF,⟨h6,f',k',vs,acc,rfl,hf',hak,hp,hrow,hP⟩| ⟨h6,rfl,m,xs,hown,hone,hm,hfin⟩⟩
 ·cases f' with
  | zero=>simp [P.pLits] at hp
  | succ f'=>
  rw[P.pLits] at hp
  have hkt:k'<T.length:=by obtain⟨_,_,hx⟩:=id hP;exact hx.kt
  have hs1:=hF.size
  cases hq2:P.pLit T f' k' vs d with
  | none=>rw[hq2] at hp;simp [P.Res.bind] at hp
  | some q2=>
  rw[hq2] at hp
  simp (disch:=first|assumption|omega|simp only[zS]<;>omega|decide) only[zb21,simprocAttr,h6]
  refine((hE f' (by omega)).go hP hd hq2).mono ?_
  rintro e w2 ⟨a,b,c,g,rfl,⟨o1,o2,o3,o4⟩,hF2,hst⟩
  have hs2:=hF2.size
  obtain⟨xs0,ho0,hi0⟩:=id hrow.own
  have hrow2:w2.ownsRow wB.heap.size 40 4 (s 3) acc.length xs0:=own_fr hF2 ho0 hpb (by decide)
  simp (disch:=first|assumption|omega|simp only[zS]<;>omega|decide) only[zb21,simprocAttr,o1,o2,o3,o4]
  have hx3:Ext w2 ((upd (w2.alloc (.cells #[.int .u8 0,.string (bs []),.slice none 0 0,.slice none 0 0] 40)) w2.heap.size (.cells #[a,b,c,g] 40)).alloc (.cells #[a,b,c,g] 40)):=
   (((FrM.refl _ _).alloc _).upd (.inr (Nat.le_refl _))).alloc _
  refine wr_appendB (base:=wB.heap.size) (n:=acc.length) (own_ext hx3.ext hrow2) (hp_alloc_new (by rw[size_upd,size_alloc])) ⟨o1,o2,o3,o4⟩ (by omega) (by have:=hx3.size;omega) ?_
  intro v' w4 hown4 hg4 hv4
  have hF4:RFr pb wB w4:=(((hF.trans hF2).trans hx3.toM)).grow hg4 (fun k hk=>(hrow2.lt k hk).1)
  have hone4:∀ u'∈xs0++[a,b,c,g],u'.oneCell'=true:=fun u' hu=>by
   simp only[List.mem_append,List.mem_cons,List.not_mem_nil,or_false] at hu
   rcases hu with hu | rfl | rfl | rfl | rfl
   ·exact IsRbs.one hi0 _ hu
   ·exact o1
   ·exact o2
   ·exact o3
   ·exact o4
  cases q2 with
  | err c0 a0=>
   obtain⟨hc0,k2,vs2,hP2⟩:=hst
   simp only[P.Res.bind,Option.some.injEq] at hp
   have hP4:=(hP2.ext hx3).grow (own_ext hx3.ext hrow2) (by decide) hpb hg4
   refine(rIs_no hP4 [44] (.inl hc0)).mono ?_
   rintro e w5 ⟨rfl,hP5,hF5⟩
   simp (disch:=first|assumption|omega|simp only[zS]<;>omega|decide) only[zb21,simprocAttr]
   exact⟨0,Nat.succ_pos _,hF4.trans hF5,.inr ⟨rfl,_,_,own_fr hF5 hown4 hpb (by decide),hone4,by omega,.inr ⟨c0,a0,k2,vs2,hp.symm,hc0,hP5⟩⟩⟩
  | ok x k2 vs2=>
   obtain⟨hx,hP2⟩:=hst
   have hk2:=(P.monoB T f').lit _ _ _ _ _ _ hq2
   have hP4:=(hP2.ext hx3).grow (own_ext hx3.ext hrow2) (by decide) hpb hg4
   have hrow4:RowB wB w4 v' (acc++[x]):=hrow.more hF2 hpb hx hs1 hx3 (own_ext hx3.ext hrow2) hown4 hg4 hv4
   simp only[P.Res.bind] at hp
   have hmn:∀ {w5:World},RFr pb w4 w5->RowB wB w5 v' (acc++[x]):=fun hF5=>by
    obtain⟨xs,p1,p2⟩:=hrow4.own
    have:=hF5.size
    exact⟨xs,own_fr hF5 p1 hpb (by decide),IsRbs.mono (fun b hb=>⟨hb.1,by have:=hb.2.1;omega,hb.2.2⟩) (RFr.keeps hF5 (fun b hb=>by have:=hb.1;omega) (by decide)) (RFr.keeps hF5 (fun b hb=>by have:=hb.1;omega) (by decide)) _ _ p2⟩
   by_cases hc:P.isT T k2 [44]=true
   ·rw[if_pos hc] at hp
    refine(rIs_yes hP4 [44] hc).mono ?_
    rintro e w5 ⟨rfl,hP5,hF5⟩
    simp (disch:=first|assumption|omega|simp only[zS]<;>omega|decide) only[zb21,simprocAttr]
    exact⟨f'+1,by omega,hF4.trans hF5,.inl ⟨f',k2+1,vs2,acc++[x],rfl,by omega,by simp;omega,hp,hmn hF5,hP5⟩⟩
   ·rw[if_neg hc] at hp
    refine(rIs_no hP4 [44] (.inr (by simpa using hc))).mono ?_
    rintro e w5 ⟨rfl,hP5,hF5⟩
    simp (disch:=first|assumption|omega|simp only[zS]<;>omega|decide) only[zb21,simprocAttr]
    exact⟨0,Nat.succ_pos _,hF4.trans hF5,.inr ⟨rfl,_,_,own_fr hF5 hown4 hpb (by decide),hone4,by omega,.inl ⟨k2,vs2,acc++[x],by simp,(Option.some.inj hp).symm,hmn hF5,hP5⟩⟩⟩
 ·have hs1:=hF.size
  have d0:=SFr.keep hF c0 (by omega) (by decide)
  have ld0:=ltOf d0
  have hFw:RFr pb w w1:=hf0.toM.trans hF
  obtain⟨a0,c0',hs3⟩:=own_slice hown
  by_cases hm1:m=1
  ·subst hm1
   obtain⟨gb,cap,cur,v0,v1,v2,v3,hv,g2,g3,g4,g5,p0,p1,p2,p3⟩:=own_four hown (i:=0) (by omega) hone
   have lg2:=ltOf g2
   rw[Nat.zero_mul,List.drop_zero] at g4
   simp (disch:=first|assumption|omega|simp only[zS]<;>omega|decide) only[zb21,simprocAttr,h6,hv,g2,g4,d0,p0,p1,p2,p3]
   refine⟨_,_,_,_,rfl,⟨p0,p1,p2,p3⟩,hFw.upd (.inr (Nat.le_refl _)),?_⟩
   rcases hfin with⟨k',vs,acc,hacc,rfl,hrow,hP⟩| ⟨c,a,k',vs,rfl,hc,hP⟩
   ·obtain⟨b,rfl⟩:∃ b,acc=[b]:=List.length_eq_one_iff.1 hacc.symm
    simp only[P.Res.bind,Option.some.injEq] at hr
    rw[<- hr]
    obtain⟨xs',q1,q2⟩:=hrow.own
    have hxx:=ownsRow_det hown q1
    subst hxx
    have hbx:IsRb (Fx wB w1 (s 3)) w1 [v0,v1,v2,v3] b:=by
     unfold IsRbs at q2
     obtain⟨l,r',rfl,q3,q4⟩:=q2
     obtain⟨e0,e1,e2,e3,rfl,-⟩:=q3.len
     have e:[v0,v1,v2,v3]=[e0,e1,e2,e3]:=by rw[<- g5];rfl
     rw[e];exact q3
    refine⟨IsRb.mono (fun i hi=>?_) (fun i cs hi hc=>?_) (fun i cs hi hc=>?_) _ _ hbx,hP.updT l1 d0 (by decide)⟩
    ·exact⟨by have:=hi.1;omega,by rw[size_upd];exact hi.2.1⟩
    ·rw[hp_upd_other (by have:=hi.1;omega)];exact hc
    ·rw[hp_upd_other (by have:=hi.1;omega)];exact hc
   ·simp only[P.Res.bind,Option.some.injEq] at hr
    rw[<- hr]
    exact⟨hc,_,_,hP.updT l1 d0 (by decide)⟩
  ·simp (disch:=first|assumption|omega|simp only[zS]<;>omega|decide) only[zb21,simprocAttr,h6,hs3,d0]
   refine⟨_,_,_,_,rfl,⟨rfl,rfl,rfl,rfl⟩,hFw.upd (.inr (Nat.le_refl _)),?_⟩
   rcases hfin with⟨k',vs,acc,rfl,rfl,hrow,hP⟩| ⟨c,a,k',vs,rfl,hc,hP⟩
   ·have hr2:r = .ok (.mk 44 [] [] acc) k' vs:=by
     simp only[P.Res.bind,Option.some.injEq] at hr
     rw[<- hr]
     match acc,hm1 with
     | [],_=>rfl
     | [b],h=>exact absurd rfl h
     | b::c::l,_=>rfl
    rw[hr2]
    obtain⟨xs',q1,q2⟩:=hrow.own
    have hk:∀ t,Keeps (Fx wB w1 (s 3)) t w1 (upd w1 w.heap.size (.cells #[.int .u8 44,.string (bs []),.slice none 0 0,.slice a0 acc.length c0'] 40)):=fun t i cs hi hc=>by
     rw[hp_upd_other (by have:=hi.1;omega)];exact hc
    have hk2:Keeps (Fl wB.heap.size w1) 40 w1 (upd w1 w.heap.size (.cells #[.int .u8 44,.string (bs []),.slice none 0 0,.slice a0 acc.length c0'] 40)):=fun i cs hi hc=>by
     rw[hp_upd_other (by have:=hi.1;omega)];exact hc
    have hn:∀ i,Fl wB.heap.size w1 i->Nu w (upd w1 w.heap.size (.cells #[.int .u8 44,.string (bs []),.slice none 0 0,.slice a0 acc.length c0'] 40)) i:=fun i hi=>⟨by have:=hi.1;omega,by rw[size_upd];exact hi.2⟩
    refine⟨?_,hP.updT l1 d0 (by decide)⟩
    unfold IsRb
    rw[hs3] at q1
    exact⟨_,_,[],xs',rfl,.inl ⟨rfl,rfl,rfl⟩,by unfold IsRxs;rfl,(own_rw q1 (fun k h1 h2=>(⟨h1,h2⟩:Fl wB.heap.size w1 k))).mono hn hk2,
     IsRbs.mono (fun i hi=>hn i ⟨hi.1,hi.2.1⟩) (hk _) (hk _) _ _ q2⟩
   ·simp only[P.Res.bind,Option.some.injEq] at hr
    rw[<- hr]
    exact⟨hc,_,_,hP.updT l1 d0 (by decide)⟩⟩
theorem isRb_parts{F:Nat->Prop}{w:World}{us:List Value}{ps:List P.Bd}(h:IsRbs F w us ps){q:Nat}{cs:Array Value}(hq:w.heap[q]?=some (.cells cs 40 (0,0)))(hc:cs.toList=us)(hF:F q)(kd cap:Nat)(hn:ps.length≤9223372036854775807:=by simp) :
  IsRb F w [.int .u8 kd,.string (bs []),.slice none 0 0,.slice (some ⟨q,0,none⟩) ps.length cap] (.mk kd [] [] ps):=by
 have h3:=h.length
 unfold IsRb
 refine⟨_,_,[],us,rfl,.inl ⟨rfl,rfl,rfl⟩,by unfold IsRxs;rfl,.inr ⟨q,cap,cs,rfl,hF,hq,?_,?_,hn⟩,h⟩
 ·have:cs.size=cs.toList.length:=by simp
  rw[this,hc,h3]
  exact Nat.le_refl _
 ·rw[hc,List.take_of_length_le (by rw[h3];exact Nat.le_refl _)]
theorem isRbs_cons{F:Nat->Prop}{w:World}{l r:List Value}{x:P.Bd}{xs:List P.Bd}(hx:IsRb F w l x)(hr:IsRbs F w r xs):IsRbs F w (l++r) (x::xs):=by
 unfold IsRbs
 exact⟨l,r,rfl,hx,hr⟩
theorem isRbs_nil{F:Nat->Prop}{w:World}:IsRbs F w [] []:=by unfold IsRbs;rfl
theorem IsRb.fr{F F':Nat->Prop}{pb:Nat}{w w':World}{l:List Value}{x:P.Bd}(h:IsRb F w l x)(hF:RFr pb w w')(hn:∀ b,F b->b≠pb)(hf:∀ b,F b->F' b):IsRb F' w' l x:=
 IsRb.mono hf (RFr.keeps hF hn (by decide)) (RFr.keeps hF hn (by decide)) _ _ h
theorem IsRb.updT{F F':Nat->Prop}{q:Nat}{o:Obj}{w:World}{l:List Value}{x:P.Bd}(h:IsRb F w l x)(hn:∀ b,F b->b≠q)(hf:∀ b,F b->F' b):IsRb F' (upd w q o) l x:=
 IsRb.mono hf (fun b cs hb hc=>by rw[hp_upd_other (hn b hb)];exact hc) (fun b cs hb hc=>by rw[hp_upd_other (hn b hb)];exact hc) _ _ h
theorem rBodyEnd{pb tb:Nat}{T:List P.Tok}{d:Nat}{w wt:World}{r:P.Res P.Bd}{q2 z:Nat}{a0 a1 a2 a3 b0 b1 b2 b3 c0 c1 c2 c3:Value}(hpb:pb<w.heap.size)(hq2:w.heap.size=q2)(hF:RFr pb w wt)(hz:wt.heap.size=z)
  (h2:wt.heap[q2]?=some (.cells #[.int .u8 0,.string (bs []),.slice none 0 0,.slice none 0 0] 40 (0,0)))
  (hst:(∃ k vs a b c,r = .ok (.mk 63 [] [] [a,b,c]) k vs/\RP wt pb tb T k vs d 0 0/\IsRb (Fl (q2+1) wt) wt [a0,a1,a2,a3] a/\IsRb (Fl (q2+1) wt) wt [b0,b1,b2,b3] b/\IsRb (Fl (q2+1) wt) wt [c0,c1,c2,c3] c) \/
   (∃ k vs c a,r = .err c a/\c≠0/\RP wt pb tb T k vs d c a)) :
  RPostB pb tb T d w r (.returned (.agg #[.int .u8 63,.string (bs []),.slice none 0 0,.slice (some ⟨z,0,none⟩) 3 3])) (upd (wt.alloc (.cells #[a0,a1,a2,a3,b0,b1,b2,b3,c0,c1,c2,c3] 40)) q2
   (.cells #[.int .u8 63,.string (bs []),.slice none 0 0,.slice (some ⟨z,0,none⟩) 3 3] 40)):=by
 subst hz
 have l2:=ltOf h2
 have hX:Ext wt (wt.alloc (.cells #[a0,a1,a2,a3,b0,b1,b2,b3,c0,c1,c2,c3] 40)):=by(repeat (first | assumption | exact FrM.refl _ _ | (refine FrM.upd ?_ (.inr (by(try simp only[zS])<;>omega))) | refine FrM.alloc ?_ _ | refine FrM.drew ?_))
 refine⟨_,_,_,_,rfl,⟨rfl,rfl,rfl,rfl⟩,(hF.trans hX.toM).upd (.inr (by omega)),?_⟩
 rcases hst with⟨k,vs,a,b,c,rfl,hP,e1,e2,e3⟩| ⟨k,vs,c,a,rfl,hc,hP⟩
 ·refine⟨?_,(hP.ext hX).updT (by omega) (hX.ext _ _ h2) (by decide)⟩
  have hall:IsRbs (Fl (q2+1) wt) wt ([a0,a1,a2,a3]++([b0,b1,b2,b3]++([c0,c1,c2,c3]++[]))) [a,b,c]:=isRbs_cons e1 (isRbs_cons e2 (isRbs_cons e3 isRbs_nil))
  have hk:∀ t,Keeps (Fl (q2+1) wt) t wt (upd (wt.alloc (.cells #[a0,a1,a2,a3,b0,b1,b2,b3,c0,c1,c2,c3] 40)) q2
    (.cells #[.int .u8 63,.string (bs []),.slice none 0 0,.slice (some ⟨wt.heap.size,0,none⟩) 3 3] 40)):=fun t i cs hi hc=>by
   rw[hp_upd_other (by have:=hi.1;omega)]
   exact hX.ext _ _ hc
  refine isRb_parts (q:=wt.heap.size) (cs:=#[a0,a1,a2,a3,b0,b1,b2,b3,c0,c1,c2,c3]) (IsRbs.mono (fun i hi=>?_) (hk _) (hk _) _ _ hall) (by rw[hp_upd_other (by omega)];exact hp_alloc_new rfl) rfl ⟨by omega,by((try simp only[zS])<;>omega)⟩ 63 3
  exact⟨by have:=hi.1;omega,by have:=hi.2;((try simp only[zS])<;>omega)⟩
 ·exact⟨hc,_,_,(hP.ext hX).updT (by omega) (hX.ext _ _ h2) (by decide)⟩
def zb22:=(zA zG0 (zA @sh_Pr_parser_body.eq_1 (zA @al_40 (zA @bd_40 (zA @br_38_2 (zA @br_38_3 (zA @ld_40 @st_40)))))))
set_option maxHeartbeats 1000000 in
theorem rBody {f:Nat} (hR:RCRow f) (hS:RCRest f):RCBody (f+1):=⟨by
 intro pb tb T k vars d w r h hd hr
 obtain⟨l1,hkt,hlT,h4⟩:=h.cs
 rw[P.pBody] at hr
 cases hq:P.pRow T f k vars d with
 | none=>rw[hq] at hr;simp [P.Res.bind] at hr
 | some q=>
 rw[hq] at hr
 refine sh_Pr_parser_body_ok ?_
 simp (disch:=first|assumption|omega|simp only[zS]<;>omega|decide) only[zb22,simprocAttr]
 have hf0:Ext w (w.alloc (.cells #[.int .u8 0,.string (bs []),.slice none 0 0,.slice none 0 0] 40)):=by(repeat (first | assumption | exact FrM.refl _ _ | (refine FrM.upd ?_ (.inr (by(try simp only[zS])<;>omega))) | refine FrM.alloc ?_ _ | refine FrM.drew ?_))
 refine Calls.mono (hR.go (h.ext hf0) hd hq) ?_
 rintro e w1 ⟨a0,a1,a2,a3,rfl,⟨o0,o1,o2,o3⟩,hF1,hst⟩
 have s1:=hF1.size
 rw[size_alloc] at s1
 have c0:w1.heap[w.heap.size]?=some (.cells #[.int .u8 0,.string (bs []),.slice none 0 0,.slice none 0 0] 40 (0,0)):=SFr.keep hF1 (by simp (disch:=first|assumption|omega|simp only[zS]<;>omega|decide) only[zH]) (by omega) (by decide)
 simp (disch:=first|assumption|omega|simp only[zS]<;>omega|decide) only[zb22,simprocAttr,o0,o1,o2,o3]
 have hX2:Ext w1 (upd (w1.alloc (.cells #[.int .u8 0,.string (bs []),.slice none 0 0,.slice none 0 0] 40)) w1.heap.size (.cells #[a0,a1,a2,a3] 40)):=by(repeat (first | assumption | exact FrM.refl _ _ | (refine FrM.upd ?_ (.inr (by(try simp only[zS])<;>omega))) | refine FrM.alloc ?_ _ | refine FrM.drew ?_))
 have hFw2:RFr pb w (upd (w1.alloc (.cells #[.int .u8 0,.string (bs []),.slice none 0 0,.slice none 0 0] 40)) w1.heap.size (.cells #[a0,a1,a2,a3] 40)):=(hf0.toM.trans hF1).trans hX2.toM
 have hkeep:∀ {w2:World},RFr pb (upd (w1.alloc (.cells #[.int .u8 0,.string (bs []),.slice none 0 0,.slice none 0 0] 40)) w1.heap.size (.cells #[a0,a1,a2,a3] 40)) w2 ->
   w2.heap[w.heap.size]?=some (.cells #[.int .u8 0,.string (bs []),.slice none 0 0,.slice none 0 0] 40 (0,0))/\w2.heap[w1.heap.size]?=some (.cells #[a0,a1,a2,a3] 40):=fun hF=>
  ⟨SFr.keep hF (by simp (disch:=first|assumption|omega|simp only[zS]<;>omega|decide) only[zH];exact c0) (by omega) (by decide),SFr.keep hF (by simp (disch:=first|assumption|omega|simp only[zS]<;>omega|decide) only[zH]) (by omega) (by decide)⟩
 cases q with
 | err c1 e1=>
  obtain⟨hc,k2,vs2,hP⟩:=hst
  simp only[P.Res.bind,Option.some.injEq] at hr
  refine Calls.mono (rIs_no (hP.ext hX2) [45,62] (.inl hc)) ?_
  rintro e w2 ⟨rfl,hP2,hF2⟩
  simp (disch:=first|assumption|omega|simp only[zS]<;>omega|decide) only[zb22,simprocAttr]
  refine Calls.mono (rIs_no hP2 [59] (.inl hc)) ?_
  rintro e w3 ⟨rfl,hP3,hF3⟩
  obtain⟨d0,d1⟩:=hkeep (hF2.trans hF3)
  have ld0:=ltOf d0
  simp (disch:=first|assumption|omega|simp only[zS]<;>omega|decide) only[zb22,simprocAttr,d0,d1,o0,o1,o2,o3]
  rw[<- hr]
  exact⟨_,_,_,_,rfl,⟨o0,o1,o2,o3⟩,((hFw2.trans hF2).trans hF3).upd (.inr (Nat.le_refl _)),hc,_,_,hP3.updT l1 d0 (by decide)⟩
 | ok a k1 v1=>
  obtain⟨ha,hP⟩:=hst
  have ha0:IsRb (fun b=>w.heap.size<b/\b<w1.heap.size) w1 [a0,a1,a2,a3] a:=IsRb.mono (fun b hb=>⟨by have:=hb.1;rw[size_alloc] at this;omega,hb.2⟩) (fun b cs _ hc=>hc) (fun b cs _ hc=>hc) _ _ ha
  simp only[P.Res.bind] at hr
  by_cases hth:P.isT T k1 [45,62]=true
  ·rw[if_pos hth] at hr
   refine Calls.mono (rIs_yes (hP.ext hX2) [45,62] hth) ?_
   rintro e w2 ⟨rfl,hP2,hF2⟩
   simp (disch:=first|assumption|omega|simp only[zS]<;>omega|decide) only[zb22,simprocAttr]
   have s2:=hF2.size
   rw[size_upd,size_alloc] at s2
   cases hq2:P.pRow T f (k1+1) v1 d with
   | none=>rw[hq2] at hr;simp [P.Res.bind] at hr
   | some q2=>
   rw[hq2] at hr
   refine Calls.mono (hR.go hP2 hd hq2) ?_
   rintro e w3 ⟨b0,b1,b2,b3,rfl,⟨p0,p1,p2,p3⟩,hF3,hst3⟩
   have s3:=hF3.size
   simp (disch:=first|assumption|omega|simp only[zS]<;>omega|decide) only[zb22,simprocAttr,p0,p1,p2,p3]
   have hX4:Ext w3 (upd ((upd (w3.alloc (.cells #[.int .u8 0,.string (bs []),.slice none 0 0,.slice none 0 0] 40)) w3.heap.size (.cells #[b0,b1,b2,b3] 40)).alloc (.cells #[.int .u8 0,.string (bs []),.slice none 0 0,.slice none 0 0] 40)) (w3.heap.size+1)
    (.cells #[.int .u8 103,.string (bs [102,97,105,108]),.slice none 0 0,.slice none 0 0] 40)):=by(repeat (first | assumption | exact FrM.refl _ _ | (refine FrM.upd ?_ (.inr (by(try simp only[zS])<;>omega))) | refine FrM.alloc ?_ _ | refine FrM.drew ?_))
   have hx56:∀ {w5:World},RFr pb (upd ((upd (w3.alloc (.cells #[.int .u8 0,.string (bs []),.slice none 0 0,.slice none 0 0] 40)) w3.heap.size (.cells #[b0,b1,b2,b3] 40)).alloc (.cells #[.int .u8 0,.string (bs []),.slice none 0 0,.slice none 0 0] 40)) (w3.heap.size+1)
     (.cells #[.int .u8 103,.string (bs [102,97,105,108]),.slice none 0 0,.slice none 0 0] 40)) w5 ->
     w5.heap[w3.heap.size]?=some (.cells #[b0,b1,b2,b3] 40)/\w5.heap[w3.heap.size+1]?=some (.cells #[.int .u8 103,.string (bs [102,97,105,108]),.slice none 0 0,.slice none 0 0] 40 (0,0))/\w3.heap.size+2≤w5.heap.size:=fun hF=>by
    have s:=hF.size
    rw[size_upd,size_alloc,size_upd,size_alloc] at s
    exact⟨SFr.keep hF (by simp (disch:=first|assumption|omega|simp only[zS]<;>omega|decide) only[zH]) (by omega) (by decide),SFr.keep hF (by simp (disch:=first|assumption|omega|simp only[zS]<;>omega|decide) only[zH]) (by omega) (by decide),s⟩
   cases q2 with
   | err c2 a2'=>
    obtain⟨hc,k2,vs2,hP3⟩:=hst3
    simp only[P.Res.bind,Option.some.injEq] at hr
    refine Calls.mono (rIs_no (hP3.ext hX4) [59] (.inl hc)) ?_
    rintro e w5 ⟨rfl,hP5,hF5⟩
    obtain⟨d0,d1⟩:=hkeep (((hF2.trans hF3).trans hX4.toM).trans hF5)
    obtain⟨d5,d6,s5⟩:=hx56 hF5
    have ld0:=ltOf d0
    simp (disch:=first|assumption|omega|simp only[zS]<;>omega|decide) only[zb22,simprocAttr,d0,d1,d5,d6,o0,o1,o2,o3,p0,p1,p2,p3]
    exact rBodyEnd l1 rfl ((((hFw2.trans hF2).trans hF3).trans hX4.toM).trans hF5) rfl d0
     (.inr ⟨_,_,_,_,hr.symm,hc,hP5⟩)
   | ok b k2 vs2=>
    obtain⟨hb,hP3⟩:=hst3
    simp only[P.Res.bind] at hr
    have ha5:∀ {w5:World},RFr pb w3 w5->IsRb (Fl (w.heap.size+1) w5) w5 [a0,a1,a2,a3] a:=fun hF=>by
     have:=hF.size
     exact IsRb.fr ha0 (((hX2.toM.trans hF2).trans hF3).trans hF) (fun b hb=>by have:=hb.1;omega) (fun b hb=>⟨hb.1,by have:=hb.2;omega⟩)
    have hb5:∀ {w5:World},RFr pb w3 w5->IsRb (Fl (w.heap.size+1) w5) w5 [b0,b1,b2,b3] b:=fun hF=>by
     have:=hF.size
     exact IsRb.fr hb hF (fun b hb=>by have:=hb.1;omega) (fun b hb=>⟨by have:=hb.1;omega,by have:=hb.2;omega⟩)
    by_cases hor:P.isT T k2 [59]=true
    ·rw[if_pos hor] at hr
     refine Calls.mono (rIs_yes (hP3.ext hX4) [59] hor) ?_
     rintro e w5 ⟨rfl,hP5,hF5⟩
     simp (disch:=first|assumption|omega|simp only[zS]<;>omega|decide) only[zb22,simprocAttr]
     cases hq3:P.pRest T f (k2+1) vs2 d with
     | none=>rw[hq3] at hr;simp [P.Res.bind] at hr
     | some q3=>
     rw[hq3] at hr
     refine Calls.mono (hS.go hP5 hd hq3) ?_
     rintro e w6 ⟨e0,e1,e2,e3,rfl,⟨g0,g1,g2,g3⟩,hF6,hst6⟩
     obtain⟨d0,d1⟩:=hkeep ((((hF2.trans hF3).trans hX4.toM).trans hF5).trans hF6)
     obtain⟨d5,d6,s5⟩:=hx56 (hF5.trans hF6)
     obtain⟨-,-,s5'⟩:=hx56 hF5
     have ld6:=ltOf d6
     have hF36:RFr pb w3 (upd w6 (w3.heap.size+1) (.cells #[e0,e1,e2,e3] 40)):=((hX4.toM.trans hF5).trans hF6).upd (.inr (by omega))
     have ld0:=ltOf d0
     simp (disch:=first|assumption|omega|simp only[zS]<;>omega|decide) only[zb22,simprocAttr,d0,d1,d5,d6,g0,g1,g2,g3,o0,o1,o2,o3,p0,p1,p2,p3]
     refine rBodyEnd l1 rfl (((hFw2.trans hF2).trans hF3).trans hF36) (size_upd _ _ _)
      (by rw[hp_upd_other (by omega)];exact d0) ?_
     cases q3 with
     | err c3 a3'=>
      obtain⟨hc3,k5,vs5,hP6⟩:=hst6
      simp only[P.Res.bind,Option.some.injEq] at hr
      exact .inr ⟨k5,vs5,_,_,hr.symm,hc3,hP6.updT (by omega) d6 (by decide)⟩
     | ok c k5 vs5=>
      obtain⟨hc6,hP6⟩:=hst6
      simp only[P.Res.bind,Option.some.injEq] at hr
      exact .inl ⟨k5,vs5,a,b,c,hr.symm,hP6.updT (by omega) d6 (by decide),ha5 hF36,hb5 hF36,
       IsRb.updT hc6 (fun b hb=>by have:=hb.1;omega) (fun b hb=>⟨by have:=hb.1;omega,by rw[size_upd];exact hb.2⟩)⟩
    ·rw[if_neg hor] at hr
     refine Calls.mono (rIs_no (hP3.ext hX4) [59] (.inr (by simpa using hor))) ?_
     rintro e w5 ⟨rfl,hP5,hF5⟩
     obtain⟨d0,d1⟩:=hkeep (((hF2.trans hF3).trans hX4.toM).trans hF5)
     obtain⟨d5,d6,s5⟩:=hx56 hF5
     have ld0:=ltOf d0
     simp (disch:=first|assumption|omega|simp only[zS]<;>omega|decide) only[zb22,simprocAttr,d0,d1,d5,d6,o0,o1,o2,o3,p0,p1,p2,p3]
     refine rBodyEnd l1 rfl ((((hFw2.trans hF2).trans hF3).trans hX4.toM).trans hF5) rfl d0
      (.inl ⟨k2,vs2,a,b,P.failB,(Option.some.inj hr).symm,hP5,ha5 (hX4.toM.trans hF5),hb5 (hX4.toM.trans hF5),?_⟩)
     unfold P.failB IsRb
     exact⟨_,_,[],[],rfl,.inl ⟨rfl,rfl,rfl⟩,by unfold IsRxs;rfl,.inl ⟨rfl,rfl,rfl⟩,isRbs_nil⟩
  ·rw[if_neg hth] at hr
   refine Calls.mono (rIs_no (hP.ext hX2) [45,62] (.inr (by simpa using hth))) ?_
   rintro e w2 ⟨rfl,hP2,hF2⟩
   simp (disch:=first|assumption|omega|simp only[zS]<;>omega|decide) only[zb22,simprocAttr]
   have s2:=hF2.size
   rw[size_upd,size_alloc] at s2
   by_cases hor:P.isT T k1 [59]=true
   ·rw[if_pos hor] at hr
    refine Calls.mono (rIs_yes hP2 [59] hor) ?_
    rintro e w3 ⟨rfl,hP3,hF3⟩
    simp (disch:=first|assumption|omega|simp only[zS]<;>omega|decide) only[zb22,simprocAttr]
    have s3:=hF3.size
    cases hq3:P.pRest T f (k1+1) v1 d with
    | none=>rw[hq3] at hr;simp [P.Res.bind] at hr
    | some q3=>
    rw[hq3] at hr
    refine Calls.mono (hS.go hP3 hd hq3) ?_
    rintro e w4 ⟨b0,b1,b2,b3,rfl,⟨p0,p1,p2,p3⟩,hF4,hst4⟩
    have s4:=hF4.size
    obtain⟨d0,d1⟩:=hkeep ((hF2.trans hF3).trans hF4)
    have ld0:=ltOf d0
    have ld1:=ltOf d1
    simp (disch:=first|assumption|omega|simp only[zS]<;>omega|decide) only[zb22,simprocAttr,d0,d1,o0,o1,o2,o3,p0,p1,p2,p3]
    have hX5:Ext w4 ((upd (w4.alloc (.cells #[.int .u8 0,.string (bs []),.slice none 0 0,.slice none 0 0] 40)) w4.heap.size (.cells #[b0,b1,b2,b3] 40)).alloc (.cells #[a0,a1,a2,a3,b0,b1,b2,b3] 40)):=by(repeat (first | assumption | exact FrM.refl _ _ | (refine FrM.upd ?_ (.inr (by(try simp only[zS])<;>omega))) | refine FrM.alloc ?_ _ | refine FrM.drew ?_))
    refine⟨_,_,_,_,rfl,⟨rfl,rfl,rfl,rfl⟩,((((hFw2.trans hF2).trans hF3).trans hF4).trans hX5.toM).upd (.inr (Nat.le_refl _)),?_⟩
    cases q3 with
    | err c3 a3'=>
     obtain⟨hc3,k5,vs5,hP5⟩:=hst4
     simp only[P.Res.bind,Option.some.injEq] at hr
     rw[<- hr]
     exact⟨hc3,k5,vs5,(hP5.ext hX5).updT l1 (hX5.ext _ _ d0) (by decide)⟩
    | ok b k5 vs5=>
     obtain⟨hb,hP5⟩:=hst4
     simp only[P.Res.bind,Option.some.injEq] at hr
     rw[<- hr]
     refine⟨?_,(hP5.ext hX5).updT l1 (hX5.ext _ _ d0) (by decide)⟩
     have ha4:=IsRb.fr (F':=fun b=>w.heap.size<b/\b<w4.heap.size) ha0 (((hX2.toM.trans hF2).trans hF3).trans hF4) (fun b hb=>by have:=hb.1;omega) (fun b hb=>⟨hb.1,by have:=hb.2;omega⟩)
     have hb4:IsRb (fun b=>w.heap.size<b/\b<w4.heap.size) w4 [b0,b1,b2,b3] b:=IsRb.mono (fun b hb=>⟨by have:=hb.1;omega,hb.2⟩) (fun b cs _ hc=>hc) (fun b cs _ hc=>hc) _ _ hb
     have hall:=isRbs_cons ha4 (isRbs_cons hb4 isRbs_nil)
     refine isRb_parts (q:=w4.heap.size+1) (cs:=#[a0,a1,a2,a3,b0,b1,b2,b3]) (IsRbs.mono (fun i hi=>?_) (fun i cs hi hc=>?_) (fun i cs hi hc=>?_) _ _ hall) (by rw[hp_upd_other (by omega)];exact hp_alloc_new (by rw[size_upd,size_alloc])) rfl ⟨by omega,by((try simp only[zS])<;>omega)⟩ 59 2
     ·exact⟨by have:=hi.1;omega,by have:=hi.2;((try simp only[zS])<;>omega)⟩
     ·rw[hp_upd_other (by have:=hi.1;omega)]
      exact hX5.ext _ _ hc
     ·rw[hp_upd_other (by have:=hi.1;omega)]
      exact hX5.ext _ _ hc
   ·rw[if_neg hor] at hr
    obtain rfl:=(Option.some.inj hr).symm
    refine Calls.mono (rIs_no hP2 [59] (.inr (by simpa using hor))) ?_
    rintro e w3 ⟨rfl,hP3,hF3⟩
    have s3:=hF3.size
    obtain⟨d0,d1⟩:=hkeep (hF2.trans hF3)
    have ld0:=ltOf d0
    simp (disch:=first|assumption|omega|simp only[zS]<;>omega|decide) only[zb22,simprocAttr,d0,d1,o0,o1,o2,o3]
    have hb:=IsRb.fr (F':=fun b=>w.heap.size<b/\b<w1.heap.size) ha0 ((hX2.toM.trans hF2).trans hF3) (fun b hb=>by have:=hb.1;omega) (fun b hb=>hb)
    exact⟨_,_,_,_,rfl,⟨o0,o1,o2,o3⟩,((hFw2.trans hF2).trans hF3).upd (.inr (Nat.le_refl _)),hb.updT (fun b hb=>by have:=hb.1;omega) (fun b hb=>⟨by have:=hb.1;omega,by have:=hb.2;rw[size_upd];omega⟩),hP3.updT l1 d0 (by decide)⟩⟩
def zb23:=(zA zG0 (zA @sh_Pr_parser_goal.eq_1 (zA @al_111 (zA @al_40 (zA @al_69 (zA @bd_40 (zA @br_37_2 (zA @br_38_1 (zA @fa_111_0 (zA @fa_111_1 (zA @fa_111_4 (zA @fa_67_1 (zA @fa_67_4 (zA @fa_69_0 (zA @fa_69_1 (zA @fa_69_2 (zA @ld_111 (zA @ld_3 (zA @ld_32 (zA @ld_37 (zA @ld_40 (zA @ld_5 (zA @ld_9 (zA @ln_37 (zA @st_111 (zA @st_3 (zA @st_40 @st_69)))))))))))))))))))))))))))
set_option maxHeartbeats 1000000 in
theorem rGoal1 {f:Nat} (hL:RCLit f) (hB:RCBody f) (hT:∀ {pb tb:Nat} {T:List P.Tok} {k:Nat} {vars:List P.Bs} {d:Nat} {w:World} {r:P.Res P.Bd},RP w pb tb T k vars (d+1:Nat) 0 0->d+1≤8 ->
   P.isT T k [33]=false->P.isT T k [92,43]=false->P.isT T k [40]=false->P.pLit T (f+1) k vars d=some r ->
   Calls Tryz.prog 118 #[pp pb] w (RPostB pb tb T (d+1) w r)):RCGoal f:=⟨by
 intro pb tb T k vars d w r h hd hr
 obtain⟨l1,hkt,hlT,h4⟩:=h.cs
 have hr0:=hr
 rw[P.pLit,if_neg (by unfold P.maxDepth;omega)] at hr
 have hf0:Ext w (w.alloc (.cells #[.int .u8 0,.string (bs []),.slice none 0 0,.slice none 0 0] 40)):=by(repeat (first | assumption | exact FrM.refl _ _ | (refine FrM.upd ?_ (.inr (by(try simp only[zS])<;>omega))) | refine FrM.alloc ?_ _ | refine FrM.drew ?_))
 have c0:(w.alloc (.cells #[.int .u8 0,.string (bs []),.slice none 0 0,.slice none 0 0] 40)).heap[w.heap.size]?=some (.cells #[.int .u8 0,.string (bs []),.slice none 0 0,.slice none 0 0] 40 (0,0)):=blk_alloc_new w _
 by_cases h1:P.isT T k [33]=true
 ·rw[if_pos h1] at hr
  obtain rfl:=(Option.some.inj hr).symm
  refine sh_Pr_parser_goal_ok ?_
  simp (disch:=first|assumption|omega|simp only[zS]<;>omega|decide) only[zb23,simprocAttr]
  refine Calls.mono (rIs_yes (h.ext hf0) [33] h1) ?_
  rintro e w1 ⟨rfl,hP1,hF1⟩
  have d0:=SFr.keep hF1 c0 (by omega) (by decide)
  have ld0:=ltOf d0
  simp (disch:=first|assumption|omega|simp only[zS]<;>omega|decide) only[zb23,simprocAttr,d0]
  refine⟨_,_,_,_,rfl,⟨rfl,rfl,rfl,rfl⟩,(hf0.toM.trans hF1).upd (.inr (Nat.le_refl _)),?_,hP1.updT l1 d0 (by decide)⟩
  unfold IsRb
  exact⟨_,_,[],[],rfl,.inl ⟨rfl,rfl,rfl⟩,by unfold IsRxs;rfl,.inl ⟨rfl,rfl,rfl⟩,isRbs_nil⟩
 rw[if_neg h1] at hr
 by_cases h2:P.isT T k [92,43]=true
 ·rw[if_pos h2] at hr
  refine sh_Pr_parser_goal_ok ?_
  simp (disch:=first|assumption|omega|simp only[zS]<;>omega|decide) only[zb23,simprocAttr]
  refine Calls.mono (rIs_no (h.ext hf0) [33] (.inr (by simpa using h1))) ?_
  rintro e w1 ⟨rfl,hP1,hF1⟩
  simp (disch:=first|assumption|omega|simp only[zS]<;>omega|decide) only[zb23,simprocAttr]
  have s1:=hF1.size
  rw[size_alloc] at s1
  refine Calls.mono (rIs_yes hP1 [92,43] h2) ?_
  rintro e w2 ⟨rfl,hP2,hF2⟩
  simp (disch:=first|assumption|omega|simp only[zS]<;>omega|decide) only[zb23,simprocAttr]
  have s2:=hF2.size
  cases hq:P.pLit T f (k+1) vars (d+1) with
  | none=>rw[hq] at hr;simp [P.Res.bind] at hr
  | some q=>
  rw[hq] at hr
  refine Calls.mono (hL.go hP2 hd hq) ?_
  rintro e w3 ⟨a0,a1,a2,a3,rfl,⟨o0,o1,o2,o3⟩,hF3,hst⟩
  have s3:=hF3.size
  have d0:=SFr.keep ((hF1.trans hF2).trans hF3) c0 (by omega) (by decide)
  have ld0:=ltOf d0
  simp (disch:=first|assumption|omega|simp only[zS]<;>omega|decide) only[zb23,simprocAttr,d0,o0,o1,o2,o3]
  have hX:Ext w3 ((upd (w3.alloc (.cells #[.int .u8 0,.string (bs []),.slice none 0 0,.slice none 0 0] 40)) w3.heap.size (.cells #[a0,a1,a2,a3] 40)).alloc (.cells #[a0,a1,a2,a3] 40)):=by(repeat (first | assumption | exact FrM.refl _ _ | (refine FrM.upd ?_ (.inr (by(try simp only[zS])<;>omega))) | refine FrM.alloc ?_ _ | refine FrM.drew ?_))
  refine⟨_,_,_,_,rfl,⟨rfl,rfl,rfl,rfl⟩,((((hf0.toM.trans hF1).trans hF2).trans hF3).trans hX.toM).upd (.inr (Nat.le_refl _)),?_⟩
  cases q with
  | err c1 e1=>
   obtain⟨hc,k2,vs2,hP3⟩:=hst
   simp only[P.Res.bind,Option.some.injEq] at hr
   rw[<- hr]
   exact⟨hc,_,_,(hP3.ext hX).updT l1 (hX.ext _ _ d0) (by decide)⟩
  | ok a k2 vs2=>
   obtain⟨ha,hP3⟩:=hst
   simp only[P.Res.bind,Option.some.injEq] at hr
   rw[<- hr]
   refine⟨?_,(hP3.ext hX).updT l1 (hX.ext _ _ d0) (by decide)⟩
   refine isRb_parts (q:=w3.heap.size+1) (cs:=#[a0,a1,a2,a3]) (IsRbs.mono (fun i hi=>?_) (fun i cs hi hc=>?_) (fun i cs hi hc=>?_) _ _ (isRbs_cons ha isRbs_nil)) (by rw[hp_upd_other (by omega)];exact hp_alloc_new (by rw[size_upd,size_alloc])) rfl ⟨by omega,by((try simp only[zS])<;>omega)⟩ 126 1
   ·exact⟨by have:=hi.1;omega,by have:=hi.2;((try simp only[zS])<;>omega)⟩
   ·rw[hp_upd_other (by have:=hi.1;omega)]
    exact hX.ext _ _ hc
   ·rw[hp_upd_other (by have:=hi.1;omega)]
    exact hX.ext _ _ hc
 rw[if_neg h2] at hr
 by_cases h3:P.isT T k [40]=true
 ·rw[if_pos h3] at hr
  refine sh_Pr_parser_goal_ok ?_
  simp (disch:=first|assumption|omega|simp only[zS]<;>omega|decide) only[zb23,simprocAttr]
  refine Calls.mono (rIs_no (h.ext hf0) [33] (.inr (by simpa using h1))) ?_
  rintro e w1 ⟨rfl,hP1,hF1⟩
  simp (disch:=first|assumption|omega|simp only[zS]<;>omega|decide) only[zb23,simprocAttr]
  have s1:=hF1.size
  rw[size_alloc] at s1
  refine Calls.mono (rIs_no hP1 [92,43] (.inr (by simpa using h2))) ?_
  rintro e w2 ⟨rfl,hP2,hF2⟩
  simp (disch:=first|assumption|omega|simp only[zS]<;>omega|decide) only[zb23,simprocAttr]
  have s2:=hF2.size
  refine Calls.mono (rIs_yes hP2 [40] h3) ?_
  rintro e w3 ⟨rfl,hP3,hF3⟩
  simp (disch:=first|assumption|omega|simp only[zS]<;>omega|decide) only[zb23,simprocAttr]
  have s3:=hF3.size
  cases hq:P.pBody T f (k+1) vars (d+1) with
  | none=>rw[hq] at hr;simp [P.Res.bind] at hr
  | some q=>
  rw[hq] at hr
  refine Calls.mono (hB.go hP3 hd hq) ?_
  rintro e w4 ⟨a,b,c,g,rfl,⟨o1,o2,o3,o4⟩,hF4,hst⟩
  have s4:=hF4.size
  have e0:=SFr.keep (((hF1.trans hF2).trans hF3).trans hF4) c0 (by omega) (by decide)
  simp (disch:=first|assumption|omega|simp only[zS]<;>omega|decide) only[zb23,simprocAttr,o1,o2,o3,o4]
  have hX4:Ext w4 (upd (w4.alloc (.cells #[.int .u8 0,.string (bs []),.slice none 0 0,.slice none 0 0] 40)) w4.heap.size (.cells #[a,b,c,g] 40)):=by(repeat (first | assumption | exact FrM.refl _ _ | (refine FrM.upd ?_ (.inr (by(try simp only[zS])<;>omega))) | refine FrM.alloc ?_ _ | refine FrM.drew ?_))
  have hF14:RFr pb w w4:=(((hf0.toM.trans hF1).trans hF2).trans hF3).trans hF4
  have hend:∀ {w5:World},RFr pb (upd (w4.alloc (.cells #[.int .u8 0,.string (bs []),.slice none 0 0,.slice none 0 0] 40)) w4.heap.size (.cells #[a,b,c,g] 40)) w5 ->
     w5.heap[w.heap.size]?=some (.cells #[.int .u8 0,.string (bs []),.slice none 0 0,.slice none 0 0] 40 (0,0))/\w5.heap[w4.heap.size]?=some (.cells #[a,b,c,g] 40):=fun hF=>
    ⟨SFr.keep hF (hX4.ext _ _ e0) (by omega) (by decide),SFr.keep hF (by simp (disch:=first|assumption|omega|simp only[zS]<;>omega|decide) only[zH]) (by omega) (by decide)⟩
  cases q with
  | err c0 a0=>
   obtain⟨hc,k2,vs2,hP4⟩:=hst
   simp only[P.Res.bind,Option.some.injEq] at hr
   refine Calls.mono (rMustE (hP4.ext hX4) [41] hc) ?_
   rintro e w5 ⟨rfl,hP5,hF5⟩
   obtain⟨f0,f2⟩:=hend hF5
   have l5:=ltOf f0
   simp (disch:=first|assumption|omega|simp only[zS]<;>omega|decide) only[zb23,simprocAttr,f0,f2,o1,o2,o3,o4]
   rw[<- hr]
   exact⟨_,_,_,_,rfl,⟨o1,o2,o3,o4⟩,((hF14.trans hX4.toM).trans hF5).upd (.inr (Nat.le_refl _)),hc,_,_,hP5.updT l1 f0 (by decide)⟩
  | ok x k2 vs2=>
   obtain⟨hx4,hP4⟩:=hst
   simp only[P.Res.bind] at hr
   refine rMustX (hP4.ext hX4) [41] _ hr ?_ ?_
   ·intro w5 hr5 hP5 hF5
    obtain⟨f0,f2⟩:=hend hF5
    have l5:=ltOf f0
    have s5:=hF5.size
    rw[size_upd,size_alloc] at s5
    simp (disch:=first|assumption|omega|simp only[zS]<;>omega|decide) only[zb23,simprocAttr,f0,f2,o1,o2,o3,o4]
    rw[hr5]
    have hb:=IsRb.fr (F':=Nu w3 w4) hx4 (hX4.toM.trans hF5) (fun b hb=>by have:=hb.1;omega) (fun b hb=>hb)
    exact⟨_,_,_,_,rfl,⟨o1,o2,o3,o4⟩,((hF14.trans hX4.toM).trans hF5).upd (.inr (Nat.le_refl _)),hb.updT (fun b hb=>by have:=hb.1;omega) (fun b hb=>⟨by have:=hb.1;omega,by rw[size_upd];have:=hb.2;omega⟩),hP5.updT l1 f0 (by decide)⟩
   ·intro w5 a5 hr5 hP5 hF5
    obtain⟨f0,f2⟩:=hend hF5
    have l5:=ltOf f0
    simp (disch:=first|assumption|omega|simp only[zS]<;>omega|decide) only[zb23,simprocAttr,f0,f2,o1,o2,o3,o4]
    rw[hr5]
    exact⟨_,_,_,_,rfl,⟨o1,o2,o3,o4⟩,((hF14.trans hX4.toM).trans hF5).upd (.inr (Nat.le_refl _)),by decide,_,_,hP5.updT l1 f0 (by decide)⟩
 exact hT h hd (by simpa using h1) (by simpa using h2) (by simpa using h3) hr0⟩
theorem tests2_iff(s:P.Bs):P.tests s=2↔s∈P.compares:=by
 constructor
 ·intro h
  unfold P.tests at h
  split at h
  ·cases h
  ·split at h
   ·cases h
   ·split at h
    ·assumption
    ·cases h
 ·intro h
  simp only[P.compares,List.mem_cons,List.not_mem_nil,or_false] at h
  rcases h with rfl | rfl | rfl | rfl | rfl | rfl | rfl | rfl | rfl<;>decide
theorem cmpAt_eq{T:List P.Tok}{k:Nat}:P.cmpAt T k=if ((P.tk T k).kind=4\/(P.tk T k).kind=1)/\P.tests (P.tk T k).text=2 then some (P.tk T k).text else none:=by
 simp only[tests2_iff]
 unfold P.cmpAt
 by_cases hk:(P.tk T k).kind=4\/(P.tk T k).kind=1
 ·have hi:∀ s,P.isT T k s=((P.tk T k).text == s):=fun s=>by
   unfold P.isT
   rcases hk with hk | hk<;>simp [hk]
  have hf:P.isT T k=fun s=>(P.tk T k).text == s:=funext hi
  rw[hf]
  by_cases hm:(P.tk T k).text∈P.compares
  ·rw[if_pos ⟨hk,hm⟩]
   generalize (P.tk T k).text=t at *
   simp only[P.compares,List.mem_cons,List.not_mem_nil,or_false] at hm
   rcases hm with rfl | rfl | rfl | rfl | rfl | rfl | rfl | rfl | rfl<;>decide
  ·rw[if_neg (fun h=>hm h.2),List.find?_eq_none]
   intro s hs e
   have:(P.tk T k).text=s:=by simpa using e
   exact hm (this ▸ hs)
 ·rw[if_neg (fun h=>hk h.1),List.find?_eq_none]
  intro s hs
  have hk4:(P.tk T k).kind≠4:=fun e=>hk (.inl e)
  have hk1:(P.tk T k).kind≠1:=fun e=>hk (.inr e)
  rw[isT_n hk4 hk1]
  decide
theorem isRb_rx{F:Nat->Prop}{w:World}{a b c f av:Value}{kd:Nat}{nm:P.Bs}{n:Int}{k:Nat}{args:List P.Ex}(h:IsRx F w [a,b,c,f,av] (.mk kd nm n k args))(kd':Nat)(nm':P.Bs) :
  IsRb F w [.int .u8 kd',.string (bs nm'),av,.slice none 0 0] (.mk kd' nm' args []):=by
 unfold IsRx at h
 obtain⟨av',vs,e,h1,h2⟩:=h
 injection e with _ e;injection e with _ e;injection e with _ e;injection e with _ e;injection e with e _
 subst e
 unfold IsRb
 exact⟨_,_,vs,[],rfl,h1,h2,.inl ⟨rfl,rfl,rfl⟩,isRbs_nil⟩
def zb24:=(zA zG0 (zA @sh_Pr_parser_goal.eq_1 (zA @al_111 (zA @al_40 (zA @al_69 (zA @bd_40 (zA @br_37_2 (zA @br_38_1 (zA @fa_111_0 (zA @fa_111_1 (zA @fa_111_4 (zA @fa_67_1 (zA @fa_67_4 (zA @fa_69_0 (zA @fa_69_1 (zA @fa_69_2 (zA @ld_111 (zA @ld_3 (zA @ld_32 (zA @ld_37 (zA @ld_40 (zA @ld_5 (zA @ld_9 (zA @ln_37 (zA @st_111 (zA @st_3 (zA @st_40 (zA @st_69 @bs_dec))))))))))))))))))))))))))))
set_option maxHeartbeats 1000000 in
theorem rGoalT {f:Nat} {pb tb:Nat} {T:List P.Tok} {k:Nat} {vars:List P.Bs} {d:Nat} {w:World} {r:P.Res P.Bd} (h:RP w pb tb T k vars (d+1:Nat) 0 0) (hd:d+1≤8)
   (h1:P.isT T k [33]=false) (h2:P.isT T k [92,43]=false) (h3:P.isT T k [40]=false) (hr:P.pLit T (f+1) k vars d=some r) :
   Calls Tryz.prog 118 #[pp pb] w (RPostB pb tb T (d+1) w r):=by
 obtain⟨l1,hkt,hlT,h4⟩:=h.cs
 rw[P.pLit,if_neg (by unfold P.maxDepth;omega),if_neg (by simp [h1]),if_neg (by simp [h2]),if_neg (by simp [h3])] at hr
 have hf0:Ext w (w.alloc (.cells #[.int .u8 0,.string (bs []),.slice none 0 0,.slice none 0 0] 40)):=by(repeat (first | assumption | exact FrM.refl _ _ | (refine FrM.upd ?_ (.inr (by(try simp only[zS])<;>omega))) | refine FrM.alloc ?_ _ | refine FrM.drew ?_))
 have c0:(w.alloc (.cells #[.int .u8 0,.string (bs []),.slice none 0 0,.slice none 0 0] 40)).heap[w.heap.size]?=some (.cells #[.int .u8 0,.string (bs []),.slice none 0 0,.slice none 0 0] 40 (0,0)):=blk_alloc_new w _
 refine sh_Pr_parser_goal_ok ?_
 simp (disch:=first|assumption|omega|simp only[zS]<;>omega|decide) only[zb23,simprocAttr]
 refine Calls.mono (rIs_no (h.ext hf0) [33] (.inr h1)) ?_
 rintro e w1 ⟨rfl,hP1,hF1⟩
 have d0:=SFr.keep hF1 c0 (by omega) (by decide)
 simp (disch:=first|assumption|omega|simp only[zS]<;>omega|decide) only[zb23,simprocAttr]
 refine Calls.mono (rIs_no hP1 [92,43] (.inr h2)) ?_
 rintro e w2 ⟨rfl,hP2,hF2⟩
 have d0:=SFr.keep hF2 d0 (by omega) (by decide)
 simp (disch:=first|assumption|omega|simp only[zS]<;>omega|decide) only[zb23,simprocAttr]
 refine Calls.mono (rIs_no hP2 [40] (.inr h3)) ?_
 rintro e w3 ⟨rfl,hP3,hF3⟩
 have d0:=SFr.keep hF3 d0 (by omega) (by decide)
 have hF03:=((hf0.toM.trans hF1).trans hF2).trans hF3
 have ld0:=ltOf d0
 clear hP1 hP2 hF1 hF2 hF3 c0 hf0 h
 simp (disch:=first|assumption|omega|simp only[zS]<;>omega|decide) only[zb23,simprocAttr]
 refine Calls.mono (rNext hP3) ?_
 rintro e w4 ⟨rfl,hE4⟩
 have hP4:=hP3.ext hE4
 have hF4:=hF03.trans hE4.toM
 have d0:=hE4.ext _ _ d0
 have s4:=hE4.size
 simp (disch:=first|assumption|omega|simp only[zS]<;>omega|decide) only[zb23,simprocAttr]
 cases hq:P.pOper T f 0 k vars (d+1) with
 | none=>rw[hq] at hr;simp [P.Res.bind] at hr
 | some q=>
 rw[hq] at hr
 have hX:Ext w4 (upd (w4.alloc (.cells #[.int .u8 0,.string (bs []),zi 0] 69)) w4.heap.size (.cells #[.int .u8 (rk (P.tk T k).kind),.string (bs (P.tk T k).text),zi ((P.tk T k).pos)] 69)):=by(repeat (first | assumption | exact FrM.refl _ _ | (refine FrM.upd ?_ (.inr (by(try simp only[zS])<;>omega))) | refine FrM.alloc ?_ _ | refine FrM.drew ?_))
 refine Calls.mono ((rTerms f).1.go (hP4.ext hX) hd hq) ?_
 rintro e w5 ⟨x0,x1,x2,x3,x4,rfl,⟨o0,o1,o2,o3,o4,hsh⟩,hF5,hst⟩
 have s5:=hF5.size
 rw[size_upd,size_alloc] at s5
 have d0:=SFr.keep hF5 (hX.ext _ _ d0) (by omega) (by decide)
 have d1:w5.heap[w4.heap.size]?=some (.cells #[.int .u8 (rk (P.tk T k).kind),.string (bs (P.tk T k).text),zi ((P.tk T k).pos)] 69):=SFr.keep hF5 (by simp (disch:=first|assumption|omega|simp only[zS]<;>omega|decide) only[zH]) (by omega) (by decide)
 obtain⟨kd,nm,nn,kk,pp,qq,rr,rfl,rfl,rfl,rfl,rfl,hkd⟩:=hsh
 simp (disch:=first|assumption|omega|simp only[zS]<;>omega|decide) only[zb23,simprocAttr]
 have hF05:=(hF4.trans hX.toM).trans hF5
 clear hX hF5 hP4 hP3 hE4
 have s04:=hF4.size
 clear hF4
 obtain⟨k5,vs5,er,at5,hP5,hq5⟩:∃ k5 vs5 er at5,RP w5 pb tb T k5 vs5 (d+1:Nat) er at5 /\
   ((er=0/\at5=0/\∃ x,q = .ok x k5 vs5/\IsRx (fun b=>w.heap.size<b/\b<w5.heap.size) w5 [.int .u8 kd,.string (bs nm),zi nn,zi kk,.slice pp qq rr] x)\/(er≠0/\q = .err er at5)):=by
  cases q with
  | err c a=>
   obtain⟨hc,k2,vs2,hP⟩:=hst
   exact⟨k2,vs2,c,a,hP,.inr ⟨hc,rfl⟩⟩
  | ok x k2 vs2=>
   obtain⟨hx,hP⟩:=hst
   exact⟨k2,vs2,0,0,hP,.inl ⟨rfl,rfl,x,rfl,IsRx.mono (fun b hb=>⟨by have:=hb.1;rw[size_upd,size_alloc] at this;omega,hb.2⟩) (fun b cs hb hc=>hc) _ _ hx⟩⟩
 clear hst
 have hX6:Ext w5 (upd (w5.alloc (.cells #[.int .u8 0,.string (bs []),zi 0,zi 0,.slice none 0 0] 111)) w5.heap.size (.cells #[.int .u8 kd,.string (bs nm),zi nn,zi kk,.slice pp qq rr] 111)):=by(repeat (first | assumption | exact FrM.refl _ _ | (refine FrM.upd ?_ (.inr (by(try simp only[zS])<;>omega))) | refine FrM.alloc ?_ _ | refine FrM.drew ?_))
 have d2:(upd (w5.alloc (.cells #[.int .u8 0,.string (bs []),zi 0,zi 0,.slice none 0 0] 111)) w5.heap.size (.cells #[.int .u8 kd,.string (bs nm),zi nn,zi kk,.slice pp qq rr] 111)).heap[w5.heap.size]?=some (.cells #[.int .u8 kd,.string (bs nm),zi nn,zi kk,.slice pp qq rr] 111):=by simp (disch:=first|assumption|omega|simp only[zS]<;>omega|decide) only[zH]
 have d0:=hX6.ext _ _ d0
 have d1:=hX6.ext _ _ d1
 have hP6:=hP5.ext hX6
 have hF06:=hF05.trans hX6.toM
 have k6:∀ b cs,Nu w w5 b->w5.heap[b]?=some (.cells cs 111 (0,0))->(upd (w5.alloc (.cells #[.int .u8 0,.string (bs []),zi 0,zi 0,.slice none 0 0] 111)) w5.heap.size (.cells #[.int .u8 kd,.string (bs nm),zi nn,zi kk,.slice pp qq rr] 111)).heap[b]?=some (.cells cs 111 (0,0)):=
  fun b cs _ hc=>hX6.ext _ _ hc
 generalize hw6:upd (w5.alloc (.cells #[.int .u8 0,.string (bs []),zi 0,zi 0,.slice none 0 0] 111)) w5.heap.size (.cells #[.int .u8 kd,.string (bs nm),zi nn,zi kk,.slice pp qq rr] 111)=w6 at *
 refine Calls.mono (rNext hP6) ?_
 rintro e w7 ⟨rfl,hE7⟩
 simp (disch:=first|assumption|omega|simp only[zS]<;>omega|decide) only[zb23,simprocAttr]
 have hX8:Ext w6 (upd (w7.alloc (.cells #[.int .u8 0,.string (bs []),zi 0] 69)) w7.heap.size (.cells #[.int .u8 (rk (P.tk T k5).kind),.string (bs (P.tk T k5).text),zi ((P.tk T k5).pos)] 69)):=by
  have:=hE7.size
  (repeat (first | assumption | exact FrM.refl _ _ | (refine FrM.upd ?_ (.inr (by(try simp only[zS])<;>omega))) | refine FrM.alloc ?_ _ | refine FrM.drew ?_))
 have d3:(upd (w7.alloc (.cells #[.int .u8 0,.string (bs []),zi 0] 69)) w7.heap.size (.cells #[.int .u8 (rk (P.tk T k5).kind),.string (bs (P.tk T k5).text),zi ((P.tk T k5).pos)] 69)).heap[w7.heap.size]?=some (.cells #[.int .u8 (rk (P.tk T k5).kind),.string (bs (P.tk T k5).text),zi ((P.tk T k5).pos)] 69):=by simp (disch:=first|assumption|omega|simp only[zS]<;>omega|decide) only[zH]
 have d0:=hX8.ext _ _ d0
 have d1:=hX8.ext _ _ d1
 have d2:=hX8.ext _ _ d2
 have hP8:=hP6.ext hX8
 have hF08:=hF06.trans hX8.toM
 have k8:=fun b cs hb hc=>hX8.ext _ _ (k6 b cs hb hc)
 have s67:=hE7.size
 have s56:=hX6.size
 generalize hw8:upd (w7.alloc (.cells #[.int .u8 0,.string (bs []),zi 0] 69)) w7.heap.size (.cells #[.int .u8 (rk (P.tk T k5).kind),.string (bs (P.tk T k5).text),zi ((P.tk T k5).pos)] 69)=w8 at *
 clear hw8 hw6 hX8 hE7 k6 hF06 hP6 hX6 hF05 hP5
 refine(rTests _ _).mono ?_
 rintro e w9 ⟨rfl,rfl⟩
 obtain⟨lc,vv,hx8⟩:=id hP8
 have h3:=hx8.cell
 have hk4:=hx8.kind4
 have hk5:=hx8.kt
 have e1:((rk (P.tk T k5).kind:Nat):Int)=115↔(P.tk T k5).kind=4:=by have:=rk_sign hk4;omega
 have e2:((rk (P.tk T k5).kind:Nat):Int)=97↔(P.tk T k5).kind=1:=by have:=rk_atom hk4;omega
 have hpb5:pb<w5.heap.size:=by omega
 have hcm:=@cmpAt_eq T k5
 refine⟨fun s w'=>w'=w9/\s 62 = .bool (decide (er=0/\P.tests (P.tk T k5).text=2/\((P.tk T k5).kind=4\/(P.tk T k5).kind=1))),?_,?_⟩
 ·simp (disch:=first|assumption|omega|simp only[zS]<;>omega|decide) only[zb24,simprocAttr,h3,d3]
  simp only[e1,e2]
  by_cases b1:er=0<;>by_cases b2:P.tests (P.tk T k5).text=2<;>by_cases b3:(P.tk T k5).kind=4<;>by_cases b4:(P.tk T k5).kind=1<;>simp [b1,b2,b3,b4]
 ·rintro s w' ⟨rfl,hs⟩ dd
  rw[hs]
  by_cases hcmp:er=0/\P.tests (P.tk T k5).text=2/\((P.tk T k5).kind=4\/(P.tk T k5).kind=1)
  ·rw[bs_pos _ _ hcmp]
   obtain⟨rfl,htt,hkk⟩:=hcmp
   simp (disch:=first|assumption|omega|simp only[zS]<;>omega|decide) only[zb23,simprocAttr,h3,d3]
   obtain⟨-,rfl,x,rfl,hx5⟩:=hq5.resolve_right (by simp)
   simp only[P.Res.bind] at hr
   rw[hcm,if_pos ⟨hkk,htt⟩] at hr
   dsimp only at hr
   have hnx:=hx8.tw.toTW.next hk5 (by omega)
   have hP9:=RP.of (hx8.set (k':=k5+1) (kz:=(k5:Int)+1) (d':=(d+1:Nat)) (er':=0) (at':=0) hnx (by omega) (by omega) (fun h=>h))
   cases hq2:P.pOper T f 0 (k5+1) vs5 (d+1) with
   | none=>rw[hq2] at hr;simp [P.Res.bind] at hr
   | some q2=>
   rw[hq2] at hr
   refine Calls.mono ((rTerms f).1.go hP9 hd hq2) ?_
   rintro e wA ⟨y0,y1,y2,y3,y4,rfl,⟨p0,p1,p2,p3,p4,hshy⟩,hFA,hsty⟩
   have sA:=hFA.size
   rw[size_upd] at sA
   have a0:=SFr.keep hFA (by rw[hp_upd_other (show ¬ w.heap.size=pb by omega)];exact d0) (by omega) (by decide)
   have a2:=SFr.keep hFA (by rw[hp_upd_other (show ¬ w5.heap.size=pb by omega)];exact d2) (by omega) (by decide)
   have a3:=SFr.keep hFA (by rw[hp_upd_other (show ¬ w7.heap.size=pb by omega)];exact d3) (by omega) (by decide)
   obtain⟨kdy,nmy,nny,kky,ppy,qqy,rry,rfl,rfl,rfl,rfl,rfl,hkdy⟩:=hshy
   have la0:=ltOf a0
   have la2:=ltOf a2
   have la3:=ltOf a3
   simp (disch:=first|assumption|omega|simp only[zS]<;>omega|decide) only[zb23,simprocAttr,a0,a2,a3]
   generalize hwC:(upd (wA.alloc (.cells #[.int .u8 0,.string (bs []),zi 0,zi 0,.slice none 0 0] 111)) wA.heap.size (.cells #[.int .u8 kdy,.string (bs nmy),zi nny,zi kky,.slice ppy qqy rry] 111)).alloc
     (.cells #[.int .u8 kd,.string (bs nm),zi nn,zi kk,.slice pp qq rr,.int .u8 kdy,.string (bs nmy),zi nny,zi kky,.slice ppy qqy rry] 111)=wC
   have hXC:Ext wA wC:=by rw[<- hwC];(repeat (first | assumption | exact FrM.refl _ _ | (refine FrM.upd ?_ (.inr (by(try simp only[zS])<;>omega))) | refine FrM.alloc ?_ _ | refine FrM.drew ?_))
   have q1:wC.heap[wA.heap.size+1]?=some (.cells #[.int .u8 kd,.string (bs nm),zi nn,zi kk,.slice pp qq rr,.int .u8 kdy,.string (bs nmy),zi nny,zi kky,.slice ppy qqy rry] 111):=by rw[<- hwC];exact hp_alloc_new (by rw[size_upd,size_alloc])
   have sC:wC.heap.size=wA.heap.size+2:=by rw[<- hwC,size_alloc,size_upd,size_alloc]
   have hF08u:RFr pb w (upd w' pb (.cells #[.slice (some ⟨tb,0,none⟩) T.length lc,zi (↑k5+1),vv,zi ↑(d+1),zi ↑0,zi ↑0] 67)):=hF08.upd (.inl fun _=>.inl rfl)
   refine⟨_,_,_,_,rfl,⟨rfl,rfl,rfl,rfl⟩,((hF08u.trans hFA).trans hXC.toM).upd (.inr (Nat.le_refl _)),?_⟩
   cases q2 with
   | err c a=>
    obtain⟨hc,k2,vs2,hP⟩:=hsty
    simp only[P.Res.bind,Option.some.injEq] at hr
    rw[<- hr]
    exact⟨hc,_,_,(hP.ext hXC).updT l1 (hXC.ext _ _ a0) (by decide)⟩
   | ok y k2 vs2=>
    obtain⟨hy,hP⟩:=hsty
    simp only[P.Res.bind,Option.some.injEq] at hr
    rw[<- hr]
    refine⟨?_,(hP.ext hXC).updT l1 (hXC.ext _ _ a0) (by decide)⟩
    have hxC:IsRx (fun b=>w.heap.size<b/\b<wC.heap.size) wC [.int .u8 kd,.string (bs nm),zi nn,zi kk,.slice pp qq rr] x:=
     IsRx.mono (fun b hb=>⟨hb.1,by have:=hb.2;omega⟩) (fun b cs hb hc=>hXC.ext _ _ (SFr.keep hFA (by rw[hp_upd_other (by have:=hb.1;omega)];exact k8 b cs ⟨by have:=hb.1;omega,hb.2⟩ hc) (by have:=hb.1;omega) (by decide))) _ _ hx5
    have hyC:IsRx (fun b=>w.heap.size<b/\b<wC.heap.size) wC [.int .u8 kdy,.string (bs nmy),zi nny,zi kky,.slice ppy qqy rry] y:=
     IsRx.mono (fun b hb=>⟨by have:=hb.1;rw[size_upd] at this;have:=ltOf d0;omega,by have:=hb.2;omega⟩) (fun b cs hb hc=>hXC.ext _ _ hc) _ _ hy
    exact(isRb_rx (isRx_two hxC hyC q1 rfl (by omega) (P.tk T k5).text 103) 103 (P.tk T k5).text).updT (fun b hb=>by have:=hb.1;omega) (fun b hb=>⟨by have:=hb.1;omega,by rw[size_upd];exact hb.2⟩)
  ·rw[bs_neg _ _ hcmp]
   have hbs:∀ {a b:P.Bs},Value.string (bs a) = .string (bs b)->a=b:=fun h=>by
    injection h with h
    have:=congrArg ByteArray.toList h
    rwa [toList_bs,toList_bs] at this
   have hx:er=0->∃ x,q = .ok x k5 vs5/\at5=0/\IsRx (fun b=>w.heap.size<b/\b<w5.heap.size) w5 [.int .u8 kd,.string (bs nm),zi nn,zi kk,.slice pp qq rr] x/\(x.kind:Int)=kd/\x.name=nm/\x.args.length=qq /\
     (P.noGoal x=true↔((¬ kd=97/\¬ kd=99)\/(kd=99/\(nm=[43]\/nm=[45]\/nm=[42]\/nm=[47,47]\/(nm=[109,111,100]/\qq=2)))\/nm=[46]\/nm=[91,93])):=by
    intro he
    obtain⟨-,h5,x,rfl,hx5⟩:=hq5.resolve_right (by simp [he])
    have hho:=(P.headT T (fun k hk=>by
     rcases Nat.lt_or_ge k T.length with h | h
     ·exact hx8.tw.toTW.words _ (tk_mem h) hk
     ·rw[show P.tk T k=P.tk T T.length by simp [P.tk,List.getD_eq_getElem?_getD,List.getElem?_eq_none h]] at hk
      simp [P.tk] at hk) f).oper _ _ _ _ _ _ _ hq
    have hng:=P.noGoal_iff hho
    obtain⟨kind,name,n,kx,args⟩:=x
    have hx6:=hx5
    unfold IsRx at hx6
    obtain⟨av,vs,e,g1,g2⟩:=hx6
    injection e with q0 e;injection e with q1 e;injection e with q2 e;injection e with q3 e;injection e with q4 e
    injection q0 with _ q0
    have q1:=hbs q1
    subst q0 q1 q4
    obtain⟨pa,cp,e2⟩:=g1.shape
    injection e2 with _ e2 _
    subst e2
    refine⟨_,rfl,h5,hx5,rfl,rfl,rfl,hng.trans ?_⟩
    simp only[P.Ex.kind,P.Ex.name,P.Ex.args]
    have t1:((kind:Nat):Int)=97↔kind=97:=by omega
    have t2:((kind:Nat):Int)=99↔kind=99:=by omega
    rw[t1,t2]
   have hno:er=0->P.cmpAt T k5=none:=fun he=>by
    rw[hcm,if_neg (fun h=>hcmp ⟨he,h.2,h.1⟩)]
   have la0:=ltOf d0
   have la1:=ltOf d1
   have la2:=ltOf d2
   have hbad:∀ {wz:World},wz=w'->(er=0->∀ x,q = .ok x k5 vs5->P.noGoal x=true) ->
     ∀ e w3,e = .returned (.agg #[.int .u8 0,.string (bs []),.slice none 0 0,.slice none 0 0])->(∃ w2,RP w2 pb tb T k5 vs5 (d+1:Nat) (if er=0 then 2 else er) (if er=0 then(P.tk T k).pos else at5)/\RFr pb w' w2/\w3=upd w2 w.heap.size (.cells #[.int .u8 0,.string (bs []),.slice none 0 0,.slice none 0 0] 40))->RPostB pb tb T (d+1) w r e w3:=by
    rintro wz-hng e w3 rfl ⟨w2,hP2,hF2,rfl⟩
    have g0:=SFr.keep hF2 d0 (by omega) (by decide)
    refine⟨_,_,_,_,rfl,⟨rfl,rfl,rfl,rfl⟩,(hF08.trans hF2).upd (.inr (Nat.le_refl _)),?_⟩
    by_cases he:er=0
    ·obtain⟨x,rfl,-⟩:=hx he
     simp only[P.Res.bind,hno he,if_pos (hng he _ rfl),Option.some.injEq] at hr
     rw[<- hr]
     rw[if_pos he,if_pos he] at hP2
     exact⟨by decide,_,_,hP2.updT l1 g0 (by decide)⟩
    ·rcases hq5 with⟨h',_⟩| ⟨_,rfl⟩
     ·exact absurd h' he
     ·simp only[P.Res.bind,Option.some.injEq] at hr
      rw[<- hr]
      rw[if_neg he,if_neg he] at hP2
      exact⟨he,_,_,hP2.updT l1 g0 (by decide)⟩
   refine⟨fun s w2=>w2=w'/\s 13 = .bool (decide (kd=99/\(nm=[43]\/nm=[45]\/nm=[42]\/nm=[47,47]\/(nm=[109,111,100]/\qq=2)))),?_,?_⟩
   ·simp (disch:=first|assumption|omega|simp only[zS]<;>omega|decide) only[zb24,simprocAttr,d2]
    have t3:((qq:Nat):Int)=2↔qq=2:=by omega
    simp only[t3]
    by_cases b1:kd=99<;>by_cases b2:nm=[43]<;>by_cases b3:nm=[45]<;>by_cases b4:nm=[42]<;>by_cases b5:nm=[47,47]<;>by_cases b6:nm=[109,111,100]<;>by_cases b7:qq=2<;>simp [b1,b2,b3,b4,b5,b6,b7]<;>simp_all
   ·rintro s2 w2 ⟨rfl,hs2⟩ dd2
    rw[hs2]
    by_cases hop:kd=99/\(nm=[43]\/nm=[45]\/nm=[42]\/nm=[47,47]\/(nm=[109,111,100]/\qq=2))
    ·rw[bs_pos _ _ hop]
     refine⟨fun s w3=>w3=w2/\s 132 = .bool true,?_,?_⟩
     ·simp (disch:=first|assumption|omega|simp only[zS]<;>omega|decide) only[zb24,simprocAttr,d2]
     ·rintro s3 w3 ⟨rfl,hs3⟩ dd3
      rw[hs3]
      simp (disch:=first|assumption|omega|simp only[zS]<;>omega|decide) only[zb23,simprocAttr,d1]
      refine Calls.mono (rFault hP8 2 _) ?_
      rintro e w4' ⟨rfl,hP9,hF9⟩
      have g0:=SFr.keep hF9 d0 (by omega) (by decide)
      have lg0:=ltOf g0
      simp (disch:=first|assumption|omega|simp only[zS]<;>omega|decide) only[zb23,simprocAttr,g0]
      exact hbad rfl (fun he x hxq=>by
       obtain⟨x',h1',-,-,-,-,-,h2'⟩:=hx he
       rw[hxq] at h1'
       injection h1' with h1'
       rw[h1']
       exact h2'.2 (.inr (.inl hop))) _ _ rfl ⟨_,hP9,hF9,rfl⟩
    ·rw[bs_neg _ _ hop]
     refine⟨fun s w3=>w3=w2/\s 132 = .bool (decide ((¬ kd=97/\¬ kd=99)\/nm=[46]\/nm=[91,93])),?_,?_⟩
     ·simp (disch:=first|assumption|omega|simp only[zS]<;>omega|decide) only[zb24,simprocAttr,d2]
      by_cases b1:kd=99<;>by_cases b2:kd=97<;>by_cases b3:nm=[46]<;>by_cases b4:nm=[91,93]<;>simp [b1,b2,b3,b4]<;>simp_all
     ·rintro s3 w3 ⟨rfl,hs3⟩ dd3
      rw[hs3]
      by_cases hb:(¬ kd=97/\¬ kd=99)\/nm=[46]\/nm=[91,93]
      ·rw[bs_pos _ _ hb]
       simp (disch:=first|assumption|omega|simp only[zS]<;>omega|decide) only[zb23,simprocAttr,d1]
       refine Calls.mono (rFault hP8 2 _) ?_
       rintro e w4' ⟨rfl,hP9,hF9⟩
       have g0:=SFr.keep hF9 d0 (by omega) (by decide)
       have lg0:=ltOf g0
       simp (disch:=first|assumption|omega|simp only[zS]<;>omega|decide) only[zb23,simprocAttr,g0]
       exact hbad rfl (fun he x hxq=>by
        obtain⟨x',h1',-,-,-,-,-,h2'⟩:=hx he
        rw[hxq] at h1'
        injection h1' with h1'
        rw[h1']
        exact h2'.2 (hb.elim .inl fun h=>.inr (.inr h))) _ _ rfl ⟨_,hP9,hF9,rfl⟩
      ·rw[bs_neg _ _ hb]
       simp (disch:=first|assumption|omega|simp only[zS]<;>omega|decide) only[zb23,simprocAttr,d2]
       refine(rTests _ _).mono ?_
       rintro e w4' ⟨rfl,rfl⟩
       simp (disch:=first|assumption|omega|simp only[zS]<;>omega|decide) only[zb23,simprocAttr]
       have hend:∀ {wz:World} {c a:Nat},RP wz pb tb T k5 vs5 (d+1:Nat) c a->RFr pb w4' wz->(er≠0->c=er/\a=at5) ->
         (er=0->(c=3/\a=(P.tk T k).pos/\(0≤P.tests nm/\¬ P.tests nm=qq))\/(c=0/\a=0/\¬ (0≤P.tests nm/\¬ P.tests nm=qq))) ->
         RPostB pb tb T (d+1) w r (.returned (.agg #[.int .u8 103,.string (bs nm),.slice pp qq rr,.slice none 0 0])) (upd wz w.heap.size (.cells #[.int .u8 103,.string (bs nm),.slice pp qq rr,.slice none 0 0] 40)):=by
        intro wz c a hPz hFz hce hc0
        have g0:=SFr.keep hFz d0 (by omega) (by decide)
        refine⟨_,_,_,_,rfl,⟨rfl,rfl,rfl,rfl⟩,(hF08.trans hFz).upd (.inr (Nat.le_refl _)),?_⟩
        by_cases he:er=0
        ·obtain⟨x,rfl,h5,hxx,hxk,hxn,hxa,hxg⟩:=hx he
         have hng:¬ P.noGoal x=true:=fun h=>by
          rcases hxg.1 h with h | h | h
          ·exact hb (.inl h)
          ·exact hop h
          ·exact hb (.inr h)
         simp only[P.Res.bind,hno he,if_neg hng,hxn,hxa] at hr
         rcases hc0 he with⟨rfl,rfl,hbt⟩| ⟨rfl,rfl,hbt⟩
         ·rw[if_pos hbt] at hr
          simp only[Option.some.injEq] at hr
          rw[<- hr]
          exact⟨by decide,_,_,hPz.updT l1 g0 (by decide)⟩
         ·rw[if_neg hbt] at hr
          simp only[Option.some.injEq] at hr
          rw[<- hr]
          refine⟨?_,hPz.updT l1 g0 (by decide)⟩
          have hxz:IsRx (fun b=>w.heap.size<b/\b<wz.heap.size) wz [.int .u8 kd,.string (bs nm),zi nn,zi kk,.slice pp qq rr] x:=
           IsRx.mono (fun b hb=>⟨hb.1,by have:=hb.2;have:=hFz.size;omega⟩) (fun b cs hb hc=>SFr.keep hFz (k8 b cs ⟨by have:=hb.1;omega,hb.2⟩ hc) (by have:=hb.1;omega) (by decide)) _ _ hxx
          obtain⟨kind,name,n,kx,args⟩:=x
          exact(isRb_rx hxz 103 nm).updT (fun b hb=>by have:=hb.1;omega) (fun b hb=>⟨by have:=hb.1;omega,by rw[size_upd];exact hb.2⟩)
        ·rcases hq5 with⟨h',_⟩| ⟨_,rfl⟩
         ·exact absurd h' he
         ·simp only[P.Res.bind,Option.some.injEq] at hr
          rw[<- hr]
          obtain⟨rfl,rfl⟩:=hce he
          exact⟨he,_,_,hPz.updT l1 g0 (by decide)⟩
       refine⟨fun s w3=>w3=w4'/\s 149 = .bool (decide (0≤P.tests nm/\¬ P.tests nm=qq)),?_,?_⟩
       ·simp (disch:=first|assumption|omega|simp only[zS]<;>omega|decide) only[zb24,simprocAttr,d2]
        by_cases b1:0≤P.tests nm<;>by_cases b2:P.tests nm=qq<;>simp [b1,b2]
       ·rintro s5 w5' ⟨rfl,hs5⟩ dd5
        rw[hs5]
        by_cases hbt:0≤P.tests nm/\¬ P.tests nm=qq
        ·rw[bs_pos _ _ hbt]
         simp (disch:=first|assumption|omega|simp only[zS]<;>omega|decide) only[zb23,simprocAttr,d1]
         refine Calls.mono (rFault hP8 3 _) ?_
         rintro e w6' ⟨rfl,hP9,hF9⟩
         have g0:=SFr.keep hF9 d0 (by omega) (by decide)
         have g2:=SFr.keep hF9 d2 (by omega) (by decide)
         have lg0:=ltOf g0
         simp (disch:=first|assumption|omega|simp only[zS]<;>omega|decide) only[zb23,simprocAttr,g0,g2]
         exact hend hP9 hF9 (fun he=>by rw[if_neg he,if_neg he];exact⟨rfl,rfl⟩) (fun he=>by rw[if_pos he,if_pos he];exact .inl ⟨rfl,rfl,hbt⟩)
        ·rw[bs_neg _ _ hbt]
         simp (disch:=first|assumption|omega|simp only[zS]<;>omega|decide) only[zb23,simprocAttr,d0,d2]
         exact hend hP8 (FrM.refl _ _) (fun he=>⟨rfl,rfl⟩) (fun he=>.inr ⟨he,(hx he).elim fun _ h=>h.2.1,hbt⟩)
theorem rGoal{f:Nat}(hL:RCLit f)(hB:RCBody f):RCGoal f:=rGoal1 hL hB fun h hd h1 h2 h3 hr=>rGoalT h hd h1 h2 h3 hr
theorem rBodiesAll(f:Nat):RCLit f/\RCRow f/\RCRest f/\RCBody f:=by
 induction f using Nat.strongRecOn with
 | ind f ih=>
  cases f with
  | zero=>exact⟨⟨fun _ _ h=>by simp [P.pLit] at h⟩,⟨fun _ _ h=>by simp [P.pRow] at h⟩,⟨fun _ _ h=>by simp [P.pRest] at h⟩,⟨fun _ _ h=>by simp [P.pBody] at h⟩⟩
  | succ f=>
   have hf:=ih f (Nat.lt_succ_self _)
   exact⟨rLit (rGoal hf.1 hf.2.2.2),rRow fun g hg=>(ih g hg).1,rRest hf.2.2.2,rBody hf.2.1 hf.2.2.1⟩
theorem rBodies(f:Nat):RCBody f:=(rBodiesAll f).2.2.2
end Go.Proofs.YtilpjhceemaplaaGreatDoor
