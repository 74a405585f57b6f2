/- A part of one proof (SIdx, SVar, Shelf, SInt, STie). -/
import Derived.Test.YtoegidfbnkaabaaGreatDoorPkIAG
import Derived.Deep.QuietTactic
import Derived.BigQuiet
import Derived.Shelf.Strings.Builder1
import Derived.Shelf.Strings.Trim
import Derived.Shelf.Small.Utf8
import Derived.Shelf.Small.Strs
import Derived.Shelf.Small.Wraps
import Derived.Shelf.Strings.BuilderF
import Derived.Shelf.Strings.BuilderK
import Derived.Shelf.Strconv.Atoi
import Derived.Shelf.Strconv.Itoa0
import Derived.Shelf.Strconv.Itoa1
import Derived.Shelf.LaysM
import Derived.Shelf.Strconv.Itoa2
import Derived.Shelf.Strconv.Itoa3
import Derived.Shelf.Strconv.Itoa4
import Derived.Shelf.Strconv.AtoiErrFast
import Derived.Shelf.Strconv.ParseIntEmpty
import Derived.Shelf.Strconv.AtoiFail
import Derived.Shelf.Strconv.Clone
import Derived.Shelf.Strconv.SyntaxError
import Derived.Shelf.LaysC
import Derived.Shelf.Strconv.ToError
import Derived.Shelf.Strconv.Lower
import Derived.Shelf.Strconv.ParseUint10
import Derived.Shelf.Strconv.ParseUint10Empty
import Derived.Shelf.Strconv.ParseUint10Any
import Derived.Shelf.Strconv.ParseInt10
import Derived.Shelf.Strconv.AtoiLong
import Derived.Shelf.Strconv.AtoiInnerAll
import Derived.Shelf.Strconv.RangeError
import Derived.Shelf.Strconv.ToErrorRange
import Derived.Shelf.Strconv.AtoiAll
import Derived.Shelf.Strconv.ErrVarAll
import Derived.Shelf.Strconv.ParseUintEmpty
import Derived.Shelf.Strconv.ParseUint10b64
import Derived.Shelf.Strconv.ParseUint10b32
import Derived.Shelf.Strconv.ParseUint10b16
import Derived.Shelf.Strconv.ParseUint10b8
import Derived.Shelf.Strconv.ParseUint10At
import Derived.Shelf.Strconv.ParseInt10At64
import Derived.Shelf.Strconv.ParseInt10At32
import Derived.Shelf.Strconv.ParseInt10At16
import Derived.Shelf.Strconv.ParseInt10At8
import Derived.Shelf.Strconv.ParseInt10All
import Derived.Shelf.Strconv.ParseIntPublic10
import Derived.Shelf.Strconv.ErrVarParseInt
import Derived.Shelf.Strings.Search1
import Derived.Shelf.Strings.Search2
import Derived.Shelf.Strings.Search3
import Derived.Shelf.Strings.Count
import Derived.Shelf.Strings.Shaped
import Derived.Shelf.Strings.Prefix
import Derived.Shelf.Strings.Split
import Derived.Shelf.Strings.Runes
import Derived.Shelf.Strings.AsciiSet
import Derived.Shelf.Unicode.DecodeSlow
import Derived.Shelf.Unicode.DecodeAny
import Derived.Shelf.Unicode.DecodeLast
import Derived.Shelf.Strings.BuilderCap
import Derived.Shelf.Slices.Turned
import Derived.Test.YtoegidfbnkaabaaGreatDoorProg
set_option linter.all false
set_option maxRecDepth 100000
set_option maxHeartbeats 8000000
open Option renaming some → O, none → V
open Go renaming Value → Y, World → Z
open Bool renaming true → A, false → G
open Go.Obj renaming cells → ae
open Go.Ending renaming returned → ah
open Go.Value renaming nilIface → ai, iface → aj, tuple → ak, pointer → aq
open Go.Lib renaming hid → a08, atoiAll → a5g, parseUintM → a5h, parseIntB → a6h, countB → a6s
open List renaming getElem?_eq_getElem → a1e, all_cons → a2z, findIdx?_eq_some_iff_getElem → a4i
open Go.Value renaming string → a1u, int → a1I
open Bool renaming and_eq_true → a1w
open Go.Obj renaming cells → a1K
open Go.IntKind renaming i64 → a1O
open Go.Shelf renaming Ren → a3k
open Go.Calls renaming quiet_of_same → a3q
open Nat renaming pow_le_pow_right → a5P
open Go.Proofs.Tryz renaming prog → bbe
open Go.Proofs.Tryz
namespace Go.Proofs.YtoegidfbnkaabaaGreatDoor
open P
open Go.RowKit
variable{T:List P.Tok}{d j k n pb tb:Nat}{tv v:Y}{vars:List Bs}{w' w1 w2:Z}{xs:List Y}
def aC2{l:List Bs}{s:Bs}(h:∀ j,j<l.length->l.getD j []≠s):l.idxOf? s=none:=by
 grind [List.idxOf?_eq_none_iff,List.getElem_of_mem,a1e]
def aC3{l:List Bs}{s:Bs}(hk:k<l.length)(he:l.getD k []=s)(h:∀ j,j<k->l.getD j []≠s):l.idxOf? s=O k:=by
 rw[List.getD_eq_getElem?_getD,a1e hk,Option.getD_some] at he;rw[List.idxOf?,a4i];grind
def GZ(o:Option Nat):Int:=match o with | some k=>k | none=>-1
def aC4{l:List Bs}{s:Bs}(h:∀ j,j<l.length->l.getD j []≠s):GZ (l.idxOf? s)=-1:=by rw[aC2 h];rfl
def aC5{l:List Bs}{s:Bs}(hk:k<l.length)(he:l.getD k []=s)(h:∀ j,j<k->l.getD j []≠s):GZ (l.idxOf? s)=k:=by rw[aC3 hk he h];rfl
def aC6(s:Bs)(w:Z) :
  Calls bbe 161 #[bX,aT s] w fun e w'=>e = ah (zi (-1))/\w=w':=by
 go_enter func161,ntmps161
 go_wp2
 go_loop [8] (fun i=>i=zi 0) (fun _=>0)
 case atStart=>rfl
 case round=>
  obtain rfl:=hrel
  go_wp2
  go_ret
  exact⟨J,J⟩
def aC7(l:List Bs)(s:Bs)(g c:Nat)(w:Z)(hl:l.length<=100)(hc:∀ j,j<l.length->w.cell? ⟨g,j,V⟩=O (aT (l.getD j []))) :
  Calls bbe 161 #[cV g l.length c,aT s] w fun e w'=>e = ah (zi (GZ (l.idxOf? s)))/\w=w':=by
 have HC:=a08 hc;clear hc;obtain⟨n,hn⟩:=cg l.length;rw[<- hn] at hl ⊢;have HN:=a08 hn;clear hn;obtain⟨q,hq⟩:=cg (GZ (l.idxOf? s));rw[<- hq];have HQ:=a08 hq;clear hq
 go_enter func161,ntmps161
 go_wp2
 go_loop [5,8] (fun _ i=>∃ k:Nat,k<=n/\i=zi k/\∀ j,j<k->l.getD j []≠s) (fun _ i=>n-(intOf i).toNat)
 case atStart=>grind
 case round=>
  obtain⟨k,hk,rfl,mi⟩:=hrel;have Fl:=a08 mi;clear mi;by_cases hlt:k<n
  .have oV:=HC.out k (by rw[<- HN.out];exact hlt);obtain⟨x,hx⟩:=cg (l.getD k []);rw[<- hx] at oV;have HX:=a08 hx;clear hx;by_cases he:s=x
   .subst he
    go_wp2
    go_ret
    exact⟨by rw[HQ.out,aC5 (by rw[<- HN.out];exact hlt) HX.out.symm Fl.out];rfl,J⟩
   .have hbf:(s == x)=false:=zg
    go_wp2
    refine⟨⟨k+1,zo,by go_num,fun j hj=>?_⟩,by grind [intOf]⟩;rcases Nat.lt_or_ge j k with h | h
    .exact Fl.out j h
    .obtain rfl:j=k:=zo;rw[<- HX.out];exact fun h=>he h.symm
  .go_wp2
   go_ret
   refine⟨?_,J⟩;have e:=HN.out;rw[HQ.out,aC4 (fun j hj=>Fl.out j zo)];rfl
def SX(l:List Bs)(s:Bs)(vv:Y)(w:Z)(b:l.length<=100)(q:Int)(a:GZ (l.idxOf? s)=q)
  (hr:(l=[]/\vv = bX)\/∃ g c,vv = cV g l.length c/\∀ j,j<l.length->w.cell? ⟨g,j,V⟩=O (aT (l.getD j []))) :
  Calls bbe 161 #[vv,aT s] w fun e w'=>e = ah (zi q)/\w'=w:=by
 rcases hr with⟨rfl,rfl⟩| ⟨g,c,rfl,h⟩
 .have:q=-1:=by rw[<- a];rfl
  subst this;exact(aC6 s w).mono zg
 .subst a;exact(aC7 l s g c w b h).mono zg
theorem SP.row{w:Z}(h:SP w pb tb T k vars d) :
  ∃ a n c,w.cell? ⟨pb,1,V⟩=O (.slice a n c)/\n=vars.length/\w.ownsRow (pb+1) 9 1 (.slice a n c) vars.length (vars.map fun s=>aT s) /\
   ((vars=[]/\(Value.slice a n c) = bX)\/∃ g cp,(Value.slice a n c) = cV g vars.length cp/\∀ j,j<vars.length->w.cell? ⟨g,j,V⟩=O (aT (vars.getD j []))):=by
 obtain⟨cap,vv,-,-,e,f⟩:=h.yW;have b:=f;rcases f with⟨g1,⟨rfl,g2⟩| ⟨g,cp,cur,rfl,m,l,o,p,q,r⟩⟩
 .refine⟨_,_,_,cellOf e J,g2.symm,b,zg⟩
 .refine⟨_,_,_,cellOf e J,J,b,.inr ⟨g,cp,J,fun i t=>cellOf l ?_⟩⟩;have u:cur[i]?=(cur.toList.take (vars.length*1))[i]?:=by
   grind
  grind
def SY{w:Z}{l:List Bs}(h:(l=[]/\v = bX)\/∃ g cp,v = cV g l.length cp/\∀ j,j<l.length->w.cell? ⟨g,j,V⟩=O (aT (l.getD j [])))
  (hw:∀ (b:Nat) (o:Obj),w.heap[b]?=O o->w'.heap[b]?=O o) :
  (l=[]/\v = bX)\/∃ g cp,v = cV g l.length cp/\∀ j,j<l.length->w'.cell? ⟨g,j,V⟩=O (aT (l.getD j [])):=by
 grind [aaq]
def aC8{w:Z}(t:P.Tok)(hp:SP w pb tb T k vars d)(ht:t.text≠[95])(hj:vars.idxOf? t.text=O j)(D5:j<100) :
  Calls bbe 141 #[pp pb,.agg #[zi t.kind,aT t.text,zi t.pos]] w
   (j8 eL pb tb T d w (.ok (.mk 118 [] 0 j []) k vars)):=by
 have H:=a08 hp;obtain⟨a,n,c,hv,hn,-,eS⟩:=hp.row;have hlt:=hp.d2.2.2;have kP:=hp.nv;obtain⟨s,hs⟩:=cg t.text;have qg:GZ (vars.idxOf? s)=(j:Int):=by rw[hs,hj];rfl
 rw[<- hs] at ht ⊢;have HS:=a08 hs;have HR:=a08 eS;have HG:=a08 qg;have hsx:(s == [95])=false:=zg;clear hp hj hs eS qg ht hn
 go_enter func141,ntmps141
 go_wp2_with fail
 go_quiet ((go_at_call 161;exact a3q (SX vars s _ _ zo _ HG.out (by exact SY HR.out (fun b o h=>dX h)))))
 go_wp2_with fail
 go_ret
 exact⟨_,J,KD (by grind [size_alloc,Pu]) (by grind [Fh,Pu,size_alloc]),H.out.ext fun b o h=>dX (dX h),
  (by grind [bB.refl,bB.alloc,bB.drewN])⟩
theorem dc.aC9{a b:Z}(d:a.ownsRow (pb+1) 9 1 v n xs)(h:a.grownBy b v.ownBlock):dc pb a b:=by
 refine(bB.grownBy h).mono fun i o c hm=>?_;rcases d.2 with⟨rfl,_⟩| ⟨g,cap,cur,rfl,f,e,_⟩
 .cases hm
 .simp only[Value.ownBlock,Option.some.injEq] at hm;subst hm;rw[e] at c;injection c with c;exact .inr zg
def SP.appended{w:Z}{s:Bs}(h:SP w pb tb T k vars d)(m:vars.length<12)
  (hv:w.cell? ⟨pb,1,V⟩=O v) (hw:∀ (b:Nat) (o:Obj),w.heap[b]?=O o->w1.heap[b]?=O o) (f:w1.ownsRow (pb+1) 9 1 v vars.length (vars.map fun s=>aT s))
  (n:w2.ownsRow (pb+1) 9 1 tv (vars.length+1) ((vars.map fun s=>aT s)++[aT s])) (g:w1.grownBy w2 v.ownBlock) :
  SP (w2.setCell ⟨pb,1,V⟩ tv) pb tb T k (vars++[s]) d/\dc pb w1 (w2.setCell ⟨pb,1,V⟩ tv):=by
 have c:dc pb w1 (w2.setCell ⟨pb,1,V⟩ tv):=(by grind [dc.GN,dc.aC9]);refine⟨?_,c⟩;have a:=h.ext hw;obtain⟨tw,lt,kt,nv,toks,cap,vv,a,i,j,-⟩:=a;have l:w2.heap[pb]?=aN #[.slice (O ⟨tb,k*3,V⟩) (T.length-k) (cap-k),vv,zi d] 145:=by
  rw[g.block pb (bh j) (by
   intro e;have:=f.lt pb e.symm;omega)]
  omega
 refine⟨tw,lt,kt,zg,c.toks lt toks,cap,tv,a,i,by rw[Bk l];rfl,?_⟩;grind [ownsRow_setCell_below]
def alq{w:Z}{o:Obj}(c:(w.alloc o).drew.grownBy w2 v.ownBlock)
  (f:(w.alloc o).drew.ownsRow (pb+1) 9 1 v n xs) (h:SP w pb tb T k vars d):(∃ u,w2.cell? ⟨pb,1,V⟩=O u)/\w2.frozen? ⟨pb,1,V⟩=G/\pb<w2.heap.size:=by
 obtain⟨cap,vv,-,-,g,-⟩:=h.yW;have b:(w.alloc o).drew.heap[pb]?=_:=dX g;have a:=c.block pb (bh b) (by
   intro e;have:=f.lt pb e.symm;omega)
 rw[b] at a;exact⟨⟨_,cellOf a J⟩,jX a 1,bh a⟩
def W2:(Tryz.prog.info? 9).map (fun i=>(i.zero,i.size,i.bytes))=O (O (.string ⟨#[]⟩),1,16):=zk
def alr{w:Z}(t:P.Tok)(hp:SP w pb tb T k vars d)(ht:vars.idxOf? t.text=V)(hl:vars.length<12) :
  Calls bbe 141 #[pp pb,.agg #[zi t.kind,aT t.text,zi t.pos]] w
   (j8 eL pb tb T d w (.ok (.mk 118 [] 0 vars.length []) k (vars++[t.text]))):=by
 have H:=a08 hp;obtain⟨a,n,c,hv,hn,dY,eS⟩:=hp.row;have hlt:=hp.d2.2.2;have IS:w.frozen? ⟨pb,1,V⟩=false:=by
  obtain⟨_,_,_,_,q,_⟩:=hp.yW;exact jX q 1
 have kP:=hp.nv;obtain⟨s,hs⟩:=cg t.text;have qg:GZ (vars.idxOf? s)=-1:=by rw[hs,ht];rfl
 rw[<- hs];have HS:=a08 hs;have HR:=a08 eS;have HG:=a08 qg;have HO:=a08 dY;have aDa:n<12:=zo;have acp:((n:Int) == 12)=false:=zg;have HN:=a08 hn;obtain⟨i0,hi,Ns,p8,pL⟩:=info_parts W2;clear hp hs eS qg ht dY hn
 go_enter func141,ntmps141
 go_wp2_with fail
 go_quiet ((go_at_call 161;exact a3q (SX vars s _ _ zo _ HG.out (by exact SY HR.out (fun b o h=>dX h)))))
 go_wp2_with fail
 have xb:(w.alloc (a1K #[a1I a1O t.kind,a1u (bs s),a1I a1O t.pos] 142)).heap[w.heap.size]?=_:=blk_alloc_new _ _;have NG:∀ (b:Nat) (o:Obj),w.heap[b]?=O o->((w.alloc (a1K #[a1I a1O t.kind,a1u (bs s),a1I a1O t.pos] 142)).drewN nq).heap[b]?=O o:=fun b o h=>dX h;have acq:((w.alloc (a1K #[a1I a1O t.kind,a1u (bs s),a1I a1O t.pos] 142)).drewN nq).heap.size=w.heap.size+1:=by rw[Pu,size_alloc]
 have SZ:dc pb w ((w.alloc (a1K #[a1I a1O t.kind,a1u (bs s),a1I a1O t.pos] 142)).drewN nq):=((bB.refl _ _).alloc _).drewN _;have S0:((w.alloc (a1K #[a1I a1O t.kind,a1u (bs s),a1I a1O t.pos] 142)).drewN nq).heap[w.heap.size]?=_:=xb;generalize (w.alloc (a1K #[a1I a1O t.kind,a1u (bs s),a1I a1O t.pos] 142)).drewN nq=W at *;have c1:W.cell? ⟨w.heap.size,1,V⟩=O (aT s):=cellOf S0 J;have hvW:=aaq hv NG;have IT:=H.out.ext NG;have aDb:=IT.d2.2.2;have aDc:W.frozen? ⟨pb,1,V⟩=false:=by
  obtain⟨_,_,_,_,q,_⟩:=IT.yW;exact jX q 1
 have S1:W.ownsRow (pb+1) 9 1 (.slice a n c) vars.length (vars.map fun s=>aT s):=by
  obtain⟨g1,g2 | ⟨g,cp,cur,e1,e2,e3,e4⟩⟩:=HO.out
  .exact⟨g1,.inl g2⟩
  .exact⟨g1,.inr ⟨g,cp,cur,e1,e2,zg,e4⟩⟩
 have NH:=a08 S1;have S2:=a08 IT;have HFW:=a08 SZ;clear S1 IT SZ xb S0 hv IS NG
 go_region_law (refine aiY J _ _ _ J (pb+1) 9 i0 _ 1 16 underlying39 hi Ns p8 pL J zd _ _ _ J (Px NH.out _) ⟨w.heap.size+1,0,V⟩ 1 1 [aT s] J J (aiX acq.symm) (by simp [Value.oneCell']) (by unfold maxLen;omega) zo (by simp;omega) ?_;intro v' w1 xZ NI acv;obtain⟨g',rU,rfl⟩:=MZ xZ;have HA:=a08 (SP.appended (w1:=(W.alloc (a1K #[a1u (bs s)] 9)).drew) S2.out (by have:=HN.out;omega) hvW (fun b o h=>dX (o:=a1K #[a1u (bs s)] 9) h) (Px NH.out _) xZ NI);obtain⟨⟨u1',c1'⟩,f1',l1'⟩:=alq NI (Px NH.out (a1K #[a1u (bs s)] 9)) S2.out;clear xZ NI acv)
 all_goals
  go_wp2_with fail
  go_ret
  have hn:=HN.out;subst hn;have mG:=HA.out.2.size;rw[size_drew,size_alloc,size_setCell] at mG;exact⟨_,J,KD (by grind [size_alloc,size_setCell]) (by grind [Fh,size_setCell]),HA.out.1.ext (by grind [dX]),
   ((HFW.out.trans (((bB.refl _ _).alloc _).drew)).trans HA.out.2).alloc _⟩
def aDg{w:Z}(t:P.Tok)(hp:SP w pb tb T k vars d)(ht:t.text=[95])(hj:vars.idxOf? t.text=O j)(D5:j<100)(hl:vars.length<12) :
  Calls bbe 141 #[pp pb,.agg #[zi t.kind,aT t.text,zi t.pos]] w
   (j8 eL pb tb T d w (.ok (.mk 118 [] 0 vars.length []) k (vars++[t.text]))):=by
 have H:=a08 hp;obtain⟨a,n,c,hv,hn,dY,eS⟩:=hp.row;have hlt:=hp.d2.2.2;have IS:w.frozen? ⟨pb,1,V⟩=false:=by
  obtain⟨_,_,_,_,q,_⟩:=hp.yW;exact jX q 1
 have kP:=hp.nv;obtain⟨s,hs⟩:=cg t.text;have qg:GZ (vars.idxOf? s)=(j:Int):=by rw[hs,hj];rfl
 rw[<- hs];have HS:=a08 hs;have HR:=a08 eS;have HG:=a08 qg;have HO:=a08 dY;have aDa:n<12:=zo;have acp:((n:Int) == 12)=false:=zg;have HN:=a08 hn;obtain⟨i0,hi,Ns,p8,pL⟩:=info_parts W2;have hse:(s == [95])=true:=zg;clear hp hs eS qg ht dY hn hj
 go_enter func141,ntmps141
 go_wp2_with fail
 go_quiet ((go_at_call 161;exact a3q (SX vars s _ _ zo _ HG.out (by exact SY HR.out (fun b o h=>dX h)))))
 go_wp2_with fail
 have xb:(w.alloc (a1K #[a1I a1O t.kind,a1u (bs s),a1I a1O t.pos] 142)).heap[w.heap.size]?=_:=blk_alloc_new _ _;have NG:∀ (b:Nat) (o:Obj),w.heap[b]?=O o->((w.alloc (a1K #[a1I a1O t.kind,a1u (bs s),a1I a1O t.pos] 142)).drewN nq).heap[b]?=O o:=fun b o h=>dX h;have acq:((w.alloc (a1K #[a1I a1O t.kind,a1u (bs s),a1I a1O t.pos] 142)).drewN nq).heap.size=w.heap.size+1:=by rw[Pu,size_alloc]
 have SZ:dc pb w ((w.alloc (a1K #[a1I a1O t.kind,a1u (bs s),a1I a1O t.pos] 142)).drewN nq):=((bB.refl _ _).alloc _).drewN _;have S0:((w.alloc (a1K #[a1I a1O t.kind,a1u (bs s),a1I a1O t.pos] 142)).drewN nq).heap[w.heap.size]?=_:=xb;generalize (w.alloc (a1K #[a1I a1O t.kind,a1u (bs s),a1I a1O t.pos] 142)).drewN nq=W at *;have c1:W.cell? ⟨w.heap.size,1,V⟩=O (aT s):=cellOf S0 J;have hvW:=aaq hv NG;have IT:=H.out.ext NG;have aDb:=IT.d2.2.2;have aDc:W.frozen? ⟨pb,1,V⟩=false:=by
  obtain⟨_,_,_,_,q,_⟩:=IT.yW;exact jX q 1
 have S1:W.ownsRow (pb+1) 9 1 (.slice a n c) vars.length (vars.map fun s=>aT s):=by
  obtain⟨g1,g2 | ⟨g,cp,cur,e1,e2,e3,e4⟩⟩:=HO.out
  .exact⟨g1,.inl g2⟩
  .exact⟨g1,.inr ⟨g,cp,cur,e1,e2,zg,e4⟩⟩
 have NH:=a08 S1;have S2:=a08 IT;have HFW:=a08 SZ;clear S1 IT SZ xb S0 hv IS NG
 go_region_law (refine aiY J _ _ _ J (pb+1) 9 i0 _ 1 16 underlying39 hi Ns p8 pL J zd _ _ _ J (Px NH.out _) ⟨w.heap.size+1,0,V⟩ 1 1 [aT s] J J (aiX acq.symm) (by simp [Value.oneCell']) (by unfold maxLen;omega) zo (by simp;omega) ?_;intro v' w1 xZ NI acv;obtain⟨g',rU,rfl⟩:=MZ xZ;have HA:=a08 (SP.appended (w1:=(W.alloc (a1K #[a1u (bs s)] 9)).drew) S2.out (by have:=HN.out;omega) hvW (fun b o h=>dX (o:=a1K #[a1u (bs s)] 9) h) (Px NH.out _) xZ NI);obtain⟨⟨u1',c1'⟩,f1',l1'⟩:=alq NI (Px NH.out (a1K #[a1u (bs s)] 9)) S2.out;clear xZ NI acv)
 all_goals
  go_wp2_with fail
  go_ret
  have hn:=HN.out;subst hn;have mG:=HA.out.2.size;rw[size_drew,size_alloc,size_setCell] at mG;exact⟨_,J,KD (by grind [size_alloc,size_setCell]) (by grind [Fh,size_setCell]),HA.out.1.ext (by grind [dX]),
   ((HFW.out.trans (((bB.refl _ _).alloc _).drew)).trans HA.out.2).alloc _⟩
def alu{w:Z}(t:P.Tok)(hp:SP w pb tb T k vars d)(ht:vars.idxOf? t.text=V)(hl:vars.length=12) :
  Calls bbe 141 #[pp pb,.agg #[zi t.kind,aT t.text,zi t.pos]] w
   (j8 eL pb tb T d w (.err 4 t.pos)):=by
 have H:=a08 hp;obtain⟨a,n,c,hv,hn,dY,eS⟩:=hp.row;have hlt:=hp.d2.2.2;have IS:w.frozen? ⟨pb,1,V⟩=false:=by
  obtain⟨_,_,_,_,q,_⟩:=hp.yW;exact jX q 1
 have kP:=hp.nv;obtain⟨s,hs⟩:=cg t.text;have qg:GZ (vars.idxOf? s)=-1:=by rw[hs,ht];rfl
 rw[<- hs];have HS:=a08 hs;have HR:=a08 eS;have HG:=a08 qg;have HO:=a08 dY;have acp:((n:Int) == 12)=true:=zg;have HN:=a08 hn;obtain⟨i0,hi,Ns,p8,pL⟩:=info_parts W2;clear hp hs eS qg ht dY hn HN
 go_enter func141,ntmps141
 go_wp2_with fail
 go_quiet ((go_at_call 161;exact a3q (SX vars s _ _ zo _ HG.out (by exact SY HR.out (fun b o h=>dX h)))))
 go_wp2_with fail
 refine(Cm _ _ _ pb (H.out.ext (w':=(w.alloc (a1K #[a1I a1O t.kind,a1u (bs s),a1I a1O t.pos] 142)).drewN nq) fun b o h=>dX h).sb).mono ?_;rintro e w3 ⟨⟨b,rfl,eP,gH⟩,ea,gT⟩;rw[Pu,size_alloc] at gH;exact⟨J,⟨b,J,eP,zo⟩,(((bB.refl _ _).alloc _).drewN _).trans ea,gT⟩
def aDi{w:Z}(t:P.Tok)(hp:SP w pb tb T k vars d)(ht:t.text=[95])(hj:vars.idxOf? t.text=O j)(D5:j<100)(hl:vars.length=12) :
  Calls bbe 141 #[pp pb,.agg #[zi t.kind,aT t.text,zi t.pos]] w
   (j8 eL pb tb T d w (.err 4 t.pos)):=by
 have H:=a08 hp;obtain⟨a,n,c,hv,hn,dY,eS⟩:=hp.row;have hlt:=hp.d2.2.2;have IS:w.frozen? ⟨pb,1,V⟩=false:=by
  obtain⟨_,_,_,_,q,_⟩:=hp.yW;exact jX q 1
 have kP:=hp.nv;obtain⟨s,hs⟩:=cg t.text;have qg:GZ (vars.idxOf? s)=(j:Int):=by rw[hs,hj];rfl
 rw[<- hs];have HS:=a08 hs;have HR:=a08 eS;have HG:=a08 qg;have HO:=a08 dY;have acp:((n:Int) == 12)=true:=zg;have HN:=a08 hn;obtain⟨i0,hi,Ns,p8,pL⟩:=info_parts W2;have hse:(s == [95])=true:=zg;clear hp hs eS qg ht dY hn HN hj
 go_enter func141,ntmps141
 go_wp2_with fail
 go_quiet ((go_at_call 161;exact a3q (SX vars s _ _ zo _ HG.out (by exact SY HR.out (fun b o h=>dX h)))))
 go_wp2_with fail
 refine(Cm _ _ _ pb (H.out.ext (w':=(w.alloc (a1K #[a1I a1O t.kind,a1u (bs s),a1I a1O t.pos] 142)).drewN nq) fun b o h=>dX h).sb).mono ?_;rintro e w3 ⟨⟨b,rfl,eP,gH⟩,ea,gT⟩;rw[Pu,size_alloc] at gH;exact⟨J,⟨b,J,eP,zo⟩,(((bB.refl _ _).alloc _).drewN _).trans ea,gT⟩
def acw{l:List Bs}{s:Bs}(h:l.idxOf? s=O j):j<l.length:=by
 rw[List.idxOf?,a4i] at h;grind
def aDj:abW:=by
 refine⟨fun{pb tb T k vars d w} t b _=>?_⟩;unfold wN;have kP:=b.nv;by_cases hu:t.text=[95]
 .rw[zip hu];by_cases c:vars.length=12
  .dsimp only;rw[zip (show vars.length=Ps from c)];cases a:vars.idxOf? t.text with
   | none=>exact alu t b a c
   | some j=>exact aDi t b hu a (by have:=acw a;omega) c
  .dsimp only;rw[bI (show ¬ vars.length=Ps from c)];cases a:vars.idxOf? t.text with
   | none=>exact alr t b a zo
   | some j=>exact aDg t b hu a (by have:=acw a;omega) zo
 .rw[bI hu];cases a:vars.idxOf? t.text with
  | some j=>exact aC8 t b hu a (by have:=acw a;omega)
  | none=>
   by_cases c:vars.length=12
   .dsimp only;rw[zip (show vars.length=Ps from c)];exact alu t b a c
   .dsimp only;rw[bI (show ¬ vars.length=Ps from c)];exact alr t b a zo
end Go.Proofs.YtoegidfbnkaabaaGreatDoor
namespace Go.Proofs
open Go.Shelf
def Tryz.lays160_ren:a3k:=⟨fun | 160=>99 | 232=>127 | 231=>126 | 227=>128 | 234=>130 | 233=>129 | 236=>132 | 235=>131 | 228=>152 | 271=>154 | 151=>153 | 197=>149 | 120=>171 | 152=>170 | 260=>165 | 137=>178 | 119=>179 | 224=>168 | 225=>167 | 217=>166 | 266=>176 | n=>n,fun | 9=>9 | 4=>4 | 3=>3 | 5=>5 | 117=>271 | 116=>270 | 0=>0 | 124=>274 | 21=>21 | 105=>292 | 46=>290 | 119=>316 | 139=>319 | 138=>318 | n=>n,fun | 3=>10 | 4=>11 | n=>n⟩
def Tryz.lays160:Go.Proofs.Lays.n160 bbe Tryz.lays160_ren:={
 mixed:=zk
 f119:=Tryz.func179.trans (congrArg O zk)
 f120:=Tryz.func171.trans (congrArg O zk)
 f137:=Tryz.func178.trans (congrArg O zk)
 f151:=Tryz.func153.trans (congrArg O zk)
 f152:=Tryz.func170.trans (congrArg O zk)
 f160:=Tryz.func99.trans (congrArg O zk)
 f197:=Tryz.func149.trans (congrArg O zk)
 f217:=Tryz.func166.trans (congrArg O zk)
 f224:=Tryz.func168.trans (congrArg O zk)
 f225:=Tryz.func167.trans (congrArg O zk)
 f227:=Tryz.func128.trans (congrArg O zk)
 f228:=Tryz.func152.trans (congrArg O zk)
 f231:=Tryz.func126.trans (congrArg O zk)
 f232:=Tryz.func127.trans (congrArg O zk)
 f233:=Tryz.func129.trans (congrArg O zk)
 f234:=Tryz.func130.trans (congrArg O zk)
 f235:=Tryz.func131.trans (congrArg O zk)
 f236:=Tryz.func132.trans (congrArg O zk)
 f260:=Tryz.func165.trans (congrArg O zk)
 f266:=Tryz.func176.trans (congrArg O zk)
 f271:=Tryz.func154.trans (congrArg O zk)
 t0:=underlying0
 a0:=isAgg0
 z0:=sizeOf0
 v0:=zeroValue0
 t3:=underlying3
 a3:=isAgg3
 z3:=sizeOf3
 v3:=zeroValue3
 t4:=underlying4
 a4:=isAgg4
 z4:=sizeOf4
 v4:=zeroValue4
 t5:=underlying5
 a5:=isAgg5
 z5:=sizeOf5
 v5:=zeroValue5
 t9:=underlying9
 a9:=isAgg9
 z9:=sizeOf9
 v9:=zeroValue9
 t21:=underlying21
 a21:=isAgg21
 z21:=sizeOf21
 v21:=zeroValue21
 t46:=underlying290
 a46:=isAgg290
 z46:=sizeOf290
 v46:=zeroValue290
 t105:=underlying292
 a105:=isAgg292
 z105:=sizeOf292
 v105:=zeroValue292
 t116:=underlying270
 a116:=isAgg270
 z116:=sizeOf270
 t117:=underlying271
 a117:=isAgg271
 z117:=sizeOf271
 v117:=zeroValue271
 t119:=underlying316
 a119:=isAgg316
 z119:=sizeOf316
 t124:=underlying274
 a124:=isAgg274
 z124:=sizeOf274
 v124:=zeroValue274
 t138:=underlying318
 a138:=isAgg318
 z138:=sizeOf318
 v138:=zeroValue318
 t139:=underlying319
 a139:=isAgg319
 z139:=sizeOf319
 v139:=zeroValue319
 g3:=zk
 g4:=by kernel_rfl }
def Tryz.lays104_ren:a3k:=⟨fun | 104=>68 | 211=>98 | 207=>125 | n=>n,fun | 9=>9 | 4=>4 | 24=>131 | 3=>3 | n=>n,fun | n=>n⟩
def Tryz.lays104:Go.Proofs.Lays.n104 bbe Tryz.lays104_ren:={
 mixed:=zk
 f104:=Tryz.func68.trans (congrArg O zk)
 f207:=Tryz.func125.trans (congrArg O zk)
 f211:=Tryz.func98.trans (congrArg O zk)
 t3:=underlying3
 a3:=isAgg3
 z3:=sizeOf3
 v3:=zeroValue3
 t4:=underlying4
 a4:=isAgg4
 z4:=sizeOf4
 v4:=zeroValue4
 t9:=underlying9
 a9:=isAgg9
 z9:=sizeOf9
 v9:=zeroValue9
 t24:=underlying131
 a24:=isAgg131
 z24:=sizeOf131
 v24:=zeroValue131 }
open Go.RowKit in
def Tryz.strings_CutSuffix (s p:ByteArray) (w:Z) (hs:s.size<=9223372036854775807) :
 Calls bbe 68 #[.string s,.string p] w fun e w'=>e = ah (ak #[.string ⟨(Lib.trimSuffix s.data.toList p.data.toList).toArray⟩,.bool (Lib.hasSuffix s.data.toList p.data.toList)])/\w'=w:=Any.strings_CutSuffix Tryz.lays104 s p w hs
def Tryz.laysM171_ren:a3k:=⟨fun | 171=>64 | 243=>93 | 246=>92 | 283=>118 | 284=>119 | 285=>120 | 286=>121 | 129=>144 | 317=>143 | 318=>145 | 319=>146 | 320=>147 | 337=>163 | 338=>164 | n=>n,fun | 3=>3 | 9=>9 | 2=>2 | 4=>4 | 171=>260 | 0=>0 | 53=>261 | 37=>98 | 5=>5 | 173=>264 | 212=>286 | 51=>287 | 20=>20 | 213=>288 | 46=>290 | 232=>314 | 233=>315 | n=>n,fun | 17=>4 | 18=>8 | 19=>9 | n=>n⟩
def Tryz.laysM171:Go.Proofs.LaysM.n171 bbe Tryz.laysM171_ren:={
 mixed:=zk
 f129:=Tryz.func144.trans (congrArg O zk)
 f171:=Tryz.func64.trans (congrArg O zk)
 f243:=Tryz.func93.trans (congrArg O zk)
 f246:=Tryz.func92.trans (congrArg O zk)
 f283:=Tryz.func118.trans (congrArg O zk)
 f284:=Tryz.func119.trans (congrArg O zk)
 f285:=Tryz.func120.trans (congrArg O zk)
 f286:=Tryz.func121.trans (congrArg O zk)
 f317:=Tryz.func143.trans (congrArg O zk)
 f318:=Tryz.func145.trans (congrArg O zk)
 f319:=Tryz.func146.trans (congrArg O zk)
 f320:=Tryz.func147.trans (congrArg O zk)
 f337:=Tryz.func163.trans (congrArg O zk)
 f338:=Tryz.func164.trans (congrArg O zk)
 t0:=underlying0
 a0:=isAgg0
 z0:=sizeOf0
 v0:=zeroValue0
 t2:=underlying2
 a2:=isAgg2
 z2:=sizeOf2
 v2:=zeroValue2
 t3:=underlying3
 a3:=isAgg3
 z3:=sizeOf3
 v3:=zeroValue3
 t4:=underlying4
 a4:=isAgg4
 z4:=sizeOf4
 v4:=zeroValue4
 t5:=underlying5
 a5:=isAgg5
 z5:=sizeOf5
 v5:=zeroValue5
 t9:=underlying9
 a9:=isAgg9
 z9:=sizeOf9
 v9:=zeroValue9
 t20:=underlying20
 a20:=isAgg20
 z20:=sizeOf20
 v20:=zeroValue20
 t37:=underlying98
 a37:=isAgg98
 z37:=sizeOf98
 v37:=zeroValue98
 t46:=underlying290
 a46:=isAgg290
 z46:=sizeOf290
 v46:=zeroValue290
 t51:=underlying287
 a51:=isAgg287
 z51:=sizeOf287
 v51:=zeroValue287
 t53:=underlying261
 a53:=isAgg261
 z53:=sizeOf261
 v53:=zeroValue261
 t171:=underlying260
 a171:=isAgg260
 z171:=sizeOf260
 v171:=zeroValue260
 t173:=underlying264
 a173:=isAgg264
 z173:=sizeOf264
 v173:=zeroValue264
 t212:=underlying286
 a212:=isAgg286
 z212:=sizeOf286
 v212:=zeroValue286
 t213:=underlying288
 a213:=isAgg288
 z213:=sizeOf288
 t232:=underlying314
 a232:=isAgg314
 z232:=sizeOf314
 v232:=zeroValue314
 t233:=underlying315
 a233:=isAgg315
 z233:=sizeOf315
 v233:=zeroValue315
 g17:=zk
 g18:=zk
 g19:=zk
 i0:=zk
 i2:=zk
 i3:=zk
 i4:=zk
 i5:=zk
 i9:=zk
 i20:=zk
 i37:=zk
 i46:=zk
 i51:=zk
 i53:=zk
 i171:=zk
 i173:=zk
 i212:=zk
 i232:=zk
 i233:=zk
 m17:=zk
 m18:=zk
 m19:=by kernel_rfl }
open Go.RowKit Go.Sort Go.Lib in
def Tryz.strconv_Itoa (n:Int) (h0:-9223372036854775808<=n) (h1:n<=9223372036854775807) (w:Z) (acx:Lib.TabIs bbe w "internal/strconv.uint64pow10" .u64 Lib.pow10Tab) :
 Calls bbe 64 #[.int .i64 n] w fun e w'=>e = ah (.string ⟨(Lib.itoa n).toArray⟩)/\∃ k os,w'=grow (w.drewN k) os:=Any.strconv_Itoa Tryz.laysM171 n h0 h1 w acx
def Tryz.laysM173_ren:a3k:=⟨fun | 173=>63 | 246=>92 | 283=>118 | 284=>119 | 285=>120 | 286=>121 | 129=>144 | 317=>143 | 318=>145 | 319=>146 | 320=>147 | 337=>163 | 338=>164 | n=>n,fun | 2=>2 | 3=>3 | 9=>9 | 4=>4 | 171=>260 | 0=>0 | 53=>261 | 37=>98 | 5=>5 | 173=>264 | 212=>286 | 51=>287 | 20=>20 | 213=>288 | 46=>290 | 232=>314 | 233=>315 | n=>n,fun | 17=>4 | 18=>8 | 19=>9 | n=>n⟩
def Tryz.laysM173:Go.Proofs.LaysM.n173 bbe Tryz.laysM173_ren:={
 mixed:=zk
 f129:=Tryz.func144.trans (congrArg O zk)
 f173:=Tryz.func63.trans (congrArg O zk)
 f246:=Tryz.func92.trans (congrArg O zk)
 f283:=Tryz.func118.trans (congrArg O zk)
 f284:=Tryz.func119.trans (congrArg O zk)
 f285:=Tryz.func120.trans (congrArg O zk)
 f286:=Tryz.func121.trans (congrArg O zk)
 f317:=Tryz.func143.trans (congrArg O zk)
 f318:=Tryz.func145.trans (congrArg O zk)
 f319:=Tryz.func146.trans (congrArg O zk)
 f320:=Tryz.func147.trans (congrArg O zk)
 f337:=Tryz.func163.trans (congrArg O zk)
 f338:=Tryz.func164.trans (congrArg O zk)
 t0:=underlying0
 a0:=isAgg0
 z0:=sizeOf0
 v0:=zeroValue0
 t2:=underlying2
 a2:=isAgg2
 z2:=sizeOf2
 v2:=zeroValue2
 t3:=underlying3
 a3:=isAgg3
 z3:=sizeOf3
 v3:=zeroValue3
 t4:=underlying4
 a4:=isAgg4
 z4:=sizeOf4
 v4:=zeroValue4
 t5:=underlying5
 a5:=isAgg5
 z5:=sizeOf5
 v5:=zeroValue5
 t9:=underlying9
 a9:=isAgg9
 z9:=sizeOf9
 v9:=zeroValue9
 t20:=underlying20
 a20:=isAgg20
 z20:=sizeOf20
 v20:=zeroValue20
 t37:=underlying98
 a37:=isAgg98
 z37:=sizeOf98
 v37:=zeroValue98
 t46:=underlying290
 a46:=isAgg290
 z46:=sizeOf290
 v46:=zeroValue290
 t51:=underlying287
 a51:=isAgg287
 z51:=sizeOf287
 v51:=zeroValue287
 t53:=underlying261
 a53:=isAgg261
 z53:=sizeOf261
 v53:=zeroValue261
 t171:=underlying260
 a171:=isAgg260
 z171:=sizeOf260
 v171:=zeroValue260
 t173:=underlying264
 a173:=isAgg264
 z173:=sizeOf264
 v173:=zeroValue264
 t212:=underlying286
 a212:=isAgg286
 z212:=sizeOf286
 v212:=zeroValue286
 t213:=underlying288
 a213:=isAgg288
 z213:=sizeOf288
 t232:=underlying314
 a232:=isAgg314
 z232:=sizeOf314
 v232:=zeroValue314
 t233:=underlying315
 a233:=isAgg315
 z233:=sizeOf315
 v233:=zeroValue315
 g17:=zk
 g18:=zk
 g19:=zk
 i0:=zk
 i2:=zk
 i3:=zk
 i4:=zk
 i5:=zk
 i9:=zk
 i20:=zk
 i37:=zk
 i46:=zk
 i51:=zk
 i53:=zk
 i171:=zk
 i173:=zk
 i212:=zk
 i232:=zk
 i233:=zk
 m17:=zk
 m18:=zk
 m19:=by kernel_rfl }
open Go.RowKit Go.Sort Go.Lib in
def Tryz.strconv_FormatInt_10 (n:Int) (h0:-9223372036854775808<=n) (h1:n<=9223372036854775807) (w:Z) (acx:Lib.TabIs bbe w "internal/strconv.uint64pow10" .u64 Lib.pow10Tab) :
 Calls bbe 63 #[.int .i64 n,.int .i64 10] w fun e w'=>e = ah (.string ⟨(Lib.itoa n).toArray⟩)/\∃ k os,w'=grow (w.drewN k) os:=Any.strconv_FormatInt_10 Tryz.laysM173 n h0 h1 w acx
def Tryz.laysC172_ren:a3k:=⟨fun | 172=>100 | 244=>133 | 245=>134 | 247=>155 | 279=>156 | 280=>157 | 281=>158 | 282=>159 | 287=>172 | 316=>173 | 171=>64 | 205=>174 | 321=>180 | 322=>181 | 243=>93 | 246=>92 | 283=>118 | 284=>119 | 285=>120 | 286=>121 | 129=>144 | 317=>143 | 318=>145 | 319=>146 | 320=>147 | 337=>163 | 338=>164 | n=>n,fun | 9=>9 | 3=>3 | 75=>57 | 76=>136 | 4=>4 | 5=>5 | 167=>297 | 37=>98 | 0=>0 | 85=>276 | 2=>2 | 168=>298 | 53=>261 | 175=>307 | 46=>290 | 210=>311 | 127=>181 | 145=>325 | 143=>323 | 21=>21 | 171=>260 | 173=>264 | 212=>286 | 51=>287 | 20=>20 | 213=>288 | 232=>314 | 233=>315 | 80=>107 | n=>n,fun | 15=>6 | 16=>7 | 17=>4 | 18=>8 | 19=>9 | n=>n⟩
def Tryz.laysC172:Go.Proofs.LaysC.n172 bbe Tryz.laysC172_ren:={
 mixed:=zk
 f129:=Tryz.func144.trans (congrArg O zk)
 f171:=Tryz.func64.trans (congrArg O zk)
 f172:=Tryz.func100.trans (congrArg O zk)
 f205:=Tryz.func174.trans (congrArg O zk)
 f243:=Tryz.func93.trans (congrArg O zk)
 f244:=Tryz.func133.trans (congrArg O zk)
 f245:=Tryz.func134.trans (congrArg O zk)
 f246:=Tryz.func92.trans (congrArg O zk)
 f247:=Tryz.func155.trans (congrArg O zk)
 f279:=Tryz.func156.trans (congrArg O zk)
 f280:=Tryz.func157.trans (congrArg O zk)
 f281:=Tryz.func158.trans (congrArg O zk)
 f282:=Tryz.func159.trans (congrArg O zk)
 f283:=Tryz.func118.trans (congrArg O zk)
 f284:=Tryz.func119.trans (congrArg O zk)
 f285:=Tryz.func120.trans (congrArg O zk)
 f286:=Tryz.func121.trans (congrArg O zk)
 f287:=Tryz.func172.trans (congrArg O zk)
 f316:=Tryz.func173.trans (congrArg O zk)
 f317:=Tryz.func143.trans (congrArg O zk)
 f318:=Tryz.func145.trans (congrArg O zk)
 f319:=Tryz.func146.trans (congrArg O zk)
 f320:=Tryz.func147.trans (congrArg O zk)
 f321:=Tryz.func180.trans (congrArg O zk)
 f322:=Tryz.func181.trans (congrArg O zk)
 f337:=Tryz.func163.trans (congrArg O zk)
 f338:=Tryz.func164.trans (congrArg O zk)
 t0:=underlying0
 a0:=isAgg0
 z0:=sizeOf0
 v0:=zeroValue0
 t2:=underlying2
 a2:=isAgg2
 z2:=sizeOf2
 v2:=zeroValue2
 t3:=underlying3
 a3:=isAgg3
 z3:=sizeOf3
 v3:=zeroValue3
 t4:=underlying4
 a4:=isAgg4
 z4:=sizeOf4
 v4:=zeroValue4
 t5:=underlying5
 a5:=isAgg5
 z5:=sizeOf5
 v5:=zeroValue5
 t9:=underlying9
 a9:=isAgg9
 z9:=sizeOf9
 v9:=zeroValue9
 t20:=underlying20
 a20:=isAgg20
 z20:=sizeOf20
 v20:=zeroValue20
 t21:=underlying21
 a21:=isAgg21
 z21:=sizeOf21
 v21:=zeroValue21
 t37:=underlying98
 a37:=isAgg98
 z37:=sizeOf98
 v37:=zeroValue98
 t46:=underlying290
 a46:=isAgg290
 z46:=sizeOf290
 v46:=zeroValue290
 t51:=underlying287
 a51:=isAgg287
 z51:=sizeOf287
 v51:=zeroValue287
 t53:=underlying261
 a53:=isAgg261
 z53:=sizeOf261
 v53:=zeroValue261
 t75:=underlying57
 a75:=isAgg57
 z75:=sizeOf57
 v75:=zeroValue57
 t76:=underlying136
 a76:=isAgg136
 z76:=sizeOf136
 v76:=zeroValue136
 t85:=underlying276
 a85:=isAgg276
 z85:=sizeOf276
 v85:=zeroValue276
 t127:=underlying181
 a127:=isAgg181
 z127:=sizeOf181
 v127:=zeroValue181
 t143:=underlying323
 a143:=isAgg323
 z143:=sizeOf323
 v143:=zeroValue323
 t145:=underlying325
 a145:=isAgg325
 z145:=sizeOf325
 v145:=zeroValue325
 t167:=underlying297
 a167:=isAgg297
 z167:=sizeOf297
 v167:=zeroValue297
 t168:=underlying298
 a168:=isAgg298
 z168:=sizeOf298
 v168:=zeroValue298
 t171:=underlying260
 a171:=isAgg260
 z171:=sizeOf260
 v171:=zeroValue260
 t173:=underlying264
 a173:=isAgg264
 z173:=sizeOf264
 v173:=zeroValue264
 t175:=underlying307
 a175:=isAgg307
 z175:=sizeOf307
 v175:=zeroValue307
 t210:=underlying311
 a210:=isAgg311
 z210:=sizeOf311
 v210:=zeroValue311
 t212:=underlying286
 a212:=isAgg286
 z212:=sizeOf286
 v212:=zeroValue286
 t213:=underlying288
 a213:=isAgg288
 z213:=sizeOf288
 t232:=underlying314
 a232:=isAgg314
 z232:=sizeOf314
 v232:=zeroValue314
 t233:=underlying315
 a233:=isAgg315
 z233:=sizeOf315
 v233:=zeroValue315
 g15:=zk
 g16:=zk
 g17:=zk
 g18:=zk
 g19:=zk
 t80:=underlying107
 a80:=isAgg107
 z80:=sizeOf107
 v80:=zeroValue107
 i0:=zk
 i2:=zk
 i3:=zk
 i4:=zk
 i5:=zk
 i9:=zk
 i20:=zk
 i21:=zk
 i37:=zk
 i46:=zk
 i51:=zk
 i53:=zk
 i75:=zk
 i76:=zk
 i80:=zk
 i85:=zk
 i127:=zk
 i143:=zk
 i145:=zk
 i167:=zk
 i168:=zk
 i171:=zk
 i173:=zk
 i175:=zk
 i210:=zk
 i212:=zk
 i232:=zk
 i233:=zk
 m15:=zk
 m16:=zk
 m17:=zk
 m18:=zk
 m19:=zk
 c0:=zk
 c2:=zk
 c3:=zk
 c4:=zk
 c5:=zk
 c9:=zk
 c20:=zk
 c21:=zk
 c37:=zk
 c46:=zk
 c51:=zk
 c53:=zk
 c75:=zk
 c76:=zk
 c80:=zk
 c85:=zk
 c127:=zk
 c143:=zk
 c145:=zk
 c167:=zk
 c168:=zk
 c171:=zk
 c173:=zk
 c175:=zk
 c210:=zk
 c212:=zk
 c213:=zk
 c232:=zk
 c233:=by kernel_rfl }
open Go.RowKit in
def Tryz.strconv_Atoi_ok (s:ByteArray) (acy:s.size<=9223372036854775806) (v:Int) (h:a5g s.data.toList = .ok v) (w:Z) :
 Calls bbe 100 #[.string s] w fun e w'=>e = ah (ak #[.int .i64 v,ai])/\(w'=w\/∃ t,w'=Lib.bytesWorld w 5 t):=Any.strconv_Atoi_ok Tryz.laysC172 s acy v h w
open Go.RowKit in
def Tryz.strconv_Atoi_syntax (s:ByteArray) (NJ:s.size<=281474976710656) (h:a5g s.data.toList=a5g []) (ev:Y) (w:Z) (hv:w.cell? ⟨6,0,V⟩=O ev) (Fs:ev = ai\/∃ te pe,ev = aj te pe) :
 Calls bbe 100 #[.string s] w fun e w'=>∃ N,e = ah (ak #[.int .i64 (0),aj 298 (aq (O ⟨N,0,V⟩))])/\w.heap.size<=N/\w'.heap[N]?=O (ae #[.string ⟨#[65,116,111,105]⟩,.string s,ev] 311 (0,0))/\Below w.heap.size w w':=Any.strconv_Atoi_syntax Tryz.laysC172 s NJ h ev w hv Fs
open Go.RowKit in
def Tryz.strconv_Atoi_range (s:ByteArray) (NJ:s.size<=281474976710656) (h:a5g s.data.toList = .range) (ev:Y) (w:Z) (hv:w.cell? ⟨7,0,V⟩=O ev) (Fs:ev = ai\/∃ te pe,ev = aj te pe) :
 Calls bbe 100 #[.string s] w fun e w'=>∃ N,e = ah (ak #[.int .i64 (Lib.atoiSat s.data.toList),aj 298 (aq (O ⟨N,0,V⟩))])/\w.heap.size<=N/\w'.heap[N]?=O (ae #[.string ⟨#[65,116,111,105]⟩,.string s,ev] 311 (0,0))/\Below w.heap.size w w':=Any.strconv_Atoi_range Tryz.laysC172 s NJ h ev w hv Fs
def Tryz.laysC174_ren:a3k:=⟨fun | 174=>135 | 247=>155 | 245=>134 | 287=>172 | 279=>156 | 280=>157 | 281=>158 | 282=>159 | 321=>180 | 322=>181 | 316=>173 | 171=>64 | 205=>174 | 243=>93 | 246=>92 | 283=>118 | 284=>119 | 285=>120 | 286=>121 | 129=>144 | 317=>143 | 318=>145 | 319=>146 | 320=>147 | 337=>163 | 338=>164 | n=>n,fun | 9=>9 | 3=>3 | 2=>2 | 75=>57 | 85=>276 | 4=>4 | 167=>297 | 5=>5 | 53=>261 | 175=>307 | 46=>290 | 168=>298 | 37=>98 | 0=>0 | 210=>311 | 21=>21 | 127=>181 | 145=>325 | 143=>323 | 171=>260 | 173=>264 | 212=>286 | 51=>287 | 20=>20 | 213=>288 | 232=>314 | 233=>315 | 80=>107 | n=>n,fun | 15=>6 | 16=>7 | 17=>4 | 18=>8 | 19=>9 | n=>n⟩
def Tryz.laysC174:Go.Proofs.LaysC.n174 bbe Tryz.laysC174_ren:={
 mixed:=zk
 f129:=Tryz.func144.trans (congrArg O zk)
 f171:=Tryz.func64.trans (congrArg O zk)
 f174:=Tryz.func135.trans (congrArg O zk)
 f205:=Tryz.func174.trans (congrArg O zk)
 f243:=Tryz.func93.trans (congrArg O zk)
 f245:=Tryz.func134.trans (congrArg O zk)
 f246:=Tryz.func92.trans (congrArg O zk)
 f247:=Tryz.func155.trans (congrArg O zk)
 f279:=Tryz.func156.trans (congrArg O zk)
 f280:=Tryz.func157.trans (congrArg O zk)
 f281:=Tryz.func158.trans (congrArg O zk)
 f282:=Tryz.func159.trans (congrArg O zk)
 f283:=Tryz.func118.trans (congrArg O zk)
 f284:=Tryz.func119.trans (congrArg O zk)
 f285:=Tryz.func120.trans (congrArg O zk)
 f286:=Tryz.func121.trans (congrArg O zk)
 f287:=Tryz.func172.trans (congrArg O zk)
 f316:=Tryz.func173.trans (congrArg O zk)
 f317:=Tryz.func143.trans (congrArg O zk)
 f318:=Tryz.func145.trans (congrArg O zk)
 f319:=Tryz.func146.trans (congrArg O zk)
 f320:=Tryz.func147.trans (congrArg O zk)
 f321:=Tryz.func180.trans (congrArg O zk)
 f322:=Tryz.func181.trans (congrArg O zk)
 f337:=Tryz.func163.trans (congrArg O zk)
 f338:=Tryz.func164.trans (congrArg O zk)
 t0:=underlying0
 a0:=isAgg0
 z0:=sizeOf0
 v0:=zeroValue0
 t2:=underlying2
 a2:=isAgg2
 z2:=sizeOf2
 v2:=zeroValue2
 t3:=underlying3
 a3:=isAgg3
 z3:=sizeOf3
 v3:=zeroValue3
 t4:=underlying4
 a4:=isAgg4
 z4:=sizeOf4
 v4:=zeroValue4
 t5:=underlying5
 a5:=isAgg5
 z5:=sizeOf5
 v5:=zeroValue5
 t9:=underlying9
 a9:=isAgg9
 z9:=sizeOf9
 v9:=zeroValue9
 t20:=underlying20
 a20:=isAgg20
 z20:=sizeOf20
 v20:=zeroValue20
 t21:=underlying21
 a21:=isAgg21
 z21:=sizeOf21
 v21:=zeroValue21
 t37:=underlying98
 a37:=isAgg98
 z37:=sizeOf98
 v37:=zeroValue98
 t46:=underlying290
 a46:=isAgg290
 z46:=sizeOf290
 v46:=zeroValue290
 t51:=underlying287
 a51:=isAgg287
 z51:=sizeOf287
 v51:=zeroValue287
 t53:=underlying261
 a53:=isAgg261
 z53:=sizeOf261
 v53:=zeroValue261
 t75:=underlying57
 a75:=isAgg57
 z75:=sizeOf57
 v75:=zeroValue57
 t85:=underlying276
 a85:=isAgg276
 z85:=sizeOf276
 v85:=zeroValue276
 t127:=underlying181
 a127:=isAgg181
 z127:=sizeOf181
 v127:=zeroValue181
 t143:=underlying323
 a143:=isAgg323
 z143:=sizeOf323
 v143:=zeroValue323
 t145:=underlying325
 a145:=isAgg325
 z145:=sizeOf325
 v145:=zeroValue325
 t167:=underlying297
 a167:=isAgg297
 z167:=sizeOf297
 v167:=zeroValue297
 t168:=underlying298
 a168:=isAgg298
 z168:=sizeOf298
 v168:=zeroValue298
 t171:=underlying260
 a171:=isAgg260
 z171:=sizeOf260
 v171:=zeroValue260
 t173:=underlying264
 a173:=isAgg264
 z173:=sizeOf264
 v173:=zeroValue264
 t175:=underlying307
 a175:=isAgg307
 z175:=sizeOf307
 v175:=zeroValue307
 t210:=underlying311
 a210:=isAgg311
 z210:=sizeOf311
 v210:=zeroValue311
 t212:=underlying286
 a212:=isAgg286
 z212:=sizeOf286
 v212:=zeroValue286
 t213:=underlying288
 a213:=isAgg288
 z213:=sizeOf288
 t232:=underlying314
 a232:=isAgg314
 z232:=sizeOf314
 v232:=zeroValue314
 t233:=underlying315
 a233:=isAgg315
 z233:=sizeOf315
 v233:=zeroValue315
 g15:=zk
 g16:=zk
 g17:=zk
 g18:=zk
 g19:=zk
 t80:=underlying107
 a80:=isAgg107
 z80:=sizeOf107
 v80:=zeroValue107
 i0:=zk
 i2:=zk
 i3:=zk
 i4:=zk
 i5:=zk
 i9:=zk
 i20:=zk
 i21:=zk
 i37:=zk
 i46:=zk
 i51:=zk
 i53:=zk
 i75:=zk
 i80:=zk
 i85:=zk
 i127:=zk
 i143:=zk
 i145:=zk
 i167:=zk
 i168:=zk
 i171:=zk
 i173:=zk
 i175:=zk
 i210:=zk
 i212:=zk
 i232:=zk
 i233:=zk
 m15:=zk
 m16:=zk
 m17:=zk
 m18:=zk
 m19:=zk
 c0:=zk
 c2:=zk
 c3:=zk
 c4:=zk
 c5:=zk
 c9:=zk
 c20:=zk
 c21:=zk
 c37:=zk
 c46:=zk
 c51:=zk
 c53:=zk
 c75:=zk
 c80:=zk
 c85:=zk
 c127:=zk
 c143:=zk
 c145:=zk
 c167:=zk
 c168:=zk
 c171:=zk
 c173:=zk
 c175:=zk
 c210:=zk
 c212:=zk
 c213:=zk
 c232:=zk
 c233:=by kernel_rfl }
open Go.RowKit in
def Tryz.strconv_ParseInt_10_at64_ok (s:ByteArray) (acy:s.size<=9223372036854775806) (v:Int) (h:a6h 64 s.data.toList = .ok v) (w:Z) :
 Calls bbe 135 #[.string s,.int .i64 10,.int .i64 64] w fun e w'=>e = ah (ak #[.int .i64 v,ai])/\(w'=w\/∃ t,w'=Lib.bytesWorld w 5 t):=Any.strconv_ParseInt_10_at64_ok Tryz.laysC174 s acy v h w
open Go.RowKit in
def Tryz.strconv_ParseInt_10_at64_syntax (s:ByteArray) (NJ:s.size<=281474976710656) (h:a6h 64 s.data.toList=a5g []) (ev:Y) (w:Z) (hv:w.cell? ⟨6,0,V⟩=O ev) (Fs:ev = ai\/∃ te pe,ev = aj te pe) :
 Calls bbe 135 #[.string s,.int .i64 10,.int .i64 64] w fun e w'=>∃ N,e = ah (ak #[.int .i64 (0),aj 298 (aq (O ⟨N,0,V⟩))])/\w.heap.size<=N/\w'.heap[N]?=O (ae #[.string ⟨#[80,97,114,115,101,73,110,116]⟩,.string s,ev] 311 (0,0))/\Below w.heap.size w w':=Any.strconv_ParseInt_10_at64_syntax Tryz.laysC174 s NJ h ev w hv Fs
open Go.RowKit in
def Tryz.strconv_ParseInt_10_at64_range (s:ByteArray) (NJ:s.size<=281474976710656) (h:a6h 64 s.data.toList = .range) (ev:Y) (w:Z) (hv:w.cell? ⟨7,0,V⟩=O ev) (Fs:ev = ai\/∃ te pe,ev = aj te pe) :
 Calls bbe 135 #[.string s,.int .i64 10,.int .i64 64] w fun e w'=>∃ N,e = ah (ak #[.int .i64 (Lib.intSat 64 s.data.toList),aj 298 (aq (O ⟨N,0,V⟩))])/\w.heap.size<=N/\w'.heap[N]?=O (ae #[.string ⟨#[80,97,114,115,101,73,110,116]⟩,.string s,ev] 311 (0,0))/\Below w.heap.size w w':=Any.strconv_ParseInt_10_at64_range Tryz.laysC174 s NJ h ev w hv Fs
def Tryz.lays99_ren:a3k:=⟨fun | 99=>113 | 206=>140 | n=>n,fun | 9=>9 | 4=>4 | 3=>3 | n=>n,fun | n=>n⟩
def Tryz.lays99:Go.Proofs.Lays.n99 bbe Tryz.lays99_ren:={
 mixed:=zk
 f99:=Tryz.func113.trans (congrArg O zk)
 f206:=Tryz.func140.trans (congrArg O zk)
 t3:=underlying3
 a3:=isAgg3
 z3:=sizeOf3
 v3:=zeroValue3
 t4:=underlying4
 a4:=isAgg4
 z4:=sizeOf4
 v4:=zeroValue4
 t9:=underlying9
 a9:=isAgg9
 z9:=sizeOf9
 v9:=zeroValue9 }
open Go.RowKit Go.Lib in
def Tryz.strings_HasPrefix (s p:ByteArray) (w:Z) :
 Calls bbe 113 #[.string s,.string p] w fun e w'=>e = ah (.bool (Lib.hasPrefix s.data.toList p.data.toList))/\w'=w:=Any.strings_HasPrefix Tryz.lays99 s p w
def Tryz.lays221_ren:a3k:=⟨fun | 221=>97 | 268=>122 | 138=>123 | 143=>124 | 195=>148 | 197=>149 | 218=>150 | 219=>151 | 260=>165 | 217=>166 | 225=>167 | 224=>168 | 267=>169 | 266=>176 | 314=>177 | n=>n,fun | 9=>9 | 3=>3 | 31=>39 | 4=>4 | 0=>0 | 105=>292 | 21=>21 | 5=>5 | 46=>290 | 119=>316 | 139=>319 | 138=>318 | 146=>320 | 51=>287 | n=>n,fun | 1=>5 | 3=>10 | 4=>11 | n=>n⟩
def Tryz.lays221:Go.Proofs.Lays.n221 bbe Tryz.lays221_ren:={
 mixed:=zk
 f138:=Tryz.func123.trans (congrArg O zk)
 f143:=Tryz.func124.trans (congrArg O zk)
 f195:=Tryz.func148.trans (congrArg O zk)
 f197:=Tryz.func149.trans (congrArg O zk)
 f217:=Tryz.func166.trans (congrArg O zk)
 f218:=Tryz.func150.trans (congrArg O zk)
 f219:=Tryz.func151.trans (congrArg O zk)
 f221:=Tryz.func97.trans (congrArg O zk)
 f224:=Tryz.func168.trans (congrArg O zk)
 f225:=Tryz.func167.trans (congrArg O zk)
 f260:=Tryz.func165.trans (congrArg O zk)
 f266:=Tryz.func176.trans (congrArg O zk)
 f267:=Tryz.func169.trans (congrArg O zk)
 f268:=Tryz.func122.trans (congrArg O zk)
 f314:=Tryz.func177.trans (congrArg O zk)
 t0:=underlying0
 a0:=isAgg0
 z0:=sizeOf0
 v0:=zeroValue0
 t3:=underlying3
 a3:=isAgg3
 z3:=sizeOf3
 v3:=zeroValue3
 t4:=underlying4
 a4:=isAgg4
 z4:=sizeOf4
 v4:=zeroValue4
 t5:=underlying5
 a5:=isAgg5
 z5:=sizeOf5
 v5:=zeroValue5
 t9:=underlying9
 a9:=isAgg9
 z9:=sizeOf9
 v9:=zeroValue9
 t21:=underlying21
 a21:=isAgg21
 z21:=sizeOf21
 v21:=zeroValue21
 t31:=underlying39
 a31:=isAgg39
 z31:=sizeOf39
 v31:=zeroValue39
 t46:=underlying290
 a46:=isAgg290
 z46:=sizeOf290
 v46:=zeroValue290
 t51:=underlying287
 a51:=isAgg287
 z51:=sizeOf287
 v51:=zeroValue287
 t105:=underlying292
 a105:=isAgg292
 z105:=sizeOf292
 v105:=zeroValue292
 t119:=underlying316
 a119:=isAgg316
 z119:=sizeOf316
 t138:=underlying318
 a138:=isAgg318
 z138:=sizeOf318
 v138:=zeroValue318
 t139:=underlying319
 a139:=isAgg319
 z139:=sizeOf319
 v139:=zeroValue319
 t146:=underlying320
 a146:=isAgg320
 z146:=sizeOf320
 v146:=zeroValue320
 g1:=zk
 g3:=zk
 g4:=by kernel_rfl }
open Go.RowKit Go.Lib in
def Tryz.strings_genSplit (s sep:ByteArray) (sv:Nat) (n:Int) (N:Nat) (m:Int) (w:Z) (hs:s.size<4294967281) (hm:w.cell? ⟨5,0,V⟩=O (.int .i64 m)) (h1:1<=sep.size) (D7:sv<=sep.size) (hn0:n≠0) (aDk:n<=9223372036854775807) (hN:(N:Int)=min (if n<0 then(a6s s sep:Int)+1 else n) ((s.size:Int)+1)) :
 Calls bbe 97 #[.string s,.string sep,.int .i64 sv,.int .i64 n] w fun e w'=>
  e = ah (.slice (O ⟨w.heap.size,0,V⟩) (Lib.splitB sep sv (N-1) s).length N)/\w'=w.alloc (ae (Lib.cellsOf (Lib.splitB sep sv (N-1) s) N) 9):=Any.strings_genSplit Tryz.lays221 zk s sep sv n N m w hs hm h1 D7 hn0 aDk hN
def Tryz.lays146_ren:a3k:=⟨fun | 146=>69 | 221=>97 | 268=>122 | 138=>123 | 143=>124 | 195=>148 | 197=>149 | 218=>150 | 219=>151 | 260=>165 | 217=>166 | 225=>167 | 224=>168 | 267=>169 | 266=>176 | 314=>177 | n=>n,fun | 9=>9 | 31=>39 | 3=>3 | 4=>4 | 0=>0 | 105=>292 | 21=>21 | 5=>5 | 46=>290 | 119=>316 | 139=>319 | 138=>318 | 146=>320 | 51=>287 | n=>n,fun | 1=>5 | 3=>10 | 4=>11 | n=>n⟩
def Tryz.lays146:Go.Proofs.Lays.n146 bbe Tryz.lays146_ren:={
 mixed:=zk
 f138:=Tryz.func123.trans (congrArg O zk)
 f143:=Tryz.func124.trans (congrArg O zk)
 f146:=Tryz.func69.trans (congrArg O zk)
 f195:=Tryz.func148.trans (congrArg O zk)
 f197:=Tryz.func149.trans (congrArg O zk)
 f217:=Tryz.func166.trans (congrArg O zk)
 f218:=Tryz.func150.trans (congrArg O zk)
 f219:=Tryz.func151.trans (congrArg O zk)
 f221:=Tryz.func97.trans (congrArg O zk)
 f224:=Tryz.func168.trans (congrArg O zk)
 f225:=Tryz.func167.trans (congrArg O zk)
 f260:=Tryz.func165.trans (congrArg O zk)
 f266:=Tryz.func176.trans (congrArg O zk)
 f267:=Tryz.func169.trans (congrArg O zk)
 f268:=Tryz.func122.trans (congrArg O zk)
 f314:=Tryz.func177.trans (congrArg O zk)
 t0:=underlying0
 a0:=isAgg0
 z0:=sizeOf0
 v0:=zeroValue0
 t3:=underlying3
 a3:=isAgg3
 z3:=sizeOf3
 v3:=zeroValue3
 t4:=underlying4
 a4:=isAgg4
 z4:=sizeOf4
 v4:=zeroValue4
 t5:=underlying5
 a5:=isAgg5
 z5:=sizeOf5
 v5:=zeroValue5
 t9:=underlying9
 a9:=isAgg9
 z9:=sizeOf9
 v9:=zeroValue9
 t21:=underlying21
 a21:=isAgg21
 z21:=sizeOf21
 v21:=zeroValue21
 t31:=underlying39
 a31:=isAgg39
 z31:=sizeOf39
 v31:=zeroValue39
 t46:=underlying290
 a46:=isAgg290
 z46:=sizeOf290
 v46:=zeroValue290
 t51:=underlying287
 a51:=isAgg287
 z51:=sizeOf287
 v51:=zeroValue287
 t105:=underlying292
 a105:=isAgg292
 z105:=sizeOf292
 v105:=zeroValue292
 t119:=underlying316
 a119:=isAgg316
 z119:=sizeOf316
 t138:=underlying318
 a138:=isAgg318
 z138:=sizeOf318
 v138:=zeroValue318
 t139:=underlying319
 a139:=isAgg319
 z139:=sizeOf319
 v139:=zeroValue319
 t146:=underlying320
 a146:=isAgg320
 z146:=sizeOf320
 v146:=zeroValue320
 g1:=zk
 g3:=zk
 g4:=by kernel_rfl }
open Go.RowKit Go.Lib in
def Tryz.strings_Split (s sep:ByteArray) (m:Int) (w:Z) (hs:s.size<4294967281) (hm:w.cell? ⟨5,0,V⟩=O (.int .i64 m)) (h1:1<=sep.size) :
 Calls bbe 69 #[.string s,.string sep] w fun e w'=>
  e = ah (.slice (O ⟨w.heap.size,0,V⟩) (a6s s sep+1) (a6s s sep+1))/\w'=w.alloc (ae ((Lib.splitB sep 0 (a6s s sep) s).map a1u).toArray 9):=Any.strings_Split Tryz.lays146 zk s sep m w hs hm h1
end Go.Proofs
namespace Go.Proofs.YtoegidfbnkaabaaGreatDoor
open P
open Go.RowKit
variable{w':Z}
theorem alw:∀ (l:Bs) (acc:Nat),l.all P.digit=A->l.length<=9->acc<10 ^ (9-l.length) ->
  a5h (2 ^ 64-1) acc l = .ok (l.foldl (fun v c=>10*v+(c.toNat-48)) acc)
 | [],acc,_,_,_=>by simp [a5h]
 | c::r,acc,h,a,b=>by
  simp only[a2z,a1w,P.digit,decide_eq_true_eq] at h;simp only[List.length_cons] at a b;have d:10 ^ (9-(r.length+1))<=10 ^ 8:=a5P zo zo;have e:10*10 ^ (9-(r.length+1))=10 ^ (9-r.length):=by
   rw[<- Nat.pow_succ'];grind
  rw[a5h,zip h.1,bI zo,bI (by
   omega)]
  rw[alw r (acc*10+(c.toNat-48)) h.2 zo zo];grind
def alx:∀ (l:Bs) (acc:Nat),l.all P.digit=A->l.foldl (fun(v:Int) c=>10*v+((c.toNat:Int)-48)) (acc:Int)=((l.foldl (fun v c=>10*v+(c.toNat-48)) acc:Nat):Int)
 | [],acc,_=>rfl
 | c::r,acc,h=>by
  simp only[a2z,a1w,P.digit,decide_eq_true_eq] at h;simp only[List.foldl_cons];rw[<- alx r _ h.2];grind
def aly:∀ (l:Bs) (acc n:Nat),l.all P.digit=A->l.length<=n->n<=9->acc<10 ^ (9-n)->l.foldl (fun v c=>10*v+(c.toNat-48)) acc<10 ^ 9
 | [],acc,n,_,_,a,b=>by
  have:10 ^ (9-n)<=10 ^ 9:=a5P zo zo;grind
 | c::r,acc,n,h,d,a,b=>by
  simp only[a2z,a1w,P.digit,decide_eq_true_eq] at h;simp only[List.length_cons] at d;simp only[List.foldl_cons];have e:10*10 ^ (9-n)=10 ^ (9-(n-1)):=by
   rw[<- Nat.pow_succ'];grind
  exact aly r _ (n-1) h.2 zo zo zo
def aDl{l:Bs}(b:l≠[])(h:l.all P.digit=A)(a:l.length<=9):Go.Lib.parseIntB 64 l = .ok (P.num l):=by
 obtain⟨c,r,rfl⟩:∃ c r,l=c::r:=by
  cases l with
  | nil=>grind
  | cons c r=>grind
 have d:48<=c.toNat/\c.toNat<=57:=by
  simp only[a2z,a1w,P.digit,decide_eq_true_eq] at h;omega
 have hu:Go.Lib.parseUintB 64 (c::r) = .ok ((c::r).foldl (fun v c=>10*v+(c.toNat-48)) 0):=by
  rw[Go.Lib.parseUintB,bI zs];grind [alw,Nat.pow_pos]
 have hlt:=aly (c::r) 0 9 h a zo zo;rw[Go.Lib.parseIntB];simp only[show ¬ (c.toNat=43\/c.toNat=45) from by omega,if_false,hu];rw[bI (by simp only[show(64:Nat)-1=63 from rfl];omega),bI zo];rw[bI zo]
 congr 1
 exact(alx (c::r) 0 h).symm
def aDm{w:Z}(h:Ext w w'){a:Addr}(e:w.heap.size<=a.block)(n:Nat):Ext w (w'.freeze a n):=by
 unfold World.freeze;split
 .omega
 .refine⟨h.os,h.tape,h.output,by simpa using h.size,fun b o c d=>?_⟩;have:=bh c;show(w'.heap.modify a.block _)[b]?=O o;rw[Array.getElem?_modify,bI zo];exact h.block b o c d
theorem acz(w:Z)(e:TypeId)(s:ByteArray):Ext w (Go.Lib.bytesWorld w e s):=by
 unfold Go.Lib.bytesWorld;exact aDm (((bB.refl _ _).drew).alloc _) (Nat.le_refl _) _
def aDn:WL:=by
 refine⟨fun{w} s a h b=>?_⟩;refine(Tryz.strconv_ParseInt_10_at64_ok (bs s) ?_ (P.num s) (aDl a h b) w).mono ?_
 .show s.toArray.size<=_;grind
 .rintro e w' ⟨rfl,rfl | ⟨t,rfl⟩⟩
  .exact⟨J,bB.refl _ _⟩
  .exact⟨J,acz _ _ _⟩
def acA:∀ f:Nat,∀ m,m<=f->SL m/\PO m/\SM m/\Nn m
 | 0,m,h=>by
  obtain rfl:m=0:=zo;exact⟨aC0,aCm,ak3,aCh⟩
 | f+1,m,h=>by
  have ih:=acA f;rcases Nat.lt_or_ge m (f+1) with hm | hm
  .grind
  .obtain rfl:m=f+1:=zo;have a:∀ j,j<f+1->IG j:=(by grind [akC]);have b:=ih f (Nat.le_refl f);exact⟨aC1 b.2.1 zg b.2.2.1 aDj aDn,aCn a,aCG a,(by grind [aCi])⟩
def acB(f:Nat):IG f:=akC (acA f f zo).2.2.2
def aDo(f:Nat):PO f:=(acA f f zo).2.1
