/- A part of one proof (SIdx, SVar, Shelf, SInt, STie). -/
import Derived.Test.YtoegidfbnkaabaaGreatDoorPkJAG
import Derived.Deep.QuietTactic
import Derived.BigQuiet
import Derived.Shelf.Strings.Builder1
import Derived.Shelf.Strings.Trim
import Derived.Shelf.Small.Utf8
import Derived.Shelf.Small.Strs
import Derived.Shelf.Small.Wraps
import Derived.Shelf.Strings.BuilderF
import Derived.Shelf.Strings.BuilderK
import Derived.Shelf.Strconv.Atoi
import Derived.Shelf.Strconv.Itoa0
import Derived.Shelf.Strconv.Itoa1
import Derived.Shelf.LaysM
import Derived.Shelf.Strconv.Itoa2
import Derived.Shelf.Strconv.Itoa3
import Derived.Shelf.Strconv.Itoa4
import Derived.Shelf.Strconv.AtoiErrFast
import Derived.Shelf.Strconv.ParseIntEmpty
import Derived.Shelf.Strconv.AtoiFail
import Derived.Shelf.Strconv.Clone
import Derived.Shelf.Strconv.SyntaxError
import Derived.Shelf.LaysC
import Derived.Shelf.Strconv.ToError
import Derived.Shelf.Strconv.Lower
import Derived.Shelf.Strconv.ParseUint10
import Derived.Shelf.Strconv.ParseUint10Empty
import Derived.Shelf.Strconv.ParseUint10Any
import Derived.Shelf.Strconv.ParseInt10
import Derived.Shelf.Strconv.AtoiLong
import Derived.Shelf.Strconv.AtoiInnerAll
import Derived.Shelf.Strconv.RangeError
import Derived.Shelf.Strconv.ToErrorRange
import Derived.Shelf.Strconv.AtoiAll
import Derived.Shelf.Strconv.ErrVarAll
import Derived.Shelf.Strconv.ParseUintEmpty
import Derived.Shelf.Strconv.ParseUint10b64
import Derived.Shelf.Strconv.ParseUint10b32
import Derived.Shelf.Strconv.ParseUint10b16
import Derived.Shelf.Strconv.ParseUint10b8
import Derived.Shelf.Strconv.ParseUint10At
import Derived.Shelf.Strconv.ParseInt10At64
import Derived.Shelf.Strconv.ParseInt10At32
import Derived.Shelf.Strconv.ParseInt10At16
import Derived.Shelf.Strconv.ParseInt10At8
import Derived.Shelf.Strconv.ParseInt10All
import Derived.Shelf.Strconv.ParseIntPublic10
import Derived.Shelf.Strconv.ErrVarParseInt
import Derived.Shelf.Strings.Search1
import Derived.Shelf.Strings.Search2
import Derived.Shelf.Strings.Search3
import Derived.Shelf.Strings.Count
import Derived.Shelf.Strings.Shaped
import Derived.Shelf.Strings.Prefix
import Derived.Shelf.Strings.Split
import Derived.Shelf.Strings.Runes
import Derived.Shelf.Strings.AsciiSet
import Derived.Shelf.Unicode.DecodeSlow
import Derived.Shelf.Unicode.DecodeAny
import Derived.Shelf.Unicode.DecodeLast
import Derived.Shelf.Strings.BuilderCap
import Derived.Shelf.Slices.Turned
import Derived.Test.YtoegidfbnkaabaaGreatDoorProg
set_option linter.all false
set_option maxRecDepth 100000
set_option maxHeartbeats 8000000
open Option renaming some → O, none → V
open Go renaming Value → Y, World → Z
open Bool renaming true → A, false → G
open Go.Obj renaming cells → ae
open Go.Ending renaming returned → ah
open Go.Value renaming nilIface → ai, iface → aj, tuple → ak, pointer → aq
open Go.Lib renaming hid → aZH, atoiAll → a3F, parseUintM → a3G, parseIntB → a4B, countB → a4L
open List renaming getElem?_eq_getElem → aZM, all_cons → a04, findIdx?_eq_some_iff_getElem → a2E
open Go.Value renaming string → aZ1, int → a0f
open Bool renaming and_eq_true → aZ3
open Go.Obj renaming cells → a0i
open Go.IntKind renaming i64 → a0n
open Go.Shelf renaming Ren → a1G
open Go.Calls renaming quiet_of_same → a1K
open Nat renaming pow_le_pow_right → a4e
open Go.Proofs.Tryz renaming prog → a9v
open Go.Proofs.Tryz
namespace Go.Proofs.YtoegidfbnkaabaaGreatDoor
open P
open Go.RowKit
variable{T:List P.Tok}{d j k n pb tb:Nat}{s:Bs}{tv v:Y}{vars:List Bs}{w w' w1 w2:Z}{xs:List Y}
def aBN{l:List Bs}(h:∀ j,j<l.length->l.getD j []≠s):l.idxOf? s=none:=by
 grind [List.idxOf?_eq_none_iff,List.getElem_of_mem,aZM]
def aBO{l:List Bs}(hk:k<l.length)(he:l.getD k []=s)(h:∀ j,j<k->l.getD j []≠s):l.idxOf? s=O k:=by
 rw[List.getD_eq_getElem?_getD,aZM hk,Option.getD_some] at he;rw[List.idxOf?,a2E];grind
def F6(o:Option Nat):Int:=match o with | some k=>k | none=>-1
def aBP{l:List Bs}(h:∀ j,j<l.length->l.getD j []≠s):F6 (l.idxOf? s)=-1:=by rw[aBN h];rfl
def aBQ{l:List Bs}(hk:k<l.length)(he:l.getD k []=s)(h:∀ j,j<k->l.getD j []≠s):F6 (l.idxOf? s)=k:=by rw[aBO hk he h];rfl
def aBR(s:Bs)(w:Z) :
  Calls a9v 161 #[bV,aT s] w fun e w'=>e = ah (zi (-1))/\w=w':=by
 go_enter func161,ntmps161
 go_wp2
 go_loop [8] (fun i=>i=zi 0) (fun _=>0)
 case atStart=>rfl
 case round=>
  obtain rfl:=hrel
  go_wp2
  go_ret
  exact⟨J,J⟩
def aBS(l:List Bs)(s:Bs)(g c:Nat)(w:Z)(hl:l.length<=100)(hc:∀ j,j<l.length->w.cell? ⟨g,j,V⟩=O (aT (l.getD j []))) :
  Calls a9v 161 #[cR g l.length c,aT s] w fun e w'=>e = ah (zi (F6 (l.idxOf? s)))/\w=w':=by
 have HC:=aZH hc;clear hc;obtain⟨n,hn⟩:=cd l.length;rw[<- hn] at hl ⊢;have HN:=aZH hn;clear hn;obtain⟨q,hq⟩:=cd (F6 (l.idxOf? s));rw[<- hq];have HQ:=aZH hq;clear hq
 go_enter func161,ntmps161
 go_wp2
 go_loop [5,8] (fun _ i=>∃ k:Nat,k<=n/\i=zi k/\∀ j,j<k->l.getD j []≠s) (fun _ i=>n-(intOf i).toNat)
 case atStart=>grind
 case round=>
  obtain⟨k,hk,rfl,lM⟩:=hrel;have Ew:=aZH lM;clear lM;by_cases hlt:k<n
  .have ns:=HC.out k (by rw[<- HN.out];exact hlt);obtain⟨x,hx⟩:=cd (l.getD k []);rw[<- hx] at ns;have HX:=aZH hx;clear hx;by_cases he:s=x
   .subst he
    go_wp2
    go_ret
    exact⟨by rw[HQ.out,aBQ (by rw[<- HN.out];exact hlt) HX.out.symm Ew.out];rfl,J⟩
   .have hbf:(s == x)=false:=zg
    go_wp2
    refine⟨⟨k+1,zo,by go_num,fun j hj=>?_⟩,by grind [intOf]⟩;rcases Nat.lt_or_ge j k with h | h
    .exact Ew.out j h
    .obtain rfl:j=k:=zo;rw[<- HX.out];exact fun h=>he h.symm
  .go_wp2
   go_ret
   refine⟨?_,J⟩;have e:=HN.out;rw[HQ.out,aBP (fun j hj=>Ew.out j zo)];rfl
def RW(l:List Bs)(s:Bs)(vv:Y)(w:Z)(b:l.length<=100)(q:Int)(a:F6 (l.idxOf? s)=q)
  (hr:(l=[]/\vv = bV)\/∃ g c,vv = cR g l.length c/\∀ j,j<l.length->w.cell? ⟨g,j,V⟩=O (aT (l.getD j []))) :
  Calls a9v 161 #[vv,aT s] w fun e w'=>e = ah (zi q)/\w'=w:=by
 rcases hr with⟨rfl,rfl⟩| ⟨g,c,rfl,h⟩
 .have:q=-1:=by rw[<- a];rfl
  subst this;exact(aBR s w).mono zg
 .subst a;exact(aBS l s g c w b h).mono zg
theorem SP.row(h:SP w pb tb T k vars d) :
  ∃ a n c,w.cell? ⟨pb,1,V⟩=O (.slice a n c)/\n=vars.length/\w.ownsRow (pb+1) 9 1 (.slice a n c) vars.length (vars.map fun s=>aT s) /\
   ((vars=[]/\(Value.slice a n c) = bV)\/∃ g e,(Value.slice a n c) = cR g vars.length e/\∀ j,j<vars.length->w.cell? ⟨g,j,V⟩=O (aT (vars.getD j []))):=by
 obtain⟨cap,vv,-,-,f,l⟩:=h.yg;have b:=l;rcases l with⟨g1,⟨rfl,g2⟩| ⟨g,e,cur,rfl,o,m,p,q,r,t⟩⟩
 .refine⟨_,_,_,cellOf f J,g2.symm,b,zg⟩
 .refine⟨_,_,_,cellOf f J,J,b,.inr ⟨g,e,J,fun i u=>cellOf m ?_⟩⟩;have x:cur[i]?=(cur.toList.take (vars.length*1))[i]?:=by
   grind
  grind
def RX{l:List Bs}(h:(l=[]/\v = bV)\/∃ g a,v = cR g l.length a/\∀ j,j<l.length->w.cell? ⟨g,j,V⟩=O (aT (l.getD j [])))
  (hw:∀ (b:Nat) (o:Obj),w.heap[b]?=O o->w'.heap[b]?=O o) :
  (l=[]/\v = bV)\/∃ g a,v = cR g l.length a/\∀ j,j<l.length->w'.cell? ⟨g,j,V⟩=O (aT (l.getD j [])):=by
 grind [Zt]
def aBT(t:P.Tok)(hp:SP w pb tb T k vars d)(ht:t.text≠[95])(hj:vars.idxOf? t.text=O j)(F7:j<100) :
  Calls a9v 141 #[pp pb,.agg #[zi t.kind,aT t.text,zi t.pos]] w
   (jN eL pb tb T d w (.ok (.mk 118 [] 0 j []) k vars)):=by
 have H:=aZH hp;obtain⟨a,n,c,hv,hn,-,eP⟩:=hp.row;have hlt:=hp.d2.2.2;have mY:=hp.nv;obtain⟨s,hs⟩:=cd t.text;have pk:F6 (vars.idxOf? s)=(j:Int):=by rw[hs,hj];rfl
 rw[<- hs] at ht ⊢;have HS:=aZH hs;have HR:=aZH eP;have HG:=aZH pk;have hsx:(s == [95])=false:=zg;clear hp hj hs eP pk ht hn
 go_enter func141,ntmps141
 go_wp2_with fail
 go_quiet ((go_at_call 161;exact a1K (RW vars s _ _ zo _ HG.out (by exact RX HR.out (fun b o h=>dQ h)))))
 go_wp2_with fail
 go_ret
 exact⟨_,J,JG (by grind [size_alloc,Oi]) (by grind [Es,Oi,size_alloc]),H.out.ext fun b o h=>dQ (dQ h),
  (by grind [bB.refl,bB.alloc,bB.drewN])⟩
theorem cZ.aBU{a b:Z}(d:a.ownsRow (pb+1) 9 1 v n xs)(h:a.grownBy b v.ownBlock):cZ pb a b:=by
 refine(bB.grownBy h).mono fun i o c hm=>?_;rcases d.2 with⟨rfl,_⟩| ⟨g,cap,cur,rfl,f,e,_⟩
 .cases hm
 .simp only[Value.ownBlock,Option.some.injEq] at hm;subst hm;rw[e] at c;injection c with c;exact .inr zg
def SP.appended(h:SP w pb tb T k vars d)(m:vars.length<12)
  (hv:w.cell? ⟨pb,1,V⟩=O v) (hw:∀ (b:Nat) (o:Obj),w.heap[b]?=O o->w1.heap[b]?=O o) (f:w1.ownsRow (pb+1) 9 1 v vars.length (vars.map fun s=>aT s))
  (n:w2.ownsRow (pb+1) 9 1 tv (vars.length+1) ((vars.map fun s=>aT s)++[aT s])) (g:w1.grownBy w2 v.ownBlock) :
  SP (w2.setCell ⟨pb,1,V⟩ tv) pb tb T k (vars++[s]) d/\cZ pb w1 (w2.setCell ⟨pb,1,V⟩ tv):=by
 have c:cZ pb w1 (w2.setCell ⟨pb,1,V⟩ tv):=(by grind [cZ.FW,cZ.aBU]);refine⟨?_,c⟩;have a:=h.ext hw;obtain⟨tw,lt,kt,nv,toks,cap,vv,a,i,j,-⟩:=a;have l:w2.heap[pb]?=aM #[.slice (O ⟨tb,k*3,V⟩) (T.length-k) (cap-k),vv,zi d] 145:=by
  rw[g.block pb (bg j) (by
   intro e;have:=f.lt pb e.symm;omega)]
  omega
 refine⟨tw,lt,kt,zg,c.toks lt toks,cap,tv,a,i,by rw[Az l];rfl,?_⟩;grind [ownsRow_setCell_below]
def akj{o:Obj}(c:(w.alloc o).drew.grownBy w2 v.ownBlock)
  (f:(w.alloc o).drew.ownsRow (pb+1) 9 1 v n xs) (h:SP w pb tb T k vars d):(∃ u,w2.cell? ⟨pb,1,V⟩=O u)/\w2.frozen? ⟨pb,1,V⟩=G/\pb<w2.heap.size:=by
 obtain⟨cap,vv,-,-,g,-⟩:=h.yg;have b:(w.alloc o).drew.heap[pb]?=_:=dQ g;have a:=c.block pb (bg b) (by
   intro e;have:=f.lt pb e.symm;omega)
 rw[b] at a;exact⟨⟨_,cellOf a J⟩,jH a 1,bg a⟩
def VY:(Tryz.prog.info? 9).map (fun i=>(i.zero,i.size,i.bytes))=O (O (.string ⟨#[]⟩),1,16):=zk
def akk(t:P.Tok)(hp:SP w pb tb T k vars d)(ht:vars.idxOf? t.text=V)(hl:vars.length<12) :
  Calls a9v 141 #[pp pb,.agg #[zi t.kind,aT t.text,zi t.pos]] w
   (jN eL pb tb T d w (.ok (.mk 118 [] 0 vars.length []) k (vars++[t.text]))):=by
 have H:=aZH hp;obtain⟨a,n,c,hv,hn,dR,eP⟩:=hp.row;have hlt:=hp.d2.2.2;have HT:w.frozen? ⟨pb,1,V⟩=false:=by
  obtain⟨_,_,_,_,q,_⟩:=hp.yg;exact jH q 1
 have mY:=hp.nv;obtain⟨s,hs⟩:=cd t.text;have pk:F6 (vars.idxOf? s)=-1:=by rw[hs,ht];rfl
 rw[<- hs];have HS:=aZH hs;have HR:=aZH eP;have HG:=aZH pk;have HO:=aZH dR;have aBV:n<12:=zo;have abl:((n:Int) == 12)=false:=zg;have HN:=aZH hn;obtain⟨i0,hi,Ey,oZ,qE⟩:=info_parts VY;clear hp hs eP pk ht dR hn
 go_enter func141,ntmps141
 go_wp2_with fail
 go_quiet ((go_at_call 161;exact a1K (RW vars s _ _ zo _ HG.out (by exact RX HR.out (fun b o h=>dQ h)))))
 go_wp2_with fail
 have xb:(w.alloc (a0i #[a0f a0n t.kind,aZ1 (bs s),a0f a0n t.pos] 142)).heap[w.heap.size]?=_:=blk_alloc_new _ _;have Ml:∀ (b:Nat) (o:Obj),w.heap[b]?=O o->((w.alloc (a0i #[a0f a0n t.kind,aZ1 (bs s),a0f a0n t.pos] 142)).drewN nq).heap[b]?=O o:=fun b o h=>dQ h;have abm:((w.alloc (a0i #[a0f a0n t.kind,aZ1 (bs s),a0f a0n t.pos] 142)).drewN nq).heap.size=w.heap.size+1:=by rw[Oi,size_alloc]
 have RZ:cZ pb w ((w.alloc (a0i #[a0f a0n t.kind,aZ1 (bs s),a0f a0n t.pos] 142)).drewN nq):=((bB.refl _ _).alloc _).drewN _;have R0:((w.alloc (a0i #[a0f a0n t.kind,aZ1 (bs s),a0f a0n t.pos] 142)).drewN nq).heap[w.heap.size]?=_:=xb;generalize (w.alloc (a0i #[a0f a0n t.kind,aZ1 (bs s),a0f a0n t.pos] 142)).drewN nq=W at *;have c1:W.cell? ⟨w.heap.size,1,V⟩=O (aT s):=cellOf R0 J;have hvW:=Zt hv Ml;have HU:=H.out.ext Ml;have aBW:=HU.d2.2.2;have aBX:W.frozen? ⟨pb,1,V⟩=false:=by
  obtain⟨_,_,_,_,q,_⟩:=HU.yg;exact jH q 1
 have R1:W.ownsRow (pb+1) 9 1 (.slice a n c) vars.length (vars.map fun s=>aT s):=by
  obtain⟨g1,g2 | ⟨g,cp,cur,e1,e2,e3,e4⟩⟩:=HO.out
  .exact⟨g1,.inl g2⟩
  .exact⟨g1,.inr ⟨g,cp,cur,e1,e2,zg,e4⟩⟩
 have Mm:=aZH R1;have R2:=aZH HU;have HFW:=aZH RZ;clear R1 HU RZ xb R0 hv HT Ml
 go_region_law (refine ahQ J _ _ _ J (pb+1) 9 i0 _ 1 16 underlying39 hi Ey oZ qE J zd _ _ _ J (Ol Mm.out _) ⟨w.heap.size+1,0,V⟩ 1 1 [aT s] J J (ahP abm.symm) (by simp [Value.oneCell']) (by unfold maxLen;omega) zo (by simp;omega) ?_;intro v' w1 xh Mn abp;obtain⟨g',qZ,rfl⟩:=LG xh;have HA:=aZH (SP.appended (w1:=(W.alloc (a0i #[aZ1 (bs s)] 9)).drew) R2.out (by have:=HN.out;omega) hvW (fun b o h=>dQ (o:=a0i #[aZ1 (bs s)] 9) h) (Ol Mm.out _) xh Mn);obtain⟨⟨u1',c1'⟩,f1',l1'⟩:=akj Mn (Ol Mm.out (a0i #[aZ1 (bs s)] 9)) R2.out;clear xh Mn abp)
 all_goals
  go_wp2_with fail
  go_ret
  have hn:=HN.out;subst hn;have me:=HA.out.2.size;rw[size_drew,size_alloc,size_setCell] at me;exact⟨_,J,JG (by grind [size_alloc,size_setCell]) (by grind [Es,size_setCell]),HA.out.1.ext (by grind [dQ]),
   ((HFW.out.trans (((bB.refl _ _).alloc _).drew)).trans HA.out.2).alloc _⟩
def aB1(t:P.Tok)(hp:SP w pb tb T k vars d)(ht:t.text=[95])(hj:vars.idxOf? t.text=O j)(F7:j<100)(hl:vars.length<12) :
  Calls a9v 141 #[pp pb,.agg #[zi t.kind,aT t.text,zi t.pos]] w
   (jN eL pb tb T d w (.ok (.mk 118 [] 0 vars.length []) k (vars++[t.text]))):=by
 have H:=aZH hp;obtain⟨a,n,c,hv,hn,dR,eP⟩:=hp.row;have hlt:=hp.d2.2.2;have HT:w.frozen? ⟨pb,1,V⟩=false:=by
  obtain⟨_,_,_,_,q,_⟩:=hp.yg;exact jH q 1
 have mY:=hp.nv;obtain⟨s,hs⟩:=cd t.text;have pk:F6 (vars.idxOf? s)=(j:Int):=by rw[hs,hj];rfl
 rw[<- hs];have HS:=aZH hs;have HR:=aZH eP;have HG:=aZH pk;have HO:=aZH dR;have aBV:n<12:=zo;have abl:((n:Int) == 12)=false:=zg;have HN:=aZH hn;obtain⟨i0,hi,Ey,oZ,qE⟩:=info_parts VY;have hse:(s == [95])=true:=zg;clear hp hs eP pk ht dR hn hj
 go_enter func141,ntmps141
 go_wp2_with fail
 go_quiet ((go_at_call 161;exact a1K (RW vars s _ _ zo _ HG.out (by exact RX HR.out (fun b o h=>dQ h)))))
 go_wp2_with fail
 have xb:(w.alloc (a0i #[a0f a0n t.kind,aZ1 (bs s),a0f a0n t.pos] 142)).heap[w.heap.size]?=_:=blk_alloc_new _ _;have Ml:∀ (b:Nat) (o:Obj),w.heap[b]?=O o->((w.alloc (a0i #[a0f a0n t.kind,aZ1 (bs s),a0f a0n t.pos] 142)).drewN nq).heap[b]?=O o:=fun b o h=>dQ h;have abm:((w.alloc (a0i #[a0f a0n t.kind,aZ1 (bs s),a0f a0n t.pos] 142)).drewN nq).heap.size=w.heap.size+1:=by rw[Oi,size_alloc]
 have RZ:cZ pb w ((w.alloc (a0i #[a0f a0n t.kind,aZ1 (bs s),a0f a0n t.pos] 142)).drewN nq):=((bB.refl _ _).alloc _).drewN _;have R0:((w.alloc (a0i #[a0f a0n t.kind,aZ1 (bs s),a0f a0n t.pos] 142)).drewN nq).heap[w.heap.size]?=_:=xb;generalize (w.alloc (a0i #[a0f a0n t.kind,aZ1 (bs s),a0f a0n t.pos] 142)).drewN nq=W at *;have c1:W.cell? ⟨w.heap.size,1,V⟩=O (aT s):=cellOf R0 J;have hvW:=Zt hv Ml;have HU:=H.out.ext Ml;have aBW:=HU.d2.2.2;have aBX:W.frozen? ⟨pb,1,V⟩=false:=by
  obtain⟨_,_,_,_,q,_⟩:=HU.yg;exact jH q 1
 have R1:W.ownsRow (pb+1) 9 1 (.slice a n c) vars.length (vars.map fun s=>aT s):=by
  obtain⟨g1,g2 | ⟨g,cp,cur,e1,e2,e3,e4⟩⟩:=HO.out
  .exact⟨g1,.inl g2⟩
  .exact⟨g1,.inr ⟨g,cp,cur,e1,e2,zg,e4⟩⟩
 have Mm:=aZH R1;have R2:=aZH HU;have HFW:=aZH RZ;clear R1 HU RZ xb R0 hv HT Ml
 go_region_law (refine ahQ J _ _ _ J (pb+1) 9 i0 _ 1 16 underlying39 hi Ey oZ qE J zd _ _ _ J (Ol Mm.out _) ⟨w.heap.size+1,0,V⟩ 1 1 [aT s] J J (ahP abm.symm) (by simp [Value.oneCell']) (by unfold maxLen;omega) zo (by simp;omega) ?_;intro v' w1 xh Mn abp;obtain⟨g',qZ,rfl⟩:=LG xh;have HA:=aZH (SP.appended (w1:=(W.alloc (a0i #[aZ1 (bs s)] 9)).drew) R2.out (by have:=HN.out;omega) hvW (fun b o h=>dQ (o:=a0i #[aZ1 (bs s)] 9) h) (Ol Mm.out _) xh Mn);obtain⟨⟨u1',c1'⟩,f1',l1'⟩:=akj Mn (Ol Mm.out (a0i #[aZ1 (bs s)] 9)) R2.out;clear xh Mn abp)
 all_goals
  go_wp2_with fail
  go_ret
  have hn:=HN.out;subst hn;have me:=HA.out.2.size;rw[size_drew,size_alloc,size_setCell] at me;exact⟨_,J,JG (by grind [size_alloc,size_setCell]) (by grind [Es,size_setCell]),HA.out.1.ext (by grind [dQ]),
   ((HFW.out.trans (((bB.refl _ _).alloc _).drew)).trans HA.out.2).alloc _⟩
def akm(t:P.Tok)(hp:SP w pb tb T k vars d)(ht:vars.idxOf? t.text=V)(hl:vars.length=12) :
  Calls a9v 141 #[pp pb,.agg #[zi t.kind,aT t.text,zi t.pos]] w
   (jN eL pb tb T d w (.err 4 t.pos)):=by
 have H:=aZH hp;obtain⟨a,n,c,hv,hn,dR,eP⟩:=hp.row;have hlt:=hp.d2.2.2;have HT:w.frozen? ⟨pb,1,V⟩=false:=by
  obtain⟨_,_,_,_,q,_⟩:=hp.yg;exact jH q 1
 have mY:=hp.nv;obtain⟨s,hs⟩:=cd t.text;have pk:F6 (vars.idxOf? s)=-1:=by rw[hs,ht];rfl
 rw[<- hs];have HS:=aZH hs;have HR:=aZH eP;have HG:=aZH pk;have HO:=aZH dR;have abl:((n:Int) == 12)=true:=zg;have HN:=aZH hn;obtain⟨i0,hi,Ey,oZ,qE⟩:=info_parts VY;clear hp hs eP pk ht dR hn HN
 go_enter func141,ntmps141
 go_wp2_with fail
 go_quiet ((go_at_call 161;exact a1K (RW vars s _ _ zo _ HG.out (by exact RX HR.out (fun b o h=>dQ h)))))
 go_wp2_with fail
 refine(BF _ _ _ pb (H.out.ext (w':=(w.alloc (a0i #[a0f a0n t.kind,aZ1 (bs s),a0f a0n t.pos] 142)).drewN nq) fun b o h=>dQ h).sb).mono ?_;rintro e w3 ⟨⟨b,rfl,eK,gn⟩,dU,gJ⟩;rw[Oi,size_alloc] at gn;exact⟨J,⟨b,J,eK,zo⟩,(((bB.refl _ _).alloc _).drewN _).trans dU,gJ⟩
def aB3(t:P.Tok)(hp:SP w pb tb T k vars d)(ht:t.text=[95])(hj:vars.idxOf? t.text=O j)(F7:j<100)(hl:vars.length=12) :
  Calls a9v 141 #[pp pb,.agg #[zi t.kind,aT t.text,zi t.pos]] w
   (jN eL pb tb T d w (.err 4 t.pos)):=by
 have H:=aZH hp;obtain⟨a,n,c,hv,hn,dR,eP⟩:=hp.row;have hlt:=hp.d2.2.2;have HT:w.frozen? ⟨pb,1,V⟩=false:=by
  obtain⟨_,_,_,_,q,_⟩:=hp.yg;exact jH q 1
 have mY:=hp.nv;obtain⟨s,hs⟩:=cd t.text;have pk:F6 (vars.idxOf? s)=(j:Int):=by rw[hs,hj];rfl
 rw[<- hs];have HS:=aZH hs;have HR:=aZH eP;have HG:=aZH pk;have HO:=aZH dR;have abl:((n:Int) == 12)=true:=zg;have HN:=aZH hn;obtain⟨i0,hi,Ey,oZ,qE⟩:=info_parts VY;have hse:(s == [95])=true:=zg;clear hp hs eP pk ht dR hn HN hj
 go_enter func141,ntmps141
 go_wp2_with fail
 go_quiet ((go_at_call 161;exact a1K (RW vars s _ _ zo _ HG.out (by exact RX HR.out (fun b o h=>dQ h)))))
 go_wp2_with fail
 refine(BF _ _ _ pb (H.out.ext (w':=(w.alloc (a0i #[a0f a0n t.kind,aZ1 (bs s),a0f a0n t.pos] 142)).drewN nq) fun b o h=>dQ h).sb).mono ?_;rintro e w3 ⟨⟨b,rfl,eK,gn⟩,dU,gJ⟩;rw[Oi,size_alloc] at gn;exact⟨J,⟨b,J,eK,zo⟩,(((bB.refl _ _).alloc _).drewN _).trans dU,gJ⟩
def abq{l:List Bs}(h:l.idxOf? s=O j):j<l.length:=by
 rw[List.idxOf?,a2E] at h;grind
def aB4:aaX:=by
 refine⟨fun{pb tb T k vars d w} t b _=>?_⟩;unfold zj;have e:=b.nv;by_cases hu:t.text=[95]
 .rw[zip hu];by_cases c:vars.length=12
  .dsimp only;rw[zip (show vars.length=Og from c)];cases a:vars.idxOf? t.text with
   | none=>exact akm t b a c
   | some j=>exact aB3 t b hu a (by have:=abq a;omega) c
  .dsimp only;rw[bZ (show ¬ vars.length=Og from c)];cases a:vars.idxOf? t.text with
   | none=>exact akk t b a zo
   | some j=>exact aB1 t b hu a (by have:=abq a;omega) zo
 .rw[bZ hu];cases a:vars.idxOf? t.text with
  | some j=>exact aBT t b hu a (by have:=abq a;omega)
  | none=>
   by_cases c:vars.length=12
   .dsimp only;rw[zip (show vars.length=Og from c)];exact akm t b a c
   .dsimp only;rw[bZ (show ¬ vars.length=Og from c)];exact akk t b a zo
end Go.Proofs.YtoegidfbnkaabaaGreatDoor
namespace Go.Proofs
open Go.Shelf
def Tryz.lays160_ren:a1G:=⟨fun | 160=>99 | 232=>127 | 231=>126 | 227=>128 | 234=>130 | 233=>129 | 236=>132 | 235=>131 | 228=>152 | 271=>154 | 151=>153 | 197=>149 | 120=>171 | 152=>170 | 260=>165 | 137=>178 | 119=>179 | 224=>168 | 225=>167 | 217=>166 | 266=>176 | n=>n,fun | 9=>9 | 4=>4 | 3=>3 | 5=>5 | 117=>271 | 116=>270 | 0=>0 | 124=>274 | 21=>21 | 105=>292 | 46=>290 | 119=>316 | 139=>319 | 138=>318 | n=>n,fun | 3=>10 | 4=>11 | n=>n⟩
def Tryz.lays160:Go.Proofs.Lays.n160 a9v Tryz.lays160_ren:={
 mixed:=zk
 f119:=Tryz.func179.trans (congrArg O zk)
 f120:=Tryz.func171.trans (congrArg O zk)
 f137:=Tryz.func178.trans (congrArg O zk)
 f151:=Tryz.func153.trans (congrArg O zk)
 f152:=Tryz.func170.trans (congrArg O zk)
 f160:=Tryz.func99.trans (congrArg O zk)
 f197:=Tryz.func149.trans (congrArg O zk)
 f217:=Tryz.func166.trans (congrArg O zk)
 f224:=Tryz.func168.trans (congrArg O zk)
 f225:=Tryz.func167.trans (congrArg O zk)
 f227:=Tryz.func128.trans (congrArg O zk)
 f228:=Tryz.func152.trans (congrArg O zk)
 f231:=Tryz.func126.trans (congrArg O zk)
 f232:=Tryz.func127.trans (congrArg O zk)
 f233:=Tryz.func129.trans (congrArg O zk)
 f234:=Tryz.func130.trans (congrArg O zk)
 f235:=Tryz.func131.trans (congrArg O zk)
 f236:=Tryz.func132.trans (congrArg O zk)
 f260:=Tryz.func165.trans (congrArg O zk)
 f266:=Tryz.func176.trans (congrArg O zk)
 f271:=Tryz.func154.trans (congrArg O zk)
 t0:=underlying0
 a0:=isAgg0
 z0:=sizeOf0
 v0:=zeroValue0
 t3:=underlying3
 a3:=isAgg3
 z3:=sizeOf3
 v3:=zeroValue3
 t4:=underlying4
 a4:=isAgg4
 z4:=sizeOf4
 v4:=zeroValue4
 t5:=underlying5
 a5:=isAgg5
 z5:=sizeOf5
 v5:=zeroValue5
 t9:=underlying9
 a9:=isAgg9
 z9:=sizeOf9
 v9:=zeroValue9
 t21:=underlying21
 a21:=isAgg21
 z21:=sizeOf21
 v21:=zeroValue21
 t46:=underlying290
 a46:=isAgg290
 z46:=sizeOf290
 v46:=zeroValue290
 t105:=underlying292
 a105:=isAgg292
 z105:=sizeOf292
 v105:=zeroValue292
 t116:=underlying270
 a116:=isAgg270
 z116:=sizeOf270
 t117:=underlying271
 a117:=isAgg271
 z117:=sizeOf271
 v117:=zeroValue271
 t119:=underlying316
 a119:=isAgg316
 z119:=sizeOf316
 t124:=underlying274
 a124:=isAgg274
 z124:=sizeOf274
 v124:=zeroValue274
 t138:=underlying318
 a138:=isAgg318
 z138:=sizeOf318
 v138:=zeroValue318
 t139:=underlying319
 a139:=isAgg319
 z139:=sizeOf319
 v139:=zeroValue319
 g3:=zk
 g4:=by kernel_rfl }
def Tryz.lays104_ren:a1G:=⟨fun | 104=>68 | 211=>98 | 207=>125 | n=>n,fun | 9=>9 | 4=>4 | 24=>131 | 3=>3 | n=>n,fun | n=>n⟩
def Tryz.lays104:Go.Proofs.Lays.n104 a9v Tryz.lays104_ren:={
 mixed:=zk
 f104:=Tryz.func68.trans (congrArg O zk)
 f207:=Tryz.func125.trans (congrArg O zk)
 f211:=Tryz.func98.trans (congrArg O zk)
 t3:=underlying3
 a3:=isAgg3
 z3:=sizeOf3
 v3:=zeroValue3
 t4:=underlying4
 a4:=isAgg4
 z4:=sizeOf4
 v4:=zeroValue4
 t9:=underlying9
 a9:=isAgg9
 z9:=sizeOf9
 v9:=zeroValue9
 t24:=underlying131
 a24:=isAgg131
 z24:=sizeOf131
 v24:=zeroValue131 }
open Go.RowKit in
def Tryz.strings_CutSuffix (s p:ByteArray) (w:Z) (hs:s.size<=9223372036854775807) :
 Calls a9v 68 #[.string s,.string p] w fun e w'=>e = ah (ak #[.string ⟨(Lib.trimSuffix s.data.toList p.data.toList).toArray⟩,.bool (Lib.hasSuffix s.data.toList p.data.toList)])/\w'=w:=Any.strings_CutSuffix Tryz.lays104 s p w hs
def Tryz.laysM171_ren:a1G:=⟨fun | 171=>64 | 243=>93 | 246=>92 | 283=>118 | 284=>119 | 285=>120 | 286=>121 | 129=>144 | 317=>143 | 318=>145 | 319=>146 | 320=>147 | 337=>163 | 338=>164 | n=>n,fun | 3=>3 | 9=>9 | 2=>2 | 4=>4 | 171=>260 | 0=>0 | 53=>261 | 37=>98 | 5=>5 | 173=>264 | 212=>286 | 51=>287 | 20=>20 | 213=>288 | 46=>290 | 232=>314 | 233=>315 | n=>n,fun | 17=>4 | 18=>8 | 19=>9 | n=>n⟩
def Tryz.laysM171:Go.Proofs.LaysM.n171 a9v Tryz.laysM171_ren:={
 mixed:=zk
 f129:=Tryz.func144.trans (congrArg O zk)
 f171:=Tryz.func64.trans (congrArg O zk)
 f243:=Tryz.func93.trans (congrArg O zk)
 f246:=Tryz.func92.trans (congrArg O zk)
 f283:=Tryz.func118.trans (congrArg O zk)
 f284:=Tryz.func119.trans (congrArg O zk)
 f285:=Tryz.func120.trans (congrArg O zk)
 f286:=Tryz.func121.trans (congrArg O zk)
 f317:=Tryz.func143.trans (congrArg O zk)
 f318:=Tryz.func145.trans (congrArg O zk)
 f319:=Tryz.func146.trans (congrArg O zk)
 f320:=Tryz.func147.trans (congrArg O zk)
 f337:=Tryz.func163.trans (congrArg O zk)
 f338:=Tryz.func164.trans (congrArg O zk)
 t0:=underlying0
 a0:=isAgg0
 z0:=sizeOf0
 v0:=zeroValue0
 t2:=underlying2
 a2:=isAgg2
 z2:=sizeOf2
 v2:=zeroValue2
 t3:=underlying3
 a3:=isAgg3
 z3:=sizeOf3
 v3:=zeroValue3
 t4:=underlying4
 a4:=isAgg4
 z4:=sizeOf4
 v4:=zeroValue4
 t5:=underlying5
 a5:=isAgg5
 z5:=sizeOf5
 v5:=zeroValue5
 t9:=underlying9
 a9:=isAgg9
 z9:=sizeOf9
 v9:=zeroValue9
 t20:=underlying20
 a20:=isAgg20
 z20:=sizeOf20
 v20:=zeroValue20
 t37:=underlying98
 a37:=isAgg98
 z37:=sizeOf98
 v37:=zeroValue98
 t46:=underlying290
 a46:=isAgg290
 z46:=sizeOf290
 v46:=zeroValue290
 t51:=underlying287
 a51:=isAgg287
 z51:=sizeOf287
 v51:=zeroValue287
 t53:=underlying261
 a53:=isAgg261
 z53:=sizeOf261
 v53:=zeroValue261
 t171:=underlying260
 a171:=isAgg260
 z171:=sizeOf260
 v171:=zeroValue260
 t173:=underlying264
 a173:=isAgg264
 z173:=sizeOf264
 v173:=zeroValue264
 t212:=underlying286
 a212:=isAgg286
 z212:=sizeOf286
 v212:=zeroValue286
 t213:=underlying288
 a213:=isAgg288
 z213:=sizeOf288
 t232:=underlying314
 a232:=isAgg314
 z232:=sizeOf314
 v232:=zeroValue314
 t233:=underlying315
 a233:=isAgg315
 z233:=sizeOf315
 v233:=zeroValue315
 g17:=zk
 g18:=zk
 g19:=zk
 i0:=zk
 i2:=zk
 i3:=zk
 i4:=zk
 i5:=zk
 i9:=zk
 i20:=zk
 i37:=zk
 i46:=zk
 i51:=zk
 i53:=zk
 i171:=zk
 i173:=zk
 i212:=zk
 i232:=zk
 i233:=zk
 m17:=zk
 m18:=zk
 m19:=by kernel_rfl }
open Go.RowKit Go.Sort Go.Lib in
def Tryz.strconv_Itoa (n:Int) (h0:-9223372036854775808<=n) (h1:n<=9223372036854775807) (w:Z) (abr:Lib.TabIs a9v w "internal/strconv.uint64pow10" .u64 Lib.pow10Tab) :
 Calls a9v 64 #[.int .i64 n] w fun e w'=>e = ah (.string ⟨(Lib.itoa n).toArray⟩)/\∃ k os,w'=grow (w.drewN k) os:=Any.strconv_Itoa Tryz.laysM171 n h0 h1 w abr
def Tryz.laysM173_ren:a1G:=⟨fun | 173=>63 | 246=>92 | 283=>118 | 284=>119 | 285=>120 | 286=>121 | 129=>144 | 317=>143 | 318=>145 | 319=>146 | 320=>147 | 337=>163 | 338=>164 | n=>n,fun | 2=>2 | 3=>3 | 9=>9 | 4=>4 | 171=>260 | 0=>0 | 53=>261 | 37=>98 | 5=>5 | 173=>264 | 212=>286 | 51=>287 | 20=>20 | 213=>288 | 46=>290 | 232=>314 | 233=>315 | n=>n,fun | 17=>4 | 18=>8 | 19=>9 | n=>n⟩
def Tryz.laysM173:Go.Proofs.LaysM.n173 a9v Tryz.laysM173_ren:={
 mixed:=zk
 f129:=Tryz.func144.trans (congrArg O zk)
 f173:=Tryz.func63.trans (congrArg O zk)
 f246:=Tryz.func92.trans (congrArg O zk)
 f283:=Tryz.func118.trans (congrArg O zk)
 f284:=Tryz.func119.trans (congrArg O zk)
 f285:=Tryz.func120.trans (congrArg O zk)
 f286:=Tryz.func121.trans (congrArg O zk)
 f317:=Tryz.func143.trans (congrArg O zk)
 f318:=Tryz.func145.trans (congrArg O zk)
 f319:=Tryz.func146.trans (congrArg O zk)
 f320:=Tryz.func147.trans (congrArg O zk)
 f337:=Tryz.func163.trans (congrArg O zk)
 f338:=Tryz.func164.trans (congrArg O zk)
 t0:=underlying0
 a0:=isAgg0
 z0:=sizeOf0
 v0:=zeroValue0
 t2:=underlying2
 a2:=isAgg2
 z2:=sizeOf2
 v2:=zeroValue2
 t3:=underlying3
 a3:=isAgg3
 z3:=sizeOf3
 v3:=zeroValue3
 t4:=underlying4
 a4:=isAgg4
 z4:=sizeOf4
 v4:=zeroValue4
 t5:=underlying5
 a5:=isAgg5
 z5:=sizeOf5
 v5:=zeroValue5
 t9:=underlying9
 a9:=isAgg9
 z9:=sizeOf9
 v9:=zeroValue9
 t20:=underlying20
 a20:=isAgg20
 z20:=sizeOf20
 v20:=zeroValue20
 t37:=underlying98
 a37:=isAgg98
 z37:=sizeOf98
 v37:=zeroValue98
 t46:=underlying290
 a46:=isAgg290
 z46:=sizeOf290
 v46:=zeroValue290
 t51:=underlying287
 a51:=isAgg287
 z51:=sizeOf287
 v51:=zeroValue287
 t53:=underlying261
 a53:=isAgg261
 z53:=sizeOf261
 v53:=zeroValue261
 t171:=underlying260
 a171:=isAgg260
 z171:=sizeOf260
 v171:=zeroValue260
 t173:=underlying264
 a173:=isAgg264
 z173:=sizeOf264
 v173:=zeroValue264
 t212:=underlying286
 a212:=isAgg286
 z212:=sizeOf286
 v212:=zeroValue286
 t213:=underlying288
 a213:=isAgg288
 z213:=sizeOf288
 t232:=underlying314
 a232:=isAgg314
 z232:=sizeOf314
 v232:=zeroValue314
 t233:=underlying315
 a233:=isAgg315
 z233:=sizeOf315
 v233:=zeroValue315
 g17:=zk
 g18:=zk
 g19:=zk
 i0:=zk
 i2:=zk
 i3:=zk
 i4:=zk
 i5:=zk
 i9:=zk
 i20:=zk
 i37:=zk
 i46:=zk
 i51:=zk
 i53:=zk
 i171:=zk
 i173:=zk
 i212:=zk
 i232:=zk
 i233:=zk
 m17:=zk
 m18:=zk
 m19:=by kernel_rfl }
open Go.RowKit Go.Sort Go.Lib in
def Tryz.strconv_FormatInt_10 (n:Int) (h0:-9223372036854775808<=n) (h1:n<=9223372036854775807) (w:Z) (abr:Lib.TabIs a9v w "internal/strconv.uint64pow10" .u64 Lib.pow10Tab) :
 Calls a9v 63 #[.int .i64 n,.int .i64 10] w fun e w'=>e = ah (.string ⟨(Lib.itoa n).toArray⟩)/\∃ k os,w'=grow (w.drewN k) os:=Any.strconv_FormatInt_10 Tryz.laysM173 n h0 h1 w abr
def Tryz.laysC172_ren:a1G:=⟨fun | 172=>100 | 244=>133 | 245=>134 | 247=>155 | 279=>156 | 280=>157 | 281=>158 | 282=>159 | 287=>172 | 316=>173 | 171=>64 | 205=>174 | 321=>180 | 322=>181 | 243=>93 | 246=>92 | 283=>118 | 284=>119 | 285=>120 | 286=>121 | 129=>144 | 317=>143 | 318=>145 | 319=>146 | 320=>147 | 337=>163 | 338=>164 | n=>n,fun | 9=>9 | 3=>3 | 75=>57 | 76=>136 | 4=>4 | 5=>5 | 167=>297 | 37=>98 | 0=>0 | 85=>276 | 2=>2 | 168=>298 | 53=>261 | 175=>307 | 46=>290 | 210=>311 | 127=>181 | 145=>325 | 143=>323 | 21=>21 | 171=>260 | 173=>264 | 212=>286 | 51=>287 | 20=>20 | 213=>288 | 232=>314 | 233=>315 | 80=>107 | n=>n,fun | 15=>6 | 16=>7 | 17=>4 | 18=>8 | 19=>9 | n=>n⟩
def Tryz.laysC172:Go.Proofs.LaysC.n172 a9v Tryz.laysC172_ren:={
 mixed:=zk
 f129:=Tryz.func144.trans (congrArg O zk)
 f171:=Tryz.func64.trans (congrArg O zk)
 f172:=Tryz.func100.trans (congrArg O zk)
 f205:=Tryz.func174.trans (congrArg O zk)
 f243:=Tryz.func93.trans (congrArg O zk)
 f244:=Tryz.func133.trans (congrArg O zk)
 f245:=Tryz.func134.trans (congrArg O zk)
 f246:=Tryz.func92.trans (congrArg O zk)
 f247:=Tryz.func155.trans (congrArg O zk)
 f279:=Tryz.func156.trans (congrArg O zk)
 f280:=Tryz.func157.trans (congrArg O zk)
 f281:=Tryz.func158.trans (congrArg O zk)
 f282:=Tryz.func159.trans (congrArg O zk)
 f283:=Tryz.func118.trans (congrArg O zk)
 f284:=Tryz.func119.trans (congrArg O zk)
 f285:=Tryz.func120.trans (congrArg O zk)
 f286:=Tryz.func121.trans (congrArg O zk)
 f287:=Tryz.func172.trans (congrArg O zk)
 f316:=Tryz.func173.trans (congrArg O zk)
 f317:=Tryz.func143.trans (congrArg O zk)
 f318:=Tryz.func145.trans (congrArg O zk)
 f319:=Tryz.func146.trans (congrArg O zk)
 f320:=Tryz.func147.trans (congrArg O zk)
 f321:=Tryz.func180.trans (congrArg O zk)
 f322:=Tryz.func181.trans (congrArg O zk)
 f337:=Tryz.func163.trans (congrArg O zk)
 f338:=Tryz.func164.trans (congrArg O zk)
 t0:=underlying0
 a0:=isAgg0
 z0:=sizeOf0
 v0:=zeroValue0
 t2:=underlying2
 a2:=isAgg2
 z2:=sizeOf2
 v2:=zeroValue2
 t3:=underlying3
 a3:=isAgg3
 z3:=sizeOf3
 v3:=zeroValue3
 t4:=underlying4
 a4:=isAgg4
 z4:=sizeOf4
 v4:=zeroValue4
 t5:=underlying5
 a5:=isAgg5
 z5:=sizeOf5
 v5:=zeroValue5
 t9:=underlying9
 a9:=isAgg9
 z9:=sizeOf9
 v9:=zeroValue9
 t20:=underlying20
 a20:=isAgg20
 z20:=sizeOf20
 v20:=zeroValue20
 t21:=underlying21
 a21:=isAgg21
 z21:=sizeOf21
 v21:=zeroValue21
 t37:=underlying98
 a37:=isAgg98
 z37:=sizeOf98
 v37:=zeroValue98
 t46:=underlying290
 a46:=isAgg290
 z46:=sizeOf290
 v46:=zeroValue290
 t51:=underlying287
 a51:=isAgg287
 z51:=sizeOf287
 v51:=zeroValue287
 t53:=underlying261
 a53:=isAgg261
 z53:=sizeOf261
 v53:=zeroValue261
 t75:=underlying57
 a75:=isAgg57
 z75:=sizeOf57
 v75:=zeroValue57
 t76:=underlying136
 a76:=isAgg136
 z76:=sizeOf136
 v76:=zeroValue136
 t85:=underlying276
 a85:=isAgg276
 z85:=sizeOf276
 v85:=zeroValue276
 t127:=underlying181
 a127:=isAgg181
 z127:=sizeOf181
 v127:=zeroValue181
 t143:=underlying323
 a143:=isAgg323
 z143:=sizeOf323
 v143:=zeroValue323
 t145:=underlying325
 a145:=isAgg325
 z145:=sizeOf325
 v145:=zeroValue325
 t167:=underlying297
 a167:=isAgg297
 z167:=sizeOf297
 v167:=zeroValue297
 t168:=underlying298
 a168:=isAgg298
 z168:=sizeOf298
 v168:=zeroValue298
 t171:=underlying260
 a171:=isAgg260
 z171:=sizeOf260
 v171:=zeroValue260
 t173:=underlying264
 a173:=isAgg264
 z173:=sizeOf264
 v173:=zeroValue264
 t175:=underlying307
 a175:=isAgg307
 z175:=sizeOf307
 v175:=zeroValue307
 t210:=underlying311
 a210:=isAgg311
 z210:=sizeOf311
 v210:=zeroValue311
 t212:=underlying286
 a212:=isAgg286
 z212:=sizeOf286
 v212:=zeroValue286
 t213:=underlying288
 a213:=isAgg288
 z213:=sizeOf288
 t232:=underlying314
 a232:=isAgg314
 z232:=sizeOf314
 v232:=zeroValue314
 t233:=underlying315
 a233:=isAgg315
 z233:=sizeOf315
 v233:=zeroValue315
 g15:=zk
 g16:=zk
 g17:=zk
 g18:=zk
 g19:=zk
 t80:=underlying107
 a80:=isAgg107
 z80:=sizeOf107
 v80:=zeroValue107
 i0:=zk
 i2:=zk
 i3:=zk
 i4:=zk
 i5:=zk
 i9:=zk
 i20:=zk
 i21:=zk
 i37:=zk
 i46:=zk
 i51:=zk
 i53:=zk
 i75:=zk
 i76:=zk
 i80:=zk
 i85:=zk
 i127:=zk
 i143:=zk
 i145:=zk
 i167:=zk
 i168:=zk
 i171:=zk
 i173:=zk
 i175:=zk
 i210:=zk
 i212:=zk
 i232:=zk
 i233:=zk
 m15:=zk
 m16:=zk
 m17:=zk
 m18:=zk
 m19:=zk
 c0:=zk
 c2:=zk
 c3:=zk
 c4:=zk
 c5:=zk
 c9:=zk
 c20:=zk
 c21:=zk
 c37:=zk
 c46:=zk
 c51:=zk
 c53:=zk
 c75:=zk
 c76:=zk
 c80:=zk
 c85:=zk
 c127:=zk
 c143:=zk
 c145:=zk
 c167:=zk
 c168:=zk
 c171:=zk
 c173:=zk
 c175:=zk
 c210:=zk
 c212:=zk
 c213:=zk
 c232:=zk
 c233:=by kernel_rfl }
open Go.RowKit in
def Tryz.strconv_Atoi_ok (s:ByteArray) (abt:s.size<=9223372036854775806) (v:Int) (h:a3F s.data.toList = .ok v) (w:Z) :
 Calls a9v 100 #[.string s] w fun e w'=>e = ah (ak #[.int .i64 v,ai])/\(w'=w\/∃ t,w'=Lib.bytesWorld w 5 t):=Any.strconv_Atoi_ok Tryz.laysC172 s abt v h w
open Go.RowKit in
def Tryz.strconv_Atoi_syntax (s:ByteArray) (Mo:s.size<=281474976710656) (h:a3F s.data.toList=a3F []) (ev:Y) (w:Z) (hv:w.cell? ⟨6,0,V⟩=O ev) (ED:ev = ai\/∃ te pe,ev = aj te pe) :
 Calls a9v 100 #[.string s] w fun e w'=>∃ N,e = ah (ak #[.int .i64 (0),aj 298 (aq (O ⟨N,0,V⟩))])/\w.heap.size<=N/\w'.heap[N]?=O (ae #[.string ⟨#[65,116,111,105]⟩,.string s,ev] 311 (0,0))/\Below w.heap.size w w':=Any.strconv_Atoi_syntax Tryz.laysC172 s Mo h ev w hv ED
open Go.RowKit in
def Tryz.strconv_Atoi_range (s:ByteArray) (Mo:s.size<=281474976710656) (h:a3F s.data.toList = .range) (ev:Y) (w:Z) (hv:w.cell? ⟨7,0,V⟩=O ev) (ED:ev = ai\/∃ te pe,ev = aj te pe) :
 Calls a9v 100 #[.string s] w fun e w'=>∃ N,e = ah (ak #[.int .i64 (Lib.atoiSat s.data.toList),aj 298 (aq (O ⟨N,0,V⟩))])/\w.heap.size<=N/\w'.heap[N]?=O (ae #[.string ⟨#[65,116,111,105]⟩,.string s,ev] 311 (0,0))/\Below w.heap.size w w':=Any.strconv_Atoi_range Tryz.laysC172 s Mo h ev w hv ED
def Tryz.laysC174_ren:a1G:=⟨fun | 174=>135 | 247=>155 | 245=>134 | 287=>172 | 279=>156 | 280=>157 | 281=>158 | 282=>159 | 321=>180 | 322=>181 | 316=>173 | 171=>64 | 205=>174 | 243=>93 | 246=>92 | 283=>118 | 284=>119 | 285=>120 | 286=>121 | 129=>144 | 317=>143 | 318=>145 | 319=>146 | 320=>147 | 337=>163 | 338=>164 | n=>n,fun | 9=>9 | 3=>3 | 2=>2 | 75=>57 | 85=>276 | 4=>4 | 167=>297 | 5=>5 | 53=>261 | 175=>307 | 46=>290 | 168=>298 | 37=>98 | 0=>0 | 210=>311 | 21=>21 | 127=>181 | 145=>325 | 143=>323 | 171=>260 | 173=>264 | 212=>286 | 51=>287 | 20=>20 | 213=>288 | 232=>314 | 233=>315 | 80=>107 | n=>n,fun | 15=>6 | 16=>7 | 17=>4 | 18=>8 | 19=>9 | n=>n⟩
def Tryz.laysC174:Go.Proofs.LaysC.n174 a9v Tryz.laysC174_ren:={
 mixed:=zk
 f129:=Tryz.func144.trans (congrArg O zk)
 f171:=Tryz.func64.trans (congrArg O zk)
 f174:=Tryz.func135.trans (congrArg O zk)
 f205:=Tryz.func174.trans (congrArg O zk)
 f243:=Tryz.func93.trans (congrArg O zk)
 f245:=Tryz.func134.trans (congrArg O zk)
 f246:=Tryz.func92.trans (congrArg O zk)
 f247:=Tryz.func155.trans (congrArg O zk)
 f279:=Tryz.func156.trans (congrArg O zk)
 f280:=Tryz.func157.trans (congrArg O zk)
 f281:=Tryz.func158.trans (congrArg O zk)
 f282:=Tryz.func159.trans (congrArg O zk)
 f283:=Tryz.func118.trans (congrArg O zk)
 f284:=Tryz.func119.trans (congrArg O zk)
 f285:=Tryz.func120.trans (congrArg O zk)
 f286:=Tryz.func121.trans (congrArg O zk)
 f287:=Tryz.func172.trans (congrArg O zk)
 f316:=Tryz.func173.trans (congrArg O zk)
 f317:=Tryz.func143.trans (congrArg O zk)
 f318:=Tryz.func145.trans (congrArg O zk)
 f319:=Tryz.func146.trans (congrArg O zk)
 f320:=Tryz.func147.trans (congrArg O zk)
 f321:=Tryz.func180.trans (congrArg O zk)
 f322:=Tryz.func181.trans (congrArg O zk)
 f337:=Tryz.func163.trans (congrArg O zk)
 f338:=Tryz.func164.trans (congrArg O zk)
 t0:=underlying0
 a0:=isAgg0
 z0:=sizeOf0
 v0:=zeroValue0
 t2:=underlying2
 a2:=isAgg2
 z2:=sizeOf2
 v2:=zeroValue2
 t3:=underlying3
 a3:=isAgg3
 z3:=sizeOf3
 v3:=zeroValue3
 t4:=underlying4
 a4:=isAgg4
 z4:=sizeOf4
 v4:=zeroValue4
 t5:=underlying5
 a5:=isAgg5
 z5:=sizeOf5
 v5:=zeroValue5
 t9:=underlying9
 a9:=isAgg9
 z9:=sizeOf9
 v9:=zeroValue9
 t20:=underlying20
 a20:=isAgg20
 z20:=sizeOf20
 v20:=zeroValue20
 t21:=underlying21
 a21:=isAgg21
 z21:=sizeOf21
 v21:=zeroValue21
 t37:=underlying98
 a37:=isAgg98
 z37:=sizeOf98
 v37:=zeroValue98
 t46:=underlying290
 a46:=isAgg290
 z46:=sizeOf290
 v46:=zeroValue290
 t51:=underlying287
 a51:=isAgg287
 z51:=sizeOf287
 v51:=zeroValue287
 t53:=underlying261
 a53:=isAgg261
 z53:=sizeOf261
 v53:=zeroValue261
 t75:=underlying57
 a75:=isAgg57
 z75:=sizeOf57
 v75:=zeroValue57
 t85:=underlying276
 a85:=isAgg276
 z85:=sizeOf276
 v85:=zeroValue276
 t127:=underlying181
 a127:=isAgg181
 z127:=sizeOf181
 v127:=zeroValue181
 t143:=underlying323
 a143:=isAgg323
 z143:=sizeOf323
 v143:=zeroValue323
 t145:=underlying325
 a145:=isAgg325
 z145:=sizeOf325
 v145:=zeroValue325
 t167:=underlying297
 a167:=isAgg297
 z167:=sizeOf297
 v167:=zeroValue297
 t168:=underlying298
 a168:=isAgg298
 z168:=sizeOf298
 v168:=zeroValue298
 t171:=underlying260
 a171:=isAgg260
 z171:=sizeOf260
 v171:=zeroValue260
 t173:=underlying264
 a173:=isAgg264
 z173:=sizeOf264
 v173:=zeroValue264
 t175:=underlying307
 a175:=isAgg307
 z175:=sizeOf307
 v175:=zeroValue307
 t210:=underlying311
 a210:=isAgg311
 z210:=sizeOf311
 v210:=zeroValue311
 t212:=underlying286
 a212:=isAgg286
 z212:=sizeOf286
 v212:=zeroValue286
 t213:=underlying288
 a213:=isAgg288
 z213:=sizeOf288
 t232:=underlying314
 a232:=isAgg314
 z232:=sizeOf314
 v232:=zeroValue314
 t233:=underlying315
 a233:=isAgg315
 z233:=sizeOf315
 v233:=zeroValue315
 g15:=zk
 g16:=zk
 g17:=zk
 g18:=zk
 g19:=zk
 t80:=underlying107
 a80:=isAgg107
 z80:=sizeOf107
 v80:=zeroValue107
 i0:=zk
 i2:=zk
 i3:=zk
 i4:=zk
 i5:=zk
 i9:=zk
 i20:=zk
 i21:=zk
 i37:=zk
 i46:=zk
 i51:=zk
 i53:=zk
 i75:=zk
 i80:=zk
 i85:=zk
 i127:=zk
 i143:=zk
 i145:=zk
 i167:=zk
 i168:=zk
 i171:=zk
 i173:=zk
 i175:=zk
 i210:=zk
 i212:=zk
 i232:=zk
 i233:=zk
 m15:=zk
 m16:=zk
 m17:=zk
 m18:=zk
 m19:=zk
 c0:=zk
 c2:=zk
 c3:=zk
 c4:=zk
 c5:=zk
 c9:=zk
 c20:=zk
 c21:=zk
 c37:=zk
 c46:=zk
 c51:=zk
 c53:=zk
 c75:=zk
 c80:=zk
 c85:=zk
 c127:=zk
 c143:=zk
 c145:=zk
 c167:=zk
 c168:=zk
 c171:=zk
 c173:=zk
 c175:=zk
 c210:=zk
 c212:=zk
 c213:=zk
 c232:=zk
 c233:=by kernel_rfl }
open Go.RowKit in
def Tryz.strconv_ParseInt_10_at64_ok (s:ByteArray) (abt:s.size<=9223372036854775806) (v:Int) (h:a4B 64 s.data.toList = .ok v) (w:Z) :
 Calls a9v 135 #[.string s,.int .i64 10,.int .i64 64] w fun e w'=>e = ah (ak #[.int .i64 v,ai])/\(w'=w\/∃ t,w'=Lib.bytesWorld w 5 t):=Any.strconv_ParseInt_10_at64_ok Tryz.laysC174 s abt v h w
open Go.RowKit in
def Tryz.strconv_ParseInt_10_at64_syntax (s:ByteArray) (Mo:s.size<=281474976710656) (h:a4B 64 s.data.toList=a3F []) (ev:Y) (w:Z) (hv:w.cell? ⟨6,0,V⟩=O ev) (ED:ev = ai\/∃ te pe,ev = aj te pe) :
 Calls a9v 135 #[.string s,.int .i64 10,.int .i64 64] w fun e w'=>∃ N,e = ah (ak #[.int .i64 (0),aj 298 (aq (O ⟨N,0,V⟩))])/\w.heap.size<=N/\w'.heap[N]?=O (ae #[.string ⟨#[80,97,114,115,101,73,110,116]⟩,.string s,ev] 311 (0,0))/\Below w.heap.size w w':=Any.strconv_ParseInt_10_at64_syntax Tryz.laysC174 s Mo h ev w hv ED
open Go.RowKit in
def Tryz.strconv_ParseInt_10_at64_range (s:ByteArray) (Mo:s.size<=281474976710656) (h:a4B 64 s.data.toList = .range) (ev:Y) (w:Z) (hv:w.cell? ⟨7,0,V⟩=O ev) (ED:ev = ai\/∃ te pe,ev = aj te pe) :
 Calls a9v 135 #[.string s,.int .i64 10,.int .i64 64] w fun e w'=>∃ N,e = ah (ak #[.int .i64 (Lib.intSat 64 s.data.toList),aj 298 (aq (O ⟨N,0,V⟩))])/\w.heap.size<=N/\w'.heap[N]?=O (ae #[.string ⟨#[80,97,114,115,101,73,110,116]⟩,.string s,ev] 311 (0,0))/\Below w.heap.size w w':=Any.strconv_ParseInt_10_at64_range Tryz.laysC174 s Mo h ev w hv ED
def Tryz.lays99_ren:a1G:=⟨fun | 99=>113 | 206=>140 | n=>n,fun | 9=>9 | 4=>4 | 3=>3 | n=>n,fun | n=>n⟩
def Tryz.lays99:Go.Proofs.Lays.n99 a9v Tryz.lays99_ren:={
 mixed:=zk
 f99:=Tryz.func113.trans (congrArg O zk)
 f206:=Tryz.func140.trans (congrArg O zk)
 t3:=underlying3
 a3:=isAgg3
 z3:=sizeOf3
 v3:=zeroValue3
 t4:=underlying4
 a4:=isAgg4
 z4:=sizeOf4
 v4:=zeroValue4
 t9:=underlying9
 a9:=isAgg9
 z9:=sizeOf9
 v9:=zeroValue9 }
open Go.RowKit Go.Lib in
def Tryz.strings_HasPrefix (s p:ByteArray) (w:Z) :
 Calls a9v 113 #[.string s,.string p] w fun e w'=>e = ah (.bool (Lib.hasPrefix s.data.toList p.data.toList))/\w'=w:=Any.strings_HasPrefix Tryz.lays99 s p w
def Tryz.lays221_ren:a1G:=⟨fun | 221=>97 | 268=>122 | 138=>123 | 143=>124 | 195=>148 | 197=>149 | 218=>150 | 219=>151 | 260=>165 | 217=>166 | 225=>167 | 224=>168 | 267=>169 | 266=>176 | 314=>177 | n=>n,fun | 9=>9 | 3=>3 | 31=>39 | 4=>4 | 0=>0 | 105=>292 | 21=>21 | 5=>5 | 46=>290 | 119=>316 | 139=>319 | 138=>318 | 146=>320 | 51=>287 | n=>n,fun | 1=>5 | 3=>10 | 4=>11 | n=>n⟩
def Tryz.lays221:Go.Proofs.Lays.n221 a9v Tryz.lays221_ren:={
 mixed:=zk
 f138:=Tryz.func123.trans (congrArg O zk)
 f143:=Tryz.func124.trans (congrArg O zk)
 f195:=Tryz.func148.trans (congrArg O zk)
 f197:=Tryz.func149.trans (congrArg O zk)
 f217:=Tryz.func166.trans (congrArg O zk)
 f218:=Tryz.func150.trans (congrArg O zk)
 f219:=Tryz.func151.trans (congrArg O zk)
 f221:=Tryz.func97.trans (congrArg O zk)
 f224:=Tryz.func168.trans (congrArg O zk)
 f225:=Tryz.func167.trans (congrArg O zk)
 f260:=Tryz.func165.trans (congrArg O zk)
 f266:=Tryz.func176.trans (congrArg O zk)
 f267:=Tryz.func169.trans (congrArg O zk)
 f268:=Tryz.func122.trans (congrArg O zk)
 f314:=Tryz.func177.trans (congrArg O zk)
 t0:=underlying0
 a0:=isAgg0
 z0:=sizeOf0
 v0:=zeroValue0
 t3:=underlying3
 a3:=isAgg3
 z3:=sizeOf3
 v3:=zeroValue3
 t4:=underlying4
 a4:=isAgg4
 z4:=sizeOf4
 v4:=zeroValue4
 t5:=underlying5
 a5:=isAgg5
 z5:=sizeOf5
 v5:=zeroValue5
 t9:=underlying9
 a9:=isAgg9
 z9:=sizeOf9
 v9:=zeroValue9
 t21:=underlying21
 a21:=isAgg21
 z21:=sizeOf21
 v21:=zeroValue21
 t31:=underlying39
 a31:=isAgg39
 z31:=sizeOf39
 v31:=zeroValue39
 t46:=underlying290
 a46:=isAgg290
 z46:=sizeOf290
 v46:=zeroValue290
 t51:=underlying287
 a51:=isAgg287
 z51:=sizeOf287
 v51:=zeroValue287
 t105:=underlying292
 a105:=isAgg292
 z105:=sizeOf292
 v105:=zeroValue292
 t119:=underlying316
 a119:=isAgg316
 z119:=sizeOf316
 t138:=underlying318
 a138:=isAgg318
 z138:=sizeOf318
 v138:=zeroValue318
 t139:=underlying319
 a139:=isAgg319
 z139:=sizeOf319
 v139:=zeroValue319
 t146:=underlying320
 a146:=isAgg320
 z146:=sizeOf320
 v146:=zeroValue320
 g1:=zk
 g3:=zk
 g4:=by kernel_rfl }
open Go.RowKit Go.Lib in
def Tryz.strings_genSplit (s sep:ByteArray) (sv:Nat) (n:Int) (N:Nat) (m:Int) (w:Z) (hs:s.size<4294967281) (hm:w.cell? ⟨5,0,V⟩=O (.int .i64 m)) (h1:1<=sep.size) (Dk:sv<=sep.size) (R3:n≠0) (aB5:n<=9223372036854775807) (hN:(N:Int)=min (if n<0 then(a4L s sep:Int)+1 else n) ((s.size:Int)+1)) :
 Calls a9v 97 #[.string s,.string sep,.int .i64 sv,.int .i64 n] w fun e w'=>
  e = ah (.slice (O ⟨w.heap.size,0,V⟩) (Lib.splitB sep sv (N-1) s).length N)/\w'=w.alloc (ae (Lib.cellsOf (Lib.splitB sep sv (N-1) s) N) 9):=Any.strings_genSplit Tryz.lays221 zk s sep sv n N m w hs hm h1 Dk R3 aB5 hN
def Tryz.lays146_ren:a1G:=⟨fun | 146=>69 | 221=>97 | 268=>122 | 138=>123 | 143=>124 | 195=>148 | 197=>149 | 218=>150 | 219=>151 | 260=>165 | 217=>166 | 225=>167 | 224=>168 | 267=>169 | 266=>176 | 314=>177 | n=>n,fun | 9=>9 | 31=>39 | 3=>3 | 4=>4 | 0=>0 | 105=>292 | 21=>21 | 5=>5 | 46=>290 | 119=>316 | 139=>319 | 138=>318 | 146=>320 | 51=>287 | n=>n,fun | 1=>5 | 3=>10 | 4=>11 | n=>n⟩
def Tryz.lays146:Go.Proofs.Lays.n146 a9v Tryz.lays146_ren:={
 mixed:=zk
 f138:=Tryz.func123.trans (congrArg O zk)
 f143:=Tryz.func124.trans (congrArg O zk)
 f146:=Tryz.func69.trans (congrArg O zk)
 f195:=Tryz.func148.trans (congrArg O zk)
 f197:=Tryz.func149.trans (congrArg O zk)
 f217:=Tryz.func166.trans (congrArg O zk)
 f218:=Tryz.func150.trans (congrArg O zk)
 f219:=Tryz.func151.trans (congrArg O zk)
 f221:=Tryz.func97.trans (congrArg O zk)
 f224:=Tryz.func168.trans (congrArg O zk)
 f225:=Tryz.func167.trans (congrArg O zk)
 f260:=Tryz.func165.trans (congrArg O zk)
 f266:=Tryz.func176.trans (congrArg O zk)
 f267:=Tryz.func169.trans (congrArg O zk)
 f268:=Tryz.func122.trans (congrArg O zk)
 f314:=Tryz.func177.trans (congrArg O zk)
 t0:=underlying0
 a0:=isAgg0
 z0:=sizeOf0
 v0:=zeroValue0
 t3:=underlying3
 a3:=isAgg3
 z3:=sizeOf3
 v3:=zeroValue3
 t4:=underlying4
 a4:=isAgg4
 z4:=sizeOf4
 v4:=zeroValue4
 t5:=underlying5
 a5:=isAgg5
 z5:=sizeOf5
 v5:=zeroValue5
 t9:=underlying9
 a9:=isAgg9
 z9:=sizeOf9
 v9:=zeroValue9
 t21:=underlying21
 a21:=isAgg21
 z21:=sizeOf21
 v21:=zeroValue21
 t31:=underlying39
 a31:=isAgg39
 z31:=sizeOf39
 v31:=zeroValue39
 t46:=underlying290
 a46:=isAgg290
 z46:=sizeOf290
 v46:=zeroValue290
 t51:=underlying287
 a51:=isAgg287
 z51:=sizeOf287
 v51:=zeroValue287
 t105:=underlying292
 a105:=isAgg292
 z105:=sizeOf292
 v105:=zeroValue292
 t119:=underlying316
 a119:=isAgg316
 z119:=sizeOf316
 t138:=underlying318
 a138:=isAgg318
 z138:=sizeOf318
 v138:=zeroValue318
 t139:=underlying319
 a139:=isAgg319
 z139:=sizeOf319
 v139:=zeroValue319
 t146:=underlying320
 a146:=isAgg320
 z146:=sizeOf320
 v146:=zeroValue320
 g1:=zk
 g3:=zk
 g4:=by kernel_rfl }
open Go.RowKit Go.Lib in
def Tryz.strings_Split (s sep:ByteArray) (m:Int) (w:Z) (hs:s.size<4294967281) (hm:w.cell? ⟨5,0,V⟩=O (.int .i64 m)) (h1:1<=sep.size) :
 Calls a9v 69 #[.string s,.string sep] w fun e w'=>
  e = ah (.slice (O ⟨w.heap.size,0,V⟩) (a4L s sep+1) (a4L s sep+1))/\w'=w.alloc (ae ((Lib.splitB sep 0 (a4L s sep) s).map aZ1).toArray 9):=Any.strings_Split Tryz.lays146 zk s sep m w hs hm h1
end Go.Proofs
namespace Go.Proofs.YtoegidfbnkaabaaGreatDoor
open P
open Go.RowKit
variable{w w':Z}
theorem akn:∀ (l:Bs) (acc:Nat),l.all P.digit=A->l.length<=9->acc<10 ^ (9-l.length) ->
  a3G (2 ^ 64-1) acc l = .ok (l.foldl (fun v c=>10*v+(c.toNat-48)) acc)
 | [],acc,_,_,_=>by simp [a3G]
 | c::r,acc,h,a,b=>by
  simp only[a04,aZ3,P.digit,decide_eq_true_eq] at h;simp only[List.length_cons] at a b;have d:10 ^ (9-(r.length+1))<=10 ^ 8:=a4e zo zo;have e:10*10 ^ (9-(r.length+1))=10 ^ (9-r.length):=by
   rw[<- Nat.pow_succ'];grind
  rw[a3G,zip h.1,bZ zo,bZ (by
   omega)]
  rw[akn r (acc*10+(c.toNat-48)) h.2 zo zo];grind
def ako:∀ (l:Bs) (acc:Nat),l.all P.digit=A->l.foldl (fun(v:Int) c=>10*v+((c.toNat:Int)-48)) (acc:Int)=((l.foldl (fun v c=>10*v+(c.toNat-48)) acc:Nat):Int)
 | [],acc,_=>rfl
 | c::r,acc,h=>by
  simp only[a04,aZ3,P.digit,decide_eq_true_eq] at h;simp only[List.foldl_cons];rw[<- ako r _ h.2];grind
def akp:∀ (l:Bs) (acc n:Nat),l.all P.digit=A->l.length<=n->n<=9->acc<10 ^ (9-n)->l.foldl (fun v c=>10*v+(c.toNat-48)) acc<10 ^ 9
 | [],acc,n,_,_,a,b=>by
  have:10 ^ (9-n)<=10 ^ 9:=a4e zo zo;grind
 | c::r,acc,n,h,d,a,b=>by
  simp only[a04,aZ3,P.digit,decide_eq_true_eq] at h;simp only[List.length_cons] at d;simp only[List.foldl_cons];have e:10*10 ^ (9-n)=10 ^ (9-(n-1)):=by
   rw[<- Nat.pow_succ'];grind
  exact akp r _ (n-1) h.2 zo zo zo
def aB6{l:Bs}(b:l≠[])(h:l.all P.digit=A)(a:l.length<=9):Go.Lib.parseIntB 64 l = .ok (P.num l):=by
 obtain⟨c,r,rfl⟩:∃ c r,l=c::r:=by
  cases l with
  | nil=>grind
  | cons c r=>grind
 have d:48<=c.toNat/\c.toNat<=57:=by
  simp only[a04,aZ3,P.digit,decide_eq_true_eq] at h;omega
 have hu:Go.Lib.parseUintB 64 (c::r) = .ok ((c::r).foldl (fun v c=>10*v+(c.toNat-48)) 0):=by
  rw[Go.Lib.parseUintB,bZ zs];grind [akn,Nat.pow_pos]
 have hlt:=akp (c::r) 0 9 h a zo zo;rw[Go.Lib.parseIntB];simp only[show ¬ (c.toNat=43\/c.toNat=45) from by omega,if_false,hu];rw[bZ (by simp only[show(64:Nat)-1=63 from rfl];omega),bZ zo];rw[bZ zo]
 congr 1
 exact(ako (c::r) 0 h).symm
def aB7(h:Ext w w'){a:Addr}(e:w.heap.size<=a.block)(n:Nat):Ext w (w'.freeze a n):=by
 unfold World.freeze;split
 .omega
 .refine⟨h.os,h.tape,h.output,by simpa using h.size,fun b o c d=>?_⟩;have:=bg c;show(w'.heap.modify a.block _)[b]?=O o;rw[Array.getElem?_modify,bZ zo];exact h.block b o c d
theorem abu(w:Z)(e:TypeId)(s:ByteArray):Ext w (Go.Lib.bytesWorld w e s):=by
 unfold Go.Lib.bytesWorld;exact aB7 (((bB.refl _ _).drew).alloc _) (Nat.le_refl _) _
def aB8:VI:=by
 refine⟨fun{w} s a h b=>?_⟩;refine(Tryz.strconv_ParseInt_10_at64_ok (bs s) ?_ (P.num s) (aB6 a h b) w).mono ?_
 .show s.toArray.size<=_;grind
 .rintro e w' ⟨rfl,rfl | ⟨t,rfl⟩⟩
  .exact⟨J,bB.refl _ _⟩
  .exact⟨J,abu _ _ _⟩
def abv:∀ f:Nat,∀ m,m<=f->RL m/\OC m/\RM m/\LZ m
 | 0,m,h=>by
  obtain rfl:m=0:=zo;exact⟨aBL,aA7,ajY,aA2⟩
 | f+1,m,h=>by
  have ih:=abv f;rcases Nat.lt_or_ge m (f+1) with hm | hm
  .grind
  .obtain rfl:m=f+1:=zo;have a:∀ j,j<f+1->Ho j:=(by grind [ajx]);have b:=ih f (Nat.le_refl f);exact⟨aBM b.2.1 zg b.2.2.1 aB4 aB8,aA8 a,aBr a,(by grind [aA3])⟩
def akq(f:Nat):Ho f:=ajx (abv f f zo).2.2.2
def aB9(f:Nat):OC f:=(abv f f zo).2.1
