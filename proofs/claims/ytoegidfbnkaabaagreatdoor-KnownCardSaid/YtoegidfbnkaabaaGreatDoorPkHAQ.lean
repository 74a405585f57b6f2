/- A part of one proof (PW3, PW4, ShX1, KS1, GBase3, KS2, KS3, PW5). -/
import Derived.Test.YtoegidfbnkaabaaGreatDoorPkHAP
import Derived.Shelf.Strconv.Itoa4
import Derived.Lib.ItoaLen
set_option linter.all false
set_option maxRecDepth 100000
set_option maxHeartbeats 8000000
open Option renaming some → O, none → V
open Go renaming Value → Y, World → Z
open Bool renaming true → A, false → G
open Go.Obj renaming cells → ae
open Go.Ending renaming returned → ah
open Go.Value renaming nilIface → ai, iface → aj, tuple → ak, pointer → aq
open Option.some renaming injEq → aZ9, inj → a0g
open List renaming mem_cons → a0n, nil_append → a1d, take_append_drop → a2c
open Go.Value renaming ownBlock → a0T
open Go.Lib renaming decDigits → a47
open Go.Proofs.Tryz renaming prog → a94
open Go.Proofs.Tryz
namespace Go.Proofs.YtoegidfbnkaabaaGreatDoor
open P
open Go.RowKit Sx
variable{B B' b base c cap e f g i k m n pb so wb:Nat}{D:Nat->Prop}{K:Y->Prop}{S buf tv u v z:Y}{X:Y->Z->Prop}{cs:Array Y}{es:Array MapEntry}{out:Bs}{t:Tm}{tr:Tr}{w w' w1:Z}{xs:List Y}{ρ:Nat->Nat}
def gsi{cs:Array Y}{i:Nat}{v:Y}(h:i<cs.size):(cs.setIfInBounds i v)[i]?=O v:=zg
def ssz:(cs.setIfInBounds i v).size=cs.size:=zs
def sss:(cs.setIfInBounds i v).setIfInBounds i u=cs.setIfInBounds i u:=zs
abbrev M0:Ending:=.panicked [{ v:=aj 134 (.agg #[]),recovered:=false }]
abbrev ky(cs:Array Y)(so:Nat)(z:Int):Array Y:=cs.setIfInBounds (so+1) (zi z)
def ann{T:Nat}{z:Int}(a:w.heap[pb]?=aN (ky cs so z) T)(d:so+2<=cs.size)(f:0<=z/\z<=1000000000) :
  Calls a94 61 #[pq pb so] w fun e w'=>
   e=(if z=0 then M0 else ah (ak #[]))/\w'=bO w pb (ae (ky cs so (z-1)) T (0,0)):=by
 have l:=bf a;have b:(ky cs so z)[so+1]?=O (zi z):=zg;have g:(ky cs so z).size=cs.size:=ssz;refine aIQ ?_;by_cases h:z=0
 .have c:z-1<0:=zo;refine dC a b @gsi (zA @ssz @sss) ?_;grind
 .have c:¬ z-1<0:=zo;refine dC a b @gsi (zA @ssz @sss) ?_;grind
def ano(name:Bs)(n:Nat)(w:Z):Calls a94 94 #[aM name,zi n] w fun e w'=>e = ah (zi (kr name n))/\w'=w:=by
 refine aIS ?_;unfold kr;by_cases h:n=2
 .subst h;have e0:((2:Nat):Int)=2:=rfl;refine cG @e0 ?_;refine⟨fun x w'=>w'=w/\x 8 = .bool (decide (name=[43]\/name=[45])),?_,?_⟩
  .by_cases b:name=[43]
   .refine cG b ?_;grind
   .refine cG b ?_;grind
  .rintro x w' ⟨rfl,hx⟩ d;rw[hx];by_cases b:name=[43]\/name=[45]
   .rw[FU _ _ b];grind
   .rw[FV _ _ b];refine⟨fun x c=>c=w'/\x 15 = .bool (decide (name=[42]\/name=[47,47]\/name=[109,111,100])),?_,?_⟩
    .by_cases a:name=[42]
     .refine cG a ?_;grind
     .by_cases f:name=[47,47]
      .refine dy a f ?_;grind
      .refine dy a f ?_;grind
    .rintro x c ⟨rfl,hx⟩ d;rw[hx];by_cases a:name=[42]\/name=[47,47]\/name=[109,111,100]
     .rw[FU _ _ a];grind
     .rw[FV _ _ a];grind
 .have g:¬ (n:Int)=2:=zo;refine bD ?_;grind
def kJ(w:Z):Prop:=Lib.TabIs a94 w "internal/strconv.uint64pow10" .u64 Lib.pow10Tab
def Xe:Tryz.prog.globalNamed "internal/strconv.uint64pow10" = O 4:=zk
theorem kJ.bI(h:kJ w)(hw:∀ o,w.heap[4]?=O o->w'.heap[4]?=O o):kJ w':=by
 unfold kJ Lib.TabIs World.var? at h ⊢;rw[Xe] at h ⊢;simp only[Option.bind_some] at h ⊢;cases a:w.heap[4]? with
 | none=>rw[a] at h;cases h
 | some o=>rw[hw o a];rw[a] at h;exact h
theorem kJ.ext{w w':Z}(h:kJ w)(a:Ext w w'):kJ w':=(by grind [bI,bz.ext])
def anp:∀ (f n:Nat),n<f->A9 f n=a47 n
 | 0,n,h=>zo
 | f+1,n,h=>by
  rw[A9,a47];split
  .rfl
  .rw[anp f (n / 10) zo]
theorem Kt(n:Nat):gj n=a47 n:=anp _ _ zo
theorem adp(n:Int):kV n=Lib.itoa n:=by
 grind [kV,Lib.itoa,Kt]
def anq{os:Array Obj}(h:w'=Go.Sort.grow (w.drewN k) os):Ext w w':=by
 subst h;refine⟨J,J,J,?_,fun b o a _=>?_⟩
 .simp [Go.Sort.grow,World.drewN]
 .have:=bf a;show(w.heap++os)[b]?=O o;exact yH
def anr(n:Int)(a:-9223372036854775808<=n)(b:n<=9223372036854775807)(w:Z)(ht:kJ w) :
  Calls a94 63 #[zi n,zi 10] w fun e w'=>e = ah (aM (kV n))/\Ext w w':=by
 refine(Tryz.strconv_FormatInt_10 n a b w ht).mono ?_;rintro e w' ⟨rfl,k,os,h⟩;rw[adp];exact⟨J,anq h⟩
def Ku(n:Int)(a:-9223372036854775808<=n)(b:n<=9223372036854775807)(w:Z)(ht:kJ w) :
  Calls a94 64 #[zi n] w fun e w'=>e = ah (aM (kV n))/\Ext w w':=by
 refine(Tryz.strconv_Itoa n a b w ht).mono ?_;rintro e w' ⟨rfl,k,os,h⟩;rw[adp];exact⟨J,anq h⟩
def ant(n:Int)(a:-9223372036854775808<=n)(b:n<=9223372036854775807):(kV n).length<=21:=by
 grind [adp,Lib.itoa_length_le]
def Av(ρ:Nat->Nat)(seen:List Nat)(k:Nat):List (Nat×Y):=match seen with
 | []=>[]
 | i::r=>(ρ i,.int .i64 ((k+1:Nat)))::Av ρ r (k+1)
def NmA(ρ:Nat->Nat)(w:Z)(wb:Nat)(nm:Y)(seen:List Nat):Prop:=
 (seen=[]/\nm = .map V)\/∃ r c es,nm = .map (O r)/\wb<r/\w.heap[r]?=O (.map es c)/\EA (Av ρ seen 0) es.toList
structure lI(ρ:Nat->Nat)(n:Nat)(tr:Tr)(wb sb so T:Nat)(cs:Array Y)(nm:Y)(w:Z)(s:Ws):Prop where
 st:Ck ρ n tr w
 bu:su w wb (pq sb so) nm s.out
 na:NmA ρ w wb nm s.seen
 fu:w.heap[sb]?=aN (ky cs so s.fuel) T
 Xf:kJ w
 sn:∀ i∈s.seen,i<n
def GL(ρ:Nat->Nat)(n:Nat)(tr:Tr)(wb sb so T:Nat)(cs:Array Y)(w:Z)(s:Ws):Prop:=∃ nm,lI ρ n tr wb sb so T cs nm w s
structure wS(tr:Tr)(wb sb so T:Nat)(cs:Array Y):Prop where
 tok:mH tr
 sz:so+2<=cs.size
 ne:sb≠wb
 g1:4<wb
 g2:sb≠4
 T1:T≠5
 T2:T≠180/\T≠89/\T≠91
def MW(wb sb b:Nat)(o:Obj):Prop:=b=wb\/b=sb\/(wb<b/\((∃ cs z,o = ae cs 5 z)\/∃ es c,o = .map es c))
abbrev ml(wb sb:Nat)(w w':Z):Prop:=bz (MW wb sb) w w'
theorem jH.toW(h:jH wb w w')(sb:Nat):ml wb sb w w':=h.mono fun b o _ hm=>by
 rcases hm with h | ⟨h,a⟩
 .exact .inl h
 .exact .inr zg
section
variable{ρ:Nat->Nat}{n:Nat}{tr:Tr}{wb sb so T:Nat}{cs:Array Y}{nm:Y}{w w':Z}{s:Ws}
theorem lI.kv(h:lI ρ n tr wb sb so T cs nm w s)(hx:wS tr wb sb so T cs)(d:ml wb sb w w'):GI w w':=fun b c t ht a=>by
 refine d.block b _ a ?_;obtain⟨e,buf,-,hw,-⟩:=h.bu;rintro (rfl | rfl | ⟨_,⟨_,_,h⟩| ⟨_,_,h⟩⟩)
 .grind
 .rw[h.fu] at a;cases a;rcases ht with ht | ht | ht
  .exact hx.T2.1 ht
  .exact hx.T2.2.1 ht
  .exact hx.T2.2.2 ht
 .grind
 grind
def lI.Xh(h:lI ρ n tr wb sb so T cs nm w s)(hx:wS tr wb sb so T cs)(a:ml wb sb w w'):kJ w':=h.Xf.bI fun o b=>by
 refine a.block _ _ b ?_;have:=hx.g1;rintro (h | h | ⟨h,_⟩)
 .omega
 .exact hx.g2 h.symm
 omega
theorem lI.wr(h:lI ρ n tr wb sb so T cs nm w s)(hx:wS tr wb sb so T cs){x:Bs}(b:su w' wb (pq sb so) nm (s.out++x))(a:jH wb w w'):lI ρ n tr wb sb so T cs nm w' (s.add x):=by
 refine⟨h.st.bI (by grind [kv,jH.toW]),b,?_,?_,h.Xh hx (a.toW sb),h.sn⟩
 .rcases h.na with h | ⟨r,c,es,d,e,f,g⟩
  .exact .inl h
  .exact .inr ⟨r,c,es,d,e,a.block _ _ f (by
    rintro (h | ⟨_,_,_,h⟩)<;>grind),g⟩
 .refine a.block _ _ h.fu ?_;rintro (h | ⟨_,_,_,h⟩)
  .exact hx.ne h
  .injection h with _ h _;exact hx.T1 h
def GN(h:lI ρ n tr wb sb so T cs nm w s)(hx:wS tr wb sb so T cs)(x:Bs)(a:s.out.length+x.length<=1000000000) :
  Calls a94 44 #[pp wb,aM x] w fun e w'=>(∃ v,e = ah v)/\lI ρ n tr wb sb so T cs nm w' (s.add x)/\ml wb sb w w':=by
 refine(aIM h.bu x a).mono ?_;grind [lI.wr,jH.toW]
def M1(h:lI ρ n tr wb sb so T cs nm w s)(hx:wS tr wb sb so T cs)(c:UInt8)(a:s.out.length+1<=1000000000){z:Int}(b:z=c.toNat) :
  Calls a94 95 #[pp wb,.int .u8 z] w fun e w'=>(∃ v,e = ah v)/\lI ρ n tr wb sb so T cs nm w' (s.add [c])/\ml wb sb w w':=by
 subst b;refine(aIN h.bu c a).mono ?_;grind [lI.wr,jH.toW]
theorem lI.ext(h:lI ρ n tr wb sb so T cs nm w s)(a:Ext w w'):lI ρ n tr wb sb so T cs nm w' s:=by
 refine⟨h.st.bI (GI.ea a),?_,?_,a.ext _ _ h.fu,h.Xf.ext a,h.sn⟩
 .obtain⟨f,buf,b,d,e⟩:=h.bu;exact⟨f,buf,b,a.ext _ _ d,jM a.ext e⟩
 .rcases h.na with h | ⟨r,c,es,b,d,e,g⟩
  .exact .inl h
  .exact .inr ⟨r,c,es,b,d,a.ext _ _ e,g⟩
theorem su.other{c:Array Y}(h:su w wb S nm out)(j:sb≠wb)(k:w.heap[sb]?=aN c T)(l:T≠5)(o:Obj):su (bO w sb o) wb S nm out:=by
 obtain⟨b,buf,d,m,a⟩:=h;refine⟨b,buf,d,yH,a.1,?_⟩;rcases a.2 with a | ⟨g,cap,cur,e,f,n,i⟩
 .exact yH
 .refine .inr ⟨g,cap,cur,e,f,?_,i⟩;exact yH
def lI.fuel(h:lI ρ n tr wb sb so T cs nm w s)(hx:wS tr wb sb so T cs)(f:Nat):lI ρ n tr wb sb so T cs nm (bO w sb (ae (ky cs so f) T (0,0))) { s with fuel:=f }:=by
 have b:ml wb sb w (bO w sb (ae (ky cs so f) T (0,0))):=(bz.refl _ _).bO (.inl fun _=>.inr (.inl J));refine⟨h.st.bI (h.kv hx b),?_,?_,pX J (bf h.fu),h.Xh hx b,h.sn⟩
 .exact h.bu.other hx.ne h.fu hx.T1 _
 .rcases h.na with a | ⟨r,c,es,a,d,e,g⟩
  .exact .inl a
  .refine .inr ⟨r,c,es,a,d,?_,g⟩;rw[jd]
   .omega
   .rintro rfl;rw[h.fu] at e;grind
def Bi(ρ:Nat->Nat)(n:Nat)(tr:Tr)(wb sb so T:Nat)(cs:Array Y)(w:Z)(B:Nat)(r:Option Ws)(e:Ending)(w':Z):Prop:=
 ml wb sb w w'/\match r with
 | some s'=>e = ah (ak #[])/\GL ρ n tr wb sb so T cs w' s'
 | none=>e=M0/\w'.heap[sb]?=O (ae (ky cs so (-1)) T (0,0))/\∃ nm out,su w' wb (aq (O ⟨sb,so,V⟩)) nm out/\out.length<=B
theorem anv(ρ:Nat->Nat):∀ (l:List Nat) (k:Nat),(Av ρ l k).length=l.length
 | [],_=>rfl
 | i::r,k=>by simp [Av,anv ρ r]
def anw:∀ {es:List MapEntry} {l:List (Nat×Y)},EA l es->es.length=l.length
 | [],l,h=>by have h:l=[]:=h;grind
 | e::r,l,h=>by
  obtain⟨b,v,l',rfl,c,d,a⟩:=h;simp [anw a]
theorem anx:∀ {es:List MapEntry} {l:List (Nat×Y)} {e:MapEntry} {b:Nat} {v:Y},EA l es->e.key=pp b->e.val=v->EA (l++[(b,v)]) (es++[e])
 | [],l,e,b,v,h,hk,hv=>by
  have h:l=[]:=h;subst h;exact⟨b,v,[],J,hk,hv,J⟩
 | e'::r,l,e,b,v,h,hk,hv=>by
  obtain⟨a,v',l',rfl,c,d,f⟩:=h;exact⟨a,v',l'++[(b,v)],J,c,d,anx f hk hv⟩
theorem anz(ρ:Nat->Nat)(i:Nat):∀ (l:List Nat) (k:Nat),Av ρ (l++[i]) k=Av ρ l k++[(ρ i,zi ((k+l.length+1:Nat)))]
 | [],k=>rfl
 | j::r,k=>by
  show(_,_)::Av ρ (r++[i]) (k+1)=_;rw[anz ρ i r (k+1)];grind [Av,List.length_cons]
def adr{ρ:Nat->Nat}:∀ {l:List Nat} {k:Nat} {b:Nat} {v:Y},(b,v)∈Av ρ l k->∃ i∈l,b=ρ i
 | [],_,_,_,h=>by cases h
 | j::r,k,b,v,h=>by
  simp only[Av,a0n,Prod.mk.injEq] at h;rcases h with⟨rfl,-⟩| h
  .grind
  .obtain⟨i,a,c⟩:=adr h;grind
def ads{ρ:Nat->Nat}{n i:Nat}(inj:∀ a b,a<n->b<n->ρ a=ρ b->a=b)(c:i<n):∀ (l:List Nat) (k j:Nat),(∀ a∈l,a<n) ->
  Hq (ρ i) (Av ρ l k) j=(l.idxOf? i).map fun m=>(j+m,zi ((k+m+1:Nat)))
 | [],_,_,_=>rfl
 | a::r,k,j,h=>by
  have o:=h a (List.mem_cons_self ..);unfold Av Hq;rw[List.idxOf?_cons];by_cases e:a=i
  .grind
  .have d:¬ ρ i=ρ a:=zg;rw[bX d,ads inj c r (k+1) (j+1) fun a f=>h a (List.mem_cons_of_mem _ f)];have g:(a == i)=false:=zg;rw[g];cases r.idxOf? i with
   | none=>rfl
   | some m=>
    grind
end
def aI2{P:Program}{t T:TypeId}{k e:TypeId}(ht:AS P t=O (k,e)){r:Nat}(a:w.heap[r]?=O (.map es c)) :
  RD P (Builtin.len_ #[t] T #[.map (O r)]) w K X=K (zi es.size):=by
 refine gW ?_;simp [Builtin.len_,run_underlying (F0 ht),F1 a,goInt]
open Go.Proofs.YtoegidfbnkaabaaGreatDoor.Sx
section
variable{p0 p1 p2 p3 p4 p5 p6 p7:Y}{w:Z}{R:Ending->Z->Prop}
def aI3:=cz w R [p0] (gc [] [] []) func214
def aI4:=cz w R [p0,p1] (gc [(1,[13])] [] [14]) func208
def aI5:=cz w R [p0,p1,p2] (gc [] [] []) func217
def aI6:=cz w R [p0,p1,p2] (gc [(9,[29])] [] [6,16,20,22,30,36]) func221
def aI7:=cz w R [p0,p1,p2] (gc [] [] [6,10]) func216
def aI8:=cz w R [p0,p1,p2] (gd [(16,[94])] [(11000,[63]),(12001,[]),(13000,[88]),(14001,[])] [(13,22),(18,15)] [] [] [] [6,8,10,12,14,26,27,36,37,42,43,47,52,57,58,61,62,63,66,87,88,95,112,113]) func210
def aI9:=cz w R [p0,p1,p2] (gd [(10,[64])] [(5000,[33]),(6001,[]),(7000,[58]),(8001,[])] [(7,22),(12,15)] [] [] [] [6,8,10,22,27,28,31,32,33,36,57,58,65,82,83]) func218
def aJa:=cz w R [p0,p1,p2] (gc [] [(9001,[]),(13000,[43]),(14001,[7])] [9,10,14,15,19,20,25,28,39,41,42,43]) func222
def aJb:=cz w R [p0,p1] (gd [] [] [(11,9)] [(12,[21,0,1,2,3,4,5,6,7,8,9,10,12,13,14,15,16,17,18,11,19,20,21])] [] [] [13,17,21,33]) func219
def aJc:=cz w R [p0,p1] (gc [] [] [4,7,10,12,18,19,21,27,28,30]) func220
def aJd:=cz w R [p0,p1,p2] (gd [] [(18003,[64]),(21020,[])] [(5,7),(8,7),(12,7)] [(14,[11,0,1,2,3,4,5,6,7,8,9,10,11]),(22,[10,0,1,2,3,5,6,7,8,4,9,10,11])] [] [] [6,8,12,13,14,15,23,24,25,35,39,40,41,42,50,51,52,63,64,65,66,67,68,74,75,76,88,89,92,93,94,97,98,99,102,103,104,107,110]) func213
end
def lC(T:Nat):Prop:=T=91\/T=87\/T=130\/T=356\/T=116\/T=342\/T=20
def EM(D:Nat->Prop)(b:Nat)(o:Obj):Prop:=D b/\∃ cs T z,o = ae cs T z/\lC T
abbrev dc(D:Nat->Prop)(w w':Z):Prop:=bz (EM D) w w'
theorem dc.bI(h:dc D w w'){T:Nat}(c:¬ lC T)(a:w.heap[b]?=aN cs T):w'.heap[b]?=aN cs T:=by
 refine h.block _ _ a ?_;rintro ⟨_,cs',d,z,e,f⟩;grind
theorem dc.toT(h:dc D w w'):Xd w w':=fun b cs t _ ht a=>h.bI (by rcases ht with rfl | rfl<;>(unfold lC;decide)) a
theorem dc.ea(h:Ext w w'):dc D w w':=yF
def qU(ρ:Nat->Nat)(tr:Tr):List Y:=tr.reverse.map fun p=>pp (ρ p.1)
def aJe(ρ:Nat->Nat)(i:Nat)(t:Tm)(tr:Tr):qU ρ ((i,t)::tr)=qU ρ tr++[pp (ρ i)]:=by simp [qU]
@[simp] theorem aJf(ρ:Nat->Nat)(tr:Tr):(qU ρ tr).length=tr.length:=by simp [qU]
structure vu(so T:Nat)(cs:Array Y):Prop where
 sz:so+2<=cs.size
 ty:T=130\/T=116
structure gU(D:Nat->Prop)(ρ:Nat->Nat)(n sb so T:Nat)(cs:Array Y)(tv:Y)(w:Z)(s:Sr):Prop where
 sv:Ck ρ n s.tr w
 dv:∀ i,i<n->D (ρ i)
 cell:w.heap[sb]?=aN (ky (cs.setIfInBounds so tv) so s.fuel) T
 row:w.ownsRow 0 87 1 tv s.tr.length (qU ρ s.tr)
 dr:∀ g,tv.ownBlock=O g->D g
 ds:D sb
 nd:(s.tr.map (·.1)).Nodup
 lt:∀ p∈s.tr,p.1<n
 ok:mH s.tr
section
variable{D:Nat->Prop}{ρ:Nat->Nat}{n sb so T:Nat}{cs:Array Y}{tv:Y}{w w':Z}{s:Sr}
theorem gU.ext(h:gU D ρ n sb so T cs tv w s)(a:Ext w w'):gU D ρ n sb so T cs tv w' s:=
 ⟨h.sv.bI (GI.ea a),h.dv,a.ext _ _ h.cell,jM a.ext h.row,h.dr,h.ds,h.nd,h.lt,h.ok⟩
theorem gU.Xi(h:gU D ρ n sb so T cs tv w s){c:Array Y}{U:Nat}(b:w.heap[g]?=aN c U)(d:U≠87):tv.ownBlock≠O g:=by
 intro a;rcases h.row.2 with⟨rfl,-⟩| ⟨e,cap,cur,rfl,-,f,-⟩
 .cases a
 grind [a0T,aZ9]
def vu.mu(a:vu so T cs):lC T:=by grind [lC,ty]
theorem Iz{size:Nat}{o:Obj}(h:w.ownsRow base e size v m xs)(a:v.ownBlock≠O g):(bO w g o).ownsRow base e size v m xs:=by
 refine⟨h.1,?_⟩;rcases h.2 with f | ⟨b,cap,cur,rfl,c,i,d⟩
 .exact yH
 .exact .inr ⟨b,cap,cur,J,c,by rw[jd (fun e=>a (by subst e;rfl))];omega,d⟩
def gU.cells(h:gU D ρ n sb so T cs tv w s)(d:vu so T cs){cs':Array Y}{f:Nat} :
  gU D ρ n sb so T cs' tv (bO w sb (ae (ky (cs'.setIfInBounds so tv) so f) T (0,0))) { s with fuel:=f }/\dc D w (bO w sb (ae (ky (cs'.setIfInBounds so tv) so f) T (0,0))):=by
 have l:=bf h.cell;have g:T≠87/\T≠91/\T≠180/\T≠89:=by rcases d.ty with h | h<;>subst h<;>decide
 have i:dc D w (bO w sb (ae (ky (cs'.setIfInBounds so tv) so f) T (0,0))):=⟨J,J,J,yH,fun b o a hm=>by
  by_cases e:b=sb
  .subst e;rw[h.cell] at a;exact absurd ⟨h.ds,_,_,_,(a0g a).symm,d.mu⟩ hm
  exact yH⟩
 have j:GI w (bO w sb (ae (ky (cs'.setIfInBounds so tv) so f) T (0,0))):=fun b c t ht a=>by
  rw[jd]
  .omega
  .rintro rfl;rw[h.cell] at a;grind
 exact⟨⟨h.sv.bI j,h.dv,yH,Iz h.row (h.Xi h.cell g.1),h.dr,h.ds,h.nd,h.lt,h.ok⟩,i⟩
theorem gU.aJg(h:gU D ρ n sb so T cs tv w s)(a:vu so T cs)(b:s.fuel≠0) :
  gU D ρ n sb so T cs tv (bO w sb (ae (ky (cs.setIfInBounds so tv) so ((s.fuel:Int)-1)) T (0,0))) s.dec/\dc D w (bO w sb (ae (ky (cs.setIfInBounds so tv) so ((s.fuel:Int)-1)) T (0,0))):=by
 have:=h.cells a (cs':=cs) (f:=s.fuel-1);rw[show((s.fuel-1:Nat):Int)=(s.fuel:Int)-1 by omega] at this;exact this
def gV:jE->Ending
 | .fault k=>.panicked [{ v:=aj 27 (.int .i64 k),recovered:=false }]
 | .DB=>M0
def EPost(D:Nat->Prop)(w:Z){α:Type}(R:α->Ending->Z->Prop)(r:Except jE α)(e:Ending)(w':Z):Prop:=
 dc D w w'/\match r with
  | .ok a=>R a e w'
  | .error t=>e=gV t
abbrev wU(D:Nat->Prop)(ρ:Nat->Nat)(n sb so T:Nat)(cs:Array Y)(p:Bool×Sr)(e:Ending)(w':Z):Prop:=
 e = ah (.bool p.1)/\∃ tv,gU D ρ n sb so T cs tv w' p.2
theorem EPost.of{α:Type}{R:α->Ending->Z->Prop}{r:Except jE α}{e:Ending}(h:EPost D w1 R r e w')(a:dc D w w1):EPost D w R r e w':=⟨a.trans h.1,h.2⟩
def EPost.tail{α:Type}{R:α->Ending->Z->Prop}(b:∀ {a e w},R a e w->∃ v,e = ah v){r:Except jE α}{e:Ending}(h:EPost D w R r e w') :
  ends (fun x w'=>EPost D w R r (ah x) w') (PC (EPost D w R r)) e w':=by
 cases e with
 | returned v=>exact h
 | panicked c=>exact h
 | outgrown=>
  obtain⟨-,h⟩:=h;cases r with
  | ok a=>obtain⟨v,h⟩:=b h;cases h
  | error t=>cases t<;>cases h
def EPost.SW{r:Except jE (Bool×Sr)}{e:Ending}(h:EPost D w (wU D ρ n sb so T cs) r e w') :
 ends (fun x w'=>EPost D w (wU D ρ n sb so T cs) r (ah x) w') (PC (EPost D w (wU D ρ n sb so T cs) r)) e w':=h.tail zg
def EPost.aJh{r:Except jE (Bool×Sr)}{e:Ending}(h:EPost D w (wU D ρ n sb so T cs) r e w') :
  ends (fun x w'=>EPost D w (wU D ρ n sb so T cs) r (ah x) w') (LB (EPost D w (wU D ρ n sb so T cs) r)) e w':=by
 cases e with
 | returned v=>exact h
 | panicked c=>exact fun _=>h
 | outgrown=>
  obtain⟨-,h⟩:=h;cases r with
  | ok a=>obtain⟨h,-⟩:=h;cases h
  | error t=>cases t<;>cases h
def M3(h:gU D ρ n sb so T cs tv w s)(a:vu so T cs)(f:s.fuel<=1000000000) :
  Calls a94 61 #[pq sb so] w fun e w'=>dc D w w'/\(if s.fuel=0 then e=M0 else e = ah (ak #[])/\gU D ρ n sb so T cs tv w' s.dec):=by
 refine(ann h.cell (by rw[Array.size_setIfInBounds];exact a.sz) zg).mono ?_;rintro e w1 ⟨he,rfl⟩;by_cases c:s.fuel=0
 .rw[zip zo] at he;rw[zip c];refine⟨?_,he⟩;exact⟨J,J,J,yH,fun b o d hm=>by
   by_cases e:b=sb
   .subst e;rw[h.cell] at d;exact absurd ⟨h.ds,_,_,_,(a0g d).symm,a.mu⟩ hm
   .rw[jd e];omega⟩
 .rw[bX zo] at he;rw[bX c];grind [gU.aJg]
end
def aJi{P:Program}{t bytes:Nat}(ht:P.underlying t=O (.slice e))(c:(P.info? e).map (fun i=>(i.zero,i.size,i.bytes))=O (O z,1,bytes))(f:z.cells.size=1)(g:bytes<=1000)
 (j:w.ownsRow base e 1 v n xs) {a:Y} (l:w.heap[b]?=aN #[a] e) (s:a.oneCell'=A)
  (x:n<=900000000) (o:base<=w.heap.size) {K:Y->Z->Prop}
  (h:∀ v' w',w'.ownsRow base e 1 v' (n+1) (xs++[a])->w.grownBy w' v.ownBlock->(v'.ownBlock=v.ownBlock\/∀ k,v'.ownBlock=O k->w.heap.size<=k)->K v' w') :
  WR P (Builtin.append_ #[t,t] pb #[v,cM b 1 m]) w K X:=by
 obtain⟨i,c,d⟩:=Option.map_eq_some_iff.1 c;simp only[Prod.mk.injEq] at d;obtain⟨p,q,r⟩:=d;refine Sx.C6 (m:=1) (t:=t) (e:=e) ht c p q r f zo j l J (fun u hu=>?_) zo g o h;grind
def SX(h:w.ownsRow base e 1 v n xs){t:Nat}(ht:t<n):∃ g c u,v = cM g n c/\w.heap[g]?=aN u e/\u[t]?=xs[t]?:=by
 rcases h.2 with⟨-,a⟩| ⟨g,cap,cur,rfl,b,d,f,i,j,k⟩<;>grind
theorem aJj(h:¬ cap=0):sliced (O ⟨b,0,V⟩) 0 pb cap n = cM b pb cap:=by
 grind [sliced,Addr.add]
def aJk:(Tryz.prog.info? 87).map (fun i=>(i.zero,i.size,i.bytes))=O (O (aq V),1,8):=zk
section
variable{D:Nat->Prop}{ρ:Nat->Nat}{n sb so T:Nat}{cs:Array Y}{tv:Y}{w w':Z}{s:Sr}
def Xj{z:Int}(h:so+2<=cs.size):(ky (cs.setIfInBounds so tv) so z)[so]?=O tv:=by
 grind
def sf2{z:Int}{nv:Y}:(ky (cs.setIfInBounds so tv) so z).setIfInBounds so nv=ky (cs.setIfInBounds so nv) so z:=by
 unfold ky;apply Array.ext_getElem?;grind
def M4{z:Int}:(ky (cs.setIfInBounds so tv) so z).size=cs.size:=zs
def SY(h:gU D ρ n sb so T cs tv w s)(b:vu so T cs) :
  Calls a94 214 #[pq sb so] w fun e w'=>e = ah (zi s.tr.length)/\w'=w:=by
 have d:=h.cell;have f:=b.sz;obtain⟨a,c,rfl⟩:=gX h.row;refine aI3 ?_;simp (disch:=first|assumption|omega|simp only[zS]<;>omega|decide) only[zB,simprocAttr,lh,d,Xj f,M4]
def anC(h:gU D ρ n sb so T cs tv w s)(q:vu so T cs)(hD:∀ b,w.heap.size<=b->D b)(y:i<n)(hl:P.look i s.tr=V)(N:i ∉ s.tr.map (·.1))(hv:dL ρ n w v t)(Q:ef t)(hlen:s.tr.length<=900000000) :
  Calls a94 217 #[pq sb so,pp (ρ i),v] w fun e w'=>e = ah (ak #[])/\dc D w w'/\∃ R,gU D ρ n sb so T cs R w' (s.bind i t):=by
 have a:=h.cell;have S:=q.sz;have lb:=bf a;obtain⟨ref,hr,-⟩:=h.sv.var i y;have lr:=bf hr;have W:ρ i≠sb:=by
  intro e;rw[<- e,hr] at a;injection a with a;injection a with _ a _;rcases q.ty with h | h<;>rw[h] at a<;>cases a
 obtain⟨u,x,rfl⟩:=hv.iface;refine aI5 ?_;simp (disch:=first|assumption|omega|simp only[zS]<;>omega|decide) only[zB,simprocAttr,lh,a,hr,Xj S,M4];obtain⟨w1,z⟩:=b9 ((bO w (ρ i) (ae #[aj u x] 91)).alloc (ae #[pp (ρ i)] 87));rw[<- z];have z1:w1.heap.size=w.heap.size+1:=yH;have d:w1.ownsRow 0 87 1 tv s.tr.length (qU ρ s.tr):=by
  rw[z];exact(Iz h.row (h.Xi hr zd)).alloc _
 have X:w1.heap[w.heap.size]?=aN #[pp (ρ i)] 87:=yH;have iT:w1.heap[sb]?=aN (ky (cs.setIfInBounds so tv) so s.fuel) T:=by
  exact yH
 have kH:∀ b o,b≠ρ i->w.heap[b]?=O o->w1.heap[b]?=O o:=yH;have pW:w1.heap[ρ i]?=aN #[aj u x] 91:=by
  exact yH
 have f0:dc D w (bO w (ρ i) (ae #[aj u x] 91)):=⟨J,J,J,yH,fun b o eX hm=>by
  by_cases e:b=ρ i
  .subst e;rw[hr] at eX;exact absurd ⟨h.dv i y,_,_,_,(a0g eX).symm,.inl J⟩ hm
  exact yH⟩
 have f1:dc D w w1:=by
  exact yF
 clear z;refine aJi zk aJk J zo d X J hlen zo ?_;intro v' w2 f l jZ;have m:T≠87/\T≠91:=by rcases q.ty with h | h<;>subst h<;>decide
 have k:∀ (b:Nat) (c:Array Y) (U:Nat),w1.heap[b]?=aN c U->U≠87->w2.heap[b]?=aN c U:=fun b c U eX hU=>by
  rw[l.block b (bf eX) (fun e=>?_)]
  .exact yH
  .rcases d.2 with⟨rfl,-⟩| ⟨K,cap,cur,rfl,-,r,-⟩
   .cases e
   grind [a0T,aZ9]
 have f2:dc D w1 w2:=⟨l.os,l.tape,l.output,l.size,fun b o eX hm=>by
  rw[l.block b (bf eX) (fun e=>?_)]
  .exact yH
  .rcases d.2 with⟨rfl,-⟩| ⟨K,cap,cur,rfl,-,r,-⟩
   .cases e
   .simp only[a0T,aZ9] at e;subst e;rw[eX] at r;exact hm ⟨h.dr _ J,_,_,_,a0g r,.inr (.inl J)⟩⟩
 have B:=k _ _ _ iT m.1;have iV:=k _ _ _ pW zd;have C:=bf B;obtain⟨p2,d2,e2⟩:=gX f;have qL:(ky (cs.setIfInBounds so tv) so (s.fuel:Int)).size=cs.size:=M4;subst e2;refine iJ B @sf2 @M4 ?_;have E:∀ g,(Value.slice p2 (s.tr.length+1) d2).ownBlock=O g->D g:=(by grind [gU.dr]);have eI:dc D w2 (bO w2 sb (ae (ky (cs.setIfInBounds so (.slice p2 (s.tr.length+1) d2)) so s.fuel) T (0,0))):=⟨J,J,J,yH,fun b o eX hm=>by
  by_cases e:b=sb
  .subst e;rw[B] at eX;exact absurd ⟨h.ds,_,_,_,(a0g eX).symm,q.mu⟩ hm
  exact yH⟩
 have F:dc D w (bO w2 sb (ae (ky (cs.setIfInBounds so (.slice p2 (s.tr.length+1) d2)) so s.fuel) T (0,0))):=yF;refine⟨F,.slice p2 (s.tr.length+1) d2,?_⟩;refine⟨⟨h.sv.inj,fun j L=>?_⟩,h.dv,pX J C,?_,E,h.ds,?_,?_,Q,h.ok⟩
 .by_cases H:j=i
  .subst H;refine⟨_,by rw[jd W];exact iV,?_⟩;have:P.look j (s.bind j t).tr=O t:=by simp [Sr.bind,P.look]
   rw[this];exact hv.bI F.toT
  .obtain⟨Xk,g1,g2⟩:=h.sv.var j L;have fJ:ρ j≠ρ i:=fun e=>H (h.sv.inj j i L y e);have Pp:ρ j≠sb:=by
    intro e;rw[<- e,g1] at a;injection a with a;injection a with _ a _;exact m.2 a.symm
   refine⟨Xk,by rw[jd Pp];exact k _ _ _ (kH _ _ fJ g1) zd,?_⟩;have:P.look j (s.bind i t).tr=P.look j s.tr:=by simp [Sr.bind,P.look,H]
   rw[this];cases M:P.look j s.tr with
   | none=>rw[M] at g2;exact g2
   | some t'=>rw[M] at g2;exact dH.bI g2 F.toT
 .show(bO w2 sb _).ownsRow 0 87 1 (.slice p2 (s.tr.length+1) d2) (s.tr.length+1) (qU ρ ((i,t)::s.tr));rw[aJe];refine Iz f ?_;intro e;rcases f.2 with⟨e1,-⟩| ⟨K,cap,cur,e1,-,r,-⟩
  .grind
  grind [a0T,aZ9]
 .show(i::s.tr.map (·.1)).Nodup;exact List.nodup_cons.2 ⟨N,h.nd⟩
 .intro p I;rcases a0n.1 I with rfl | I
  .omega
  .exact h.lt p I
end
theorem P.Pw{i:Nat}:∀ {tr:Tr},i ∉ tr.map (·.1)->P.look i tr=V
 | [],_=>rfl
 | (j,t)::r,h=>by
  simp only[List.map_cons,a0n,not_or] at h;rw[P.look,bX h.1];exact P.Pw h.2
theorem P.anD{i j:Nat}{t:Tm}(h:j≠i):∀ (a b:Tr),P.look j (a++(i,t)::b)=P.look j (a++b)
 | [],b=>by rw[a1d,a1d,P.look,bX h]
 | (k,u)::a,b=>by
  rw[List.cons_append,List.cons_append,P.look,P.look,P.anD h a b]
def mH.drop:∀ (k:Nat) {tr:Tr},mH tr->mH (tr.drop k)
 | 0,_,h=>h
 | _+1,[],h=>h
 | k+1,(_,_)::_,h=>mH.drop k h.2
section
variable{D:Nat->Prop}{ρ:Nat->Nat}{n sb so T:Nat}{cs:Array Y}{tv:Y}{w w':Z}{s:Sr}
def Ck.free{a b:Tr}(h:Ck ρ n (a++(i,t)::b) w)(d:i<n)(m:i ∉ (a++b).map (·.1)) :
  Ck ρ n (a++b) (bO w (ρ i) (ae #[ai] 91)):=by
 obtain⟨ref,hr,-⟩:=h.var i d;have k:=bf hr;have hk:Xd w (bO w (ρ i) (ae #[ai] 91)):=fun b c t _ ht o=>by
  exact yH
 refine⟨h.inj,fun j f=>?_⟩;by_cases g:j=i
 .subst g;refine⟨_,pX J k,?_⟩;grind [P.Pw]
 .obtain⟨l,g1,g2⟩:=h.var j f;refine⟨l,by rw[jd (fun e=>g (h.inj j i f d e))];omega,?_⟩;grind [P.anD,P.look,dH.bI]
def adx(h:gU D ρ n sb so T cs tv w s)(z:vu so T cs)(hm:m<=s.tr.length)(hlen:s.tr.length<=900000000) :
  Calls a94 208 #[pq sb so,zi m] w fun e w'=>e = ah (ak #[])/\dc D w w'/\∃ X,gU D ρ n sb so T cs X w' (s.iF m):=by
 have C:=h.cell;have L:=z.sz;have lb:=bf C;obtain⟨a,c,E⟩:=gX h.row;subst E;refine aI4 ?_;simp (disch:=first|assumption|omega|simp only[zS]<;>omega|decide) only[zB,simprocAttr,lh,C,Xj L,M4];have em:(m:Int).toNat=m:=zo;rw[em];obtain⟨p,B⟩:=b9 (if c=m then a else a.map (·.add (m*1)));have iA:sliced a m s.tr.length c 1 = .slice p (s.tr.length-m) (c-m):=by rw[B];rfl
 rw[iA];have Px:s.tr.length<=c:=by
  rcases h.row.2 with⟨l,f⟩| ⟨g,cap,cur,l,-,-,h4,-⟩<;>grind
 have xJ:∀ k,k<s.tr.length->∃ g u,a=O ⟨g,0,V⟩/\w.heap[g]?=aN u 87/\u[k]?=(qU ρ s.tr)[k]?:=fun k hk=>by
  obtain⟨g,c',u,F,e2,M⟩:=SX h.row hk;exact yH
 refine bD ?_;refine⟨fun q x w'=>∃ j,x 13=zi (j:Nat)/\j<=s.tr.length-m/\q=s.tr.length-m-j/\dc D w w'/\Ck ρ n (s.tr.take (s.tr.length-m-j)++s.tr.drop (s.tr.length-m)) w' /\
   (∀ (b:Nat) (c:Array Y) (U:Nat),w.heap[b]?=aN c U->U≠91->w'.heap[b]?=aN c U),
  ⟨_,0,J,Nat.zero_le _,J,yF,by rw[Nat.sub_zero,a2c];exact h.sv,yH⟩,?_⟩
 intro q x d w1 hI;refine toPr ?_;obtain⟨j,hx,hj,rfl,N,r,P⟩:=hI;have H:=P _ _ _ C (by rcases z.ty with h | h<;>subst h<;>decide);by_cases hlt:j<s.tr.length-m
 .have qq:((j:Nat):Int)<((s.tr.length-m:Nat):Int):=zo;obtain⟨g,u,rfl,g1,g2⟩:=xJ (m+j) zo;have Py:p=O ⟨g,m,V⟩:=by
   rw[B,bX zo];simp [Addr.add];exact fun h=>h.symm
  subst Py;have V6:=P _ _ _ g1 zd;obtain⟨⟨i,t⟩,hit⟩:∃ y,y=s.tr[s.tr.length-m-j-1]' zo:=⟨_,J⟩;have I:i<n:=by
   have:=h.lt (i,t) zg;omega
  have g3:u[m+j]?=O (pp (ρ i)):=by
   rw[g2,qU,List.getElem?_map,List.getElem?_reverse zo,List.getElem?_eq_getElem zo];have:s.tr[s.tr.length-1-(m+j)]' zo=(i,t):=by
    rw[hit]
    congr 1
    omega
   rw[this];rfl
  have ej:((j:Nat):Int).toNat=j:=zo;have Dt:s.tr.take (s.tr.length-m-j)=s.tr.take (s.tr.length-m-j-1)++[(i,t)]:=by
   have:s.tr.length-m-j=s.tr.length-m-j-1+1:=zo;grind [List.take_succ_eq_append_getElem,Nat.add_sub_cancel]
  rw[Dt,List.append_assoc,List.singleton_append] at r;have Ky:i ∉ (s.tr.take (s.tr.length-m-j-1)++s.tr.drop (s.tr.length-m)).map (·.1):=by
   have e0:s.tr=s.tr.take (s.tr.length-m-j-1)++(i,t)::s.tr.drop (s.tr.length-m-j-1+1):=by
    rw[hit,<- List.drop_eq_getElem_cons zo,a2c]
   have Q:((s.tr.take (s.tr.length-m-j-1)++(i,t)::s.tr.drop (s.tr.length-m-j-1+1)).map (·.1)).Nodup:=by rw[<- e0];exact h.nd
   rw[List.map_append,List.map_cons] at Q;have l:=(List.nodup_cons.1 ((List.perm_middle.nodup_iff).1 Q)).1;rw[List.map_append];intro po;apply l;rcases List.mem_append.1 po with f | f
   .grind
   .refine List.mem_append_right _ ?_;have M:s.tr.drop (s.tr.length-m)=(s.tr.drop (s.tr.length-m-j-1+1)).drop j:=by
     rw[List.drop_drop];congr 1;omega
    rw[M] at f;obtain⟨y,hy,rfl⟩:=List.mem_map.1 f;grind
  obtain⟨ref,R,-⟩:=r.var i I;have aVi:=r.free I Ky;refine dC hx @ej @V6 (zA @g3 @R) ?_;refine⟨_,zo,j+1,zs,zo,J,?_,?_,fun b c U eX hU=>?_⟩
  .refine N.trans ⟨J,J,J,yH,fun b o eX hm=>?_⟩;by_cases e:b=ρ i
   .subst e;rw[R] at eX;exact absurd ⟨h.dv i I,_,_,_,(a0g eX).symm,.inl J⟩ hm
   exact yH
  .omega
  exact yH
 .have Bj:j=s.tr.length-m:=zo;subst Bj;have qL:(ky (cs.setIfInBounds so (.slice a s.tr.length c)) so (s.fuel:Int)).size=cs.size:=M4;have K:sliced a 0 m c 1 = .slice a m c:=by
   unfold sliced;cases a with
   | none=>simp
   | some x=>simp [Addr.add]
  have Xl:=bf H;simp (disch:=first|assumption|omega|simp only[zS]<;>omega|decide) only[zB,simprocAttr,lh,hx,H,Xj L,M4,K,sf2];rw[Nat.sub_self,List.take_zero,a1d] at r;have hTp:T≠87/\T≠91/\T≠180/\T≠89:=by rcases z.ty with h | h<;>subst h<;>decide
  have eO:(bO w1 sb (ae (ky (cs.setIfInBounds so (.slice a m c)) so s.fuel) T (0,0))).ownsRow 0 87 1 (.slice a m c) m (qU ρ (s.iF m).tr):=by
   have ev:qU ρ (s.iF m).tr=(qU ρ s.tr).take m:=by
    simp only[qU,Sr.iF];rw[<- List.map_take,List.take_reverse]
   have S:w1.ownsRow 0 87 1 (.slice a m c) m ((qU ρ s.tr).take m):=by
    refine⟨by rw[List.length_take,aJf,Nat.mul_one];omega,?_⟩;rcases h.row.2 with⟨l,f⟩| ⟨g,cap,cur,l,f,h3,h4,h5,h6,h7⟩<;>grind
   rw[ev];refine Iz S ?_;intro e;rcases S.2 with⟨F,-⟩| ⟨g',cap,cur,F,-,h3,-⟩
   .rw[F] at e;cases e
   grind [a0T,aZ9]
  refine⟨N.trans ⟨J,J,J,yH,fun b o eX hm=>?_⟩,.slice a m c,⟨r.bI fun b c' t ht eX=>?_,h.dv,pX J Xl,?_,fun g W=>h.dr g (by cases a with
   | none=>cases W
   | some x=>exact W),h.ds,?_,?_,mH.drop _ h.ok⟩⟩
  .by_cases e:b=sb
   .subst e;rw[H] at eX;exact absurd ⟨h.ds,_,_,_,(a0g eX).symm,z.mu⟩ hm
   exact yH
  .exact yH
  .grind [Sr.iF]
  .have:=h.nd;show((s.tr.drop _).map _).Nodup;grind
  .intro p B;exact h.lt p (List.mem_of_mem_drop B)
end
structure CW(f:Nat):Prop where
 tm:∀ {ρ:Nat->Nat} {n:Nat} {tr:Tr} {wb sb so T:Nat} {cs:Array Y} {w:Z} {s:Ws} {t:Tm} {v:Y} {least:Nat} {r:Option Ws},wS tr wb sb so T cs->GL ρ n tr wb sb so T cs w s->dL ρ n w v t->ef t ->
  s.cS<=900000100->s.seen.length<=s.out.length->ku tr f t least s=O r->Calls a94 31 #[pp wb,v,zi least] w (Bi ρ n tr wb sb so T cs w s.cS r)
 comp:∀ {ρ:Nat->Nat} {n:Nat} {tr:Tr} {wb sb so T:Nat} {cs:Array Y} {w:Z} {s:Ws} {name:Bs} {args:List Tm} {b:Nat} {least:Nat} {r:Option Ws},wS tr wb sb so T cs->GL ρ n tr wb sb so T cs w s ->
  dL ρ n w (aj 175 (pp b)) (.comp name args)->ef (.comp name args) ->
  s.cS<=900000100-60->s.seen.length<=s.out.length->yR tr f name args least s=O r->Calls a94 65 #[pp wb,pp b,zi least] w (Bi ρ n tr wb sb so T cs w (s.cS+30) r)
 list:∀ {ρ:Nat->Nat} {n:Nat} {tr:Tr} {wb sb so T:Nat} {cs:Array Y} {w:Z} {s:Ws} {name:Bs} {x y:Tm} {b:Nat} {r:Option Ws},wS tr wb sb so T cs->GL ρ n tr wb sb so T cs w s ->
  dL ρ n w (aj 175 (pp b)) (.comp name [x,y])->ef (.comp name [x,y]) ->
  s.cS<=900000100-60->s.seen.length<=s.out.length->vf tr f 91 x y s=O r->Calls a94 96 #[pp wb,pp b] w (Bi ρ n tr wb sb so T cs w (s.cS+30) r)
theorem Bi.of{T:Nat}{r:Option Ws}{e:Ending}(h:Bi ρ n tr wb pb so T cs w1 B r e w')(a:ml wb pb w w1)(c:B<=B'):Bi ρ n tr wb pb so T cs w B' r e w':=by
 obtain⟨b,d⟩:=h;refine⟨a.trans b,?_⟩;exact yH
def aJm{ρ:Nat->Nat}{n:Nat}{tr:Tr}{wb:Nat}{nm:Y}{w:Z}{seen:List Nat}(a:Ck ρ n tr w)(g:NmA ρ w wb nm seen)(b:∀ i∈seen,i<n){i:Nat}(d:i<n){K:Y->Prop}{X:Y->Z->Prop} :
  RD a94 (Instr.lookup 101 nm (pp (ρ i)) A) w K X =
   match seen.idxOf? i with
   | some k=>K (ak #[.int .i64 ((k+1:Nat)),.bool A])
   | none=>K (ak #[.int .i64 0,.bool G]):=by
 have hm:AS a94 101=O (87,3):=zk;have e:zK a94 3=O (zi 0):=zk;have f:zM a94 87=true:=zk;obtain⟨ref,h,-⟩:=a.var i d;rcases g with⟨rfl,rfl⟩| ⟨r,c,es,rfl,s,l,m⟩
 .rw[awp hm (aaP f) e];rfl
 .rw[awq hm f e l m (fun c v o=>?_) h]
  .rw[ads a.inj d seen 0 0 b];cases seen.idxOf? i with
   | none=>rfl
   | some k=>simp
  .obtain⟨j,p,rfl⟩:=adr o;obtain⟨ref,q,-⟩:=a.var j (b j p);exact⟨_,_,q⟩
def lI.name{T:Nat}{s:Ws}{r:Nat}(h:lI ρ n tr wb pb so T cs (.map (O r)) w s)(hx:wS tr wb pb so T cs)(hr:wb<r)
  (m:w.heap[r]?=O (.map es c)) (y:EA (Av ρ s.seen 0) es.toList) (z:i<n) {e:MapEntry} (hk:e.key=pp (ρ i)) (hv:e.val=zi ((s.seen.length+1:Nat))) :
  lI ρ n tr wb pb so T cs (.map (O r)) (bO w r (.map (es.push e) (c+1))) { s with seen:=s.seen++[i] }/\ml wb pb w (bO w r (.map (es.push e) (c+1))):=by
 have j:ml wb pb w (bO w r (.map (es.push e) (c+1))):=⟨J,J,J,yH,fun b o d hm=>by
  by_cases k:b=r
  .subst k;rw[m] at d;injection d with d;exact absurd (.inr (.inr ⟨hr,.inr ⟨_,_,d.symm⟩⟩)) hm
  exact yH⟩
 have p:=bf m;refine⟨⟨h.st.bI (h.kv hx j),?_,?_,?_,h.Xh hx j,?_⟩,j⟩
 .obtain⟨q,buf,b1,b2,l⟩:=h.bu;refine⟨q,buf,b1,yH,l.1,?_⟩;rcases l.2 with l | ⟨g,cap,cur,t,u,B,x⟩
  .exact yH
  .refine .inr ⟨g,cap,cur,t,u,?_,x⟩;exact yH
 .refine .inr ⟨r,c+1,_,J,hr,pX J p,?_⟩;grind [Array.toList_push,anz,anx]
 .rw[jd]
  .exact h.fu
  .rintro rfl;have:=h.fu;grind
 .intro a f;simp only[List.mem_append,a0n,List.not_mem_nil,or_false] at f;rcases f with f | rfl
  .exact h.sn a f
  omega
def lI.names{T:Nat}{s:Ws}(h:lI ρ n tr wb pb so T cs (.map V) w s)(hx:wS tr wb pb so T cs)(d:s.seen=[])
  (e:tv = aq V\/tv=pp wb) (f:w.heap[wb]?=aN #[tv,buf,pq pb so,.map V] 103) (g:w.ownsRow (wb+1) 5 1 buf s.out.length (uq s.out))
 (a:w'=bO (w.alloc (.map #[] 0)) wb (ae #[tv,buf,pq pb so,.map (O w.heap.size)] 103)) :
  lI ρ n tr wb pb so T cs (.map (O w.heap.size)) w' s/\ml wb pb w w'/\wb<w.heap.size/\w'.heap[w.heap.size]?=O (.map #[] 0):=by
 subst a;have lb:=bf f;have i:=bf h.fu;have j:=hx.ne;have b:ml wb pb w (bO (w.alloc (.map #[] 0)) wb (ae #[tv,buf,pq pb so,.map (O w.heap.size)] 103)):=((bz.refl _ _).alloc _).bO (.inl fun _=>.inl J);have c:(bO (w.alloc (.map #[] 0)) wb (ae #[tv,buf,pq pb so,.map (O w.heap.size)] 103)).heap[w.heap.size]?=O (.map #[] 0):=by
  exact yH
 refine⟨⟨h.st.bI (h.kv hx b),?_,?_,?_,h.Xh hx b,h.sn⟩,b,lb,c⟩
 .exact⟨tv,buf,e,yH,(by grind [JE,World.ownsRow.alloc])⟩
 .exact .inr ⟨_,_,_,J,lb,c,by rw[d];rfl⟩
 grind [jd,LZ,fu]
def aJo(ih:CW f){T:Nat}{s:Ws}{least:Nat}{r:Option Ws}(hx:wS tr wb pb so T cs)(hs:GL ρ n tr wb pb so T cs w s)(hv:dL ρ n w v t)(de:ef t)
  (hB:s.cS<=900000100) (Aw:s.seen.length<=s.out.length) (hr:ku tr (f+1) t least s=O r):Calls a94 31 #[pp wb,v,zi least] w (Bi ρ n tr wb pb so T cs w s.cS r):=by
 obtain⟨nm,h⟩:=hs;obtain⟨ad,buf,GH,hb,dR⟩:=id h.bu;have lb:=bf hb;have Cd:s.cS=s.out.length+60*s.fuel:=rfl;rw[ku] at hr;refine aIY ?_;refine cG hb ?_;refine(ann h.fu hx.sz zg).mono ?_;rintro e w1 ⟨he,y⟩;by_cases M:s.fuel=0
 .rw[zip M] at hr;cases hr;rw[zip zo] at he;subst he;simp only[ends,PC];have o:ml wb pb w w1:=by rw[y];exact(bz.refl _ _).bO (.inl fun _=>.inr (.inl J))
  refine⟨o,J,?_,nm,s.out,?_,zo⟩
  .rw[y,pX J (bf h.fu),M];rfl
  .rw[y];exact h.bu.other hx.ne h.fu hx.T1 _
 .rw[bX M] at hr;rw[bX zo] at he;subst he;have g:=h.fuel hx (s.fuel-1);rw[show((s.fuel-1:Nat):Int)=(s.fuel:Int)-1 by omega,<- y] at g;have o:ml wb pb w w1:=by rw[y];exact(bz.refl _ _).bO (.inl fun _=>.inr (.inl J))
  clear y;refine bD ?_;cases hw:fA tr f t with
  | none=>rw[hw] at hr;cases hr
  | some t'=>
  rw[hw] at hr;refine(GJ g.st (hv.bI (h.kv hx o).toT) hw).mono ?_;rintro e w2 ⟨rfl,u,rfl,hu⟩;have p:=tj hx.tok de hw;obtain⟨ad1,aVk,N,B,xx⟩:=id g.bu;cases t' with
  | atom a=>
   unfold dH at hu;subst hu;unfold ef at p;refine bD ?_;refine(GN g hx a zg).mono ?_;rintro e w3 ⟨⟨v3,rfl⟩,C,dU⟩;refine bD ?_;cases hr;exact⟨o.trans dU,J,_,C⟩
  | int a=>
   unfold dH at hu;subst hu;unfold ef at p;refine bD ?_;refine⟨fun _=>True,trivial,?_⟩;refine bD ?_;refine cQ (pp wb) (fun w' _=>eQ) ?_;refine(anr a p.1 p.2 _ (g.ext yF).Xf).mono ?_;rintro e w3 ⟨rfl,D⟩;have C:=g.ext (((bz.refl _ _).drew).trans D);refine⟨trivial,?_⟩;have hl:=ant a p.1 p.2;refine(GN C hx _ zg).mono ?_;rintro e w4 ⟨⟨v3,rfl⟩,E,P⟩;refine bD ?_;cases hr;exact⟨(o.trans (bz.toM (((bz.refl _ _).drew).trans D))).trans P,J,_,E⟩
  | var i=>
   unfold dH at hu;obtain⟨K,rfl⟩:=hu;refine cG B ?_;obtain⟨s1,dX⟩:∃ s1:Ws,s1={ s with fuel:=s.fuel-1 }:=⟨_,J⟩;have F:s1.out=s.out:=zg;have fU:s1.seen=s.seen:=zg;rw[<- dX] at g hr;have S1:∀ (k:Nat) (z:Y) (s2:Ws) (w':Z) (x:Y),x=zi (k:Int)->k<=1000000000->lI ρ n tr wb pb so T cs z w' s2->ml wb pb w2 w'->s2.out=s.out->r=O (s2.add (95::gj k)) ->
     Pr (HD fun q=>q w'.drew/\NC (pp wb) fun Q=>uI a94 (Instr.fieldAt 103 Q 0) q (fun R=>
      CA a94 64 #[x] w'.drew (fun S2 S=>q S/\RD a94 (bo .add 9 (.const (aM [95])) (.tmp 75) (aM [95]) S2) S (fun U=>
       CA a94 44 #[R,U] S (fun x77 M7=>Bi ρ n tr wb pb so T cs w s.cS r (ah (ak #[])) M7) (LB (Bi ρ n tr wb pb so T cs w s.cS r))) NX) (LB (Bi ρ n tr wb pb so T cs w s.cS r)))):=by
    intro k z s2 w' x W hk L X ho2 iV;subst W;refine⟨fun _=>True,trivial,?_⟩;refine toPr ?_;refine bD ?_;refine cQ (pp wb) (fun w' _=>eQ) ?_;refine(Ku k zo zo _ (L.ext yF).Xf).mono ?_;rintro e w3 ⟨rfl,D⟩;have C:=L.ext (((bz.refl _ _).drew).trans D);refine⟨trivial,?_⟩;have e1:kV (k:Int)=gj k:=by
     unfold kV;grind
    have hl:=ant k zo zo;rw[e1] at hl ⊢;have Kz:s2.out.length=s.out.length:=zg;rw[LY _ _ zg];refine(GN C hx _ zg).mono ?_;rintro e w4 ⟨⟨v3,rfl⟩,E,P⟩;rw[iV];exact⟨((o.trans X).trans (bz.toM (((bz.refl _ _).drew).trans D))).trans P,J,_,E⟩
   rw[aJm g.st g.na g.sn K,fU];have hlen:s.out.length<=900000100:=zo;cases hk:s.seen.idxOf? i with
   | some k=>
    have sS:k<s.seen.length:=(List.idxOf?_eq_some_iff.1 hk).1;refine bD ?_;refine⟨fun x w'=>w'=w2/\x 9=zi ((k+1:Nat):Int),eQ,?_⟩;rintro x w' ⟨rfl,wX⟩ d;refine S1 (k+1) nm s1 w' _ wX zo g (bz.refl _ _) F ?_;grind [MK,aZ9]
   | none=>
    refine bD ?_;refine⟨fun x w'=>x 9=zi ((s.seen.length+1:Nat):Int)/\(∃ z,lI ρ n tr wb pb so T cs z w' { s1 with seen:=s1.seen++[i] })/\ml wb pb w2 w',?_,?_⟩
    .refine bD ?_;refine⟨fun _ w'=>∃ r c es,lI ρ n tr wb pb so T cs (.map (O r)) w' s1/\wb<r/\w'.heap[r]?=O (.map es c)/\EA (Av ρ s1.seen 0) es.toList/\ml wb pb w2 w',?_,?_⟩
     .rcases id g.na with⟨g0,rfl⟩| ⟨r',c,es,rfl,g1,g2,g3⟩
      .have Xl:=bf B;refine cG B ?_;obtain⟨m,k2,H,I⟩:=g.names hx g0 N B zg J;exact⟨_,_,_,m,H,I,by rw[g0];rfl,k2⟩
      .refine cG B ?_;grind [bz.refl]
     .rintro _ w' ⟨r',c,es,m,k2,H,I,k5⟩ d;obtain⟨ad2,aVo,aVp,ff,rV⟩:=id m.bu;have hes:es.size=s.seen.length:=by
       have:=anw I;grind [anv]
      have iA:s.seen.length<=1000000000:=zo;refine cG ff ?_;rw[aI2 (k:=87) (e:=3) zk H,hes];refine cG ff ?_;obtain⟨ref,hbi,-⟩:=m.st.var i K;have lQ:Hq (ρ i) (Av ρ s1.seen 0) 0=none:=by
       rw[ads m.st.inj K s1.seen 0 0 m.sn,fU,hk];rfl
      rw[awr (k:=87) (e:=3) zk zk H I (fun c v hc=>?_) hbi lQ]
      .obtain⟨m1,m2⟩:=m.name hx k2 H I K (e:={ key:=pp (ρ i),val:=zi ((s.seen.length:Int)+1),born:=c }) J zg;refine⟨?_,⟨_,m1⟩,k5.trans m2⟩;simp only[jg,if_true];grind [VB]
      .obtain⟨j,E,rfl⟩:=adr hc;obtain⟨ref,h5,-⟩:=m.st.var j (m.sn j E);exact yH
    .rintro x w' ⟨wX,⟨z,L⟩,X⟩ d;refine S1 (s.seen.length+1) z _ w' _ wX zo L X F ?_;grind [MK,aZ9,Ws.add]
  | comp name l=>
   have hu':=hu;unfold dH at hu;obtain⟨b,av,vs,rfl,-⟩:=hu;refine bD ?_;refine(ih.comp (s:={ s with fuel:=s.fuel-1 }) (least:=least) hx ⟨_,g⟩ hu' p (by grind [Ws.cS]) Aw hr).mono ?_;rintro e w3 hp;have Ht:=hp.of (B':=s.cS) o (by simp only[Ws.cS];omega);cases r with
   | none=>
    obtain⟨g1,rfl,g2⟩:=Ht;refine bD ?_;exact⟨g1,J,g2⟩
   | some s'=>
    obtain⟨g1,rfl,g2⟩:=Ht;refine bD ?_;exact⟨g1,J,g2⟩
