/- A part of one proof (PureC5, PureC6, KL5, KZCanon, KZCanonb, KZCanonc). -/
import Derived.Test.YtoegidfbnkaabaaGreatDoorPkIBG
import Derived.Test.YtoegidfbnkaabaaGreatDoorTie
import Derived.Test.YtoegidfbnkaabaaGreatDoorCards
import Derived.SevenTiedAt
set_option linter.all false
set_option maxRecDepth 100000
set_option maxHeartbeats 8000000
open Option renaming some → O
open Go renaming Value → Y, World → Z
open Bool renaming true → A, false → G
open Go.Ending renaming returned → ah
open Go.Value renaming tuple → ak
open Option.some renaming injEq → a07
open Nat renaming le_refl → a1c
open List renaming range → a1t
open Go.Proofs.Tryz renaming prog → bbB
namespace Go.Proofs.YtoegidfbnkaabaaGreatDoor
open P
variable{k k' n nv:Nat}
namespace P
mutual
def lX (nv:Nat):Ex->Prop
 | .mk kind name n k args=>(kind=97/\(name=[91,93]\/(jH name=1/\vR name)))\/(kind=110/\-999999999<=n/\n<=999999999)\/(kind=118/\k<nv) \/
  (kind=99/\((args.length=2/\name∈[[43],[45],[42],[47,47],[46]])\/(jH name=1/\vR name))/\args≠[]/\lh nv args)
 termination_by structural x=>x
def lh (nv:Nat):List Ex->Prop
 | []=>True
 | x::r=>lX nv x/\lh nv r
 termination_by structural x=>x
end
mutual
theorem lX.mono {n m:Nat} (h:n<=m):∀ (x:Ex),lX n x->lX m x
 | .mk kind name e k args,hx=>by
  unfold lX at hx ⊢;rcases hx with a | a | ⟨a,b⟩| ⟨a,b,c,d⟩
  .grind
  .omega
  .omega
  .exact .inr (.inr (.inr ⟨a,b,c,lh.mono h args d⟩))
 termination_by structural x=>x
theorem lh.mono {n m:Nat} (h:n<=m):∀ (l:List Ex),lh n l->lh m l
 | [],_=>by grind [lh]
 | x::r,hx=>by
  unfold lh at hx ⊢;exact⟨lX.mono h x hx.1,lh.mono h r hx.2⟩
 termination_by structural x=>x
end
theorem lh.nil:lh n []:=by unfold lh;trivial
def lh.snoc{n:Nat}{x:Ex}(hx:lX n x):∀ {a:List Ex},lh n a->lh n (a++[x])
 | [],_=>by show lh n [x];unfold lh;exact⟨hx,lh.nil⟩
 | y::a,h=>by
  show lh n (y::(a++[x]));unfold lh at h ⊢;exact⟨h.1,lh.snoc hx h.2⟩
theorem lX.two{name:Bs}{a b:Ex}(c:name∈[[43],[45],[42],[47,47],[46]]\/(jH name=1/\vR name))(d:lX n a)(e:lX n b):lX n (.mk 99 name 0 0 [a,b]):=by
 unfold lX;exact .inr (.inr (.inr ⟨J,c.imp (fun h=>⟨J,h⟩) id,zs,by unfold lh lh;exact⟨d,e,lh.nil⟩⟩))
structure TkW(T:List Tok):Prop where
 word:∀ u∈T,u.kind=1->jH u.text=1/\vR u.text
 num:∀ u∈T,u.kind=3->u.text.all digit=A/\u.text.length<=9
def RV:∀ (f:Nat) (r:Bs) (i:Nat) (T:List Tok),lB f r i=O (.inr T)->∀ u∈T,u.kind=0\/u.kind=4\/(u.kind=jH u.text/\vR u.text)
 | 0,r,i,T,h=>by rw[lB] at h;cases h
 | f+1,[],i,T,h=>by
  rw[lB] at h;grind
 | f+1,c::r,i,T,h=>by
  have key:∀ (x:Option (Sum Nat (List Tok))) (t:Tok),(∀ l,x=O (.inr l)->∀ u∈l,u.kind=0\/u.kind=4\/(u.kind=jH u.text/\vR u.text))->(t.kind=0\/t.kind=4\/(t.kind=jH t.text/\vR t.text)) ->
    (match x with | some (.inr l)=>O (.inr (t::l)) | y=>y)=O (.inr T)->∀ u∈T,u.kind=0\/u.kind=4\/(u.kind=jH u.text/\vR u.text):=by
   grind
  rw[lB] at h;split at h
  .exact RV f r (i+1) T h
  split at h
  .dsimp only at h;split at h
   .grind
   .rename_i d hw;refine key _ _ (fun l a=>RV f _ _ l a) (.inr (.inr ⟨J,hw,fun b e=>?_⟩)) h;grind [decide,cls,List.all_eq_true,List.all_takeWhile]
  split at h
  .exact key _ _ (fun l a=>RV f _ _ l a) (.inr (.inl J)) h
  split at h
  .grind
  .rename_i s g;exact key _ _ (fun l a=>RV f _ _ l a) (.inr (.inl J)) h
theorem aUz{t:Tok}{v v':List Bs}{x:Ex}(h:wN t k v = .ok x k' v'):lX v'.length x/\v.length<=v'.length:=by
 unfold wN at h;split at h
 .rename_i j e;injection h with a b c;subst a b c;have d:j<v.length:=by
   grind [List.idxOf?_eq_some_iff]
  exact⟨by unfold lX;exact .inr (.inr (.inl ⟨J,d⟩)),a1c _⟩
 .split at h
  .grind
  .injection h with a b c;subst a b c;exact⟨by unfold lX;exact .inr (.inr (.inl ⟨J,zs⟩)),zs⟩
theorem aiK{nv:Nat}{x:Ex}(hx:lX nv x):∀ {all:List Ex},lh nv all->lX nv (vj all x)
 | [],_=>hx
 | a::l,h=>by
  unfold lh at h;exact lX.two (.inl zg) h.1 (aiK hx h.2)
theorem atH:lX nv (.mk 97 [91,93] 0 0 []):=by unfold lX;exact .inl ⟨J,.inl J⟩
def aUA{T:List Tok}(b:TkW T){l:Nat}{o:Bs}(h:pz T l k=O o):o∈[[43],[45],[42],[47,47],[46]]\/(jH o=1/\vR o):=by
 have hm:=List.mem_of_find?_eq_some h;unfold ops at hm;split at hm<;>simp only[List.mem_cons,List.not_mem_nil,or_false] at hm
 .grind
 .rcases hm with rfl | rfl | rfl
  .grind
  .grind
  .exact .inr ⟨zd,zd,fun c a=>by simp only[List.mem_cons,List.not_mem_nil,or_false] at a;rcases a with rfl | rfl | rfl<;>decide⟩
structure COk(T:List Tok)(f:Nat):Prop where
 Bx:∀ k v d x k' v',lC T f k v d=O (.ok x k' v')->lX v'.length x/\v.length<=v'.length
 args:∀ k v d a acc x k' v',lh v.length acc->mR T f k v d a acc=O (.ok x k' v')->lh v'.length x/\v.length<=v'.length/\x≠[]
 list:∀ k v d x k' v',oq T f k v d=O (.ok x k' v')->lX v'.length x/\v.length<=v'.length
 elems:∀ k v d acc x k' v',lh v.length acc->oT T f k v d acc=O (.ok x k' v')->lh v'.length x/\v.length<=v'.length
 oper:∀ l k v d x k' v',gW T f l k v d=O (.ok x k' v')->lX v'.length x/\v.length<=v'.length
 more:∀ l y k v d x k' v',lX v.length y->mS T f l y k v d=O (.ok x k' v')->lX v'.length x/\v.length<=v'.length
def cOk{T:List Tok}(g:TkW T):∀ f,COk T f
 | 0=>⟨by grind [lC],by grind [mR],by grind [oq],by grind [oT],by grind [gW],by grind [mS]⟩
 | f+1=>by
  have ih:=cOk g f;refine⟨?_,?_,?_,?_,?_,?_⟩
  .intro k v d x k' v' h;rw[lC] at h;split at h
   .grind
   split at h
   .rename_i hk;simp only[a07,cd.ok.injEq] at h;obtain⟨rfl,rfl,rfl⟩:=h;have hm:=N0 (T:=T) (k:=k) zo;obtain⟨a,b⟩:=Sb (g.num _ hm hk).1 (g.num _ hm hk).2;exact⟨by unfold lX;omega,a1c _⟩
   split at h
   .grind [a07,aUz]
   split at h
   .rename_i hk;have hm:=N0 (T:=T) (k:=k) zo;split at h
    .obtain⟨a,i,v1,e,c⟩:=ee h;obtain⟨g1,g2,g3⟩:=ih.args _ _ _ _ _ _ _ _ lh.nil e;obtain⟨rfl,rfl,rfl⟩:=mV c;exact⟨by unfold lX;exact .inr (.inr (.inr ⟨J,.inr (g.word _ hm hk),g3,g1⟩)),g2⟩
    .simp only[a07,cd.ok.injEq] at h;obtain⟨rfl,rfl,rfl⟩:=h;exact⟨by unfold lX;exact .inl ⟨J,.inr (g.word _ hm hk)⟩,a1c _⟩
   split at h
   .split at h
    .rename_i hk;simp only[a07,cd.ok.injEq] at h;obtain⟨rfl,rfl,rfl⟩:=h;have hm:=N0 (T:=T) (k:=k+1) zo;obtain⟨a,b⟩:=Sb (g.num _ hm hk).1 (g.num _ hm hk).2;exact⟨by unfold lX;omega,a1c _⟩
    grind
   split at h
   .obtain⟨a,i,v1,e,c⟩:=ee h;obtain⟨g1,g2⟩:=ih.oper _ _ _ _ _ _ _ e;obtain⟨rfl,rfl,rfl⟩:=mV c;grind
   split at h
   .exact ih.list _ _ _ _ _ _ h
   .simp at h
  .intro k v d a acc x k' v' j h;rw[mR] at h;obtain⟨y,i,v1,e,c⟩:=ee h;obtain⟨g1,g2⟩:=ih.oper _ _ _ _ _ _ _ e;have m:=(lh.mono g2 _ j).snoc g1;split at c
   .obtain⟨q1,q2,q3⟩:=ih.args _ _ _ _ _ _ _ _ m c;exact⟨q1,zo,q3⟩
   grind
  .intro k v d x k' v' h;rw[oq] at h;split at h
   .simp only[a07,cd.ok.injEq] at h;obtain⟨rfl,rfl,rfl⟩:=h;simp_all [atH,a1c]
   .obtain⟨all,i,v1,e,c⟩:=ee h;obtain⟨g1,g2⟩:=ih.elems _ _ _ _ _ _ _ lh.nil e;split at c
    .obtain⟨y,s,v2,n,p⟩:=ee c;obtain⟨q1,q2⟩:=ih.oper _ _ _ _ _ _ _ n;obtain⟨rfl,rfl,rfl⟩:=mV p;grind [aiK,lh.mono]
    .obtain⟨rfl,rfl,rfl⟩:=mV c;grind [aiK,atH]
  .intro k v d acc x k' v' j h;rw[oT] at h;obtain⟨y,i,v1,e,c⟩:=ee h;obtain⟨g1,g2⟩:=ih.oper _ _ _ _ _ _ _ e;have m:=(lh.mono g2 _ j).snoc g1;split at c
   .obtain⟨q1,q2⟩:=ih.elems _ _ _ _ _ _ _ m c;exact⟨q1,zo⟩
   grind
  .intro l k v d x k' v' h;rw[gW] at h;split at h
   .exact ih.Bx _ _ _ _ _ _ h
   .obtain⟨y,i,v1,e,c⟩:=ee h;obtain⟨g1,g2⟩:=ih.oper _ _ _ _ _ _ _ e;obtain⟨q1,q2⟩:=ih.more _ _ _ _ _ _ _ _ g1 c;exact⟨q1,zo⟩
  .intro l y k v d x k' v' q h;rw[mS] at h;split at h
   .grind
   .rename_i o r;obtain⟨z,i,v1,e,c⟩:=ee h;obtain⟨g1,g2⟩:=ih.oper _ _ _ _ _ _ _ e;obtain⟨q1,q2⟩:=ih.more _ _ _ _ _ _ _ _ (lX.two (aUA g r) (lX.mono g2 _ q) g1) c;grind
mutual
theorem lX.made {nv:Nat}:∀ (x:Ex),lX nv x->Bg nv (made (a1t nv) x)
 | .mk kind name n k args,h=>by
  unfold lX at h;rcases h with⟨rfl,h⟩| ⟨rfl,h⟩| ⟨rfl,h⟩| ⟨rfl,b,c,a⟩
  .simp_all [made,zip,trivial,Bg]
  .simp_all [made,bI,zip,trivial,Bg]
  .simp_all [made,bI,zip,trivial,Bg,List.getD_eq_getElem?_getD]
  .simp only[made];rw[bI zo,bI zo,bI zo];unfold Bg;obtain⟨g1,g2⟩:=lh.made args a;grind
 termination_by structural x=>x
theorem lh.made {nv:Nat}:∀ (l:List Ex),lh nv l->Pj nv (km (a1t nv) l)/\(km (a1t nv) l).length=l.length
 | [],_=>by simp only[km];unfold Pj;exact⟨trivial,J⟩
 | x::r,h=>by
  unfold lh at h;obtain⟨g1,g2⟩:=lh.made r h.2;simp only[km];unfold Pj;exact⟨⟨lX.made x h.1,g1⟩,zg⟩
 termination_by structural x=>x
end
mutual
theorem atJ (S:List Nat):∀ (t:Tm),lz (lT S t)=lz t
 | .var _=>by simp_all [lT,lz]
 | .atom _=>by grind [lT]
 | .int _=>by grind [lT]
 | .comp n l=>by simp only[lT,lz,atL S l]
 termination_by structural t=>t
theorem atL (S:List Nat):∀ (l:List Tm),tI (oK S l)=tI l
 | []=>by grind [oK]
 | a::r=>by simp only[oK,tI,atJ S a,atL S r]
 termination_by structural l=>l
end
structure atM(nv:Nat)(x:Ex):Prop where
 ok:gR nv x
 sz:gy x<=2001
 can:lX nv x
 nv:nv<=12
def aUC(f:∀ s x k vs,nY tX s = .ok x k vs->atM vs.length x){s:Bs}{x:Ex}{vs:List Bs}(h:nY tX s = .ok x k vs)(m:(xD vs.length x).out.length<=2000) :
  (∃ b k' g,nY tX (xD vs.length x).out = .ok b k' g/\(xD g.length b).out=(xD vs.length x).out)\/∃ e a,nY tX (xD vs.length x).out = .err e a/\(e=4\/e=2):=by
 have hx:=f _ _ _ _ h;obtain⟨hw,-⟩:=aeh hx.ok (by have:=hx.sz;omega);obtain⟨T,n,i⟩:=aUy hx.nv (lX.made x hx.can) hw;obtain⟨S,o⟩:=cg (xD vs.length x);rw[<- o] at m n i hw ⊢;have p:nY tX S.out=tX T:=by simp_all [nY,bI]
 obtain⟨r,hr⟩:=(tot T (rY T)).oper 0 0 [] 0 zo (by grind [rY]);rcases i _ _ hr with⟨a,rfl⟩| ⟨b,k',rfl,hk,q,hm⟩
 .exact .inr ⟨4,a,by rw[p];unfold tX;rw[hr],.inl J⟩
 .have j:nY tX S.out = .ok b k' (names S.seen.length):=by simp_all [tX,if_true]
  have c:=f _ _ _ _ j;have l:(names S.seen.length).length=S.seen.length:=aek _;rw[l] at c;refine .inl ⟨b,k',_,j,?_⟩;have t:gy b=gy x:=by
   rw[<- XZ (a1t S.seen.length) b c.ok,hm,atJ,XZ _ x hx.ok]
  obtain⟨d,-⟩:=aeh c.ok (by have:=c.sz;omega);rw[t,q] at d;have:rn S=xD S.seen.length b:=by injection d with d;injection d
  rw[l,<- this];rfl
end P
open Go.RowKit Sx
theorem P.atN{w:Bs}(h:jH w=3):w.all P.digit=A/\w.length<=9:=by
 unfold jH at h;grind
def P.aUD(s:Bs)(x:Ex)(k:Nat)(vs:List Bs)(h:nY tX s = .ok x k vs):atM vs.length x:=by
 obtain⟨f,i⟩:=P.apI (s:=s) h;refine⟨f,i,?_,?_⟩;all_goals
  unfold nY at h;split at h
  .cases h
  .split at h
   .cases h
   .rename_i T a;have b:=NY a;have j:AP T:=⟨Jc _ _ _ _ (by rw[IU,a]),fun u hu hk=>by
     obtain⟨c,r,e,-⟩:=(b.tok u hu).2.2.1 hk;rw[e];simp,fun u hu hk=>((b.tok u hu).2.1 hk).2.1⟩
    have l:TkW T:=⟨fun u hu hk=>by
      rcases RV _ _ _ _ (by rw[IU,a]) u hu with g | g | ⟨g1,g2⟩
      .omega
      .omega
      .exact zg,fun u hu hk=>by
      rcases RV _ _ _ _ (by rw[IU,a]) u hu with g | g | ⟨g1,g2⟩
      .omega
      .omega
      .exact(by grind [P.atN,atN])⟩
    unfold tX at h;split at h
    .rename_i y k' m d;split at h
     .cases h;first
       | exact((cOk l _).oper _ _ _ _ _ _ _ d).1
       | exact((TI (XQ j fun u hu hk=>(b.tok u hu).2.2.2.1 hk) _).oper _ _ _ _ _ _ _ ⟨zs,zs⟩ d).1
     .cases h
    .cases h
    .cases h
def P.aUE:nY tX [] = .err 2 0:=zk
def aUF(s:Bs){w:Z}(N:s.length<=9223372036854775807)(n:Gr w):Calls bbB 8 #[aT s] w fun e w'=>Ext w w'/\e = ah (.bool A):=by
 suffices H:∀ R:Ending->Z->Prop,(∀ w',Ext w w'->R (ah (.bool A)) w')->Calls bbB 8 #[aT s] w R from H _ yF;intro R m;refine aTP ?_;refine(aUk n).mono ?_;rintro e w1 ⟨u,rfl⟩;refine bG ?_;by_cases hlen:s.length<=4096
 .refine⟨fun z w'=>w'=w1,?_,?_⟩
  .refine⟨fun z w'=>w'=w1/\z 16 = .bool G,?_,?_⟩
   .have o:¬ (s.length:Int) > 4096:=zo;exact fm o
   .rintro z w' ⟨rfl,g⟩ y;exact fm g
  .rintro z w2 rfl y;have f:=n.ext u;refine Calls.mono (afA s w2 zo f.two f.pow f.err) ?_;rintro e w3 ⟨C,d⟩;have j:=u.trans C;have i:=n.ext j;unfold P.term at d;have g:((0:Nat):Int)=0:=rfl;have B:((2:Nat):Int)=2:=rfl;have D:((4:Nat):Int)=4:=rfl;cases hr:nY tX s with
   | err c a=>
    rw[hr] at d;have d:e = ah (ak #[aT [],zi (c:Int),zi (a:Int)]):=d;subst d;have E:(a:Int) ≥ 0:=zo;by_cases F:c=0
    .subst F;refine cO g ?_;refine Calls.mono (afA [] w3 zs i.two i.pow i.err) ?_;rintro e I ⟨l,b⟩;unfold P.term at b;rw[P.aUE] at b;have b:e = ah (ak #[aT [],zi ((2:Nat):Int),zi ((0:Nat):Int)]):=b;subst b;refine dF g B ?_;exact m _ (j.trans l)
    .have p:¬ (c:Int)=0:=zo;refine dF p E ?_;grind
   | ok x k vs=>
    rw[hr] at d;have d:e = ah (ak #[aT ((xD vs.length x).out),zi 0,zi (-1)]):=d;subst d;by_cases K:(xD vs.length x).out.length<=2000
    .have q:¬ (((xD vs.length x).out.length:Nat):Int) > 2000:=zo;refine cO q ?_;refine Calls.mono (afA (xD vs.length x).out w3 zo i.two i.pow i.err) ?_;rintro e I ⟨l,b⟩;unfold P.term at b;rcases aUC P.aUD hr K with⟨L,k',M,r,t⟩| ⟨c,a,r,t⟩
     .rw[r] at b;have b:e = ah (ak #[aT ((xD M.length L).out),zi 0,zi (-1)]):=b;rw[t] at b;subst b;refine bG ?_;exact m _ (j.trans l)
     .rw[r] at b;have b:e = ah (ak #[aT [],zi (c:Int),zi (a:Int)]):=b;subst b;rcases t with rfl | rfl
      .refine cO D ?_;exact m _ (j.trans l)
      .refine cO B ?_;exact m _ (j.trans l)
    .have q:(((xD vs.length x).out.length:Nat):Int) > 2000:=zo;refine cO q ?_;grind
 .refine⟨fun _ _=>False,?_,fun _ _ h=>h.elim⟩;refine⟨fun z w'=>w'=w1/\z 16 = .bool A,?_,?_⟩
  .have o:(s.length:Int) > 4096:=zo;exact fm o
  .rintro z w' ⟨rfl,g⟩ y;refine cO g ?_;grind
open Go.ChangeShapes Go.WideShapes Go.ChangeMaps
def aUH(os:Os)(started:os.Started)(H:Type)(enc:TypeId×Y->H) :
  ReturnsInHanded {} Tryz.checked os 8 .any (fun w args=>(Rows.canonSpec.pre enc bbB Tryz.f8 [] G w args/\laidMetH bbB Rows.canonRow.laid w)/\sizedMet enc bbB Tryz.f8 (OpenSpec.ofChange Rows.canonSpec) G w args)
   (Rows.canonSpec.post enc bbB Tryz.f8 G A G G):=by
 refine aUb (C:=Tryz.checked) (X:=fun w _=>laidMetH bbB Rows.canonRow.laid w) (by grind [laidMetH.of_heap]) Tryz.own started zk Tryz.func8
  (ChangeSpec.witness_shaped (enc:=enc) (C:=Tryz.checked) (os:=os) (X:=fun w _=>laidMetH bbB Rows.canonRow.laid w) G (Z9 Rows.canonRow.laid os) #[aT []] 8 (aUa _ _) (World.shaped_of_ZipB zk zk) zk zk zk (aUg os _)) ?_
 intro W base args ds gs before b f h i k;have a:∀ (j:Nat) t v,Tryz.f8.params[j]?=O t->args[j]?=O v->Value.okWide bbB W .any base t v:=b;have c:=f;obtain⟨p,q,d,l,rfl,s,u⟩:=f;have g:DataW.TrodAll enc bbB W 0 (fun _=>A) A Tryz.f8.params.toList args.toList ds p:=d;rw[Tryz.params8] at g a;obtain⟨v0,d0,rfl,rfl,m⟩:=trodAll_one g;obtain⟨rfl,rfl⟩:=trodVars_none l;obtain⟨s0,rfl,rfl,rfl,n⟩:=open_string Tryz.underlying9 (a 0 9 v0 J J) m;have o:Gr W:=aT7 i k zk zk zk zk zk zk zk;refine(aUF s0.data.toList (by simp only[Array.length_toList];have:s0.data.size=s0.size:=rfl;grind [maxLen]) o).mono fun e x ⟨r,he⟩=>?_;subst he;refine⟨_,J,_,_,_,[],[],[],c,?_,?_,?_,aT8 r _,zg⟩
 .exact trodAll_mk1 (shut_bool Tryz.underlying4 A)
 .exact trodAll_mk1 (shut_string Tryz.underlying9 n)
 .rfl
def aUL:Rows.CanonSaid:=
 OpenClaim.holds_of_wide 8 Tryz.f8 J J J J J J J ⟨J,J,J,J,J⟩ J J J J J zk Tryz.func8 zk
  (of_decide_eq_true zk) (by unfold Func.isWrapper;first | (rw[zip (by decide +kernel)];kernel_rfl) | (rw[bI (by decide +kernel)];exact⟨J,J⟩))
  (fun os started H enc _=>aUH os started H enc)
end Go.Proofs.YtoegidfbnkaabaaGreatDoor
namespace Go.Proofs.YtoegidfbnkaabaaGreatDoor
open P
open Go
theorem canon_card:Rows.CanonCardSaid:=
 Claim7.holds_tied_plain_at .later [] [.data,.data,.data,.data,.handle,.sentinel,.sentinel,.data,.data,.data,.pinned] A (A, "71501c33516f01a4d740c2783eba7adf29c72c81702371d8bc22e96ca6284450") A
  aUL zg zk zg canon_row_tie J ⟨J,J⟩ zk J
  (fun f fn b a=>by
   obtain rfl:f=8:=Option.some.inj ((show Tryz.prog.funcNamed "horn/hornkeep.Canon" = O 8 by kernel_rfl).symm.trans b) |>.symm;obtain rfl:fn=Tryz.f8:=(Option.some.inj (Tryz.func8.symm.trans a)).symm;exact⟨zk,fun j t ht=>by
    rw[Tryz.params8] at ht;have c:t=9:=by
     grind
    subst c;exact(show Tryz.prog.wantsStandIn 9=G by kernel_rfl)⟩)
  zk
end Go.Proofs.YtoegidfbnkaabaaGreatDoor
