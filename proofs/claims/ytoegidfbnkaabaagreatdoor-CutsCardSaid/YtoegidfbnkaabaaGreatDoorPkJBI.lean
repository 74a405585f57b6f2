/- A part of one proof (KZCuts, KZCutsb, KZCutsc). -/
import Derived.Test.YtoegidfbnkaabaaGreatDoorPkJBH
set_option linter.all false
set_option maxRecDepth 100000
set_option maxHeartbeats 8000000
open Option renaming some → O, none → V
open Go renaming Value → Y, World → Z
open Bool renaming true → A, false → G
open Go.Obj renaming cells → ae
open Go.Ending renaming returned → ah
open Go.Value renaming nilIface → ai, iface → aj, tuple → ak, pointer → aq
open Option.some renaming injEq → aZG, inj → aZN
open Go.Calls renaming mono → aZJ
open List renaming getElem?_eq_getElem → aZM, drop_eq_getElem_cons → aZP, length_cons → aZQ, range → aZ9, getD_eq_getElem?_getD → a0c, range' → a0j
open Prod.mk renaming injEq → aZ6
open Option renaming map_eq_some_iff → aZ7
open Nat renaming lt_of_lt_of_le → a0b
open Go.World renaming cell? → a0l
open UInt8 renaming ofNat → a0M
open List.cons renaming injEq → a1X
open Go.OpenSpec renaming ofChange → a3A
open Go.Proofs.Tryz renaming prog → a9Q
open Go.Proofs.Tryz
namespace Go.Proofs.YtoegidfbnkaabaaGreatDoor
open P
open Go.RowKit Sx
variable{D F:Nat->Prop}{E:En}{c d f j k m n qb xb:Nat}{s:Bs}{v:Y}{vars:List Bs}{vs:List Y}{w w' w1:Z}
open Go.ChangeShapes Go.WideShapes Go.ChangeMaps
def asx{n:Int}(h:(Lit.int .i64 n).wf=A):-9223372036854775808<=n/\n<=9223372036854775807:=by
 have h:(decide ((-9223372036854775808:Int)<=n) && decide (n<=9223372036854775807))=true:=h;grind
def aTe(os:Os)(started:os.Started)(H:Type)(enc:TypeId×Y->H) :
  ReturnsInHanded {} Tryz.checked os 6 .any (fun w args=>(Rows.cutsSpec.pre enc a9Q Tryz.f6 [] G w args/\laidMetH a9Q Rows.cutsRow.laid w)/\sizedMet enc a9Q Tryz.f6 (a3A Rows.cutsSpec) G w args)
   (Rows.cutsSpec.post enc a9Q Tryz.f6 G A G G):=by
 refine aSE (C:=Tryz.checked) (X:=fun w _=>laidMetH a9Q Rows.cutsRow.laid w) (by grind [laidMetH.of_heap]) Tryz.own started zk func6
  (ChangeSpec.witness_shaped (enc:=enc) (C:=Tryz.checked) (os:=os) (X:=fun w _=>laidMetH a9Q Rows.cutsRow.laid w) G (Y9 Rows.cutsRow.laid os) #[zi 0,zi 0,.bool G] 8 (aSD _ _) (World.shaped_of_ZipB zk zk) zk zk zk (aSK os _)) ?_
 intro W base args ds gs before b f k l m;have a:∀ (j:Nat) t v,Tryz.f6.params[j]?=O t->args[j]?=O v->Value.okWide a9Q W .any base t v:=b;have c:=f;obtain⟨p,q,d,n,rfl,B,D⟩:=f;have g:DataW.TrodAll enc a9Q W 0 (fun _=>A) A Tryz.f6.params.toList args.toList ds p:=d;rw[Tryz.params6] at g a;obtain⟨v0,v1,v2,d0,d1,d2,p0,p1,p2,rfl,rfl,rfl,o,r,s⟩:=trodAll_three g;obtain⟨rfl,rfl⟩:=trodVars_none n;obtain⟨u,rfl,rfl,rfl,h⟩:=open_int underlying3 (a 0 3 v0 J J) o;obtain⟨x,rfl,rfl,rfl,i⟩:=open_int underlying3 (a 1 3 v1 J J) r;obtain⟨b2,rfl,rfl,rfl⟩:=open_bool underlying4 (a 2 4 v2 J J) s;have y:CR W:=aSA l m zk zk zk zk zk zk zk;refine(aSZ u x b2 W (asx h) (asx i) y).mono fun e E ⟨z,he⟩=>?_;subst he;refine⟨_,J,_,_,_,[],[],[],c,?_,?_,?_,aSB z _,zg⟩
 .exact trodAll_mk1 (shut_bool underlying4 A)
 .exact trodAll_mk3 (shut_int underlying3 h) (shut_int underlying3 i) (shut_bool underlying4 b2)
 .rfl
def aTi:Rows.CutsSaid:=
 OpenClaim.holds_of_wide 6 Tryz.f6 J J J J J J J ⟨J,J,J,J,J⟩ J J J J J zk func6 zk
  (of_decide_eq_true zk) (by unfold Func.isWrapper;first | (rw[zip (by decide +kernel)];kernel_rfl) | (rw[bZ (by decide +kernel)];exact⟨J,J⟩))
  (fun os started H enc _=>aTe os started H enc)
end Go.Proofs.YtoegidfbnkaabaaGreatDoor
namespace Go.Proofs.YtoegidfbnkaabaaGreatDoor
open P
open Go
theorem cuts_card:Rows.CutsCardSaid:=
 Claim7.holds_tied_plain_at .later [] [.data,.data,.data,.data,.handle,.sentinel,.sentinel,.data,.data,.data,.pinned] A (A, "71501c33516f01a4d740c2783eba7adf29c72c81702371d8bc22e96ca6284450") A
  aTi zg zk zg cuts_row_tie J ⟨J,J⟩ zk J
  (fun f fn b a=>by
   obtain rfl:f=6:=aZN ((show Tryz.prog.funcNamed "horn/hornkeep.Cuts" = O 6 by kernel_rfl).symm.trans b) |>.symm;obtain rfl:fn=Tryz.f6:=(aZN (Tryz.func6.symm.trans a)).symm;exact⟨zk,fun j t ht=>by
    rw[Tryz.params6] at ht;have c:t=4\/t=3:=by
     grind
    rcases c with rfl | rfl
    .exact(show Tryz.prog.wantsStandIn 4=G by kernel_rfl)
    .exact(show Tryz.prog.wantsStandIn 3=G by kernel_rfl)⟩)
  zk
end Go.Proofs.YtoegidfbnkaabaaGreatDoor
