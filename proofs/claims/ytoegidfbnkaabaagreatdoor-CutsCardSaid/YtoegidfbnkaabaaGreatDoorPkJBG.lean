/- A part of one proof (PureCt, PureCu). -/
import Derived.Test.YtoegidfbnkaabaaGreatDoorPkJBF
set_option linter.all false
set_option maxRecDepth 100000
set_option maxHeartbeats 8000000
open Option renaming some → O, none → V
open Go renaming Value → Y, World → Z
open Bool renaming true → A, false → G
open Go.Obj renaming cells → ae
open Go.Ending renaming returned → ah
open Go.Value renaming nilIface → ai, iface → aj, tuple → ak, pointer → aq
open Option.some renaming injEq → aZG, inj → aZN
open Go.Calls renaming mono → aZJ
open List renaming getElem?_eq_getElem → aZM, drop_eq_getElem_cons → aZP, length_cons → aZQ, range → aZ9, getD_eq_getElem?_getD → a0c, range' → a0j
open Prod.mk renaming injEq → aZ6
open Option renaming map_eq_some_iff → aZ7
open Nat renaming lt_of_lt_of_le → a0b
open Go.World renaming cell? → a0l
open UInt8 renaming ofNat → a0M
open List.cons renaming injEq → a1X
open Go.OpenSpec renaming ofChange → a3A
open Go.Proofs.Tryz renaming prog → a9Q
open Go.Proofs.Tryz
namespace Go.Proofs.YtoegidfbnkaabaaGreatDoor
open P
open Go.RowKit Sx
variable{D F:Nat->Prop}{E:En}{c d f j k m n qb xb:Nat}{s:Bs}{v:Y}{vars:List Bs}{vs:List Y}{w w' w1:Z}
namespace P
def FD:Nat->Bs
 | 0=>[]
 | m+1=>FD m++([110,40]++ff (m+1)++[41,46,32])
def Lu(m j:Nat):Bs:=FD m++[111,110,101,40,88,41,32,58,45,32,110,40,88,41,44,32,88,32,62,61,32]++ff j++[44,32,33,46,32,111,110,101,40,48,41,46,32,98,105,103,40,88,41,32,58,45,32,110,40,88,41,44,32,92,43,32,88,32,60,32]++ff j++[46,32,107,105,110,100,40,88,44,89,41,32,58,45,32,110,40,88,41,44,32,40,88,32,60,32]++ff j++[32,45,62,32,89,32,61,32,108,111,119,32,59,32,88,32,61,32]++ff j++[44,32,33,32,44,32,89,32,61,32,105,116,32,59,32,89,32,61,32,104,105,103,104,41,46,32]
def ahw:Bs:=[111,110,101,40,88,41,46]
def ahx:Bs:=[98,105,103,40,88,41,46]
def ahy:Bs:=[107,105,110,100,40,88,44,89,41,46]
def Ob(i:Nat):Bs:=[88,32,61,32]++ff i
def Zc(j i:Nat):Bs:=Ob i++[44,32,89,32,61,32]++(if i=j then [105,116] else [108,111,119])
def Zd(m j:Nat)(machine:Bool):Bool:=firstT 2000 20000 (Lu m j) ahw machine == O (Ob j,0) && (match program (Lu m j) with
 | .err _ _=>G
 | .ok cs _ _=>W5 2000 20000 (m+2-j) (Gx cs ahx machine) == O ((a0j j (m+1-j)).map (fun i=>(Ob i,0))++[([],6)]) &&
  W5 2000 20000 (j+1) (Gx cs ahy machine) == O ((a0j 1 j).map (fun i=>(Zc j i,0))++[([],6)]))
theorem aSR(mc:Bool):∀ m j,m<8->j<m+1->Zd (m+1) (j+1) mc=true:=by
 intro m j h k;cases mc<;>rcases m with _|_|_|_|_|_|_|_|m<;>rcases j with _|_|_|_|_|_|_|_|j<;>first|(exfalso;omega)|decide +kernel
def aST:(aZ9 8).all (fun m=>(aZ9 (m+1)).all fun j=>decide ((Lu (m+1) (j+1)).length<=2000))=true:=by decide +kernel
def aSU:∀ i,i<=8->(FD i).length<=200:=by
 have h:(aZ9 9).all (fun i=>decide ((FD i).length<=200))=true:=by decide +kernel
 grind
def ahz{p:Nat->Nat->Bool}(h:(aZ9 8).all (fun m=>(aZ9 (m+1)).all fun j=>p m j)=A)(hm:1<=m/\m<=8)(a:1<=j/\j<=m):p (m-1) (j-1)=true:=
 List.all_eq_true.1 (List.all_eq_true.1 h (m-1) (List.mem_range.2 zo)) (j-1) (List.mem_range.2 zo)
theorem aSV{b:W4}{l:List (Bs×Nat)}(h:(W5 d f n b == O l)=A):∃ E st names q,b = .ok E st names/\Gq E names d f n (V,st)=O (l,q):=by
 rw[beq_iff_eq] at h;cases b with
 | err e a=>cases h
 | ok E st names=>
  unfold W5 at h;simp only[aZ7] at h;grind
structure aSW(m j:Nat)(mc:Bool):Prop where
 len:(Lu m j).length<=2000
 one:firstT 2000 20000 (Lu m j) ahw mc=O (Ob j,0)
 ex:∃ cs k v,program (Lu m j) = .ok cs k v/\(∃ E st names q,Gx cs ahx mc = .ok E st names/\Gq E names 2000 20000 (m+2-j) (V,st)=O ((a0j j (m+1-j)).map (fun i=>(Ob i,0))++[([],6)],q)) /\
  ∃ E st names q,Gx cs ahy mc = .ok E st names/\Gq E names 2000 20000 (j+1) (V,st)=O ((a0j 1 j).map (fun i=>(Zc j i,0))++[([],6)],q)
def aSX(mc:Bool)(hm:1<=m/\m<=8)(b:1<=j/\j<=m):aSW m j mc:=by
 have em:m-1+1=m:=zo;have e:j-1+1=j:=zo;have a:Zd m j mc=true:=by
  have x:=aSR mc (m-1) (j-1) zo zo;rwa[em,e] at x
 have c:=ahz aST hm b;rw[em,e] at c;simp only[decide_eq_true_eq] at c;unfold Zd at a;rw[Bool.and_eq_true] at a;obtain⟨a,d⟩:=a;refine⟨c,zg,?_⟩;split at d
 .grind
 .rename_i cs k v f;rw[Bool.and_eq_true] at d;grind [aSV]
end P
end Go.Proofs.YtoegidfbnkaabaaGreatDoor
