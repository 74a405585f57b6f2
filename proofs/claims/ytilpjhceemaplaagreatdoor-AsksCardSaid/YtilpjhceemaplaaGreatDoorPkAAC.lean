/- A part of one proof (SxO, ShT, SBase, RBase, SW1, SW2, SCon, SDoor, SBack, SOper, SArgs). -/
import Derived.Test.YtilpjhceemaplaaGreatDoorPkAAB
import Derived.LaidEql
import Derived.Laws.MakeOwn
import Derived.Laws.StructEq
import Derived.Lib.AppendStr
import Derived.MapKept
import Derived.WideMake
import Derived.Laws.Runes
import Derived.Test.YtilpjhceemaplaaGreatDoorProg
import Derived.WalkSpells
import Derived.WalkLawsBesides
import Derived.RangeFuncBox
import Derived.RangeFuncFrom
import Derived.RangeFuncLeaves
import Derived.Shelf.Abstract
import Derived.OwnWalkIn
import Derived.TacticsInMore
import Derived.LoopNIn
import Derived.LoopIn
set_option linter.all false
set_option linter.unusedVariables false
set_option linter.unusedSimpArgs false
set_option maxRecDepth 100000
set_option maxHeartbeats 4000000
namespace Go.Proofs.YtilpjhceemaplaaGreatDoor.Sx
open Go
theorem beq_bs(a b:List UInt8):(bs a == bs b)=decide (a=b):=by
 change (a.toArray == b.toArray)=_
 rw[Bool.eq_iff_iff]
 simp
section
variable{P:Program}{w:World}{K:Value->Prop}{X:Value->World->Prop}{x y:Operand}
def hasB(P:Program)(u t:TypeId):Bool:=
 match P.underlying u with
 | some (.interface want)=>match P.info? t with
  | some i=>(Instr.missingMethod want i.methods).isNone
  | none=>false
 | _=>false
def isStrT(P:Program)(t:TypeId):Bool:=match P.underlying t with | some .string=>true | _=>false
end
section
variable{P:Program}{w:World}{K:Value->Prop}{X:Value->World->Prop}
theorem bo_rem{t:TypeId}{x y:Operand}(k:IntKind)(a b:Int)(h:b≠0):RD P (bo .rem t x y (.int k a) (.int k b)) w K X=K (.int k (a.tmod b)):=rd_ok (by simp [bo,eqGuard,binOp,Op.intDiv,h])
theorem bo_quo{t:TypeId}{x y:Operand}(k:IntKind)(a b:Int)(h:b≠0):RD P (bo .quo t x y (.int k a) (.int k b)) w K X=K (.int k (k.wrap (a.tdiv b))):=rd_ok (by simp [bo,eqGuard,binOp,Op.intDiv,h])
theorem wr_runeStr{s d:TypeId}(hs:(P.underlying s).isSome=true)(hd:isStrT P d=true){k:IntKind}{n:Nat}(hn:n<128){K:Value->World->Prop}:WR P (convert s d (.int k n)) w K X=K (.string (bs [UInt8.ofNat n])) w:=by
 have hd':P.underlying d=some .string:=by
  unfold isStrT at hd
  split at hd
  ·assumption
  ·cases hd
 have h:∀ m:Fin 128,(Utf8.encode (m.val:Int)).data=#[UInt8.ofNat m.val]:=by decide
 have e:Utf8.encode (n:Int)=bs [UInt8.ofNat n]:=by
  have:=h ⟨n,hn⟩
  apply ByteArray.ext
  exact this
 refine wr_ok ?_
 rw[run_convert_int_string w s d k n hs hd',e]
end
section
variable{P:Program}{w:World}{K:Value->World->Prop}{X:Value->World->Prop}
def msB(P:Program)(T:TypeId):Option (TypeId×Value×Nat×Nat):=
 match P.underlying T with
 | some (.slice e)=>match P.info? e with
  | some i=>match i.zero with
   | some z=>some (e,z,i.size,i.bytes)
   | none=>none
  | none=>none
 | _=>none
theorem wr_makeSlice{T e:TypeId}{z:Value}{sz by_:Nat}(h:msB P T=some (e,z,sz,by_)){kl kc:IntKind}{n m:Nat}(hnm:n≤m)(hb:by_≤1000)(hm:m≤1000000) :
  WR P (Instr.makeSlice T (.int kl n) (.int kc m)) w K X=K (.slice (some ⟨w.heap.size,0,none⟩) n m) (w.alloc (.cells (madeCells z.cells (m*sz)) e)):=by
 unfold msB at h
 split at h
 ·rename_i e' hu
  split at h
  ·rename_i i hi
   split at h
   ·rename_i z' hz
    simp only[Option.some.injEq,Prod.mk.injEq] at h
    obtain⟨rfl,rfl,rfl,rfl⟩:=h
    refine wr_ok ?_
    have h1:i.bytes*m≤1000*1000000:=Nat.mul_le_mul hb hm
    have:=run_make (P:=P) w T e' i z' hu hi hz kl kc n m (by omega) (by omega) (by omega) (by omega)
    simpa using this
   ·cases h
  ·cases h
 ·cases h
end
theorem wr_appendB{P:Program}{t ty e:TypeId}{i:TypeInfo}{z:Value}{size bytes:Nat}(ht:P.underlying t=some (.slice e))(hi:P.info? e=some i)(hz:i.zero=some z)
  (hsize:i.size=size) (hby:i.bytes=bytes) (hzs:z.cells.size=size) (hsz:0<size) {w:World} {base:Nat}
  {v:Value} {n:Nat} {xs:List Value} (hown:w.ownsRow base e size v n xs) {b m c:Nat} {cs:Array Value} {T:TypeId} {zz:Nat×Nat} (hb:w.heap[b]?=some (.cells cs T zz)) (hl:cs.toList.length=m*size) (h1:∀ u∈cs.toList,u.oneCell'=true)
  (hn:n+m≤1000000000) (hby2:bytes≤1000) (hbase:base≤w.heap.size) {K:Value->World->Prop} {X:Value->World->Prop}
  (h:∀ v' w',w'.ownsRow base e size v' (n+m) (xs++cs.toList)->w.grownBy w' v.ownBlock->(v'.ownBlock=v.ownBlock\/∀ k,v'.ownBlock=some k->w.heap.size≤k)->K v' w') :
  WR P (Builtin.append_ #[t,t] ty #[v,.slice (some ⟨b,0,none⟩) m c]) w K X:=by
 have hb2:(n+m)*bytes≤1000000000*1000:=Nat.mul_le_mul hn hby2
 obtain⟨v',w',r1,r2,r3,r4⟩:=run_append_own2 (P:=P) w base t ty e i z size bytes ht hi hz hsize hby hzs hsz v n xs hown ⟨b,0,none⟩ m c cs.toList hl (fun j u hu=>by
  rw[addr_add,Nat.zero_add];exact cellOf hb (by simpa using hu)) h1 (by unfold maxLen;omega) (by omega) hbase
 rw[wr_ok r1]
 exact h v' w' r2 r3 r4
section
variable{P:Program}{w:World}{X:Value->World->Prop}
theorem wr_makeMap{t:TypeId}{K:Value->World->Prop}:WR P (Instr.makeMap t none) w K X=K (.map (some w.heap.size)) (w.alloc (.map #[] 0)):=wr_ok rfl
theorem checkKey_str{b:Bool}{n:Nat}{t:TypeId}{s:ByteArray}(h:isStrT P t=true):(Instr.checkKey b (n+1) t (.string s)).run P w = .ok () w:=by
 unfold isStrT at h
 split at h
 ·rename_i hu
  simp [Instr.checkKey,run_underlying hu]
 ·cases h
def mapT(P:Program)(t:TypeId):Option (TypeId×TypeId):=match P.underlying t with | some (.map k e)=>some (k,e) | _=>none
theorem mapT_u{t k e:TypeId}(h:mapT P t=some (k,e)):P.underlying t=some (.map k e):=by
 unfold mapT at h
 split at h
 ·simp only[Option.some.injEq,Prod.mk.injEq] at h
  obtain⟨rfl,rfl⟩:=h
  assumption
 ·cases h
def keyS:Value->Option (List UInt8) | .string b=>some b.data.toList | _=>none
def idxS(s:List UInt8):List MapEntry->Nat->Option (Nat×Value)
 | [],_=>none
 | e::r,i=>if keyS e.key=some s then some (i,e.val) else idxS s r (i+1)
def KeysS(es:List MapEntry):Prop:=∀ e∈es,∃ s,e.key = .string (bs s)
theorem findNow_str{d:TypeDesc}(hd:d = .string)(s:List UInt8):∀ (es:List MapEntry) (i:Nat),KeysS es->Instr.findNow d (.string (bs s)) es i=some (idxS s es i)
 | [],i,_=>rfl
 | e::r,i,h=>by
  subst hd
  obtain⟨u,hu⟩:=h e (List.mem_cons_self ..)
  unfold Instr.findNow idxS
  rw[hu]
  have hb:(bs s == bs u)=decide (u=s):=by
   rw[beq_bs,Bool.eq_iff_iff]
   simp
   exact⟨fun h=>h.symm,fun h=>h.symm⟩
  by_cases he:u=s
  ·subst he
   simp [Instr.sameNow,keyS,hb]
  ·simp only[Instr.sameNow,hb,decide_eq_false he,keyS,Option.some.injEq,if_neg he]
   exact findNow_str rfl s r (i+1) fun e he=>h e (List.mem_cons_of_mem _ he)
theorem findKey_str{k:TypeId}(h:isStrT P k=true)(s:List UInt8){es:List MapEntry}(hk:KeysS es):(Instr.findKey k (.string (bs s)) es).run P w = .ok (idxS s es 0) w:=by
 unfold isStrT at h
 split at h
 ·rename_i hu
  simp [Instr.findKey,run_underlying hu,findNow_str rfl s es 0 hk]
 ·cases h
theorem getMap_run{r:Nat}{es:Array MapEntry}{c:Nat}(hb:w.heap[r]?=some (.map es c)):(getObj r).run P w = .ok (.map es c) w:=MapKept.run_getObj_map hb
theorem rd_lookupS{t k e:TypeId}{z:Value}{r c:Nat}{es:Array MapEntry}{K:Value->Prop}(ht:mapT P t=some (k,e))(hs:isStrT P k=true)(hz:zeroB P e=some z)(hb:w.heap[r]?=some (.map es c))(hk:KeysS es.toList)(s:List UInt8)(b:Bool) :
  RD P (Instr.lookup t (.map (some r)) (.string (bs s)) b) w K X =
   match idxS s es.toList 0 with
   | some (_,v)=>K (if b then .tuple #[v,.bool true] else v)
   | none=>K (if b then .tuple #[z,.bool false] else z):=by
 have h1:=checkKey_str (P:=P) (w:=w) (b:=es.isEmpty) (n:=9999) (t:=k) (s:=bs s) hs
 have h2:=findKey_str (P:=P) (w:=w) hs s hk
 split
 ·rename_i i v hi
  rw[hi] at h2
  refine rd_ok ?_
  simp [Instr.lookup,run_underlying (mapT_u ht),getMap_run hb,h1,h2]
 ·rename_i hi
  rw[hi] at h2
  refine rd_ok ?_
  simp [Instr.lookup,run_underlying (mapT_u ht),getMap_run hb,h1,h2,zero_run hz]
theorem wu_mapNewS{t k e:TypeId}{r c:Nat}{es:Array MapEntry}{K:World->Prop}(ht:mapT P t=some (k,e))(hs:isStrT P k=true)(hm:w.heap[r]?=some (.map es c))(hk:KeysS es.toList)(s:List UInt8)(hn:idxS s es.toList 0=none)(v:Value) :
  WU P (Instr.mapUpdate t (.map (some r)) (.string (bs s)) v) w K X=K (upd w r (.map (es.push { key:=.string (bs s),val:=v,born:=c }) (c+1))):=by
 have h1:=checkKey_str (P:=P) (w:=w) (b:=false) (n:=9999) (t:=k) (s:=bs s) hs
 have h2:=findKey_str (P:=P) (w:=w) hs s hk
 rw[hn] at h2
 refine wu_ok ?_
 simp [Instr.mapUpdate,run_underlying (mapT_u ht),getMap_run hm,h1,h2,MapKept.run_setObj_map _ hm,upd]
end
end Go.Proofs.YtilpjhceemaplaaGreatDoor.Sx
namespace Go.Proofs.YtilpjhceemaplaaGreatDoor
open Go.Proofs.YtilpjhceemaplaaGreatDoor.Sx
abbrev zAL(t e:Nat)(z:Array Value):Prop:=∀ {u:Value} {w:World} {X:Value->World->Prop} {K:Value->World->Prop},WR Tryz.prog (Instr.alloc t true u) w K X=K (.pointer (some ⟨w.heap.size,0,none⟩)) (w.alloc (.cells z e))
theorem al_100:zAL 100 100 #[(.pointer none)]:=wr_alloc (z:=(.pointer none)) (by kernel_rfl)
theorem al_111:zAL 111 111 #[(.int .u8 0),(.string (bs [])),(.int .i64 0),(.int .i64 0),(.slice none 0 0)]:=wr_alloc (z:=(.agg #[(.int .u8 0),(.string (bs [])),(.int .i64 0),(.int .i64 0),(.slice none 0 0)])) (by kernel_rfl)
theorem al_112:zAL 112 112 #[(.pointer none)]:=wr_alloc (z:=(.pointer none)) (by kernel_rfl)
theorem al_115:zAL 115 115 #[(.pointer none)]:=wr_alloc (z:=(.pointer none)) (by kernel_rfl)
theorem al_143:zAL 143 143 #[(.int .u8 0),(.string (bs [])),(.slice none 0 0),(.slice none 0 0),(.bool false),(.slice none 0 0),(.int .i64 0),(.int .i64 0)]:=wr_alloc (z:=(.agg #[(.int .u8 0),(.string (bs [])),(.slice none 0 0),(.slice none 0 0),(.bool false),(.slice none 0 0),(.int .i64 0),(.int .i64 0)])) (by kernel_rfl)
theorem al_146:zAL 146 146 #[(.int .i64 0),(.int .i64 0),(.bool false),(.int .i64 0),(.string (bs [])),(.slice none 0 0)]:=wr_alloc (z:=(.agg #[(.int .i64 0),(.int .i64 0),(.bool false),(.int .i64 0),(.string (bs [])),(.slice none 0 0)])) (by kernel_rfl)
theorem al_157:zAL 157 157 #[(.int .i64 0),(.string (bs [])),(.int .i64 0)]:=wr_alloc (z:=(.agg #[(.int .i64 0),(.string (bs [])),(.int .i64 0)])) (by kernel_rfl)
theorem al_240:zAL 240 240 #[.nilIface]:=wr_alloc (z:=(.agg #[.nilIface])) (by kernel_rfl)
theorem al_25:zAL 25 25 #[(.pointer none),(.slice none 0 0),(.bool false)]:=wr_alloc (z:=(.agg #[(.pointer none),(.slice none 0 0),(.bool false)])) (by kernel_rfl)
theorem al_32:zAL 32 32 #[(.int .i64 0)]:=wr_alloc (z:=(.int .i64 0)) (by kernel_rfl)
theorem al_40:zAL 40 40 #[(.int .u8 0),(.string (bs [])),(.slice none 0 0),(.slice none 0 0)]:=wr_alloc (z:=(.agg #[(.int .u8 0),(.string (bs [])),(.slice none 0 0),(.slice none 0 0)])) (by kernel_rfl)
theorem al_43:zAL 43 43 #[(.string (bs [])),(.slice none 0 0),(.int .u8 0),(.string (bs [])),(.slice none 0 0),(.slice none 0 0),(.slice none 0 0)]:=wr_alloc (z:=(.agg #[(.string (bs [])),(.slice none 0 0),(.int .u8 0),(.string (bs [])),(.slice none 0 0),(.slice none 0 0),(.slice none 0 0)])) (by kernel_rfl)
theorem al_57:zAL 57 57 #[.nilIface]:=wr_alloc (z:=.nilIface) (by kernel_rfl)
theorem al_69:zAL 69 69 #[(.int .u8 0),(.string (bs [])),(.int .i64 0)]:=wr_alloc (z:=(.agg #[(.int .u8 0),(.string (bs [])),(.int .i64 0)])) (by kernel_rfl)
theorem al_95:zAL 95 95 #[(.slice none 0 0)]:=wr_alloc (z:=(.slice none 0 0)) (by kernel_rfl)
abbrev zBD(t:Nat)(l:List (Nat×Nat))(z:Array Value):Prop:=∀ {parts:Array (Nat×Value)} {w:World} {X:Value->World->Prop} {K:Value->Prop},RD Tryz.prog (Instr.build t parts) w K X=blK (fillL l z parts.toList) K (RD0 Tryz.prog (Instr.build t parts) w K X)
theorem bd_104:zBD 104 [(0,1),(1,1)] #[(.int .i64 0),(.int .i64 0)]:=rd_build (by kernel_rfl)
theorem bd_111:zBD 111 [(0,1),(1,1),(2,1),(3,1),(4,1)] #[(.int .u8 0),(.string (bs [])),(.int .i64 0),(.int .i64 0),(.slice none 0 0)]:=rd_build (by kernel_rfl)
theorem bd_128:zBD 128 [(0,1),(1,2),(3,1),(4,1),(5,1)] #[(.map none),(.slice none 0 0),(.int .i64 0),(.pointer none),(.slice none 0 0),(.slice none 0 0)]:=rd_build (by kernel_rfl)
theorem bd_132:zBD 132 [(0,1),(1,1),(2,1),(3,1)] #[(.string (bs [])),(.slice none 0 0),(.pointer none),(.slice none 0 0)]:=rd_build (by kernel_rfl)
theorem bd_137:zBD 137 [(0,1),(1,1),(2,1),(3,1),(4,1)] #[.nilIface,(.pointer none),.nilFunc,(.slice none 0 0),.nilIface]:=rd_build (by kernel_rfl)
theorem bd_143:zBD 143 [(0,4),(4,1),(5,1),(6,1),(7,1)] #[(.int .u8 0),(.string (bs [])),(.slice none 0 0),(.slice none 0 0),(.bool false),(.slice none 0 0),(.int .i64 0),(.int .i64 0)]:=rd_build (by kernel_rfl)
theorem bd_146:zBD 146 [(0,1),(1,1),(2,1),(3,1),(4,1),(5,1)] #[(.int .i64 0),(.int .i64 0),(.bool false),(.int .i64 0),(.string (bs [])),(.slice none 0 0)]:=rd_build (by kernel_rfl)
theorem bd_151:zBD 151 [(0,1),(1,1)] #[(.pointer none),(.slice none 0 0)]:=rd_build (by kernel_rfl)
theorem bd_157:zBD 157 [(0,1),(1,1),(2,1)] #[(.int .i64 0),(.string (bs [])),(.int .i64 0)]:=rd_build (by kernel_rfl)
theorem bd_160:zBD 160 [(0,1),(1,1),(2,1)] #[(.slice none 0 0),(.slice none 0 0),(.int .i64 0)]:=rd_build (by kernel_rfl)
theorem bd_163:zBD 163 [(0,1),(1,1),(2,1),(3,1)] #[(.int .u8 0),(.string (bs [])),(.slice none 0 0),(.slice none 0 0)]:=rd_build (by kernel_rfl)
theorem bd_187:zBD 187 [(0,1),(1,1),(2,1),(3,1)] #[(.pointer none),(.slice none 0 0),(.int .i64 0),(.pointer none)]:=rd_build (by kernel_rfl)
theorem bd_25:zBD 25 [(0,1),(1,1),(2,1)] #[(.pointer none),(.slice none 0 0),(.bool false)]:=rd_build (by kernel_rfl)
theorem bd_40:zBD 40 [(0,1),(1,1),(2,1),(3,1)] #[(.int .u8 0),(.string (bs [])),(.slice none 0 0),(.slice none 0 0)]:=rd_build (by kernel_rfl)
theorem bd_43:zBD 43 [(0,1),(1,1),(2,4),(6,1)] #[(.string (bs [])),(.slice none 0 0),(.int .u8 0),(.string (bs [])),(.slice none 0 0),(.slice none 0 0),(.slice none 0 0)]:=rd_build (by kernel_rfl)
theorem bd_53:zBD 53 [(0,1),(1,1),(2,1),(3,1),(4,1)] #[(.pointer none),(.slice none 0 0),(.int .i64 0),(.int .i64 0),(.bool false)]:=rd_build (by kernel_rfl)
theorem bd_67:zBD 67 [(0,1),(1,1),(2,1),(3,1),(4,1),(5,1)] #[(.slice none 0 0),(.int .i64 0),(.slice none 0 0),(.int .i64 0),(.int .i64 0),(.int .i64 0)]:=rd_build (by kernel_rfl)
theorem bd_69:zBD 69 [(0,1),(1,1),(2,1)] #[(.int .u8 0),(.string (bs [])),(.int .i64 0)]:=rd_build (by kernel_rfl)
theorem bd_85:zBD 85 [(0,1),(1,1),(2,1),(3,1),(4,1),(5,1),(6,1),(7,1)] #[(.pointer none),(.slice none 0 0),(.slice none 0 0),(.int .i64 0),(.slice none 0 0),(.slice none 0 0),(.slice none 0 0),(.int .i64 0)]:=rd_build (by kernel_rfl)
theorem bd_93:zBD 93 [(0,1),(1,1),(2,1),(3,1),(4,1),(5,1),(6,1),(7,1),(8,1)] #[(.slice none 0 0),(.slice none 0 0),(.slice none 0 0),(.slice none 0 0),(.slice none 0 0),(.slice none 0 0),(.int .i64 0),(.int .i64 0),(.int .i64 0)]:=rd_build (by kernel_rfl)
theorem bd_99:zBD 99 [(0,1)] #[(.slice none 0 0)]:=rd_build (by kernel_rfl)
abbrev zBR(t n e:Nat)(l:List (Nat×Nat))(z:Array Value):Prop:=∀ {parts:Array (Nat×Value)} {w:World} {X:Value->World->Prop} {K:Value->World->Prop},WR Tryz.prog (Instr.buildSlice t n parts) w K X=brK (fillL l z parts.toList) e n w K (WR0 Tryz.prog (Instr.buildSlice t n parts) w K X)
theorem br_158_1:zBR 158 1 157 [(0,3)] #[(.int .i64 0),(.string (bs [])),(.int .i64 0)]:=wr_buildSlice (by kernel_rfl)
theorem br_23_1:zBR 23 1 43 [(0,7)] #[(.string (bs [])),(.slice none 0 0),(.int .u8 0),(.string (bs [])),(.slice none 0 0),(.slice none 0 0),(.slice none 0 0)]:=wr_buildSlice (by kernel_rfl)
theorem br_37_1:zBR 37 1 111 [(0,5)] #[(.int .u8 0),(.string (bs [])),(.int .i64 0),(.int .i64 0),(.slice none 0 0)]:=wr_buildSlice (by kernel_rfl)
theorem br_37_2:zBR 37 2 111 [(0,5),(5,5)] #[(.int .u8 0),(.string (bs [])),(.int .i64 0),(.int .i64 0),(.slice none 0 0),(.int .u8 0),(.string (bs [])),(.int .i64 0),(.int .i64 0),(.slice none 0 0)]:=wr_buildSlice (by kernel_rfl)
theorem br_38_1:zBR 38 1 40 [(0,4)] #[(.int .u8 0),(.string (bs [])),(.slice none 0 0),(.slice none 0 0)]:=wr_buildSlice (by kernel_rfl)
theorem br_38_2:zBR 38 2 40 [(0,4),(4,4)] #[(.int .u8 0),(.string (bs [])),(.slice none 0 0),(.slice none 0 0),(.int .u8 0),(.string (bs [])),(.slice none 0 0),(.slice none 0 0)]:=wr_buildSlice (by kernel_rfl)
theorem br_38_3:zBR 38 3 40 [(0,4),(4,4),(8,4)] #[(.int .u8 0),(.string (bs [])),(.slice none 0 0),(.slice none 0 0),(.int .u8 0),(.string (bs [])),(.slice none 0 0),(.slice none 0 0),(.int .u8 0),(.string (bs [])),(.slice none 0 0),(.slice none 0 0)]:=wr_buildSlice (by kernel_rfl)
theorem br_41_1:zBR 41 1 9 [(0,1)] #[(.string (bs []))]:=wr_buildSlice (by kernel_rfl)
theorem br_41_23:zBR 41 23 9 [(0,1),(1,1),(2,1),(3,1),(4,1),(5,1),(6,1),(7,1),(8,1),(9,1),(10,1),(11,1),(12,1),(13,1),(14,1),(15,1),(16,1),(17,1),(18,1),(19,1),(20,1),(21,1),(22,1)] #[(.string (bs [])),(.string (bs [])),(.string (bs [])),(.string (bs [])),(.string (bs [])),(.string (bs [])),(.string (bs [])),(.string (bs [])),(.string (bs [])),(.string (bs [])),(.string (bs [])),(.string (bs [])),(.string (bs [])),(.string (bs [])),(.string (bs [])),(.string (bs [])),(.string (bs [])),(.string (bs [])),(.string (bs [])),(.string (bs [])),(.string (bs [])),(.string (bs [])),(.string (bs []))]:=wr_buildSlice (by kernel_rfl)
theorem br_65_1:zBR 65 1 69 [(0,3)] #[(.int .u8 0),(.string (bs [])),(.int .i64 0)]:=wr_buildSlice (by kernel_rfl)
theorem br_81_1:zBR 81 1 143 [(0,8)] #[(.int .u8 0),(.string (bs [])),(.slice none 0 0),(.slice none 0 0),(.bool false),(.slice none 0 0),(.int .i64 0),(.int .i64 0)]:=wr_buildSlice (by kernel_rfl)
theorem br_82_1:zBR 82 1 146 [(0,6)] #[(.int .i64 0),(.int .i64 0),(.bool false),(.int .i64 0),(.string (bs [])),(.slice none 0 0)]:=wr_buildSlice (by kernel_rfl)
theorem br_83_1:zBR 83 1 3 [(0,1)] #[(.int .i64 0)]:=wr_buildSlice (by kernel_rfl)
theorem br_89_1:zBR 89 1 5 [(0,1)] #[(.int .u8 0)]:=wr_buildSlice (by kernel_rfl)
theorem br_90_1:zBR 90 1 2 [(0,1)] #[(.int .i64 0)]:=wr_buildSlice (by kernel_rfl)
theorem br_91_1:zBR 91 1 83 [(0,1)] #[(.slice none 0 0)]:=wr_buildSlice (by kernel_rfl)
theorem br_95_1:zBR 95 1 112 [(0,1)] #[(.pointer none)]:=wr_buildSlice (by kernel_rfl)
theorem ch_9{l:List UInt8}{k:IntKind}{i:Int}{w:World}{X:Value->World->Prop}{K:Value->Prop}(h0:0≤i)(h1:i<l.length):RD Tryz.prog (Instr.index 9 (.string (bs l)) (.int k i)) w K X=K (.int .u8 ((l.getD i.toNat 0).toNat)):=rd_char (by kernel_rfl) h0 h1
theorem cv_3_21{k:IntKind}{n:Int}{w:World}{X:Value->World->Prop}{K:Value->World->Prop}:WR Tryz.prog (convert 3 21 (.int k n)) w K X=K (.int .i32 (IntKind.i32.wrap n)) w:=wr_convert (by kernel_rfl) (by kernel_rfl)
theorem cv_5_2{k:IntKind}{n:Int}{w:World}{X:Value->World->Prop}{K:Value->World->Prop}:WR Tryz.prog (convert 5 2 (.int k n)) w K X=K (.int .i64 (IntKind.i64.wrap n)) w:=wr_convert (by kernel_rfl) (by kernel_rfl)
theorem eqi0_57{x:Operand}{w:World}{X:Value->World->Prop}{K:Value->Prop}(c:Value):RD Tryz.prog (bo .eql 57 x (.const c) .nilIface .nilIface) w K X=K (.bool true):=rd_eqi0 (by kernel_rfl) c
theorem eqi1_57{x y:Operand}{w:World}{X:Value->World->Prop}{K:Value->Prop}(u:TypeId)(v:Value):RD Tryz.prog (bo .eql 57 x y (.iface u v) .nilIface) w K X=K (.bool false):=rd_eqi1 (by kernel_rfl) u v
theorem eqp_22{x y:Operand}{w:World}{X:Value->World->Prop}{K:Value->Prop}(p:Option Addr):RD Tryz.prog (bo .eql 22 x y (.pointer p) (.pointer none)) w K X=K (.bool p.isNone):=rd_eqp (by kernel_rfl) p
theorem eqp_45{x y:Operand}{w:World}{X:Value->World->Prop}{K:Value->Prop}(p:Option Addr):RD Tryz.prog (bo .eql 45 x y (.pointer p) (.pointer none)) w K X=K (.bool p.isNone):=rd_eqp (by kernel_rfl) p
theorem eqp_62{x y:Operand}{w:World}{X:Value->World->Prop}{K:Value->Prop}(p:Option Addr):RD Tryz.prog (bo .eql 62 x y (.pointer p) (.pointer none)) w K X=K (.bool p.isNone):=rd_eqp (by kernel_rfl) p
abbrev zFA(t f d:Nat):Prop:=∀ {b o:Nat} {w:World} {X:Value->World->Prop} {K:Value->Prop},RD Tryz.prog (Instr.fieldAt t (.pointer (some ⟨b,o,none⟩)) f) w K X=K (.pointer (some ⟨b,o+d,none⟩))
theorem fa_104_0:zFA 104 0 0:=rd_field (by kernel_rfl)
theorem fa_104_1:zFA 104 1 1:=rd_field (by kernel_rfl)
theorem fa_111_0:zFA 111 0 0:=rd_field (by kernel_rfl)
theorem fa_111_1:zFA 111 1 1:=rd_field (by kernel_rfl)
theorem fa_111_2:zFA 111 2 2:=rd_field (by kernel_rfl)
theorem fa_111_3:zFA 111 3 3:=rd_field (by kernel_rfl)
theorem fa_111_4:zFA 111 4 4:=rd_field (by kernel_rfl)
theorem fa_128_1:zFA 128 1 1:=rd_field (by kernel_rfl)
theorem fa_128_2:zFA 128 2 3:=rd_field (by kernel_rfl)
theorem fa_128_4:zFA 128 4 5:=rd_field (by kernel_rfl)
theorem fa_132_0:zFA 132 0 0:=rd_field (by kernel_rfl)
theorem fa_132_1:zFA 132 1 1:=rd_field (by kernel_rfl)
theorem fa_132_2:zFA 132 2 2:=rd_field (by kernel_rfl)
theorem fa_132_3:zFA 132 3 3:=rd_field (by kernel_rfl)
theorem fa_137_3:zFA 137 3 3:=rd_field (by kernel_rfl)
theorem fa_143_0:zFA 143 0 0:=rd_field (by kernel_rfl)
theorem fa_143_1:zFA 143 1 4:=rd_field (by kernel_rfl)
theorem fa_143_2:zFA 143 2 5:=rd_field (by kernel_rfl)
theorem fa_143_3:zFA 143 3 6:=rd_field (by kernel_rfl)
theorem fa_143_4:zFA 143 4 7:=rd_field (by kernel_rfl)
theorem fa_146_0:zFA 146 0 0:=rd_field (by kernel_rfl)
theorem fa_146_1:zFA 146 1 1:=rd_field (by kernel_rfl)
theorem fa_146_2:zFA 146 2 2:=rd_field (by kernel_rfl)
theorem fa_146_3:zFA 146 3 3:=rd_field (by kernel_rfl)
theorem fa_146_4:zFA 146 4 4:=rd_field (by kernel_rfl)
theorem fa_146_5:zFA 146 5 5:=rd_field (by kernel_rfl)
theorem fa_151_0:zFA 151 0 0:=rd_field (by kernel_rfl)
theorem fa_151_1:zFA 151 1 1:=rd_field (by kernel_rfl)
theorem fa_157_0:zFA 157 0 0:=rd_field (by kernel_rfl)
theorem fa_157_1:zFA 157 1 1:=rd_field (by kernel_rfl)
theorem fa_157_2:zFA 157 2 2:=rd_field (by kernel_rfl)
theorem fa_160_0:zFA 160 0 0:=rd_field (by kernel_rfl)
theorem fa_160_1:zFA 160 1 1:=rd_field (by kernel_rfl)
theorem fa_25_0:zFA 25 0 0:=rd_field (by kernel_rfl)
theorem fa_25_1:zFA 25 1 1:=rd_field (by kernel_rfl)
theorem fa_25_2:zFA 25 2 2:=rd_field (by kernel_rfl)
theorem fa_40_0:zFA 40 0 0:=rd_field (by kernel_rfl)
theorem fa_40_1:zFA 40 1 1:=rd_field (by kernel_rfl)
theorem fa_40_2:zFA 40 2 2:=rd_field (by kernel_rfl)
theorem fa_40_3:zFA 40 3 3:=rd_field (by kernel_rfl)
theorem fa_43_0:zFA 43 0 0:=rd_field (by kernel_rfl)
theorem fa_43_1:zFA 43 1 1:=rd_field (by kernel_rfl)
theorem fa_43_2:zFA 43 2 2:=rd_field (by kernel_rfl)
theorem fa_43_3:zFA 43 3 6:=rd_field (by kernel_rfl)
theorem fa_53_1:zFA 53 1 1:=rd_field (by kernel_rfl)
theorem fa_53_3:zFA 53 3 3:=rd_field (by kernel_rfl)
theorem fa_53_4:zFA 53 4 4:=rd_field (by kernel_rfl)
theorem fa_67_0:zFA 67 0 0:=rd_field (by kernel_rfl)
theorem fa_67_1:zFA 67 1 1:=rd_field (by kernel_rfl)
theorem fa_67_2:zFA 67 2 2:=rd_field (by kernel_rfl)
theorem fa_67_3:zFA 67 3 3:=rd_field (by kernel_rfl)
theorem fa_67_4:zFA 67 4 4:=rd_field (by kernel_rfl)
theorem fa_67_5:zFA 67 5 5:=rd_field (by kernel_rfl)
theorem fa_69_0:zFA 69 0 0:=rd_field (by kernel_rfl)
theorem fa_69_1:zFA 69 1 1:=rd_field (by kernel_rfl)
theorem fa_69_2:zFA 69 2 2:=rd_field (by kernel_rfl)
theorem fa_85_0:zFA 85 0 0:=rd_field (by kernel_rfl)
theorem fa_85_1:zFA 85 1 1:=rd_field (by kernel_rfl)
theorem fa_85_2:zFA 85 2 2:=rd_field (by kernel_rfl)
theorem fa_85_3:zFA 85 3 3:=rd_field (by kernel_rfl)
theorem fa_85_4:zFA 85 4 4:=rd_field (by kernel_rfl)
theorem fa_85_5:zFA 85 5 5:=rd_field (by kernel_rfl)
theorem fa_85_6:zFA 85 6 6:=rd_field (by kernel_rfl)
theorem fa_93_0:zFA 93 0 0:=rd_field (by kernel_rfl)
theorem fa_93_1:zFA 93 1 1:=rd_field (by kernel_rfl)
theorem fa_93_2:zFA 93 2 2:=rd_field (by kernel_rfl)
theorem fa_93_3:zFA 93 3 3:=rd_field (by kernel_rfl)
theorem fa_93_4:zFA 93 4 4:=rd_field (by kernel_rfl)
theorem fa_93_5:zFA 93 5 5:=rd_field (by kernel_rfl)
theorem fa_93_6:zFA 93 6 6:=rd_field (by kernel_rfl)
theorem fa_93_7:zFA 93 7 7:=rd_field (by kernel_rfl)
theorem fa_93_8:zFA 93 8 8:=rd_field (by kernel_rfl)
theorem fa_99_0:zFA 99 0 0:=rd_field (by kernel_rfl)
abbrev zIX(t n:Nat):Prop:=∀ {b o len cap:Nat} {k:IntKind} {i:Int} {w:World} {X:Value->World->Prop} {K:Value->Prop},0≤i->i<len->RD Tryz.prog (Instr.indexAt t (.slice (some ⟨b,o,none⟩) len cap) (.int k i)) w K X=K (.pointer (some ⟨b,o+i.toNat*n,none⟩))
theorem ix_126:zIX 126 1:=fun h0 h1=>rd_index (by kernel_rfl) h0 h1
theorem ix_158:zIX 158 3:=fun h0 h1=>rd_index (by kernel_rfl) h0 h1
theorem ix_23:zIX 23 7:=fun h0 h1=>rd_index (by kernel_rfl) h0 h1
theorem ix_37:zIX 37 5:=fun h0 h1=>rd_index (by kernel_rfl) h0 h1
theorem ix_38:zIX 38 4:=fun h0 h1=>rd_index (by kernel_rfl) h0 h1
theorem ix_41:zIX 41 1:=fun h0 h1=>rd_index (by kernel_rfl) h0 h1
theorem ix_65:zIX 65 3:=fun h0 h1=>rd_index (by kernel_rfl) h0 h1
theorem ix_81:zIX 81 8:=fun h0 h1=>rd_index (by kernel_rfl) h0 h1
theorem ix_82:zIX 82 6:=fun h0 h1=>rd_index (by kernel_rfl) h0 h1
theorem ix_83:zIX 83 1:=fun h0 h1=>rd_index (by kernel_rfl) h0 h1
theorem ix_89:zIX 89 1:=fun h0 h1=>rd_index (by kernel_rfl) h0 h1
theorem ix_90:zIX 90 1:=fun h0 h1=>rd_index (by kernel_rfl) h0 h1
theorem ix_91:zIX 91 1:=fun h0 h1=>rd_index (by kernel_rfl) h0 h1
theorem ix_95:zIX 95 1:=fun h0 h1=>rd_index (by kernel_rfl) h0 h1
abbrev zLD(t:Nat):Prop:=∀ {b o:Nat} {w:World} {X:Value->World->Prop} {K:Value->Prop},RD Tryz.prog (Instr.loadAt t (.pointer (some ⟨b,o,none⟩))) w K X=ldK (w.heap[b]?) o K (RD0 Tryz.prog (Instr.loadAt t (.pointer (some ⟨b,o,none⟩))) w K X)
theorem ld_100:zLD 100:=rd_load1 (by kernel_rfl)
theorem ld_111{b o:Nat}{w:World}{X:Value->World->Prop}{K:Value->Prop}:RD Tryz.prog (Instr.loadAt 111 (.pointer (some ⟨b,o,none⟩))) w K X=ldN (w.heap[b]?) o 5 K (RD0 Tryz.prog (Instr.loadAt 111 (.pointer (some ⟨b,o,none⟩))) w K X):=rd_loadN (by kernel_rfl)
theorem ld_112:zLD 112:=rd_load1 (by kernel_rfl)
theorem ld_115:zLD 115:=rd_load1 (by kernel_rfl)
theorem ld_126:zLD 126:=rd_load1 (by kernel_rfl)
theorem ld_129:zLD 129:=rd_load1 (by kernel_rfl)
theorem ld_130:zLD 130:=rd_load1 (by kernel_rfl)
theorem ld_143{b o:Nat}{w:World}{X:Value->World->Prop}{K:Value->Prop}:RD Tryz.prog (Instr.loadAt 143 (.pointer (some ⟨b,o,none⟩))) w K X=ldN (w.heap[b]?) o 8 K (RD0 Tryz.prog (Instr.loadAt 143 (.pointer (some ⟨b,o,none⟩))) w K X):=rd_loadN (by kernel_rfl)
theorem ld_146{b o:Nat}{w:World}{X:Value->World->Prop}{K:Value->Prop}:RD Tryz.prog (Instr.loadAt 146 (.pointer (some ⟨b,o,none⟩))) w K X=ldN (w.heap[b]?) o 6 K (RD0 Tryz.prog (Instr.loadAt 146 (.pointer (some ⟨b,o,none⟩))) w K X):=rd_loadN (by kernel_rfl)
theorem ld_155:zLD 155:=rd_load1 (by kernel_rfl)
theorem ld_157{b o:Nat}{w:World}{X:Value->World->Prop}{K:Value->Prop}:RD Tryz.prog (Instr.loadAt 157 (.pointer (some ⟨b,o,none⟩))) w K X=ldN (w.heap[b]?) o 3 K (RD0 Tryz.prog (Instr.loadAt 157 (.pointer (some ⟨b,o,none⟩))) w K X):=rd_loadN (by kernel_rfl)
theorem ld_158:zLD 158:=rd_load1 (by kernel_rfl)
theorem ld_2:zLD 2:=rd_load1 (by kernel_rfl)
theorem ld_22:zLD 22:=rd_load1 (by kernel_rfl)
theorem ld_23:zLD 23:=rd_load1 (by kernel_rfl)
theorem ld_25{b o:Nat}{w:World}{X:Value->World->Prop}{K:Value->Prop}:RD Tryz.prog (Instr.loadAt 25 (.pointer (some ⟨b,o,none⟩))) w K X=ldN (w.heap[b]?) o 3 K (RD0 Tryz.prog (Instr.loadAt 25 (.pointer (some ⟨b,o,none⟩))) w K X):=rd_loadN (by kernel_rfl)
theorem ld_272{b o:Nat}{w:World}{X:Value->World->Prop}{K:Value->Prop}:RD Tryz.prog (Instr.loadAt 272 (.pointer (some ⟨b,o,none⟩))) w K X=ldN (w.heap[b]?) o 23 K (RD0 Tryz.prog (Instr.loadAt 272 (.pointer (some ⟨b,o,none⟩))) w K X):=rd_loadN (by kernel_rfl)
theorem ld_3:zLD 3:=rd_load1 (by kernel_rfl)
theorem ld_32:zLD 32:=rd_load1 (by kernel_rfl)
theorem ld_37:zLD 37:=rd_load1 (by kernel_rfl)
theorem ld_38:zLD 38:=rd_load1 (by kernel_rfl)
theorem ld_4:zLD 4:=rd_load1 (by kernel_rfl)
theorem ld_40{b o:Nat}{w:World}{X:Value->World->Prop}{K:Value->Prop}:RD Tryz.prog (Instr.loadAt 40 (.pointer (some ⟨b,o,none⟩))) w K X=ldN (w.heap[b]?) o 4 K (RD0 Tryz.prog (Instr.loadAt 40 (.pointer (some ⟨b,o,none⟩))) w K X):=rd_loadN (by kernel_rfl)
theorem ld_41:zLD 41:=rd_load1 (by kernel_rfl)
theorem ld_43{b o:Nat}{w:World}{X:Value->World->Prop}{K:Value->Prop}:RD Tryz.prog (Instr.loadAt 43 (.pointer (some ⟨b,o,none⟩))) w K X=ldN (w.heap[b]?) o 7 K (RD0 Tryz.prog (Instr.loadAt 43 (.pointer (some ⟨b,o,none⟩))) w K X):=rd_loadN (by kernel_rfl)
theorem ld_5:zLD 5:=rd_load1 (by kernel_rfl)
theorem ld_57:zLD 57:=rd_load1 (by kernel_rfl)
theorem ld_65:zLD 65:=rd_load1 (by kernel_rfl)
theorem ld_69{b o:Nat}{w:World}{X:Value->World->Prop}{K:Value->Prop}:RD Tryz.prog (Instr.loadAt 69 (.pointer (some ⟨b,o,none⟩))) w K X=ldN (w.heap[b]?) o 3 K (RD0 Tryz.prog (Instr.loadAt 69 (.pointer (some ⟨b,o,none⟩))) w K X):=rd_loadN (by kernel_rfl)
theorem ld_79:zLD 79:=rd_load1 (by kernel_rfl)
theorem ld_81:zLD 81:=rd_load1 (by kernel_rfl)
theorem ld_82:zLD 82:=rd_load1 (by kernel_rfl)
theorem ld_83:zLD 83:=rd_load1 (by kernel_rfl)
theorem ld_89:zLD 89:=rd_load1 (by kernel_rfl)
theorem ld_9:zLD 9:=rd_load1 (by kernel_rfl)
theorem ld_90:zLD 90:=rd_load1 (by kernel_rfl)
theorem ld_91:zLD 91:=rd_load1 (by kernel_rfl)
theorem ld_95:zLD 95:=rd_load1 (by kernel_rfl)
abbrev zLN(t:Nat):Prop:=∀ {a:Option Addr} {n c:Nat} {w:World} {X:Value->World->Prop} {K:Value->Prop},RD Tryz.prog (Builtin.len_ #[t] 3 #[.slice a n c]) w K X=K (.int .i64 n)
theorem ln_126:zLN 126:=rd_len_slice (e:=238) (by kernel_rfl)
theorem ln_129:zLN 129:=rd_len_slice (e:=219) (by kernel_rfl)
theorem ln_23:zLN 23:=rd_len_slice (e:=43) (by kernel_rfl)
theorem ln_37:zLN 37:=rd_len_slice (e:=111) (by kernel_rfl)
theorem ln_38:zLN 38:=rd_len_slice (e:=40) (by kernel_rfl)
theorem ln_41:zLN 41:=rd_len_slice (e:=9) (by kernel_rfl)
theorem ln_81:zLN 81:=rd_len_slice (e:=143) (by kernel_rfl)
theorem ln_82:zLN 82:=rd_len_slice (e:=146) (by kernel_rfl)
theorem ln_83:zLN 83:=rd_len_slice (e:=3) (by kernel_rfl)
theorem ln_89:zLN 89:=rd_len_slice (e:=5) (by kernel_rfl)
theorem ln_9{l:List UInt8}{w:World}{X:Value->World->Prop}{K:Value->Prop}:RD Tryz.prog (Builtin.len_ #[9] 3 #[.string (bs l)]) w K X=K (.int .i64 l.length):=rd_len_string (by kernel_rfl)
theorem ln_95:zLN 95:=rd_len_slice (e:=112) (by kernel_rfl)
theorem mi_100{v:Value}{w:World}{X:Value->World->Prop}{K:Value->World->Prop}:WR Tryz.prog (Instr.makeInterface 100 v) w K X=K (.iface 100 v) w:=wr_iface (by kernel_rfl)
theorem mi_102{v:Value}{w:World}{X:Value->World->Prop}{K:Value->World->Prop}:WR Tryz.prog (Instr.makeInterface 102 v) w K X=K (.iface 102 v) w:=wr_iface (by kernel_rfl)
theorem mi_105{v:Value}{w:World}{X:Value->World->Prop}{K:Value->World->Prop}:WR Tryz.prog (Instr.makeInterface 105 v) w K X=K (.iface 105 v) w:=wr_iface (by kernel_rfl)
theorem mi_115{v:Value}{w:World}{X:Value->World->Prop}{K:Value->World->Prop}:WR Tryz.prog (Instr.makeInterface 115 v) w K X=K (.iface 115 v) w:=wr_iface (by kernel_rfl)
theorem mi_236{v:Value}{w:World}{X:Value->World->Prop}{K:Value->World->Prop}:WR Tryz.prog (Instr.makeInterface 236 v) w K X=K (.iface 236 v) w:=wr_iface (by kernel_rfl)
theorem mi_32{v:Value}{w:World}{X:Value->World->Prop}{K:Value->World->Prop}:WR Tryz.prog (Instr.makeInterface 32 v) w K X=K (.iface 32 v) w:=wr_iface (by kernel_rfl)
theorem mm_118{w:World}{X:Value->World->Prop}{K:Value->World->Prop}:WR Tryz.prog (Instr.makeMap 118 none) w K X=K (.map (some w.heap.size)) (w.alloc (.map #[] 0)):=wr_makeMap
theorem ms_126{kl kc:IntKind}{n m:Nat}{w:World}{X:Value->World->Prop}{K:Value->World->Prop}(hnm:n≤m)(hm:m≤1000000):WR Tryz.prog (Instr.makeSlice 126 (.int kl n) (.int kc m)) w K X=K (.slice (some ⟨w.heap.size,0,none⟩) n m) (w.alloc (.cells (madeCells #[.nilIface] (m*1)) 238)):=wr_makeSlice (z:=.nilIface) (by_:=16) (by kernel_rfl) hnm (by decide) hm
theorem nei0_57{x:Operand}{w:World}{X:Value->World->Prop}{K:Value->Prop}(c:Value):RD Tryz.prog (bo .neq 57 x (.const c) .nilIface .nilIface) w K X=K (.bool false):=rd_nei0 (by kernel_rfl) c
theorem nei1_57{x y:Operand}{w:World}{X:Value->World->Prop}{K:Value->Prop}(u:TypeId)(v:Value):RD Tryz.prog (bo .neq 57 x y (.iface u v) .nilIface) w K X=K (.bool true):=rd_nei1 (by kernel_rfl) u v
theorem nep_22{x y:Operand}{w:World}{X:Value->World->Prop}{K:Value->Prop}(p:Option Addr):RD Tryz.prog (bo .neq 22 x y (.pointer p) (.pointer none)) w K X=K (.bool !p.isNone):=rd_nep (by kernel_rfl) p
theorem nep_45{x y:Operand}{w:World}{X:Value->World->Prop}{K:Value->Prop}(p:Option Addr):RD Tryz.prog (bo .neq 45 x y (.pointer p) (.pointer none)) w K X=K (.bool !p.isNone):=rd_nep (by kernel_rfl) p
theorem sh_82{a:Option Addr}{len cap:Nat}{k:IntKind}{l:Int}{w:World}{X:Value->World->Prop}{K:Value->Prop}(h0:0≤l)(h1:l≤cap):RD Tryz.prog (Instr.sliceAt 82 (.slice a len cap) none (some (.int k l)) none) w K X=K (sliced a 0 l.toNat cap 6):=rd_slice_h (by kernel_rfl) h0 h1
theorem sh_83{a:Option Addr}{len cap:Nat}{k:IntKind}{l:Int}{w:World}{X:Value->World->Prop}{K:Value->Prop}(h0:0≤l)(h1:l≤cap):RD Tryz.prog (Instr.sliceAt 83 (.slice a len cap) none (some (.int k l)) none) w K X=K (sliced a 0 l.toNat cap 1):=rd_slice_h (by kernel_rfl) h0 h1
theorem sl_158{a:Option Addr}{len cap:Nat}{k:IntKind}{l:Int}{w:World}{X:Value->World->Prop}{K:Value->Prop}(h0:0≤l)(h1:l≤len):RD Tryz.prog (Instr.sliceAt 158 (.slice a len cap) (some (.int k l)) none none) w K X=K (sliced a l.toNat len cap 3):=rd_slice_l (by kernel_rfl) h0 h1
theorem sl_9{s:List UInt8}{k:IntKind}{l:Int}{w:World}{X:Value->World->Prop}{K:Value->Prop}(h0:0≤l)(h1:l≤s.length):RD Tryz.prog (Instr.sliceAt 9 (.string (bs s)) (some (.int k l)) none none) w K X=K (.string (bs (s.drop l.toNat))):=rd_str_l (by kernel_rfl) h0 h1
theorem slh_9{s:List UInt8}{k k2:IntKind}{l m:Int}{w:World}{X:Value->World->Prop}{K:Value->Prop}(h0:0≤l)(h1:l≤m)(h2:m≤s.length):RD Tryz.prog (Instr.sliceAt 9 (.string (bs s)) (some (.int k l)) (some (.int k2 m)) none) w K X=K (.string (bs ((s.take m.toNat).drop l.toNat))):=rd_str_lh (by kernel_rfl) h0 h1 h2
abbrev zST(t n:Nat):Prop:=∀ {b o:Nat} {w:World} {X:Value->World->Prop} {K:World->Prop} (v:Value),WU Tryz.prog (Instr.storeAt t (.pointer (some ⟨b,o,none⟩)) v) w K X=stK (w.heap[b]?) w b o n v K (WU0 Tryz.prog (Instr.storeAt t (.pointer (some ⟨b,o,none⟩)) v) w K X)
theorem st_111:zST 111 5:=fun v=>wu_store (by kernel_rfl) v
theorem st_112:zST 112 1:=fun v=>wu_store (by kernel_rfl) v
theorem st_115:zST 115 1:=fun v=>wu_store (by kernel_rfl) v
theorem st_124:zST 124 1:=fun v=>wu_store (by kernel_rfl) v
theorem st_129:zST 129 1:=fun v=>wu_store (by kernel_rfl) v
theorem st_130:zST 130 1:=fun v=>wu_store (by kernel_rfl) v
theorem st_143:zST 143 8:=fun v=>wu_store (by kernel_rfl) v
theorem st_146:zST 146 6:=fun v=>wu_store (by kernel_rfl) v
theorem st_157:zST 157 3:=fun v=>wu_store (by kernel_rfl) v
theorem st_158:zST 158 1:=fun v=>wu_store (by kernel_rfl) v
theorem st_238:zST 238 1:=fun v=>wu_store (by kernel_rfl) v
theorem st_25:zST 25 3:=fun v=>wu_store (by kernel_rfl) v
theorem st_3:zST 3 1:=fun v=>wu_store (by kernel_rfl) v
theorem st_32:zST 32 1:=fun v=>wu_store (by kernel_rfl) v
theorem st_37:zST 37 1:=fun v=>wu_store (by kernel_rfl) v
theorem st_4:zST 4 1:=fun v=>wu_store (by kernel_rfl) v
theorem st_40:zST 40 4:=fun v=>wu_store (by kernel_rfl) v
theorem st_41:zST 41 1:=fun v=>wu_store (by kernel_rfl) v
theorem st_43:zST 43 7:=fun v=>wu_store (by kernel_rfl) v
theorem st_5:zST 5 1:=fun v=>wu_store (by kernel_rfl) v
theorem st_57:zST 57 1:=fun v=>wu_store (by kernel_rfl) v
theorem st_69:zST 69 3:=fun v=>wu_store (by kernel_rfl) v
theorem st_81:zST 81 1:=fun v=>wu_store (by kernel_rfl) v
theorem st_82:zST 82 1:=fun v=>wu_store (by kernel_rfl) v
theorem st_83:zST 83 1:=fun v=>wu_store (by kernel_rfl) v
theorem st_89:zST 89 1:=fun v=>wu_store (by kernel_rfl) v
theorem st_90:zST 90 1:=fun v=>wu_store (by kernel_rfl) v
theorem st_91:zST 91 1:=fun v=>wu_store (by kernel_rfl) v
theorem st_95:zST 95 1:=fun v=>wu_store (by kernel_rfl) v
theorem xa_272{cs:Array Value}{k:IntKind}{i:Int}{w:World}{X:Value->World->Prop}{K:Value->Prop}(h0:0≤i)(h1:i<23):RD Tryz.prog (Instr.index 272 (.agg cs) (.int k i)) w K X=xaK cs i K (RD0 Tryz.prog (Instr.index 272 (.agg cs) (.int k i)) w K X):=rd_xa (e:=9) (by kernel_rfl) (by kernel_rfl) h0 h1
end Go.Proofs.YtilpjhceemaplaaGreatDoor
namespace Go.Proofs.YtilpjhceemaplaaGreatDoor
open Go.RowKit
def IsSl(F:Nat->Prop)(w:World)(et:TypeId)(v:Value)(vs:List Value):Prop:=
 (vs=[]/\v = .slice none 0 0) \/
 ∃ b cs,v = .slice (some ⟨b,0,none⟩) vs.length cs.size/\F b/\w.heap[b]?=some (.cells cs et (0,0))/\vs.length≤cs.size/\cs.toList.take vs.length=vs
theorem IsSl.mono{F F':Nat->Prop}{w w':World}{et:TypeId}{v:Value}{vs:List Value}(h:IsSl F w et v vs)
  (hf:∀ b,F b->F' b) (hw:∀ b cs,F b->w.heap[b]?=some (.cells cs et (0,0))->w'.heap[b]?=some (.cells cs et (0,0))):IsSl F' w' et v vs:=by
 rcases h with h | ⟨b,cs,h1,h2,h3,h4⟩
 ·exact .inl h
 ·exact .inr ⟨b,cs,h1,hf b h2,hw b cs h2 h3,h4⟩
mutual
def IsEx (F:Nat->Prop) (w:World) (v:Value):P.Ex->Prop
 | .mk kind name n k args=>∃ b av vs,v = .pointer (some ⟨b,0,none⟩)/\F b /\
  w.heap[b]?=some (.cells #[.int .u8 kind,.string (bs name),zi n,zi k,av] 277) /\
  IsSl F w 219 av vs/\IsExs F w vs args
 termination_by structural x=>x
def IsExs (F:Nat->Prop) (w:World) (vs:List Value):List P.Ex->Prop
 | []=>vs=[]
 | x::xs=>∃ v r,vs=v::r/\IsEx F w v x/\IsExs F w r xs
 termination_by structural x=>x
end
def astObj:Obj->Prop
 | .cells _ t z=>(t=277\/t=219\/t=163\/t=130)/\z=(0,0)
 | _=>False
mutual
theorem IsEx.mono {F F':Nat->Prop} {w w':World} (hf:∀ b,F b->F' b) (hw:∀ b o,F b->astObj o->w.heap[b]?=some o->w'.heap[b]?=some o) :
  ∀ (x:P.Ex) (v:Value),IsEx F w v x->IsEx F' w' v x
 | .mk kind name n k args,v,h=>by
  unfold IsEx at h ⊢
  obtain⟨b,av,vs,h1,h2,h3,h4,h5⟩:=h
  exact⟨b,av,vs,h1,hf b h2,hw b _ h2 ⟨.inl rfl,rfl⟩ h3,h4.mono hf fun b cs hb hc=>hw b _ hb ⟨.inr (.inl rfl),rfl⟩ hc,IsExs.mono hf hw args vs h5⟩
 termination_by structural x=>x
theorem IsExs.mono {F F':Nat->Prop} {w w':World} (hf:∀ b,F b->F' b) (hw:∀ b o,F b->astObj o->w.heap[b]?=some o->w'.heap[b]?=some o) :
  ∀ (l:List P.Ex) (vs:List Value),IsExs F w vs l->IsExs F' w' vs l
 | [],vs,h=>by unfold IsExs at h ⊢;exact h
 | x::xs,vs,h=>by
  unfold IsExs at h ⊢
  obtain⟨v,r,h1,h2,h3⟩:=h
  exact⟨v,r,h1,IsEx.mono hf hw x v h2,IsExs.mono hf hw xs r h3⟩
 termination_by structural x=>x
end
mutual
def IsBd (F:Nat->Prop) (w:World) (v:Value):P.Bd->Prop
 | .mk kind name args parts=>∃ b av pv vs us,v = .pointer (some ⟨b,0,none⟩)/\F b /\
  w.heap[b]?=some (.cells #[.int .u8 kind,.string (bs name),av,pv] 163) /\
  IsSl F w 219 av vs/\IsExs F w vs args/\IsSl F w 130 pv us/\IsBds F w us parts
 termination_by structural x=>x
def IsBds (F:Nat->Prop) (w:World) (vs:List Value):List P.Bd->Prop
 | []=>vs=[]
 | x::xs=>∃ v r,vs=v::r/\IsBd F w v x/\IsBds F w r xs
 termination_by structural x=>x
end
mutual
theorem IsBd.mono {F F':Nat->Prop} {w w':World} (hf:∀ b,F b->F' b) (hw:∀ b o,F b->astObj o->w.heap[b]?=some o->w'.heap[b]?=some o) :
  ∀ (x:P.Bd) (v:Value),IsBd F w v x->IsBd F' w' v x
 | .mk kind name args parts,v,h=>by
  unfold IsBd at h ⊢
  obtain⟨b,av,pv,vs,us,h1,h2,h3,h4,h5,h6,h7⟩:=h
  exact⟨b,av,pv,vs,us,h1,hf b h2,hw b _ h2 ⟨.inr (.inr (.inl rfl)),rfl⟩ h3,h4.mono hf fun b cs hb hc=>hw b _ hb ⟨.inr (.inl rfl),rfl⟩ hc,
   IsExs.mono hf hw args vs h5,h6.mono hf fun b cs hb hc=>hw b _ hb ⟨.inr (.inr (.inr rfl)),rfl⟩ hc,IsBds.mono hf hw parts us h7⟩
 termination_by structural x=>x
theorem IsBds.mono {F F':Nat->Prop} {w w':World} (hf:∀ b,F b->F' b) (hw:∀ b o,F b->astObj o->w.heap[b]?=some o->w'.heap[b]?=some o) :
  ∀ (l:List P.Bd) (vs:List Value),IsBds F w vs l->IsBds F' w' vs l
 | [],vs,h=>by unfold IsBds at h ⊢;exact h
 | x::xs,vs,h=>by
  unfold IsBds at h ⊢
  obtain⟨v,r,h1,h2,h3⟩:=h
  exact⟨v,r,h1,IsBd.mono hf hw x v h2,IsBds.mono hf hw xs r h3⟩
 termination_by structural x=>x
end
structure TW(T:List P.Tok):Prop where
 len:T.length≤2001
 last:∃ l t,T=l++[t]/\t.kind=0/\∀ u∈l,u.kind≠0
 kind:∀ u∈T,u.kind≤4
 digits:∀ u∈T,u.kind=3->u.text≠[]/\u.text.all P.digit=true/\u.text.length≤9
 words:∀ u∈T,u.kind=1->∃ c r,u.text=c::r/\P.cls c=115
 vars:∀ u∈T,u.kind=2->u.text≠[]
theorem TW.pos{T:List P.Tok}(h:TW T):0<T.length:=by
 obtain⟨l,t,rfl,_⟩:=h.last
 simp
theorem TW.next{T:List P.Tok}(h:TW T){k:Nat}(hk:k<T.length)(hn:(P.tk T k).kind≠0):k+1<T.length:=by
 obtain⟨l,t,rfl,h0,_⟩:=h.last
 simp only[List.length_append,List.length_cons,List.length_nil] at hk ⊢
 rcases Nat.lt_or_ge k l.length with h1 | h1
 ·omega
 ·have:k=l.length:=by omega
  subst this
  exact absurd (by simp [P.tk,h0]) hn
theorem tk_mem{T:List P.Tok}{k:Nat}(hk:k<T.length):P.tk T k∈T:=by
 have:P.tk T k=T[k]:=by simp [P.tk,List.getD_eq_getElem?_getD,List.getElem?_eq_getElem hk]
 rw[this];exact List.getElem_mem hk
structure STab(w:World)(B:Nat):Prop where
 lt:2<B
 lev:∀ l,l<2->∃ b o c,b<B/\w.cell? ⟨2,l,none⟩=some (.slice (some ⟨b,o,none⟩) (P.ops l).length c) /\
  ∀ j,j<(P.ops l).length->w.cell? ⟨b,o+j,none⟩=some (.string (bs ((P.ops l).getD j [])))
theorem cellKeep{w w':World}{a:Addr}{v:Value}(h:w.cell? a=some v)(hw:∀ o,w.heap[a.block]?=some o->w'.heap[a.block]?=some o):w'.cell? a=some v:=by
 cases hb:w.heap[a.block]? with
 | none=>simp [World.cell?,hb] at h
 | some o=>rw[World.cell?_of_block (w:=w) (w':=w') (by rw[hw _ hb,hb])];exact h
theorem STab.ext{w w':World}{B:Nat}(h:STab w B)(hw:∀ (b:Nat) (o:Obj),b<B->w.heap[b]?=some o->w'.heap[b]?=some o):STab w' B:=by
 refine⟨h.lt,fun l hl=>?_⟩
 obtain⟨b,o,c,h1,h2,h3⟩:=h.lev l hl
 exact⟨b,o,c,h1,cellKeep h2 fun x hx=>hw _ x h.lt hx,fun j hj=>cellKeep (h3 j hj) fun x hx=>hw _ x h1 hx⟩
def SToks(w:World)(tb:Nat)(T:List P.Tok):Prop:=
 STab w tb/\∃ cs,w.heap[tb]?=some (.cells cs 157 (0,0))/\∀ j,j<T.length ->
  cs[j*3]?=some (zi ((P.tk T j).kind))/\cs[j*3+1]?=some (.string (bs (P.tk T j).text))/\cs[j*3+2]?=some (zi ((P.tk T j).pos))
structure SP(w:World)(pb tb:Nat)(T:List P.Tok)(k:Nat)(vars:List P.Bs)(d:Nat):Prop where
 tw:TW T
 lt:tb<pb
 kt:k<T.length
 nv:vars.length≤12
 toks:SToks w tb T
 blk:∃ cap vv,T.length≤cap/\cap≤9223372036854775807/\w.heap[pb]?=some (.cells #[.slice (some ⟨tb,k*3,none⟩) (T.length-k) (cap-k),vv,zi d] 160) /\
  w.ownsRow (pb+1) 9 1 vv vars.length (vars.map fun s=>.string (bs s))
def SB(w:World)(pb:Nat):Prop:=∃ lv vv d,w.heap[pb]?=some (.cells #[lv,vv,zi d] 160)
def MS(pb b:Nat)(o:Obj):Prop:=b=pb\/(pb<b/\∃ cs z,o = .cells cs 9 z)
abbrev SFr(pb:Nat)(w w':World):Prop:=FrM (MS pb) w w'
theorem SFr.toks{pb tb:Nat}{w w':World}(h:SFr pb w w')(hl:tb<pb){T:List P.Tok}(ht:SToks w tb T):SToks w' tb T:=by
 obtain⟨hs,cs,h1,h2⟩:=ht
 exact⟨hs.ext fun b o hb ho=>h.block _ _ ho (by rintro (h | ⟨h,_⟩)<;>omega),cs,h.block _ _ h1 (by rintro (h | ⟨h,_⟩)<;>omega),h2⟩
theorem SFr.keep{pb b:Nat}{w w':World}(h:SFr pb w w'){cs:Array Value}{t:TypeId}{z:Nat×Nat}(hb:w.heap[b]?=some (.cells cs t z))
  (hne:b≠pb) (ht:t≠9):w'.heap[b]?=some (.cells cs t z):=
 h.block _ _ hb (by
  rintro (h | ⟨_,cs',z',h⟩)
  ·exact hne h
  ·cases h;exact ht rfl)
theorem SFr.ast{pb b:Nat}{o:Obj}{w w':World}(h:SFr pb w w')(ha:astObj o)(hb:w.heap[b]?=some o)(hne:b≠pb):w'.heap[b]?=some o:=by
 cases o with
 | cells cs t z=>
  refine h.keep hb hne ?_
  rintro rfl
  rcases ha.1 with h | h | h | h<;>cases h
 | _=>exact ha.elim
abbrev Nu(w w':World):Nat->Prop:=fun b=>w.heap.size≤b/\b<w'.heap.size
def faulted(c a:Int)(w w':World)(e:Ending):Prop:=
 ∃ b,e = .panicked [{ v:=.iface 100 (pp b),recovered:=false }] /\
  w'.heap[b]?=some (.cells #[zi c,zi a] 104)/\w.heap.size≤b
def SPost{α:Type}(I:(Nat->Prop)->World->Value->α->Prop)(pb tb:Nat)(T:List P.Tok)(d:Nat)(w:World):P.Res α->Ending->World->Prop
 | .ok x k vs,e,w'=>∃ v,e = .returned v/\I (Nu w w') w' v x/\SP w' pb tb T k vs d/\SFr pb w w'
 | .err c a,e,w'=>faulted c a w w' e/\SFr pb w w'/\SB w' pb
end Go.Proofs.YtilpjhceemaplaaGreatDoor
namespace Go.Proofs.YtilpjhceemaplaaGreatDoor
open Go.RowKit Sx
def rk(k:Nat):Nat:=if k=0 then 101 else if k=1 then 97 else if k=2 then 118 else if k=3 then 110 else 115
def RToks(w:World)(tb:Nat)(T:List P.Tok):Prop:=
 ∃ cs,w.heap[tb]?=some (.cells cs 69 (0,0))/\∀ j,j<T.length ->
  cs[j*3]?=some (.int .u8 (rk (P.tk T j).kind))/\cs[j*3+1]?=some (.string (bs (P.tk T j).text))/\cs[j*3+2]?=some (zi ((P.tk T j).pos))
structure TWs(T:List P.Tok):Prop extends TW T where
 sg:∀ u∈T,u.kind=4->u.text=[46]\/u.text∈P.signs
structure RPx(w:World)(pb tb:Nat)(T:List P.Tok)(k:Nat)(vars:List P.Bs)(d:Int)(er at_ lc:Nat)(vv:Value):Prop where
 tw:TWs T
 lt:tb<pb
 kt:k<T.length
 nv:vars.length≤13/\(er=0->vars.length≤12)
 dp:-1≤d/\d≤1000
 toks:RToks w tb T
 lc1:T.length≤lc
 lc2:lc≤9223372036854775807
 cell:w.heap[pb]?=some (.cells #[.slice (some ⟨tb,0,none⟩) T.length lc,zi k,vv,zi d,zi er,zi at_] 67)
 own:w.ownsRow (pb+1) 9 1 vv vars.length (vars.map fun s=>.string (bs s))
def RP(w:World)(pb tb:Nat)(T:List P.Tok)(k:Nat)(vars:List P.Bs)(d:Int)(er at_:Nat):Prop:=∃ lc vv,RPx w pb tb T k vars d er at_ lc vv
abbrev RFr(pb:Nat)(w w':World):Prop:=FrM (MS pb) w w'
theorem FrM.upd{M:Nat->Obj->Prop}{a b:World}(h:FrM M a b){p:Nat}{o:Obj}(hp:(∀ x,M p x)\/a.heap.size≤p):FrM M a (upd b p o):=
 ⟨h.os,h.tape,h.output,by rw[size_upd];exact h.size,fun i x hi hm=>by
  rcases hp with hp | hp
  ·by_cases e:i=p
   ·subst e;exact absurd (hp x) hm
   ·rw[hp_upd_other e];exact h.block i x hi hm
  ·have:=ltOf hi
   rw[hp_upd_other (by omega)];exact h.block i x hi hm⟩
theorem RToks.at{w:World}{tb:Nat}{T:List P.Tok}(h:RToks w tb T):∃ cs,w.heap[tb]?=some (.cells cs 69 (0,0))/\∀ j,j<T.length->j*3+3≤cs.size /\
  (cs.toList.drop (j*3)).take 3=[.int .u8 (rk (P.tk T j).kind),.string (bs (P.tk T j).text),zi ((P.tk T j).pos)]:=by
 obtain⟨cs,h1,h2⟩:=h
 refine⟨cs,h1,fun j hj=>?_⟩
 obtain⟨a,b,c⟩:=h2 j hj
 have hc:=(Array.getElem?_eq_some_iff.1 c).1
 refine⟨by omega,?_⟩
 apply List.ext_getElem?
 intro i
 rw[List.getElem?_take]
 match i with
 | 0=>simpa using a
 | 1=>simpa using b
 | 2=>simpa using c
 | i+3=>simp;omega
theorem own_ext{w w':World}(hw:∀ (b:Nat) (o:Obj),w.heap[b]?=some o->w'.heap[b]?=some o){base e size n:Nat}{v:Value}{xs:List Value}(h:w.ownsRow base e size v n xs):w'.ownsRow base e size v n xs:=by
 obtain⟨g1,g2⟩:=h
 refine⟨g1,?_⟩
 rcases g2 with g | ⟨g,cp,cur,e1,e2,e3,e4⟩
 ·exact .inl g
 ·exact .inr ⟨g,cp,cur,e1,e2,hw _ _ e3,e4⟩
theorem own_upd{w:World}{p:Nat}{o:Obj}{base e size n:Nat}{v:Value}{xs:List Value}(h:w.ownsRow base e size v n xs)(hp:p<base):(upd w p o).ownsRow base e size v n xs:=by
 obtain⟨g1,g2⟩:=h
 refine⟨g1,?_⟩
 rcases g2 with g | ⟨g,cp,cur,e1,e2,e3,e4⟩
 ·exact .inl g
 ·exact .inr ⟨g,cp,cur,e1,e2,by rw[hp_upd_other (by omega)];exact e3,e4⟩
theorem RPx.ext{w w':World}{pb tb:Nat}{T:List P.Tok}{k:Nat}{vars:List P.Bs}{d:Int}{er at_ lc:Nat}{vv:Value}(h:RPx w pb tb T k vars d er at_ lc vv)(hf:Ext w w') :
  RPx w' pb tb T k vars d er at_ lc vv:=by
 obtain⟨tw,lt,kt,nv,dp,⟨cs,c1,c2⟩,h1,h2,h3,g⟩:=h
 exact⟨tw,lt,kt,nv,dp,⟨cs,hf.ext _ _ c1,c2⟩,h1,h2,hf.ext _ _ h3,own_ext hf.ext g⟩
theorem RP.ext{w w':World}{pb tb:Nat}{T:List P.Tok}{k:Nat}{vars:List P.Bs}{d:Int}{er at_:Nat}(h:RP w pb tb T k vars d er at_)(hf:Ext w w'):RP w' pb tb T k vars d er at_:=by
 obtain⟨lc,vv,h⟩:=h
 exact⟨lc,vv,h.ext hf⟩
theorem RPx.set{w:World}{pb tb:Nat}{T:List P.Tok}{k:Nat}{vars:List P.Bs}{d:Int}{er at_ lc:Nat}{vv:Value}(h:RPx w pb tb T k vars d er at_ lc vv)
  {k':Nat} {kz:Int} {d':Int} {er' at':Nat} (hk:k'<T.length) (hd:-1≤d'/\d'≤1000) (hkz:kz=k') (he:er'=0->er=0) :
  RPx (upd w pb (.cells #[.slice (some ⟨tb,0,none⟩) T.length lc,zi kz,vv,zi d',zi er',zi at'] 67)) pb tb T k' vars d' er' at' lc vv:=by
 subst hkz
 obtain⟨tw,lt,kt,nv,dp,⟨cs,c1,c2⟩,h1,h2,h3,g⟩:=h
 refine⟨tw,lt,hk,⟨nv.1,fun e=>nv.2 (he e)⟩,hd,⟨cs,?_,c2⟩,h1,h2,hp_upd_same rfl (ltOf h3),own_upd g (by omega)⟩
 rw[hp_upd_other (by omega)];exact c1
theorem RPx.cs{w:World}{pb tb:Nat}{T:List P.Tok}{k:Nat}{vars:List P.Bs}{d:Int}{er at_ lc:Nat}{vv:Value}(h:RPx w pb tb T k vars d er at_ lc vv) :
  ∃ cs,w.heap[tb]?=some (.cells cs 69 (0,0))/\k*3+3≤cs.size/\(cs.toList.drop (k*3)).take 3=[.int .u8 (rk (P.tk T k).kind),.string (bs (P.tk T k).text),zi ((P.tk T k).pos)]:=by
 obtain⟨cs,c1,c2⟩:=h.toks.at
 exact⟨cs,c1,c2 k h.kt⟩
theorem RP.of{w:World}{pb tb:Nat}{T:List P.Tok}{k:Nat}{vars:List P.Bs}{d:Int}{er at_ lc:Nat}{vv:Value}(h:RPx w pb tb T k vars d er at_ lc vv):RP w pb tb T k vars d er at_:=⟨lc,vv,h⟩
theorem rk_sign{a:Nat}(ha:a≤4):rk a=115↔a=4:=by
 unfold rk
 repeat' split
 all_goals omega
theorem rk_atom{a:Nat}(ha:a≤4):rk a=97↔a=1:=by
 unfold rk
 repeat' split
 all_goals omega
theorem rk_var{a:Nat}(ha:a≤4):rk a=118↔a=2:=by
 unfold rk
 repeat' split
 all_goals omega
theorem rk_num{a:Nat}(ha:a≤4):rk a=110↔a=3:=by
 unfold rk
 repeat' split
 all_goals omega
theorem rk_end{a:Nat}(ha:a≤4):rk a=101↔a=0:=by
 unfold rk
 repeat' split
 all_goals omega
theorem rk_small(a:Nat):rk a≤255:=by
 unfold rk
 repeat' split
 all_goals omega
theorem RPx.kind4{w:World}{pb tb:Nat}{T:List P.Tok}{k:Nat}{vars:List P.Bs}{d:Int}{er at_ lc:Nat}{vv:Value}(h:RPx w pb tb T k vars d er at_ lc vv):(P.tk T k).kind≤4:=h.tw.kind _ (tk_mem h.kt)
end Go.Proofs.YtilpjhceemaplaaGreatDoor
namespace Go.Proofs.YtilpjhceemaplaaGreatDoor
open Go.RowKit
theorem SToks.at{w:World}{tb:Nat}{T:List P.Tok}(h:SToks w tb T){k:Nat}(hk:k<T.length) :
  w.cell? ⟨tb,k*3,none⟩=some (zi ((P.tk T k).kind))/\w.cell? ⟨tb,k*3+1,none⟩=some (.string (bs (P.tk T k).text)) /\
   w.cell? ⟨tb,k*3+2,none⟩=some (zi ((P.tk T k).pos)):=by
 obtain⟨-,cs,h1,h2⟩:=h
 obtain⟨a,b,c⟩:=h2 k hk
 exact⟨cellOf h1 a,cellOf h1 b,cellOf h1 c⟩
theorem SP.set{w w':World}{pb tb:Nat}{T:List P.Tok}{k k':Nat}{vars:List P.Bs}{d d':Nat}(h:SP w pb tb T k vars d)(hk:k'<T.length)
  (hf:SFr pb w w')
  (hb:∀ cap vv,w.heap[pb]?=some (.cells #[.slice (some ⟨tb,k*3,none⟩) (T.length-k) (cap-k),vv,zi d] 160) ->
   w'.heap[pb]?=some (.cells #[.slice (some ⟨tb,k'*3,none⟩) (T.length-k') (cap-k'),vv,zi d'] 160))
  (hs:∀ b,b≠pb->w'.heap[b]?=w.heap[b]?):SP w' pb tb T k' vars d':=by
 obtain⟨tw,lt,kt,nv,toks,cap,vv,h1,h2,h3,h4⟩:=h
 refine⟨tw,lt,hk,nv,hf.toks lt toks,cap,vv,h1,h2,hb cap vv h3,?_⟩
 obtain⟨g1,g2⟩:=h4
 refine⟨g1,?_⟩
 rcases g2 with g | ⟨g,cp,cur,e1,e2,e3,e4⟩
 ·exact .inl g
 ·exact .inr ⟨g,cp,cur,e1,e2,by rw[hs g (by omega)];exact e3,e4⟩
theorem SFr.setp{pb o:Nat}{a b:World}(h:SFr pb a b)(v:Value):SFr pb a (b.setCell ⟨pb,o,none⟩ v):=h.setM (fun _=>.inl rfl) v
theorem sIs_yes{pb tb:Nat}{T:List P.Tok}{k:Nat}{vars:List P.Bs}{d:Nat}{w:World}(hp:SP w pb tb T k vars d)(s:P.Bs)(h:P.isT T k s=true) :
  Calls Tryz.prog 55 #[pp pb,.string (bs s)] w fun e w'=>
   e = .returned (.bool true)/\SP w' pb tb T (k+1) vars d/\SFr pb w w':=by
 obtain⟨cap,vv,hc1,hc2,hpb,-⟩:=hp.blk
 have h0:=cellOf hpb (o:=0) rfl
 have f0:=freeOf hpb 0
 obtain⟨t0,t1,-⟩:=hp.toks.at hp.kt
 simp only[P.isT,Bool.and_eq_true,Bool.or_eq_true,beq_iff_eq] at h
 have hkn:k+1<T.length:=hp.tw.next hp.kt (by omega)
 have hfin:SP (w.setCell ⟨pb,0,none⟩ (.slice (some ⟨tb,k*3+3,none⟩) (T.length-k-1) (cap-k-1))) pb tb T (k+1) vars d:=by
  refine hp.set hkn (SFr.setp (FrM.refl _ _) _) (fun cp v2 hv=>?_) (fun b hne=>blk_setCell_other hne _)
  rw[hpb] at hv
  injection hv with hv
  injection hv with hv
  have hx:(Value.slice (some ⟨tb,k*3,none⟩) (T.length-k) (cap-k))=Value.slice (some ⟨tb,k*3,none⟩) (T.length-k) (cp-k):=by
   have:=congrArg (fun a=>a[0]?) hv;simpa using this
  have hy:vv=v2:=by have:=congrArg (fun a=>a[1]?) hv;simpa using this
  injection hx with _ _ hx
  subst hy
  rw[blk_setCell_same hpb]
  have e1:(k+1)*3=k*3+3:=by omega
  have e2:T.length-(k+1)=T.length-k-1:=by omega
  have e3:cp-(k+1)=cap-k-1:=by omega
  rw[e1,e2,e3]
  rfl
 have hfr:SFr pb w (w.setCell ⟨pb,0,none⟩ (.slice (some ⟨tb,k*3+3,none⟩) (T.length-k-1) (cap-k-1))):=SFr.setp (FrM.refl _ _) _
 obtain⟨kd,hkd⟩:∃ kd:Int,kd=((P.tk T k).kind:Int):=⟨_,rfl⟩
 rw[<- hkd] at t0
 rw[h.2] at t1
 have k0:(kd == 0)=false:=by simp;omega
 have k2:(kd == 2)=false:=by simp;omega
 have l1:1<T.length-k:=by omega
 have l2:T.length-k≤100000:=by have:=hp.tw.len;omega
 have l3:T.length-k≤cap-k:=by omega
 clear hkd h
 generalize hn:T.length-k=n at *
 generalize hm:cap-k=m at *
 clear hn hm hc1 hc2 hkn hp hpb
 go_enter Tryz.func55,Tryz.ntmps55
 go_wp2
 go_ret
 exact⟨rfl,hfin,hfr⟩
theorem sIs_no{pb tb:Nat}{T:List P.Tok}{k:Nat}{vars:List P.Bs}{d:Nat}{w:World}(hp:SP w pb tb T k vars d)(s:P.Bs)(h:P.isT T k s=false)
  (hs:s.all P.digit=false) :
  Calls Tryz.prog 55 #[pp pb,.string (bs s)] w fun e w'=>e = .returned (.bool false)/\w=w':=by
 obtain⟨cap,vv,hc1,hc2,hpb,-⟩:=hp.blk
 have h0:=cellOf hpb (o:=0) rfl
 obtain⟨t0,t1,-⟩:=hp.toks.at hp.kt
 have hk4:=hp.tw.kind _ (tk_mem hp.kt)
 have hdg:=hp.tw.digits _ (tk_mem hp.kt)
 have l1:0<T.length-k:=by have:=hp.kt;omega
 have l2:T.length-k≤100000:=by have:=hp.tw.len;omega
 by_cases hx:(P.tk T k).text=s
 ·have hkd:(P.tk T k).kind=0\/(P.tk T k).kind=2:=by
   simp only[P.isT,hx,beq_self_eq_true,Bool.and_true,Bool.or_eq_false_iff,beq_eq_false_iff_ne] at h
   rcases Nat.lt_or_ge (P.tk T k).kind 3 with g | g
   ·omega
   ·have:(P.tk T k).kind=3:=by omega
    obtain⟨_,g2,_⟩:=hdg this
    rw[hx,hs] at g2
    cases g2
  rw[hx] at t1
  rcases hkd with hkd | hkd
  ·rw[hkd] at t0
   clear h hdg hk4 hkd hx hp
   generalize hn:T.length-k=n at *
   generalize hm:cap-k=m at *
   clear hn hm hc1 hc2 hpb
   go_enter Tryz.func55,Tryz.ntmps55
   go_wp2
   go_ret
   exact⟨rfl,rfl⟩
  ·rw[hkd] at t0
   clear h hdg hk4 hkd hx hp
   generalize hn:T.length-k=n at *
   generalize hm:cap-k=m at *
   clear hn hm hc1 hc2 hpb
   go_enter Tryz.func55,Tryz.ntmps55
   go_wp2
   go_ret
   exact⟨rfl,rfl⟩
 ·obtain⟨kd,hkd⟩:∃ kd:Int,kd=((P.tk T k).kind:Int):=⟨_,rfl⟩
  rw[<- hkd] at t0
  obtain⟨x,hxx⟩:∃ x,x=(P.tk T k).text:=⟨_,rfl⟩
  rw[<- hxx] at t1 hx
  clear hkd h hdg hk4 hxx hp
  generalize hn:T.length-k=n at *
  generalize hm:cap-k=m at *
  clear hn hm hc1 hc2 hpb
  go_enter Tryz.func55,Tryz.ntmps55
  go_wp2
  go_ret
  exact⟨rfl,rfl⟩
theorem sFail(c a:Int)(w:World)(pb:Nat)(hsb:SB w pb) :
  Calls Tryz.prog 53 #[zi c,zi a] w fun e w'=>faulted c a w w' e/\SFr pb w w'/\SB w' pb:=by
 have hfin:faulted c a w (w.alloc (Obj.cells #[Value.int IntKind.i64 c,Value.int IntKind.i64 a] 104))
   (.panicked [{ v:=.iface 100 (pp w.heap.size),recovered:=false }]):=
  ⟨_,rfl,blk_alloc_new _ _,Nat.le_refl _⟩
 have hsb':SB (w.alloc (Obj.cells #[Value.int IntKind.i64 c,Value.int IntKind.i64 a] 104)) pb:=by
  obtain⟨lv,vv,d,h⟩:=hsb
  exact⟨lv,vv,d,blk_alloc_old h⟩
 clear hsb
 go_enter Tryz.func53,Tryz.ntmps53
 go_wp2
 exact⟨rfl,hfin,(FrM.refl _ _).alloc _,hsb'⟩
theorem SP.sb{w:World}{pb tb:Nat}{T:List P.Tok}{k:Nat}{vars:List P.Bs}{d:Nat}(h:SP w pb tb T k vars d):SB w pb:=by
 obtain⟨cap,vv,_,_,h,_⟩:=h.blk
 exact⟨_,_,_,h⟩
theorem SP.l0{w:World}{pb tb:Nat}{T:List P.Tok}{k:Nat}{vars:List P.Bs}{d:Nat}(h:SP w pb tb T k vars d) :
  ∃ n c:Nat,w.cell? ⟨pb,0,none⟩=some (.slice (some ⟨tb,k*3,none⟩) n c)/\0<n/\n≤100000/\((P.tk T k).kind≠0->1<n)/\n≤c/\c≤9223372036854775807:=by
 obtain⟨cap,vv,h1,h2,h3,_⟩:=h.blk
 refine⟨_,_,cellOf h3 rfl,?_,?_,?_,?_,?_⟩
 ·have:=h.kt;omega
 ·have:=h.tw.len;omega
 ·intro hk;have:=h.tw.next h.kt hk;omega
 ·omega
 ·omega
theorem sNone{pb tb:Nat}{T:List P.Tok}{k:Nat}{vars:List P.Bs}{d:Nat}{w:World}(hp:SP w pb tb T k vars d) :
  Calls Tryz.prog 54 #[pp pb] w fun e w'=>faulted 2 (P.tk T k).pos w w' e/\SFr pb w w'/\SB w' pb:=by
 obtain⟨n,c,h0,l0,l1,-,-,-⟩:=hp.l0
 obtain⟨-,-,t2⟩:=hp.toks.at hp.kt
 have hsb:=Lib.hid hp.sb
 clear hp
 go_enter Tryz.func54,Tryz.ntmps54
 go_wp2_with fail
 refine(sFail _ _ _ pb hsb.out).mono ?_
 rintro e w' ⟨⟨b,rfl,hb⟩,hf,hs⟩
 exact⟨rfl,⟨b,rfl,hb⟩,hf,hs⟩
theorem sMust_yes{pb tb:Nat}{T:List P.Tok}{k:Nat}{vars:List P.Bs}{d:Nat}{w:World}(hp:SP w pb tb T k vars d)(s:P.Bs)(h:P.isT T k s=true) :
  Calls Tryz.prog 57 #[pp pb,.string (bs s)] w fun e w'=>
   e = .returned (.tuple #[])/\SP w' pb tb T (k+1) vars d/\SFr pb w w':=by
 have H:=Lib.hid hp
 have H2:=Lib.hid h
 clear hp h
 go_enter Tryz.func57,Tryz.ntmps57
 go_wp2_with fail
 refine(sIs_yes H.out s H2.out).mono ?_
 rintro e w' ⟨rfl,h1,h2⟩
 have H1:=Lib.hid h1
 have H2:=Lib.hid h2
 clear h1 h2
 go_wp2_with fail
 go_end0
 exact⟨rfl,H1.out,H2.out⟩
theorem sMust_no{pb tb:Nat}{T:List P.Tok}{k:Nat}{vars:List P.Bs}{d:Nat}{w:World}(hp:SP w pb tb T k vars d)(s:P.Bs)(h:P.isT T k s=false)
  (hs:s.all P.digit=false) :
  Calls Tryz.prog 57 #[pp pb,.string (bs s)] w fun e w'=>
   faulted 2 (P.tk T k).pos w w' e/\SFr pb w w'/\SB w' pb:=by
 have H:=Lib.hid hp
 have H2:=Lib.hid h
 have H3:=Lib.hid hs
 clear hp h hs
 go_enter Tryz.func57,Tryz.ntmps57
 go_wp2_with fail
 refine(sIs_no H.out s H2.out H3.out).mono ?_
 rintro e w' ⟨rfl,rfl⟩
 go_wp2_with fail
 refine(sNone H.out).mono ?_
 rintro e w' ⟨⟨b,rfl,hb⟩,hf,hs⟩
 exact⟨rfl,⟨b,rfl,hb⟩,hf,hs⟩
theorem SP.d2{w:World}{pb tb:Nat}{T:List P.Tok}{k:Nat}{vars:List P.Bs}{d:Nat}(h:SP w pb tb T k vars d) :
  w.cell? ⟨pb,2,none⟩=some (zi d)/\w.frozen? ⟨pb,2,none⟩=false/\pb<w.heap.size:=by
 obtain⟨cap,vv,h1,h2,h3,_⟩:=h.blk
 exact⟨cellOf h3 rfl,freeOf h3 2,ltOf h3⟩
abbrev deepW(w:World)(pb:Nat)(d:Nat):World:=
 (w.setCell ⟨pb,2,none⟩ (zi ((d:Int)+1))).alloc (.cells #[pp pb] 154)
theorem SP.ext{w w':World}{pb tb:Nat}{T:List P.Tok}{k:Nat}{vars:List P.Bs}{d:Nat}(h:SP w pb tb T k vars d)
  (hw:∀ (b:Nat) (o:Obj),w.heap[b]?=some o->w'.heap[b]?=some o):SP w' pb tb T k vars d:=by
 obtain⟨tw,lt,kt,nv,toks,cap,vv,h1,h2,h3,g1,g2⟩:=h
 obtain⟨ts,cs,t1,t2⟩:=toks
 refine⟨tw,lt,kt,nv,⟨ts.ext fun b o _ ho=>hw b o ho,cs,hw _ _ t1,t2⟩,cap,vv,h1,h2,hw _ _ h3,g1,?_⟩
 rcases g2 with g | ⟨g,cp,cur,e1,e2,e3,e4⟩
 ·exact .inl g
 ·exact .inr ⟨g,cp,cur,e1,e2,hw _ _ e3,e4⟩
theorem SP.deepW{w:World}{pb tb:Nat}{T:List P.Tok}{k:Nat}{vars:List P.Bs}{d:Nat}(h:SP w pb tb T k vars d):SP (deepW w pb d) pb tb T k vars (d+1):=by
 have h1:SP (w.setCell ⟨pb,2,none⟩ (zi ((d:Int)+1))) pb tb T k vars (d+1):=by
  refine h.set h.kt (SFr.setp (FrM.refl _ _) _) (fun cp v2 hv=>?_) (fun b hne=>blk_setCell_other hne _)
  rw[blk_setCell_same hv]
  rfl
 exact h1.ext fun b o hb=>blk_alloc_old hb
theorem size_deepW(w:World)(pb d:Nat):(deepW w pb d).heap.size=w.heap.size+1:=by rw[size_alloc,size_setCell]
theorem blk_deepW(w:World)(pb d:Nat):(deepW w pb d).heap[w.heap.size]?=some (.cells #[pp pb] 154):=by
 have:=blk_alloc_new (w.setCell ⟨pb,2,none⟩ (zi ((d:Int)+1))) (.cells #[pp pb] 154)
 rw[size_setCell] at this
 exact this
theorem SFr_deepW(w:World)(pb d:Nat):SFr pb w (deepW w pb d):=(SFr.setp (FrM.refl _ _) _).alloc _
theorem sDeeper_yes{pb tb:Nat}{T:List P.Tok}{k:Nat}{vars:List P.Bs}{d:Nat}{w:World}(hp:SP w pb tb T k vars d)(hd:d+1≤8) :
  Calls Tryz.prog 95 #[pp pb] w fun e w'=>
   e = .returned (.func (.func 128) #[] #[pp w.heap.size])/\w'.heap.size=w.heap.size+1 /\
   w'.heap[w.heap.size]?=some (.cells #[pp pb] 154)/\SP w' pb tb T k vars (d+1)/\SFr pb w w':=by
 obtain⟨h2,f2,hb⟩:=hp.d2
 have H:=Lib.hid hp
 clear hp
 go_enter Tryz.func95,Tryz.ntmps95
 go_wp2_with fail
 go_ret
 exact⟨rfl,size_deepW w pb d,blk_deepW w pb d,H.out.deepW,SFr_deepW w pb d⟩
theorem sDeeper_no{pb tb:Nat}{T:List P.Tok}{k:Nat}{vars:List P.Bs}{d:Nat}{w:World}(hp:SP w pb tb T k vars d)(hd:8<d+1)(hd2:d≤100) :
  Calls Tryz.prog 95 #[pp pb] w fun e w'=>faulted 4 (P.tk T k).pos w w' e/\SFr pb w w'/\SB w' pb:=by
 obtain⟨h2,f2,hb⟩:=hp.d2
 have hne:¬ tb=pb:=by have:=hp.lt;omega
 have hne':¬ pb=tb:=by omega
 have htl:tb<w.heap.size:=by have:=hp.lt;omega
 have hp2:=Lib.hid hp.deepW
 have hf2:=Lib.hid (SFr_deepW w pb d)
 obtain⟨n,c,h0,l0,l1,-,-,-⟩:=hp.l0
 obtain⟨-,-,t2⟩:=hp.toks.at hp.kt
 clear hp
 go_enter Tryz.func95,Tryz.ntmps95
 go_wp2_with fail
 refine(sFail _ _ _ pb hp2.out.sb).mono ?_
 rintro e w' ⟨⟨b,rfl,hb,hl⟩,hf,hs⟩
 exact⟨rfl,⟨b,rfl,hb,Nat.le_trans (Nat.le_trans (Nat.le_succ _) (Nat.le_of_eq (size_deepW w pb d).symm)) hl⟩,hf2.out.trans hf,hs⟩
abbrev shalW(w:World)(pb:Nat)(d:Int):World:=w.setCell ⟨pb,2,none⟩ (zi d)
theorem sShal{pb tb bx:Nat}{T:List P.Tok}{k:Nat}{vars:List P.Bs}{d:Nat}{w:World}(hp:SP w pb tb T k vars (d+1))
  (hx:w.heap[bx]?=some (.cells #[pp pb] 154)) (hd:d≤100) (u:FrameMode) :
  CallsD Tryz.prog 128 #[pp bx] u w fun e u' w'=>u'=u/\(e = .returned (.tuple #[])/\SP w' pb tb T k vars d/\SFr pb w w'/\w'.heap.size=w.heap.size):=by
 obtain⟨h2,f2,hb⟩:=hp.d2
 have hx0:w.cell? ⟨bx,0,none⟩=_:=cellOf hx rfl
 have e1:((d+1:Nat):Int)=(d:Int)+1:=rfl
 rw[e1] at h2
 have hfin:SP (shalW w pb d) pb tb T k vars d:=by
  refine hp.set hp.kt (SFr.setp (FrM.refl _ _) _) (fun cp v2 hv=>?_) (fun b hne=>blk_setCell_other hne _)
  rw[blk_setCell_same hv]
  rfl
 have hfr:SFr pb w (shalW w pb d):=SFr.setp (FrM.refl _ _) _
 have hsz:(shalW w pb d).heap.size=w.heap.size:=size_setCell _ _ _
 have H1:=Lib.hid hfin
 have H2:=Lib.hid hfr
 have H3:=Lib.hid hsz
 clear hfin hfr hsz hp e1 hx
 have e2:((d:Int)+1-1)=d:=by omega
 go_enter_d Tryz.func128,Tryz.ntmps128
 go_wp2_with fail
 go_end0
 exact⟨rfl,H1.out,H2.out,H3.out⟩
theorem sShalP{pb bx:Nat}{w:World}(hp:SB w pb)
  (hx:w.heap[bx]?=some (.cells #[pp pb] 154)) (u:FrameMode) :
  CallsD Tryz.prog 128 #[pp bx] u w fun e u' w'=>u'=u/\(e = .returned (.tuple #[])/\SB w' pb/\SFr pb w w'/\w'.heap.size=w.heap.size/\∀ b,b≠pb->w'.heap[b]?=w.heap[b]?):=by
 obtain⟨lv,vv,d,h⟩:=hp
 have h2:w.cell? ⟨pb,2,none⟩=_:=cellOf h rfl
 have f2:=freeOf h 2
 have hx0:w.cell? ⟨bx,0,none⟩=_:=cellOf hx rfl
 have hfin:∀ x,SB (w.setCell ⟨pb,2,none⟩ (zi x)) pb:=fun x=>⟨lv,vv,x,by rw[blk_setCell_same h];rfl⟩
 have hfr:∀ x,SFr pb w (w.setCell ⟨pb,2,none⟩ (zi x)):=fun x=>SFr.setp (FrM.refl _ _) _
 have H1:=Lib.hid hfin
 have H2:=Lib.hid hfr
 clear hfin hfr hx h
 go_enter_d Tryz.func128,Tryz.ntmps128
 go_wp2_with fail
 go_end0
 exact⟨rfl,H1.out _,H2.out _,size_setCell _ _ _,fun b hb=>blk_setCell_other hb _⟩
def IsSlEx(F:Nat->Prop)(w:World)(v:Value)(l:List P.Ex):Prop:=∃ vs,IsSl F w 219 v vs/\IsExs F w vs l
def IsSlBd(F:Nat->Prop)(w:World)(v:Value)(l:List P.Bd):Prop:=∃ vs,IsSl F w 130 v vs/\IsBds F w vs l
structure CPrim(f:Nat):Prop where
 go:∀ {pb tb:Nat} {T:List P.Tok} {k:Nat} {vars:List P.Bs} {d:Nat} {w:World} {r:P.Res P.Ex},SP w pb tb T k vars d->d≤8 ->
  P.pPrim T f k vars d=some r->Calls Tryz.prog 148 #[pp pb] w (SPost IsEx pb tb T d w r)
structure CArgs(f:Nat):Prop where
 go:∀ {pb tb:Nat} {T:List P.Tok} {k:Nat} {vars:List P.Bs} {d:Nat} {w:World} {r:P.Res (List P.Ex)} (at_:Nat),SP w pb tb T k vars d->d≤8 ->
  P.pArgs T f k vars d at_ []=some r->Calls Tryz.prog 56 #[pp pb,zi at_] w (SPost IsSlEx pb tb T d w r)
structure CList(f:Nat):Prop where
 go:∀ {pb tb:Nat} {T:List P.Tok} {k:Nat} {vars:List P.Bs} {d:Nat} {w:World} {r:P.Res P.Ex},SP w pb tb T k vars d->d≤8 ->
  P.pList T f k vars d=some r->Calls Tryz.prog 173 #[pp pb] w (SPost IsEx pb tb T d w r)
structure COper(f:Nat):Prop where
 go:∀ {pb tb:Nat} {T:List P.Tok} {k:Nat} {vars:List P.Bs} {d:Nat} {w:World} {r:P.Res P.Ex} (lvl:Nat),lvl≤2->SP w pb tb T k vars d->d≤8 ->
  P.pOper T f lvl k vars d=some r->Calls Tryz.prog 125 #[pp pb,zi lvl] w (SPost IsEx pb tb T d w r)
structure CExpr(f:Nat):Prop where
 go:∀ {pb tb:Nat} {T:List P.Tok} {k:Nat} {vars:List P.Bs} {d:Nat} {w:World} {r:P.Res P.Ex},SP w pb tb T k vars d->d≤8 ->
  P.pOper T f 0 k vars d=some r->Calls Tryz.prog 93 #[pp pb] w (SPost IsEx pb tb T d w r)
structure CVar:Prop where
 go:∀ {pb tb:Nat} {T:List P.Tok} {k:Nat} {vars:List P.Bs} {d:Nat} {w:World} (t:P.Tok),SP w pb tb T k vars d->t.text≠[] ->
  Calls Tryz.prog 172 #[pp pb,.agg #[zi t.kind,.string (bs t.text),zi t.pos]] w (SPost IsEx pb tb T d w (P.pVar t k vars))
structure CInt:Prop where
 go:∀ {w:World} (s:P.Bs),s≠[]->s.all P.digit=true->s.length≤9 ->
  Calls Tryz.prog 170 #[.string (bs s),zi 10,zi 64] w fun e w'=>e = .returned (.tuple #[zi (P.num s),.nilIface])/\Ext w w'
abbrev onW(w:World)(pb tb k n c:Nat):World:=w.setCell ⟨pb,0,none⟩ (.slice (some ⟨tb,k*3+3,none⟩) (n-1) (c-1))
theorem SP.on{w:World}{pb tb:Nat}{T:List P.Tok}{k:Nat}{vars:List P.Bs}{d:Nat}(h:SP w pb tb T k vars d)(hk:(P.tk T k).kind≠0) :
  ∃ n c:Nat,w.cell? ⟨pb,0,none⟩=some (.slice (some ⟨tb,k*3,none⟩) n c)/\w.frozen? ⟨pb,0,none⟩=false/\pb<w.heap.size/\1<n/\n≤100000/\n≤c/\c≤9223372036854775807 /\
   SP (onW w pb tb k n c) pb tb T (k+1) vars d/\SFr pb w (onW w pb tb k n c):=by
 obtain⟨tw,lt,kt,nv,toks,cap,vv,h1,h2,h3,g1,g2⟩:=h
 have hk2:=tw.next kt hk
 have htl:=tw.len
 have hf:SFr pb w (onW w pb tb k (T.length-k) (cap-k)):=SFr.setp (FrM.refl _ _) _
 refine⟨T.length-k,cap-k,cellOf h3 rfl,freeOf h3 0,ltOf h3,by omega,by omega,by omega,by omega,?_,hf⟩
 refine⟨tw,lt,hk2,nv,hf.toks lt toks,cap,vv,h1,h2,?_,g1,?_⟩
 ·rw[blk_setCell_same h3]
  have e1:(k+1)*3=k*3+3:=by omega
  have e2:T.length-(k+1)=T.length-k-1:=by omega
  have e3:cap-(k+1)=cap-k-1:=by omega
  rw[e1,e2,e3]
  rfl
 ·rcases g2 with g | ⟨g,cp,cur,e1,e2,e3,e4⟩
  ·exact .inl g
  ·refine .inr ⟨g,cp,cur,e1,e2,?_,e4⟩
   rw[blk_setCell_other (by show g≠pb;omega)];exact e3
end Go.Proofs.YtilpjhceemaplaaGreatDoor
namespace Go.Proofs.YtilpjhceemaplaaGreatDoor
open Go.RowKit
def Stab{α:Type}(I:(Nat->Prop)->World->Value->α->Prop):Prop:=
 ∀ (F F':Nat->Prop) (pb:Nat) (w w':World) (v:Value) (x:α),I F w v x->SFr pb w w'->(∀ b,F b->b≠pb/\F' b)->I F' w' v x
theorem stab_Ex:Stab IsEx:=fun F F' pb w w' v x h hf hn=>IsEx.mono (fun b hb=>(hn b hb).2) (fun b _ hb ha ho=>hf.ast ha ho (hn b hb).1) x v h
theorem stab_Bd:Stab IsBd:=fun F F' pb w w' v x h hf hn=>IsBd.mono (fun b hb=>(hn b hb).2) (fun b _ hb ha ho=>hf.ast ha ho (hn b hb).1) x v h
theorem stab_SlEx:Stab IsSlEx:=fun F F' pb w w' v x h hf hn=>by
 obtain⟨vs,h1,h2⟩:=h
 exact⟨vs,h1.mono (fun b hb=>(hn b hb).2) fun b cs hb hc=>hf.ast ⟨.inr (.inl rfl),rfl⟩ hc (hn b hb).1,
  IsExs.mono (fun b hb=>(hn b hb).2) (fun b _ hb ha ho=>hf.ast ha ho (hn b hb).1) x vs h2⟩
abbrev deferB(bx:Nat):Deferred:={ target:=.fn (.func 128) #[pp bx],args:=#[] }
theorem invokeB(bx:Nat)(w:World):(invoke (deferB bx).target (deferB bx).args).run Tryz.prog w = .ok (.enter 128 #[pp bx]) w:=by
 simp [go_sem]
theorem doorRet{α:Type}{I:(Nat->Prop)->World->Value->α->Prop}(hI:Stab I){pb tb bx:Nat}{T:List P.Tok}{k:Nat}{vs:List P.Bs}{d:Nat}{w wE:World}
  {fn:Func} {tmps:Array Value} {x:α} {j:Nat} (hres:fn.results=#[.tmp j])
  (hpb:pb<w.heap.size) (hp:SP wE pb tb T k vs (d+1)) (hd:d≤8)
  (hx:wE.heap[bx]?=some (.cells #[pp pb] 154)) (hv:I (Nu w wE) wE (tmps.getD j undef) x) (hf:SFr pb w wE) :
  bodyPostD Tryz.prog fn (SPost I pb tb T d w (.ok x k vs)) .ret { tmps:=tmps,defers:=[deferB bx] } wE:=by
 refine leaves_cons (by simp) (invokeB bx wE) ((sShal hp hx (by omega) _).mono ?_)
 rintro e u w' ⟨rfl,rfl,hp',hf',hs'⟩
 refine⟨_,results_tmp hres _ _ w',_,rfl,hI _ _ _ _ _ _ _ hv hf' ?_,hp',hf.trans hf'⟩
 intro b hb
 exact⟨by have:=hb.1;omega,by have:=hb.1;have:=hb.2;exact⟨by omega,by omega⟩⟩
theorem doorPanic{α:Type}{I:(Nat->Prop)->World->Value->α->Prop}{pb tb bx:Nat}{T:List P.Tok}{d:Nat}{w wE:World}{c a:Nat}
  {fn:Func} {tmps:Array Value} {chain:List PanicEntry} (hpb:pb<w.heap.size) (hsb:SB wE pb)
  (hx:wE.heap[bx]?=some (.cells #[pp pb] 154)) (hv:faulted c a w wE (.panicked chain)) (hf:SFr pb w wE) :
  bodyPostD Tryz.prog fn (SPost I pb tb T d w (.err c a)) (.panic chain) { tmps:=tmps,defers:=[deferB bx] } wE:=by
 obtain⟨b,e1,e2,e3⟩:=hv
 injection e1 with e1
 subst e1
 refine leaves_cons (by simp) (invokeB bx wE) ((sShalP hsb hx _).mono ?_)
 rintro e u w' ⟨rfl,rfl,hs',hf',hz',hk'⟩
 exact⟨⟨b,rfl,by rw[hk' b (by omega)];exact e2,e3⟩,hf.trans hf',hs'⟩
theorem isEx_leaf{F:Nat->Prop}{w:World}{b:Nat}{kind:Nat}{name:P.Bs}{n:Int}{k:Nat}(hF:F b)
  (h:w.heap[b]?=some (.cells #[.int .u8 kind,.string (bs name),zi n,zi k,.slice none 0 0] 277)) :
  IsEx F w (pp b) (.mk kind name n k []):=by
 unfold IsEx
 exact⟨b,_,[],rfl,hF,h,.inl ⟨rfl,rfl⟩,by unfold IsExs;rfl⟩
theorem blk_new1{w:World}{o:Obj}{n:Nat}(h:n=w.heap.size):(w.alloc o).heap[n]?=some o:=by subst h;exact blk_alloc_new w o
theorem SP.setOther{w:World}{pb tb x o:Nat}{T:List P.Tok}{k:Nat}{vars:List P.Bs}{d:Nat}{cs:Array Value}{t:TypeId}{z:Nat×Nat}(h:SP w pb tb T k vars d)
  (hx:w.heap[x]?=some (.cells cs t z)) (ht:t≠9) (hp:x≠pb) (htb:tb<x) (v:Value):SP (w.setCell ⟨x,o,none⟩ v) pb tb T k vars d:=by
 obtain⟨tw,lt,kt,nv,⟨tt,ts,t1,t2⟩,cap,vv,h1,h2,h3,g1,g2⟩:=h
 refine⟨tw,lt,kt,nv,⟨tt.ext fun b ob hb ho=>by rw[blk_setCell_other (show b≠x by omega)];exact ho,ts,by rw[blk_setCell_other (show tb≠x by omega)];exact t1,t2⟩,cap,vv,h1,h2,
  by rw[blk_setCell_other (show pb≠x from fun e=>hp e.symm)];exact h3,g1,?_⟩
 rcases g2 with g | ⟨g,cp,cur,e1,e2,e3,e4⟩
 ·exact .inl g
 ·refine .inr ⟨g,cp,cur,e1,e2,?_,e4⟩
  rw[blk_setCell_other]
  ·exact e3
  ·show g≠x
   rintro rfl
   rw[e3] at hx
   injection hx with hx
   injection hx with _ hx
   exact ht hx.symm
theorem IsSlEx.mono{F F':Nat->Prop}{w w':World}{v:Value}{l:List P.Ex}(hf:∀ b,F b->F' b)(hw:∀ b o,F b->astObj o->w.heap[b]?=some o->w'.heap[b]?=some o)
  (h:IsSlEx F w v l):IsSlEx F' w' v l:=by
 obtain⟨vs,h1,h2⟩:=h
 exact⟨vs,h1.mono hf fun b cs hb hc=>hw b _ hb ⟨.inr (.inl rfl),rfl⟩ hc,IsExs.mono hf hw l vs h2⟩
theorem IsSlEx.set{F:Nat->Prop}{w:World}{v:Value}{l:List P.Ex}{x o:Nat}(h:IsSlEx F w v l)(hx:∀ b,F b->b≠x)(u:Value):IsSlEx F (w.setCell ⟨x,o,none⟩ u) v l:=
 h.mono (fun _ hb=>hb) fun b ob hb _ ho=>by rw[blk_setCell_other (show b≠x from hx b hb)];exact ho
theorem isEx_node{F:Nat->Prop}{w:World}{b:Nat}{kind:Nat}{name:P.Bs}{n:Int}{k:Nat}{av:Value}{l:List P.Ex}(hF:F b)
  (h:w.heap[b]?=some (.cells #[.int .u8 kind,.string (bs name),zi n,zi k,av] 277)) (hl:IsSlEx F w av l) :
  IsEx F w (pp b) (.mk kind name n k l):=by
 obtain⟨vs,h1,h2⟩:=hl
 unfold IsEx
 exact⟨b,_,vs,rfl,hF,h,h1,h2⟩
theorem IsSl.shape{F:Nat->Prop}{w:World}{et:TypeId}{v:Value}{vs:List Value}(h:IsSl F w et v vs):∃ a n c,v = .slice a n c/\n=vs.length/\n≤c/\(a=none->n=0):=by
 rcases h with⟨rfl,rfl⟩| ⟨b,cs,rfl,_,_,h,_⟩
 ·exact⟨_,_,_,rfl,rfl,Nat.le_refl _,fun _=>rfl⟩
 ·exact⟨_,_,_,rfl,rfl,h,fun e=>by cases e⟩
theorem IsExs.length{F:Nat->Prop}{w:World}:∀ {l:List P.Ex} {vs:List Value},IsExs F w vs l->vs.length=l.length
 | [],vs,h=>by unfold IsExs at h;rw[h];rfl
 | x::xs,vs,h=>by
  unfold IsExs at h
  obtain⟨v,r,rfl,_,h3⟩:=h
  simp [IsExs.length h3]
theorem IsSlEx.shape{F:Nat->Prop}{w:World}{v:Value}{l:List P.Ex}(h:IsSlEx F w v l):∃ a n c,v = .slice a n c/\n=l.length/\n≤c:=by
 obtain⟨vs,h1,h2⟩:=h
 obtain⟨a,n,c,rfl,e,h3,_⟩:=h1.shape
 exact⟨a,n,c,rfl,by rw[e,h2.length],h3⟩
theorem isSlEx_two{F:Nat->Prop}{w:World}{b:Nat}{u v:Value}{x y:P.Ex}(hF:F b)(h:w.heap[b]?=some (.cells #[u,v] 219))(hx:IsEx F w u x)(hy:IsEx F w v y) :
  IsSlEx F w (.slice (some ⟨b,0,none⟩) 2 2) [x,y]:=by
 refine⟨[u,v],.inr ⟨b,#[u,v],rfl,hF,h,Nat.le_refl _,rfl⟩,?_⟩
 unfold IsExs
 refine⟨u,[v],rfl,hx,?_⟩
 unfold IsExs
 refine⟨v,[],rfl,hy,?_⟩
 unfold IsExs
 rfl
theorem SP.other{w w':World}{pb tb x:Nat}{T:List P.Tok}{k:Nat}{vars:List P.Bs}{d:Nat}{cs:Array Value}{t:TypeId}{z:Nat×Nat}(h:SP w pb tb T k vars d)
  (hx:w.heap[x]?=some (.cells cs t z)) (ht:t≠9) (hp:x≠pb) (htb:tb<x) (hw:∀ (b:Nat) (o:Obj),b≠x->w.heap[b]?=some o->w'.heap[b]?=some o):SP w' pb tb T k vars d:=by
 obtain⟨tw,lt,kt,nv,⟨tt,ts,t1,t2⟩,cap,vv,h1,h2,h3,g1,g2⟩:=h
 refine⟨tw,lt,kt,nv,⟨tt.ext fun b ob hb ho=>hw b ob (by omega) ho,ts,hw _ _ (by omega) t1,t2⟩,cap,vv,h1,h2,hw _ _ (fun e=>hp e.symm) h3,g1,?_⟩
 rcases g2 with g | ⟨g,cp,cur,e1,e2,e3,e4⟩
 ·exact .inl g
 ·refine .inr ⟨g,cp,cur,e1,e2,hw _ _ ?_ e3,e4⟩
  rintro rfl
  rw[e3] at hx
  injection hx with hx
  injection hx with _ hx
  exact ht hx.symm
theorem SP.grownRow{w w':World}{pb tb base n:Nat}{T:List P.Tok}{k:Nat}{vars:List P.Bs}{d:Nat}{t:TypeId}{v:Value}{xs:List Value}(h:SP w pb tb T k vars d)
  (hown:w.ownsRow base t 1 v n xs) (ht:t≠9) (hb:pb<base) (hg:w.grownBy w' v.ownBlock):SP w' pb tb T k vars d:=by
 have hlt:=h.lt
 rcases hown.2 with⟨rfl,_⟩| ⟨g,cap,cur,rfl,hb',hg',_⟩
 ·exact h.ext fun b o ho=>by rw[hg.block b (ltOf ho) (by simp [Value.ownBlock])];exact ho
 ·exact h.other hg' ht (by omega) (by omega) fun b o hne ho=>by rw[hg.block b (ltOf ho) (by simp only[Value.ownBlock];intro e;injection e with e;exact hne e)];exact ho
theorem FrM.grownNew{M:Nat->Obj->Prop}{a b c:World}{row:Option Nat}(h:FrM M a b)(hg:b.grownBy c row)(hr:∀ k,row=some k->a.heap.size≤k):FrM M a c:=
 ⟨hg.os.trans h.os,hg.tape.trans h.tape,hg.output.trans h.output,Nat.le_trans h.size hg.size,fun i o hi hm=>by
  have h1:=h.block i o hi hm
  rw[hg.block i (ltOf h1) (fun e=>by have:=hr i e.symm;have:=ltOf hi;omega)];exact h1⟩
theorem own_IsSl{F:Nat->Prop}{w:World}{base n:Nat}{t:TypeId}{v:Value}{xs:List Value}(h:w.ownsRow base t 1 v n xs)(hF:∀ b,v.ownBlock=some b->F b):IsSl F w t v xs:=by
 obtain⟨h1,⟨rfl,h2⟩| ⟨g,cap,cur,rfl,h2,h3,h4,h5,h6,h7⟩⟩:=h
 ·exact .inl ⟨List.length_eq_zero_iff.1 (by omega),rfl⟩
 ·have e1:xs.length=n:=by omega
  have e2:cur.size=cap:=by omega
  subst e1
  subst e2
  exact .inr ⟨g,cur,rfl,hF g rfl,h3,h4,by simpa using h7⟩
theorem IsExs.snoc{F:Nat->Prop}{w:World}{v:Value}{x:P.Ex}(hv:IsEx F w v x):∀ {l:List P.Ex} {vs:List Value},IsExs F w vs l->IsExs F w (vs++[v]) (l++[x])
 | [],vs,h=>by
  unfold IsExs at h
  subst h
  simp only[List.nil_append]
  unfold IsExs
  exact⟨v,[],rfl,hv,by unfold IsExs;rfl⟩
 | y::l,vs,h=>by
  unfold IsExs at h
  obtain⟨u,r,rfl,h1,h2⟩:=h
  simp only[List.cons_append]
  unfold IsExs
  exact⟨u,r++[v],rfl,h1,IsExs.snoc hv h2⟩
theorem sInfoEx:(Tryz.prog.info? 219).map (fun i=>(i.zero,i.size,i.bytes))=some (some (.pointer none),1,8):=by kernel_rfl
theorem cellKeepC{w w':World}{a:Addr}{v:Value}(h:w.cell? a=some v)(hw:∀ cs t z,w.heap[a.block]?=some (.cells cs t z)->w'.heap[a.block]?=some (.cells cs t z)):w'.cell? a=some v:=by
 cases hb:w.heap[a.block]? with
 | none=>simp [World.cell?,hb] at h
 | some o=>
  cases o with
  | cells cs t z=>rw[World.cell?_of_block (w:=w) (w':=w') (by rw[hw _ _ _ hb,hb])];exact h
  | _=>simp [World.cell?,hb] at h
theorem SP.extC{w w':World}{pb tb:Nat}{T:List P.Tok}{k:Nat}{vars:List P.Bs}{d:Nat}(h:SP w pb tb T k vars d)
  (hw:∀ (b:Nat) (cs:Array Value) (t:TypeId) (z:Nat×Nat),w.heap[b]?=some (.cells cs t z)->w'.heap[b]?=some (.cells cs t z)):SP w' pb tb T k vars d:=by
 obtain⟨tw,lt,kt,nv,toks,cap,vv,h1,h2,h3,g1,g2⟩:=h
 obtain⟨ts,cs,t1,t2⟩:=toks
 refine⟨tw,lt,kt,nv,⟨⟨ts.lt,fun l hl=>?_⟩,cs,hw _ _ _ _ t1,t2⟩,cap,vv,h1,h2,hw _ _ _ _ h3,g1,?_⟩
 ·obtain⟨b,o,c,e1,e2,e3⟩:=ts.lev l hl
  exact⟨b,o,c,e1,cellKeepC e2 (hw _),fun j hj=>cellKeepC (e3 j hj) (hw _)⟩
 ·rcases g2 with g | ⟨g,cp,cur,e1,e2,e3,e4⟩
  ·exact .inl g
  ·exact .inr ⟨g,cp,cur,e1,e2,hw _ _ _ _ e3,e4⟩
theorem ast_cells{o:Obj}(h:astObj o):∃ cs t z,o = .cells cs t z:=by
 cases o with
 | cells cs t z=>exact⟨cs,t,z,rfl⟩
 | _=>exact h.elim
theorem IsExs.blocks{F:Nat->Prop}{w:World}:∀ {l:List P.Ex} {vs:List Value},IsExs F w vs l->∃ bl:List Nat,vs=bl.map (fun b=>Value.pointer (some ⟨b,0,none⟩))/\bl.length=l.length
 | [],vs,h=>by unfold IsExs at h;exact⟨[],by rw[h];rfl,rfl⟩
 | x::l,vs,h=>by
  unfold IsExs at h
  obtain⟨u,r,rfl,h1,h2⟩:=h
  obtain⟨bl,rfl,e⟩:=IsExs.blocks h2
  cases x with
  | mk kind name n k args=>
   unfold IsEx at h1
   obtain⟨b,_,_,rfl,_⟩:=h1
   exact⟨b::bl,rfl,by simp [e]⟩
theorem IsExs.get{F:Nat->Prop}{w:World}:∀ {l:List P.Ex} {bl:List Nat},IsExs F w (bl.map (fun b=>Value.pointer (some ⟨b,0,none⟩))) l->∀ i (hi:i<l.length),IsEx F w (pp (bl.getD i 0)) l[i]
 | [],bl,h,i,hi=>absurd hi (Nat.not_lt_zero _)
 | x::l,bl,h,i,hi=>by
  unfold IsExs at h
  obtain⟨u,r,e,h1,h2⟩:=h
  cases bl with
  | nil=>cases e
  | cons b bl=>
   simp only[List.map_cons,List.cons.injEq] at e
   obtain⟨rfl,rfl⟩:=e
   cases i with
   | zero=>exact h1
   | succ i=>simpa using IsExs.get h2 i (by simpa using hi)
end Go.Proofs.YtilpjhceemaplaaGreatDoor
namespace Go.Proofs.YtilpjhceemaplaaGreatDoor
open Go.RowKit Go.Shelf
attribute [local go_sem] Oper.semAt_some
def KeepX(X:Nat)(W W':World):Prop:=∀ (b:Nat) (cs:Array Value) (t:TypeId) (z:Nat×Nat),b≠X->W.heap[b]?=some (.cells cs t z)->W'.heap[b]?=some (.cells cs t z)
theorem KeepX.trans{X:Nat}{A B C:World}(h:KeepX X A B)(k:KeepX X B C):KeepX X A C:=fun b cs t z hb hc=>k b cs t z hb (h b cs t z hb hc)
def downto(bl:List Nat)(k:Nat):List (Nat×Nat):=(List.range k).map fun j=>(bl.length-1-j,bl.getD (bl.length-1-j) 0)
theorem downto_succ(bl:List Nat)(k:Nat):downto bl (k+1)=downto bl k++[(bl.length-1-k,bl.getD (bl.length-1-k) 0)]:=by simp [downto,List.range_succ]
theorem downto_length(bl:List Nat)(k:Nat):(downto bl k).length=k:=by simp [downto]
abbrev encB(x:Nat×Nat):Array Value:=#[zi x.1,pp x.2]
theorem back1_in(F:Fence)(n:Nat)(h8:F.fn 213)(hro:F.round=none)(hn:1≤n)(l Bs g cap X:Nat)(bl:List Nat)(hX1:Bs≠X)(hX2:g≠X)(hlen:bl.length≤100000)
  (J Jx:List (Nat×Nat)->World->Prop)
  (hY:∀ pre x W,J pre W->pre.length<bl.length->YieldAt F (n-1) Tryz.prog l (encB x) W fun e W'=>
   (e = .returned (.bool true)/\J (pre++[x]) W'/\KeepX X W W')\/(e = .returned (.bool false)/\Jx (pre++[x]) W'))
  (W:World) (hBs:W.heap[Bs]?=some (.cells #[.slice (some ⟨g,0,none⟩) bl.length cap] 129)) (cur:Array Value) (hg:W.heap[g]?=some (.cells cur 219 (0,0)))
  (hc:∀ j,j<bl.length->cur[j]?=some (pp (bl.getD j 0))) (h0:J [] W) :
  CallsIn F n Tryz.prog 213 #[.func (.yield l) #[] #[],pp Bs] W fun e W'=>(∃ v,e = .returned v) /\
   ((∃ ys,ys=downto bl bl.length/\J ys W')\/(∃ pre,True/\Jx pre W')):=by
 have HC:=Lib.hid hc
 have HG:=Lib.hid hg
 have HB:=Lib.hid hBs
 have HY:=Lib.hid hY
 have hBc:W.cell? ⟨Bs,0,none⟩=some (.slice (some ⟨g,0,none⟩) bl.length cap):=cellOf hBs rfl
 obtain⟨len,hl⟩:∃ len,len=bl.length:=⟨_,rfl⟩
 rw[<- hl] at hlen hBc
 have HL:=Lib.hid hl
 clear hl hc hg hBs hY
 refine callsIn_of_wp Tryz.func213 rfl h8 ?_ hro
 simp only[Tryz.ntmps213,List.size_toArray,List.length_cons,List.length_nil,Nat.reduceAdd,Nat.reduceSub,Array.replicate_succ,Array.replicate_zero,List.push_toArray,List.append_toArray,List.nil_append,List.cons_append]
 gi_wp2
 gi_loopw [3] (fun i wr=>∃ k:Nat,k≤len/\i=zi ((len:Int)-1-k)/\J (downto bl k) wr/\KeepX X W wr)
  (fun i _=>(intOf i+1).toNat)
 case atStart=>exact⟨0,Nat.zero_le _,by simp,h0,fun _ _ _ _ _ h=>h⟩
 case round=>
  obtain⟨k,hk,rfl,hJs,hnx⟩:=hrel
  have HJ:=Lib.hid hJs
  have HN:=Lib.hid hnx
  have hBc2:wr.cell? ⟨Bs,0,none⟩=some (.slice (some ⟨g,0,none⟩) len cap):=by rw[HL.out];exact cellOf (HN.out _ _ _ _ hX1 HB.out) rfl
  clear hJs hnx hBc
  by_cases hlt:k<len
  ·obtain⟨i,hi⟩:∃ i:Nat,i=len-1-k:=⟨_,rfl⟩
   have hii:((len:Int)-1-k)=(i:Int):=by omega
   rw[hii]
   have hcx:wr.cell? ⟨g,i,none⟩=some (pp (bl.getD i 0)):=cellOf (HN.out _ _ _ _ hX2 HG.out) (HC.out i (by have:=HL.out;omega))
   obtain⟨fn,tmps,assign,body,hy,hR⟩:=HY.out _ (i,bl.getD i 0) wr HJ.out (by rw[downto_length,<- HL.out];exact hlt)
   have hil:i<len:=by omega
   have hy2:(Instr.yield l #[zi (i:Int),pp (bl.getD i 0)]).run Tryz.prog wr = .ok (.round l fn tmps assign body) wr:=hy
   clear hy
   have HI:=Lib.hid hi
   have HII:=Lib.hid hii
   obtain⟨bb,hbb⟩:∃ bb,bb=bl.getD i 0:=⟨_,rfl⟩
   rw[<- hbb] at hcx hy2
   have HBB:=Lib.hid hbb
   clear hi hii hbb
   gi_wp2
   refine hR.mono ?_
   rintro e W3 (⟨rfl,hJ3,hk3⟩| ⟨rfl,hJx3⟩)
   ·gi_wp2
    go_roundw
    case rel=>
     refine⟨k+1,by omega,?_,?_,HN.out.trans hk3⟩
     ·have:=HI.out;congr 1;omega
     ·have:=HL.out;have e:=HI.out;rw[downto_succ,<- this,<- e];exact hJ3
    case measure=>simp [intOf]
   ·gi_wp2
    refine bodyPost_ret (results_none rfl _ _ _) rfl ?_
    exact⟨⟨_,rfl⟩,.inr ⟨_,trivial,hJx3⟩⟩
  ·obtain rfl:k=len:=by omega
   gi_wp2
   go_end0
   exact⟨⟨_,rfl⟩,.inl ⟨_,rfl,by rw[<- HL.out];exact HJ.out⟩⟩
theorem backward(a:Option Addr)(n c:Nat)(w:World) :
  Calls Tryz.prog 197 #[.slice a n c] w fun e w'=>e = .returned (.func (.func 213) #[] #[pp w.heap.size])/\w.alloc (.cells #[.slice a n c] 129)=w':=by
 have hmf:∀ (fn:Fn) (first cap:Array Value) (w:World),(Instr.makeFunc fn first cap).run Tryz.prog w = .ok (.func fn first cap) w:=fun _ _ _ _=>rfl
 go_enter Tryz.func197,Tryz.ntmps197
 go_wp2
 go_ret
 exact⟨rfl,rfl⟩
theorem back_stops(F:Fence)(n:Nat)(h8:F.fn 213)(hro:F.round=none)(hn:1≤n)(Bs g cap X:Nat)(bl:List Nat)(hX1:Bs≠X)(hX2:g≠X)(hlen:bl.length≤100000)(w:World)
  (hBs:w.heap[Bs]?=some (.cells #[.slice (some ⟨g,0,none⟩) bl.length cap] 129)) (cur:Array Value) (hg:w.heap[g]?=some (.cells cur 219 (0,0)))
  (hc:∀ j,j<bl.length->cur[j]?=some (pp (bl.getD j 0))) :
  SeqStopsK F n Tryz.prog 213 #[pp Bs] encB (KeepX X) (fun ys=>ys=downto bl bl.length) (fun _=>True) bl.length w:=fun l J Jx W hW _ _ hY h0=>
 back1_in F n h8 hro hn l Bs g cap X bl hX1 hX2 hlen J Jx hY W (by rw[hW.block Bs (ltOf hBs)];exact hBs) cur (by rw[hW.block g (ltOf hg)];exact hg) hc h0
end Go.Proofs.YtilpjhceemaplaaGreatDoor
namespace Go.Proofs.YtilpjhceemaplaaGreatDoor
open Go.RowKit
theorem sOper_prim{f:Nat}(hprim:CPrim f){pb tb:Nat}{T:List P.Tok}{k:Nat}{vars:List P.Bs}{d:Nat}{w:World}{r:P.Res P.Ex}(hp:SP w pb tb T k vars d)(hd:d≤8)
  (h:P.pPrim T f k vars d=some r):Calls Tryz.prog 125 #[pp pb,zi 2] w (SPost IsEx pb tb T d w r):=by
 have H:=Lib.hid hp
 have HR:=Lib.hid h
 clear hp h
 go_enter Tryz.func125,Tryz.ntmps125
 go_wp2_with fail
 refine wp_scope_straight ?_
 go_wp2_with fail
 refine(hprim.go H.out hd HR.out).mono ?_
 cases r with
 | err c0 a0=>
  rintro e w4 ⟨⟨b,rfl,hb3,hl3⟩,hf3,hs3⟩
  exact⟨rfl,⟨b,rfl,hb3,hl3⟩,hf3,hs3⟩
 | ok x k' vs=>
  rintro e w4 ⟨v,rfl,hv,hp4,hf4⟩
  have HV:=Lib.hid hv
  have HP4:=Lib.hid hp4
  have HF4:=Lib.hid hf4
  clear hv hp4 hf4
  go_wp2_with fail
  rw[Exit.noGoto_ret]
  go_ret
  exact⟨v,rfl,HV.out,HP4.out,HF4.out⟩
theorem IsEx.shape{F:Nat->Prop}{w:World}{v:Value}{x:P.Ex}(h:IsEx F w v x):∃ b,v=pp b/\F b:=by
 cases x with
 | mk kind name n k args=>
  unfold IsEx at h
  obtain⟨b,_,_,h1,h2,_⟩:=h
  exact⟨b,h1,h2⟩
noncomputable def operX:Code:=match findLabel (match Tryz.f125.body with | some (.seq _ (.scope c))=>c | _=>.skip) 0 with | some (.seq _ x)=>x | _=>.skip
def OJ(pb tb:Nat)(T:List P.Tok)(lvl d:Nat)(w0:World)(r:P.Res P.Ex)(n:Nat)(a:Act)(w:World):Prop:=
 ∃ (x:P.Ex) (k:Nat) (vs:List P.Bs) (v u2 u3 u4 u6 u7 u8 u9 u10 u11 u12 u13 u14 u15 u16 u17 u18 u19 u20 u21 u22 u23 u24 u25 u26 u27 u28 u29 u30 u31 u32 u33 u34 u35 u36 u37:Value),a={ tmps:=#[pp pb,zi lvl,u2,u3,u4,v,u6,u7,u8,u9,u10,u11,u12,u13,u14,u15,u16,u17,u18,u19,u20,u21,u22,u23,u24,u25,u26,u27,u28,u29,u30,u31,u32,u33,u34,u35,u36,u37],defers:=[] } /\
  IsEx (Nu w0 w) w v x/\SP w pb tb T k vs d/\SFr pb w0 w/\P.pMore T n lvl x k vs d=some r
theorem sOper_key{f lvl:Nat}(hl:lvl<2)(hop:∀ m,m≤f->COper m){pb tb:Nat}{T:List P.Tok}{d:Nat}{w0:World}{r:P.Res P.Ex}(hd:d≤8)(hpb0:pb<w0.heap.size)(n:Nat)(hn:n≤f)(a:Act)(w:World)(hj:OJ pb tb T lvl d w0 r n a w) :
  operX.wp Tryz.prog (Exit.jump 0 (fun a' w'=>∃ m,m<n/\OJ pb tb T lvl d w0 r m a' w') (bodyPost Tryz.prog Tryz.f125 (SPost IsEx pb tb T d w0 r))) a w:=by
 obtain⟨x,k,vs,v,u2,u3,u4,u6,u7,u8,u9,u10,u11,u12,u13,u14,u15,u16,u17,u18,u19,u20,u21,u22,u23,u24,u25,u26,u27,u28,u29,u30,u31,u32,u33,u34,u35,u36,u37,rfl,hx,hp,hf,hr⟩:=hj
 obtain⟨bx,rfl,hbx⟩:=hx.shape
 cases n with
 | zero=>simp [P.pMore] at hr
 | succ n=>
 have hr2:=hr
 rw[P.pMore] at hr2
 obtain⟨lb,lo,lc,hlb,g1,g2⟩:=hp.toks.1.lev lvl hl
 obtain⟨L,hL⟩:∃ L,L=(P.ops lvl).length:=⟨_,rfl⟩
 rw[<- hL] at g1 g2
 have hL3:L≤3:=by
  rw[hL];unfold P.ops;split<;>simp
 have gl:=hp.toks.1.lt
 have glt:=hp.lt
 have gpb:=hp.d2.2.2
 have HP:=Lib.hid hp
 have HX:=Lib.hid hx
 have HF:=Lib.hid hf
 have HR:=Lib.hid hr2
 have HG:=Lib.hid g2
 have HL:=Lib.hid hL
 have HBX:=Lib.hid hbx
 have gsz:lb<w.heap.size:=by omega
 have gsz2:2<w.heap.size:=by omega
 clear hp hx hf hr hr2 g2 hL hbx
 change Code.wp _ (Code.seq _ _) _ _ _
 have gidx:(lvl:Int)<2:=by omega
 go_wp2_with fail
 go_loop [5,20] (fun q i=>∃ j:Nat,j≤L/\i=zi j/\q=pp bx/\∀ j',j'<j->P.isT T k ((P.ops lvl).getD j' [])=false) (fun _ i=>L-(intOf i).toNat)
 case atStart=>exact⟨0,Nat.zero_le _,rfl,rfl,fun j hj=>absurd hj (Nat.not_lt_zero _)⟩
 case round=>
  obtain⟨j,hj,rfl,rfl,hno⟩:=hrel
  have HNO:=Lib.hid hno
  clear hno
  by_cases hlt:j<L
  ·have hcell:=HG.out j hlt
   obtain⟨s,hs⟩:∃ s,s=(P.ops lvl).getD j []:=⟨_,rfl⟩
   rw[<- hs] at hcell
   have hsd:s.all P.digit=false:=by
    have hL:=HL.out
    rw[hs]
    have h2:lvl=0\/lvl=1:=by omega
    rcases h2 with rfl | rfl
    ·have:j=0\/j=1:=by simp [P.ops] at hL;omega
     rcases this with rfl | rfl<;>decide
    ·have:j=0\/j=1\/j=2:=by simp [P.ops] at hL;omega
     rcases this with rfl | rfl | rfl<;>decide
   have HS:=Lib.hid hs
   have HSD:=Lib.hid hsd
   clear hs hsd
   by_cases hc:P.isT T k s=true
   ·have HC:=Lib.hid hc
    clear hc
    go_wp2_with fail
    refine(sIs_yes HP.out s HC.out).mono ?_
    rintro e w1 ⟨rfl,hp1,hf1⟩
    have HP1:=Lib.hid hp1
    have HF1:=Lib.hid hf1
    clear hp1 hf1
    go_wp2_with fail
    have e:=HR.out
    have hl:=HL.out
    rw[P.opAt,P.find_some_of (j:=j) (by omega) (by rw[<- HS.out];exact HC.out) HNO.out,<- HS.out] at e
    dsimp only at e
    have hsz1:=HF1.out.size
    cases hq:P.pOper T n (lvl+1) (k+1) vs d with
    | none=>rw[hq] at e;simp [P.Res.bind] at e
    | some q=>
     rw[hq] at e
     refine((hop n (by omega)).go (lvl+1) (by omega) HP1.out hd hq).mono ?_
     cases q with
     | err c0 a0=>
      rintro e2 w4 ⟨⟨b,rfl,hb3,hl3⟩,hf3,hs3⟩
      simp only[P.Res.bind,Option.some.injEq] at e
      subst e
      have hsz0:=HF.out.size
      exact⟨rfl,⟨b,rfl,hb3,by omega⟩,(HF.out.trans HF1.out).trans hf3,hs3⟩
     | ok y k' vs'=>
      rintro e2 w4 ⟨v,rfl,hv,hp4,hf4⟩
      obtain⟨bY,rfl,hbY⟩:=hv.shape
      have HV:=Lib.hid hv
      have HP4:=Lib.hid hp4
      have HF4:=Lib.hid hf4
      have HE:=Lib.hid e
      have HBY:=Lib.hid hbY
      clear hv hp4 hf4 e hbY hl hq
      go_wp2_with fail
      refine wp_goto ?_
      have hz1:=HF1.out.size
      have hz4:=HF4.out.size
      have hbx:=HBX.out
      have hf14:=HF1.out.trans HF4.out
      have hxx:IsEx (Nu w0 (((w4.alloc (Obj.cells #[pp bx,pp bY] 219)).alloc (Obj.cells #[.int .u8 99,.string (bs s),zi 0,zi 0,.slice (some ⟨w4.heap.size,0,none⟩) 2 2] 277)))) (((w4.alloc (Obj.cells #[pp bx,pp bY] 219)).alloc (Obj.cells #[.int .u8 99,.string (bs s),zi 0,zi 0,.slice (some ⟨w4.heap.size,0,none⟩) 2 2] 277))) (pp bx) x:=
       IsEx.mono (fun b hb=>⟨hb.1,by rw[size_alloc,size_alloc];have:=hb.2;omega⟩) (fun b o hb ha ho=>blk_alloc_old (blk_alloc_old (SFr.ast hf14 ha ho (by have:=hb.1;omega)))) _ _ HX.out
      have hyy:IsEx (Nu w0 (((w4.alloc (Obj.cells #[pp bx,pp bY] 219)).alloc (Obj.cells #[.int .u8 99,.string (bs s),zi 0,zi 0,.slice (some ⟨w4.heap.size,0,none⟩) 2 2] 277)))) (((w4.alloc (Obj.cells #[pp bx,pp bY] 219)).alloc (Obj.cells #[.int .u8 99,.string (bs s),zi 0,zi 0,.slice (some ⟨w4.heap.size,0,none⟩) 2 2] 277))) (pp bY) y:=
       IsEx.mono (fun b hb=>⟨by have:=hb.1;have:=HF.out.size;omega,by rw[size_alloc,size_alloc];have:=hb.2;omega⟩) (fun b o hb ha ho=>blk_alloc_old (blk_alloc_old ho)) _ _ HV.out
      have hz0:=HF.out.size
      exact⟨rfl,n,Nat.lt_succ_self n,.mk 99 s 0 0 [x,y],k',vs',pp (w4.heap.size+1),_,_,_,_,_,_,_,_,_,_,_,_,_,_,_,_,_,_,_,_,_,_,_,_,_,_,_,_,_,_,_,_,_,_,_,rfl,
       isEx_node ⟨by omega,by rw[size_alloc,size_alloc];omega⟩ (blk_new1 (by rw[size_alloc])) (isSlEx_two ⟨by omega,by rw[size_alloc,size_alloc];omega⟩ (blk_alloc_old (blk_alloc_new _ _)) hxx hyy),
       HP4.out.ext (fun b o h=>blk_alloc_old (blk_alloc_old h)),((HF.out.trans hf14).alloc _).alloc _,HE.out⟩
   ·have hc':P.isT T k s=false:=by simpa using hc
    have HC:=Lib.hid hc'
    clear hc hc'
    go_wp2_with fail
    refine(sIs_no HP.out s HC.out HSD.out).mono ?_
    rintro e w1 ⟨rfl,rfl⟩
    go_wp2_with fail
    go_round
    case rel=>exact⟨j+1,by omega,by go_num,rfl,fun j' h'=>by
     rcases Nat.lt_or_ge j' j with h | h
     ·exact HNO.out j' h
     ·obtain rfl:j'=j:=by omega
      rw[<- HS.out];exact HC.out⟩
    case measure=>simp [intOf];omega
  ·go_wp2_with fail
   rw[jump_ret]
   go_ret
   have e:=HR.out
   have hl:=HL.out
   rw[P.opAt,P.find_none_of (fun j' h'=>HNO.out j' (by omega))] at e
   simp only[Option.some.injEq] at e
   subst e
   exact⟨_,rfl,HX.out,HP.out,HF.out⟩
theorem sOper_lvl{f lvl:Nat}(hl:lvl<2)(hop:∀ m,m≤f->COper m){pb tb:Nat}{T:List P.Tok}{k:Nat}{vars:List P.Bs}{d:Nat}{w:World}{r:P.Res P.Ex}(hp:SP w pb tb T k vars d)(hd:d≤8)
  {q:P.Res P.Ex} (hq:P.pOper T f (lvl+1) k vars d=some q) (hr:P.Res.bind (some q) (fun x k' vars'=>P.pMore T f lvl x k' vars' d)=some r) :
  Calls Tryz.prog 125 #[pp pb,zi lvl] w (SPost IsEx pb tb T d w r):=by
 have H:=Lib.hid hp
 have HR:=Lib.hid hr
 have HQ:=Lib.hid hq
 have hl2:((lvl:Int) == 2)=false:=by simp;omega
 have hpb0:=hp.d2.2.2
 clear hp hr hq
 go_enter Tryz.func125,Tryz.ntmps125
 go_wp2_with fail
 have hkey:=Lib.hid (sOper_key (T:=T) (tb:=tb) (r:=r) hl hop hd hpb0)
 refine wp_scope_ghost2 0 (fun n a w'=>n≤f/\OJ pb tb T lvl d w r n a w') rfl ?first ?pass
 case first=>
  intro _
  go_wp2_with fail
  refine((hop f (Nat.le_refl _)).go (lvl+1) (by omega) H.out hd HQ.out).mono ?_
  cases q with
  | err c0 a0=>
   rintro e w4 ⟨⟨b,rfl,hb3,hl3⟩,hf3,hs3⟩
   have e:=HR.out
   simp only[P.Res.bind,Option.some.injEq] at e
   subst e
   exact⟨rfl,⟨b,rfl,hb3,hl3⟩,hf3,hs3⟩
  | ok x k' vs=>
   rintro e w4 ⟨v,rfl,hv,hp4,hf4⟩
   have HV:=Lib.hid hv
   have HP4:=Lib.hid hp4
   have HF4:=Lib.hid hf4
   clear hv hp4 hf4
   go_wp2_with fail
   refine wp_label ?_
   rename_i K hK
   refine hK _ _ ?_
   refine wp_mono (hkey.out f (Nat.le_refl _) _ _ ⟨x,k',vs,v,_,_,_,_,_,_,_,_,_,_,_,_,_,_,_,_,_,_,_,_,_,_,_,_,_,_,_,_,_,_,_,_,_,_,_,rfl,HV.out,HP4.out,HF4.out,HR.out⟩) fun e a' w' hq=>?_
   cases e with
   | goto l'=>obtain⟨e,m,hm,hi⟩:=hq;exact⟨e,m,by omega,hi⟩
   | _=>exact hq
 case pass=>
  rintro n a w' ⟨hn,hj⟩
  refine wp_seq (wp_skip ?_)
  refine wp_mono (hkey.out n hn _ _ hj) fun e a' w' hq=>?_
  cases e with
  | goto l'=>obtain⟨e,m,hm,hi⟩:=hq;exact⟨e,m,hm,by omega,hi⟩
  | _=>exact hq
theorem cOper0:COper 0:=⟨fun _ _ _ _ h=>by simp [P.pOper] at h⟩
theorem cOper{f:Nat}(hprim:CPrim f)(hop:∀ m,m≤f->COper m):COper (f+1):=by
 refine⟨fun{pb tb T k vars d w r} lvl hl hp hd h=>?_⟩
 rw[P.pOper] at h
 by_cases h2:lvl=2
 ·rw[if_pos h2] at h
  subst h2
  exact sOper_prim hprim hp hd h
 ·rw[if_neg h2] at h
  cases hq:P.pOper T f (lvl+1) k vars d with
  | none=>rw[hq] at h;simp [P.Res.bind] at h
  | some q=>rw[hq] at h;exact sOper_lvl (by omega) hop hp hd hq h
theorem cExpr{f:Nat}(hop:COper f):CExpr f:=by
 refine⟨fun{pb tb T k vars d w r} hp hd h=>?_⟩
 have H:=Lib.hid hp
 have HR:=Lib.hid h
 clear hp h
 go_enter Tryz.func93,Tryz.ntmps93
 go_wp2_with fail
 refine(hop.go 0 (by omega) H.out hd HR.out).mono ?_
 cases r with
 | err c0 a0=>
  rintro e w4 ⟨⟨b,rfl,hb3,hl3⟩,hf3,hs3⟩
  exact⟨rfl,⟨b,rfl,hb3,hl3⟩,hf3,hs3⟩
 | ok x k' vs=>
  rintro e w4 ⟨v,rfl,hv,hp4,hf4⟩
  have HV:=Lib.hid hv
  have HP4:=Lib.hid hp4
  have HF4:=Lib.hid hf4
  clear hv hp4 hf4
  go_wp2_with fail
  go_ret
  exact⟨v,rfl,HV.out,HP4.out,HF4.out⟩
def AJ(pb tb:Nat)(T:List P.Tok)(d at_:Nat)(w0:World)(r:P.Res (List P.Ex))(n:Nat)(a:Act)(w:World):Prop:=
 ∃ (acc:List P.Ex) (k:Nat) (vs:List P.Bs) (xs:List Value) (sl u2 u3 u5 u6 u7 u8 u9 u10 u11 u12 u13 u14 u15 u16 u17 u18:Value),a={ tmps:=#[pp pb,zi at_,u2,u3,sl,u5,u6,u7,u8,u9,u10,u11,u12,u13,u14,u15,u16,u17,u18],defers:=[] } /\
  w.ownsRow w0.heap.size 219 1 sl acc.length xs/\IsExs (fun b=>Nu w0 w b/\sl.ownBlock≠some b) w xs acc/\SP w pb tb T k vs d/\SFr pb w0 w/\acc.length≤k /\
  P.pArgs T n k vs d at_ acc=some r
theorem sArgs{f:Nat}(hexp:∀ m,m<f->CExpr m){pb tb:Nat}{T:List P.Tok}{k:Nat}{vars:List P.Bs}{d:Nat}{w0:World}{r:P.Res (List P.Ex)}(at_:Nat)(hp0:SP w0 pb tb T k vars d)(hd:d≤8)
  (h:P.pArgs T f k vars d at_ []=some r):Calls Tryz.prog 56 #[pp pb,zi at_] w0 (SPost IsSlEx pb tb T d w0 r):=by
 have H:=Lib.hid hp0
 have HR:=Lib.hid h
 have hpb0:=hp0.d2.2.2
 have hT:=hp0.tw.len
 obtain⟨i0,hi,iz0,iz1,iz2⟩:=info_parts sInfoEx
 clear hp0 h
 go_enter Tryz.func56,Tryz.ntmps56
 go_wp2_with fail
 refine wp_loop_ghost (fun n a w=>n≤f/\AJ pb tb T d at_ w0 r n a w) ⟨f,Nat.le_refl _,[],k,vars,[],.slice none 0 0,_,_,_,_,_,_,_,_,_,_,_,_,_,_,_,_,rfl,World.ownsRow_nil _ _ _ _,by unfold IsExs;rfl,H.out,FrM.refl _ _,Nat.zero_le _,HR.out⟩ ?_
 rintro n a w ⟨hnf,acc,k,vs,xs,sl,u2,u3,u5,u6,u7,u8,u9,u10,u11,u12,u13,u14,u15,u16,u17,u18,rfl,hown,hxs,hp,hf,hak,hr⟩
 cases n with
 | zero=>simp [P.pArgs] at hr
 | succ n=>
 rw[P.pArgs] at hr
 have hkt:=hp.kt
 have hz:=hf.size
 have HO:=Lib.hid hown
 have HX:=Lib.hid hxs
 have HP:=Lib.hid hp
 have HF:=Lib.hid hf
 have HRR:=Lib.hid hr
 clear hown hxs hp hf hr H HR
 go_wp2_with fail
 cases hq:P.pOper T n 0 k vs d with
 | none=>have e:=HRR.out;rw[hq] at e;simp [P.Res.bind] at e
 | some q=>
 have e:=HRR.out
 rw[hq] at e
 refine((hexp n (by omega)).go HP.out hd hq).mono ?_
 cases q with
 | err c0 a0=>
  rintro e2 w4 ⟨⟨b,rfl,hb3,hl3⟩,hf3,hs3⟩
  simp only[P.Res.bind,Option.some.injEq] at e
  subst e
  exact⟨rfl,⟨b,rfl,hb3,by omega⟩,HF.out.trans hf3,hs3⟩
 | ok x k' vs'=>
  rintro e2 w1 ⟨v,rfl,hv,hp1,hf1⟩
  obtain⟨bx,rfl,hbx⟩:=hv.shape
  have hkk:=(P.mono T n).oper _ _ _ _ _ _ _ hq
  have hk1:=hp1.kt
  have hz1:=hf1.size
  have hp1b:=hp1.d2.2.2
  have hown1:w1.ownsRow w0.heap.size 219 1 sl acc.length xs:=by
   obtain⟨g1,g2 | ⟨g,cp,cur,e1,e2,e3,e4⟩⟩:=HO.out
   ·exact⟨g1,.inl g2⟩
   ·exact⟨g1,.inr ⟨g,cp,cur,e1,e2,SFr.ast hf1 ⟨.inr (.inl rfl),rfl⟩ e3 (by omega),e4⟩⟩
  have hxs1:IsExs (fun b=>Nu w0 w1 b/\sl.ownBlock≠some b) w1 xs acc:=
   IsExs.mono (fun b hb=>⟨⟨hb.1.1,by have:=hb.1.2;omega⟩,hb.2⟩) (fun b o hb ha ho=>SFr.ast hf1 ha ho (by have:=hb.1.1;omega)) _ _ HX.out
  have HO1:=Lib.hid hown1
  have HX1:=Lib.hid hxs1
  have HV:=Lib.hid hv
  have HP1:=Lib.hid hp1
  have HF1:=Lib.hid (HF.out.trans hf1)
  have HE:=Lib.hid e
  have HBX:=Lib.hid hbx
  have HK:=Lib.hid hkk
  clear hv hp1 hf1 hown1 hxs1 e hq hbx
  go_wp2_with (at_builtin;go_must (refine wpList_append_own2 rfl _ _ 129 rfl w0.heap.size 219 i0 _ 1 8 Tryz.underlying129 hi iz0 iz1 iz2 rfl (by decide) _ _ _ rfl (HO1.out.alloc _) ⟨w1.heap.size,0,none⟩ 1 1 [pp bx] rfl rfl (one_new rfl) (by simp [Value.oneCell']) (by unfold maxLen;omega) (by omega) (by simp;omega) ?_;intro v' w2 hown2 hgrow2 hfr2;obtain⟨g',cap',rfl⟩:=own_succ hown2;have HO2:=Lib.hid hown2;have HG2:=Lib.hid hgrow2;have HFR2:=Lib.hid hfr2;clear hown2 hgrow2 hfr2))
  have hp2:SP w2 pb tb T k' vs' d:=(HP1.out.ext fun b o h=>blk_alloc_old (o:=Obj.cells #[Value.pointer (some ⟨bx,0,none⟩)] 219) h).grownRow (HO1.out.alloc _) (by decide) (by omega) HG2.out
  have hf2:SFr pb w0 w2:=(HF1.out.alloc _).grownNew HG2.out fun k hk=>(HO1.out.lt k hk).1
  have hg2:=HG2.out.size
  rw[size_alloc] at hg2
  have hkeep:∀ (b:Nat) (o:Obj),w1.heap[b]?=some o->sl.ownBlock≠some b->w2.heap[b]?=some o:=fun b o h hne=>by
   have h':=blk_alloc_old (o:=Obj.cells #[Value.pointer (some ⟨bx,0,none⟩)] 219) h
   rw[HG2.out.block b (ltOf h') (fun e=>hne e.symm)];exact h'
  have hnb:∀ b,b<w1.heap.size->sl.ownBlock≠some b->(Value.slice (some ⟨g',0,none⟩) (acc.length+1) cap').ownBlock≠some b:=fun b hb hne=>by
   rcases HFR2.out with h | h
   ·rw[h];exact hne
   ·intro e
    have:=h b e
    rw[size_alloc] at this
    omega
  have hbn:∀ b,Nu w w1 b->sl.ownBlock≠some b:=fun b hb e=>by
   have:=(HO.out.lt b e).2
   have:=hb.1
   omega
  have hxs2:IsExs (fun b=>Nu w0 w2 b/\(Value.slice (some ⟨g',0,none⟩) (acc.length+1) cap').ownBlock≠some b) w2 (xs++[pp bx]) (acc++[x]):=
   IsExs.snoc (IsEx.mono (fun b hb=>⟨⟨by have:=hb.1;omega,by have:=hb.2;omega⟩,hnb b hb.2 (hbn b hb)⟩) (fun b o hb _ ho=>hkeep b o ho (hbn b hb)) _ _ HV.out)
    (IsExs.mono (fun b hb=>⟨⟨hb.1.1,by have:=hb.1.2;omega⟩,hnb b hb.1.2 hb.2⟩) (fun b o hb _ ho=>hkeep b o ho hb.2) _ _ HX1.out)
  have HP2:=Lib.hid hp2
  have HF2:=Lib.hid hf2
  have HX2:=Lib.hid hxs2
  clear hp2 hf2 hkeep hnb hbn hxs2
  have e:=HE.out
  simp only[P.Res.bind] at e
  by_cases hc:P.isT T k' [44]=true
  ·rw[if_pos hc] at e
   refine(sIs_yes HP2.out [44] hc).mono ?_
   rintro e2 w3 ⟨rfl,hp3,hf3⟩
   have HP3:=Lib.hid hp3
   have HF3:=Lib.hid hf3
   have HEE:=Lib.hid e
   clear hp3 hf3 e hc
   go_wp2_with fail
   have hz3:=HF3.out.size
   have hw2:=HP2.out.d2.2.2
   have hown3:w3.ownsRow w0.heap.size 219 1 (.slice (some ⟨g',0,none⟩) (acc.length+1) cap') (acc.length+1) (xs++[pp bx]):=by
    obtain⟨g1,g2 | ⟨g,cp,cur,e1,e2,e3,e4⟩⟩:=HO2.out
    ·exact⟨g1,.inl g2⟩
    ·exact⟨g1,.inr ⟨g,cp,cur,e1,e2,SFr.ast HF3.out ⟨.inr (.inl rfl),rfl⟩ e3 (by omega),e4⟩⟩
   exact⟨n,Nat.lt_succ_self n,by omega,acc++[x],k'+1,vs',_,_,_,_,_,_,_,_,_,_,_,_,_,_,_,_,_,_,rfl,by rw[List.length_append];exact hown3,
    IsExs.mono (fun b hb=>⟨⟨hb.1.1,by have:=hb.1.2;omega⟩,hb.2⟩) (fun b o hb ha ho=>SFr.ast HF3.out ha ho (by have:=hb.1.1;omega)) _ _ HX2.out,
    HP3.out,HF2.out.trans HF3.out,by simp;omega,HEE.out⟩
  ·rw[if_neg hc] at e
   refine(sIs_no HP2.out [44] (by simpa using hc) (by decide)).mono ?_
   rintro e2 w3 ⟨rfl,rfl⟩
   have HEE:=Lib.hid e
   clear e hc
   have hl5:(acc++[x]).length=acc.length+1:=by simp
   have hw2:=HP2.out.d2.2.2
   by_cases h4:acc.length+1≤4
   ·go_wp2_with fail
    go_ret
    have e:=HEE.out
    rw[if_neg (by unfold P.maxArity;omega)] at e
    simp only[Option.some.injEq] at e
    subst e
    exact⟨_,rfl,⟨_,own_IsSl HO2.out fun b hb=>⟨(HO2.out.lt b hb).1,(HO2.out.lt b hb).2⟩,IsExs.mono (fun b hb=>hb.1) (fun _ _ _ _ h=>h) _ _ HX2.out⟩,HP2.out,HF2.out⟩
   ·have h4':4<acc.length+1:=by omega
    go_wp2_with fail
    refine(sFail _ _ _ pb HP2.out.sb).mono ?_
    rintro e2 w4 ⟨⟨b,rfl,hb3,hl3⟩,hf3,hs3⟩
    have e:=HEE.out
    rw[if_pos (by unfold P.maxArity;omega)] at e
    simp only[Option.some.injEq] at e
    subst e
    exact⟨rfl,⟨b,rfl,hb3,by omega⟩,HF2.out.trans hf3,hs3⟩
theorem cArgs0:CArgs 0:=⟨fun _ _ _ h=>by simp [P.pArgs] at h⟩
theorem cArgs{f:Nat}(hexp:∀ m,m<f->CExpr m):CArgs f:=⟨fun at_ hp hd h=>sArgs hexp at_ hp hd h⟩
end Go.Proofs.YtilpjhceemaplaaGreatDoor
