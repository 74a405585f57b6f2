/- A part of one proof (KL7). -/
import Derived.Test.YtoegidfbnkaabaaGreatDoorPkJBG
set_option linter.all false
set_option maxRecDepth 100000
set_option maxHeartbeats 8000000
open Option renaming some → O, none → V
open Go renaming Value → Y, World → Z
open Bool renaming true → A, false → G
open Go.Obj renaming cells → ae
open Go.Ending renaming returned → ah
open Go.Value renaming nilIface → ai, iface → aj, tuple → ak, pointer → aq
open Option.some renaming injEq → aZG, inj → aZN
open Go.Calls renaming mono → aZJ
open List renaming getElem?_eq_getElem → aZM, drop_eq_getElem_cons → aZP, length_cons → aZQ, range → aZ9, getD_eq_getElem?_getD → a0c, range' → a0j
open Prod.mk renaming injEq → aZ6
open Option renaming map_eq_some_iff → aZ7
open Nat renaming lt_of_lt_of_le → a0b
open Go.World renaming cell? → a0l
open UInt8 renaming ofNat → a0M
open List.cons renaming injEq → a1X
open Go.OpenSpec renaming ofChange → a3A
open Go.Proofs.Tryz renaming prog → a9Q
open Go.Proofs.Tryz
namespace Go.Proofs.YtoegidfbnkaabaaGreatDoor
open P
open Go.RowKit Sx
variable{D F:Nat->Prop}{E:En}{c d f j k m n qb xb:Nat}{s:Bs}{v:Y}{vars:List Bs}{vs:List Y}{w w' w1:Z}
def aSY(i:Nat):((FD i++[110,40])++ff (i+1))++[41,46,32]=FD (i+1):=by
 grind [FD,ff,List.append_assoc]
def aSZ(n k:Int)(mc:Bool)(w:Z)(hn:-9223372036854775808<=n/\n<=9223372036854775807)(hk:-9223372036854775808<=k/\k<=9223372036854775807)(hT:CR w):Calls a9Q 6 #[zi n,zi k,.bool mc] w fun e w'=>Ext w w'/\e = ah (.bool A):=by
 suffices H:∀ R:Ending->Z->Prop,(∀ w',Ext w w'->R (ah (.bool A)) w')->Calls a9Q 6 #[zi n,zi k,.bool mc] w R from H _ yF;intro R hR;refine aSl ?_;refine(asm n 8 hn zo zo w).mono ?_;rintro e w0 ⟨rfl,rfl⟩;obtain⟨m0,wo⟩:=cd ((if n<0 then -(n+1) else n).toNat % 8);have hm8:m0<8:=zo;rw[<- wo];clear wo;obtain⟨m,hm⟩:=cd (m0+1);have em:IntKind.i64.wrap (1+(m0:Int))=(m:Int):=by grind [Ov]
 refine bE ?_;rw[em,show 1+(m0:Int)=(m:Int) from by omega];refine aZJ (asm k m hk zo zo w0) ?_;rintro e w0' ⟨rfl,rfl⟩;obtain⟨j0,M5⟩:=cd ((if k<0 then -(k+1) else k).toNat % m);have Zz:j0<m:=by rw[M5];exact Nat.mod_lt _ zo
 rw[<- M5];clear M5;obtain⟨j,hj⟩:=cd (j0+1);have ej:IntKind.i64.wrap (1+(j0:Int))=(j:Int):=by grind [Ov]
 refine bE ?_;rw[ej];try rw[show 1+(j0:Int)=(j:Int) from by omega]
 have Ia:=aSX mc (m:=m) (j:=j) zo zo;have hd:=MD (n:=j) zo;refine⟨fun t z w'=>∃ i,t=m-i/\i<=m/\w'=w0'/\z 9 = aT (FD i)/\z 10=zi ((i+1:Nat):Int),⟨_,0,J,Nat.zero_le _,J,J,J⟩,?_⟩;intro t z dz w1 C;refine toPr ?_;obtain⟨i,rfl,hi,rfl,h9,oN⟩:=C;have gL:=aSU i zo;by_cases Q9:i<m
 .have hle:((i+1:Nat):Int)<=(m:Int):=zo;refine iZ h9 oN hle ?_;refine aZJ (Zb w1 (i+1) zo) ?_;rintro e w2 ⟨rfl,rfl⟩;have QM:=MD (n:=i+1) zo;have b1:(FD i).length+([110,40]:Bs).length<=4294967296:=zg;have b2:(FD i++[110,40]).length+(ff (i+1)).length<=4294967296:=zg;have b3:((FD i++[110,40])++ff (i+1)).length+([41,46,32]:Bs).length<=4294967296:=zg;have D:((i+1:Nat):Int)+1=((i+1+1:Nat):Int):=zo;simp (disch:=first|assumption|omega|simp only[zS]<;>omega|decide) only[zB,simprocAttr,kJ,h9,oN,ya _ _ b1,ya _ _ b2,ya _ _ b3,D];exact⟨_,zo,i+1,J,zo,by rw[aSY],J⟩
 .have NL:i=m:=zo;subst NL;have hle:¬ ((i+1:Nat):Int)<=((i:Nat):Int):=zo;refine iZ h9 oN hle ?_;refine aZJ (Zb w1 j zo) ?_;rintro e w2 ⟨rfl,rfl⟩;refine cH h9 ?_;repeat rw[ya _ _ (by simp only[List.length_append,aZQ,List.length_nil];omega)]
  obtain⟨cs,kk,v,hp,⟨E,st1,F,qe1,fI,hN1⟩,⟨I,K,L,qe2,iF,hN2⟩⟩:=Ia.ex;have iH:=Ia.len;have Ey:((0:Nat):Int)=0:=rfl;have OG:∀ i,Ob i=[88,32,61,32]++ff i:=fun _=>rfl;refine aZJ (aSM (Lu i j) ahw mc zo zd hT Ia.one) ?_;rintro e w3 ⟨eD,rfl⟩;have M:=hT.ext eD;refine bE ?_;refine⟨fun z w'=>w'=w3,?_,?_⟩
  .refine⟨fun z w'=>w'=w3/\z 83 = .bool G,?_,?_⟩
   .refine cH Ey ?_;rw[ya _ _ zg];exact fa OG
   .rintro z w' ⟨rfl,h⟩ s;exact fa h
  rintro z4 w4 rfl dd4;refine aZJ (asg (Lu i j) zo M) ?_;rintro e d ⟨ud,mP⟩;rw[hp] at mP;obtain⟨xb,rfl,p8⟩:=mP;have u:=M.ext ud;refine bE ?_;refine aZJ (ahv ahx mc zd u p8 hp) ?_;rintro e w6 ⟨j5,mQ⟩;rw[fI] at mQ;obtain⟨Ze,rfl,hB1⟩:=mQ;have hA1:=hB1.apt (bB.refl _ _);refine bE ?_;refine aZJ (ahv ahy mc zd (u.ext j5) (p8.iT (eH.dZ j5)) hp) ?_;rintro e w7 ⟨BX,lD⟩;rw[iF] at lD;obtain⟨Lt,rfl,hB2⟩:=lD;have hA2:=hB2.apt j5;have aS7:=hA1.ext BX;have aS8:=j5.trans BX;refine bE ?_;refine⟨fun z w'=>w'=w7,?_,?_⟩
  .refine⟨fun z w'=>w'=w7/\z 111 = .bool G,?_,?_⟩
   .exact eR
   .rintro z w' ⟨rfl,h⟩ s;exact fa h
  rintro z8 w8 rfl dd8;refine⟨fun t z w'=>∃ c a f g q1,c=t/\z 24=zi ((a:Nat):Int)/\a+c=i+1/\Ext d w'/\za d F f w' Ze E q1 (a-j)/\j<=a/\za d L g w' Lt I (V,K) 0/\(∀ b,f b->¬ g b) /\
    Gq E F 2000 20000 (c+1) q1=O ((a0j a c).map (fun i=>(Ob i,0))++[([],6)],qe1),
   ⟨_,i+1-j,j,_,_,_,J,J,zo,aS8,by rw[Nat.sub_self];exact aS7,Nat.le_refl _,hA2,fun b h1 h2=>zo,by rw[show i+1-j+1=i+2-j by omega];exact hN1⟩,?_⟩
  intro t z dz w9 C;refine toPr ?_;obtain⟨c,a,f,g,q1,rfl,NY,X7,lJ,N,Ts,YH,U4,l⟩:=C;by_cases P:0<c
  .obtain⟨r,rfl⟩:∃ r,c=r+1:=⟨c-1,zo⟩;have o:((a:Nat):Int)<=((i:Nat):Int):=zo;have hda:=MD (n:=a) zo;rw[List.range'_succ,List.map_cons,List.cons_append] at l;obtain⟨q2,tL,jf⟩:=W6 l;refine du NY o ?_;refine⟨fun z w'=>∃ y,Ext d w'/\za d F y w' Ze E q2 (a-j+1)/\za d L g w' Lt I (V,K) 0/\(∀ b,y b->¬ g b),?_,?_⟩
   .rw[NY];refine aZJ (Zb w9 a zo) ?_;rintro e jg ⟨rfl,rfl⟩;refine bE ?_;refine aZJ (Za N lJ u zo tL) ?_;rintro e Q ⟨rfl,sZ,y,S,T⟩;obtain⟨Zf,U⟩:=T _ _ _ _ _ _ YH U4;refine bE ?_;refine⟨fun z w'=>w'=Q/\z 132 = .bool G,?_,?_⟩
    .refine cH Ey ?_;rw[ya _ _ zg];exact fa OG
    .rintro z w' ⟨rfl,h⟩ s;refine cH h ?_;exact yF
   .rintro z Q ⟨y,sZ,S,Zf,U⟩ s;have D:((a:Nat):Int)+1=((a+1:Nat):Int):=zo;refine du NY @D ?_;exact⟨r,zo,r,a+1,y,g,q2,J,J,zo,sZ,zg,zo,Zf,U,jf⟩
  .have P:c=0:=zo;subst P;have o:¬ ((a:Nat):Int)<=((i:Nat):Int):=zo;obtain⟨qz1,aTa,-⟩:=W6 l;have hcy:∀ x,Zc j x=(([88,32,61,32]++ff x)++[44,32,89,32,61,32])++(if x=j then [105,116] else [108,111,119]):=fun _=>rfl;refine du NY o ?_;refine⟨fun t z w'=>∃ c x f g q2,c=t/\z 28=zi ((x:Nat):Int)/\x+c=j+1/\1<=x/\Ext d w'/\za d F f w' Ze E q1 (a-j)/\za d L g w' Lt I q2 (x-1)/\(∀ b,g b->¬ f b) /\
     Gq I L 2000 20000 (c+1) q2=O ((a0j x c).map (fun i=>(Zc j i,0))++[([],6)],qe2),
    ⟨_,j,1,_,_,_,J,J,zo,Nat.le_refl _,lJ,N,YH,zg,hN2⟩,?_⟩
   intro t z dz jg C;refine toPr ?_;obtain⟨c,x,f,g,q2,rfl,B,hxc,h1x,Bp,W,X,U4,Yy⟩:=C;by_cases P:0<c
   .obtain⟨r,rfl⟩:∃ r,c=r+1:=⟨c-1,zo⟩;have p:((x:Nat):Int)<=(j:Int):=zo;have hda:=MD (n:=x) zo;rw[List.range'_succ,List.map_cons,List.cons_append] at Yy;obtain⟨q3,tL,jf⟩:=W6 Yy;refine du B p ?_;refine⟨fun z w'=>∃ U9,Ext d w'/\za d L U9 w' Lt I q3 (x-1+1)/\za d F f w' Ze E q1 (a-j)/\(∀ b,U9 b->¬ f b),?_,?_⟩
    .rw[B];refine aZJ (Zb jg x zo) ?_;rintro e Q ⟨rfl,rfl⟩;refine bE ?_;refine⟨fun z w'=>w'=Q/\z 30 = aT (if x=j then [105,116] else [108,111,119]),?_,?_⟩
     .by_cases Bt:x=j
      .have q:((x:Nat):Int)=(j:Int):=zo;exact FU B q Bt
      .have q:¬ ((x:Nat):Int)=(j:Int):=zo;exact FU B q Bt
     .rintro z w' ⟨rfl,h30⟩ s;refine aZJ (Za X Bp u zo tL) ?_;rintro e nI ⟨rfl,oz,U9,aTc,T⟩;obtain⟨asw,U⟩:=T _ _ _ _ _ _ W U4;refine bE ?_;refine⟨fun z w'=>w'=nI/\z 158 = .bool G,?_,?_⟩
      .have gn:(if x=j then [105,116] else [108,111,119]:Bs).length<=3:=zg;refine du Ey h30 ?_;repeat rw[ya _ _ (by simp only[List.length_append,aZQ,List.length_nil];omega)]
       rw[h30,ya _ _ zg];exact fa hcy
      .rintro z w' ⟨rfl,h⟩ s;refine cH h ?_;exact yF
    .rintro z nI ⟨U9,oz,aTc,asw,U⟩ s;have D:((x:Nat):Int)+1=((x+1:Nat):Int):=zo;refine du B @D ?_;exact⟨r,zo,r,x+1,f,U9,q3,J,J,zo,zo,oz,asw,zg,U,jf⟩
   .have P:c=0:=zo;subst P;have p:¬ ((x:Nat):Int)<=(j:Int):=zo;obtain⟨qz2,aTd,-⟩:=W6 Yy;have VW:((6:Nat):Int)=6:=rfl;refine du B p ?_;refine aZJ (Za W Bp u zo aTa) ?_;rintro e Q ⟨rfl,sZ,y,S,T⟩;obtain⟨Zf,-⟩:=T _ _ _ _ _ _ X fun b h1 h2=>U4 b h2 h1;refine bE ?_;refine aZJ (Za Zf sZ u zo aTd) ?_;rintro e nI ⟨rfl,oz,-⟩;refine cH VW ?_;exact hR _ ((eD.trans ud).trans oz)
end Go.Proofs.YtoegidfbnkaabaaGreatDoor
