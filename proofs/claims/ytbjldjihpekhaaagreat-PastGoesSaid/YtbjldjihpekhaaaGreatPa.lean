import Derived.Test.YtbjldjihpekhaaaGreatAk
/- The past: told by functions on data. No conditions. -/
set_option linter.unusedVariables false
set_option maxRecDepth 100000
set_option maxHeartbeats 0
noncomputable section
namespace Go.DI.S
open Go.Proofs
def tyQ:TypeId→Option Ty
 | 95=>some (.list cA)
 | 159=>some MR
 | 9=>some .str
 | t=>iL t
def yY:Code:=Tryz.f160.body.getD .skip
theorem bG8:Tryz.f160.body=some yY:=by kernel_rfl
theorem bG9:CT.P.funcs[160]?=some Tryz.f160:=by kernel_rfl
def bJC:oH CT Tryz.f160 yY 95 where
 i0:=(gJ yY).1
 i1:=(kF yY).1
 i2:=(pQ yY).1
 aBf:=(gJ yY).2
 XF:=(kF yY).2
 XG:=(pQ yY).2
 rest:=jZ yY
 code:=by kernel_rfl
 s0:=by kernel_rfl
 s1:=by kernel_rfl
 s2:=by kernel_rfl
 o00:=((gJ yY).2[0]?).getD default
 o10:=((kF yY).2[0]?).getD default
 o11:=((kF yY).2[1]?).getD default
 o20:=((pQ yY).2[0]?).getD default
 h00:=by kernel_rfl
 h10:=by kernel_rfl
 h11:=by kernel_rfl
 h20:=by kernel_rfl
 g00:=⟨by kernel_rfl,by kernel_rfl,by kernel_rfl⟩
 g10:=⟨by kernel_rfl,by kernel_rfl,by kernel_rfl⟩
 g11:=⟨by kernel_rfl,by kernel_rfl,by kernel_rfl⟩
 g20:=⟨by kernel_rfl,by kernel_rfl,by kernel_rfl⟩
 nt:=by kernel_rfl
 res:=by kernel_rfl
theorem bJD (l:List (Ty.El cA)):aV CT T_P (cB CT T_P) (fun _ _ _=>none) (jZ yY) ⟨[.nF cA l,.any,.eY,.any,.bool false,.any,.any,.any],[]⟩ (P8 CT 87 cA [.tmp 2])=aEG l:=by kernel_rfl
def bEI:aW:=.own 160 [] ⟨[.ty (.list cA)],87,cA,fun x=>aEG x.1⟩
theorem bHi:CT.P.underlying 95=some (.slice 87):=by kernel_rfl
theorem bHp:aJ (jZ yY)=[]:=by kernel_rfl
theorem bJE:bEI.Ok CT.P:=by
 intro x y h;have h:aEG x.1=some y:=h;exact oI (e:=87) (bt:=87) aL a4N bG9 bG8 bJC bHi bHp (l:=x.1) (y:=y) ((bJD x.1).trans h) (fun h0=>by
  rw [h0] at h;exact(Option.some.inj h).symm)
def a2m:Code:=Tryz.f213.body.getD .skip
theorem bHr:Tryz.f213.body=some a2m:=by kernel_rfl
theorem bHs:CT.P.funcs[213]?=some Tryz.f213:=by kernel_rfl
def a2w:Tb:=cC tyQ iM [a8k]
theorem a2E:a2w.Ok CT.P:=aQ (⟨bDu,trivial⟩)
def a2K {β:Type}:dK β:=fun _ _ _=>none
theorem aXY {β:Type}:aC CT (a2K (β:=β)) (aJ a2m):=aC.is [] (by kernel_rfl) (aC.nil)
def aLB (a1:Ty.El cA):Option (aS [.bool]):=
 (aDP a1).bind fun v2=>some (!v2.1,())
theorem bJF (x:Ps [.ty cA]):dA CT a2w [.bool] (cB CT a2w) a2K Tryz.f213 a2m (bQ [.ty cA] x)=aLB x.1:=by kernel_rfl
def bEJ:aW:=.fn 213 [] ⟨[.ty cA],[.bool],fun x=>aLB x.1,false⟩
theorem bJG:bEJ.Ok CT.P:=aW.ofFn aL a2E bHs bHr aXY bJF
def aR8:Code:=Tryz.f255.body.getD .skip
theorem bHt:Tryz.f255.body=some aR8:=by kernel_rfl
theorem bHw:CT.P.funcs[255]?=some Tryz.f255:=by kernel_rfl
def aLY:Tb:=cC tyQ iM [bEJ]
theorem aLZ:aLY.Ok CT.P:=aQ (⟨bJG,trivial⟩)
def aSP:Code:=aX aR8 2
abbrev z7:aF:=⟨19,[(0,.data (.list cA)),(1,.vE 213 []),(7,.data I),(8,.data I)],[],fun _=>[]⟩
abbrev aB0:aF:=⟨19,[],[],fun _=>[]⟩
abbrev aB1:aF:=⟨19,[(4,.data I)],[],fun _=>[]⟩
def aL0:=ex 0 0 aB0 aB1 [] []
def HM (r0:Ty.El (.list cA))(r1:aS [])(r7:Ty.El I)(r8:Ty.El I):Option (z7.El⊕(aB0.El⊕aB1.El)):=
 bif decide (r8<r7) then
  bif decide ((0:Int)≤r8∧r8<(↑(List.length r0):Int)) then
   (aLB (List.getD r0 (Int.toNat r8) cA.dflt)).bind fun v2=>
    bif v2.1 then some (Sum.inr (Sum.inr ((r8,()),()))) else some (Sum.inl ((r0,(),r7,IntKind.i64.wrap (r8+(1:Int)),()),()))
  else none
 else some (Sum.inr (Sum.inl ((),())))
theorem bBu (x:z7.El):aV CT aLY (cB CT aLY) iI aSP (z7.enc x) (bG (z7.lay []) aL0)=HM x.1.1 x.1.2.1 x.1.2.2.1 x.1.2.2.2.1:=by kernel_rfl
def aSQ:z7.El→Option (aB0.El⊕aB1.El):=aH (fun x=>HM x.1.1 x.1.2.1 x.1.2.2.1 x.1.2.2.2.1) fuel
def a2O {β:Type}:dK β:=fun k s K=>if Nat.beq k 2 then bO (z7.lay []) aL0 aSQ s K else none
theorem aXZ {β:Type}:aC CT (a2O (β:=β)) (aJ aR8):=aC.is [(2,aSP)] (by kernel_rfl) (aC.cons (iW aL aLZ (bC (by kernel_rfl)) bBu rfl rfl) (aC.nil))
def aL1 (a1:Ty.El (.list cA))(a2:aS []):Option (aS [I]):=
 (aSQ ((a1,(),(↑(List.length a1):Int),(0:Int),()),())).bind fun v1=>Sum.elim (fun v2=>some ((-1:Int),())) (fun v3=>some (v3.1.1,())) v1
theorem bJH (x:Ps [.ty (.list cA),.vE 213 []]):dA CT aLY [I] (cB CT aLY) a2O Tryz.f255 aR8 (bQ [.ty (.list cA),.vE 213 []] x)=aL1 x.1 x.2.1:=by kernel_rfl
def bEK:aW:=.fn 255 [213] ⟨[.ty (.list cA),.vE 213 []],[I],fun x=>aL1 x.1 x.2.1,false⟩
theorem bJI:bEK.Ok CT.P:=aW.ofFn aL aLZ bHw bHt aXZ bJH
def a2P:Code:=Tryz.f212.body.getD .skip
theorem bHx:Tryz.f212.body=some a2P:=by kernel_rfl
theorem bHG:CT.P.funcs[212]?=some Tryz.f212:=by kernel_rfl
def a2U:Tb:=cC tyQ iM [bEK]
theorem a3c:a2U.Ok CT.P:=aQ (⟨bJI,trivial⟩)
def a3d {β:Type}:dK β:=fun _ _ _=>none
theorem aX0 {β:Type}:aC CT (a3d (β:=β)) (aJ a2P):=aC.is [] (by kernel_rfl) (aC.nil)
def aL2 (a1:Ty.El (.list cA))(a2:aS []):Option (aS [.bool]):=
 (aL1 a1 ()).bind fun v2=>some (decide (v2.1≥(0:Int)),())
theorem bJJ (x:Ps [.ty (.list cA),.vE 213 []]):dA CT a2U [.bool] (cB CT a2U) a3d Tryz.f212 a2P (bQ [.ty (.list cA),.vE 213 []] x)=aL2 x.1 x.2.1:=by kernel_rfl
def bEL:aW:=.fn 212 [213] ⟨[.ty (.list cA),.vE 213 []],[.bool],fun x=>aL2 x.1 x.2.1,false⟩
theorem bJK:bEL.Ok CT.P:=aW.ofFn aL a3c bHG bHx aX0 bJJ
def bHP:Code:=Tryz.f158.body.getD .skip
theorem bJL:Tryz.f158.body=some bHP:=by kernel_rfl
theorem bJM:CT.P.funcs[158]?=some Tryz.f158:=by kernel_rfl
def bHQ:Tb:=cC tyQ iM [bEL]
theorem bBv:bHQ.Ok CT.P:=aQ (⟨bJK,trivial⟩)
def bEM {β:Type}:dK β:=fun _ _ _=>none
theorem a3f {β:Type}:aC CT (bEM (β:=β)) (aJ bHP):=aC.is [] (by kernel_rfl) (aC.nil)
def aX1 (a1:Ty.El (.list cA)):Option (aS [.bool]):=
 bif decide ((↑(List.length a1):Int)≤(16:Int)) then(aL2 a1 ()).bind fun v2=>some (!v2.1,()) else some (false,())
theorem bLK (x:Ps [.ty (.list cA)]):dA CT bHQ [.bool] (cB CT bHQ) bEM Tryz.f158 bHP (bQ [.ty (.list cA)] x)=aX1 x.1:=by kernel_rfl
def bJN:aW:=.fn 158 [] ⟨[.ty (.list cA)],[.bool],fun x=>aX1 x.1,false⟩
theorem bLL:bJN.Ok CT.P:=aW.ofFn aL bBv bJM bJL a3f bLK
def bHX:Code:=Tryz.f108.body.getD .skip
theorem bJO:Tryz.f108.body=some bHX:=by kernel_rfl
theorem bJP:CT.P.funcs[108]?=some Tryz.f108:=by kernel_rfl
def bHZ:Tb:=cC tyQ iM [bJN]
theorem bBx:bHZ.Ok CT.P:=aQ (⟨bLL,trivial⟩)
def bEN {β:Type}:dK β:=fun _ _ _=>none
theorem a3P {β:Type}:aC CT (bEN (β:=β)) (aJ bHX):=aC.is [] (by kernel_rfl) (aC.nil)
def aL4 (a1:Ty.El fT):Option (aS [.bool]):=
 (aX1 a1.1).bind fun v2=>bif v2.1 then(aX1 a1.2).bind fun v4=>some (v4.1,()) else some (false,())
theorem bLM (x:Ps [.ty fT]):dA CT bHZ [.bool] (cB CT bHZ) bEN Tryz.f108 bHX (bQ [.ty fT] x)=aL4 x.1:=by kernel_rfl
def a3Q:aW:=.fn 108 [] ⟨[.ty fT],[.bool],fun x=>aL4 x.1,false⟩
theorem bBz:a3Q.Ok CT.P:=aW.ofFn aL bBx bJP bJO a3P bLM
def aSR:Code:=Tryz.f159.body.getD .skip
theorem bH0:Tryz.f159.body=some aSR:=by kernel_rfl
theorem bH9:CT.P.funcs[159]?=some Tryz.f159:=by kernel_rfl
def aMa:Tb:=cC tyQ iM [bEu]
theorem aM0:aMa.Ok CT.P:=aQ (⟨bJk,trivial⟩)
def aSS:Code:=aX aSR 3
abbrev DP:aF:=⟨22,[(3,.own cA 0),(6,.data (.list cA)),(7,.data I),(8,.data I)],[.row 87 cA],fun s=>[aG s 3]⟩
abbrev aCg:aF:=⟨22,[(3,.own cA 0)],[.row 87 cA],fun s=>[aG s 3]⟩
abbrev aCR:aF:=l0 22
def aNV:=ex 0 0 aCg aCR [.bU 3 87 cA] []
def LB (r6:Ty.El (.list cA))(r7:Ty.El I)(r8:Ty.El I)(b0:List (Ty.El cA)):Option (DP.El⊕(aCg.El⊕aCR.El)):=
 bif decide (r8<r7) then
  bif decide ((0:Int)≤r8∧r8<(↑(List.length r6):Int)) then
   (aEz (List.getD r6 (Int.toNat r8) cA.dflt).1).bind fun v2=>
    bif((b0.length+[(v2.1,(List.getD r6 (Int.toNat r8) cA.dflt).2)].length)*(80:Nat)).ble (70368744177664:Nat) then
     some (Sum.inl (((),r6,r7,IntKind.i64.wrap (r8+(1:Int)),()),b0++[(v2.1,(List.getD r6 (Int.toNat r8) cA.dflt).2)],()))
    else none
  else none
 else some (Sum.inr (Sum.inl (((),()),b0,())))
theorem bBN (x:DP.El):aV CT aMa (cB CT aMa) iI aSS (DP.enc x) (bG (DP.lay [.bU 3 87 cA]) aNV)=LB x.1.2.1 x.1.2.2.1 x.1.2.2.2.1 x.2.1:=by kernel_rfl
def aST:DP.El→Option (aCg.El⊕aCR.El):=aH (fun x=>LB x.1.2.1 x.1.2.2.1 x.1.2.2.2.1 x.2.1) fuel
def a3X {β:Type}:dK β:=fun k s K=>if Nat.beq k 3 then bO (DP.lay [.bU 3 87 cA]) aNV aST s K else none
theorem aX2 {β:Type}:aC CT (a3X (β:=β)) (aJ aSR):=aC.is [(3,aSS)] (by kernel_rfl) (aC.cons (iW aL aM0 (bC (by kernel_rfl)) bBN rfl rfl) (aC.nil))
def aFC (a1:Ty.El (.list cA)):Option (aS [.list cA]):=
 (aST (((),a1,(↑(List.length a1):Int),(0:Int),()),[],())).bind fun v1=>Sum.elim (fun v2=>some (v2.2.1,())) (fun v3=>none) v1
theorem bJQ (x:Ps [.ty (.list cA)]):dA CT aMa [.list cA] (cB CT aMa) a3X Tryz.f159 aSR (bQ [.ty (.list cA)] x)=aFC x.1:=by kernel_rfl
def a36:aW:=.fn 159 [] ⟨[.ty (.list cA)],[.list cA],fun x=>aFC x.1,false⟩
theorem bEO:a36.Ok CT.P:=aW.ofFn aL aM0 bH9 bH0 aX2 bJQ
def bIa:Code:=Tryz.f109.body.getD .skip
theorem bJR:Tryz.f109.body=some bIa:=by kernel_rfl
theorem bJS:CT.P.funcs[109]?=some Tryz.f109:=by kernel_rfl
def bIb:Tb:=cC tyQ iM [a36,bEI]
theorem bCc:bIb.Ok CT.P:=aQ (⟨bEO,bJE,trivial⟩)
def bEP {β:Type}:dK β:=fun _ _ _=>none
theorem a4b {β:Type}:aC CT (bEP (β:=β)) (aJ bIa):=aC.is [] (by kernel_rfl) (aC.nil)
def aX4 (a1:Ty.El (.list cA))(a2:Ty.El cA):Option (aS [.list cA]):=
 (aEG a1).bind fun v2=>
  bif((v2.length+[a2].length)*(80:Nat)).ble (70368744177664:Nat) then
   (aFC (v2++[a2])).bind fun QE=>
    bif
      decide
       (((0:Int) ≤
         if(0:Int)>IntKind.i64.wrap ((↑(List.length QE.1):Int)-(16:Int)) then(0:Int)
         else IntKind.i64.wrap ((↑(List.length QE.1):Int)-(16:Int))) ∧
        (if(0:Int)>IntKind.i64.wrap ((↑(List.length QE.1):Int)-(16:Int)) then(0:Int)
         else IntKind.i64.wrap ((↑(List.length QE.1):Int)-(16:Int))) ≤
         (↑(List.length QE.1):Int)) then
     some
      (List.take
        (List.length QE.1 -
         (if(0:Int)>IntKind.i64.wrap ((↑(List.length QE.1):Int)-(16:Int)) then(0:Int)
          else IntKind.i64.wrap ((↑(List.length QE.1):Int)-(16:Int))).toNat)
        (List.drop
         (if(0:Int)>IntKind.i64.wrap ((↑(List.length QE.1):Int)-(16:Int)) then(0:Int)
          else IntKind.i64.wrap ((↑(List.length QE.1):Int)-(16:Int))).toNat
         QE.1),
       ())
    else none
  else none
theorem bLN (x:Ps [.ty (.list cA),.ty cA]):dA CT bIb [.list cA] (cB CT bIb) bEP Tryz.f109 bIa (bQ [.ty (.list cA),.ty cA] x)=aX4 x.1 x.2.1:=by kernel_rfl
def bIc:aW:=.fn 109 [] ⟨[.ty (.list cA),.ty cA],[.list cA],fun x=>aX4 x.1 x.2.1,false⟩
theorem bJT:bIc.Ok CT.P:=aW.ofFn aL bCc bJS bJR a4b bLN
def bId:Code:=Tryz.f41.body.getD .skip
theorem bJU:Tryz.f41.body=some bId:=by kernel_rfl
theorem bJV:CT.P.funcs[41]?=some Tryz.f41:=by kernel_rfl
def bIe:Tb:=cC tyQ iM [a3Q,a8k,bIc]
theorem bCJ:bIe.Ok CT.P:=aQ (⟨bBz,bDu,bJT,trivial⟩)
def bEQ {β:Type}:dK β:=fun _ _ _=>none
theorem a4c {β:Type}:aC CT (bEQ (β:=β)) (aJ bId):=aC.is [] (by kernel_rfl) (aC.nil)
def aN4 (a1:Ty.El fT)(a2:Ty.El cA):Option (aS [fT,.bool]):=
 (aL4 a1).bind fun v2=>
  bif !v2.1 then some (a1,false,())
  else(aDP a2).bind fun v4=>bif !v4.1 then some (a1,false,()) else(aX4 a1.1 a2).bind fun v6=>some ((v6.1,[]),true,())
theorem bLO (x:Ps [.ty fT,.ty cA]):dA CT bIe [fT,.bool] (cB CT bIe) bEQ Tryz.f41 bId (bQ [.ty fT,.ty cA] x)=aN4 x.1 x.2.1:=by kernel_rfl
def bIf:aW:=.fn 41 [] ⟨[.ty fT,.ty cA],[fT,.bool],fun x=>aN4 x.1 x.2.1,false⟩
theorem bJW:bIf.Ok CT.P:=aW.ofFn aL bCJ bJV bJU a4c bLO
def bIg:Code:=Tryz.f110.body.getD .skip
theorem bJX:Tryz.f110.body=some bIg:=by kernel_rfl
theorem bJY:CT.P.funcs[110]?=some Tryz.f110:=by kernel_rfl
def bIi:Tb:=cC tyQ iM [bIc,a36]
theorem bCP:bIi.Ok CT.P:=aQ (⟨bJT,bEO,trivial⟩)
def bER {β:Type}:dK β:=fun _ _ _=>none
theorem a4j {β:Type}:aC CT (bER (β:=β)) (aJ bIg):=aC.is [] (by kernel_rfl) (aC.nil)
def aX7 (a1:Ty.El (.list cA))(a2:Ty.El (.list cA)):Option (aS [.list cA,.list cA]):=
 bif
   decide
    ((0:Int)≤IntKind.i64.wrap ((↑(List.length a1):Int)-(1:Int))∧IntKind.i64.wrap ((↑(List.length a1):Int)-(1:Int))≤(↑(List.length a1):Int)) then
  (aFC (List.take ((IntKind.i64.wrap ((↑(List.length a1):Int)-(1:Int))).toNat-(0:Nat)) (List.drop (0:Nat) a1))).bind fun v2=>
   bif
     decide
      ((0:Int)≤IntKind.i64.wrap ((↑(List.length a1):Int)-(1:Int))∧IntKind.i64.wrap ((↑(List.length a1):Int)-(1:Int))<(↑(List.length a1):Int)) then
    (aX4 a2 (List.getD a1 (IntKind.i64.wrap ((↑(List.length a1):Int)-(1:Int))).toNat cA.dflt)).bind fun v4=>some (v2.1,v4.1,())
   else none
 else none
theorem bLP (x:Ps [.ty (.list cA),.ty (.list cA)]):dA CT bIi [.list cA,.list cA] (cB CT bIi) bER Tryz.f110 bIg (bQ [.ty (.list cA),.ty (.list cA)] x)=aX7 x.1 x.2.1:=by kernel_rfl
def bIj:aW:=.fn 110 [] ⟨[.ty (.list cA),.ty (.list cA)],[.list cA,.list cA],fun x=>aX7 x.1 x.2.1,false⟩
theorem bJZ:bIj.Ok CT.P:=aW.ofFn aL bCP bJY bJX a4j bLP
def bIk:Code:=Tryz.f42.body.getD .skip
theorem bJ0:Tryz.f42.body=some bIk:=by kernel_rfl
theorem bJ1:CT.P.funcs[42]?=some Tryz.f42:=by kernel_rfl
def bIl:Tb:=cC tyQ iM [aBV,a3Q,bDG,bIj]
theorem bCQ:bIl.Ok CT.P:=aQ (⟨JF,bBz,bHW,bJZ,trivial⟩)
def bES {β:Type}:dK β:=fun _ _ _=>none
theorem a4k {β:Type}:aC CT (bES (β:=β)) (aJ bIk):=aC.is [] (by kernel_rfl) (aC.nil)
def aQQ (a1:Ty.El fT)(a2:Ty.El aD):Option (aS [fT,aD,I]):=
 (aL4 a1).bind fun v2=>
  bif !v2.1 then some (a1,a2,(9:Int),())
  else
   (pR a2).bind fun v4=>
    bif !v4.1 then some (a1,a2,(9:Int),())
    else
     bif(↑(List.length a1.1):Int)==(0:Int) then some (a1,a2,(13:Int),())
     else
      bif
        decide
         ((0:Int)≤IntKind.i64.wrap ((↑(List.length a1.1):Int)-(1:Int)) ∧
          IntKind.i64.wrap ((↑(List.length a1.1):Int)-(1:Int))<(↑(List.length a1.1):Int)) then
       (a8y a2 (List.getD a1.1 (IntKind.i64.wrap ((↑(List.length a1.1):Int)-(1:Int))).toNat cA.dflt)).bind fun v6=>
        bif v6.2.1 != (0:Int) then some (a1,a2,v6.2.1,())
        else(aX7 a1.1 a1.2).bind fun v8=>some ((v8.1,v8.2.1),v6.1,(0:Int),())
      else none
theorem bLQ (x:Ps [.ty fT,.ty aD]):dA CT bIl [fT,aD,I] (cB CT bIl) bES Tryz.f42 bIk (bQ [.ty fT,.ty aD] x)=aQQ x.1 x.2.1:=by kernel_rfl
def bIm:aW:=.fn 42 [] ⟨[.ty fT,.ty aD],[fT,aD,I],fun x=>aQQ x.1 x.2.1,false⟩
theorem bJ2:bIm.Ok CT.P:=aW.ofFn aL bCQ bJ1 bJ0 a4k bLQ
def a4l:Code:=Tryz.f43.body.getD .skip
theorem bIn:Tryz.f43.body=some a4l:=by kernel_rfl
theorem bIo:CT.P.funcs[43]?=some Tryz.f43:=by kernel_rfl
def a4m:Tb:=cC tyQ iM [aBV,a3Q,a8v,bIj]
theorem a4T:a4m.Ok CT.P:=aQ (⟨JF,bBz,bDD,bJZ,trivial⟩)
def a4U {β:Type}:dK β:=fun _ _ _=>none
theorem aYt {β:Type}:aC CT (a4U (β:=β)) (aJ a4l):=aC.is [] (by kernel_rfl) (aC.nil)
def aAK (a1:Ty.El fT)(a2:Ty.El aD):Option (aS [fT,aD,I]):=
 (aL4 a1).bind fun v2=>
  bif !v2.1 then some (a1,a2,(9:Int),())
  else
   (pR a2).bind fun v4=>
    bif !v4.1 then some (a1,a2,(9:Int),())
    else
     bif(↑(List.length a1.2):Int)==(0:Int) then some (a1,a2,(13:Int),())
     else
      bif
        decide
         ((0:Int)≤IntKind.i64.wrap ((↑(List.length a1.2):Int)-(1:Int)) ∧
          IntKind.i64.wrap ((↑(List.length a1.2):Int)-(1:Int))<(↑(List.length a1.2):Int)) then
       (a06 a2 (List.getD a1.2 (IntKind.i64.wrap ((↑(List.length a1.2):Int)-(1:Int))).toNat cA.dflt)).bind fun v6=>
        bif v6.2.1 != (0:Int) then some (a1,a2,v6.2.1,())
        else(aX7 a1.2 a1.1).bind fun v8=>some ((v8.2.1,v8.1),v6.1,(0:Int),())
      else none
theorem bJ3 (x:Ps [.ty fT,.ty aD]):dA CT a4m [fT,aD,I] (cB CT a4m) a4U Tryz.f43 a4l (bQ [.ty fT,.ty aD] x)=aAK x.1 x.2.1:=by kernel_rfl
def bEU:aW:=.fn 43 [] ⟨[.ty fT,.ty aD],[fT,aD,I],fun x=>aAK x.1 x.2.1,false⟩
theorem bJ4:bEU.Ok CT.P:=aW.ofFn aL a4T bIo bIn aYt bJ3
def bCR:Code:=Tryz.f153.body.getD .skip
theorem bJ5:Tryz.f153.body=some bCR:=by kernel_rfl
theorem bJ6:CT.P.funcs[153]?=some Tryz.f153:=by kernel_rfl
def a4V:Tb:=cC tyQ iM []
theorem aSU:a4V.Ok CT.P:=aQ (trivial)
def a4W:Code:=aX bCR 3
abbrev Q9:aF:=⟨22,[(0,.data I),(1,.data I),(5,.own (.int .u8) 0)],[.row 5 (.int .u8)],fun s=>[aG s 5]⟩
abbrev aH9:aF:=⟨22,[(5,.own (.int .u8) 0)],[.row 5 (.int .u8)],fun s=>[aG s 5]⟩
abbrev aIa:aF:=l0 22
def aSV:=ex 0 0 aH9 aIa [.bU 5 5 (.int .u8)] []
def a4X (r0:Ty.El I)(r1:Ty.El I)(b0:List (Ty.El (.int .u8))):Option (Q9.El⊕(aH9.El⊕aIa.El)):=
 bif decide (r1≥(0:Int)) then
  bif decide (IntKind.i64.wrap ((8:Int)*r1)<(0:Int)) then none
  else
   bif
     ((b0.length+[IntKind.u8.wrap (Int.fdiv r0 ((2:Int)^Min.min (IntKind.i64.wrap ((8:Int)*r1)).toNat (64:Nat)))].length)*(1:Nat)).ble
      (70368744177664:Nat) then
    some
     (Sum.inl
      ((r0,IntKind.i64.wrap (r1-(1:Int)),(),()),
       b0++[IntKind.u8.wrap (Int.fdiv r0 ((2:Int)^Min.min (IntKind.i64.wrap ((8:Int)*r1)).toNat (64:Nat)))],()))
   else none
 else some (Sum.inr (Sum.inl (((),()),b0,())))
theorem bIp (x:Q9.El):aV CT a4V (cB CT a4V) iI a4W (Q9.enc x) (bG (Q9.lay [.bU 5 5 (.int .u8)]) aSV)=a4X x.1.1 x.1.2.1 x.2.1:=by kernel_rfl
def a4Y:Q9.El→Option (aH9.El⊕aIa.El):=aH (fun x=>a4X x.1.1 x.1.2.1 x.2.1) fuel
def bEV {β:Type}:dK β:=fun k s K=>if Nat.beq k 3 then bO (Q9.lay [.bU 5 5 (.int .u8)]) aSV a4Y s K else none
theorem a4Z {β:Type}:aC CT (bEV (β:=β)) (aJ bCR):=aC.is [(3,a4W)] (by kernel_rfl) (aC.cons (iW aL aSU (bC (by kernel_rfl)) bIp rfl rfl) (aC.nil))
def a42 (a1:Ty.El I)(a2:Ty.El I):Option (aS [.str]):=
 (a4Y ((a1,IntKind.i64.wrap (a2-(1:Int)),(),()),[],())).bind fun v1=>
  Sum.elim (fun v2=>some (List.map (fun v3=>UInt8.ofNat (Int.toNat v3)) v2.2.1,())) (fun v4=>none) v1
theorem bLR (x:Ps [.ty I,.ty I]):dA CT a4V [.str] (cB CT a4V) bEV Tryz.f153 bCR (bQ [.ty I,.ty I] x)=a42 x.1 x.2.1:=by kernel_rfl
def bJ7:aW:=.fn 153 [] ⟨[.ty I,.ty I],[.str],fun x=>a42 x.1 x.2.1,false⟩
theorem bLS:bJ7.Ok CT.P:=aW.ofFn aL aSU bJ6 bJ5 a4Z bLR
def a5J:Code:=Tryz.f210.body.getD .skip
theorem bIq:Tryz.f210.body=some a5J:=by kernel_rfl
theorem bIr:CT.P.funcs[210]?=some Tryz.f210:=by kernel_rfl
def a57:Tb:=cC tyQ iM []
theorem a6j:a57.Ok CT.P:=aQ (trivial)
def a6m {β:Type}:dK β:=fun _ _ _=>none
theorem aYv {β:Type}:aC CT (a6m (β:=β)) (aJ a5J):=aC.is [] (by kernel_rfl) (aC.nil)
def a6n (a1:Unit)(a2:Ty.El I):Option (List (Ty.El cA)):=
 bif decide (a2<(0:Int)) then none else bif decide (IntKind.i64.wrap (a2-(0:Int))>(0:Int)) then none else some []
theorem bJ8 (x:Ps [.nil,.ty I]):B7 CT a57 87 cA (cB CT a57) a6m Tryz.f210 a5J (bQ [.nil,.ty I] x)=a6n x.1 x.2.1:=by kernel_rfl
def bEX:aW:=.own 210 [] ⟨[.nil,.ty I],87,cA,fun x=>a6n x.1 x.2.1⟩
theorem bJ9:bEX.Ok CT.P:=aW.LY aL a6j bIr bIq aYv bJ8
def a7J:Code:=Tryz.f154.body.getD .skip
theorem bKa:Tryz.f154.body=some a7J:=by kernel_rfl
theorem bKb:CT.P.funcs[154]?=some Tryz.f154:=by kernel_rfl
def aQ0:Tb:=cC tyQ iM [bEX]
theorem aIb:aQ0.Ok CT.P:=aQ (⟨bJ9,trivial⟩)
def aSW:Code:=aX a7J 11
def a8b:Code:=aX a7J 3
abbrev RA:aF:=⟨36,[(0,.data (.list (.list cA))),(3,.data I),(9,.data (.list (.list cA))),(10,.data I),(11,.data I)],[],fun _=>[]⟩
abbrev aIc:aF:=⟨36,[(0,.data (.list (.list cA))),(3,.data I)],[],fun _=>[]⟩
abbrev aId:aF:=l0 36
def aSX:=ex 0 0 aIc aId [] []
def a8c (r0:Ty.El (.list (.list cA)))(r3:Ty.El I)(r9:Ty.El (.list (.list cA)))(eD:Ty.El I)(eM:Ty.El I):Option (RA.El⊕(aIc.El⊕aId.El)):=
 bif decide (eM<eD) then
  bif decide ((0:Int)≤eM∧eM<(↑(List.length r9):Int)) then
   bif decide (IntKind.i64.wrap (r3+(↑(List.length (List.getD r9 (Int.toNat eM) cA.list.dflt)):Int))<(0:Int)) then none
   else
    some
     (Sum.inl
      ((r0,IntKind.i64.wrap (r3+(↑(List.length (List.getD r9 (Int.toNat eM) cA.list.dflt)):Int)),r9,eD,IntKind.i64.wrap (eM+(1:Int)),()),()))
  else none
 else some (Sum.inr (Sum.inl ((r0,r3,()),())))
theorem bIs (x:RA.El):aV CT aQ0 (cB CT aQ0) iI a8b (RA.enc x) (bG (RA.lay []) aSX)=a8c x.1.1 x.1.2.1 x.1.2.2.1 x.1.2.2.2.1 x.1.2.2.2.2.1:=by kernel_rfl
def a8d:RA.El→Option (aIc.El⊕aId.El):=aH (fun x=>a8c x.1.1 x.1.2.1 x.1.2.2.1 x.1.2.2.2.1 x.1.2.2.2.2.1) fuel
abbrev EI:aF:=⟨36,[(6,.own cA 0),(25,.data (.list (.list cA))),(26,.data I),(27,.data I)],[.row 87 cA],fun s=>[aG s 6]⟩
abbrev aDU:aF:=⟨36,[(6,.own cA 0)],[.row 87 cA],fun s=>[aG s 6]⟩
abbrev aDX:aF:=l0 36
def aOc:=ex 0 2 aDU aDX [] []
def aSY (IA:Ty.El (.list (.list cA)))(r26:Ty.El I)(vW:Ty.El I)(b0:List (Ty.El cA)):Option (EI.El⊕(aDU.El⊕aDX.El)):=
 bif decide (vW<r26) then
  bif decide ((0:Int)≤vW∧vW<(↑(List.length IA):Int)) then
   bif((b0.length+List.length (List.getD IA (Int.toNat vW) cA.list.dflt))*(80:Nat)).ble (70368744177664:Nat) then
    some (Sum.inl (((),IA,r26,IntKind.i64.wrap (vW+(1:Int)),()),b0++List.getD IA (Int.toNat vW) cA.list.dflt,()))
   else none
  else none
 else some (Sum.inr (Sum.inl (((),()),b0,())))
theorem bCS (x:EI.El):aV CT aQ0 (cB CT aQ0) iI aSW (EI.enc x) (bG (EI.lay []) aOc)=aSY x.1.2.1 x.1.2.2.1 x.1.2.2.2.1 x.2.1:=by kernel_rfl
def aTb:EI.El→Option (aDU.El⊕aDX.El):=aH (fun x=>aSY x.1.2.1 x.1.2.2.1 x.1.2.2.2.1 x.2.1) fuel
def bE0 {β:Type}:dK β:=fun k s K=>if Nat.beq k 3 then bO (RA.lay []) aSX a8d s K else if Nat.beq k 11 then bO (EI.lay []) aOc aTb s K else none
theorem a89 {β:Type}:aC CT (bE0 (β:=β)) (aJ a7J):=aC.is [(3,a8b),(11,aSW)] (by kernel_rfl) (aC.cons (iW aL aIb (bC (by kernel_rfl)) bIs rfl rfl) (aC.cons (iW aL aIb (bC (by kernel_rfl)) bCS rfl rfl) (aC.nil)))
def bIt (a1:Ty.El (.list (.list cA))):Option (aS [.list cA]):=
 (a8d ((a1,(0:Int),a1,(↑(List.length a1):Int),(0:Int),()),())).bind fun v1=>
  Sum.elim
   (fun v2=>
    (a6n () v2.1.2.1).bind fun v4=>
     (aTb (((),v2.1.1,(↑(List.length v2.1.1):Int),(0:Int),()),v4,())).bind fun v5=>
      Sum.elim (fun v6=>some (v6.2.1,())) (fun v7=>none) v5)
   (fun v8=>none) v1
theorem bLT (x:Ps [.ty (.list (.list cA))]):dA CT aQ0 [.list cA] (cB CT aQ0) bE0 Tryz.f154 a7J (bQ [.ty (.list (.list cA))] x)=bIt x.1:=by kernel_rfl
def bKd:aW:=.fn 154 [] ⟨[.ty (.list (.list cA))],[.list cA],fun x=>bIt x.1,false⟩
theorem bLU:bKd.Ok CT.P:=aW.ofFn aL aIb bKb bKa a89 bLT
def a9c:Code:=Tryz.f105.body.getD .skip
theorem bKe:Tryz.f105.body=some a9c:=by kernel_rfl
theorem bKf:CT.P.funcs[105]?=some Tryz.f105:=by kernel_rfl
def aIe:Tb:=cC tyQ iM [aBV,a3Q,bJ7,bKd]
theorem aBc:aIe.Ok CT.P:=aQ (⟨JF,bBz,bLS,bLU,trivial⟩)
def aBn:Code:=aX a9c 13
def a9d:Code:=aX a9c 6
def aTc:Code:=aX aBn 16
abbrev EJ:aF:=⟨116,[(7,.data (.list MR)),(12,.data I),(15,.data .str),(79,.data (.list cA)),(80,.data I),(81,.data I)],[],fun _=>[]⟩
abbrev aDY:aF:=⟨116,[(7,.data (.list MR)),(12,.data I),(79,.data (.list cA)),(80,.data I),(81,.data I)],[],fun _=>[]⟩
abbrev aEb:aF:=l0 116
def aOk:=ex 0 4 aDY aEb [] []
def aTd (r7:Ty.El (.list MR))(lJ:Ty.El I)(jR:Ty.El .str)(r79:Ty.El (.list cA))(r80:Ty.El I)(r81:Ty.El I):Option (EJ.El⊕(aDY.El⊕aEb.El)):=
 bif !jR==[] then
  bif(if(899:Int)<(↑(List.length jR):Int) then(899:Int) else(↑(List.length jR):Int))==(↑(List.length jR):Int) then
   bif
     decide
      (((0:Int)≤if(899:Int)<(↑(List.length jR):Int) then(899:Int) else(↑(List.length jR):Int)) ∧
       (if(899:Int)<(↑(List.length jR):Int) then(899:Int) else(↑(List.length jR):Int))≤(↑(List.length jR):Int)) then
    bif
      decide
       ((1:Nat) +
         (List.take ((if(899:Int)<(↑(List.length jR):Int) then(899:Int) else(↑(List.length jR):Int)).toNat-(0:Nat)) (List.drop (0:Nat) jR)).length ≤
        (4611686018427387904:Nat)) then
     none
    else none
   else none
  else
   bif
     decide
      (((0:Int)≤if(899:Int)<(↑(List.length jR):Int) then(899:Int) else(↑(List.length jR):Int)) ∧
       (if(899:Int)<(↑(List.length jR):Int) then(899:Int) else(↑(List.length jR):Int))≤(↑(List.length jR):Int)) then
    bif
      decide
       ((1:Nat) +
         (List.take ((if(899:Int)<(↑(List.length jR):Int) then(899:Int) else(↑(List.length jR):Int)).toNat-(0:Nat)) (List.drop (0:Nat) jR)).length ≤
        (4611686018427387904:Nat)) then
     none
    else none
   else none
 else some (Sum.inr (Sum.inl ((r7,lJ,r79,r80,r81,()),())))
theorem bDH (x:EJ.El):aV CT aIe (cB CT aIe) iI aTc (EJ.enc x) (bG (EJ.lay []) aOk)=aTd x.1.1 x.1.2.1 x.1.2.2.1 x.1.2.2.2.1 x.1.2.2.2.2.1 x.1.2.2.2.2.2.1:=by kernel_rfl
def bEa:EJ.El→Option (aDY.El⊕aEb.El):=aH (fun x=>aTd x.1.1 x.1.2.1 x.1.2.2.1 x.1.2.2.2.1 x.1.2.2.2.2.1 x.1.2.2.2.2.2.1) fuel
abbrev WJ:aF:=⟨116,[(3,.ptr 0),(7,.data (.list MR)),(55,.data (.list aA)),(56,.data I),(57,.data I)],[.var 97 [.data fT]],fun s=>[aG s 3]⟩
abbrev aIh:aF:=⟨116,[(3,.ptr 0),(7,.data (.list MR))],[.var 97 [.data fT]],fun s=>[aG s 3]⟩
abbrev aIl:aF:=l0 116
def aTe:=ex 0 0 aIh aIl [.jX 7 (.list MR)] []
def a9f (r7:Ty.El (.list MR))(r55:Ty.El (.list aA))(r56:Ty.El I)(r57:Ty.El I)(b0:Ty.El fT×Unit):Option (WJ.El⊕(aIh.El⊕aIl.El)):=
 bif decide (r57<r56) then bif decide ((0:Int)≤r57∧r57<(↑(List.length r55):Int)) then none else none
 else some (Sum.inr (Sum.inl (((),r7,()),(b0.1,()),())))
theorem bIu (x:WJ.El):aV CT aIe (cB CT aIe) iI a9d (WJ.enc x) (bG (WJ.lay [.jX 7 (.list MR)]) aTe)=a9f x.1.2.1 x.1.2.2.1 x.1.2.2.2.1 x.1.2.2.2.2.1 x.2.1:=by kernel_rfl
def a9g:WJ.El→Option (aIh.El⊕aIl.El):=aH (fun x=>a9f x.1.2.1 x.1.2.2.1 x.1.2.2.2.1 x.1.2.2.2.2.1 x.2.1) fuel
abbrev FM:aF:=⟨116,[(7,.data (.list MR)),(12,.data I),(79,.data (.list cA)),(80,.data I),(81,.data I)],[],fun _=>[]⟩
abbrev aEc:aF:=⟨116,[(7,.data (.list MR))],[],fun _=>[]⟩
abbrev aEd:aF:=l0 116
def aOn:=ex 0 2 aEc aEd [] []
def aFD {β:Type}:dK β:=fun k s K=>if Nat.beq k 16 then bO (EJ.lay []) aOk bEa s K else none
theorem aII {β:Type}:aC CT (aFD (β:=β)) (aJ aBn):=aC.is [(16,aTc)] (by kernel_rfl) (aC.cons (iW aL aBc (bC (by kernel_rfl)) bDH rfl rfl) (aC.nil))
def aTf (r7:Ty.El (.list MR))(lJ:Ty.El I)(r79:Ty.El (.list cA))(r80:Ty.El I)(r81:Ty.El I):Option (FM.El⊕(aEc.El⊕aEd.El)):=
 bif decide (r81<r80) then bif decide ((0:Int)≤r81∧r81<(↑(List.length r79):Int)) then none else none
 else some (Sum.inr (Sum.inl ((r7,()),())))
theorem bEd (x:FM.El):aV CT aIe (cB CT aIe) aFD aBn (FM.enc x) (bG (FM.lay []) aOn)=aTf x.1.1 x.1.2.1 x.1.2.2.1 x.1.2.2.2.1 x.1.2.2.2.2.1:=by kernel_rfl
def aUo:FM.El→Option (aEc.El⊕aEd.El):=aH (fun x=>aTf x.1.1 x.1.2.1 x.1.2.2.1 x.1.2.2.2.1 x.1.2.2.2.2.1) fuel
def bE2 {β:Type}:dK β:=fun k s K=>if Nat.beq k 6 then bO (WJ.lay [.jX 7 (.list MR)]) aTe a9g s K else if Nat.beq k 13 then bO (FM.lay []) aOn aUo s K else none
theorem a9h {β:Type}:aC CT (bE2 (β:=β)) (aJ a9c):=aC.is [(6,a9d),(13,aBn)] (by kernel_rfl) (aC.cons (iW aL aBc (bC (by kernel_rfl)) bIu rfl rfl) (aC.cons (iW aL aBc aII bEd rfl rfl) (aC.nil)))
def bIv (a1:Ty.El aD)(a2:Ty.El fT):Option (aS [.list MR,I]):=
 (pR a1).bind fun v2=>
  bif !v2.1 then some ([],(9:Int),())
  else
   (aL4 a2).bind fun v4=>
    bif !v4.1 then some ([],(9:Int),())
    else
     (a42 a1.1.1 (8:Int)).bind fun v6=>
      (a42 a1.1.2 (8:Int)).bind fun v8=>
       bif decide (List.length v6.1+List.length v8.1≤(4611686018427387904:Nat)) then
        (a42 a1.2.1 (4:Int)).bind fun v10=>
         bif decide ((v6.1++v8.1).length+List.length v10.1≤(4611686018427387904:Nat)) then
          bif
            decide
             ((v6.1++v8.1++v10.1).length +
               (List.map (fun v11=>UInt8.ofNat v11.toNat)
                 [IntKind.u8.wrap (↑(List.length a2.1):Int),IntKind.u8.wrap (↑(List.length a2.2):Int)]).length ≤
              (4611686018427387904:Nat)) then
           (a9g
              (((),
                [((0:Int),
                  v6.1++v8.1++v10.1 ++
                   List.map (fun DM=>UInt8.ofNat DM.toNat)
                    [IntKind.u8.wrap (↑(List.length a2.1):Int),IntKind.u8.wrap (↑(List.length a2.2):Int)])],
                a1.2.2,(↑(List.length a1.2.2):Int),(0:Int),()),
               (a2,()),())).bind
            fun pX=>
            Sum.elim
             (fun QE=>
              (bIt [QE.2.1.1.1,QE.2.1.1.2]).bind fun v17=>
               (aUo ((QE.1.2.1,(2000000:Int),v17.1,(↑(List.length v17.1):Int),(0:Int),()),())).bind fun fL=>
                Sum.elim (fun rV=>some (rV.1.1,(0:Int),())) (fun v20=>none) fL)
             (fun v21=>none) pX
          else none
         else none
       else none
theorem bLX (x:Ps [.ty aD,.ty fT]):dA CT aIe [.list MR,I] (cB CT aIe) bE2 Tryz.f105 a9c (bQ [.ty aD,.ty fT] x)=bIv x.1 x.2.1:=by kernel_rfl
def bKh:aW:=.fn 105 [] ⟨[.ty aD,.ty fT],[.list MR,I],fun x=>bIv x.1 x.2.1,false⟩
theorem bLY:bKh.Ok CT.P:=aW.ofFn aL aBc bKf bKe a9h bLX
def bIw:Code:=Tryz.f38.body.getD .skip
theorem bKi:Tryz.f38.body=some bIw:=by kernel_rfl
theorem bKj:CT.P.funcs[38]?=some Tryz.f38:=by kernel_rfl
def bIx:Tb:=cC tyQ iM [bAk,bIf,bIm,bKh]
theorem bEf:bIx.Ok CT.P:=aQ (⟨bFI,bJW,bJ2,bLY,trivial⟩)
def bE3 {β:Type}:dK β:=fun _ _ _=>none
theorem a9i {β:Type}:aC CT (bE3 (β:=β)) (aJ bIw):=aC.is [] (by kernel_rfl) (aC.nil)
def aYw  : Option (aS [.bool]):=
 (aN4 ([],[]) ([],false,((0:Int),(0:Int)),((0:Int),(0:Int)),(1:Int),(2:Int))).bind fun v2=>
  bAj.bind fun v4=>
   (aQQ v2.1 (v4.1.1,(2:Int),v4.1.2.2)).bind fun v6=>
    (aQQ v6.1 v6.2.1).bind fun v8=>
     bAj.bind fun v10=>
      (bIv v10.1 ([],[])).bind fun v12=>
       bif v2.2.1 then
        bif v6.2.2.1==(0:Int) then
         bif(↑(List.length v6.1.2):Int)==(1:Int) then
          bif v6.2.1.2.1==(1:Int) then
           bif v8.2.2.1==(13:Int) then
            bif v12.2.1==(0:Int) then
             bif(↑(List.length v12.1):Int)==(1:Int) then
              bif decide ((0:Int)≤(0:Int)∧(0:Int)<(↑(List.length v12.1):Int)) then
               some ((↑(List.length (List.getD v12.1 (0:Nat) MR.dflt).2):Int)==(22:Int),())
              else none
             else some (false,())
            else some (false,())
           else some (false,())
          else some (false,())
         else some (false,())
        else some (false,())
       else some (false,())
theorem bLZ (x:Ps []):dA CT bIx [.bool] (cB CT bIx) bE3 Tryz.f38 bIw (bQ [] x)=aYw:=by kernel_rfl
def bKk:aW:=.fn 38 [] ⟨[],[.bool],fun x=>aYw,false⟩
theorem bL0:bKk.Ok CT.P:=aW.ofFn aL bEf bKj bKi a9i bLZ
def aAx:Code:=Tryz.f12.body.getD .skip
theorem bEk:Tryz.f12.body=some aAx:=by kernel_rfl
theorem bEm:CT.P.funcs[12]?=some Tryz.f12:=by kernel_rfl
def LC:Tb:=cC tyQ iM [bKk,bAk,bEy,a3D,aWZ,bIf,bIm,bEU]
theorem WT:LC.Ok CT.P:=aQ (⟨bL0,bFI,bJq,bDO,a3y,bJW,bJ2,bJ4,trivial⟩)
def aFE:Code:=aX aAx 28
def aFF:Code:=aX aAx 21
def aOq:Code:=aX aAx 6
abbrev kL:aF:=⟨168,[(3,.ptr 0),(4,.ptr 1),(5,.own .str 2),(39,.data (.list kY)),(40,.data I),(41,.data I)],[.var 51 [.data aD],.var 97 [.data fT],.row 9 .str],fun s=>[aG s 3,aG s 4,aG s 5]⟩
abbrev HF:aF:=⟨168,[(3,.ptr 0),(4,.ptr 1),(5,.own .str 2)],[.var 51 [.data aD],.var 97 [.data fT],.row 9 .str],fun s=>[aG s 3,aG s 4,aG s 5]⟩
abbrev HL:aF:=⟨168,[(2,.data .bool)],[],fun _=>[]⟩
def aFG:=ex 0 0 HF HL [.dJ 5 9 .str] []
def OP (r39:Ty.El (.list kY))(r40:Ty.El I)(r41:Ty.El I)(b0:Ty.El aD×Unit)(b1:Ty.El fT×Unit)(b2:List (Ty.El .str)):Option (kL.El⊕(HF.El⊕HL.El)):=
 bif decide (r41<r40) then
  bif decide ((0:Int)≤r41∧r41<(↑(List.length r39):Int)) then
   bif decide ((↑(List.length (List.getD r39 (Int.toNat r41) kY.dflt).2.2.2.2.2.2.2.2.2.2.2):Int)>(20:Int)) then
    some (Sum.inr (Sum.inr ((true,()),())))
   else
    bif decide ((List.getD r39 (Int.toNat r41) kY.dflt).2.2.2.2.2.2.2.2.2.2.1>(5:Int)) then
     bif decide ((List.getD r39 (Int.toNat r41) kY.dflt).2.2.2.2.2.2.2.2.2.2.1≤(200:Int)) then
      some (Sum.inr (Sum.inr ((true,()),())))
     else
      (aHX b0.1 (List.getD r39 (Int.toNat r41) kY.dflt)).bind fun v2=>
       bif v2.2.2.1 != (0:Int) then some (Sum.inl (((),(),(),r39,r40,IntKind.i64.wrap (r41+(1:Int)),()),(b0.1,()),(b1.1,()),b2,()))
       else
        (G9 b0.1 v2.1).bind fun v4=>
         bif !v4.2.1 then some (Sum.inl (((),(),(),r39,r40,IntKind.i64.wrap (r41+(1:Int)),()),(b0.1,()),(b1.1,()),b2,()))
         else
          (aN4 b1.1 v4.1).bind fun v6=>
           bif !v6.2.1 then some (Sum.inr (Sum.inr ((false,()),())))
           else
            (OO v2.1).bind fun v8=>
             bif((b2.length+[v8.1].length)*(16:Nat)).ble (70368744177664:Nat) then
              some (Sum.inl (((),(),(),r39,r40,IntKind.i64.wrap (r41+(1:Int)),()),(v2.1,()),(v6.1,()),b2++[v8.1],()))
             else none
    else
     (aHX b0.1 (List.getD r39 (Int.toNat r41) kY.dflt)).bind fun v10=>
      bif v10.2.2.1 != (0:Int) then some (Sum.inl (((),(),(),r39,r40,IntKind.i64.wrap (r41+(1:Int)),()),(b0.1,()),(b1.1,()),b2,()))
      else
       (G9 b0.1 v10.1).bind fun v12=>
        bif !v12.2.1 then some (Sum.inl (((),(),(),r39,r40,IntKind.i64.wrap (r41+(1:Int)),()),(b0.1,()),(b1.1,()),b2,()))
        else
         (aN4 b1.1 v12.1).bind fun pX=>
          bif !pX.2.1 then some (Sum.inr (Sum.inr ((false,()),())))
          else
           (OO v10.1).bind fun sW=>
            bif((b2.length+[sW.1].length)*(16:Nat)).ble (70368744177664:Nat) then
             some (Sum.inl (((),(),(),r39,r40,IntKind.i64.wrap (r41+(1:Int)),()),(v10.1,()),(pX.1,()),b2++[sW.1],()))
            else none
  else none
 else some (Sum.inr (Sum.inl (((),(),(),()),(b0.1,()),(b1.1,()),b2,())))
theorem a9j (x:kL.El):aV CT LC (cB CT LC) iI aOq (kL.enc x) (bG (kL.lay [.dJ 5 9 .str]) aFG)=OP x.1.2.2.2.1 x.1.2.2.2.2.1 x.1.2.2.2.2.2.1 x.2.1 x.2.2.1 x.2.2.2.1:=by kernel_rfl
def aEe:kL.El→Option (HF.El⊕HL.El):=aH (fun x=>OP x.1.2.2.2.1 x.1.2.2.2.2.1 x.1.2.2.2.2.2.1 x.2.1 x.2.2.1 x.2.2.2.1) fuel
abbrev o6:aF:=⟨168,[(3,.ptr 0),(4,.ptr 1),(5,.data (.list .str)),(15,.data I)],[.var 51 [.data aD],.var 97 [.data fT]],fun s=>[aG s 3,aG s 4]⟩
abbrev WV:aF:=⟨168,[(3,.ptr 0),(4,.ptr 1),(5,.data (.list .str))],[.var 51 [.data aD],.var 97 [.data fT]],fun s=>[aG s 3,aG s 4]⟩
abbrev WW:aF:=⟨168,[(2,.data .bool)],[],fun _=>[]⟩
def aEf:=ex 0 2 WV WW [.jX 5 (.list .str)] []
def wS (r5:Ty.El (.list .str))(jR:Ty.El I)(b0:Ty.El aD×Unit)(b1:Ty.El fT×Unit):Option (o6.El⊕(WV.El⊕WW.El)):=
 bif decide (jR≥(0:Int)) then
  (aQQ b1.1 b0.1).bind fun v2=>
   bif v2.2.2.1 != (0:Int) then some (Sum.inr (Sum.inr ((false,()),())))
   else
    (OO v2.2.1).bind fun v4=>
     bif decide ((0:Int)≤jR∧jR<(↑(List.length r5):Int)) then
      bif !v4.1==List.getD r5 (Int.toNat jR) Ty.str.dflt then some (Sum.inr (Sum.inr ((false,()),())))
      else
       bif(↑(List.length v2.1.1):Int) != jR then some (Sum.inr (Sum.inr ((false,()),())))
       else some (Sum.inl (((),(),r5,IntKind.i64.wrap (jR-(1:Int)),()),(v2.2.1,()),(v2.1,()),()))
     else none
 else some (Sum.inr (Sum.inl (((),(),r5,()),(b0.1,()),(b1.1,()),())))
theorem aYx (x:o6.El):aV CT LC (cB CT LC) iI aFF (o6.enc x) (bG (o6.lay [.jX 5 (.list .str)]) aEf)=wS x.1.2.2.1 x.1.2.2.2.1 x.2.1 x.2.2.1:=by kernel_rfl
def aAB:o6.El→Option (WV.El⊕WW.El):=aH (fun x=>wS x.1.2.2.1 x.1.2.2.2.1 x.2.1 x.2.2.1) fuel
abbrev qJ:aF:=⟨168,[(3,.ptr 0),(4,.ptr 1),(5,.data (.list .str)),(19,.data I)],[.var 51 [.data aD],.var 97 [.data fT]],fun s=>[aG s 3,aG s 4]⟩
abbrev W4:aF:=⟨168,[(3,.ptr 0),(4,.ptr 1)],[.var 51 [.data aD],.var 97 [.data fT]],fun s=>[aG s 3,aG s 4]⟩
abbrev XZ:aF:=⟨168,[(2,.data .bool)],[],fun _=>[]⟩
def aEg:=ex 0 4 W4 XZ [.jX 5 (.list .str)] []
def yX (r5:Ty.El (.list .str))(M4:Ty.El I)(b0:Ty.El aD×Unit)(b1:Ty.El fT×Unit):Option (qJ.El⊕(W4.El⊕XZ.El)):=
 bif decide (M4<(↑(List.length r5):Int)) then
  (aAK b1.1 b0.1).bind fun v2=>
   bif v2.2.2.1 != (0:Int) then some (Sum.inr (Sum.inr ((false,()),())))
   else
    (OO v2.2.1).bind fun v4=>
     bif decide ((0:Int)≤M4∧M4<(↑(List.length r5):Int)) then
      bif !v4.1==List.getD r5 (Int.toNat M4) Ty.str.dflt then some (Sum.inr (Sum.inr ((false,()),())))
      else
       bif(↑(List.length v2.1.1):Int) != M4 then some (Sum.inr (Sum.inr ((false,()),())))
       else some (Sum.inl (((),(),r5,IntKind.i64.wrap (M4+(1:Int)),()),(v2.2.1,()),(v2.1,()),()))
     else none
 else some (Sum.inr (Sum.inl (((),(),()),(b0.1,()),(b1.1,()),())))
theorem aYy (x:qJ.El):aV CT LC (cB CT LC) iI aFE (qJ.enc x) (bG (qJ.lay [.jX 5 (.list .str)]) aEg)=yX x.1.2.2.1 x.1.2.2.2.1 x.2.1 x.2.2.1:=by kernel_rfl
def aAC:qJ.El→Option (W4.El⊕XZ.El):=aH (fun x=>yX x.1.2.2.1 x.1.2.2.2.1 x.2.1 x.2.2.1) fuel
def aUp {β:Type}:dK β:=fun k s K=>if Nat.beq k 6 then bO (kL.lay [.dJ 5 9 .str]) aFG aEe s K else if Nat.beq k 21 then bO (o6.lay [.jX 5 (.list .str)]) aEf aAB s K else if Nat.beq k 28 then bO (qJ.lay [.jX 5 (.list .str)]) aEg aAC s K else none
theorem aQ1 {β:Type}:aC CT (aUp (β:=β)) (aJ aAx):=aC.is [(6,aOq),(21,aFF),(28,aFE)] (by kernel_rfl) (aC.cons (iW aL WT (bC (by kernel_rfl)) a9j rfl rfl) (aC.cons (iW aL WT (bC (by kernel_rfl)) aYx rfl rfl) (aC.cons (iW aL WT (bC (by kernel_rfl)) aYy rfl rfl) (aC.nil))))
def aIW (a1:Ty.El (.list kY)):Option (aS [.bool]):=
 bif decide ((↑(List.length a1):Int)>(16:Int)) then aYw.bind fun v2=>some (v2.1,())
 else
  aYw.bind fun v4=>
   bif !v4.1 then aYw.bind fun v6=>some (v6.1,())
   else
    bAj.bind fun v8=>
     (OO v8.1).bind fun v10=>
      (aEe (((),(),(),a1,(↑(List.length a1):Int),(0:Int),()),(v8.1,()),(([],[]),()),[v10.1],())).bind fun v11=>
       Sum.elim
        (fun v12=>
         (aAB
            (((),(),v12.2.2.2.1,IntKind.i64.wrap ((↑(List.length v12.2.2.2.1):Int)-(2:Int)),()),(v12.2.1.1,()),
             (v12.2.2.1.1,()),())).bind
          fun DM=>
          Sum.elim
           (fun pX=>
            (aAC (((),(),pX.1.2.2.1,(1:Int),()),(pX.2.1.1,()),(pX.2.2.1.1,()),())).bind fun QE=>
             Sum.elim (fun sW=>(aAK sW.2.2.1.1 sW.2.1.1).bind fun fL=>some (fL.2.2.1==(13:Int),()))
              (fun rV=>some (rV.1.1,())) QE)
           (fun v20=>some (v20.1.1,())) DM)
        (fun v21=>some (v21.1.1,())) v11
theorem bIy (x:Ps [.ty (.list kY)]):dA CT LC [.bool] (cB CT LC) aUp Tryz.f12 aAx (bQ [.ty (.list kY)] x)=aIW x.1:=by kernel_rfl
def bIz:aW:=.fn 12 [] ⟨[.ty (.list kY)],[.bool],fun x=>aIW x.1,false⟩
theorem bIA:bIz.Ok CT.P:=aW.ofFn aL WT bEm bEk aQ1 bIy
end Go.DI.S
end
