import Derived.Test.YtbjldjihpekhaaaGreatSa
import Derived.Test.YtbjldjihpekhaaaGreatDid
import Derived.Test.YtbjldjihpekhaaaGreatDie
/- The functions of scenes, each told by a function on data; slices.Clone. No conditions. -/
set_option linter.unusedVariables false
set_option maxRecDepth 100000
set_option maxHeartbeats 0
noncomputable section
namespace Go.DI.S
open Go.Proofs
def restOf:Code→Code
 | .seq _ (.seq _ r)=>r
 | c=>c
def partA:Code→Nat×Array Oper
 | .seq (.region i o _) _=>(i,o)
 | _=>(0,#[])
def partB:Code→Nat×Array Oper
 | .seq _ (.seq (.seq (.region i o _) _) _)=>(i,o)
 | _=>(0,#[])
def partC:Code→Nat×Array Oper
 | .seq _ (.seq (.seq _ (.cond _ (.seq (.region i o _) _) _)) _)=>(i,o)
 | _=>(0,#[])
def T_0:Tb:=mkTb tyT mpT []
theorem T_0_ok:T_0.Ok CT.P:=mkTb_ok trivial
def c_46:Code:=Tryz.f94.body.getD .skip
theorem hb_46:Tryz.f94.body=some c_46:=by kernel_rfl
theorem hf_46:CT.P.funcs[94]?=some Tryz.f94:=by kernel_rfl
def k_46:CloneCode CT Tryz.f94 c_46 23 where
 i0:=(partA c_46).1
 i1:=(partB c_46).1
 i2:=(partC c_46).1
 ops0:=(partA c_46).2
 ops1:=(partB c_46).2
 ops2:=(partC c_46).2
 rest:=restOf c_46
 code:=by kernel_rfl
 s0:=by kernel_rfl
 s1:=by kernel_rfl
 s2:=by kernel_rfl
 o00:=((partA c_46).2[0]?).getD default
 o10:=((partB c_46).2[0]?).getD default
 o11:=((partB c_46).2[1]?).getD default
 o20:=((partC c_46).2[0]?).getD default
 h00:=by kernel_rfl
 h10:=by kernel_rfl
 h11:=by kernel_rfl
 h20:=by kernel_rfl
 g00:=⟨by kernel_rfl,by kernel_rfl,by kernel_rfl⟩
 g10:=⟨by kernel_rfl,by kernel_rfl,by kernel_rfl⟩
 g11:=⟨by kernel_rfl,by kernel_rfl,by kernel_rfl⟩
 g20:=⟨by kernel_rfl,by kernel_rfl,by kernel_rfl⟩
 nt:=by kernel_rfl
 res:=by kernel_rfl
def O_46 (l:List Int):Option (List Int):=bif Nat.ble (l.length*8) 70368744177664 then some l else none
theorem f_46 (l:List (Ty.El I)):codeT CT T_0 (drT CT T_0) (fun _ _ _=>none) (restOf c_46) ⟨[.lst I l,.any,.nils,.any,.bool false,.any,.any,.any],[]⟩ (retO CT 3 I [.tmp 2])=O_46 l:=by kernel_rfl
def F_46 (a1:Ty.El (.list I)):Option (Els [.list I]):=(O_46 a1).map fun l=>(l,())
def E_46:Ent:=.fn 94 [] ⟨[.ty (.list I)],[.list I],fun x=>F_46 x.1,false⟩
theorem und_30:CT.P.underlying 23=some (.slice 3):=by kernel_rfl
theorem lo_46:loopsOf (restOf c_46)=[]:=by kernel_rfl
theorem e_46:E_46.Ok CT.P:=by
 intro x y h
 have h:F_46 x.1=some y:=h
 unfold F_46 at h
 obtain⟨l,hl,rfl⟩:=Option.map_eq_some_iff.1 h
 have h1:=clone_own (e:=3) (bt:=3) CT_ok T_0_ok hf_46 hb_46 k_46 und_30 lo_46 (l:=x.1) (y:=l) ((f_46 x.1).trans hl) (fun h0=>by
  rw [h0] at hl
  exact(Option.some.inj hl).symm)
 exact h1.ownFreeze
def c_90:Code:=Tryz.f190.body.getD .skip
theorem hb_90:Tryz.f190.body=some c_90:=by kernel_rfl
theorem hf_90:CT.P.funcs[190]?=some Tryz.f190:=by kernel_rfl
def k_90:CloneCode CT Tryz.f190 c_90 49 where
 i0:=(partA c_90).1
 i1:=(partB c_90).1
 i2:=(partC c_90).1
 ops0:=(partA c_90).2
 ops1:=(partB c_90).2
 ops2:=(partC c_90).2
 rest:=restOf c_90
 code:=by kernel_rfl
 s0:=by kernel_rfl
 s1:=by kernel_rfl
 s2:=by kernel_rfl
 o00:=((partA c_90).2[0]?).getD default
 o10:=((partB c_90).2[0]?).getD default
 o11:=((partB c_90).2[1]?).getD default
 o20:=((partC c_90).2[0]?).getD default
 h00:=by kernel_rfl
 h10:=by kernel_rfl
 h11:=by kernel_rfl
 h20:=by kernel_rfl
 g00:=⟨by kernel_rfl,by kernel_rfl,by kernel_rfl⟩
 g10:=⟨by kernel_rfl,by kernel_rfl,by kernel_rfl⟩
 g11:=⟨by kernel_rfl,by kernel_rfl,by kernel_rfl⟩
 g20:=⟨by kernel_rfl,by kernel_rfl,by kernel_rfl⟩
 nt:=by kernel_rfl
 res:=by kernel_rfl
def F_90 (a1:Ty.El (.list tThing)):Option (List (Ty.El tThing)):=bif Nat.ble (List.length a1*128) 70368744177664 then some a1 else none
theorem f_90 (l:List (Ty.El tThing)):codeT CT T_0 (drT CT T_0) (fun _ _ _=>none) (restOf c_90) ⟨[.lst tThing l,.any,.nils,.any,.bool false,.any,.any,.any],[]⟩ (retO CT 68 tThing [.tmp 2])=F_90 l:=by kernel_rfl
def E_90:Ent:=.own 190 [] ⟨[.ty (.list tThing)],68,tThing,fun x=>F_90 x.1⟩
theorem und_34:CT.P.underlying 49=some (.slice 68):=by kernel_rfl
theorem lo_90:loopsOf (restOf c_90)=[]:=by kernel_rfl
theorem e_90:E_90.Ok CT.P:=by
 intro x y h
 have h:F_90 x.1=some y:=h
 exact clone_own (e:=68) (bt:=68) CT_ok T_0_ok hf_90 hb_90 k_90 und_34 lo_90 (l:=x.1) (y:=y) ((f_90 x.1).trans h) (fun h0=>by
  rw [h0] at h
  exact(Option.some.inj h).symm)
def c_47:Code:=Tryz.f219.body.getD .skip
def T_47:Tb:=mkTb tyT mpT [E_90,E_46]
theorem T_47_ok:T_47.Ok CT.P:=mkTb_ok (⟨e_90,e_46,trivial⟩)
def l_47_3:Code:=atLoop c_47 3
abbrev LD_47_3:LayD:=⟨23,[(0,.own tThing 0),(7,.own tThing 0),(8,.data I),(9,.data I)],[.row 68 tThing],fun s=>[slotR s 0]⟩
abbrev LA_47_3:LayD:=⟨23,[(0,.own tThing 0)],[.row 68 tThing],fun s=>[slotR s 0]⟩
abbrev LB_47_3:LayD:=⟨23,[],[],fun _=>[]⟩
def EX_47_3:Exits 0 LA_47_3.El LB_47_3.El:=⟨.exit 0,LA_47_3.lay [],.ret,LB_47_3.lay []⟩
def G_47_3 (r8:Ty.El I)(r9:Ty.El I)(b0:List (Ty.El tThing)):Option (LD_47_3.El⊕(LA_47_3.El⊕LB_47_3.El)):=bif decide (r9<r8) then bif decide ((0:Int)≤r9∧r9<↑b0.length) then(F_46 (b0.getD (Int.toNat r9) tThing.dflt).2.2.2.2).bind fun v3=>bif decide ((0:Int)≤r9∧r9<↑b0.length) then some (Sum.inl (((),(),r8,IntKind.i64.wrap (r9+(1:Int)),()),b0.set (Int.toNat r9) ((b0.getD (Int.toNat r9) tThing.dflt).1,(b0.getD (Int.toNat r9) tThing.dflt).2.1,(b0.getD (Int.toNat r9) tThing.dflt).2.2.1,(b0.getD (Int.toNat r9) tThing.dflt).2.2.2.1,v3.1),())) else none else none else some (Sum.inr (Sum.inl (((),()),b0,())))
theorem g_47_3 (x:LD_47_3.El):codeT CT T_47 (drT CT T_47) lp0 l_47_3 (LD_47_3.enc x) (bodyK (LD_47_3.lay []) EX_47_3)=G_47_3 x.1.2.2.1 x.1.2.2.2.1 x.2.1:=by kernel_rfl
def R_47_3:LD_47_3.El→Option (LA_47_3.El⊕LB_47_3.El):=roundsT (fun x=>G_47_3 x.1.2.2.1 x.1.2.2.2.1 x.2.1) fuel
def lp_47 {β:Type}:LpT β:=fun k s K=>if Nat.beq k 3 then lpOne (LD_47_3.lay []) EX_47_3 R_47_3 s K else none
theorem lp_47_ok {β:Type}:LpTOk CT (lp_47 (β:=β)) (loopsOf c_47):=LpTOk.is [(3,l_47_3)] (by kernel_rfl) (LpTOk.cons (fun s K z h=>lpG CT_ok T_47_ok (lp0_ok (by kernel_rfl)) (L:=LD_47_3.lay []) (E:=EX_47_3) g_47_3 rfl rfl rfl rfl h) (LpTOk.nil))
def F_47 (a1:Ty.El (.list tThing)):Option (List (Ty.El tThing)):=(F_90 a1).bind fun v1=>(R_47_3 (((),(),↑v1.length,(0:Int),()),v1,())).bind fun v3=>Sum.elim (fun v4=>some v4.2.1) (fun v5=>none) v3
theorem f_47 (x:Ps [.ty (.list tThing)]):funcO CT T_47 68 tThing (drT CT T_47) lp_47 Tryz.f219 c_47 (encPs [.ty (.list tThing)] x)=F_47 x.1:=by kernel_rfl
def E_47:Ent:=.own 219 [] ⟨[.ty (.list tThing)],68,tThing,fun x=>F_47 x.1⟩
theorem e_47:E_47.Ok CT.P:=Ent.ofOwn CT_ok T_47_ok (by kernel_rfl) (by kernel_rfl) lp_47_ok f_47
def c_49:Code:=Tryz.f220.body.getD .skip
def T_49:Tb:=mkTb tyT mpT []
theorem T_49_ok:T_49.Ok CT.P:=mkTb_ok (trivial)
def lp_49 {β:Type}:LpT β:=fun _ _ _=>none
theorem lp_49_ok {β:Type}:LpTOk CT (lp_49 (β:=β)) (loopsOf c_49):=LpTOk.is [] (by kernel_rfl) (LpTOk.nil)
def F_49 (l:List (Ty.El tThing))(a1:Ty.El I)(a2:Ty.El (.list tThing)):Option (List (Ty.El tThing)):=bif decide ((0:Int)≤a1∧a1≤↑l.length) then bif ↑(List.length a2)==(0:Int) then some l else bif a1==↑l.length then bif((l.length+List.length a2)*(128:Nat)).ble (70368744177664:Nat) then some (l++a2) else none else none else none
theorem f_49 (l:List (Ty.El tThing))(x:Ps [.ty I,.ty (.list tThing)]):funcM CT T_49 68 tThing 68 tThing (drT CT T_49) lp_49 Tryz.f220 c_49 l (encPs [.ty I,.ty (.list tThing)] x)=F_49 l x.1 x.2.1:=by kernel_rfl
def E_49:Ent:=.mov 220 [] ⟨[.ty I,.ty (.list tThing)],68,tThing,68,tThing,fun l x=>F_49 l x.1 x.2.1⟩
theorem e_49:E_49.Ok CT.P:=Ent.ofMov CT_ok T_49_ok (by kernel_rfl) (by kernel_rfl) lp_49_ok f_49
def F_23 (a1:Ty.El tScene)(a2:Ty.El I):Option (Els [tThing,.bool]):=(F_55a a1.2.2 (a2,())).bind fun v1=>bif decide (v1.1<(0:Int)) then some (((0:Int),(0:Int),((0:Int),((0:Int),(0:Int)),(0:Int),((0:Int),(0:Int)),(0:Int),(0:Int)),((0:Int),(0:Int),(0:Int)),[]),false,()) else bif decide ((0:Int)≤v1.1∧v1.1<↑(List.length a1.2.2)) then(F_46 (List.getD a1.2.2 (Int.toNat v1.1) tThing.dflt).2.2.2.2).bind fun v4=>some (((List.getD a1.2.2 (Int.toNat v1.1) tThing.dflt).1,(List.getD a1.2.2 (Int.toNat v1.1) tThing.dflt).2.1,(List.getD a1.2.2 (Int.toNat v1.1) tThing.dflt).2.2.1,(List.getD a1.2.2 (Int.toNat v1.1) tThing.dflt).2.2.2.1,v4.1),true,()) else none
def E_23:Ent:=.fn 28 [] ⟨[.ty tScene,.ty I],[tThing,.bool],fun x=>F_23 x.1 x.2.1,false⟩
theorem e_23:E_23.Ok CT.P:=fn0 CT_ok (tb (l:=[E_55a,E_46]) ⟨e_55a,e_46,trivial⟩) Tryz.f28 (by kernel_rfl) (by kernel_rfl) (by kernel_rfl) fun x=>by kernel_rfl
def E_23h:Ent:=.fn 28 [] ⟨[.ty tScene,.ty I],[tThing,.bool],fun x=>F_23 x.1 x.2.1,true⟩
def c_50:Code:=Tryz.f221.body.getD .skip
def T_50:Tb:=mkTb tyT mpT [E_23h,E_48]
theorem T_50_ok:T_50.Ok CT.P:=mkTb_ok (⟨e_23,e_48,trivial⟩)
def l_50_2:Code:=atLoop c_50 2
abbrev LD_50_2:LayD:=⟨56,[(2,.ptr 0),(3,.ptr 1),(14,.data (.list I)),(15,.data I),(16,.data I)],[.var 51 [.data tScene],.var 68 [.data tThing]],fun s=>[slotR s 2,slotR s 3]⟩
abbrev LA_50_2:LayD:=⟨56,[(2,.ptr 0),(3,.ptr 1)],[.var 51 [.data tScene],.var 68 [.data tThing]],fun s=>[slotR s 2,slotR s 3]⟩
abbrev LB_50_2:LayD:=⟨56,[(4,.data .bool)],[],fun _=>[]⟩
def EX_50_2:Exits 0 LA_50_2.El LB_50_2.El:=⟨.exit 0,LA_50_2.lay [],.ret,LB_50_2.lay []⟩
def G_50_2 (r14:Ty.El (.list I))(r15:Ty.El I)(r16:Ty.El I)(b0:Ty.El tScene×Unit)(b1:Ty.El tThing×Unit):Option (LD_50_2.El⊕(LA_50_2.El⊕LB_50_2.El)):=bif decide (r16<r15) then bif decide ((0:Int)≤r16∧r16<↑(List.length r14)) then(F_48 b0.1 (List.getD r14 (Int.toNat r16) (0:Int))).bind fun v3=>bif !v3.2.1 then some (Sum.inr (Sum.inr ((false,()),()))) else some (Sum.inl (((),(),r14,r15,IntKind.i64.wrap (r16+(1:Int)),()),(b0.1,()),(b1.1,()),())) else none else some (Sum.inr (Sum.inl (((),(),()),(b0.1,()),(b1.1,()),())))
theorem g_50_2 (x:LD_50_2.El):codeT CT T_50 (drT CT T_50) lp0 l_50_2 (LD_50_2.enc x) (bodyK (LD_50_2.lay []) EX_50_2)=G_50_2 x.1.2.2.1 x.1.2.2.2.1 x.1.2.2.2.2.1 x.2.1 x.2.2.1:=by kernel_rfl
def R_50_2:LD_50_2.El→Option (LA_50_2.El⊕LB_50_2.El):=roundsT (fun x=>G_50_2 x.1.2.2.1 x.1.2.2.2.1 x.1.2.2.2.2.1 x.2.1 x.2.2.1) fuel
def lp_50 {β:Type}:LpT β:=fun k s K=>if Nat.beq k 2 then lpOne (LD_50_2.lay []) EX_50_2 R_50_2 s K else none
theorem lp_50_ok {β:Type}:LpTOk CT (lp_50 (β:=β)) (loopsOf c_50):=LpTOk.is [(2,l_50_2)] (by kernel_rfl) (LpTOk.cons (fun s K z h=>lpG CT_ok T_50_ok (lp0_ok (by kernel_rfl)) (L:=LD_50_2.lay []) (E:=EX_50_2) g_50_2 rfl rfl rfl rfl h) (LpTOk.nil))
def F_50 (a1:Ty.El tScene)(a2:Ty.El tThing):Option (Els [.bool]):=(R_50_2 (((),(),a2.2.2.2.2,↑(List.length a2.2.2.2.2),(0:Int),()),(a1,()),(a2,()),())).bind fun v1=>Sum.elim (fun v2=>bif v2.2.2.1.1.2.1 != (2:Int) then some (true,()) else(F_23 v2.2.1.1 v2.2.2.1.1.2.2.2.1.1).bind fun v4=>(F_23 v2.2.1.1 v2.2.2.1.1.2.2.2.1.2.1).bind fun v5=>bif v4.1.2.1==(1:Int) then some (v5.1.2.1==(1:Int),()) else some (false,())) (fun v7=>some (v7.1.1,())) v1
theorem f_50 (x:Ps [.ty tScene,.ty tThing]):funcT CT T_50 [.bool] (drT CT T_50) lp_50 Tryz.f221 c_50 (encPs [.ty tScene,.ty tThing] x)=F_50 x.1 x.2.1:=by kernel_rfl
def E_50:Ent:=.fn 221 [] ⟨[.ty tScene,.ty tThing],[.bool],fun x=>F_50 x.1 x.2.1,false⟩
theorem e_50:E_50.Ok CT.P:=Ent.ofFn CT_ok T_50_ok (by kernel_rfl) (by kernel_rfl) lp_50_ok f_50
def c_52:Code:=Tryz.f86.body.getD .skip
def T_52:Tb:=mkTb tyT mpT [E_23h,E_48]
theorem T_52_ok:T_52.Ok CT.P:=mkTb_ok (⟨e_23,e_48,trivial⟩)
def l_52_2:Code:=atLoop c_52 2
def l_52_10:Code:=atLoop l_52_2 10
abbrev LD_52_10:LayD:=⟨64,[(1,.ptr 0),(14,.data (.list tThing)),(15,.data I),(16,.data I),(48,.data (.list I)),(49,.data I),(50,.data I)],[.var 51 [.data tScene]],fun s=>[slotR s 1]⟩
abbrev LA_52_10:LayD:=⟨64,[(1,.ptr 0),(14,.data (.list tThing)),(15,.data I),(16,.data I)],[.var 51 [.data tScene]],fun s=>[slotR s 1]⟩
abbrev LB_52_10:LayD:=⟨64,[(2,.data .bool)],[],fun _=>[]⟩
def EX_52_10:Exits 0 LA_52_10.El LB_52_10.El:=⟨.exit 2,LA_52_10.lay [],.ret,LB_52_10.lay []⟩
def G_52_10 (r14:Ty.El (.list tThing))(r15:Ty.El I)(r16:Ty.El I)(r48:Ty.El (.list I))(r49:Ty.El I)(r50:Ty.El I)(b0:Ty.El tScene×Unit):Option (LD_52_10.El⊕(LA_52_10.El⊕LB_52_10.El)):=bif decide (r50<r49) then bif decide ((0:Int)≤r50∧r50<↑(List.length r48)) then(F_48 b0.1 (List.getD r48 (Int.toNat r50) (0:Int))).bind fun v3=>bif !v3.2.1 then some (Sum.inr (Sum.inr ((false,()),()))) else some (Sum.inl (((),r14,r15,r16,r48,r49,IntKind.i64.wrap (r50+(1:Int)),()),(b0.1,()),())) else none else some (Sum.inr (Sum.inl (((),r14,r15,r16,()),(b0.1,()),())))
theorem g_52_10 (x:LD_52_10.El):codeT CT T_52 (drT CT T_52) lp0 l_52_10 (LD_52_10.enc x) (bodyK (LD_52_10.lay []) EX_52_10)=G_52_10 x.1.2.1 x.1.2.2.1 x.1.2.2.2.1 x.1.2.2.2.2.1 x.1.2.2.2.2.2.1 x.1.2.2.2.2.2.2.1 x.2.1:=by kernel_rfl
def R_52_10:LD_52_10.El→Option (LA_52_10.El⊕LB_52_10.El):=roundsT (fun x=>G_52_10 x.1.2.1 x.1.2.2.1 x.1.2.2.2.1 x.1.2.2.2.2.1 x.1.2.2.2.2.2.1 x.1.2.2.2.2.2.2.1 x.2.1) fuel
abbrev LD_52_2:LayD:=⟨64,[(1,.ptr 0),(14,.data (.list tThing)),(15,.data I),(16,.data I)],[.var 51 [.data tScene]],fun s=>[slotR s 1]⟩
abbrev LA_52_2:LayD:=⟨64,[],[],fun _=>[]⟩
abbrev LB_52_2:LayD:=⟨64,[(2,.data .bool)],[],fun _=>[]⟩
def EX_52_2:Exits 0 LA_52_2.El LB_52_2.El:=⟨.exit 0,LA_52_2.lay [],.ret,LB_52_2.lay []⟩
def lpi_52_2 {β:Type}:LpT β:=fun k s K=>if Nat.beq k 10 then lpOne (LD_52_10.lay []) EX_52_10 R_52_10 s K else none
theorem lpi_52_2_ok {β:Type}:LpTOk CT (lpi_52_2 (β:=β)) (loopsOf l_52_2):=LpTOk.is [(10,l_52_10)] (by kernel_rfl) (LpTOk.cons (fun s K z h=>lpG CT_ok T_52_ok (lp0_ok (by kernel_rfl)) (L:=LD_52_10.lay []) (E:=EX_52_10) g_52_10 rfl rfl rfl rfl h) (LpTOk.nil))
def G_52_2 (r14:Ty.El (.list tThing))(r15:Ty.El I)(r16:Ty.El I)(b0:Ty.El tScene×Unit):Option (LD_52_2.El⊕(LA_52_2.El⊕LB_52_2.El)):=bif decide (r16<r15) then bif decide ((0:Int)≤r16∧r16<↑(List.length r14)) then bif(List.getD r14 (Int.toNat r16) tThing.dflt).2.1==(2:Int) then(F_23 b0.1 (List.getD r14 (Int.toNat r16) tThing.dflt).2.2.2.1.1).bind fun v4=>(F_23 b0.1 (List.getD r14 (Int.toNat r16) tThing.dflt).2.2.2.1.2.1).bind fun v5=>bif v4.1.2.1 != (1:Int) then some (Sum.inr (Sum.inr ((false,()),()))) else bif v5.1.2.1 != (1:Int) then some (Sum.inr (Sum.inr ((false,()),()))) else(R_52_10 (((),r14,r15,r16,(List.getD r14 (Int.toNat r16) tThing.dflt).2.2.2.2,↑(List.length (List.getD r14 (Int.toNat r16) tThing.dflt).2.2.2.2),(0:Int),()),(b0.1,()),())).bind fun v8=>Sum.elim (fun v9=>some (Sum.inl (((),v9.1.2.1,v9.1.2.2.1,IntKind.i64.wrap (v9.1.2.2.2.1+(1:Int)),()),(v9.2.1.1,()),()))) (fun v10=>some (Sum.inr (Sum.inr ((v10.1.1,()),())))) v8 else(R_52_10 (((),r14,r15,r16,(List.getD r14 (Int.toNat r16) tThing.dflt).2.2.2.2,↑(List.length (List.getD r14 (Int.toNat r16) tThing.dflt).2.2.2.2),(0:Int),()),(b0.1,()),())).bind fun v11=>Sum.elim (fun v12=>some (Sum.inl (((),v12.1.2.1,v12.1.2.2.1,IntKind.i64.wrap (v12.1.2.2.2.1+(1:Int)),()),(v12.2.1.1,()),()))) (fun v13=>some (Sum.inr (Sum.inr ((v13.1.1,()),())))) v11 else none else some (Sum.inr (Sum.inl ((),())))
theorem g_52_2 (x:LD_52_2.El):codeT CT T_52 (drT CT T_52) lpi_52_2 l_52_2 (LD_52_2.enc x) (bodyK (LD_52_2.lay []) EX_52_2)=G_52_2 x.1.2.1 x.1.2.2.1 x.1.2.2.2.1 x.2.1:=by kernel_rfl
def R_52_2:LD_52_2.El→Option (LA_52_2.El⊕LB_52_2.El):=roundsT (fun x=>G_52_2 x.1.2.1 x.1.2.2.1 x.1.2.2.2.1 x.2.1) fuel
def lp_52 {β:Type}:LpT β:=fun k s K=>if Nat.beq k 2 then lpOne (LD_52_2.lay []) EX_52_2 R_52_2 s K else none
theorem lp_52_ok {β:Type}:LpTOk CT (lp_52 (β:=β)) (loopsOf c_52):=LpTOk.is [(2,l_52_2)] (by kernel_rfl) (LpTOk.cons (fun s K z h=>lpG CT_ok T_52_ok lpi_52_2_ok (L:=LD_52_2.lay []) (E:=EX_52_2) g_52_2 rfl rfl rfl rfl h) (LpTOk.nil))
def F_52 (a1:Ty.El tScene):Option (Els [.bool]):=(R_52_2 (((),a1.2.2,↑(List.length a1.2.2),(0:Int),()),(a1,()),())).bind fun v1=>Sum.elim (fun v2=>some (true,())) (fun v3=>some (v3.1.1,())) v1
theorem f_52 (x:Ps [.ty tScene]):funcT CT T_52 [.bool] (drT CT T_52) lp_52 Tryz.f86 c_52 (encPs [.ty tScene] x)=F_52 x.1:=by kernel_rfl
def E_52:Ent:=.fn 86 [] ⟨[.ty tScene],[.bool],fun x=>F_52 x.1,false⟩
theorem e_52:E_52.Ok CT.P:=Ent.ofFn CT_ok T_52_ok (by kernel_rfl) (by kernel_rfl) lp_52_ok f_52
def F_20 (a1:Ty.El tScene):Option (Els [.bool]):=(F_54 a1).bind fun v1=>bif v1.1 then(F_52 a1).bind fun v3=>bif v3.1 then(F_51 a1).bind fun v5=>bif v5.1 then(F_53 a1).bind fun v7=>some (v7.1,()) else some (false,()) else some (false,()) else some (false,())
def E_20:Ent:=.fn 24 [] ⟨[.ty tScene],[.bool],fun x=>F_20 x.1,false⟩
theorem e_20:E_20.Ok CT.P:=fn0 CT_ok (tb (l:=[E_51,E_52,E_53,E_54]) ⟨e_51,e_52,e_53,e_54,trivial⟩) Tryz.f24 (by kernel_rfl) (by kernel_rfl) (by kernel_rfl) fun x=>by kernel_rfl
end Go.DI.S
end
