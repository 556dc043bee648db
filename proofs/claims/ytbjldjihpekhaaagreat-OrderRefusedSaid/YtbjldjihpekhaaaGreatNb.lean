import Derived.Test.YtbjldjihpekhaaaGreatTa
import Derived.Test.YtbjldjihpekhaaaGreatMd
/- Turning; a command carried out; OrderTurns: told by functions on data. No conditions. -/
set_option linter.unusedVariables false
set_option maxRecDepth 100000
set_option maxHeartbeats 0
noncomputable section
namespace Go.DI.S
open Go.Proofs
def c_len64:Code:=Tryz.f209.body.getD .skip
def T_len64:Tb:=mkTb tyT mpT []
theorem T_len64_ok:T_len64.Ok CT.P:=mkTb_ok (trivial)
def lp_len64 {β:Type}:LpT β:=fun _ _ _=>none
theorem lp_len64_ok {β:Type}:LpTOk CT (lp_len64 (β:=β)) (loopsOf c_len64):=LpTOk.is [] (by kernel_rfl) (LpTOk.nil)
def F_len64 (a1:Ty.El (.int .u64)):Option (Els [I]):=funcT CT T_len64 [I] (drT CT T_len64) lp_len64 Tryz.f209 c_len64 (encPs [.ty (.int .u64)] (a1,()))
theorem f_len64 (x:Ps [.ty (.int .u64)]):funcT CT T_len64 [I] (drT CT T_len64) lp_len64 Tryz.f209 c_len64 (encPs [.ty (.int .u64)] x)=F_len64 x.1:=rfl
def E_len64:Ent:=.fn 209 [] ⟨[.ty (.int .u64)],[I],fun x=>F_len64 x.1,false⟩
theorem e_len64:E_len64.Ok CT.P:=Ent.ofFn CT_ok T_len64_ok (by kernel_rfl) (by kernel_rfl) lp_len64_ok f_len64
def F_lz64 (a1:Ty.El (.int .u64)):Option (Els [I]):=(F_len64 a1).bind fun v2=>some (IntKind.i64.wrap ((64:Int)-v2.1),())
def E_lz64:Ent:=.fn 274 [] ⟨[.ty (.int .u64)],[I],fun x=>F_lz64 x.1,false⟩
theorem e_lz64:E_lz64.Ok CT.P:=fn0 CT_ok (tb (l:=[E_len64]) ⟨e_len64,trivial⟩) Tryz.f274 (by kernel_rfl) (by kernel_rfl) (by kernel_rfl) fun x=>by kernel_rfl
def F_mul64 (a1:Ty.El (.int .u64))(a2:Ty.El (.int .u64)):Option (Els [.int .u64,.int .u64]):=some (IntKind.u64.wrap (IntKind.u64.wrap (IntKind.u64.wrap (Int.fdiv a1 (4294967296:Int)*Int.fdiv a2 (4294967296:Int))+(IntKind.u64.wrap (IntKind.u64.wrap (Int.fdiv a1 (4294967296:Int)*bAnd IntKind.u64 a2 (4294967295:Int))+(IntKind.u64.wrap (bAnd IntKind.u64 a1 (4294967295:Int)*bAnd IntKind.u64 a2 (4294967295:Int))).fdiv (4294967296:Int))).fdiv (4294967296:Int))+(IntKind.u64.wrap (bAnd IntKind.u64 (IntKind.u64.wrap (IntKind.u64.wrap (Int.fdiv a1 (4294967296:Int)*bAnd IntKind.u64 a2 (4294967295:Int))+(IntKind.u64.wrap (bAnd IntKind.u64 a1 (4294967295:Int)*bAnd IntKind.u64 a2 (4294967295:Int))).fdiv (4294967296:Int))) (4294967295:Int)+IntKind.u64.wrap (bAnd IntKind.u64 a1 (4294967295:Int)*Int.fdiv a2 (4294967296:Int)))).fdiv (4294967296:Int)),IntKind.u64.wrap (a1*a2),())
def E_mul64:Ent:=.fn 260 [] ⟨[.ty (.int .u64),.ty (.int .u64)],[.int .u64,.int .u64],fun x=>F_mul64 x.1 x.2.1,false⟩
theorem e_mul64:E_mul64.Ok CT.P:=fn0 CT_ok (tb (l:=[]) trivial) Tryz.f260 (by kernel_rfl) (by kernel_rfl) (by kernel_rfl) fun x=>by kernel_rfl
def c_div64:Code:=Tryz.f261.body.getD .skip
def T_div64:Tb:=mkTb tyT mpT [E_lz64]
theorem T_div64_ok:T_div64.Ok CT.P:=mkTb_ok (⟨e_lz64,trivial⟩)
def l_div64_24:Code:=atLoop c_div64 24
def l_div64_17:Code:=atLoop c_div64 17
abbrev LD_div64_17:LayD:=⟨135,[(2,.data (.int .u64)),(8,.data (.int .u64)),(9,.data (.int .u64)),(10,.data (.int .u64)),(11,.data (.int .u64)),(13,.data (.int .u64)),(14,.data (.int .u64)),(15,.data (.int .u64)),(16,.data (.int .u64))],[],fun _=>[]⟩
abbrev LA_div64_17:LayD:=⟨135,[(2,.data (.int .u64)),(8,.data (.int .u64)),(9,.data (.int .u64)),(10,.data (.int .u64)),(11,.data (.int .u64)),(13,.data (.int .u64)),(14,.data (.int .u64)),(15,.data (.int .u64))],[],fun _=>[]⟩
abbrev LB_div64_17:LayD:=⟨135,[],[],fun _=>[]⟩
def EX_div64_17:Exits 0 LA_div64_17.El LB_div64_17.El:=⟨.exit 0,LA_div64_17.lay [],.ret,LB_div64_17.lay []⟩
def G_div64_17 (r2:Ty.El (.int .u64))(r8:Ty.El (.int .u64))(r9:Ty.El (.int .u64))(r10:Ty.El (.int .u64))(r11:Ty.El (.int .u64))(r13:Ty.El (.int .u64))(r14:Ty.El (.int .u64))(r15:Ty.El (.int .u64))(r16:Ty.El (.int .u64)):Option (LD_div64_17.El⊕(LA_div64_17.El⊕LB_div64_17.El)):=bif decide (r15≥(4294967296:Int)) then bif decide (IntKind.u64.wrap (r16+r9)≥(4294967296:Int)) then some (Sum.inr (Sum.inl ((r2,r8,r9,r10,r11,r13,r14,IntKind.u64.wrap (r15-(1:Int)),()),()))) else some (Sum.inl ((r2,r8,r9,r10,r11,r13,r14,IntKind.u64.wrap (r15-(1:Int)),IntKind.u64.wrap (r16+r9),()),())) else bif decide (IntKind.u64.wrap (r15*r10)>IntKind.u64.wrap (IntKind.u64.wrap ((4294967296:Int)*r16)+r13)) then bif decide (IntKind.u64.wrap (r16+r9)≥(4294967296:Int)) then some (Sum.inr (Sum.inl ((r2,r8,r9,r10,r11,r13,r14,IntKind.u64.wrap (r15-(1:Int)),()),()))) else some (Sum.inl ((r2,r8,r9,r10,r11,r13,r14,IntKind.u64.wrap (r15-(1:Int)),IntKind.u64.wrap (r16+r9),()),())) else some (Sum.inr (Sum.inl ((r2,r8,r9,r10,r11,r13,r14,r15,()),())))
theorem g_div64_17 (x:LD_div64_17.El):codeT CT T_div64 (drT CT T_div64) lp0 l_div64_17 (LD_div64_17.enc x) (bodyK (LD_div64_17.lay []) EX_div64_17)=G_div64_17 x.1.1 x.1.2.1 x.1.2.2.1 x.1.2.2.2.1 x.1.2.2.2.2.1 x.1.2.2.2.2.2.1 x.1.2.2.2.2.2.2.1 x.1.2.2.2.2.2.2.2.1 x.1.2.2.2.2.2.2.2.2.1:=by kernel_rfl
def R_div64_17:LD_div64_17.El→Option (LA_div64_17.El⊕LB_div64_17.El):=roundsT (fun x=>G_div64_17 x.1.1 x.1.2.1 x.1.2.2.1 x.1.2.2.2.1 x.1.2.2.2.2.1 x.1.2.2.2.2.2.1 x.1.2.2.2.2.2.2.1 x.1.2.2.2.2.2.2.2.1 x.1.2.2.2.2.2.2.2.2.1) fuel
abbrev LD_div64_24:LayD:=⟨135,[(2,.data (.int .u64)),(8,.data (.int .u64)),(9,.data (.int .u64)),(10,.data (.int .u64)),(14,.data (.int .u64)),(15,.data (.int .u64)),(16,.data (.int .u64)),(17,.data (.int .u64)),(18,.data (.int .u64))],[],fun _=>[]⟩
abbrev LA_div64_24:LayD:=⟨135,[(2,.data (.int .u64)),(8,.data (.int .u64)),(14,.data (.int .u64)),(15,.data (.int .u64)),(17,.data (.int .u64)),(18,.data (.int .u64))],[],fun _=>[]⟩
abbrev LB_div64_24:LayD:=⟨135,[],[],fun _=>[]⟩
def EX_div64_24:Exits 0 LA_div64_24.El LB_div64_24.El:=⟨.exit 2,LA_div64_24.lay [],.ret,LB_div64_24.lay []⟩
def G_div64_24 (r2:Ty.El (.int .u64))(r8:Ty.El (.int .u64))(r9:Ty.El (.int .u64))(r10:Ty.El (.int .u64))(r14:Ty.El (.int .u64))(r15:Ty.El (.int .u64))(r16:Ty.El (.int .u64))(r17:Ty.El (.int .u64))(r18:Ty.El (.int .u64)):Option (LD_div64_24.El⊕(LA_div64_24.El⊕LB_div64_24.El)):=bif decide (r18≥(4294967296:Int)) then bif decide (IntKind.u64.wrap (r16+r9)≥(4294967296:Int)) then some (Sum.inr (Sum.inl ((r2,r8,r14,r15,r17,IntKind.u64.wrap (r18-(1:Int)),()),()))) else some (Sum.inl ((r2,r8,r9,r10,r14,r15,IntKind.u64.wrap (r16+r9),r17,IntKind.u64.wrap (r18-(1:Int)),()),())) else bif decide (IntKind.u64.wrap (r18*r10)>IntKind.u64.wrap (IntKind.u64.wrap ((4294967296:Int)*r16)+r14)) then bif decide (IntKind.u64.wrap (r16+r9)≥(4294967296:Int)) then some (Sum.inr (Sum.inl ((r2,r8,r14,r15,r17,IntKind.u64.wrap (r18-(1:Int)),()),()))) else some (Sum.inl ((r2,r8,r9,r10,r14,r15,IntKind.u64.wrap (r16+r9),r17,IntKind.u64.wrap (r18-(1:Int)),()),())) else some (Sum.inr (Sum.inl ((r2,r8,r14,r15,r17,r18,()),())))
theorem g_div64_24 (x:LD_div64_24.El):codeT CT T_div64 (drT CT T_div64) lp0 l_div64_24 (LD_div64_24.enc x) (bodyK (LD_div64_24.lay []) EX_div64_24)=G_div64_24 x.1.1 x.1.2.1 x.1.2.2.1 x.1.2.2.2.1 x.1.2.2.2.2.1 x.1.2.2.2.2.2.1 x.1.2.2.2.2.2.2.1 x.1.2.2.2.2.2.2.2.1 x.1.2.2.2.2.2.2.2.2.1:=by kernel_rfl
def R_div64_24:LD_div64_24.El→Option (LA_div64_24.El⊕LB_div64_24.El):=roundsT (fun x=>G_div64_24 x.1.1 x.1.2.1 x.1.2.2.1 x.1.2.2.2.1 x.1.2.2.2.2.1 x.1.2.2.2.2.2.1 x.1.2.2.2.2.2.2.1 x.1.2.2.2.2.2.2.2.1 x.1.2.2.2.2.2.2.2.2.1) fuel
def lp_div64 {β:Type}:LpT β:=fun k s K=>if Nat.beq k 17 then lpOne (LD_div64_17.lay []) EX_div64_17 R_div64_17 s K else if Nat.beq k 24 then lpOne (LD_div64_24.lay []) EX_div64_24 R_div64_24 s K else none
theorem lp_div64_ok {β:Type}:LpTOk CT (lp_div64 (β:=β)) (loopsOf c_div64):=LpTOk.is [(17,l_div64_17),(24,l_div64_24)] (by kernel_rfl) (LpTOk.cons (fun s K z h=>lpG CT_ok T_div64_ok (lp0_ok (by kernel_rfl)) (L:=LD_div64_17.lay []) (E:=EX_div64_17) g_div64_17 rfl rfl rfl rfl h) (LpTOk.cons (fun s K z h=>lpG CT_ok T_div64_ok (lp0_ok (by kernel_rfl)) (L:=LD_div64_24.lay []) (E:=EX_div64_24) g_div64_24 rfl rfl rfl rfl h) (LpTOk.nil)))
def F_div64 (a1:Ty.El (.int .u64))(a2:Ty.El (.int .u64))(a3:Ty.El (.int .u64)):Option (Els [.int .u64,.int .u64]):=bif a3==(0:Int) then none else bif decide (a3≤a1) then none else bif a1==(0:Int) then bif decide (a3=(0:Int)) then none else bif decide (a3=(0:Int)) then none else some (IntKind.u64.wrap (Int.tdiv a2 a3),Int.tmod a2 a3,()) else(F_lz64 a3).bind fun v2=>bif decide (IntKind.u64.wrap v2.1<(0:Int)) then none else bif decide (IntKind.u64.wrap v2.1<(0:Int)) then none else bif decide (IntKind.u64.wrap ((64:Int)-IntKind.u64.wrap v2.1)<(0:Int)) then none else bif decide (IntKind.u64.wrap v2.1<(0:Int)) then none else bif decide ((IntKind.u64.wrap (a3*(2:Int)^Min.min (IntKind.u64.wrap v2.1).toNat (64:Nat))).fdiv (4294967296:Int)=(0:Int)) then none else(R_div64_17 ((IntKind.u64.wrap (a3*(2:Int)^Min.min (IntKind.u64.wrap v2.1).toNat (64:Nat)),IntKind.u64.wrap v2.1,(IntKind.u64.wrap (a3*(2:Int)^Min.min (IntKind.u64.wrap v2.1).toNat (64:Nat))).fdiv (4294967296:Int),bAnd IntKind.u64 (IntKind.u64.wrap (a3*(2:Int)^Min.min (IntKind.u64.wrap v2.1).toNat (64:Nat))) (4294967295:Int),bOr IntKind.u64 (IntKind.u64.wrap (a1*(2:Int)^Min.min (IntKind.u64.wrap v2.1).toNat (64:Nat))) (Int.fdiv a2 ((2:Int)^Min.min (IntKind.u64.wrap ((64:Int)-IntKind.u64.wrap v2.1)).toNat (64:Nat))),(IntKind.u64.wrap (a2*(2:Int)^Min.min (IntKind.u64.wrap v2.1).toNat (64:Nat))).fdiv (4294967296:Int),bAnd IntKind.u64 (IntKind.u64.wrap (a2*(2:Int)^Min.min (IntKind.u64.wrap v2.1).toNat (64:Nat))) (4294967295:Int),IntKind.u64.wrap ((bOr IntKind.u64 (IntKind.u64.wrap (a1*(2:Int)^Min.min (IntKind.u64.wrap v2.1).toNat (64:Nat))) (Int.fdiv a2 ((2:Int)^Min.min (IntKind.u64.wrap ((64:Int)-IntKind.u64.wrap v2.1)).toNat (64:Nat)))).tdiv ((IntKind.u64.wrap (a3*(2:Int)^Min.min (IntKind.u64.wrap v2.1).toNat (64:Nat))).fdiv (4294967296:Int))),IntKind.u64.wrap (bOr IntKind.u64 (IntKind.u64.wrap (a1*(2:Int)^Min.min (IntKind.u64.wrap v2.1).toNat (64:Nat))) (Int.fdiv a2 ((2:Int)^Min.min (IntKind.u64.wrap ((64:Int)-IntKind.u64.wrap v2.1)).toNat (64:Nat)))-IntKind.u64.wrap (IntKind.u64.wrap ((bOr IntKind.u64 (IntKind.u64.wrap (a1*(2:Int)^Min.min (IntKind.u64.wrap v2.1).toNat (64:Nat))) (Int.fdiv a2 ((2:Int)^Min.min (IntKind.u64.wrap ((64:Int)-IntKind.u64.wrap v2.1)).toNat (64:Nat)))).tdiv ((IntKind.u64.wrap (a3*(2:Int)^Min.min (IntKind.u64.wrap v2.1).toNat (64:Nat))).fdiv (4294967296:Int)))*(IntKind.u64.wrap (a3*(2:Int)^Min.min (IntKind.u64.wrap v2.1).toNat (64:Nat))).fdiv (4294967296:Int))),()),())).bind fun v3=>Sum.elim (fun v4=>bif decide (v4.1.2.2.1=(0:Int)) then none else(R_div64_24 ((v4.1.1,v4.1.2.1,v4.1.2.2.1,v4.1.2.2.2.1,v4.1.2.2.2.2.2.2.1,v4.1.2.2.2.2.2.2.2.1,IntKind.u64.wrap (IntKind.u64.wrap (IntKind.u64.wrap (IntKind.u64.wrap (v4.1.2.2.2.2.1*(4294967296:Int))+v4.1.2.2.2.2.2.1)-IntKind.u64.wrap (v4.1.2.2.2.2.2.2.2.1*v4.1.1))-IntKind.u64.wrap (IntKind.u64.wrap ((IntKind.u64.wrap (IntKind.u64.wrap (IntKind.u64.wrap (v4.1.2.2.2.2.1*(4294967296:Int))+v4.1.2.2.2.2.2.1)-IntKind.u64.wrap (v4.1.2.2.2.2.2.2.2.1*v4.1.1))).tdiv v4.1.2.2.1)*v4.1.2.2.1)),IntKind.u64.wrap (IntKind.u64.wrap (IntKind.u64.wrap (v4.1.2.2.2.2.1*(4294967296:Int))+v4.1.2.2.2.2.2.1)-IntKind.u64.wrap (v4.1.2.2.2.2.2.2.2.1*v4.1.1)),IntKind.u64.wrap ((IntKind.u64.wrap (IntKind.u64.wrap (IntKind.u64.wrap (v4.1.2.2.2.2.1*(4294967296:Int))+v4.1.2.2.2.2.2.1)-IntKind.u64.wrap (v4.1.2.2.2.2.2.2.2.1*v4.1.1))).tdiv v4.1.2.2.1),()),())).bind fun v5=>Sum.elim (fun v6=>bif decide (v6.1.2.1<(0:Int)) then none else some (IntKind.u64.wrap (IntKind.u64.wrap (v6.1.2.2.2.1*(4294967296:Int))+v6.1.2.2.2.2.2.1),(IntKind.u64.wrap (IntKind.u64.wrap (IntKind.u64.wrap (v6.1.2.2.2.2.1*(4294967296:Int))+v6.1.2.2.1)-IntKind.u64.wrap (v6.1.2.2.2.2.2.1*v6.1.1))).fdiv ((2:Int)^Min.min (Int.toNat v6.1.2.1) (64:Nat)),())) (fun v7=>none) v5) (fun v8=>none) v3
theorem f_div64 (x:Ps [.ty (.int .u64),.ty (.int .u64),.ty (.int .u64)]):funcT CT T_div64 [.int .u64,.int .u64] (drT CT T_div64) lp_div64 Tryz.f261 c_div64 (encPs [.ty (.int .u64),.ty (.int .u64),.ty (.int .u64)] x)=F_div64 x.1 x.2.1 x.2.2.1:=by kernel_rfl
def E_div64:Ent:=.fn 261 [] ⟨[.ty (.int .u64),.ty (.int .u64),.ty (.int .u64)],[.int .u64,.int .u64],fun x=>F_div64 x.1 x.2.1 x.2.2.1,false⟩
theorem e_div64:E_div64.Ok CT.P:=Ent.ofFn CT_ok T_div64_ok (by kernel_rfl) (by kernel_rfl) lp_div64_ok f_div64
def F_parts (a1:Ty.El I):Option (Els [.bool,.int .u64]):=bif decide (a1<(0:Int)) then some (true,IntKind.u64.wrap ((0:Int)-IntKind.u64.wrap a1),()) else some (false,IntKind.u64.wrap a1,())
def E_parts:Ent:=.fn 262 [] ⟨[.ty I],[.bool,.int .u64],fun x=>F_parts x.1,false⟩
theorem e_parts:E_parts.Ok CT.P:=fn0 CT_ok (tb (l:=[]) trivial) Tryz.f262 (by kernel_rfl) (by kernel_rfl) (by kernel_rfl) fun x=>by kernel_rfl
def F_whole (a1:Ty.El .bool)(a2:Ty.El (.int .u64)):Option (Els [I,I]):=bif a1 then bif decide (a2≤(9223372036854775808:Int)) then some (IntKind.i64.wrap (IntKind.u64.wrap ((0:Int)-a2)),(0:Int),()) else bif !a1 then bif decide (a2<(9223372036854775808:Int)) then some (IntKind.i64.wrap a2,(0:Int),()) else some ((0:Int),(3:Int),()) else some ((0:Int),(3:Int),()) else bif !a1 then bif decide (a2<(9223372036854775808:Int)) then some (IntKind.i64.wrap a2,(0:Int),()) else some ((0:Int),(3:Int),()) else some ((0:Int),(3:Int),())
def E_whole:Ent:=.fn 263 [] ⟨[.ty .bool,.ty (.int .u64)],[I,I],fun x=>F_whole x.1 x.2.1,false⟩
theorem e_whole:E_whole.Ok CT.P:=fn0 CT_ok (tb (l:=[]) trivial) Tryz.f263 (by kernel_rfl) (by kernel_rfl) (by kernel_rfl) fun x=>by kernel_rfl
def F_fmul (a1:Ty.El I)(a2:Ty.El I):Option (Els [I,I]):=(F_parts a1).bind fun v2=>(F_parts a2).bind fun v4=>(F_mul64 v2.2.1 v4.2.1).bind fun v6=>bif decide (v6.1≥(4294967296:Int)) then some ((0:Int),(3:Int),()) else(F_whole (!v2.1==v4.1) (bOr IntKind.u64 (IntKind.u64.wrap (v6.1*(4294967296:Int))) (Int.fdiv v6.2.1 (4294967296:Int)))).bind fun v8=>some (v8.1,v8.2.1,())
def E_fmul:Ent:=.fn 234 [] ⟨[.ty I,.ty I],[I,I],fun x=>F_fmul x.1 x.2.1,false⟩
theorem e_fmul:E_fmul.Ok CT.P:=fn0 CT_ok (tb (l:=[E_mul64,E_parts,E_whole]) ⟨e_mul64,e_parts,e_whole,trivial⟩) Tryz.f234 (by kernel_rfl) (by kernel_rfl) (by kernel_rfl) fun x=>by kernel_rfl
def F_fsub (a1:Ty.El I)(a2:Ty.El I):Option (Els [I,I]):=bif !decide (a1<(0:Int))==decide (a2<(0:Int)) then bif !decide (IntKind.i64.wrap (a1-a2)<(0:Int))==decide (a1<(0:Int)) then some ((0:Int),(3:Int),()) else some (IntKind.i64.wrap (a1-a2),(0:Int),()) else some (IntKind.i64.wrap (a1-a2),(0:Int),())
def E_fsub:Ent:=.fn 235 [] ⟨[.ty I,.ty I],[I,I],fun x=>F_fsub x.1 x.2.1,false⟩
theorem e_fsub:E_fsub.Ok CT.P:=fn0 CT_ok (tb (l:=[]) trivial) Tryz.f235 (by kernel_rfl) (by kernel_rfl) (by kernel_rfl) fun x=>by kernel_rfl
def F_norm (a1:Ty.El I):Option (Els [I]):=some ((IntKind.i64.wrap (Int.tmod a1 (65536:Int)+(65536:Int))).tmod (65536:Int),())
def E_norm:Ent:=.fn 259 [] ⟨[.ty I],[I],fun x=>F_norm x.1,false⟩
theorem e_norm:E_norm.Ok CT.P:=fn0 CT_ok (tb (l:=[]) trivial) Tryz.f259 (by kernel_rfl) (by kernel_rfl) (by kernel_rfl) fun x=>by kernel_rfl
def c_sin:Code:=Tryz.f232.body.getD .skip
theorem hb_sin:Tryz.f232.body=some c_sin:=by kernel_rfl
theorem hf_sin:CT.P.funcs[232]?=some Tryz.f232:=by kernel_rfl
abbrev FT_sin:=(Ty.El I)→Option (Els [I])
def E_sinx (f:FT_sin):Ent:=.fn 232 [] ⟨[.ty I],[I],fun x=>f x.1,false⟩
def T_sin (f:FT_sin):Tb:=mkTb tyT mpT [E_norm,(E_sinx f),E_mul64,E_div64]
theorem T_sin_ok {f:FT_sin}(hf:(E_sinx f).Ok CT.P):(T_sin f).Ok CT.P:=mkTb_ok (⟨e_norm,hf,e_mul64,e_div64,trivial⟩)
def lp_sin (f:FT_sin){β:Type}:LpT β:=fun _ _ _=>none
theorem lp_sin_ok {f:FT_sin}(hf:(E_sinx f).Ok CT.P){β:Type}:LpTOk CT (lp_sin f (β:=β)) (loopsOf c_sin):=by
 have h:loopsOf c_sin=[]:=by kernel_rfl
 rw [h]
 exact LpTOk.nil
def F_sinb (f:FT_sin)(a1:Ty.El I):Option (Els [I]):=(F_norm a1).bind fun v2=>bif decide (v2.1>(32768:Int)) then(f (IntKind.i64.wrap (v2.1-(32768:Int)))).bind fun v4=>some (IntKind.i64.wrap ((0:Int)-v4.1),()) else(F_mul64 (IntKind.u64.wrap ((16:Int)*IntKind.u64.wrap (IntKind.i64.wrap (v2.1*IntKind.i64.wrap ((32768:Int)-v2.1))))) (4294967296:Int)).bind fun v6=>(F_div64 v6.1 v6.2.1 (IntKind.u64.wrap ((5368709120:Int)-IntKind.u64.wrap ((4:Int)*IntKind.u64.wrap (IntKind.i64.wrap (v2.1*IntKind.i64.wrap ((32768:Int)-v2.1))))))).bind fun v8=>some (IntKind.i64.wrap v8.1,())
theorem f_sin (f:FT_sin)(x:Ps [.ty I]):funcT CT (T_sin f) [I] (drT CT (T_sin f)) (lp_sin f) Tryz.f232 c_sin (encPs [.ty I] x)=F_sinb f x.1:=by kernel_rfl
def F_sinn:Nat→FT_sin
 | 0,_=>none
 | n+1,a1=>F_sinb (F_sinn n) a1
def F_sin:FT_sin:=F_sinn 3
theorem e_sinn:∀ n,(E_sinx (F_sinn n)).Ok CT.P
 | 0=>fun x y h=>by cases h
 | n+1=>Ent.ofFn CT_ok (T_sin_ok (e_sinn n)) hf_sin hb_sin (lp_sin_ok (e_sinn n)) (f_sin (F_sinn n))
def E_sin:Ent:=E_sinx F_sin
theorem e_sin:E_sin.Ok CT.P:=e_sinn 3
def F_cos (a1:Ty.El I):Option (Els [I]):=(F_norm a1).bind fun v2=>(F_sin (IntKind.i64.wrap (v2.1+(16384:Int)))).bind fun v4=>some (v4.1,())
def E_cos:Ent:=.fn 233 [] ⟨[.ty I],[I],fun x=>F_cos x.1,false⟩
theorem e_cos:E_cos.Ok CT.P:=fn0 CT_ok (tb (l:=[E_norm,E_sin]) ⟨e_norm,e_sin,trivial⟩) Tryz.f233 (by kernel_rfl) (by kernel_rfl) (by kernel_rfl) fun x=>by kernel_rfl
abbrev IN_ask:LayD:=⟨3,[(0,.data I),(1,.data I),(2,.ptr 0)],[.var 56 [.data I]],fun s=>[slotR s 2]⟩
abbrev OUT_ask:LayD:=⟨1,[(0,.data I)],[.var 56 [.data I]],fun _=>[0]⟩
def F_ask (a0:Ty.El I)(a1:Ty.El I)(b0:Ty.El I×Unit):Option OUT_ask.El:=bif b0.1==(0:Int) then some ((a0,()),(a1,()),()) else some ((a0,()),(b0.1,()),())
def E_ask:Ent:=.mkGen 231 [] ⟨1,[],IN_ask,OUT_ask,fun x=>F_ask x.1.1 x.1.2.1 x.2.1⟩
theorem e_ask:E_ask.Ok CT.P:=gen0 (C:=(CTp 1)) (CTp_ok 1) (tb (l:=[]) trivial) [] Tryz.f231 (by kernel_rfl) (by kernel_rfl) (by kernel_rfl) fun x=>by kernel_rfl
def F_rot (a1:Ty.El I)(a2:Ty.El I)(a3:Ty.El I):Option (Els [I,I,I]):=(F_sin a3).bind fun v2=>(F_cos a3).bind fun v4=>(F_fmul a1 v4.1).bind fun v6=>(F_ask v6.1 v6.2.1 ((0:Int),())).bind fun v8=>(F_fmul a2 v2.1).bind fun v10=>(F_ask v10.1 v10.2.1 (v8.2.1.1,())).bind fun v14=>(F_fsub v8.1.1 v14.1.1).bind fun v20=>(F_ask v20.1 v20.2.1 (v14.2.1.1,())).bind fun v24=>(F_fmul a1 v2.1).bind fun v26=>(F_ask v26.1 v26.2.1 (v24.2.1.1,())).bind fun v30=>(F_fmul a2 v4.1).bind fun v32=>(F_ask v32.1 v32.2.1 (v30.2.1.1,())).bind fun v36=>(F_162 v30.1.1 v36.1.1).bind fun v42=>(F_ask v42.1 v42.2.1 (v36.2.1.1,())).bind fun v46=>bif v46.2.1.1 != (0:Int) then some ((0:Int),(0:Int),v46.2.1.1,()) else some (v24.1.1,v46.1.1,(0:Int),())
def E_rot:Ent:=.fn 191 [] ⟨[.ty I,.ty I,.ty I],[I,I,I],fun x=>F_rot x.1 x.2.1 x.2.2.1,false⟩
theorem e_rot:E_rot.Ok CT.P:=fn0 CT_ok (tb (l:=[E_sin,E_cos,E_fmul,E_fsub,E_162,E_ask]) ⟨e_sin,e_cos,e_fmul,e_fsub,e_162,e_ask,trivial⟩) Tryz.f191 (by kernel_rfl) (by kernel_rfl) (by kernel_rfl) fun x=>by kernel_rfl
def F_turn (a1:Ty.El tWorker)(a2:Ty.El tVec):Option (Els [tVec]⊕Int):=(F_rot a2.1 a2.2 a1.2.1.2.2.2.2.2.2.2.2.2.1).bind fun v2=>bif v2.2.2.1 != (0:Int) then some (Sum.inr (3:Int)) else some (Sum.inl ((v2.1,v2.2.1),()))
def E_turn:Ent:=.mkFnP 141 [] ⟨239,[.roa tWorker,.ty tVec],[tVec],fun x=>F_turn x.1 x.2.1,false⟩
theorem e_turn:E_turn.Ok CT.P:=fnP0 CT_ok (tb (l:=[E_rot]) ⟨e_rot,trivial⟩) Tryz.f141 (by kernel_rfl) (by kernel_rfl) (by kernel_rfl) fun x=>by kernel_rfl
end Go.DI.S
end
