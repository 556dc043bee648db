import Derived.Test.YtbjldjihpekhaaaGreatIa
import Derived.Test.YtbjldjihpekhaaaGreatSa
import Derived.Test.YtbjldjihpekhaaaGreatKa
import Derived.Shelf.Spec.SlicesGrow
import Derived.Laws.AppendOwn
/- Floats; slices.Grow at whole numbers. No conditions. -/
set_option linter.unusedSimpArgs false
set_option linter.unusedVariables false
set_option maxRecDepth 100000
set_option maxHeartbeats 0
noncomputable section
namespace Go.DI.S
open Go.Proofs
def F_abs (a1:Ty.El tF):Option (Els [tF]):=some ((bAndNot IntKind.u64 (↑a1:Int) (9223372036854775808:Int)).toNat,())
def E_abs:Ent:=.fn 97 [] ⟨[.ty tF],[tF],fun x=>F_abs x.1,false⟩
theorem e_abs:E_abs.Ok CT.P:=fn0 CT_ok (tb (l:=[E_fb,E_bf]) ⟨e_fb,e_bf,trivial⟩) Tryz.f97 (by kernel_rfl) (by kernel_rfl) (by kernel_rfl) fun x=>by kernel_rfl
def F_isnan (a1:Ty.El tF):Option (Els [.bool]):=some (fNe FloatKind.f64 a1 a1,())
def E_isnan:Ent:=.fn 33 [] ⟨[.ty tF],[.bool],fun x=>F_isnan x.1,false⟩
theorem e_isnan:E_isnan.Ok CT.P:=fn0 CT_ok (tb (l:=[]) trivial) Tryz.f33 (by kernel_rfl) (by kernel_rfl) (by kernel_rfl) fun x=>by kernel_rfl
def F_isinf (a1:Ty.El tF)(a2:Ty.El I):Option (Els [.bool]):=bif a2==(0:Int) then(F_abs a1).bind fun v2=>some (fGt FloatKind.f64 v2.1 (9218868437227405311:Nat),()) else bif decide (a2<(0:Int)) then some (fGt FloatKind.f64 (fNeg FloatKind.f64 a1) (9218868437227405311:Nat),()) else some (fGt FloatKind.f64 a1 (9218868437227405311:Nat),())
def E_isinf:Ent:=.fn 34 [] ⟨[.ty tF,.ty I],[.bool],fun x=>F_isinf x.1 x.2.1,false⟩
theorem e_isinf:E_isinf.Ok CT.P:=fn0 CT_ok (tb (l:=[E_abs]) ⟨e_abs,trivial⟩) Tryz.f34 (by kernel_rfl) (by kernel_rfl) (by kernel_rfl) fun x=>by kernel_rfl
def F_signbit (a1:Ty.El tF):Option (Els [.bool]):=some (decide (IntKind.i64.wrap (↑a1:Int)<(0:Int)),())
def E_signbit:Ent:=.fn 218 [] ⟨[.ty tF],[.bool],fun x=>F_signbit x.1,false⟩
theorem e_signbit:E_signbit.Ok CT.P:=fn0 CT_ok (tb (l:=[E_bf]) ⟨e_bf,trivial⟩) Tryz.f218 (by kernel_rfl) (by kernel_rfl) (by kernel_rfl) fun x=>by kernel_rfl
def F_copysign (a1:Ty.El tF)(a2:Ty.El tF):Option (Els [tF]):=some ((bOr IntKind.u64 (bAndNot IntKind.u64 (↑a1:Int) (9223372036854775808:Int)) (bAnd IntKind.u64 (↑a2:Int) (9223372036854775808:Int))).toNat,())
def E_copysign:Ent:=.fn 32 [] ⟨[.ty tF,.ty tF],[tF],fun x=>F_copysign x.1 x.2.1,false⟩
theorem e_copysign:E_copysign.Ok CT.P:=fn0 CT_ok (tb (l:=[E_fb,E_bf]) ⟨e_fb,e_bf,trivial⟩) Tryz.f32 (by kernel_rfl) (by kernel_rfl) (by kernel_rfl) fun x=>by kernel_rfl
def F_nan  : Option (Els [tF]):=some ((9221120237041090561:Nat),())
def E_nan:Ent:=.fn 29 [] ⟨[],[tF],fun x=>F_nan,false⟩
theorem e_nan:E_nan.Ok CT.P:=fn0 CT_ok (tb (l:=[E_fb]) ⟨e_fb,trivial⟩) Tryz.f29 (by kernel_rfl) (by kernel_rfl) (by kernel_rfl) fun x=>by kernel_rfl
def F_class (a1:Ty.El tF):Option (Els [I]):=(F_isnan a1).bind fun v2=>bif v2.1 then some ((1:Int),()) else(F_isinf a1 (1:Int)).bind fun v4=>bif v4.1 then some ((2:Int),()) else(F_isinf a1 (-1:Int)).bind fun v6=>bif v6.1 then some ((3:Int),()) else bif fEq FloatKind.f64 a1 (0:Nat) then(F_signbit a1).bind fun v8=>bif v8.1 then some ((5:Int),()) else bif fEq FloatKind.f64 a1 (0:Nat) then some ((4:Int),()) else(F_abs a1).bind fun v10=>bif fLt FloatKind.f64 v10.1 (4503599627370496:Nat) then some ((6:Int),()) else some ((7:Int),()) else bif fEq FloatKind.f64 a1 (0:Nat) then some ((4:Int),()) else(F_abs a1).bind fun v12=>bif fLt FloatKind.f64 v12.1 (4503599627370496:Nat) then some ((6:Int),()) else some ((7:Int),())
def E_class:Ent:=.fn 170 [] ⟨[.ty tF],[I],fun x=>F_class x.1,false⟩
theorem e_class:E_class.Ok CT.P:=fn0 CT_ok (tb (l:=[E_isnan,E_isinf,E_signbit,E_abs]) ⟨e_isnan,e_isinf,e_signbit,e_abs,trivial⟩) Tryz.f170 (by kernel_rfl) (by kernel_rfl) (by kernel_rfl) fun x=>by kernel_rfl
def F_get (a1:Ty.El tF):Option (Els [I,I]):=(F_class a1).bind fun v2=>bif v2.1==(1:Int) then some ((0:Int),(1:Int),()) else bif v2.1==(2:Int) then some ((0:Int),(2:Int),()) else bif v2.1==(3:Int) then some ((0:Int),(2:Int),()) else bif fOk Go.BinOp.mul FloatKind.f64 a1 (4751297606875873280:Nat) then bif fNum (fVal Go.BinOp.mul FloatKind.f64 a1 (4751297606875873280:Nat)) then bif fGe FloatKind.f64 (fRnd (fVal Go.BinOp.mul FloatKind.f64 a1 (4751297606875873280:Nat))) (4890909195324358656:Nat) then some ((0:Int),(3:Int),()) else bif fLt FloatKind.f64 (fRnd (fVal Go.BinOp.mul FloatKind.f64 a1 (4751297606875873280:Nat))) (14114281232179134464:Nat) then some ((0:Int),(3:Int),()) else bif fIntOk FloatKind.f64 (fRnd (fVal Go.BinOp.mul FloatKind.f64 a1 (4751297606875873280:Nat))) IntKind.i64 then some (fInt FloatKind.f64 (fRnd (fVal Go.BinOp.mul FloatKind.f64 a1 (4751297606875873280:Nat))),(0:Int),()) else none else none else none
def E_get:Ent:=.fn 130 [] ⟨[.ty tF],[I,I],fun x=>F_get x.1,false⟩
theorem e_get:E_get.Ok CT.P:=fn0 CT_ok (tb (l:=[E_class,E_rd]) ⟨e_class,e_rd,trivial⟩) Tryz.f130 (by kernel_rfl) (by kernel_rfl) (by kernel_rfl) fun x=>by kernel_rfl
def c_bytes:Code:=Tryz.f48.body.getD .skip
def T_bytes:Tb:=mkTb tyT mpT [E_bf]
theorem T_bytes_ok:T_bytes.Ok CT.P:=mkTb_ok (⟨e_bf,trivial⟩)
def l_bytes_4:Code:=atLoop c_bytes 4
abbrev LD_bytes_4:LayD:=⟨22,[(3,.data (.int .u64)),(4,.own (.int .u8) 0),(5,.data I)],[.row 5 (.int .u8)],fun s=>[slotR s 4]⟩
abbrev LA_bytes_4:LayD:=⟨22,[(4,.own (.int .u8) 0)],[.row 5 (.int .u8)],fun s=>[slotR s 4]⟩
abbrev LB_bytes_4:LayD:=⟨22,[],[],fun _=>[]⟩
def EX_bytes_4:Exits 0 LA_bytes_4.El LB_bytes_4.El:=⟨.exit 0,LA_bytes_4.lay [.nilReg 4 5 (.int .u8)],.ret,LB_bytes_4.lay []⟩
def G_bytes_4 (r3:Ty.El (.int .u64))(r5:Ty.El I)(b0:List (Ty.El (.int .u8))):Option (LD_bytes_4.El⊕(LA_bytes_4.El⊕LB_bytes_4.El)):=bif decide (r5≥(0:Int)) then bif decide (IntKind.i64.wrap ((8:Int)*r5)<(0:Int)) then none else bif((b0.length+[IntKind.u8.wrap (Int.fdiv r3 ((2:Int)^Min.min (IntKind.i64.wrap ((8:Int)*r5)).toNat (64:Nat)))].length)*(1:Nat)).ble (70368744177664:Nat) then some (Sum.inl ((r3,(),IntKind.i64.wrap (r5-(1:Int)),()),b0++[IntKind.u8.wrap (Int.fdiv r3 ((2:Int)^Min.min (IntKind.i64.wrap ((8:Int)*r5)).toNat (64:Nat)))],())) else none else some (Sum.inr (Sum.inl (((),()),b0,())))
theorem g_bytes_4 (x:LD_bytes_4.El):codeT CT T_bytes (drT CT T_bytes) lp0 l_bytes_4 (LD_bytes_4.enc x) (bodyK (LD_bytes_4.lay [.nilReg 4 5 (.int .u8)]) EX_bytes_4)=G_bytes_4 x.1.1 x.1.2.2.1 x.2.1:=by kernel_rfl
def R_bytes_4:LD_bytes_4.El→Option (LA_bytes_4.El⊕LB_bytes_4.El):=roundsT (fun x=>G_bytes_4 x.1.1 x.1.2.2.1 x.2.1) fuel
def lp_bytes {β:Type}:LpT β:=fun k s K=>if Nat.beq k 4 then lpOne (LD_bytes_4.lay [.nilReg 4 5 (.int .u8)]) EX_bytes_4 R_bytes_4 s K else none
theorem lp_bytes_ok {β:Type}:LpTOk CT (lp_bytes (β:=β)) (loopsOf c_bytes):=LpTOk.is [(4,l_bytes_4)] (by kernel_rfl) (LpTOk.cons (fun s K z h=>lpG CT_ok T_bytes_ok (lp0_ok (by kernel_rfl)) (L:=LD_bytes_4.lay [.nilReg 4 5 (.int .u8)]) (E:=EX_bytes_4) g_bytes_4 rfl rfl rfl rfl h) (LpTOk.nil))
def F_bytes (a1:Ty.El tF):Option (Els [.str]):=(R_bytes_4 (((↑a1:Int),(),(7:Int),()),[],())).bind fun v1=>Sum.elim (fun v2=>some (List.map (fun v3=>UInt8.ofNat (Int.toNat v3)) v2.2.1,())) (fun v4=>none) v1
theorem f_bytes (x:Ps [.ty tF]):funcT CT T_bytes [.str] (drT CT T_bytes) lp_bytes Tryz.f48 c_bytes (encPs [.ty tF] x)=F_bytes x.1:=by kernel_rfl
def E_bytes:Ent:=.fn 48 [] ⟨[.ty tF],[.str],fun x=>F_bytes x.1,false⟩
theorem e_bytes:E_bytes.Ok CT.P:=Ent.ofFn CT_ok T_bytes_ok (by kernel_rfl) (by kernel_rfl) lp_bytes_ok f_bytes
def c_read8:Code:=Tryz.f52.body.getD .skip
def T_read8:Tb:=mkTb tyT mpT [E_fb]
theorem T_read8_ok:T_read8.Ok CT.P:=mkTb_ok (⟨e_fb,trivial⟩)
def l_read8_5:Code:=atLoop c_read8 5
abbrev LD_read8_5:LayD:=⟨24,[(0,.data .str),(4,.data (.int .u64)),(10,.data I),(11,.data I)],[],fun _=>[]⟩
abbrev LA_read8_5:LayD:=⟨24,[(4,.data (.int .u64))],[],fun _=>[]⟩
abbrev LB_read8_5:LayD:=⟨24,[],[],fun _=>[]⟩
def EX_read8_5:Exits 0 LA_read8_5.El LB_read8_5.El:=⟨.exit 0,LA_read8_5.lay [],.ret,LB_read8_5.lay []⟩
def G_read8_5 (r0:Ty.El .str)(r4:Ty.El (.int .u64))(r10:Ty.El I)(r11:Ty.El I):Option (LD_read8_5.El⊕(LA_read8_5.El⊕LB_read8_5.El)):=bif decide (r11<r10) then bif decide ((0:Int)≤r11∧r11<(↑(List.length r0):Int)) then some (Sum.inl ((r0,bOr IntKind.u64 (IntKind.u64.wrap (r4*(256:Int))) (IntKind.u64.wrap (↑(List.getD ((r0,r4,r10,r11,()),()).1.1 (Int.toNat ((r0,r4,r10,r11,()),()).1.2.2.2.1) (0:UInt8)).toBitVec.toFin.1:Int)),r10,IntKind.i64.wrap (r11+(1:Int)),()),())) else none else some (Sum.inr (Sum.inl ((r4,()),())))
theorem g_read8_5 (x:LD_read8_5.El):codeT CT T_read8 (drT CT T_read8) lp0 l_read8_5 (LD_read8_5.enc x) (bodyK (LD_read8_5.lay []) EX_read8_5)=G_read8_5 x.1.1 x.1.2.1 x.1.2.2.1 x.1.2.2.2.1:=by kernel_rfl
def R_read8_5:LD_read8_5.El→Option (LA_read8_5.El⊕LB_read8_5.El):=roundsT (fun x=>G_read8_5 x.1.1 x.1.2.1 x.1.2.2.1 x.1.2.2.2.1) fuel
def lp_read8 {β:Type}:LpT β:=fun k s K=>if Nat.beq k 5 then lpOne (LD_read8_5.lay []) EX_read8_5 R_read8_5 s K else none
theorem lp_read8_ok {β:Type}:LpTOk CT (lp_read8 (β:=β)) (loopsOf c_read8):=LpTOk.is [(5,l_read8_5)] (by kernel_rfl) (LpTOk.cons (fun s K z h=>lpG CT_ok T_read8_ok (lp0_ok (by kernel_rfl)) (L:=LD_read8_5.lay []) (E:=EX_read8_5) g_read8_5 rfl rfl rfl rfl h) (LpTOk.nil))
def F_read8 (a1:Ty.El .str):Option (Els [tF,.bool]):=bif(↑(List.length a1):Int) != (8:Int) then some ((0:Nat),false,()) else(R_read8_5 ((a1,(0:Int),(↑(List.length a1):Int),(0:Int),()),())).bind fun v1=>Sum.elim (fun v2=>some (Int.toNat v2.1.1,true,())) (fun v3=>none) v1
theorem f_read8 (x:Ps [.ty .str]):funcT CT T_read8 [tF,.bool] (drT CT T_read8) lp_read8 Tryz.f52 c_read8 (encPs [.ty .str] x)=F_read8 x.1:=by kernel_rfl
def E_read8:Ent:=.fn 52 [] ⟨[.ty .str],[tF,.bool],fun x=>F_read8 x.1,false⟩
theorem e_read8:E_read8.Ok CT.P:=Ent.ofFn CT_ok T_read8_ok (by kernel_rfl) (by kernel_rfl) lp_read8_ok f_read8
def F_same (a1:Ty.El tF)(a2:Ty.El tF):Option (Els [.bool]):=some ((↑a1:Int)==(↑a2:Int),())
def E_same:Ent:=.fn 55 [] ⟨[.ty tF,.ty tF],[.bool],fun x=>F_same x.1 x.2.1,false⟩
theorem e_same:E_same.Ok CT.P:=fn0 CT_ok (tb (l:=[E_bf]) ⟨e_bf,trivial⟩) Tryz.f55 (by kernel_rfl) (by kernel_rfl) (by kernel_rfl) fun x=>by kernel_rfl
def F_number (a1:Ty.El I):Option (Els [.str]):=some (List.map (fun v1=>UInt8.ofNat v1.toNat) [IntKind.u8.wrap (Int.fdiv a1 (16777216:Int)),IntKind.u8.wrap (Int.fdiv a1 (65536:Int)),IntKind.u8.wrap (Int.fdiv a1 (256:Int)),IntKind.u8.wrap a1],())
def E_number:Ent:=.fn 46 [] ⟨[.ty I],[.str],fun x=>F_number x.1,false⟩
theorem e_number:E_number.Ok CT.P:=fn0 CT_ok (tb (l:=[]) trivial) Tryz.f46 (by kernel_rfl) (by kernel_rfl) (by kernel_rfl) fun x=>by kernel_rfl
abbrev IN_nums:LayD:=⟨1,[(0,.ptr 0)],[.var 25 [.data tOrder]],fun s=>[slotR s 0]⟩
abbrev OUT_nums:LayD:=⟨1,[(0,.ownC 1 1 5)],[.var 25 [.data tOrder],.var 109 [.ptrO 0 1,.ptrO 0 2,.ptrO 0 3,.ptrO 0 9,.ptrO 0 10]],fun s=>[0,slotR s 0]⟩
def F_nums (b0:Ty.El tOrder×Unit):Option OUT_nums.El:=some (((),()),(b0.1,()),((),(),(),(),(),()),())
def E_nums:Ent:=.mkGen 45 [] ⟨1,[],IN_nums,OUT_nums,fun x=>F_nums x.2.1⟩
theorem e_nums:E_nums.Ok CT.P:=gen0 (C:=(CTp 1)) (CTp_ok 1) (tb (l:=[]) trivial) [] Tryz.f45 (by kernel_rfl) (by kernel_rfl) (by kernel_rfl) fun x=>by kernel_rfl
abbrev IN_reals:LayD:=⟨1,[(0,.ptr 0)],[.var 25 [.data tOrder]],fun s=>[slotR s 0]⟩
abbrev OUT_reals:LayD:=⟨1,[(0,.ownC 1 1 5)],[.var 25 [.data tOrder],.var 113 [.ptrO 0 4,.ptrO 0 5,.ptrO 0 6,.ptrO 0 7,.ptrO 0 8]],fun s=>[0,slotR s 0]⟩
def F_reals (b0:Ty.El tOrder×Unit):Option OUT_reals.El:=some (((),()),(b0.1,()),((),(),(),(),(),()),())
def E_reals:Ent:=.mkGen 47 [] ⟨1,[],IN_reals,OUT_reals,fun x=>F_reals x.2.1⟩
theorem e_reals:E_reals.Ok CT.P:=gen0 (C:=(CTp 1)) (CTp_ok 1) (tb (l:=[]) trivial) [] Tryz.f47 (by kernel_rfl) (by kernel_rfl) (by kernel_rfl) fun x=>by kernel_rfl
abbrev IN_realsw:LayD:=⟨1,[(0,.ptrO 0 4)],[.var 140 [.data tWorker]],fun s=>[slotR s 0]⟩
abbrev OUT_realsw:LayD:=⟨1,[(0,.ownC 1 1 5)],[.var 140 [.data tWorker],.var 113 [.ptrO 0 8,.ptrO 0 9,.ptrO 0 10,.ptrO 0 11,.ptrO 0 12]],fun s=>[0,slotR s 0]⟩
def F_realsw (b0:Ty.El tWorker×Unit):Option OUT_realsw.El:=some (((),()),(b0.1,()),((),(),(),(),(),()),())
def E_realsw:Ent:=.mkGen 47 [] ⟨1,[],IN_realsw,OUT_realsw,fun x=>F_realsw x.2.1⟩
theorem e_realsw:E_realsw.Ok CT.P:=gen0 (C:=(CTp 1)) (CTp_ok 1) (tb (l:=[]) trivial) [] Tryz.f47 (by kernel_rfl) (by kernel_rfl) (by kernel_rfl) fun x=>by kernel_rfl
def F_growiz (a1:Unit)(a2:Ty.El I):Option (List (Ty.El I)):=bif decide (a2<(0:Int)) then none else bif decide (IntKind.i64.wrap (a2-(0:Int))>(0:Int)) then none else some []
def E_growiz:Ent:=.own 229 [] ⟨[.nil,.ty I],3,I,fun x=>F_growiz x.1 x.2.1⟩
theorem e_growiz:E_growiz.Ok CT.P:=own0 CT_ok (tb (l:=[]) trivial) Tryz.f229 (by kernel_rfl) (by kernel_rfl) (by kernel_rfl) fun x=>by kernel_rfl
theorem row_backI {R:Nat→Prop}{ρ:Nm}{w w':World}{l v l2:List Int}{nb cap:Nat}{N:BN}{h0:AH}(hr:Rel R ρ h0 w)
  (h1:w'.os=w.os) (h2:w'.tape=w.tape) (h3:w'.output=w.output) (h4:w.heap.size≤w'.heap.size) (hdr:w.drawn≤w'.drawn) (hkeep:∀ k,k<w.heap.size→k≠nb→w'.heap[k]?=w.heap[k]?)
  (hnb:(Lv ρ h0 nb∧∃ a1 t1,w.heap[nb]?=some (.cells a1 t1 (0,0)))∨w.heap.size≤nb) {arr2:Array Value} (hb2:w'.heap[nb]?=some (.cells arr2 3 (0,0))) (hl2:l2.length*1≤arr2.size) (hcells:VReps w R ρ (I.flat l2) (arr2.toList.take (l2.length*1))) (hlc:l2.length≤cap) (hcap:cap*1≤arr2.size) :
  ∃ R' ρ',VRep w' R' ρ' (.orow I 0) (.slice (some ⟨nb,0,none⟩) l2.length cap)∧Rel R' ρ' [some (.row 3 I l2)] w'∧FrmW 0 R ρ h0 w R' ρ' [some (.row 3 I l2)] w':=by
 have hnR:¬R nb:=by
  intro hR
  rcases hnb with⟨⟨i,blk,M,hi,hn,hg⟩,_⟩ | h
  ·exact hr.notLive hR ⟨i,blk,M,hi,hn,hg⟩
  ·have:=hr.ro nb hR;omega
 have hB:BRep w' R ρ nb ⟨arr2.size,l2.length,false⟩ (.row 3 I l2):=cells_row ⟨arr2,hb2,rfl,by rw [I.flat_len];exact hl2,by
  rw [I.flat_len]
  exact hcells.mono (fun k hk=>hkeep k (hr.ro k hk) (fun e=>hnR (e▸hk))) (fun _ h=>h) (Nm.le_refl _)⟩ rfl
 refine⟨R,nm0 nb ⟨arr2.size,l2.length,false⟩,.orow (N:=⟨arr2.size,l2.length,false⟩) rfl rfl hlc hcap,rel_nm0 (brep_row hB) (.inl ⟨rfl,hnR⟩) (fun c hc=>Nat.lt_of_lt_of_le (hr.ro c hc) h4),
  ⟨h1,h2,h3,h4,fun _ h=>h,fun c hc hnl=>hkeep c hc (fun e=>?_),fun c hl=>?_,fun _ h=>.inl h,hdr,fun i bn hi=>absurd hi (Nat.not_lt_zero _)⟩⟩
 ·subst e
  rcases hnb with⟨h,_⟩ | h
  ·exact hnl h
  ·omega
 ·rw [(lv_nm0 hl).1]
  rcases hnb with⟨h,_⟩ | h
  ·exact .inl h
  ·exact .inr h
def growRenI:Go.Shelf.Ren:=⟨fun | 4=>229 | n=>n,fun | 22=>23 | 25=>3 | n=>n,fun n=>n⟩
theorem laysGrowI:Lays8.n4 Tryz.prog growRenI:={
 mixed:=by kernel_rfl,
 f4:=⟨ "slices.Grow[[]int,int]",by kernel_rfl,Tryz.func229.trans (congrArg some (by kernel_rfl))⟩,
 t0:=Tryz.underlying0,a0:=Tryz.isAgg0,z0:=Tryz.sizeOf0,v0:=Tryz.zeroValue0,
 t3:=Tryz.underlying3,a3:=Tryz.isAgg3,z3:=Tryz.sizeOf3,v3:=Tryz.zeroValue3,
 t4:=Tryz.underlying4,a4:=Tryz.isAgg4,z4:=Tryz.sizeOf4,v4:=Tryz.zeroValue4,
 t9:=Tryz.underlying9,a9:=Tryz.isAgg9,z9:=Tryz.sizeOf9,v9:=Tryz.zeroValue9,
 t20:=Tryz.underlying20,a20:=Tryz.isAgg20,z20:=Tryz.sizeOf20,v20:=Tryz.zeroValue20,
 t22:=Tryz.underlying23,a22:=Tryz.isAgg23,z22:=Tryz.sizeOf23,v22:=Tryz.zeroValue23 }
theorem frm_of {p:Nat}{R R':Nat→Prop}{ρ ρ':Nm}{w w':World}{h':AH}(hr:Rel R ρ [] w)(f:FrmW p R ρ [] w R' ρ' h' w'):Frm R ρ [] w R' ρ' h' w':=
 ⟨f.os,f.tape,f.output,f.size,fun i bn h=>(by rw [hr.dom i (Nat.zero_le _)] at h;cases h),f.ros,f.keeps,f.lives,f.rolds,Nat.zero_le _,fun x hx=>absurd hx (Nat.not_lt_zero _),f.frz⟩
set_option maxHeartbeats 1000000 in
theorem ok_growi (n:Nat)(h0:0<n)(hn:n≤1000000):AC CT.P 229 [.nils,.int .i64 n] [] (.ret (.orow I 0)) [some (.row 3 I [])]:=by
 intro R ρ w vs hr hvs
 obtain⟨u0,us,hu,k1,k2⟩:=hvs.cons_inv
 obtain⟨u1,us1,rfl,k3,k4⟩:=k2.cons_inv
 obtain rfl:=k4.nil_inv
 have hv:vs=#[u0,u1]:=Array.toList_inj.1 (by simpa using hu)
 subst hv
 cases k1
 cases k3
 obtain⟨i0,z,hi0,hz0,hs0,hb0,hzs⟩:∃ i0 z,Tryz.prog.info? 3=some i0∧i0.zero=some z∧i0.size=1∧i0.bytes=8∧z.cells.size=1:=by
  have h:(Tryz.prog.info? 3).bind (fun i=>i.zero.map fun z=>(i.size,i.bytes,z.cells.size))=some (1,8,1):=by kernel_rfl
  obtain⟨i0,hi,h⟩:=Option.bind_eq_some_iff.1 h
  obtain⟨z,hz,h⟩:=Option.map_eq_some_iff.1 h
  simp only [Prod.mk.injEq] at h
  exact⟨i0,z,hi,hz,h.1,h.2.1,h.2.2⟩
 have hs:=Any8.slices_Grow_grow laysGrowI i0 z hi0 hz0 (by omega) none 0 0 n [] w (Nat.le_refl _) (by omega) (by rw [hb0];omega) (by omega) (by simp) (fun _=>rfl) (fun a h=>by cases h)
 refine hs.mono ?_
 rintro e w' ⟨rfl,rfl⟩
 have hge:=grownCap_ge w (0+n) 0 3
 generalize hA:([]:List Value).toArray++Builtin.zeroCells z.cells (0+n-0)++Builtin.zeroCells z.cells (grownCap w (0+n) 0 (growRenI.t 25)-(0+n))=A
 have hsz:A.size=grownCap w (0+n) 0 3*1:=by
  rw [← hA]
  simp only [Array.size_append,size_zeroCells,hzs,List.size_toArray,List.length_nil]
  show 0+(0+n-0)*1+(grownCap w (0+n) 0 3-(0+n))*1=_
  omega
 have hh:(w.drew.alloc (.cells A (growRenI.t 25))).heap=w.heap.push (.cells A 3):=rfl
 obtain⟨R',ρ',q1,q2,q3⟩:=row_backI (l:=[]) (v:=[]) (l2:=[]) (h0:=[]) (nb:=w.heap.size) (cap:=grownCap w (0+n) 0 3)
  (w':=w.drew.alloc (.cells A (growRenI.t 25))) (N:=⟨0,0,false⟩)
  (arr2:=A) hr rfl rfl rfl (by rw [hh,Array.size_push];omega) (Nat.le_succ _) (fun k hk hne=>by
   rw [hh,Array.getElem?_push,if_neg (Nat.ne_of_lt hk)]) (.inr (Nat.le_refl _)) (by rw [hh,Array.getElem?_push,if_pos rfl]) (Nat.zero_le _) (by
   show VReps w R ρ [] (A.toList.take 0)
   rw [List.take_zero]
   exact .nil) (Nat.zero_le _) (by rw [hsz];exact Nat.le_refl _)
 exact⟨R',ρ',_,⟨rfl,q1⟩,q2,frm_of hr q3⟩
def F_growi (a1:Unit)(a2:Ty.El I):Option (List (Ty.El I)):=bif decide ((0:Int)<a2)&&decide (a2≤(1000000:Int)) then some [] else F_growiz a1 a2
def E_growi:Ent:=.own 229 [] ⟨[.nil,.ty I],3,I,fun x=>F_growi x.1 x.2.1⟩
theorem e_growi:E_growi.Ok CT.P:=by
 intro x y hxy
 obtain⟨u,(n:Int),x2⟩:=x
 have hxy:F_growi u n=some y:=hxy
 unfold F_growi at hxy
 cases hb:decide ((0:Int)<n)&&decide (n≤(1000000:Int)) with
 | false=>
  rw [hb] at hxy
  exact e_growiz (u,n,x2) y hxy
 | true=>
  rw [hb] at hxy
  have hy:y=[]:=(Option.some.inj hxy).symm
  subst hy
  simp only [Bool.and_eq_true,decide_eq_true_eq] at hb
  obtain⟨m,rfl⟩:=Int.eq_ofNat_of_zero_le (Int.le_of_lt hb.1)
  exact ok_growi m (by omega) (by omega)
end Go.DI.S
end
