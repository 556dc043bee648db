import Derived.Test.YtbjldjihpekhaaaGreatTa
import Derived.Test.YtbjldjihpekhaaaGreatDie
import Derived.Test.YtbjldjihpekhaaaGreatNd
/- Bodies moved, turned, whatever comes of it: told by functions on data. No conditions. -/
set_option linter.unusedSimpArgs false
set_option linter.unusedVariables false
set_option maxRecDepth 100000
set_option maxHeartbeats 0
noncomputable section
namespace Go.DI.S
open Go.Proofs
theorem tryQ_84 {n:Nat}{is:List Nat}{B:List Bl}{regs:List (Nat×It)}{sg1 sg2 sg3 sg4 sg5:AS→List Nat}{pin:Nat}{F:(LayD.mk n regs B sg1).El→Option ((LayD.mk 0 [] B sg2).El⊕(Int×(LayD.mk 0 [] B sg5).El))}{F2:(LayD.mk 1 [(0,.cloP 179 is)] B sg3).El→Option (LayD.mk 1 [(0,.data I)] B sg4).El}
  (hregs:∀ (x:RegsEl regs) (b:BlksEl B),((LayD.mk n regs B sg1).enc (x,b)).r=is.map fun i=>.ptr i 0)
  (x0:RegsEl regs) (hF:∀ x y,F2 x=some y→(F (x0,x.2)=some (.inl ((),y.2))∧y.1=(0,()))∨∃ e,F (x0,x.2)=some (.inr (e,((),y.2)))∧y.1=(e,()))
  (he:(GenQE.mk 239 pin ⟨n,regs,B,sg1⟩ ⟨0,[],B,sg2⟩ ⟨0,[],B,sg5⟩ F).Ok CT.P 179) {st2:List Stp}:(GenE.mk pin st2 ⟨1,[(0,.cloP 179 is)],B,sg3⟩ ⟨1,[(0,.data I)],B,sg4⟩ F2).Ok CT.P 178:=by
 have start:∀ (x:(LayD.mk 1 [(0,.cloP 179 is)] B sg3).El) (R:Nat→Prop) (ρ:Nm) (w:World) (vs:Array Value),Rel R ρ (encB B x.2) w→VReps w R ρ [.func 179 [] (is.map fun i=>.ptr i 0)] vs.toList →
   ∃ vc:Array Value,vs=#[.func (.func 179) #[] vc]∧Rel R ρ (encB B x.2) (w.alloc (.cells #[.int .i64 0] 56))∧VReps (w.alloc (.cells #[.int .i64 0] 56)) R ρ (is.map fun i=>.ptr i 0) vc.toList:=by
  intro x R ρ w vs hr hvs
  obtain⟨u0,us,hu,h1,h2⟩:=hvs.cons_inv
  obtain rfl:=h2.nil_inv
  have hv:vs=#[u0]:=Array.toList_inj.1 (by simpa using hu)
  subst hv
  cases h1 with
  | func vf vc k1 k2 k3 k4=>
  have hvf:vf=#[]:=by
   have:vf.size=0:=by simpa using k1
   exact Array.eq_empty_of_size_eq_zero this
  subst hvf
  have hsz1:(w.alloc (.cells #[.int .i64 0] 56)).heap.size=w.heap.size+1:=World.size_alloc _ _
  refine⟨vc,rfl,rel_else hr (fun b hb=>heap_alloc_old w _ b (hb.elim (fun h=>hr.lv_lt h) (fun h=>hr.ro b h))) (by rw [hsz1];omega),by simpa using k2,fun k c u hc hu=>?_⟩
  have h5:=k4 k c u hc (by simpa using hu)
  rw [List.getElem?_map] at hc
  obtain⟨i,hi,rfl⟩:=Option.map_eq_some_iff.1 hc
  cases h5 with
  | ptr h6=>exact .ptr h6
 have var0:∀ {p:Nat} {R R':Nat→Prop} {ρ ρ':Nm} {h h':AH} {w w2:World},Rel R ρ h w→FrmW p R ρ h (w.alloc (.cells #[.int .i64 0] 56)) R' ρ' h' w2 →
   w.heap.size<w2.heap.size∧w2.cell? ⟨w.heap.size,0,none⟩=some (.int .i64 0)∧w2.frozen? ⟨w.heap.size,0,none⟩=false:=by
  intro p R R' ρ ρ' h h' w w2 hr f2
  have hsz1:(w.alloc (.cells #[.int .i64 0] 56)).heap.size=w.heap.size+1:=World.size_alloc _ _
  have hnl:¬Lv ρ h w.heap.size:=fun hl=>by have:=hr.lv_lt hl;omega
  have hb:w2.heap[w.heap.size]?=some (.cells #[.int .i64 0] 56 (0,0)):=by
   rw [f2.keeps w.heap.size (by rw [hsz1];omega) hnl]
   exact Array.getElem?_push_size
  have:=f2.size
  rw [hsz1] at this
  exact⟨by omega,by simp [World.cell?,hb],by simp [World.frozen?,hb]⟩
 intro x y hxy R ρ w vs hr hvs
 have hr:Rel R ρ (encB B x.2) w:=hr
 obtain⟨vc,rfl,r1,hcaps⟩:=start x R ρ w vs hr hvs
 rcases hF x y hxy with⟨hF1,hF2⟩ | ⟨e,hF1,hF2⟩
 ·have hcall:=he.1 (x0,x.2) ((),y.2) hF1 R ρ (w.alloc (.cells #[.int .i64 0] 56)) vc r1 (by rw [hregs x0 x.2];exact hcaps)
  show Calls CT.P 178 #[.func (.func 179) #[] vc] w _
  refine(try_84 vc w (fun w2=>∃ R' ρ',Rel R' ρ' (encB B y.2) w2∧FrmW pin R ρ (encB B x.2) (w.alloc (.cells #[.int .i64 0] 56)) R' ρ' (encB B y.2) w2) (hcall.mono ?_)).mono ?_
  ·rintro e w' ⟨R',ρ',u,rfl,hu,r2,f2⟩
   have hu:VRep w' R' ρ' (.tup []) u:=hu
   obtain⟨us,rfl,hus⟩:=hu.tup_inv
   have:us=#[]:=by
    have:=hus.nil_inv
    exact Array.toList_inj.1 (by simpa using this)
   subst this
   exact⟨rfl,⟨R',ρ',r2,f2⟩,var0 hr f2⟩
  ·rintro e w' ⟨rfl,w2,w3,⟨R',ρ',r2,f2⟩,hm,rfl⟩
   obtain⟨r3,f3⟩:=frame_own (n:=0) hr r2 f2 (.inl hm)
   refine⟨R',ρ',.int .i64 0,rfl,?_,r3,f3⟩
   have:(LayD.enc ⟨1,[(0,.data I)],B,sg4⟩ y).r=[.int .i64 y.1.1]:=rfl
   rw [this,hF2]
   exact .int _ _
 ·have hcall:=he.2 (x0,x.2) (e,((),y.2)) hF1 R ρ (w.alloc (.cells #[.int .i64 0] 56)) vc r1 (by rw [hregs x0 x.2];exact hcaps)
  show Calls CT.P 178 #[.func (.func 179) #[] vc] w _
  refine(try_84p vc w e (fun w2=>∃ R' ρ',Rel R' ρ' (encB B y.2) w2∧FrmW pin R ρ (encB B x.2) (w.alloc (.cells #[.int .i64 0] 56)) R' ρ' (encB B y.2) w2) (hcall.mono ?_)).mono ?_
  ·rintro q w' ⟨R',ρ',u,rfl,hu,r2,f2⟩
   exact⟨⟨u,rfl,fun _ _ _=>fault_any hu⟩,⟨R',ρ',r2,f2⟩,var0 hr f2⟩
  ·rintro q w' ⟨rfl,w2,w3,⟨R',ρ',r2,f2⟩,hm,rfl⟩
   obtain⟨r3,f3⟩:=frame_own (n:=e) (m:=0) hr r2 f2 (.inr hm)
   refine⟨R',ρ',.int .i64 e,rfl,?_,r3,f3⟩
   have:(LayD.enc ⟨1,[(0,.data I)],B,sg4⟩ y).r=[.int .i64 y.1.1]:=rfl
   rw [this,hF2]
   exact .int _ _
def c_each1qm:Code:=Tryz.f179.body.getD .skip
theorem hb_each1qm:Tryz.f179.body=some c_each1qm:=by kernel_rfl
theorem hf_each1qm:CT.P.funcs[179]?=some Tryz.f179:=by kernel_rfl
abbrev IN_each1qm:LayD:=⟨3,[(0,.ptr 0),(1,.ptr 1),(2,.ptr 2)],[.var 51 [.data tVec,.data I,.own tThing 4],.var 23 [.data (.list I)],.var 199 [.cloB 135 [3]],.var 140 [.data tWorker],.row 68 tThing],fun s=>[slotR s 0,slotR s 1,slotR s 2,slotHB s (slotR s 2) 0,slotC s 0 3]⟩
abbrev OUT_each1qm:LayD:=⟨0,[],[.var 51 [.data tVec,.data I,.own tThing 4],.var 23 [.data (.list I)],.var 199 [.cloB 135 [3]],.var 140 [.data tWorker],.row 68 tThing],fun s=>[0,1,2,3,slotH s 0 3]⟩
abbrev PO_each1qm:LayD:=⟨0,[],[.var 51 [.data tVec,.data I,.own tThing 4],.var 23 [.data (.list I)],.var 199 [.cloB 135 [3]],.var 140 [.data tWorker],.row 68 tThing],fun s=>[0,1,2,3,slotH s 0 3]⟩
abbrev LP_each1qm_1:LayD:=⟨37,[],[.var 51 [.data tVec,.data I,.own tThing 4],.var 23 [.data (.list I)],.var 199 [.cloB 135 [3]],.var 140 [.data tWorker],.row 68 tThing],fun s=>[0,1,2,3,slotH s 0 3]⟩
def T_each1qm:Tb:=mkTb tyT mpT [E_59,E_move,E_88]
theorem T_each1qm_ok:T_each1qm.Ok CT.P:=mkTb_ok (⟨e_59,e_move,e_88,trivial⟩)
def l_each1qm_1:Code:=atLoop c_each1qm 1
abbrev LD_each1qm_1:LayD:=⟨37,[(0,.ptr 0),(1,.ptr 1),(2,.ptr 2),(6,.own tThing 4),(7,.data I),(8,.data I)],[.var 51 [.data tVec,.data I,.own tThing 4],.var 23 [.data (.list I)],.var 199 [.cloB 135 [3]],.var 140 [.data tWorker],.row 68 tThing],fun s=>[0,1,2,3,slotH s 0 3]⟩
abbrev LA_each1qm_1:LayD:=⟨37,[],[.var 51 [.data tVec,.data I,.own tThing 4],.var 23 [.data (.list I)],.var 199 [.cloB 135 [3]],.var 140 [.data tWorker],.row 68 tThing],fun s=>[0,1,2,3,slotH s 0 3]⟩
abbrev LB_each1qm_1:LayD:=⟨37,[],[],fun _=>[]⟩
def EX_each1qm_1:Exits 4 LA_each1qm_1.El LB_each1qm_1.El:=⟨.exit 0,LA_each1qm_1.lay [],.ret,LB_each1qm_1.lay []⟩
def lpi_each1qm_1 {β:Type}:LpT β:=fun _ _ _=>none
theorem lpi_each1qm_1_ok {β:Type}:LpTOk (CTp 4) (lpi_each1qm_1 (β:=β)) (loopsOf l_each1qm_1):=LpTOk.is [] (by kernel_rfl) (LpTOk.nil)
def G_each1qm_1 (r7:Ty.El I)(r8:Ty.El I)(b0:Ty.El tVec×Ty.El I×Unit×Unit)(b1:Ty.El (.list I)×Unit)(b2:Unit×Unit)(b3:Ty.El tWorker×Unit)(b4:List (Ty.El tThing)):Option (LD_each1qm_1.El⊕((LA_each1qm_1.El⊕LB_each1qm_1.El)⊕(Int×LP_each1qm_1.El))):=bif decide (r8<r7) then bif decide ((0:Int)≤r8∧r8<(↑b4.length:Int)) then(F_59 b1.1 (b4.getD (Int.toNat r8) tThing.dflt).1).bind fun v2=>bif !v2.1 then some (Sum.inl (((),(),(),(),r7,IntKind.i64.wrap (r8+(1:Int)),()),(b0.1,b0.2.1,(),()),(b1.1,()),((),()),(b3.1,()),b4,())) else(F_move b3.1 (b4.getD (Int.toNat r8) tThing.dflt).2.2.1.2.2.2.1).bind fun v4=>Sum.elim (fun v6=>(F_88 ((b4.getD (Int.toNat r8) tThing.dflt).2.2.1.1,(b4.getD (Int.toNat r8) tThing.dflt).2.2.1.2.1,(b4.getD (Int.toNat r8) tThing.dflt).2.2.1.2.2.1,v6.1,(b4.getD (Int.toNat r8) tThing.dflt).2.2.1.2.2.2.2)).bind fun v8=>bif !v8.1 then some (Sum.inr (Sum.inr ((3:Int),((),(b0.1,b0.2.1,(),()),(b1.1,()),((),()),(b3.1,()),b4,())))) else bif decide ((0:Int)≤r8∧r8<(↑b4.length:Int)) then some (Sum.inl (((),(),(),(),r7,IntKind.i64.wrap (r8+(1:Int)),()),(b0.1,b0.2.1,(),()),(b1.1,()),((),()),(b3.1,()),b4.set (Int.toNat r8) ((b4.getD (Int.toNat r8) tThing.dflt).1,(b4.getD (Int.toNat r8) tThing.dflt).2.1,((b4.getD (Int.toNat r8) tThing.dflt).2.2.1.1,(b4.getD (Int.toNat r8) tThing.dflt).2.2.1.2.1,(b4.getD (Int.toNat r8) tThing.dflt).2.2.1.2.2.1,v6.1,(b4.getD (Int.toNat r8) tThing.dflt).2.2.1.2.2.2.2),(b4.getD (Int.toNat r8) tThing.dflt).2.2.2),())) else none) (fun v9=>some (Sum.inr (Sum.inr (v9,((),(b0.1,b0.2.1,(),()),(b1.1,()),((),()),(b3.1,()),b4,()))))) v4 else none else some (Sum.inr (Sum.inl (Sum.inl ((),(b0.1,b0.2.1,(),()),(b1.1,()),((),()),(b3.1,()),b4,()))))
theorem g_each1qm_1 (x:LD_each1qm_1.El):codeT (CTp 4) T_each1qm (drT (CTp 4) T_each1qm) lpi_each1qm_1 l_each1qm_1 (LD_each1qm_1.enc x) (bodyKQ (LD_each1qm_1.lay []) EX_each1qm_1 (LP_each1qm_1.lay []) 239)=G_each1qm_1 x.1.2.2.2.2.1 x.1.2.2.2.2.2.1 x.2.1 x.2.2.1 x.2.2.2.1 x.2.2.2.2.1 x.2.2.2.2.2.1:=by kernel_rfl
def R_each1qm_1:LD_each1qm_1.El→Option ((LA_each1qm_1.El⊕LB_each1qm_1.El)⊕(Int×LP_each1qm_1.El)):=roundsT (fun x=>G_each1qm_1 x.1.2.2.2.2.1 x.1.2.2.2.2.2.1 x.2.1 x.2.2.1 x.2.2.2.1 x.2.2.2.2.1 x.2.2.2.2.2.1) fuel
theorem r_each1qm_1:∀ x y,R_each1qm_1 x=some y→CL (CTp 4) l_each1qm_1 (LD_each1qm_1.enc x) (Sum.elim (fun ab=>Sum.elim (fun _=>EX_each1qm_1.xa) (fun _=>EX_each1qm_1.xb) ab) (fun e=>.pan (faultV 239 e.1)) y) (Sum.elim (fun ab=>Sum.elim EX_each1qm_1.la.enc EX_each1qm_1.lb.enc ab) (fun e=>((LP_each1qm_1.lay []):Lay 4 _).enc e.2) y):=
 roundsQ_ok (L:=LD_each1qm_1.lay []) (E:=EX_each1qm_1) (M:=LP_each1qm_1.lay []) (CTp_ok 4) T_each1qm_ok (drT_ok (CTp_ok 4) T_each1qm_ok) lpi_each1qm_1_ok g_each1qm_1 rfl rfl (fun v h=>by have hh:(.exit 0:AX)=.pan v:=h;cases hh) (fun v h=>by have hh:(.ret:AX)=.pan v:=h;cases hh) fuel
def lp_each1qm {β:Type}:LpT β:=fun k s K=>if Nat.beq k 1 then lpOneQ (LD_each1qm_1.lay []) EX_each1qm_1 (LP_each1qm_1.lay []) 239 R_each1qm_1 s K else none
theorem lp_each1qm_ok {β:Type}:LpTOk (CTp 4) (lp_each1qm (β:=β)) (loopsOf c_each1qm):=LpTOk.is [(1,l_each1qm_1)] (by kernel_rfl) (LpTOk.cons (fun s K z h=>lpOneQ_ok r_each1qm_1 h) (LpTOk.nil))
def F_each1qm (b0:Ty.El tVec×Ty.El I×Unit×Unit)(b1:Ty.El (.list I)×Unit)(b2:Unit×Unit)(b3:Ty.El tWorker×Unit)(b4:List (Ty.El tThing)):Option (OUT_each1qm.El⊕(Int×PO_each1qm.El)):=(R_each1qm_1 (((),(),(),(),(↑b4.length:Int),(0:Int),()),(b0.1,b0.2.1,(),()),(b1.1,()),((),()),(b3.1,()),b4,())).bind fun v1=>Sum.elim (fun v2=>Sum.elim (fun v3=>some (Sum.inl ((),(v3.2.1.1,v3.2.1.2.1,(),()),(v3.2.2.1.1,()),((),()),(v3.2.2.2.2.1.1,()),v3.2.2.2.2.2.1,()))) (fun v4=>none) v2) (fun e=>some (Sum.inr (e.1,((),e.2.2)))) v1
theorem f_each1qm (x:IN_each1qm.El):funcXQ (CTp 4) T_each1qm 239 IN_each1qm OUT_each1qm PO_each1qm [] (drT (CTp 4) T_each1qm) lp_each1qm Tryz.f179 c_each1qm x=F_each1qm x.2.1 x.2.2.1 x.2.2.2.1 x.2.2.2.2.1 x.2.2.2.2.2.1:=by kernel_rfl
theorem ge_each1qm:GenQE.Ok CT.P 179 ⟨239,4,IN_each1qm,OUT_each1qm,PO_each1qm,fun x=>F_each1qm x.2.1 x.2.2.1 x.2.2.2.1 x.2.2.2.2.1 x.2.2.2.2.2.1⟩:=
 funcXQ_ok (C:=CTp 4) (osteps:=[]) (CTp_ok 4) T_each1qm_ok (drT_ok (CTp_ok 4) T_each1qm_ok) hf_each1qm hb_each1qm lp_each1qm_ok f_each1qm
abbrev IN_tryqm:LayD:=⟨1,[(0,.cloP 179 [0,1,2])],[.var 51 [.data tVec,.data I,.own tThing 4],.var 23 [.data (.list I)],.var 199 [.cloB 135 [3]],.var 140 [.data tWorker],.row 68 tThing],fun s=>[slotFk s 0 0,slotFk s 0 1,slotFk s 0 2,slotHB s (slotFk s 0 2) 0,slotH s (slotFk s 0 0) 3]⟩
abbrev OUT_tryqm:LayD:=⟨1,[(0,.data I)],[.var 51 [.data tVec,.data I,.own tThing 4],.var 23 [.data (.list I)],.var 199 [.cloB 135 [3]],.var 140 [.data tWorker],.row 68 tThing],fun s=>[0,1,2,3,slotH s 0 3]⟩
def F_tryqm (b0:Ty.El tVec×Ty.El I×Unit×Unit)(b1:Ty.El (.list I)×Unit)(b2:Unit×Unit)(b3:Ty.El tWorker×Unit)(b4:List (Ty.El tThing)):Option OUT_tryqm.El:=(F_each1qm b0 b1 b2 b3 b4).bind fun y=>Sum.elim (fun y=>some ((0,()),y.2)) (fun e=>some ((e.1,()),e.2.2)) y
def E_tryqm:Ent:=.mkGen 178 [179] ⟨4,[],IN_tryqm,OUT_tryqm,fun x=>F_tryqm x.2.1 x.2.2.1 x.2.2.2.1 x.2.2.2.2.1 x.2.2.2.2.2.1⟩
theorem e_tryqm:E_tryqm.Ok CT.P:=Ent.mkGen_ok (by
 refine tryQ_84 (is:=[0,1,2]) (F2:=fun x=>F_tryqm x.2.1 x.2.2.1 x.2.2.2.1 x.2.2.2.2.1 x.2.2.2.2.2.1) (fun x b=>rfl) ((),(),(),()) (fun x y h=>?_) ge_each1qm
 have h:F_tryqm x.2.1 x.2.2.1 x.2.2.2.1 x.2.2.2.2.1 x.2.2.2.2.2.1=some y:=h
 unfold F_tryqm at h
 obtain⟨z,hz,h⟩:=Option.bind_eq_some_iff.1 h
 cases z with
 | inl z=>cases h;exact .inl ⟨hz,rfl⟩
 | inr e=>cases h;exact .inr ⟨e.1,hz,rfl⟩)
abbrev IN_eachqm:LayD:=⟨2,[(0,.ptr 0),(1,.cloB 135 [0])],[.var 140 [.data tWorker]],fun s=>[slotR s 0]⟩
abbrev OUT_eachqm:LayD:=⟨3,[(0,.data tScene),(1,.data I),(2,.data I)],[.var 140 [.data tWorker]],fun _=>[0]⟩
def F_eachqm (b0:Ty.El tWorker×Unit):Option OUT_eachqm.El:=(F_43 b0.1.1 b0.1.2.1.2.1).bind fun v2=>bif v2.2.1 != (0:Int) then some ((b0.1.1,(0:Int),v2.2.1,()),(b0.1,()),()) else(F_oown b0.1.1.2.2).bind fun v4=>(F_tryqm (b0.1.1.1,b0.1.1.2.1,(),()) (v2.1,()) ((),()) (b0.1,()) v4).bind fun v6=>some (((v6.2.1.1,v6.2.1.2.1,v6.2.2.2.2.2.1),(0:Int),v6.1.1,()),(v6.2.2.2.2.1.1,()),())
def E_eachqm:Ent:=.mkGen 134 [135] ⟨1,[],IN_eachqm,OUT_eachqm,fun x=>F_eachqm x.2.1⟩
theorem e_eachqm:E_eachqm.Ok CT.P:=gen0 (C:=(CTp 1)) (CTp_ok 1) (tb (l:=[E_43,E_oown,E_tryqm]) ⟨e_43,e_oown,e_tryqm,trivial⟩) [.frzReg 0 tScene] Tryz.f134 (by kernel_rfl) (by kernel_rfl) (by kernel_rfl) fun x=>by kernel_rfl
def c_each1qt:Code:=Tryz.f179.body.getD .skip
theorem hb_each1qt:Tryz.f179.body=some c_each1qt:=by kernel_rfl
theorem hf_each1qt:CT.P.funcs[179]?=some Tryz.f179:=by kernel_rfl
abbrev IN_each1qt:LayD:=⟨3,[(0,.ptr 0),(1,.ptr 1),(2,.ptr 2)],[.var 51 [.data tVec,.data I,.own tThing 4],.var 23 [.data (.list I)],.var 199 [.cloB 141 [3]],.var 140 [.data tWorker],.row 68 tThing],fun s=>[slotR s 0,slotR s 1,slotR s 2,slotHB s (slotR s 2) 0,slotC s 0 3]⟩
abbrev OUT_each1qt:LayD:=⟨0,[],[.var 51 [.data tVec,.data I,.own tThing 4],.var 23 [.data (.list I)],.var 199 [.cloB 141 [3]],.var 140 [.data tWorker],.row 68 tThing],fun s=>[0,1,2,3,slotH s 0 3]⟩
abbrev PO_each1qt:LayD:=⟨0,[],[.var 51 [.data tVec,.data I,.own tThing 4],.var 23 [.data (.list I)],.var 199 [.cloB 141 [3]],.var 140 [.data tWorker],.row 68 tThing],fun s=>[0,1,2,3,slotH s 0 3]⟩
abbrev LP_each1qt_1:LayD:=⟨37,[],[.var 51 [.data tVec,.data I,.own tThing 4],.var 23 [.data (.list I)],.var 199 [.cloB 141 [3]],.var 140 [.data tWorker],.row 68 tThing],fun s=>[0,1,2,3,slotH s 0 3]⟩
def T_each1qt:Tb:=mkTb tyT mpT [E_59,E_turn,E_88]
theorem T_each1qt_ok:T_each1qt.Ok CT.P:=mkTb_ok (⟨e_59,e_turn,e_88,trivial⟩)
def l_each1qt_1:Code:=atLoop c_each1qt 1
abbrev LD_each1qt_1:LayD:=⟨37,[(0,.ptr 0),(1,.ptr 1),(2,.ptr 2),(6,.own tThing 4),(7,.data I),(8,.data I)],[.var 51 [.data tVec,.data I,.own tThing 4],.var 23 [.data (.list I)],.var 199 [.cloB 141 [3]],.var 140 [.data tWorker],.row 68 tThing],fun s=>[0,1,2,3,slotH s 0 3]⟩
abbrev LA_each1qt_1:LayD:=⟨37,[],[.var 51 [.data tVec,.data I,.own tThing 4],.var 23 [.data (.list I)],.var 199 [.cloB 141 [3]],.var 140 [.data tWorker],.row 68 tThing],fun s=>[0,1,2,3,slotH s 0 3]⟩
abbrev LB_each1qt_1:LayD:=⟨37,[],[],fun _=>[]⟩
def EX_each1qt_1:Exits 4 LA_each1qt_1.El LB_each1qt_1.El:=⟨.exit 0,LA_each1qt_1.lay [],.ret,LB_each1qt_1.lay []⟩
def lpi_each1qt_1 {β:Type}:LpT β:=fun _ _ _=>none
theorem lpi_each1qt_1_ok {β:Type}:LpTOk (CTp 4) (lpi_each1qt_1 (β:=β)) (loopsOf l_each1qt_1):=LpTOk.is [] (by kernel_rfl) (LpTOk.nil)
def G_each1qt_1 (r7:Ty.El I)(r8:Ty.El I)(b0:Ty.El tVec×Ty.El I×Unit×Unit)(b1:Ty.El (.list I)×Unit)(b2:Unit×Unit)(b3:Ty.El tWorker×Unit)(b4:List (Ty.El tThing)):Option (LD_each1qt_1.El⊕((LA_each1qt_1.El⊕LB_each1qt_1.El)⊕(Int×LP_each1qt_1.El))):=bif decide (r8<r7) then bif decide ((0:Int)≤r8∧r8<(↑b4.length:Int)) then(F_59 b1.1 (b4.getD (Int.toNat r8) tThing.dflt).1).bind fun v2=>bif !v2.1 then some (Sum.inl (((),(),(),(),r7,IntKind.i64.wrap (r8+(1:Int)),()),(b0.1,b0.2.1,(),()),(b1.1,()),((),()),(b3.1,()),b4,())) else(F_turn b3.1 (b4.getD (Int.toNat r8) tThing.dflt).2.2.1.2.2.2.1).bind fun v4=>Sum.elim (fun v6=>(F_88 ((b4.getD (Int.toNat r8) tThing.dflt).2.2.1.1,(b4.getD (Int.toNat r8) tThing.dflt).2.2.1.2.1,(b4.getD (Int.toNat r8) tThing.dflt).2.2.1.2.2.1,v6.1,(b4.getD (Int.toNat r8) tThing.dflt).2.2.1.2.2.2.2)).bind fun v8=>bif !v8.1 then some (Sum.inr (Sum.inr ((3:Int),((),(b0.1,b0.2.1,(),()),(b1.1,()),((),()),(b3.1,()),b4,())))) else bif decide ((0:Int)≤r8∧r8<(↑b4.length:Int)) then some (Sum.inl (((),(),(),(),r7,IntKind.i64.wrap (r8+(1:Int)),()),(b0.1,b0.2.1,(),()),(b1.1,()),((),()),(b3.1,()),b4.set (Int.toNat r8) ((b4.getD (Int.toNat r8) tThing.dflt).1,(b4.getD (Int.toNat r8) tThing.dflt).2.1,((b4.getD (Int.toNat r8) tThing.dflt).2.2.1.1,(b4.getD (Int.toNat r8) tThing.dflt).2.2.1.2.1,(b4.getD (Int.toNat r8) tThing.dflt).2.2.1.2.2.1,v6.1,(b4.getD (Int.toNat r8) tThing.dflt).2.2.1.2.2.2.2),(b4.getD (Int.toNat r8) tThing.dflt).2.2.2),())) else none) (fun v9=>some (Sum.inr (Sum.inr (v9,((),(b0.1,b0.2.1,(),()),(b1.1,()),((),()),(b3.1,()),b4,()))))) v4 else none else some (Sum.inr (Sum.inl (Sum.inl ((),(b0.1,b0.2.1,(),()),(b1.1,()),((),()),(b3.1,()),b4,()))))
theorem g_each1qt_1 (x:LD_each1qt_1.El):codeT (CTp 4) T_each1qt (drT (CTp 4) T_each1qt) lpi_each1qt_1 l_each1qt_1 (LD_each1qt_1.enc x) (bodyKQ (LD_each1qt_1.lay []) EX_each1qt_1 (LP_each1qt_1.lay []) 239)=G_each1qt_1 x.1.2.2.2.2.1 x.1.2.2.2.2.2.1 x.2.1 x.2.2.1 x.2.2.2.1 x.2.2.2.2.1 x.2.2.2.2.2.1:=by kernel_rfl
def R_each1qt_1:LD_each1qt_1.El→Option ((LA_each1qt_1.El⊕LB_each1qt_1.El)⊕(Int×LP_each1qt_1.El)):=roundsT (fun x=>G_each1qt_1 x.1.2.2.2.2.1 x.1.2.2.2.2.2.1 x.2.1 x.2.2.1 x.2.2.2.1 x.2.2.2.2.1 x.2.2.2.2.2.1) fuel
theorem r_each1qt_1:∀ x y,R_each1qt_1 x=some y→CL (CTp 4) l_each1qt_1 (LD_each1qt_1.enc x) (Sum.elim (fun ab=>Sum.elim (fun _=>EX_each1qt_1.xa) (fun _=>EX_each1qt_1.xb) ab) (fun e=>.pan (faultV 239 e.1)) y) (Sum.elim (fun ab=>Sum.elim EX_each1qt_1.la.enc EX_each1qt_1.lb.enc ab) (fun e=>((LP_each1qt_1.lay []):Lay 4 _).enc e.2) y):=
 roundsQ_ok (L:=LD_each1qt_1.lay []) (E:=EX_each1qt_1) (M:=LP_each1qt_1.lay []) (CTp_ok 4) T_each1qt_ok (drT_ok (CTp_ok 4) T_each1qt_ok) lpi_each1qt_1_ok g_each1qt_1 rfl rfl (fun v h=>by have hh:(.exit 0:AX)=.pan v:=h;cases hh) (fun v h=>by have hh:(.ret:AX)=.pan v:=h;cases hh) fuel
def lp_each1qt {β:Type}:LpT β:=fun k s K=>if Nat.beq k 1 then lpOneQ (LD_each1qt_1.lay []) EX_each1qt_1 (LP_each1qt_1.lay []) 239 R_each1qt_1 s K else none
theorem lp_each1qt_ok {β:Type}:LpTOk (CTp 4) (lp_each1qt (β:=β)) (loopsOf c_each1qt):=LpTOk.is [(1,l_each1qt_1)] (by kernel_rfl) (LpTOk.cons (fun s K z h=>lpOneQ_ok r_each1qt_1 h) (LpTOk.nil))
def F_each1qt (b0:Ty.El tVec×Ty.El I×Unit×Unit)(b1:Ty.El (.list I)×Unit)(b2:Unit×Unit)(b3:Ty.El tWorker×Unit)(b4:List (Ty.El tThing)):Option (OUT_each1qt.El⊕(Int×PO_each1qt.El)):=(R_each1qt_1 (((),(),(),(),(↑b4.length:Int),(0:Int),()),(b0.1,b0.2.1,(),()),(b1.1,()),((),()),(b3.1,()),b4,())).bind fun v1=>Sum.elim (fun v2=>Sum.elim (fun v3=>some (Sum.inl ((),(v3.2.1.1,v3.2.1.2.1,(),()),(v3.2.2.1.1,()),((),()),(v3.2.2.2.2.1.1,()),v3.2.2.2.2.2.1,()))) (fun v4=>none) v2) (fun e=>some (Sum.inr (e.1,((),e.2.2)))) v1
theorem f_each1qt (x:IN_each1qt.El):funcXQ (CTp 4) T_each1qt 239 IN_each1qt OUT_each1qt PO_each1qt [] (drT (CTp 4) T_each1qt) lp_each1qt Tryz.f179 c_each1qt x=F_each1qt x.2.1 x.2.2.1 x.2.2.2.1 x.2.2.2.2.1 x.2.2.2.2.2.1:=by kernel_rfl
theorem ge_each1qt:GenQE.Ok CT.P 179 ⟨239,4,IN_each1qt,OUT_each1qt,PO_each1qt,fun x=>F_each1qt x.2.1 x.2.2.1 x.2.2.2.1 x.2.2.2.2.1 x.2.2.2.2.2.1⟩:=
 funcXQ_ok (C:=CTp 4) (osteps:=[]) (CTp_ok 4) T_each1qt_ok (drT_ok (CTp_ok 4) T_each1qt_ok) hf_each1qt hb_each1qt lp_each1qt_ok f_each1qt
abbrev IN_tryqt:LayD:=⟨1,[(0,.cloP 179 [0,1,2])],[.var 51 [.data tVec,.data I,.own tThing 4],.var 23 [.data (.list I)],.var 199 [.cloB 141 [3]],.var 140 [.data tWorker],.row 68 tThing],fun s=>[slotFk s 0 0,slotFk s 0 1,slotFk s 0 2,slotHB s (slotFk s 0 2) 0,slotH s (slotFk s 0 0) 3]⟩
abbrev OUT_tryqt:LayD:=⟨1,[(0,.data I)],[.var 51 [.data tVec,.data I,.own tThing 4],.var 23 [.data (.list I)],.var 199 [.cloB 141 [3]],.var 140 [.data tWorker],.row 68 tThing],fun s=>[0,1,2,3,slotH s 0 3]⟩
def F_tryqt (b0:Ty.El tVec×Ty.El I×Unit×Unit)(b1:Ty.El (.list I)×Unit)(b2:Unit×Unit)(b3:Ty.El tWorker×Unit)(b4:List (Ty.El tThing)):Option OUT_tryqt.El:=(F_each1qt b0 b1 b2 b3 b4).bind fun y=>Sum.elim (fun y=>some ((0,()),y.2)) (fun e=>some ((e.1,()),e.2.2)) y
def E_tryqt:Ent:=.mkGen 178 [179] ⟨4,[],IN_tryqt,OUT_tryqt,fun x=>F_tryqt x.2.1 x.2.2.1 x.2.2.2.1 x.2.2.2.2.1 x.2.2.2.2.2.1⟩
theorem e_tryqt:E_tryqt.Ok CT.P:=Ent.mkGen_ok (by
 refine tryQ_84 (is:=[0,1,2]) (F2:=fun x=>F_tryqt x.2.1 x.2.2.1 x.2.2.2.1 x.2.2.2.2.1 x.2.2.2.2.2.1) (fun x b=>rfl) ((),(),(),()) (fun x y h=>?_) ge_each1qt
 have h:F_tryqt x.2.1 x.2.2.1 x.2.2.2.1 x.2.2.2.2.1 x.2.2.2.2.2.1=some y:=h
 unfold F_tryqt at h
 obtain⟨z,hz,h⟩:=Option.bind_eq_some_iff.1 h
 cases z with
 | inl z=>cases h;exact .inl ⟨hz,rfl⟩
 | inr e=>cases h;exact .inr ⟨e.1,hz,rfl⟩)
abbrev IN_eachqt:LayD:=⟨2,[(0,.ptr 0),(1,.cloB 141 [0])],[.var 140 [.data tWorker]],fun s=>[slotR s 0]⟩
abbrev OUT_eachqt:LayD:=⟨3,[(0,.data tScene),(1,.data I),(2,.data I)],[.var 140 [.data tWorker]],fun _=>[0]⟩
def F_eachqt (b0:Ty.El tWorker×Unit):Option OUT_eachqt.El:=(F_43 b0.1.1 b0.1.2.1.2.1).bind fun v2=>bif v2.2.1 != (0:Int) then some ((b0.1.1,(0:Int),v2.2.1,()),(b0.1,()),()) else(F_oown b0.1.1.2.2).bind fun v4=>(F_tryqt (b0.1.1.1,b0.1.1.2.1,(),()) (v2.1,()) ((),()) (b0.1,()) v4).bind fun v6=>some (((v6.2.1.1,v6.2.1.2.1,v6.2.2.2.2.2.1),(0:Int),v6.1.1,()),(v6.2.2.2.2.1.1,()),())
def E_eachqt:Ent:=.mkGen 134 [141] ⟨1,[],IN_eachqt,OUT_eachqt,fun x=>F_eachqt x.2.1⟩
theorem e_eachqt:E_eachqt.Ok CT.P:=gen0 (C:=(CTp 1)) (CTp_ok 1) (tb (l:=[E_43,E_oown,E_tryqt]) ⟨e_43,e_oown,e_tryqt,trivial⟩) [.frzReg 0 tScene] Tryz.f134 (by kernel_rfl) (by kernel_rfl) (by kernel_rfl) fun x=>by kernel_rfl
end Go.DI.S
end
