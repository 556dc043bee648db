import Derived.Test.YtbjldjihpekhaaaGreatNb
/- calc.Try of a closure that captures variables. No conditions. -/
set_option linter.unusedSimpArgs false
set_option linter.unusedVariables false
set_option maxRecDepth 100000
set_option maxHeartbeats 0
namespace Go.DI.S
open Go.Proofs
theorem aZL (eA:Array Value)(w:World)(Q:World→Prop)
  (hc:Calls Tryz.prog 188 eA (w.alloc (.cells #[.int .i64 0] 56)) fun e w'=>e=.returned (.tuple #[])∧Q w'∧w.heap.size<w'.heap.size∧w'.cell? ⟨w.heap.size,0,none⟩=some (.int .i64 0)∧w'.frozen? ⟨w.heap.size,0,none⟩=false) :
  Calls Tryz.prog 178 #[.func (.func 188) #[] eA] w fun e w'=>e=.returned (.int .i64 0)∧∃ w2 w3,Q w2∧xE (w2.setCell ⟨w.heap.size,0,none⟩ (.int .i64 0)) w3∧w'=w3.setCell ⟨w.heap.size,0,none⟩ (.int .i64 0):=by
 have hmf:∀ (fn:Fn) (first cap:Array Value) (w:World),(Instr.makeFunc fn first cap).run Tryz.prog w=.ok (.func fn first cap) w:=fun _ _ _ _=>rfl;have hnil:∀ (f:Fn) (a b:Array Value) (w:World),(binOp BinOp.eql 1 (.func f a b) .nilFunc).run Tryz.prog w=.ok (.bool false) w:=aPH
 go_enter_defers Tryz.func178,Tryz.ntmps178
 go_wp2_with (first | (go_at_call 188;refine hc.mono ?_;rintro e w' ⟨rfl,hQ,h0,h1,h2⟩))
 have e1:(w'.setCell ⟨w.heap.size,0,none⟩ (.int .i64 0)).cell? ⟨w.heap.size,0,none⟩=some (.int .i64 0):=by
  simp [go_sem,h1]
 have e2:(w'.setCell ⟨w.heap.size,0,none⟩ (.int .i64 0)).frozen? ⟨w.heap.size,0,none⟩=false:=by
  simp [go_sem,h2]
 have e0:w.heap.size<(w'.setCell ⟨w.heap.size,0,none⟩ (.int .i64 0)).heap.size:=by simpa [World.setCell] using h0
 refine leaves_cons (f:=225) (args:=#[.pointer (some ⟨w.heap.size,0,none⟩)]) (by simp) (by simp [go_sem]) ?_;refine(SY ⟨w.heap.size,0,none⟩ _ 0 e0 e1 e2).mono ?_;rintro e u' w'' ⟨rfl,rfl,w3,hm,rfl⟩;have e4:w3.cell? ⟨w.heap.size,0,none⟩=some (.int .i64 0):=by rw [hm.cell e0,e1]
 have e3:(w3.setCell ⟨w.heap.size,0,none⟩ (.int .i64 0)).cell? ⟨w.heap.size,0,none⟩=some (.int .i64 0):=by
  simp [go_sem,e4]
 simp [Leaves,settle,results,Tryz.results178,go_sem,e3];exact⟨_,hQ,_,hm,rfl⟩
theorem aUm (eA:Array Value)(w:World)(n:Int)(Q:World→Prop)
  (hc:Calls Tryz.prog 188 eA (w.alloc (.cells #[.int .i64 0] 56)) fun e w'=>(∃ v,e=.panicked [{ v:=v,recovered:=false }]∧∀ (w:World) (R:Nat→Prop) (ρ:Nm),aI w R ρ (cT 239 n) v)∧Q w'∧w.heap.size<w'.heap.size∧w'.cell? ⟨w.heap.size,0,none⟩=some (.int .i64 0)∧w'.frozen? ⟨w.heap.size,0,none⟩=false) :
  Calls Tryz.prog 178 #[.func (.func 188) #[] eA] w fun e w'=>e=.returned (.int .i64 n)∧∃ w2 w3,Q w2∧xE w2 w3∧w'=w3.setCell ⟨w.heap.size,0,none⟩ (.int .i64 n):=by
 have hmf:∀ (fn:Fn) (first cap:Array Value) (w:World),(Instr.makeFunc fn first cap).run Tryz.prog w=.ok (.func fn first cap) w:=fun _ _ _ _=>rfl;have hnil:∀ (f:Fn) (a b:Array Value) (w:World),(binOp BinOp.eql 1 (.func f a b) .nilFunc).run Tryz.prog w=.ok (.bool false) w:=aPH
 go_enter_defers Tryz.func178,Tryz.ntmps178
 go_wp2_with (first | (go_at_call 188;refine hc.mono ?_;rintro e w' ⟨⟨v,rfl,hv⟩,hQ,h0,h1,h2⟩))
 refine leaves_cons (f:=225) (args:=#[.pointer (some ⟨w.heap.size,0,none⟩)]) (by simp) (by simp [go_sem]) ?_;refine(JY ⟨w.heap.size,0,none⟩ w' 0 n v hv h0 h1 h2).mono ?_;rintro e u' w'' ⟨rfl,rfl,w3,hm,rfl⟩;have e4:w3.cell? ⟨w.heap.size,0,none⟩=some (.int .i64 0):=by rw [hm.cell h0,h1]
 have e3:(w3.setCell ⟨w.heap.size,0,none⟩ (.int .i64 n)).cell? ⟨w.heap.size,0,none⟩=some (.int .i64 n):=by
  simp [go_sem,e4]
 simp [Leaves,settle,results,Tryz.results178,go_sem,e3];exact⟨_,hQ,_,hm,rfl⟩
theorem aUn {n:Nat}{is:List Nat}{B:List Bl}{fH:List (Nat×It)}{sg1 sg2 sg3 sg4:AS→List Nat}{dB:Nat}{st:List qO}{F:(aF.mk n fH B sg1).El→Option ((aF.mk 0 [] B sg2).El⊕Int)}{F2:(aF.mk 1 [(0,.eG 188 is)] B sg3).El→Option ((aF.mk 1 [(0,.data I)] B sg4).El⊕Int)}
  (kD:∀ (x:jW fH) (b:lU B),((aF.mk n fH B sg1).enc (x,b)).r=is.map fun i=>.ptr i 0)
  (x0:jW fH) (hF:∀ x y,F2 x=some (.inl y)→F (x0,x.2)=some (.inl ((),y.2))∧y.1=(0,())) (hFp:∀ x e,F2 x=some (.inr e)→F (x0,x.2)=some (.inr e))
  (he:(pO.mk 239 dB st ⟨n,fH,B,sg1⟩ ⟨0,[],B,sg2⟩ F).Ok CT.P 188) {st2:List qO}:(M3.mk dB st2 ⟨1,[(0,.eG 188 is)],B,sg3⟩ ⟨1,[(0,.data I)],B,sg4⟩ F2).Ok CT.P 178:=by
 have start:∀ (x:(aF.mk 1 [(0,.eG 188 is)] B sg3).El) (R:Nat→Prop) (ρ:Nm) (w:World) (vs:Array Value),Rel R ρ (gH B x.2) w→aK w R ρ [.func 188 [] (is.map fun i=>.ptr i 0)] vs.toList →
   ∃ vc:Array Value,vs=#[.func (.func 188) #[] vc]∧Rel R ρ (gH B x.2) (w.alloc (.cells #[.int .i64 0] 56))∧aK (w.alloc (.cells #[.int .i64 0] 56)) R ρ (is.map fun i=>.ptr i 0) vc.toList:=by
  intro x R ρ w vs hr hvs;obtain⟨u0,us,hu,h1,h2⟩:=hvs.cons_inv;obtain rfl:=h2.bE;have hv:vs=#[u0]:=aRl.1 (by simpa using hu);subst hv;cases h1 with
  | func vf vc k1 k2 k3 k4=>
  have hvf:vf=#[]:=by
   have:vf.size=0:=by simpa using k1
   exact a9C this
  subst hvf;have hsz1:(w.alloc (.cells #[.int .i64 0] 56)).heap.size=w.heap.size+1:=World.size_alloc _ _;refine⟨vc,rfl,F6 hr (fun b hb=>heap_alloc_old w _ b (hb.elim (fun h=>hr.iS h) (fun h=>hr.ro b h))) (by rw [hsz1];omega),by simpa using k2,fun k c u hc hu=>?_⟩;have h5:=k4 k c u hc (by simpa using hu);rw [aQn] at hc;obtain⟨i,hi,rfl⟩:=aPV.1 hc;cases h5 with
  | ptr h6=>exact .ptr h6
 have aGn:∀ {p:Nat} {R R':Nat→Prop} {ρ ρ':Nm} {h h':AH} {w w2:World},Rel R ρ h w→eF p R ρ h (w.alloc (.cells #[.int .i64 0] 56)) R' ρ' h' w2 →
   w.heap.size<w2.heap.size∧w2.cell? ⟨w.heap.size,0,none⟩=some (.int .i64 0)∧w2.frozen? ⟨w.heap.size,0,none⟩=false:=by
  intro p R R' ρ ρ' h h' w w2 hr f2;have hsz1:(w.alloc (.cells #[.int .i64 0] 56)).heap.size=w.heap.size+1:=World.size_alloc _ _;have hnl:¬Lv ρ h w.heap.size:=fun hl=>by have:=hr.iS hl;omega
  have hb:w2.heap[w.heap.size]?=some (.cells #[.int .i64 0] 56 (0,0)):=by
   rw [f2.keeps w.heap.size (by rw [hsz1];omega) hnl];exact Array.getElem?_push_size
  have:=f2.size;rw [hsz1] at this;exact⟨by omega,by simp [World.cell?,hb],by simp [World.frozen?,hb]⟩
 refine⟨fun x y hxy R ρ w vs hr hvs=>?_,fun x e hxy R ρ w vs hr hvs=>?_⟩
 ·obtain⟨hF1,hF2⟩:=hF x y hxy;have hr:Rel R ρ (gH B x.2) w:=hr;obtain⟨vc,rfl,r1,CE⟩:=start x R ρ w vs hr hvs;have hcall:=he.1 (x0,x.2) ((),y.2) hF1 R ρ (w.alloc (.cells #[.int .i64 0] 56)) vc r1 (by rw [kD x0 x.2];exact CE);show Calls CT.P 178 #[.func (.func 188) #[] vc] w _;refine(aZL vc w (fun w2=>∃ R' ρ',Rel R' ρ' (gH B y.2) w2∧eF dB R ρ (gH B x.2) (w.alloc (.cells #[.int .i64 0] 56)) R' ρ' (gH B y.2) w2) (hcall.mono ?_)).mono ?_
  ·rintro e w' ⟨R',ρ',u,rfl,hu,r2,f2⟩;have hu:aI w' R' ρ' (.xF []) u:=hu;obtain⟨us,rfl,fE⟩:=hu.qT;have:us=#[]:=by
    have:=fE.bE;exact aRl.1 (by simpa using this)
   subst this;exact⟨rfl,⟨R',ρ',r2,f2⟩,aGn hr f2⟩
  ·rintro e w' ⟨rfl,w2,w3,⟨R',ρ',r2,f2⟩,hm,rfl⟩;obtain⟨r3,f3⟩:=oO (n:=0) hr r2 f2 (.inl hm);refine⟨R',ρ',.int .i64 0,rfl,?_,r3,f3⟩;have:(aF.enc ⟨1,[(0,.data I)],B,sg4⟩ y).r=[.int .i64 y.1.1]:=rfl;rw [this,hF2];exact .int _ _
 ·have hr:Rel R ρ (gH B x.2) w:=hr;obtain⟨vc,rfl,r1,CE⟩:=start x R ρ w vs hr hvs;have hcall:=he.2 (x0,x.2) e (hFp x e hxy) R ρ (w.alloc (.cells #[.int .i64 0] 56)) vc r1 (by rw [kD x0 x.2];exact CE);show Calls CT.P 178 #[.func (.func 188) #[] vc] w _;refine(aUm vc w e (fun w2=>∃ R',Rel R' gI [] w2∧eF 0 R ρ (gH B x.2) (w.alloc (.cells #[.int .i64 0] 56)) R' gI [] w2) (hcall.mono ?_)).mono ?_
  ·rintro q w' ⟨R',u,rfl,hu,r2,f2⟩;exact⟨⟨u,rfl,fun _ _ _=>iH hu⟩,⟨R',r2,f2⟩,aGn hr f2⟩
  ·rintro q w' ⟨rfl,w2,w3,⟨R',r2,f2⟩,hm,rfl⟩;obtain⟨r3,f3⟩:=oO (n:=e) (m:=0) hr r2 f2 (.inr hm);exact⟨R',rfl,r3,f3⟩
end Go.DI.S
