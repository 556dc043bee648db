import Derived.Test.YtbjldjihpekhaaaGreatNa
import Derived.WalkKit
import Derived.Tactics
import Derived.Tactics2
import Derived.Defers
import Derived.Recover
import Derived.Laws.Pointers
/- calc.Try of a closure that captures variables. No conditions. -/
set_option linter.unusedSimpArgs false
set_option linter.unusedVariables false
set_option maxRecDepth 100000
set_option maxHeartbeats 0
noncomputable section
namespace Go.DI.S
open Go.Proofs
def aUa:Code:=Tryz.f226.body.getD .skip
theorem a5T:Tryz.f226.body=some aUa:=by kernel_rfl
theorem a5U:CT.P.funcs[226]?=some Tryz.f226:=by kernel_rfl
def aUb:Tb:=cC iL iM []
theorem aGh:aUb.Ok CT.P:=aQ (trivial)
def aUc {β:Type}:dK β:=fun _ _ _=>none
theorem aPG {β:Type}:aC CT (aUc (β:=β)) (aJ aUa):=aC.is [] (by kernel_rfl) (aC.nil)
theorem bCb (n:Int):dA CT aUb [I] (cB CT aUb) aUc Tryz.f226 aUa [cT 239 n]=some (n,()):=by kernel_rfl
structure xE (w w':World):Prop where
 os:w'.os=w.os
 tape:w'.tape=w.tape
 output:w'.output=w.output
 size:w.heap.size≤w'.heap.size
 keeps:∀ b,b<w.heap.size→w'.heap[b]?=w.heap[b]?
 drawn:w.drawn≤w'.drawn
theorem xE.kQ {w w':World}(h:xE w w')(a:Addr)(ha:a.block<w.heap.size):w'.frozen? a=w.frozen? a:=vC (h.keeps _ ha)
theorem xE.cell {w w':World}(h:xE w w'){p:Addr}(hp:p.block<w.heap.size):w'.cell? p=w.cell? p:=World.cell?_of_block (h.keeps _ hp)
theorem aCy {w:World}{n:Int}{v:Value}(hv:∀ (w:World) (R:Nat→Prop) (ρ:Nm),aI w R ρ (cT 239 n) v):Calls Tryz.prog 226 #[v] w fun e w'=>e=.returned (.int .i64 n)∧xE w w':=by
 have h:=aES aL aGh (eZ aL aGh) a5U a5T aPG (bCb n);refine(h (fun _=>False) gI w #[v] (.base fun b hb=>hb.elim) (.cons (hv _ _ _) .nil)).mono ?_;rintro e w' ⟨R',ρ',u,⟨rfl,hu⟩,_,f⟩;have hu:aI w' R' ρ' (.int .i64 n) u:=hu;cases hu;exact⟨rfl,f.os,f.tape,f.output,f.size,fun b hb=>f.keeps b hb Lv.none,f.kQ⟩
theorem xE.refl (w:World):xE w w:=⟨rfl,rfl,rfl,aKQ _,fun _ _=>rfl,aKQ _⟩
theorem aGi (w:World):Calls Tryz.prog 226 #[.nilIface] w fun e w'=>e=.returned (.int .i64 0)∧xE w w':=by
 have h:Calls Tryz.prog 226 #[.nilIface] w fun e w'=>e=.returned (.int .i64 0)∧w'=w:=by
  go_enter Tryz.func226,Tryz.ntmps226
  go_wp2
  simp [bodyPost,results,Tryz.results226,go_sem]
 refine h.mono ?_;rintro e w' ⟨rfl,rfl⟩;exact⟨rfl,.refl _⟩
theorem SY (p:Addr)(w:World)(x:Int)(hp:p.block<w.heap.size)(hc:w.cell? p=some (.int .i64 x))(hz:w.frozen? p=false) :
  CallsD Tryz.prog 225 #[.pointer (some p)] .returning w fun e u' w'=>e=.returned (.tuple #[])∧u'=.returning∧∃ w3,xE w w3∧w'=w3.setCell p (.int .i64 0):=by
 refine callsD_of_wpS Tryz.func225 rfl fun c₀ cs hu=>?_;apply wpS_region;simp [wpOpsS,go_sem,recoverD,hu,Tryz.ntmps225,Exit.thenS];refine(aGi w).mono ?_;rintro e w' ⟨rfl,hm⟩;have hc':w'.cell? p=some (.int .i64 x):=by rw [hm.cell hp,hc]
 have hz':w'.frozen? p=false:=by rw [hm.kQ p hp,hz]
 simp [go_sem,hc',hz',bodyPostS,results,Tryz.results225];refine⟨.returning,?_,rfl,w',hm,rfl⟩;cases c₀;simp_all
theorem JY (p:Addr)(w:World)(x n:Int)(v:Value)(hv:∀ (w:World) (R:Nat→Prop) (ρ:Nm),aI w R ρ (cT 239 n) v)(hp:p.block<w.heap.size)(hc:w.cell? p=some (.int .i64 x))(hz:w.frozen? p=false) :
  CallsD Tryz.prog 225 #[.pointer (some p)] (.panicking [{ v:=v,recovered:=false }]) w fun e u' w'=>e=.returned (.tuple #[])∧u'=.panicking [{ v:=v,recovered:=true }]∧∃ w3,xE w w3∧w'=w3.setCell p (.int .i64 n):=by
 refine callsD_of_wpS Tryz.func225 rfl fun c₀ cs hu=>?_;apply wpS_region;simp [wpOpsS,go_sem,recoverD,hu,Tryz.ntmps225,Exit.thenS];refine(aCy (w:=w) hv).mono ?_;rintro e w' ⟨rfl,hm⟩;have hc':w'.cell? p=some (.int .i64 x):=by rw [hm.cell hp,hc]
 have hz':w'.frozen? p=false:=by rw [hm.kQ p hp,hz]
 simp [go_sem,hc',hz',bodyPostS,results,Tryz.results225];refine⟨w',hm,rfl⟩
theorem aPH (f:Fn)(a b:Array Value)(w:World):(binOp BinOp.eql 1 (.func f a b) .nilFunc).run Tryz.prog w=.ok (.bool false) w:=rfl
theorem a5V (eA:Array Value)(w:World)(Q:World→Prop)
  (hc:Calls Tryz.prog 179 eA (w.alloc (.cells #[.int .i64 0] 56)) fun e w'=>e=.returned (.tuple #[])∧Q w'∧w.heap.size<w'.heap.size∧w'.cell? ⟨w.heap.size,0,none⟩=some (.int .i64 0)∧w'.frozen? ⟨w.heap.size,0,none⟩=false) :
  Calls Tryz.prog 178 #[.func (.func 179) #[] eA] w fun e w'=>e=.returned (.int .i64 0)∧∃ w2 w3,Q w2∧xE (w2.setCell ⟨w.heap.size,0,none⟩ (.int .i64 0)) w3∧w'=w3.setCell ⟨w.heap.size,0,none⟩ (.int .i64 0):=by
 have hmf:∀ (fn:Fn) (first cap:Array Value) (w:World),(Instr.makeFunc fn first cap).run Tryz.prog w=.ok (.func fn first cap) w:=fun _ _ _ _=>rfl;have hnil:∀ (f:Fn) (a b:Array Value) (w:World),(binOp BinOp.eql 1 (.func f a b) .nilFunc).run Tryz.prog w=.ok (.bool false) w:=aPH
 go_enter_defers Tryz.func178,Tryz.ntmps178
 go_wp2_with (first | (go_at_call 179;refine hc.mono ?_;rintro e w' ⟨rfl,hQ,h0,h1,h2⟩))
 have e1:(w'.setCell ⟨w.heap.size,0,none⟩ (.int .i64 0)).cell? ⟨w.heap.size,0,none⟩=some (.int .i64 0):=by
  simp [go_sem,h1]
 have e2:(w'.setCell ⟨w.heap.size,0,none⟩ (.int .i64 0)).frozen? ⟨w.heap.size,0,none⟩=false:=by
  simp [go_sem,h2]
 have e0:w.heap.size<(w'.setCell ⟨w.heap.size,0,none⟩ (.int .i64 0)).heap.size:=by simpa [World.setCell] using h0
 refine leaves_cons (f:=225) (args:=#[.pointer (some ⟨w.heap.size,0,none⟩)]) (by simp) (by simp [go_sem]) ?_;refine(SY ⟨w.heap.size,0,none⟩ _ 0 e0 e1 e2).mono ?_;rintro e u' w'' ⟨rfl,rfl,w3,hm,rfl⟩;have e4:w3.cell? ⟨w.heap.size,0,none⟩=some (.int .i64 0):=by rw [hm.cell e0,e1]
 have e3:(w3.setCell ⟨w.heap.size,0,none⟩ (.int .i64 0)).cell? ⟨w.heap.size,0,none⟩=some (.int .i64 0):=by
  simp [go_sem,e4]
 simp [Leaves,settle,results,Tryz.results178,go_sem,e3];exact⟨_,hQ,_,hm,rfl⟩
theorem aZD (eA:Array Value)(w:World)(n:Int)(Q:World→Prop)
  (hc:Calls Tryz.prog 179 eA (w.alloc (.cells #[.int .i64 0] 56)) fun e w'=>(∃ v,e=.panicked [{ v:=v,recovered:=false }]∧∀ (w:World) (R:Nat→Prop) (ρ:Nm),aI w R ρ (cT 239 n) v)∧Q w'∧w.heap.size<w'.heap.size∧w'.cell? ⟨w.heap.size,0,none⟩=some (.int .i64 0)∧w'.frozen? ⟨w.heap.size,0,none⟩=false) :
  Calls Tryz.prog 178 #[.func (.func 179) #[] eA] w fun e w'=>e=.returned (.int .i64 n)∧∃ w2 w3,Q w2∧xE w2 w3∧w'=w3.setCell ⟨w.heap.size,0,none⟩ (.int .i64 n):=by
 have hmf:∀ (fn:Fn) (first cap:Array Value) (w:World),(Instr.makeFunc fn first cap).run Tryz.prog w=.ok (.func fn first cap) w:=fun _ _ _ _=>rfl;have hnil:∀ (f:Fn) (a b:Array Value) (w:World),(binOp BinOp.eql 1 (.func f a b) .nilFunc).run Tryz.prog w=.ok (.bool false) w:=aPH
 go_enter_defers Tryz.func178,Tryz.ntmps178
 go_wp2_with (first | (go_at_call 179;refine hc.mono ?_;rintro e w' ⟨⟨v,rfl,hv⟩,hQ,h0,h1,h2⟩))
 refine leaves_cons (f:=225) (args:=#[.pointer (some ⟨w.heap.size,0,none⟩)]) (by simp) (by simp [go_sem]) ?_;refine(JY ⟨w.heap.size,0,none⟩ w' 0 n v hv h0 h1 h2).mono ?_;rintro e u' w'' ⟨rfl,rfl,w3,hm,rfl⟩;have e4:w3.cell? ⟨w.heap.size,0,none⟩=some (.int .i64 0):=by rw [hm.cell h0,h1]
 have e3:(w3.setCell ⟨w.heap.size,0,none⟩ (.int .i64 n)).cell? ⟨w.heap.size,0,none⟩=some (.int .i64 n):=by
  simp [go_sem,e4]
 simp [Leaves,settle,results,Tryz.results178,go_sem,e3];exact⟨_,hQ,_,hm,rfl⟩
theorem F6 {w w':World}{R:Nat→Prop}{ρ:Nm}{h:AH}(hr:Rel R ρ h w)(hk:∀ b,Lv ρ h b∨R b→w'.heap[b]?=w.heap[b]?)(hs:w.heap.size≤w'.heap.size):Rel R ρ h w':=by
 refine⟨fun i blk hi=>?_,hr.inj,hr.dom,fun b hb=>a1r (hr.ro b hb) hs⟩;obtain⟨b,N,h1,h2,h3⟩:=hr.live i blk hi;exact⟨b,N,h1,h2.mono h3 (fun hg=>hk b (.inl ⟨i,blk,N,hi,h1,hg⟩)) (fun k hkR=>hk k (.inr hkR)) (fun _ h=>h) (Nm.le_refl _),h3⟩
theorem oO {p:Nat}{w w2 w3:World}{R R':Nat→Prop}{ρ ρ':Nm}{h h':AH}{n m:Int}(hr:Rel R ρ h w)(r2:Rel R' ρ' h' w2)(f2:eF p R ρ h (w.alloc (.cells #[.int .i64 0] 56)) R' ρ' h' w2)(hm:xE (w2.setCell ⟨w.heap.size,0,none⟩ (.int .i64 m)) w3∨xE w2 w3) :
  Rel R' ρ' h' (w3.setCell ⟨w.heap.size,0,none⟩ (.int .i64 n))∧eF p R ρ h w R' ρ' h' (w3.setCell ⟨w.heap.size,0,none⟩ (.int .i64 n)):=by
 have hw1:∀ b,b<w.heap.size→(w.alloc (.cells #[.int .i64 0] 56)).heap[b]?=w.heap[b]?:=fun b hb=>heap_alloc_old w _ b hb;have hsz1:(w.alloc (.cells #[.int .i64 0] 56)).heap.size=w.heap.size+1:=World.size_alloc _ _;have hnl:¬Lv ρ h w.heap.size:=fun hl=>by have:=hr.iS hl;omega
 have bJ:¬R w.heap.size:=fun hl=>by have:=hr.ro _ hl;omega
 have o9:∀ b,Lv ρ' h' b∨R' b→b≠w.heap.size:=by
  rintro b hb rfl;rcases hb with hb | hb
  ·rcases f2.cW _ hb with h | h
   ·exact hnl h
   ·rw [hsz1] at h;omega
  ·rcases f2.cZ _ hb with h | h | h
   ·exact bJ h
   ·exact hnl h
   ·rw [hsz1] at h;omega
 have hlt:∀ b,Lv ρ' h' b∨R' b→b<w2.heap.size:=fun b hb=>hb.elim (fun h=>r2.iS h) (fun h=>r2.ro b h);have hsc:∀ (w:World) (a:Addr) (v:Value),(w.setCell a v).heap.size=w.heap.size:=fun w a v=>by simp [World.setCell]
 have aJz:w2.heap.size≤w3.heap.size:=by
  rcases hm with hm | hm
  ·have:=hm.size;rwa [hsc] at this
  ·exact hm.size
 have hk3:∀ b,b<w2.heap.size→b≠w.heap.size→w3.heap[b]?=w2.heap[b]?:=fun b hb hne=>by
  rcases hm with hm | hm
  ·rw [hm.keeps b (by rw [hsc];exact hb),heap_setCell_other _ _ _ _ hne]
  ·exact hm.keeps b hb
 have hk4:∀ b,b<w2.heap.size→b≠w.heap.size→(w3.setCell ⟨w.heap.size,0,none⟩ (.int .i64 n)).heap[b]?=w2.heap[b]?:=fun b hb hne=>by
  rw [heap_setCell_other _ _ _ _ hne,hk3 b hb hne]
 have hz3:∀ a:Addr,a.block<w2.heap.size→a.block≠w.heap.size→(w3.setCell ⟨w.heap.size,0,none⟩ (.int .i64 n)).frozen? a=w2.frozen? a:=fun a ha hne=>vC (hk4 _ ha hne);have hos:w3.os=w2.os∧w3.tape=w2.tape∧w3.output=w2.output:=by
  rcases hm with hm | hm
  ·exact⟨hm.os,hm.tape,hm.output⟩
  ·exact⟨hm.os,hm.tape,hm.output⟩
 refine⟨F6 r2 (fun b hb=>hk4 b (hlt b hb) (o9 b hb)) (by rw [hsc];exact aJz),⟨hos.1.trans f2.os,hos.2.1.trans f2.tape,hos.2.2.trans f2.output,?_,f2.mV,fun b hb hl=>?_,fun b hl=>?_,fun b hb=>?_,aPB (show w.drawn≤w2.drawn from f2.kQ) (show w2.drawn≤w3.drawn by rcases hm with hm | hm <;> exact hm.drawn),f2.pins⟩⟩
 ·rw [hsc];have:=f2.size;rw [hsz1] at this;omega
 ·have h5:=f2.size;rw [hsz1] at h5;rw [hk4 b (by omega) (by omega),f2.keeps b (by rw [hsz1];omega) hl,hw1 b hb]
 ·rcases f2.cW b hl with h | h
  ·exact .inl h
  ·rw [hsz1] at h;exact .inr (by omega)
 ·rcases f2.cZ b hb with h | h | h
  ·exact .inl h
  ·exact .inr (.inl h)
  ·rw [hsz1] at h;exact .inr (.inr (by omega))
end Go.DI.S
end
