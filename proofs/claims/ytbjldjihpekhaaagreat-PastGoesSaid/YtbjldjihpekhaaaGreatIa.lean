import Derived.Test.YtbjldjihpekhaaaGreatSb
import Derived.Laws.IdiomCopy
import Derived.Laws.Externs
import Derived.Lib.Overlaps
import Derived.Lib.AppendZeros
import Derived.Lib.JoinLaws
import Derived.Shelf.Spec.SlicesInsert
import Derived.Lib.AppendZerosOnto
import Derived.Laws.NewBlocks
import Derived.Test.YtbjldjihpekhaaaGreatDie
/- slices.Insert at things; scene.With. No conditions. -/
set_option linter.unusedSimpArgs false
set_option linter.unusedVariables false
set_option maxRecDepth 100000
set_option maxHeartbeats 0
noncomputable section
namespace Go.DI.S
open Go.Proofs Go.Shelf Go.RowKit Go.Lib
theorem qY {P:Program}(w:World)(dT sT ty elem:TypeId)(b o dLen dCap:Nat)(a:Addr)(sLen sCap size:Nat)(cs:List Value)
  (hu:P.underlying dT=some (.slice elem)) (hs:(P.info? elem).map (·.size)=some size) (hn:cs.length=Nat.min sLen dLen*size)
  (hsrc:∀ j v,cs[j]?=some v→w.cell? (a.add j)=some v) (hc:∀ j,j<cs.length→(w.cell? ⟨b,o+j,none⟩).isSome=true) (hf:∀ j,j<cs.length→w.frozen? ⟨b,o+j,none⟩=false) (h1:∀ v∈cs,v.oneCell'=true) :
  (Builtin.copy_ #[dT,sT] ty #[.slice (some ⟨b,o,none⟩) dLen dCap,.slice (some a) sLen sCap]).run P w=.ok (goInt (Nat.min sLen dLen)) (w.setCells b o cs):=by
 have hl:=run_firstCells_some (P:=P) w size (Nat.min sLen dLen) a sLen sCap cs hn hsrc;have hst:=run_storeCells_cells (P:=P) b o cs 0 w (by simpa using hc) (by simpa using hf) h1;cases hq:P.info? elem with
 | none=>simp [hq] at hs
 | some i=>
  have hi:i.size=size:=by simpa [hq] using hs
  simp only [Nat.add_zero] at hst;simp [Builtin.copy_,run_underlying hu,Builtin.lenOf,sizeOf,typeInfo,hq,hi,hl,hst]
theorem cell_of {w:World}{b:Nat}{arr:Array Value}{t:TypeId}(h:w.heap[b]?=some (.cells arr t (0,0)))(k:Nat):w.cell? ⟨b,k,none⟩=arr[k]?:=by simp [World.cell?,h]
theorem z8 {w:World}{b:Nat}{arr:Array Value}{t:TypeId}(h:w.heap[b]?=some (.cells arr t (0,0)))(k:Nat):w.frozen? ⟨b,k,none⟩=false:=by simp [World.frozen?,h]
theorem x9 {w:World}{b:Nat}{arr:Array Value}{t:TypeId}(h:w.heap[b]?=some (.cells arr t (0,0))):w.shape? b=some (t,arr.size):=by simp [World.shape?,h]
theorem aB2 (w:World)(b vb i n cap vc:Nat)(arr j0:Array Value)(hb:w.heap[b]?=some (.cells arr 68 (0,0)))(hv:w.heap[vb]?=some (.cells j0 68 (0,0)))(hne:vb≠b)
  (h1:∀ t,t<n*14→∃ u,arr[t]?=some u∧u.oneCell'=true) (h2:∀ t,t<14→∃ u,j0[t]?=some u∧u.oneCell'=true)
  (hi:i<n) (hn:n+1≤cap) (hcap:cap*14≤arr.size) (hbig:n≤1000000000) :
  Calls Tryz.prog 220 #[.slice (some ⟨b,0,none⟩) n cap,.int .i64 i,.slice (some ⟨vb,0,none⟩) 1 vc] w fun e w'=>e=.returned (.slice (some ⟨b,0,none⟩) (n+1) cap) ∧
   w'=(w.drew.setCells b ((i+1)*14) ((arr.toList.take (n*14)).drop (i*14))).setCells b (i*14) (j0.toList.take 14):=by
 have mixed:Tryz.prog.follows .mixedOrders:=by kernel_rfl
 have hsz:(Tryz.prog.info? 68).map (·.size)=some 14:=by kernel_rfl
 have hva:14≤j0.size:=by
  obtain⟨u,hu,_⟩:=h2 13 (by omega);have:=(aZK.1 hu).1;omega
 obtain⟨cs,hcs⟩:∃ cs:List Value,cs=(arr.toList.take (n*14)).drop (i*14):=⟨_,rfl⟩;obtain⟨vs,hvs⟩:∃ vs:List Value,vs=j0.toList.take 14:=⟨_,rfl⟩;have hcl:cs.length=(n-i)*14:=by rw [hcs];simp;omega
 have hvl:vs.length=14:=by rw [hvs];simp;omega
 have RB:∀ (t:Nat) (u:Value),cs[t]?=some u→arr[i*14+t]?=some u:=by
  intro t u h;have ht:=(aK2.1 h).1;rw [hcs,a1f,aXO (by omega),aQ3] at h;exact h
 have RC:∀ (t:Nat) (u:Value),vs[t]?=some u→j0[t]?=some u:=by
  intro t u h;have ht:=(aK2.1 h).1;rw [hvs,aXO (by omega),aQ3] at h;exact h
 have h1c:∀ v∈cs,v.oneCell'=true:=by
  intro v hv;obtain⟨t,ht⟩:=List.mem_iff_getElem?.1 hv;have htl:=(aK2.1 ht).1;have:=RB t v ht;obtain⟨u,hu,h'⟩:=h1 (i*14+t) (by omega);rw [hu] at this;exact(Option.some.inj this)▸h'
 have h1v:∀ v∈vs,v.oneCell'=true:=by
  intro v hv;obtain⟨t,ht⟩:=List.mem_iff_getElem?.1 hv;have htl:=(aK2.1 ht).1;have:=RC t v ht;obtain⟨u,hu,h'⟩:=h2 t (by omega);rw [hu] at this;exact(Option.some.inj this)▸h'
 have hov:∀ lb cb,(callFunc 256 #[.slice (some ⟨vb,0,none⟩) 1 vc,.slice (some ⟨b,(i+1)*14,none⟩) lb cb]).run Tryz.prog w=.ok (.value (.bool false)) w:=fun lb cb=>by
  rw [run_callFunc_extern Tryz.func256 (by kernel_rfl) (by kernel_rfl) (by kernel_rfl) (e:=Extern.SlicesOverlaps.overlaps #[49,49] #[4]) (by kernel_rfl),
   Lib.run_overlaps_apart w 49 4 68 Tryz.underlying49 14 Tryz.sizeOf68 ⟨vb,0,none⟩ ⟨b,(i+1)*14,none⟩ 1 vc lb cb hne _ _ _ _ (x9 hv) (x9 hb) (by omega) (z8 hv _) (z8 hv _)]
  rfl
 have hw1:IntKind.i64.wrap ((i:Int)+1)=(i:Int)+1:=by rw [IntKind.wrap_i64];omega
 have hw2:IntKind.i64.wrap ((n:Int)+1)=(n:Int)+1:=by rw [IntKind.wrap_i64];omega
 have hb0:¬((i:Int)=(n:Int)):=by omega
 have hb1:(0:Int)≤(i:Int)+1:=by omega
 have hin:i≤n:=by omega
 have htn:((i:Int)+1).toNat=i+1:=by omega
 have hb2:¬(cap=i+1):=by omega
 have hb3:(i:Int)≤(n:Int)+1:=by omega
 have hb4:¬(cap=i):=by omega
 have bA8:∀ ty dc sc,(Builtin.copy_ #[49,49] ty #[.slice (some ⟨b,(i+1)*14,none⟩) (n-i) dc,.slice (some ⟨b,i*14,none⟩) (n+1-i) sc]).run Tryz.prog w.drew=.ok (goInt ((n-i:Nat):Int)) (w.drew.setCells b ((i+1)*14) cs):=fun ty dc sc=>by
  have:=qY (P:=Tryz.prog) w.drew 49 49 ty 68 b ((i+1)*14) (n-i) dc ⟨b,i*14,none⟩ (n+1-i) sc 14 cs Tryz.underlying49 hsz (by rw [hcl];simp only [Nat.min_def];split <;> omega)
   (fun j v hj=>by rw [Addr.add_lit,cell_of (w:=w.drew) hb];exact RB j v hj) (fun j hj=>by rw [cell_of (w:=w.drew) hb,aXN (by omega)];rfl) (fun j hj=>z8 (w:=w.drew) hb _) h1c
  rw [this];congr 2;simp only [Nat.min_def];split <;> omega
 obtain⟨W1,hW1⟩:∃ W1,W1=w.drew.setCells b ((i+1)*14) cs:=⟨_,rfl⟩;obtain⟨aPh,a41,hsz1⟩:∃ aPh,W1.heap[b]?=some (.cells aPh 68 (0,0))∧aPh.size=arr.size:=by
  obtain⟨CU,h5,h6⟩:=dZ (b:=b) cs ((i+1)*14) w.drew arr hb (by rw [hcl];omega);refine⟨CU,by rw [hW1];exact h5,?_⟩;have:=aKR List.length h6;simp at this;omega
 have hv1:W1.heap[vb]?=some (.cells j0 68 (0,0)):=by rw [hW1,dO _ _ _ vb hne];exact hv
 have bGm:∀ (W:World),(∀ x,W.cell? x=W1.cell? x)→(∀ x,W.frozen? x=W1.frozen? x)→∀ ty dc,(Builtin.copy_ #[49,49] ty #[.slice (some ⟨b,i*14,none⟩) (n+1-i) dc,.slice (some ⟨vb,0,none⟩) 1 vc]).run Tryz.prog W=.ok (goInt 1) (W.setCells b (i*14) vs):=fun W hWc hWf ty dc=>by
  have:=qY (P:=Tryz.prog) W 49 49 ty 68 b (i*14) (n+1-i) dc ⟨vb,0,none⟩ 1 vc 14 vs Tryz.underlying49 hsz (by rw [hvl];simp only [Nat.min_def];split <;> omega)
   (fun j v hj=>by rw [Addr.add_lit,hWc,cell_of hv1,aZ3];exact RC j v hj) (fun j hj=>by rw [hWc,cell_of a41,aXN (by omega)];rfl) (fun j hj=>by rw [hWf];exact z8 a41 _) h1v
  rw [this];congr 2;simp only [Nat.min_def];split <;> omega
 rw [← hW1] at bA8;rw [← hcs,← hvs,← hW1];clear hcs hvs hcl hvl RB RC h1c h1v h1 h2 hva hb hv a41 hv1 hsz1 hcap
 go_enter Tryz.func220,Tryz.ntmps220
 go_wp2_with (simp only [hov])
 go_region_law_o (refine step_copy_runI rfl _ _ 49 49 rfl _ _ (by simp [Act.eval,Act.put]) (by simp [Act.eval,Act.put]) (bA8 _ _ _) ?_)
 go_wp2_with (at_builtin;refine wpList_copy_runI _ rfl _ _ 49 49 rfl _ _ rfl rfl (bGm _ (fun _=>rfl) (fun _=>rfl) _ _) ?_)
 go_ret
 exact⟨rfl,by rw [hW1]⟩
theorem aFI (w:World)(b vb i n cap vc:Nat)(arr j0:Array Value)(hb:w.heap[b]?=some (.cells arr 68 (0,0)))(hv:w.heap[vb]?=some (.cells j0 68 (0,0)))
  (h1:∀ t,t<n*14→∃ u,arr[t]?=some u∧u.oneCell'=true) (h2:∀ t,t<14→∃ u,j0[t]?=some u∧u.oneCell'=true)
  (hi:i<n) (hnc:n≤cap) (hn:cap<n+1) (hcap:cap*14≤arr.size) (hbig:n≤1000000000) :
  Calls Tryz.prog 220 #[.slice (some ⟨b,0,none⟩) n cap,.int .i64 i,.slice (some ⟨vb,0,none⟩) 1 vc] w fun e w'=>∃ (G:Nat) (ROW:Array Value),n+1≤G∧ROW.size=G*14∧(∀ t,t<i*14→ROW[t]?=arr[t]?) ∧
   e=.returned (.slice (some ⟨w.heap.size,0,none⟩) (n+1) G) ∧
   w'=(((w.alloc (.cells ROW 68)).drew.setCells w.heap.size (i*14) (j0.toList.take 14)).drew).setCells w.heap.size ((i+1)*14) ((arr.toList.take (n*14)).drop (i*14)):=by
 have mixed:Tryz.prog.follows .mixedOrders:=by kernel_rfl
 obtain⟨i0,hi0,hz0,hzs,hzb⟩:=info_parts (P:=Tryz.prog) (e:=68) (z:=.agg #[.int .i64 0,.int .i64 0,.int .i64 0,.int .i64 0,.int .i64 0,.int .i64 0,.int .i64 0,.int .i64 0,.int .i64 0,.int .i64 0,.int .i64 0,.int .i64 0,.int .i64 0,.slice none 0 0]) (size:=14) (bytes:=128) (by kernel_rfl);have hsz:(Tryz.prog.info? 68).map (·.size)=some 14:=by rw [hi0];simp [hzs]
 have hva:14≤j0.size:=by
  obtain⟨u,hu,_⟩:=h2 13 (by omega);have:=(aZK.1 hu).1;omega
 obtain⟨cs,hcs⟩:∃ cs:List Value,cs=(arr.toList.take (n*14)).drop (i*14):=⟨_,rfl⟩;obtain⟨vs,hvs⟩:∃ vs:List Value,vs=j0.toList.take 14:=⟨_,rfl⟩;obtain⟨os,hos⟩:∃ os:List Value,os=arr.toList.take (i*14):=⟨_,rfl⟩;have hcl:cs.length=(n-i)*14:=by rw [hcs];simp;omega
 have hvl:vs.length=14:=by rw [hvs];simp;omega
 have hol:os.length=i*14:=by rw [hos];simp;omega
 have RB:∀ (t:Nat) (u:Value),cs[t]?=some u→arr[i*14+t]?=some u:=by
  intro t u h;have ht:=(aK2.1 h).1;rw [hcs,a1f,aXO (by omega),aQ3] at h;exact h
 have RC:∀ (t:Nat) (u:Value),vs[t]?=some u→j0[t]?=some u:=by
  intro t u h;have ht:=(aK2.1 h).1;rw [hvs,aXO (by omega),aQ3] at h;exact h
 have a2n:∀ (t:Nat) (u:Value),os[t]?=some u→arr[t]?=some u:=by
  intro t u h;have ht:=(aK2.1 h).1;rw [hos,aXO (by omega),aQ3] at h;exact h
 have h1c:∀ v∈cs,v.oneCell'=true:=by
  intro v hv;obtain⟨t,ht⟩:=List.mem_iff_getElem?.1 hv;have htl:=(aK2.1 ht).1;have:=RB t v ht;obtain⟨u,hu,h'⟩:=h1 (i*14+t) (by omega);rw [hu] at this;exact(Option.some.inj this)▸h'
 have h1v:∀ v∈vs,v.oneCell'=true:=by
  intro v hv;obtain⟨t,ht⟩:=List.mem_iff_getElem?.1 hv;have htl:=(aK2.1 ht).1;have:=RC t v ht;obtain⟨u,hu,h'⟩:=h2 t (by omega);rw [hu] at this;exact(Option.some.inj this)▸h'
 have hbw:b<w.heap.size:=(aZK.1 hb).1;have hvw:vb<w.heap.size:=(aZK.1 hv).1;have hkk:(n:Int)+1-(i:Int)=((n+1-i:Nat):Int):=by omega
 have hik:i+(n+1-i)=n+1:=by omega
 have hold:(Builtin.firstCells i0.size i (.slice (some ⟨b,0,none⟩) i cap)).run Tryz.prog w.drew=.ok os.toArray w.drew:=by
  rw [hzs];exact run_firstCells_some w.drew 14 i ⟨b,0,none⟩ i cap os hol (fun j v hj=>by
   rw [Addr.add_lit,cell_of (w:=w.drew) hb,aZ3];exact a2n j v hj)
 obtain⟨zc,hzc⟩:∃ zc:Array Value,zc=(Value.agg #[.int .i64 0,.int .i64 0,.int .i64 0,.int .i64 0,.int .i64 0,.int .i64 0,.int .i64 0,.int .i64 0,.int .i64 0,.int .i64 0,.int .i64 0,.int .i64 0,.int .i64 0,.slice none 0 0]).cells:=⟨_,rfl⟩;have hzl:zc.size=14:=by rw [hzc];rfl
 have hrz:∀ ty,(Builtin.append_ #[49,3] ty #[.slice (some ⟨b,0,none⟩) i cap,.int .i64 ((n:Int)+1-(i:Int))]).run Tryz.prog w =
   .ok (.slice (some ⟨w.heap.size,0,none⟩) (n+1) (grownCap w (n+1) cap 68)) (w.drew.alloc (.cells (os.toArray++Builtin.zeroCells zc (n+1-i)++Builtin.zeroCells zc (grownCap w (n+1) cap 68-(n+1))) 68)):=fun ty=>by
  have h:=Lib.run_append_grow_zeros w 49 3 ty 68 i0 _ .i64 .i64 Tryz.underlying49 Tryz.underlying3 hi0 hz0 (some ⟨b,0,none⟩) i cap os hold (n+1-i) (by omega) (by omega) (by omega) (by omega) (by rw [hzb];omega) (by rw [hzb,hik];exact growslice_fits (by omega) (by omega));rw [hik,← hzc] at h;rw [hkk];exact h
 obtain⟨G,hG⟩:∃ G,G=grownCap w (n+1) cap 68:=⟨_,rfl⟩;have hGn:n+1≤G:=by rw [hG];exact grownCap_ge w _ _ _
 have bJu:G≤9223372036854775807:=by
  have:=grownCap_le_maxLen w (n+1) cap 68 (by unfold maxLen;omega);rw [← hG] at this;unfold maxLen at this;omega
 obtain⟨ROW,aYX⟩:∃ ROW:Array Value,ROW=os.toArray++Builtin.zeroCells zc (n+1-i)++Builtin.zeroCells zc (G-(n+1)):=⟨_,rfl⟩;rw [← hG] at hrz;rw [← aYX] at hrz;have hRs:ROW.size=G*14:=by
  rw [aYX];simp [Builtin.zeroCells,hzl,hol];omega
 have hRt:∀ t,t<i*14→ROW[t]?=arr[t]?:=by
  intro t ht;rw [aYX,Array.getElem?_append_left (by simp [Builtin.zeroCells,hzl,hol];omega),Array.getElem?_append_left (by simp [hol];omega)];rw [List.getElem?_toArray,hos,aXO ht,aQ3]
 obtain⟨W1,hW1⟩:∃ W1,W1=w.drew.alloc (.cells ROW 68):=⟨_,rfl⟩;rw [← hW1] at hrz;have hN0:W1.heap[w.heap.size]?=some (.cells ROW 68 (0,0)):=by rw [hW1];exact Array.getElem?_push_size
 have bBa:W1.heap[vb]?=some (.cells j0 68 (0,0)):=by rw [hW1];exact(heap_alloc_old w.drew _ vb hvw).trans hv
 have bBb:W1.heap[b]?=some (.cells arr 68 (0,0)):=by rw [hW1];exact(heap_alloc_old w.drew _ b hbw).trans hb
 have bGn:∀ (W:World),(∀ x,W.cell? x=W1.cell? x)→(∀ x,W.frozen? x=W1.frozen? x)→∀ ty dc,(Builtin.copy_ #[49,49] ty #[.slice (some ⟨w.heap.size,i*14,none⟩) (n+1-i) dc,.slice (some ⟨vb,0,none⟩) 1 vc]).run Tryz.prog W=.ok (goInt 1) (W.setCells w.heap.size (i*14) vs):=fun W hWc hWf ty dc=>by
  have:=qY (P:=Tryz.prog) W 49 49 ty 68 w.heap.size (i*14) (n+1-i) dc ⟨vb,0,none⟩ 1 vc 14 vs Tryz.underlying49 hsz (by rw [hvl];simp only [Nat.min_def];split <;> omega)
   (fun j v hj=>by rw [Addr.add_lit,hWc,cell_of bBa,aZ3];exact RC j v hj) (fun j hj=>by rw [hWc,cell_of hN0,aXN (by omega)];rfl) (fun j hj=>by rw [hWf];exact z8 hN0 _) h1v
  rw [this];congr 2;simp only [Nat.min_def];split <;> omega
 have hbN:b≠w.heap.size:=by omega
 obtain⟨bJw,hN2,bGo⟩:∃ aPh,(W1.setCells w.heap.size (i*14) vs).heap[w.heap.size]?=some (.cells aPh 68 (0,0))∧aPh.size=ROW.size:=by
  obtain⟨CU,h5,h6⟩:=dZ (b:=w.heap.size) vs (i*14) W1 ROW hN0 (by rw [hvl];omega);refine⟨CU,h5,?_⟩;have:=aKR List.length h6;simp at this;omega
 have bBc:(W1.setCells w.heap.size (i*14) vs).heap[b]?=some (.cells arr 68 (0,0)):=(dO _ _ _ b hbN).trans bBb;have bBd:∀ (W:World),(∀ x,W.cell? x=(W1.setCells w.heap.size (i*14) vs).cell? x)→(∀ x,W.frozen? x=(W1.setCells w.heap.size (i*14) vs).frozen? x)→∀ ty dc sc,(Builtin.copy_ #[49,49] ty #[.slice (some ⟨w.heap.size,(i+1)*14,none⟩) (n-i) dc,.slice (some ⟨b,i*14,none⟩) (n-i) sc]).run Tryz.prog W=.ok (goInt ((n-i:Nat):Int)) (W.setCells w.heap.size ((i+1)*14) cs):=fun W hWc hWf ty dc sc=>by
  have:=qY (P:=Tryz.prog) W 49 49 ty 68 w.heap.size ((i+1)*14) (n-i) dc ⟨b,i*14,none⟩ (n-i) sc 14 cs Tryz.underlying49 hsz (by rw [hcl];simp only [Nat.min_def];split <;> omega)
   (fun j v hj=>by rw [Addr.add_lit,hWc,cell_of bBc];exact RB j v hj) (fun j hj=>by rw [hWc,cell_of hN2,aXN (by omega)];rfl) (fun j hj=>by rw [hWf];exact z8 hN2 _) h1c
  rw [this];congr 2;simp only [Nat.min_def];split <;> omega
 subst hW1;have hE1:∀ x,((w.alloc (.cells ROW 68)).drew).cell? x=(w.drew.alloc (.cells ROW 68)).cell? x:=fun x=>rfl;have hE2:∀ x,((w.alloc (.cells ROW 68)).drew).frozen? x=(w.drew.alloc (.cells ROW 68)).frozen? x:=fun x=>rfl;have hF1:∀ x,(((w.alloc (.cells ROW 68)).drew.setCells w.heap.size (i*14) vs).drew).cell? x=((w.drew.alloc (.cells ROW 68)).setCells w.heap.size (i*14) vs).cell? x:=fun x=>rfl;have hF2:∀ x,(((w.alloc (.cells ROW 68)).drew.setCells w.heap.size (i*14) vs).drew).frozen? x=((w.drew.alloc (.cells ROW 68)).setCells w.heap.size (i*14) vs).frozen? x:=fun x=>rfl;have hw1:IntKind.i64.wrap ((i:Int)+1)=(i:Int)+1:=by rw [IntKind.wrap_i64];omega
 have hw2:IntKind.i64.wrap ((n:Int)+1)=(n:Int)+1:=by rw [IntKind.wrap_i64];omega
 have hw3:IntKind.i64.wrap ((n:Int)+1-(i:Int))=(n:Int)+1-(i:Int):=by rw [IntKind.wrap_i64];omega
 have hz2:¬((i:Int)=(n:Int)):=by omega
 have hz3:(cap:Int)<(n:Int)+1:=by omega
 have hb1:(0:Int)≤(i:Int)+1:=by omega
 have hin:i≤n:=by omega
 have htn:((i:Int)+1).toNat=i+1:=by omega
 have hb3:(i:Int)≤(n:Int):=by omega
 have hGi:¬(G=i):=by omega
 have bJA:¬(G=i+1):=by omega
 have hci:¬(cap=i):=by omega
 rw [← hcs,← hvs]
 suffices hgoal:Calls Tryz.prog 220 #[.slice (some ⟨b,0,none⟩) n cap,.int .i64 i,.slice (some ⟨vb,0,none⟩) 1 vc] w fun e w'=>
   e=.returned (.slice (some ⟨w.heap.size,0,none⟩) (n+1) G) ∧
   w'=(((w.alloc (.cells ROW 68)).drew.setCells w.heap.size (i*14) vs).drew).setCells w.heap.size ((i+1)*14) cs by
  refine hgoal.mono ?_;rintro e w' ⟨rfl,rfl⟩;exact⟨G,ROW,hGn,hRs,hRt,rfl,rfl⟩
 clear hkk hik hold aYX hG hRs hRt hcs hvs hos hcl hvl hol RB RC a2n h1c h1v h1 h2 hva hb hv hN0 bBa bBb hN2 bGo bBc hcap hzc hzl
 go_enter Tryz.func220,Tryz.ntmps220
 go_wp2_with (first
  | (at_builtin;refine Lib.wpList_append_run _ rfl _ _ _ _ rfl _ _ rfl rfl _ _ (hrz _) ?_)
  | (at_builtin;refine wpList_copy_runI _ rfl _ _ 49 49 rfl _ _ rfl rfl (bGn _ hE1 hE2 _ _) ?_)
  | (at_builtin;refine wpList_copy_runI _ rfl _ _ 49 49 rfl _ _ rfl rfl (bBd _ (fun _=>rfl) (fun _=>rfl) _ _ _) ?_))
 go_region_law_o (refine step_copy_runI rfl _ _ 49 49 rfl (.slice (some ⟨w.heap.size,(i+1)*14,none⟩) (n-i) (G-(i+1))) (.slice (some ⟨b,i*14,none⟩) (n-i) (cap-i)) (by simp [Act.eval,Act.put]) (by simp [Act.eval,Act.put]) (bBd _ hF1 hF2 3 (G-(i+1)) (cap-i)) ?_)
 go_wp2
 go_ret
 exact⟨rfl,rfl⟩
theorem RD {w:World}{R:Nat→Prop}{ρ ρ':Nm}{b:Nat}{N:BN}{bt:TypeId}{t:Ty}{l:List t.El}(h:dY w R ρ b N (.row bt t l)):dY w R ρ' b N (.row bt t l):=by
 obtain⟨h1,h2⟩:=h;refine⟨h1,fun hg=>?_⟩;obtain⟨arr,k1,k2,k3,k4⟩:=h2 hg;refine⟨arr,k1,k2,k3,fun j o c hj hc=>?_⟩;obtain⟨u,m1,m2⟩:=k4 j o c hj hc;exact⟨u,m1,t.eV _ c (aPl hc) _ _ _ _ _ m2⟩
def nm0 (b:Nat)(N:BN):Nm:=fun i=>if i=0 then some (b,N) else none
theorem bBe (b:Nat)(N:BN):nm0 b N 0=some (b,N):=rfl
theorem aB3 {w:World}{R:Nat→Prop}{b:Nat}{N:BN}{bt:TypeId}{t:Ty}{l:List t.El}(h:dY w R (nm0 b N) b N (.row bt t l))(gG:Real R b N (.row bt t l))(hro:∀ c,R c→c<w.heap.size) :
  Rel R (nm0 b N) [some (.row bt t l)] w:=by
 have one:∀ (k:Nat) (bk:cQ),([some (cQ.row bt t l)]:AH)[k]?=some (some bk)→k=0∧bk=.row bt t l:=by
  intro k bk hk;cases k with
  | zero=>simp at hk;exact⟨rfl,hk.symm⟩
  | succ k=>simp at hk
 refine⟨fun k blk hk=>?_,fun k k' bk bk' c Nk Nk' hk hk' _ _ _ _=>?_,fun k hk=>?_,hro⟩
 ·obtain⟨rfl,rfl⟩:=one k blk hk;exact⟨b,N,rfl,h,gG⟩
 ·rw [(one k _ hk).1,(one k' _ hk').1]
 ·have:k≠0:=by rintro rfl;simp at hk
  exact aJn this
theorem aJc {b:Nat}{N:BN}{bt:TypeId}{t:Ty}{l:List t.El}{c:Nat}(h:Lv (nm0 b N) [some (.row bt t l)] c):c=b∧N.gh=false:=by
 obtain⟨k,blk,M,hk,hn,hg⟩:=h;cases k with
 | zero=>
  rw [bBe] at hn;simp only [aJp,aKN] at hn;obtain⟨rfl,rfl⟩:=hn;exact⟨rfl,hg⟩
 | succ k=>simp at hk
abbrev a43:aF:=⟨3,[(0,.own aA 0),(1,.data I),(2,.own aA 1)],[.row 68 aA,.row 68 aA],fun s=>[aG s 0,aG s 2]⟩
abbrev aL3:aF:=⟨1,[(0,.own aA 0)],[.row 68 aA],fun _=>[0]⟩
def a44 (l v:List Thing)(i:Int):Option (List Thing):=bif decide ((0:Int)≤i)&&(decide (i≤(l.length:Int))&&(Nat.beq v.length 1&&Nat.ble l.length 1000000)) then some (l.take i.toNat++v++l.drop i.toNat) else none
def Y4 (i:Int)(l v:List Thing):Option aL3.El:=(a44 l v i).bind fun y=>some (((),()),y,())
def a2o:DF:=⟨0,[.bU 0 68 aA,.dJ 2 68 aA],a43,aL3,fun x=>Y4 x.1.2.1 x.2.1 x.2.2.1⟩
theorem RF {R:Nat→Prop}{ρ:Nm}{w w':World}{l v l2:List Thing}{nb cap:Nat}{N:BN}{h0:AH}(hr:Rel R ρ h0 w)
  (h1:w'.os=w.os) (h2:w'.tape=w.tape) (h3:w'.output=w.output) (h4:w.heap.size≤w'.heap.size) (hdr:w.drawn≤w'.drawn) (hkeep:∀ k,k<w.heap.size→k≠nb→w'.heap[k]?=w.heap[k]?)
  (hnb:(Lv ρ h0 nb∧∃ a1 t1,w.heap[nb]?=some (.cells a1 t1 (0,0)))∨w.heap.size≤nb) {vR:Array Value} (hb2:w'.heap[nb]?=some (.cells vR 68 (0,0))) (o9:l2.length*14≤vR.size) (hcells:aK w R ρ (aA.flat l2) (vR.toList.take (l2.length*14))) (hlc:l2.length≤cap) (hcap:cap*14≤vR.size) :
  ∃ R' ρ',aI w' R' ρ' (.bL aA 0) (.slice (some ⟨nb,0,none⟩) l2.length cap)∧Rel R' ρ' [some (.row 68 aA l2)] w'∧eF 0 R ρ h0 w R' ρ' [some (.row 68 aA l2)] w':=by
 have bJ:¬R nb:=by
  intro hR;rcases hnb with⟨⟨i,blk,M,hi,hn,hg⟩,_⟩ | h
  ·exact hr.qU hR ⟨i,blk,M,hi,hn,hg⟩
  ·have:=hr.ro nb hR;omega
 have hB:dY w' R ρ nb ⟨vR.size,l2.length,false⟩ (.row 68 aA l2):=j8 ⟨vR,hb2,rfl,by rw [aA.cH];exact o9,by
  rw [aA.cH];exact hcells.mono (fun k hk=>hkeep k (hr.ro k hk) (fun e=>bJ (e▸hk))) (fun _ h=>h) (Nm.le_refl _)⟩ rfl
 refine⟨R,nm0 nb ⟨vR.size,l2.length,false⟩,.bL (N:=⟨vR.size,l2.length,false⟩) rfl rfl hlc hcap,aB3 (RD hB) (.inl ⟨rfl,bJ⟩) (fun c hc=>a1r (hr.ro c hc) h4),
  ⟨h1,h2,h3,h4,fun _ h=>h,fun c hc hnl=>hkeep c hc (fun e=>?_),fun c hl=>?_,fun _ h=>.inl h,hdr,fun i bn hi=>absurd hi (a9x _)⟩⟩
 ·subst e;rcases hnb with⟨h,_⟩ | h
  ·exact hnl h
  ·omega
 ·rw [(aJc hl).1];rcases hnb with⟨h,_⟩ | h
  ·exact .inl h
  ·exact .inr h
theorem aY0 {α:Type}{A A1 A2 vs cs:List α}{p q:Nat}(h1:A1=A.take p++vs++A.drop (p+vs.length))(h2:A2=A1.take (p+vs.length)++cs++A1.drop (p+vs.length+cs.length))(hp:p≤A.length)(hq:q=p+vs.length+cs.length) :
  A2.take q=A.take p++vs++cs:=by
 have k1:(A.take p++vs).length=p+vs.length:=by simp;omega
 have k2:A1.take (p+vs.length)=A.take p++vs:=by rw [h1,List.take_left' k1]
 rw [h2,k2,List.take_left' (by rw [aPk,k1,hq])]
theorem aSZ {α:Type}{A A1 A2 vs cs:List α}{p q o:Nat}(h1:A1=A.take o++cs++A.drop (o+cs.length))(h2:A2=A1.take p++vs++A1.drop (p+vs.length))(ho:o=p+vs.length)(hp:o+cs.length≤A.length)(hq:q=p+vs.length+cs.length) :
  A2.take q=A.take p++vs++cs:=by
 have k1:(A.take o).length=o:=by simp;omega
 have k2:A1.take p=A.take p:=by rw [h1,aQ4,List.take_append_of_le_length (by omega),List.take_take,Nat.min_eq_left (by omega)]
 have k3:A1.drop (p+vs.length)=cs++A.drop (o+cs.length):=by rw [h1,← ho,aQ4,List.drop_left' k1]
 rw [h2,k2,k3,← aQ4];exact List.take_left' (by simp;omega)
theorem a47:a2o.Ok CT.P 220:=by
 intro x y hxy R ρ w vs hr hvs;obtain⟨⟨x0,(ix:Int),x2,x3⟩,(l:List Thing),(v:List Thing),x6⟩:=x;have hxy:Y4 ix l v=some y:=hxy;unfold Y4 a44 at hxy;cases hb:decide ((0:Int)≤ix)&&(decide (ix≤(l.length:Int))&&(Nat.beq v.length 1&&Nat.ble l.length 1000000)) with
 | false=>rw [hb] at hxy;cases hxy
 | true=>
 rw [hb] at hxy;simp only [cond_true,aEk] at hxy;simp only [aKS,decide_eq_true_eq] at hb;obtain⟨g1,g2,g3,g4⟩:=hb;have g3:=aXS g3;have g4:=a9q g4;obtain⟨i,rfl⟩:=Int.eq_ofNat_of_zero_le g1;have g2:i≤l.length:=by omega
 have hy:y=(((),()),l.take i++v++l.drop i,()):=(Option.some.inj hxy).symm;subst hy;have hr:Rel R ρ [some (.row 68 aA l),some (.row 68 aA v)] w:=hr;have hvs:aK w R ρ [.bL aA 0,.int .i64 i,.bL aA 1] vs.toList:=hvs;show Calls Tryz.prog 220 vs w fun q w'=>∃ R' ρ' u,q=.returned u∧aI w' R' ρ' (.bL aA 0) u∧Rel R' ρ' [some (.row 68 aA (l.take i++v++l.drop i))] w'∧eF 0 R ρ [some (.row 68 aA l),some (.row 68 aA v)] w R' ρ' [some (.row 68 aA (l.take i++v++l.drop i))] w';by_cases hend:i=l.length
 ·-- behind the last: as it is told already
  subst hend;obtain⟨R1,r1,f1,bGp⟩:∃ R1,Rel R1 ρ [some (.row 68 aA l),none] w∧fB R ρ [some (.row 68 aA l),some (.row 68 aA v)] w R1 ρ [some (.row 68 aA l),none] w∧aK w R1 ρ [.bL aA 0,.int .i64 l.length,.nF aA v] vs.toList:=by
   obtain⟨u0,us,hu,k1,k2⟩:=hvs.cons_inv;obtain⟨u1,us1,rfl,k3,k4⟩:=k2.cons_inv;obtain⟨u2,us2,rfl,k5,k6⟩:=k4.cons_inv;obtain rfl:=k6.bE;have hfr:Ty.kQ (.list aA) [some (.row 68 aA l),some (.row 68 aA v)] (.bL aA 1)=some (v,[some (.row 68 aA l),none]):=by
    simp [Ty.kQ,Ty.isAgg,Ty.xR,aEE]
   obtain⟨R1,r1,f1,v1⟩:=(Ty.list aA).C5 hr hfr k5;refine⟨R1,r1,f1,?_⟩;rw [hu];exact .cons (k1.EM f1 hr) (.cons (k3.EM f1 hr) (.cons v1 .nil))
  have hF:aYS l (l.length:Int) v=some (l++v):=by
   unfold aYS;have c1:(0:Int)≤(l.length:Int)∧(l.length:Int)≤(l.length:Int):=⟨by omega,Int.le_refl _⟩;have c2:(((v.length:Nat):Int)==0)=false:=by rw [beq_eq_false_iff_ne];omega
   have c3:(((l.length:Nat):Int)==(l.length:Int))=true:=by simp
   have c4:Nat.ble ((l.length+v.length)*128) 70368744177664=true:=aPp (by omega);rw [aKO c1,cond_true,c2,cond_false,c3,cond_true,c4,cond_true]
  have hac:=bGc l ((l.length:Int),(v:List Thing),()) (l++v) hF;have hca:=AC.a1U (h:=[some (.row 68 aA l),none]) (i:=0) hac (dP [.ty I,.ty (.list aA)] ((l.length:Int),(v:List Thing),())) rfl;refine(hca R1 ρ w vs r1 bGp).mono ?_;rintro e w' ⟨R',ρ',u,rfl,hu,r2,f2⟩;have r2:Rel R' ρ' [none,none,some (.row 68 aA (l++v))] w':=r2;have f2:fB R1 ρ [some (.row 68 aA l),none] w R' ρ' [none,none,some (.row 68 aA (l++v))] w':=f2;have hu:aI w' R' ρ' (.bL aA 2) u:=hu;obtain⟨nb,N,hn,hB,gG⟩:=r2.live 2 _ rfl;have he:l.take l.length++v++l.drop l.length=l++v:=by simp
  rw [he];have hlv2:N.gh=false→Lv ρ' [none,none,some (.row 68 aA (l++v))] nb:=fun hg=>⟨2,_,N,rfl,hn,hg⟩;refine⟨R',nm0 nb N,u,rfl,?_,aB3 (RD hB) gG r2.ro,⟨f2.os,f2.tape,f2.output,f2.size,fun b hb=>f2.mV b (f1.mV b hb),fun b hb hl=>?_,fun b hl=>?_,fun b hb=>?_,f2.kQ,fun i bn hi=>absurd hi (a9x _)⟩⟩
  ·cases hu with
   | @bL _ _ b' N' cap hn' hg hl hc=>
    rw [hn] at hn';simp only [aJp,aKN] at hn';obtain⟨rfl,rfl⟩:=hn';exact .bL rfl hg hl hc
   | @iY _ _ b' N' hn' hg=>
    rw [hn] at hn';simp only [aJp,aKN] at hn';obtain⟨rfl,rfl⟩:=hn';exact .iY rfl hg
  ·refine f2.keeps b hb (fun h1=>?_);rcases f1.cW b h1 with h2 | h2
   ·exact hl h2
   ·omega
  ·obtain⟨rfl,hg⟩:=aJc hl;rcases f2.cW _ (hlv2 hg) with h | h
   ·rcases f1.cW _ h with h | h
    ·exact .inl h
    ·exact .inr h
   ·exact .inr h
  ·rcases f2.cZ b hb with h | h | h
   ·exact f1.cZ b h
   ·rcases f1.cW b h with h | h
    ·exact .inr (.inl h)
    ·exact .inr (.inr h)
   ·exact .inr (.inr h)
 ·have hil:i<l.length:=by omega
  obtain⟨u0,us,hu,k1,k2⟩:=hvs.cons_inv;obtain⟨u1,us1,rfl,k3,k4⟩:=k2.cons_inv;obtain⟨u2,us2,rfl,k5,k6⟩:=k4.cons_inv;obtain rfl:=k6.bE;have hv:vs=#[u0,u1,u2]:=aRl.1 (by simpa using hu);subst hv;cases k3;have hnil:∀ {bt:TypeId} {m:List Thing} {b:Nat} {N:BN},Real R b N (.row bt aA m)→N.gh=true→m=[]:=by
   intro bt m b N h hg;rcases h with⟨h5,_⟩ | ⟨_,t,ty,h5⟩
   ·rw [hg] at h5;cases h5
   ·injection h5 with _ h6 h7
    subst h6;exact eq_of_heq h7
  cases k1 with
  | @iY _ _ b N hn hg=>
   obtain⟨b',N',hn',hB,gG⟩:=hr.live 0 _ rfl;rw [hn] at hn';simp only [aJp,aKN] at hn';obtain⟨rfl,rfl⟩:=hn';have:=hnil gG hg;subst this;simp at hil
  | @bL _ _ b N cap hn hg hlc hc=>
  cases k5 with
  | @iY _ _ vb NV hnv hgv=>
   obtain⟨b',N',hn',hB,gG⟩:=hr.live 1 _ rfl;rw [hnv] at hn';simp only [aJp,aKN] at hn';obtain⟨rfl,rfl⟩:=hn';have:=hnil gG hgv;subst this;simp at g3
  | @bL _ _ vb NV vc hnv hgv bGq hcv=>
  obtain⟨b',N',hn',hB,gG⟩:=hr.live 0 _ rfl;rw [hn] at hn';simp only [aJp,aKN] at hn';obtain⟨rfl,rfl⟩:=hn';obtain⟨b',N',hn',hBv,hrev⟩:=hr.live 1 _ rfl;rw [hnv] at hn';simp only [aJp,aKN] at hn';obtain⟨rfl,rfl⟩:=hn';have hne:vb≠b:=by
   rintro rfl;have:=hr.inj 0 1 _ _ vb N NV rfl rfl hn hnv hg hgv;omega
  have bGr:Lv ρ [some (.row 68 aA l),some (.row 68 aA v)] b:=⟨0,_,N,rfl,hn,hg⟩;have q1:N.len=l.length:=hB.1;have q1v:NV.len=1:=hBv.1.trans g3;obtain⟨arr,q3,q4,q5,q6⟩:=iG hB hg;obtain⟨j0,p3,p4,p5,p6⟩:=iG hBv hgv;have XJ:aA.sz=14:=rfl;rw [aA.cH,XJ] at q5 q6 p5 p6;rw [g3] at p5 p6;rw [XJ] at hc hcv;rw [q1] at hlc ⊢;rw [q1v] at bGq ⊢;have hone:∀ {m:List Thing} {ar:Array Value} {n k:Nat},ar.size=n→k≤n→m.length*14=k→aK w R ρ (aA.flat m) (ar.toList.take k)→∀ t,t<k→∃ u,ar[t]?=some u∧u.oneCell'=true:=by
   intro m ar n k h4 h5 hk h6 t ht;have hta:t<ar.size:=by rw [h4];omega
   refine⟨ar[t],aXN hta,?_⟩;have hf:t<(aA.flat m).length:=by rw [aA.cH,XJ,hk];exact ht
   exact(h6.2 t _ _ (aJS hf) (by rw [aXO ht,aQ3,aXN hta])).OW (aQ6.1 (aA.xT m) _ (aXB hf))
  have o1:=hone q4 q5 rfl q6;have o2:=hone (k:=14) p4 (by omega) (by rw [g3]) (by simpa using p6);have ha:arr.toList.length=N.n:=by simpa using q4
  have hva:j0.toList.length=NV.n:=by simpa using p4
  have o9:(l.take i++v++l.drop i).length=l.length+1:=by simp;omega
  have hcs:((arr.toList.take (l.length*14)).drop (i*14)).length=(l.length-i)*14:=by simp;omega
  have hvl:(j0.toList.take 14).length=14:=by simp;omega
  have hfl:aA.flat (l.take i++v++l.drop i)=(aA.flat l).take (i*14)++aA.flat v++(aA.flat l).drop (i*14):=by
   have k1:aA.flat l=aA.flat (l.take i)++aA.flat (l.drop i):=by rw [← aA.qW,a9u]
   have k3:(aA.flat (l.take i)).length=i*14:=by rw [aA.cH,XJ];simp;omega
   rw [aA.qW,aA.qW];congr 1
   ·congr 1;rw [k1,List.take_left' k3]
   ·rw [k1,List.drop_left' k3]
  have aS0:aK w R ρ (aA.flat (l.take i++v++l.drop i)) ((arr.toList.take (l.length*14)).take (i*14)++j0.toList.take 14++(arr.toList.take (l.length*14)).drop (i*14)):=by
   rw [hfl];exact((q6.take _).append (by simpa using p6)).append (q6.drop _)
  have htk:(arr.toList.take (l.length*14)).take (i*14)=arr.toList.take (i*14):=by rw [List.take_take,Nat.min_eq_left (by omega)]
  rw [htk] at aS0;by_cases hroom:l.length+1≤cap
  ··refine(aB2 w b vb i l.length cap vc arr j0 q3 p3 hne o1 o2 hil hroom (by rw [q4];exact hc) (by omega)).mono ?_;rintro e w' ⟨rfl,rfl⟩;obtain⟨a1,b1,b2⟩:=dZ (b:=b) ((arr.toList.take (l.length*14)).drop (i*14)) ((i+1)*14) w.drew arr q3 (by rw [hcs,q4];omega);have hl1:a1.size=N.n:=by have:=aKR List.length b2;rw [aPk,aPk,hcs] at this;simp at this;omega
    obtain⟨a2,c1,c2⟩:=dZ (b:=b) (j0.toList.take 14) (i*14) _ a1 b1 (by rw [hvl,hl1];omega);have aS1:a2.size=N.n:=by have:=aKR List.length c2;rw [aPk,aPk,hvl] at this;simp at this;omega
    obtain⟨d1,d2,d3,d4⟩:=fF (b:=b) (j0.toList.take 14) (i*14) (w.drew.setCells b ((i+1)*14) ((arr.toList.take (l.length*14)).drop (i*14)));obtain⟨e1,e2,e3,e4⟩:=fF (b:=b) ((arr.toList.take (l.length*14)).drop (i*14)) ((i+1)*14) w.drew;have hcut:=aSZ (q:=(l.length+1)*14) b2 c2 (by rw [hvl];omega) (by rw [hcs];omega) (by rw [hvl,hcs];omega);obtain⟨R',ρ',r1,r2,r3⟩:=RF (l:=l) (v:=v) (l2:=l.take i++v++l.drop i) (cap:=cap) (N:=N) hr (d2.trans e2) (d3.trans e3) (d4.trans e4) (Nat.le_of_eq (d1.trans e1).symm) (by rw [eO,eO];exact a9p _) (fun k _ hk=>by rw [dO _ _ _ k hk,dO _ _ _ k hk];rfl) (.inl ⟨bGr,arr,68,q3⟩) c1 (by rw [o9,aS1];omega) (by
     rw [o9,hcut];exact aS0) (by rw [o9];exact hroom) (by rw [aS1];exact hc)
    rw [o9] at r1;exact⟨R',ρ',_,rfl,r1,r2,r3⟩
  ·refine(aFI w b vb i l.length cap vc arr j0 q3 p3 o1 o2 hil hlc (by omega) (by rw [q4];exact hc) (by omega)).mono ?_;rintro e w' ⟨G,ROW,hG1,hG2,hG3,rfl,rfl⟩;have hN0:(w.alloc (.cells ROW 68)).drew.heap[w.heap.size]?=some (.cells ROW 68 (0,0)):=Array.getElem?_push_size;obtain⟨a1,b1,b2⟩:=dZ (b:=w.heap.size) (j0.toList.take 14) (i*14) _ ROW hN0 (by rw [hvl];omega);have hl1:a1.size=G*14:=by have:=aKR List.length b2;rw [aPk,aPk,hvl] at this;simp at this;omega
   have b1':((w.alloc (.cells ROW 68)).drew.setCells w.heap.size (i*14) (j0.toList.take 14)).drew.heap[w.heap.size]?=some (.cells a1 68 (0,0)):=b1;obtain⟨a2,c1,c2⟩:=dZ (b:=w.heap.size) ((arr.toList.take (l.length*14)).drop (i*14)) ((i+1)*14) _ a1 b1' (by rw [hcs,hl1];omega);have aS1:a2.size=G*14:=by have:=aKR List.length c2;rw [aPk,aPk,hcs] at this;simp at this;omega
   obtain⟨d1,d2,d3,d4⟩:=fF (b:=w.heap.size) ((arr.toList.take (l.length*14)).drop (i*14)) ((i+1)*14) ((w.alloc (.cells ROW 68)).drew.setCells w.heap.size (i*14) (j0.toList.take 14)).drew;obtain⟨e1,e2,e3,e4⟩:=fF (b:=w.heap.size) (j0.toList.take 14) (i*14) (w.alloc (.cells ROW 68)).drew;have hrt:ROW.toList.take (i*14)=arr.toList.take (i*14):=by
    apply List.ext_getElem?;intro t;by_cases ht:t<i*14
    ·rw [aXO ht,aXO ht,aQ3,aQ3,hG3 t ht]
    ·rw [List.getElem?_take_eq_none (by omega),List.getElem?_take_eq_none (by omega)]
   have e14:i*14+(j0.toList.take 14).length=(i+1)*14:=by rw [hvl];omega
   have hcut:=aY0 (A2:=a2.toList) (cs:=(arr.toList.take (l.length*14)).drop (i*14)) (q:=(l.length+1)*14) b2 (by rw [e14];exact c2) (by simp;omega) (by rw [hvl,hcs];omega);rw [hrt] at hcut;have hgrow:w.heap.size≤(((w.alloc (.cells ROW 68)).drew.setCells w.heap.size (i*14) (j0.toList.take 14)).drew.setCells w.heap.size ((i+1)*14) ((arr.toList.take (l.length*14)).drop (i*14))).heap.size:=by
    rw [d1];show _≤((w.alloc (.cells ROW 68)).drew.setCells w.heap.size (i*14) (j0.toList.take 14)).heap.size;rw [e1];show _≤(w.alloc (.cells ROW 68)).heap.size;rw [World.size_alloc];omega
   obtain⟨R',ρ',r1,r2,r3⟩:=RF (l:=l) (v:=v) (l2:=l.take i++v++l.drop i) (cap:=G) (N:=N) hr (d2.trans e2) (d3.trans e3) (d4.trans e4) hgrow (by
    rw [eO];show w.drawn≤(World.setCells _ _ _ _).drawn+1;rw [eO];show w.drawn≤w.drawn+1+1;omega) (fun k hk hk'=>by
    rw [dO _ _ _ k hk'];show((w.alloc (.cells ROW 68)).drew.setCells w.heap.size (i*14) (j0.toList.take 14)).heap[k]?=_;rw [dO _ _ _ k hk'];exact heap_alloc_old w _ k hk) (.inr (aKQ _)) c1 (by rw [o9,aS1];omega) (by
    rw [o9,hcut];exact aS0) (by rw [o9];exact hG1) (by rw [aS1];exact aKQ _)
   rw [o9] at r1;exact⟨R',ρ',_,rfl,r1,r2,r3⟩
def a48:Code:=Tryz.f172.body.getD .skip
theorem bBg:Tryz.f172.body=some a48:=by kernel_rfl
theorem bBh:CT.P.funcs[172]?=some Tryz.f172:=by kernel_rfl
def a2p:aW:=.dV 220 [] a2o
theorem bBi:a2p.Ok CT.P:=aW.mZ a47
def aS2:Tb:=cC iL iM [aBV,aYH,aPb,a4H,Y2,aYL,a2p,bAT,bAu,bAU,bAJ]
theorem aS3:aS2.Ok CT.P:=aQ (⟨JF,aYI,aPc,bAR,Q0,a4y,bBi,bGe,bAv,bAV,bAK,trivial⟩)
def aS4 {β:Type}:dK β:=fun _ _ _=>none
theorem aPi {β:Type}:aC CT (aS4 (β:=β)) (aJ a48):=aC.is [] (by kernel_rfl) (aC.nil)
def nP (a1:Ty.El aD)(a2:Ty.El aA):Option (aS [aD,I]):=
 let zero:Ty.El aD:=(((0,0),0,[]):Ty.El aD)
 (pR a1).bind fun v1=>
 bif !v1.1 then some (zero,(9:Int),()) else
 (BW a2).bind fun v2=>
 bif !v2.1 then some (zero,(9:Int),()) else
 (QX a2.2.2.2.2).bind fun v3=>
 (aPd a1.2.2).bind fun ths=>
 let t':Ty.El aA:=(a2.1,a2.2.1,a2.2.2.1,a2.2.2.2.1,v3.1);let s0:Ty.El aD:=(a1.1,a1.2.1,ths)
 (rM s0 a2.1).bind fun g=>
 (aFn s0 a2.1).bind fun at_=>
 let K:List (Ty.El aA)→Option (aS [aD,I]):=fun l=>
  bif decide (((l.length:Nat):Int)>40) then some (zero,(12:Int),()) else
  bif decide (a2.1≥a1.2.1) then some (zero,(10:Int),()) else
  let s:Ty.El aD:=(a1.1,a1.2.1,l)
  (aPf s t').bind fun w=>
  bif !w.1 then some (zero,(10:Int),()) else
  (QK s).bind fun ap=>
  bif !ap.1 then some (zero,(15:Int),()) else
  let tree:Option (aS [aD,I]):=(QW s).bind fun tr=>bif !tr.1 then some (zero,(11:Int),()) else some (s,(0:Int),())
  bif g.2.1 then
   (bif g.1.2.1==(1:Int) then(XI s).bind fun e=>bif !e.1 then some (zero,(15:Int),()) else tree
   else tree)
  else tree
 bif at_.2.1 then
  (bif decide ((0:Int)≤at_.1∧at_.1<((ths.length:Nat):Int)) then K (ths.set at_.1.toNat t') else none)
 else(Y4 at_.1 ths [t']).bind fun v=>K v.2.1
theorem bBj (x:Ps [.ty aD,.ty aA]):dA CT aS2 [aD,I] (cB CT aS2) aS4 Tryz.f172 a48 (bQ [.ty aD,.ty aA] x)=nP x.1 x.2.1:=by kernel_rfl
def bBk:aW:=.fn 172 [] ⟨[.ty aD,.ty aA],[aD,I],fun x=>nP x.1 x.2.1,false⟩
theorem a2q:bBk.Ok CT.P:=aW.ofFn aL aS3 bBh bBg aPi bBj
end Go.DI.S
end
