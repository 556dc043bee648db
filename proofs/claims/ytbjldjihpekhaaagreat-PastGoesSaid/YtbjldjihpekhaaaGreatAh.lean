import Derived.Test.YtbjldjihpekhaaaGreatVa
import Derived.Test.YtbjldjihpekhaaaGreatIa
import Derived.Test.YtbjldjihpekhaaaGreatMa
import Derived.Test.YtbjldjihpekhaaaGreatDie
import Derived.Shelf.Spec.SlicesGrow
import Derived.Laws.AppendOwn
import Derived.Shelf.SlSortCmp.WholeK
import Derived.WalkKit
import Derived.Sort.OwnSortedInts
import Derived.Shelf.SlSortCmp.NoneTotal
/- slices.Grow, slices.SortFunc at things. No conditions. -/
set_option linter.unusedSimpArgs false
set_option linter.unusedVariables false
set_option maxRecDepth 100000
set_option maxHeartbeats 0
noncomputable section
namespace Go.DI.S
open Go.Proofs
def aHB:List Int→Bool
 | []=>true
 | n :: l=>decide (1≤n)&&decide (n≤1000000)&&!l.contains n&&aHB l
def aKH (a:Thing):List Thing→List Thing
 | []=>[a]
 | b :: l=>bif decide (aT a≤aT b) then a :: b :: l else b :: aKH a l
def lE:List Thing→List Thing
 | []=>[]
 | a :: l=>aKH a (lE l)
abbrev aWB:aF:=⟨2,[(0,.own aA 0),(1,.vE 146 [])],[.row 68 aA],fun s=>[aG s 0]⟩
abbrev aDK:aF:=⟨0,[],[.row 68 aA],fun _=>[0]⟩
def MP (a1:aS [])(b0:List (Ty.El aA)):Option aDK.El:=bif aHB (b0.map aT)&&Nat.ble b0.length 1000000 then some ((),lE b0,()) else none
def bDm:DF:=⟨1,[.bU 0 68 aA,.dJ 0 68 aA],aWB,aDK,fun x=>MP x.1.2.1 x.2.1⟩
def a3r:aW:=.dV 145 [146] ⟨1,[.bU 0 68 aA,.dJ 0 68 aA],aWB,aDK,fun x=>MP x.1.2.1 x.2.1⟩
def aKI:Code:=Tryz.f148.body.getD .skip
theorem a0V:Tryz.f148.body=some aKI:=by kernel_rfl
theorem a0W:CT.P.funcs[148]?=some Tryz.f148:=by kernel_rfl
def aKJ:Tb:=cC tyP mpP []
theorem aQz:aKJ.Ok CT.P:=aQ (trivial)
def aNH {β:Type}:dK β:=fun _ _ _=>none
theorem aKK {β:Type}:aC CT (aNH (β:=β)) (aJ aKI):=aC.is [] (by kernel_rfl) (aC.nil)
def aDL (a1:Unit)(a2:Ty.El I):Option (List (Ty.El aA)):=bif decide (a2<(0:Int)) then none else bif decide (IntKind.i64.wrap (a2-(0:Int))>(0:Int)) then none else some []
theorem a75 (x:Ps [.nil,.ty I]):B7 CT aKJ 68 aA (cB CT aKJ) aNH Tryz.f148 aKI (bQ [.nil,.ty I] x)=aDL x.1 x.2.1:=by kernel_rfl
def a78:aW:=.own 148 [] ⟨[.nil,.ty I],68,aA,fun x=>aDL x.1 x.2.1⟩
theorem a79:a78.Ok CT.P:=aW.LY aL aQz a0W a0V aKK a75
def OJ:Go.Shelf.Ren:=⟨fun | 4=>148 | n=>n,fun | 22=>49 | 25=>68 | n=>n,fun n=>n⟩
theorem aWC:Lays8.n4 Tryz.prog OJ:={
 mixed:=by kernel_rfl,
 f4:=⟨ "slices.Grow[[]maquette/api.Thing,maquette/api.Thing]",by kernel_rfl,Tryz.func148.trans (aKR some (by kernel_rfl))⟩,
 t0:=Tryz.underlying0,a0:=Tryz.isAgg0,z0:=Tryz.sizeOf0,v0:=Tryz.zeroValue0,
 t3:=Tryz.underlying3,a3:=Tryz.isAgg3,z3:=Tryz.sizeOf3,v3:=Tryz.zeroValue3,
 t4:=Tryz.underlying4,a4:=Tryz.isAgg4,z4:=Tryz.sizeOf4,v4:=Tryz.zeroValue4,
 t9:=Tryz.underlying9,a9:=Tryz.isAgg9,z9:=Tryz.sizeOf9,v9:=Tryz.zeroValue9,
 t20:=Tryz.underlying20,a20:=Tryz.isAgg20,z20:=Tryz.sizeOf20,v20:=Tryz.zeroValue20,
 t22:=Tryz.underlying49,a22:=Tryz.isAgg49,z22:=Tryz.sizeOf49,v22:=Tryz.zeroValue49 }
theorem a8a (n:Nat)(h0:0<n)(hn:n≤1000000):AC CT.P 148 [.eY,.int .i64 n] [] (.ret (.bL aA 0)) [some (.row 68 aA [])]:=by
 intro R ρ w vs hr hvs;obtain⟨u0,us,hu,k1,k2⟩:=hvs.cons_inv;obtain⟨u1,us1,rfl,k3,k4⟩:=k2.cons_inv;obtain rfl:=k4.bE;have hv:vs=#[u0,u1]:=aRl.1 (by simpa using hu);subst hv;cases k1;cases k3;obtain⟨i0,z,hi0,hz0,hs0,hb0,hzs⟩:∃ i0 z,Tryz.prog.info? 68=some i0∧i0.zero=some z∧i0.size=14∧i0.bytes=128∧z.cells.size=14:=by
  have h:(Tryz.prog.info? 68).bind (fun i=>i.zero.map fun z=>(i.size,i.bytes,z.cells.size))=some (14,128,14):=by kernel_rfl
  obtain⟨i0,hi,h⟩:=aXE.1 h;obtain⟨z,hz,h⟩:=aPV.1 h;simp only [aKN] at h;exact⟨i0,z,hi,hz,h.1,h.2.1,h.2.2⟩
 have hs:=Any8.slices_Grow_grow aWC i0 z hi0 hz0 (by omega) none 0 0 n [] w (aKQ _) (by omega) (by rw [hb0];omega) (by omega) (by simp) (fun _=>rfl) (fun a h=>by cases h);refine hs.mono ?_;rintro e w' ⟨rfl,rfl⟩;have hge:=grownCap_ge w (0+n) 0 68;generalize hA:([]:List Value).toArray++Builtin.zeroCells z.cells (0+n-0)++Builtin.zeroCells z.cells (grownCap w (0+n) 0 (OJ.t 25)-(0+n))=A;have hsz:A.size=grownCap w (0+n) 0 68*14:=by
  rw [← hA];simp only [Array.size_append,size_zeroCells,hzs,List.size_toArray,List.length_nil];show 0+(0+n-0)*14+(grownCap w (0+n) 0 68-(0+n))*14=_;omega
 have hh:(w.drew.alloc (.cells A (OJ.t 25))).heap=w.heap.push (.cells A 68):=rfl;obtain⟨R',ρ',q1,q2,q3⟩:=RF (l:=[]) (v:=[]) (l2:=[]) (h0:=[]) (nb:=w.heap.size) (cap:=grownCap w (0+n) 0 68)
  (w':=w.drew.alloc (.cells A (OJ.t 25))) (N:=⟨0,0,false⟩)
  (vR:=A) hr rfl rfl rfl (by rw [hh,Array.size_push];omega) (a9p _) (fun k hk hne=>by
   rw [hh,Array.getElem?_push,aJn (Nat.ne_of_lt hk)]) (.inr (aKQ _)) (by rw [hh,Array.getElem?_push,aJb rfl]) (aLj _) (by
   show aK w R ρ [] (A.toList.take 0);rw [List.take_zero];exact .nil) (aLj _) (by rw [hsz];exact aKQ _)
 exact⟨R',ρ',_,⟨rfl,q1⟩,q2,aTI hr q3⟩
def aAk (a1:Unit)(a2:Ty.El I):Option (List (Ty.El aA)):=bif decide ((0:Int)<a2)&&decide (a2≤(1000000:Int)) then some [] else aDL a1 a2
def a3s:aW:=.own 148 [] ⟨[.nil,.ty I],68,aA,fun x=>aAk x.1 x.2.1⟩
theorem bDn:a3s.Ok CT.P:=by
 intro x y hxy;obtain⟨u,(n:Int),x2⟩:=x;have hxy:aAk u n=some y:=hxy;unfold aAk at hxy;cases hb:decide ((0:Int)<n)&&decide (n≤(1000000:Int)) with
 | false=>
  rw [hb] at hxy;exact a79 (u,n,x2) y hxy
 | true=>
  rw [hb] at hxy;have hy:y=[]:=(Option.some.inj hxy).symm;subst hy;simp only [aKS,decide_eq_true_eq] at hb;obtain⟨m,rfl⟩:=Int.eq_ofNat_of_zero_le (Int.le_of_lt hb.1);exact a8a m (by omega) (by omega)
open Go.Proofs Go.Shelf Go.RowKit Go.Lib Go.Sort
def aWD:Go.Shelf.Ren:=⟨fun | 6=>145 | 14=>197 | 15=>150 | 20=>242 | 21=>243 | 22=>244 | 23=>245 | 24=>246 | 25=>247 | 26=>248 | 27=>249 | 28=>208 | 29=>209 | 46=>269 | 47=>251 | 48=>252 | 49=>270 | 50=>271 | 57=>283 | n=>n,fun | 0=>0 | 3=>3 | 4=>4 | 5=>5 | 9=>9 | 22=>49 | 24=>68 | 25=>206 | 39=>165 | 45=>258 | 46=>259 | 50=>187 | 53=>265 | 55=>147 | 66=>292 | 70=>109 | 76=>308 | 77=>309 | n=>n,fun n=>n⟩
theorem aAl:SlLaysF0.n6 Tryz.prog aWD:={
 mixed:=by kernel_rfl,
 f6:=⟨ "slices.SortFunc[[]maquette/api.Thing,maquette/api.Thing]",by kernel_rfl,Tryz.func145.trans (aKR some (by kernel_rfl))⟩,
 f14:=⟨ "slices.pdqsortCmpFunc[maquette/api.Thing]",by kernel_rfl,Tryz.func197.trans (aKR some (by kernel_rfl))⟩,
 f15:=Tryz.func150.trans (aKR some (by kernel_rfl)),
 f20:=⟨ "slices.insertionSortCmpFunc[maquette/api.Thing]",by kernel_rfl,Tryz.func242.trans (aKR some (by kernel_rfl))⟩,
 f21:=⟨ "slices.heapSortCmpFunc[maquette/api.Thing]",by kernel_rfl,Tryz.func243.trans (aKR some (by kernel_rfl))⟩,
 f22:=⟨ "slices.breakPatternsCmpFunc[maquette/api.Thing]",by kernel_rfl,Tryz.func244.trans (aKR some (by kernel_rfl))⟩,
 f23:=⟨ "slices.choosePivotCmpFunc[maquette/api.Thing]",by kernel_rfl,Tryz.func245.trans (aKR some (by kernel_rfl))⟩,
 f24:=⟨ "slices.reverseRangeCmpFunc[maquette/api.Thing]",by kernel_rfl,Tryz.func246.trans (aKR some (by kernel_rfl))⟩,
 f25:=⟨ "slices.partialInsertionSortCmpFunc[maquette/api.Thing]",by kernel_rfl,Tryz.func247.trans (aKR some (by kernel_rfl))⟩,
 f26:=⟨ "slices.partitionEqualCmpFunc[maquette/api.Thing]",by kernel_rfl,Tryz.func248.trans (aKR some (by kernel_rfl))⟩,
 f27:=⟨ "slices.partitionCmpFunc[maquette/api.Thing]",by kernel_rfl,Tryz.func249.trans (aKR some (by kernel_rfl))⟩,
 f28:=Tryz.func208.trans (aKR some (by kernel_rfl)),
 f29:=Tryz.func209.trans (aKR some (by kernel_rfl)),
 f46:=⟨ "slices.siftDownCmpFunc[maquette/api.Thing]",by kernel_rfl,Tryz.func269.trans (aKR some (by kernel_rfl))⟩,
 f47:=Tryz.func251.trans (aKR some (by kernel_rfl)),
 f48:=Tryz.func252.trans (aKR some (by kernel_rfl)),
 f49:=⟨ "slices.medianAdjacentCmpFunc[maquette/api.Thing]",by kernel_rfl,Tryz.func270.trans (aKR some (by kernel_rfl))⟩,
 f50:=⟨ "slices.medianCmpFunc[maquette/api.Thing]",by kernel_rfl,Tryz.func271.trans (aKR some (by kernel_rfl))⟩,
 f57:=⟨ "slices.order2CmpFunc[maquette/api.Thing]",by kernel_rfl,Tryz.func283.trans (aKR some (by kernel_rfl))⟩,
 t0:=Tryz.underlying0,a0:=Tryz.isAgg0,z0:=Tryz.sizeOf0,v0:=Tryz.zeroValue0,
 t3:=Tryz.underlying3,a3:=Tryz.isAgg3,z3:=Tryz.sizeOf3,v3:=Tryz.zeroValue3,
 t4:=Tryz.underlying4,a4:=Tryz.isAgg4,z4:=Tryz.sizeOf4,v4:=Tryz.zeroValue4,
 t5:=Tryz.underlying5,a5:=Tryz.isAgg5,z5:=Tryz.sizeOf5,v5:=Tryz.zeroValue5,
 t9:=Tryz.underlying9,a9:=Tryz.isAgg9,z9:=Tryz.sizeOf9,v9:=Tryz.zeroValue9,
 t22:=Tryz.underlying49,a22:=Tryz.isAgg49,z22:=Tryz.sizeOf49,v22:=Tryz.zeroValue49,
 t25:=Tryz.underlying206,a25:=Tryz.isAgg206,z25:=Tryz.sizeOf206,v25:=Tryz.zeroValue206,
 t39:=Tryz.underlying165,a39:=Tryz.isAgg165,z39:=Tryz.sizeOf165,v39:=Tryz.zeroValue165,
 t45:=Tryz.underlying258,a45:=Tryz.isAgg258,z45:=Tryz.sizeOf258,v45:=Tryz.zeroValue258,
 t46:=Tryz.underlying259,a46:=Tryz.isAgg259,z46:=Tryz.sizeOf259,v46:=Tryz.zeroValue259,
 t50:=Tryz.underlying187,a50:=Tryz.isAgg187,z50:=Tryz.sizeOf187,v50:=Tryz.zeroValue187,
 t53:=Tryz.underlying265,a53:=Tryz.isAgg265,z53:=Tryz.sizeOf265,v53:=Tryz.zeroValue265,
 t55:=Tryz.underlying147,a55:=Tryz.isAgg147,z55:=Tryz.sizeOf147,v55:=Tryz.zeroValue147,
 t66:=Tryz.underlying292,a66:=Tryz.isAgg292,z66:=Tryz.sizeOf292,v66:=Tryz.zeroValue292,
 t70:=Tryz.underlying109,a70:=Tryz.isAgg109,z70:=Tryz.sizeOf109,v70:=Tryz.zeroValue109,
 t76:=Tryz.underlying308,a76:=Tryz.isAgg308,z76:=Tryz.sizeOf308,v76:=Tryz.zeroValue308,
 t77:=Tryz.underlying309,a77:=Tryz.isAgg309,z77:=Tryz.sizeOf309,v77:=Tryz.zeroValue309 }
set_option maxHeartbeats 4000000 in
theorem aQA (a b:Int)(c1 c2 c3 c4 c5 c6 c7 c8 c9 c10 c11 c12 c13 d1 d2 d3 d4 d5 d6 d7 d8 d9 d10 d11 d12 d13:Value)(ha:0≤a∧a≤1000000)(hb:0≤b∧b≤1000000)(W:World) :
  Calls Tryz.prog 146 #[.agg #[.int .i64 a,c1,c2,c3,c4,c5,c6,c7,c8,c9,c10,c11,c12,c13],.agg #[.int .i64 b,d1,d2,d3,d4,d5,d6,d7,d8,d9,d10,d11,d12,d13]] W fun e w'=>e=.returned (.int .i64 (a-b))∧∃ q os',w'=grow (W.drewN q) os':=by
 have hw:Go.RowKit.wrap64 (a-b)=a-b:=by unfold Go.RowKit.wrap64;omega
 clear ha hb
 go_enter Tryz.func146,Tryz.ntmps146
 go_wp2
 go_ret
 exact⟨aKR (fun x=>Ending.returned (.int .i64 x)) hw,0,_,by rw [alloc_eq_grow,alloc_eq_grow,grow_grow];rfl⟩
open Go.Proofs Go.Shelf Go.RowKit Go.Lib Go.Sort
theorem aAm:∀ {l:List Int},aHB l=true→(∀ n∈l,1≤n∧n≤1000000)∧l.Nodup
 | [],_=>⟨fun n h=>by simp at h,.nil⟩
 | a :: l,h=>by
  unfold aHB at h;simp only [aKS,decide_eq_true_eq,a1K] at h;obtain⟨⟨⟨h1,h2⟩,h3⟩,h4⟩:=h;obtain⟨k1,k2⟩:=aAm h4;refine⟨fun n hn=>?_,List.nodup_cons.2 ⟨fun hm=>?_,k2⟩⟩
  ·rcases aQL.1 hn with rfl | hn
   ·exact⟨h1,h2⟩
   ·exact k1 n hn
  ·have:l.contains a=true:=by simpa using hm
   rw [this] at h3;cases h3
theorem K6 (a:Thing):∀ l,(aKH a l).Perm (a :: l)
 | []=>.refl _
 | b :: l=>by
  simp only [aKH];cases decide (aT a≤aT b) with
  | true=>exact .refl _
  | false=>exact((K6 a l).cons b).trans (.swap a b l)
theorem wQ:∀ l,(lE l).Perm l
 | []=>.refl _
 | a :: l=>(K6 a _).trans ((wQ l).cons a)
theorem MQ (a:Thing):∀ l,l.Pairwise (fun x y=>aT x≤aT y)→(aKH a l).Pairwise (fun x y=>aT x≤aT y)
 | [],_=>by simp [aKH]
 | b :: l,h=>by
  have hb:=List.pairwise_cons.1 h;simp only [aKH];cases hd:decide (aT a≤aT b) with
  | true=>
   have hab:aT a≤aT b:=aXU hd;refine List.pairwise_cons.2 ⟨fun x hx=>?_,h⟩;rcases aQL.1 hx with rfl | hx
   ·exact hab
   ·exact Int.le_trans hab (hb.1 x hx)
  | false=>
   have hab:¬aT a≤aT b:=of_decide_eq_false hd;refine List.pairwise_cons.2 ⟨fun x hx=>?_,MQ a l hb.2⟩;rcases aQL.1 ((K6 a l).mem_iff.1 hx) with rfl | hx
   ·omega
   ·exact hb.1 x hx
theorem G7:∀ l,(lE l).Pairwise (fun x y=>aT x≤aT y)
 | []=>.nil
 | a :: l=>MQ a _ (G7 l)
theorem oZ (l:List Thing):(lE l).length=l.length:=(wQ l).length_eq
theorem a0Y {l:List Thing}(h:(l.map aT).Nodup){a b:Thing}(ha:a∈l)(hb:b∈l)(e:aT a=aT b):a=b:=by
 obtain⟨i,hi,rfl⟩:=List.getElem_of_mem ha;obtain⟨j,hj,rfl⟩:=List.getElem_of_mem hb;have:i=j:=(List.getElem?_inj (by simpa using hi:i<(l.map aT).length) h).1 (by
  rw [aQn,aQn,aJS hi,aJS hj];exact aKR some e)
 subst this;rfl
theorem aHC {l m:List Thing}(hd:(l.map aT).Nodup)(hp:m.Perm l)(hs:m.Pairwise (fun x y=>aT x≤aT y)):m=lE l:=
 List.Perm.eq_of_pairwise (le:=fun x y=>aT x≤aT y) (fun a b ha hb h k=>a0Y hd (hp.mem_iff.1 ha) ((wQ l).mem_iff.1 hb) (Int.le_antisymm h k)) hs (G7 l) (hp.trans (wQ l).symm)
def mK (l:List Thing)(i:Nat):Int:=if i<l.length then aT (l.getD i cO) else 0
def nE (l:List Thing)(arr:Array Value)(i:Nat):List Value:=if i<l.length then(arr.toList.drop (i*14)).take 14 else .int .i64 0 :: List.replicate 13 (.int .i64 0)
theorem bDo {cs:List Value}{v:Value}(hl:cs.length=14)(h0:cs[0]?=some v):∃ c1 c2 c3 c4 c5 c6 c7 c8 c9 c10 c11 c12 c13,cs=[v,c1,c2,c3,c4,c5,c6,c7,c8,c9,c10,c11,c12,c13]:=by
 match cs,hl,h0 with
 | [c0,c1,c2,c3,c4,c5,c6,c7,c8,c9,c10,c11,c12,c13],_,h0=>
  simp only [List.getElem?_cons_zero,aJp] at h0;subst h0;exact⟨c1,c2,c3,c4,c5,c6,c7,c8,c9,c10,c11,c12,c13,rfl⟩
section
variable {l:List Thing}{arr:Array Value}{w:World}{R:Nat→Prop}{ρ:Nm}
theorem uW (h:l.length*14≤arr.size)(i:Nat):(nE l arr i).length=14:=by
 unfold nE
 split
 ·simp only [aP6,a9s,a1e];omega
 ·rfl
theorem V0 (h:l.length*14≤arr.size){i o:Nat}(hi:i<l.length)(ho:o<14):(nE l arr i)[o]?=arr[i*14+o]?:=by
 unfold nE;rw [aJb hi,aXO ho,a1f,aQ3]
theorem aAn (h:l.length*14≤arr.size)(hv:aK w R ρ (aA.flat l) (arr.toList.take (l.length*14))){t:Nat}(ht:t<l.length*14):∃ c u,(aA.flat l)[t]?=some c∧arr[t]?=some u∧aI w R ρ c u∧c.one=true:=by
 have hta:t<arr.size:=by omega
 have hf:t<(aA.flat l).length:=by rw [aA.cH];exact ht
 exact⟨_,arr[t],aJS hf,aXN hta,hv.2 t _ _ (aJS hf) (by rw [aXO ht,aQ3,aXN hta]),aQ6.1 (aA.xT l) _ (aXB hf)⟩
theorem aWE (h:l.length*14≤arr.size)(hv:aK w R ρ (aA.flat l) (arr.toList.take (l.length*14)))(i:Nat):∀ v∈nE l arr i,v.oneCell'=true:=by
 intro v hm;obtain⟨o,ho,e⟩:=List.getElem_of_mem hm;rw [uW h] at ho;by_cases hi:i<l.length
 ·obtain⟨c,u,k1,k2,k3,k4⟩:=aAn h hv (t:=i*14+o) (by omega);have:(nE l arr i)[o]?=some v:=by rw [aJS (by rw [uW h];exact ho),e]
  rw [V0 h hi ho,k2] at this;injection this with this
  subst this;exact k3.OW k4
 ·unfold nE at hm;rw [aJn hi] at hm;rcases aQL.1 hm with rfl | hm
  ·rfl
  ·obtain⟨_,rfl⟩:=List.mem_replicate.1 hm;rfl
theorem aHD (h:l.length*14≤arr.size)(hv:aK w R ρ (aA.flat l) (arr.toList.take (l.length*14)))(i:Nat):(nE l arr i)[0]?=some (.int .i64 (mK l i)):=by
 by_cases hi:i<l.length
 ·rw [V0 h hi (by omega)];obtain⟨c,u,k1,k2,k3,k4⟩:=aAn h hv (t:=i*14+0) (by omega);rw [k2];have e:(aA.flat l)[i*aA.sz+0]?=(aA.at l i).cells[0]?:=aA.iV l hi (by show 0<14;omega);have e:(aA.flat l)[i*14+0]?=(aA.at l i).cells[0]?:=e;rw [e] at k1;have e2:(aA.at l i).cells[0]?=some (.int .i64 (aT (l.getD i cO))):=by
   have e3:l.getD i cO=l[i]:=by rw [aQj,aJS hi];rfl
   rw [e3];unfold Ty.at;rw [aQj,aJS hi];rfl
  rw [e2] at k1;injection k1 with k1
  subst k1;cases k3;unfold mK;rw [aJb hi]
 ·unfold nE mK;rw [aJn hi,aJn hi];rfl
theorem V1 (hd:∀ n∈l.map aT,1≤n∧n≤1000000)(i:Nat):0≤mK l i∧mK l i≤1000000:=by
 unfold mK
 split
 ·rename_i hi;have:=hd (aT (l.getD i cO)) (aQ5.2 ⟨l[i],aXB hi,by rw [aQj,aJS hi];rfl⟩);omega
 ·omega
theorem bHR (h:l.length*14≤arr.size)(hv:aK w R ρ (aA.flat l) (arr.toList.take (l.length*14)))(hd:∀ n∈l.map aT,1≤n∧n≤1000000)(x y:Nat)(W:World) :
  Calls Tryz.prog 146 #[.agg (nE l arr x).toArray,.agg (nE l arr y).toArray] W fun e w'=>e=.returned (.int .i64 (mK l x-mK l y))∧∃ q os',w'=grow (W.drewN q) os':=by
 obtain⟨c1,c2,c3,c4,c5,c6,c7,c8,c9,c10,c11,c12,c13,hc⟩:=bDo (uW h x) (aHD h hv x);obtain⟨d1,d2,d3,d4,d5,d6,d7,d8,d9,d10,d11,d12,d13,P7⟩:=bDo (uW h y) (aHD h hv y);rw [hc,P7];exact aQA _ _ c1 c2 c3 c4 c5 c6 c7 c8 c9 c10 c11 c12 c13 d1 d2 d3 d4 d5 d6 d7 d8 d9 d10 d11 d12 d13 (V1 hd x) (V1 hd y) W
theorem bHS (l:List Thing):SWO (ltOf fun x y:Nat=>mK l x-mK l y):=by
 have e:∀ x y,ltOf (fun x y:Nat=>mK l x-mK l y) x y=decide (mK l x<mK l y):=by
  intro x y;show decide (mK l x-mK l y<0)=_;by_cases h:mK l x<mK l y
  ·rw [aKO h,aKO (by omega)]
  ·rw [aKP h,aKP (by omega)]
 exact⟨fun x=>by rw [e];simp,fun x y z h1 h2=>by rw [e] at *;simp at *;omega,fun x y z h1 h2=>by rw [e] at *;simp at *;omega⟩
theorem aAo (h:l.length*14≤arr.size){d:Array Nat}(hs:d.size=l.length)(hb:∀ j,j<l.length→d[j]!<l.length){j o:Nat}(hj:j<l.length)(ho:o<14):(flatK (nE l arr) 14 d)[j*14+o]?=arr[d[j]!*14+o]?:=by
 have hlt:j*14+o<(flatK (nE l arr) 14 d).size:=by rw [size_flatK,hs];omega
 have h1:=get_flatK (nE l arr) 14 d (j*14+o) (by rw [hs];omega);rw [getElem!_pos (flatK (nE l arr) 14 d) (j*14+o) hlt] at h1;rw [aXN hlt,h1,show(j*14+o) / 14=j by omega,show(j*14+o) % 14=o by omega];have h2:o<(nE l arr d[j]!).length:=by rw [uW h];exact ho
 rw [getElem!_pos (nE l arr d[j]!) o h2,← aJS h2];exact V0 h (hb j hj) ho
theorem a8e (h:l.length*14≤arr.size){b:Nat}(hb:w.heap[b]?=some (.cells arr 68 (0,0))):HoldsK (nE l arr) 14 w b 0 (Array.range l.length):=by
 intro t ht;rw [size_flatK,Array.size_range] at ht;have hr:∀ j,j<l.length→(Array.range l.length)[j]! = j:=fun j hj=>by
  rw [getElem!_pos _ _ (by rw [Array.size_range];exact hj),Array.getElem_range]
 have hf:=aAo h (d:=Array.range l.length) Array.size_range (fun j hj=>by rw [hr j hj];exact hj) (j:=t / 14) (o:=t % 14) (by omega) (by omega);rw [hr _ (by omega),show t / 14*14+t % 14=t by omega] at hf;have hlt:t<(flatK (nE l arr) 14 (Array.range l.length)).size:=by rw [size_flatK,Array.size_range];exact ht
 refine⟨?_,by simp [World.frozen?,hb]⟩;rw [getElem!_pos (flatK (nE l arr) 14 (Array.range l.length)) t hlt,id,← aXN hlt,hf];simp [World.cell?,hb]
end
open Go.Proofs Go.Shelf Go.RowKit Go.Lib Go.Sort
theorem aDM {d cur:Array Value}(h:d.size≤cur.size){t:Nat}(ht:t<d.size):(putCells (id:Value→Value) 0 d cur)[t]?=d[t]?:=by
 have h2:t<cur.size:=by omega
 rw [aXN ht];simp [putCells,ht,h2]
theorem aQB (l:List Thing):(List.range l.length).map (fun i=>l.getD i cO)=l:=by
 apply List.ext_getElem?;intro j;rw [aQn];by_cases hj:j<l.length
 ·rw [a1L hj,Option.map_some,aQj,aJS hj];rfl
 ·rw [List.getElem?_eq_none (by simpa using hj),List.getElem?_eq_none (by omega)];rfl
theorem aQC {l:List Thing}(hd:(l.map aT).Nodup){d:Array Nat}(hp:PermIn 0 l.length (Array.range l.length) d)(hs:SortedIn (ltOf fun x y:Nat=>mK l x-mK l y) 0 l.length d) :
  d.size=l.length∧(∀ j,j<l.length→d[j]!<l.length)∧lE l=d.toList.map (fun i=>l.getD i cO):=by
 obtain⟨h1,_,h3⟩:=hp;rw [Array.size_range] at h1;have e1:(Array.range l.length).extract 0 l.length=Array.range l.length:=by
  rw [Array.extract_eq_self_of_le (by rw [Array.size_range];exact aKQ _)]
 have e2:d.extract 0 l.length=d:=by rw [Array.extract_eq_self_of_le (by omega)]
 rw [e1,e2,Array.toList_range] at h3;have hb:∀ j,j<l.length→d[j]!<l.length:=by
  intro j hj;have hj':j<d.size:=by omega
  rw [getElem!_pos d j hj'];have:d[j]∈d.toList:=by simp
  have:=h3.mem_iff.1 this;simpa using this
 refine⟨h1,hb,(aHC hd ?_ ?_).symm⟩
 ·have:=h3.map (fun i=>l.getD i cO);rw [aQB] at this;exact this
 ·rw [List.pairwise_map,List.pairwise_iff_getElem];intro i j hi hj hij;rw [a1e] at hi hj;have h4:=hs i j (aLj _) hij (by omega);rw [getElem!_pos d i hi,getElem!_pos d j hj] at h4;have b1:=hb i (by omega);have b2:=hb j (by omega);rw [getElem!_pos d i hi] at b1;rw [getElem!_pos d j hj] at b2;have h5:¬(mK l d[j]-mK l d[i]<0):=of_decide_eq_false h4;unfold mK at h5;rw [aJb b1,aJb b2] at h5;show aT (l.getD d.toList[i] cO)≤aT (l.getD d.toList[j] cO);rw [Array.getElem_toList,Array.getElem_toList];omega
theorem a8f:bDm.Ok CT.P 145:=by
 intro x y hxy R ρ w vs hr hvs;have hxy:MP x.1.2.1 x.2.1=some y:=hxy;unfold MP at hxy;generalize hl:x.2.1=l at hxy;cases hb:aHB (l.map aT)&&Nat.ble l.length 1000000 with
 | false=>rw [hb] at hxy;cases hxy
 | true=>
 rw [hb] at hxy;rw [aKS] at hb;have hlen:=a9q hb.2;obtain⟨E5,hd2⟩:=aAm hb.1;have hy:y=((),lE l,()):=(Option.some.inj hxy).symm;subst hy;have hr:Rel R ρ [some (.row 68 aA x.2.1)] w:=hr;have hvs:aK w R ρ [.bL aA 0,.func 146 [] []] vs.toList:=hvs;rw [hl] at hr;obtain⟨u0,us,hu,h1,h2⟩:=hvs.cons_inv;obtain⟨u1,us1,rfl,h3,h4⟩:=h2.cons_inv;obtain rfl:=h4.bE;have hv:vs=#[u0,u1]:=aRl.1 (by simpa using hu);subst hv;have hone:∀ (m:List Thing) (k:Nat) (blk:cQ),([some (cQ.row 68 aA m)]:AH)[k]?=some (some blk)→k=0∧blk=.row 68 aA m:=by
  intro m k blk hk;cases k with
  | zero=>simp at hk;exact⟨rfl,hk.symm⟩
  | succ k=>simp at hk
 show Calls CT.P 145 #[u0,u1] w fun q w'=>∃ R' ρ' u,q=.returned u∧aI w' R' ρ' (.xF []) u∧Rel R' ρ' [some (.row 68 aA (lE l))] w'∧eF 1 R ρ [some (.row 68 aA x.2.1)] w R' ρ' [some (.row 68 aA (lE l))] w';rw [hl];have hfn:u1=.func (.func 146) #[] #[]:=by
  cases h3 with
  | func vf vc e1 e2 _ _=>
   have e1:vf.size=0:=e1;have e2:vc.size=0:=e2;rw [a9C e1,a9C e2]
 subst hfn;cases h1 with
 | @bL _ _ b N cap hn hg hlc hc=>
  obtain⟨b',N',hn',hB,gG⟩:=hr.live 0 _ rfl;rw [hn] at hn';simp only [aJp,aKN] at hn';obtain⟨rfl,rfl⟩:=hn';have q1:N.len=l.length:=hB.1;obtain⟨arr,q3,q4,q5,q6⟩:=iG hB hg;rw [aA.cH] at q5 q6;have XJ:aA.sz=14:=rfl;rw [XJ] at q5 q6 hc;have hsz:l.length*14≤arr.size:=by rw [q4];exact q5
  have hblk:b<w.heap.size:=(aZK.1 q3).1;have hcmp:CmpLays Tryz.prog 146 #[] (nE l arr) 14 (fun x y=>mK l x-mK l y) b 0 (Array.range l.length).size w:=fun m os dk _ x y=>bHR hsz q6 E5 x y _;have eg:∀ args w,(callFunc 146 args).run Tryz.prog w=.ok (.enter 146 args) w:=enters_of Tryz.func146 (by kernel_rfl) rfl;have hs:=AnyQ.slices_SortFunc aAl 14 Tryz.isAgg68 Tryz.sizeOf68 (nE l arr) (uW hsz) (aWE hsz q6) (fun x y=>mK l x-mK l y) (bHS l) 146 #[] b 0 cap (Array.range l.length) w eg hcmp (a8e hsz q3) hblk (by rw [Array.size_range];omega);rw [Array.size_range] at hs;rw [q1];refine Calls.mono (P:=Tryz.prog) (f:=145) hs ?_;rintro e w' ⟨rfl,d',n,os,hp,hso,rfl⟩;obtain⟨f1,f2,f3⟩:=aQC hd2 hp hso;have hfk:(flatK (nE l arr) 14 d').size=l.length*14:=by rw [size_flatK,f1]
  have hput:sortWorldK (nE l arr) 14 w b 0 n d' os=grow (putRow id (Sort.ahead w n) b 0 (flatK (nE l arr) 14 d')) os:=rfl;rw [hput];generalize hrow:flatK (nE l arr) 14 d'=row at *
  have hheap:(grow (putRow id (Sort.ahead w n) b 0 row) os).heap[b]?=some (.cells (putCells id 0 row arr) 68 (0,0)):=by
   rw [heap_grow_old _ _ (by simpa [putRow,mapBlock,Sort.ahead] using hblk)];simp [putRow,mapBlock,Sort.ahead,Array.getElem?_modify,q3,onCells]
  have aJz:(grow (putRow id (Sort.ahead w n) b 0 row) os).heap.size=w.heap.size+os.size:=by
   rw [size_grow];simp [putRow,mapBlock,Sort.ahead]
  have hkeep:∀ k,k<w.heap.size→k≠b→(grow (putRow id (Sort.ahead w n) b 0 row) os).heap[k]?=w.heap[k]?:=by
   intro k hk hne;rw [heap_grow_old _ _ (by simpa [putRow,mapBlock,Sort.ahead] using hk)];have:b≠k:=fun e=>hne e.symm;simp [putRow,mapBlock,Sort.ahead,Array.getElem?_modify,this]
  have bJ:¬R b:=gG.aEm hg;have hlv:∀ c,Lv ρ [some (.row 68 aA l)] c→c=b:=by
   rintro c ⟨k,blk,M,hk,hn',hg'⟩;obtain⟨rfl,rfl⟩:=hone l k blk hk;rw [hn] at hn';simp only [aJp,aKN] at hn';exact hn'.1.symm
  have aSL:∀ c,Lv ρ [some (.row 68 aA (lE l))] c→Lv ρ [some (.row 68 aA l)] c:=by
   rintro c ⟨k,blk,M,hk,hn',hg'⟩;obtain⟨rfl,rfl⟩:=hone _ k blk hk;exact⟨0,_,M,rfl,hn',hg'⟩
  have hcells:aK (grow (putRow id (Sort.ahead w n) b 0 row) os) R ρ (aA.flat (lE l)) ((putCells id 0 row arr).toList.take (aA.flat (lE l)).length):=by
   rw [aA.cH,oZ,XJ];refine⟨by rw [aP6,aA.cH,oZ,XJ];simp [putCells];omega,fun k c u hc' hu=>?_⟩;have hk:k<l.length*14:=by
    have:=(aK2.1 hc').1;rw [aA.cH,oZ,XJ] at this;exact this
   rw [aXO hk,aQ3,aDM (by omega) (by omega)] at hu;have hj:k / 14<l.length:=by omega
   have ho:k % 14<14:=by omega
   have hki:k=k / 14*14+k % 14:=by omega
   have hi:=f2 _ hj;rw [hki,← hrow,aAo hsz f1 f2 hj ho] at hu;have g1:(aA.flat (lE l))[k / 14*aA.sz+k % 14]?=(aA.at (lE l) (k / 14)).cells[k % 14]?:=aA.iV (lE l) (by rw [oZ];exact hj) ho;have g2:(aA.flat l)[d'[k / 14]!*aA.sz+k % 14]?=(aA.at l d'[k / 14]!).cells[k % 14]?:=aA.iV l hi ho;have g3:aA.at (lE l) (k / 14)=aA.at l d'[k / 14]!:=by
    unfold Ty.at;congr 1;have hj':k / 14<d'.size:=by omega
    rw [f3,aQj,aQn,aQ3,aXN hj',Option.map_some,a0f,getElem!_pos d' _ hj'];rw [getElem!_pos d' _ hj'] at hi;rw [aQj,aQj,aJS hi];rfl
   rw [hki] at hc';have hc':(aA.flat (lE l))[k / 14*aA.sz+k % 14]?=some c:=hc';rw [g1,g3,← g2] at hc';have hc':(aA.flat l)[d'[k / 14]!*14+k % 14]?=some c:=hc';have:=q6.2 _ c u hc' (by rw [aXO (by omega),aQ3];exact hu);exact this.mono (fun k' hk'=>hkeep k' (hr.ro k' hk') fun e=>bJ (e▸hk')) (fun _ h=>h) (Nm.le_refl _)
  have hsp:(putCells id 0 row arr).size=N.n:=by simp [putCells,q4]
  refine⟨R,ρ,_,rfl,.mU .nil,⟨fun k blk hk=>?_,fun k k' bk bk' c Nk Nk' hk hk' _ _ _ _=>?_,fun k hk=>hr.dom k hk,fun c hc'=>by rw [aJz];exact a1r (hr.ro c hc') (a9v _ _)⟩,
   ⟨rfl,rfl,rfl,by rw [aJz];exact a9v _ _,fun _ h=>h,fun c hc' hnl=>hkeep c hc' fun e=>hnl (e▸⟨0,_,N,rfl,hn,hg⟩),fun c hl'=>.inl (aSL c hl'),fun _ h=>.inl h,a9v _ _,fun _ _ _ h=>h⟩⟩
  ·obtain⟨rfl,rfl⟩:=hone _ k blk hk;refine⟨b,N,hn,j8 ⟨_,hheap,hsp,by rw [aA.cH,oZ,XJ];exact q5,hcells⟩ (by rw [q1,oZ]),?_⟩;rcases gG with⟨h5,h6⟩ | ⟨h5,_⟩
   ·exact .inl ⟨h5,h6⟩
   ·rw [hg] at h5;cases h5
  ·rw [(hone _ k _ hk).1,(hone _ k' _ hk').1]
 | @iY _ _ b N hn hg=>
  obtain⟨b',N',hn',hB,gG⟩:=hr.live 0 _ rfl;rw [hn] at hn';simp only [aJp,aKN] at hn';obtain⟨rfl,rfl⟩:=hn';have hl0:l=[]:=by
   rcases gG with⟨h5,_⟩ | ⟨_,t,ty,h5⟩
   ·rw [hg] at h5;cases h5
   ·injection h5 with _ h6 h7
    subst h6;exact eq_of_heq h7
  subst hl0;have hs:=AnyF.slices_SortFunc_none aAl none 0 (.func (.func 146) #[] #[]) w;refine Calls.mono (P:=Tryz.prog) (f:=145) hs ?_;rintro e w' ⟨rfl,rfl⟩;exact⟨R,ρ,_,rfl,.mU .nil,hr,eF.refl _ _ _ _⟩
theorem bDp:a3r.Ok CT.P:=aW.mZ a8f
def aWF (a1:Ty.El (.list bD)):Option (List (Ty.El bD)):=aSH a1
def aWG:aW:=.own 198 [] ⟨[.ty (.list bD)],91,bD,fun x=>aWF x.1⟩
theorem a8g:aWG.Ok CT.P:=by
 intro x y h;have h:aSH x.1=some y:=h;exact oI (e:=91) (bt:=91) aL a4N a4P a4O bAW a4Q a4R (l:=x.1) (y:=y) ((bAX x.1).trans h) (fun h0=>by
  rw [h0] at h;exact(Option.some.inj h).symm)
end Go.DI.S
end
