import Derived.Test.YtbjldjihpekhaaaGreatSb
import Derived.Test.YtbjldjihpekhaaaGreatDie
import Derived.Shelf.Sort.Plain
import Derived.Shelf.Slices.In.SortNone
import Derived.Sort.OwnSortedInts
import Derived.Shelf.Slices.CompactI
/- slices.Sort and slices.Compact at whole numbers; scenes alike. No conditions. -/
set_option linter.unusedVariables false
set_option maxRecDepth 100000
set_option maxHeartbeats 0
noncomputable section
namespace Go.DI.S
open Go.Proofs Go.Sort Go.ChangeShapes Go.WideShapes
def aYU:Go.Shelf.Ren:=⟨fun | 189=>101 | 125=>150 | 257=>149 | 128=>208 | 129=>209 | 294=>199 | 295=>200 | 296=>201 | 297=>202 | 298=>203 | 299=>204 | 216=>205 | 300=>206 | 301=>207 | 328=>250 | 329=>251 | 330=>252 | 331=>253 | 332=>254 | 215=>217 | 343=>272 | n=>n,fun | 28=>23 | 3=>3 | 46=>165 | 0=>0 | 51=>265 | 53=>147 | 4=>4 | 183=>259 | 182=>258 | 131=>187 | 5=>5 | 9=>9 | 218=>292 | 222=>109 | 228=>308 | 229=>309 | n=>n,fun n=>n⟩
theorem aFB:Lays.n189 Tryz.prog aYU:={
 mixed:=by kernel_rfl,
 f125:=Tryz.func150.trans (aKR some (by kernel_rfl)),
 f128:=Tryz.func208.trans (aKR some (by kernel_rfl)),
 f129:=Tryz.func209.trans (aKR some (by kernel_rfl)),
 f189:=Tryz.func101.trans (aKR some (by kernel_rfl)),
 f215:=Tryz.func217.trans (aKR some (by kernel_rfl)),
 f216:=Tryz.func205.trans (aKR some (by kernel_rfl)),
 f257:=Tryz.func149.trans (aKR some (by kernel_rfl)),
 f294:=Tryz.func199.trans (aKR some (by kernel_rfl)),
 f295:=Tryz.func200.trans (aKR some (by kernel_rfl)),
 f296:=Tryz.func201.trans (aKR some (by kernel_rfl)),
 f297:=Tryz.func202.trans (aKR some (by kernel_rfl)),
 f298:=Tryz.func203.trans (aKR some (by kernel_rfl)),
 f299:=Tryz.func204.trans (aKR some (by kernel_rfl)),
 f300:=Tryz.func206.trans (aKR some (by kernel_rfl)),
 f301:=Tryz.func207.trans (aKR some (by kernel_rfl)),
 f328:=Tryz.func250.trans (aKR some (by kernel_rfl)),
 f329:=Tryz.func251.trans (aKR some (by kernel_rfl)),
 f330:=Tryz.func252.trans (aKR some (by kernel_rfl)),
 f331:=Tryz.func253.trans (aKR some (by kernel_rfl)),
 f332:=Tryz.func254.trans (aKR some (by kernel_rfl)),
 f343:=Tryz.func272.trans (aKR some (by kernel_rfl)),
 t0:=Tryz.underlying0,
 a0:=Tryz.isAgg0,
 z0:=Tryz.sizeOf0,
 v0:=Tryz.zeroValue0,
 t3:=Tryz.underlying3,
 a3:=Tryz.isAgg3,
 z3:=Tryz.sizeOf3,
 v3:=Tryz.zeroValue3,
 t4:=Tryz.underlying4,
 a4:=Tryz.isAgg4,
 z4:=Tryz.sizeOf4,
 v4:=Tryz.zeroValue4,
 t5:=Tryz.underlying5,
 a5:=Tryz.isAgg5,
 z5:=Tryz.sizeOf5,
 v5:=Tryz.zeroValue5,
 t9:=Tryz.underlying9,
 a9:=Tryz.isAgg9,
 z9:=Tryz.sizeOf9,
 v9:=Tryz.zeroValue9,
 t28:=Tryz.underlying23,
 a28:=Tryz.isAgg23,
 z28:=Tryz.sizeOf23,
 v28:=Tryz.zeroValue23,
 t46:=Tryz.underlying165,
 a46:=Tryz.isAgg165,
 z46:=Tryz.sizeOf165,
 v46:=Tryz.zeroValue165,
 t51:=Tryz.underlying265,
 a51:=Tryz.isAgg265,
 z51:=Tryz.sizeOf265,
 v51:=Tryz.zeroValue265,
 t53:=Tryz.underlying147,
 a53:=Tryz.isAgg147,
 z53:=Tryz.sizeOf147,
 v53:=Tryz.zeroValue147,
 t131:=Tryz.underlying187,
 a131:=Tryz.isAgg187,
 z131:=Tryz.sizeOf187,
 v131:=Tryz.zeroValue187,
 t182:=Tryz.underlying258,
 a182:=Tryz.isAgg258,
 z182:=Tryz.sizeOf258,
 v182:=Tryz.zeroValue258,
 t183:=Tryz.underlying259,
 a183:=Tryz.isAgg259,
 z183:=Tryz.sizeOf259,
 v183:=Tryz.zeroValue259,
 t218:=Tryz.underlying292,
 a218:=Tryz.isAgg292,
 z218:=Tryz.sizeOf292,
 v218:=Tryz.zeroValue292,
 t222:=Tryz.underlying109,
 a222:=Tryz.isAgg109,
 z222:=Tryz.sizeOf109,
 v222:=Tryz.zeroValue109,
 t228:=Tryz.underlying308,
 a228:=Tryz.isAgg308,
 z228:=Tryz.sizeOf308,
 v228:=Tryz.zeroValue308,
 t229:=Tryz.underlying309,
 a229:=Tryz.isAgg309,
 z229:=Tryz.sizeOf309,
 v229:=Tryz.zeroValue309 }
def aI9 (a:Int):List Int→List Int
 | []=>[a]
 | b :: l=>bif decide (a≤b) then a :: b :: l else b :: aI9 a l
def cI:List Int→List Int
 | []=>[]
 | a :: l=>aI9 a (cI l)
theorem JG (a:Int):∀ l,(aI9 a l).Perm (a :: l)
 | []=>.refl _
 | b :: l=>by
  simp only [aI9];cases decide (a≤b) with
  | true=>exact .refl _
  | false=>exact((JG a l).cons b).trans (.swap a b l)
theorem gE:∀ l,(cI l).Perm l
 | []=>.refl _
 | a :: l=>(JG a _).trans ((gE l).cons a)
theorem L2 (a:Int):∀ l,l.Pairwise (fun x y=>x≤y)→(aI9 a l).Pairwise (fun x y=>x≤y)
 | [],_=>by simp [aI9]
 | b :: l,h=>by
  have hb:=List.pairwise_cons.1 h;simp only [aI9];cases hd:decide (a≤b) with
  | true=>
   have hab:a≤b:=aXU hd;refine List.pairwise_cons.2 ⟨fun x hx=>?_,h⟩;rcases aQL.1 hx with rfl | hx
   ·exact hab
   ·exact Int.le_trans hab (hb.1 x hx)
  | false=>
   have hab:¬a≤b:=of_decide_eq_false hd;refine List.pairwise_cons.2 ⟨fun x hx=>?_,L2 a l hb.2⟩;rcases aQL.1 ((JG a l).mem_iff.1 hx) with rfl | hx
   ·omega
   ·exact hb.1 x hx
theorem kZ:∀ l,(cI l).Pairwise (fun x y=>x≤y)
 | []=>.nil
 | a :: l=>L2 a _ (kZ l)
theorem aSI (l:List Int):l.mergeSort (fun x y=>decide (x≤y))=cI l:=by
 refine List.Perm.eq_of_pairwise (le:=fun x y=>x≤y) (fun a b _ _ h k=>by omega) ?_ (kZ l) ((List.mergeSort_perm l _).trans (gE l).symm);exact(List.pairwise_mergeSort (le:=fun x y=>decide (x≤y)) (fun a b c h k=>by
  have h:=aXU h;have k:=aXU k;exact aKO (by omega)) (fun a b=>by
  by_cases h:a≤b
  ·simp [h]
  ·have:b≤a:=by omega
   simp [this]) l).imp (fun h=>aXU h)
theorem gN (l:List Int):(cI l).length=l.length:=(gE l).length_eq
abbrev bAY:aF:=⟨1,[(0,.own I 0)],[.row 3 I],fun s=>[aG s 0]⟩
abbrev aSJ:aF:=⟨0,[],[.row 3 I],fun _=>[0]⟩
def xD (b0:List (Ty.El I)):Option aSJ.El:=bif Nat.ble b0.length 1000000 then some ((),cI b0,()) else none
def bAZ:DF:=⟨1,[.bU 0 3 I,.dJ 0 3 I],bAY,aSJ,fun x=>xD x.2.1⟩
theorem bA0:bAZ.Ok CT.P 101:=by
 intro x y hxy R ρ w vs hr hvs;have hxy:xD x.2.1=some y:=hxy;unfold xD at hxy;generalize hl:x.2.1=l at hxy;cases hb:Nat.ble l.length 1000000 with
 | false=>rw [hb] at hxy;cases hxy
 | true=>
 rw [hb] at hxy;have hlen:=a9q hb;have hy:y=((),cI l,()):=(Option.some.inj hxy).symm;subst hy;have hr:Rel R ρ [some (.row 3 I x.2.1)] w:=hr;have hvs:aK w R ρ [.bL I 0] vs.toList:=hvs;rw [hl] at hr;obtain⟨u0,us,hu,h1,h2⟩:=hvs.cons_inv;obtain rfl:=h2.bE;have hv:vs=#[u0]:=aRl.1 (by simpa using hu);subst hv;have hone:∀ (m:List Int) (k:Nat) (blk:cQ),([some (cQ.row 3 I m)]:AH)[k]?=some (some blk)→k=0∧blk=.row 3 I m:=by
  intro m k blk hk;cases k with
  | zero=>simp at hk;exact⟨rfl,hk.symm⟩
  | succ k=>simp at hk
 show Calls CT.P 101 #[u0] w fun q w'=>∃ R' ρ' u,q=.returned u∧aI w' R' ρ' (.xF []) u∧Rel R' ρ' [some (.row 3 I (cI l))] w'∧eF 1 R ρ [some (.row 3 I x.2.1)] w R' ρ' [some (.row 3 I (cI l))] w';rw [hl];cases h1 with
 | @bL _ _ b N cap hn hg hlc hc=>
  obtain⟨b',N',hn',hB,gG⟩:=hr.live 0 _ rfl;rw [hn] at hn';simp only [aJp,aKN] at hn';obtain⟨rfl,rfl⟩:=hn';obtain⟨q1,q2⟩:=hB;obtain⟨arr,q3,q4,q5,q6⟩:=q2 hg;have hcell:∀ j,j<l.length→arr[j]?=some (Value.int .i64 (l.getD j 0)):=by
   intro j hj;obtain⟨u,W9,hu2⟩:=q6 j 0 (.int .i64 (l.getD j 0)) hj rfl;have e:j*I.sz+0=j:=by show j*1+0=j;omega
   rw [e] at W9;cases hu2;exact W9
  have aSK:arr.toList.take l.length=l.map (Value.int .i64):=by
   apply List.ext_getElem?;intro j;by_cases hj:j<l.length
   ·rw [aXO hj,aQ3,hcell j hj,aQn,aJS hj,aQj,aJS hj];rfl
   ·rw [List.getElem?_take_eq_none (by omega),List.getElem?_eq_none (by simp;omega)]
  have hblk:b<w.heap.size:=(aZK.1 q3).1;have hH:=holds_of_blockI (ss:=l) q3 aSK;rw [q1];have hs:=Any.slices_Sort_int aFB b 0 cap l w hH hblk (by omega);refine hs.mono ?_;rintro e w' ⟨rfl,n,os,rfl⟩;rw [aSI];have hsz:(grow (putRow (Value.int .i64) (Sort.ahead w n) b 0 (cI l).toArray) os).heap.size=w.heap.size+os.size:=by
   rw [size_grow];simp [putRow,mapBlock,Sort.ahead]
  have hkeep:∀ k,k<w.heap.size→k≠b→(grow (putRow (Value.int .i64) (Sort.ahead w n) b 0 (cI l).toArray) os).heap[k]?=w.heap[k]?:=by
   intro k hk hne;rw [heap_grow_old _ _ (by simpa [putRow,mapBlock,Sort.ahead] using hk)];have:b≠k:=fun e=>hne e.symm;simp [putRow,mapBlock,Sort.ahead,Array.getElem?_modify,this]
  have hlv:∀ c,Lv ρ [some (.row 3 I l)] c→c=b:=by
   rintro c ⟨k,blk,M,hk,hn',hg'⟩;obtain⟨rfl,rfl⟩:=hone l k blk hk;rw [hn] at hn';simp only [aJp,aKN] at hn';exact hn'.1.symm
  have aSL:∀ c,Lv ρ [some (.row 3 I (cI l))] c→Lv ρ [some (.row 3 I l)] c:=by
   rintro c ⟨k,blk,M,hk,hn',hg'⟩;obtain⟨rfl,rfl⟩:=hone _ k blk hk;exact⟨0,_,M,rfl,hn',hg'⟩
  refine⟨R,ρ,_,rfl,.mU .nil,⟨fun k blk hk=>?_,fun k k' bk bk' c Nk Nk' hk hk' _ _ _ _=>?_,fun k hk=>hr.dom k hk,fun c hc'=>by rw [hsz];exact a1r (hr.ro c hc') (a9v _ _)⟩,
   ⟨rfl,rfl,rfl,by rw [hsz];exact a9v _ _,fun _ h=>h,fun c hc' hnl=>hkeep c hc' fun e=>hnl (e▸⟨0,_,N,rfl,hn,hg⟩),fun c hl'=>.inl (aSL c hl'),fun _ h=>.inl h,a9v _ _,fun _ _ _ h=>h⟩⟩
  ·obtain⟨rfl,rfl⟩:=hone _ k blk hk;refine⟨b,N,hn,⟨by rw [q1,gN],fun _=>⟨_,heap_sortedI _ q3,by simp [putCells,q4],by rw [gN];exact q5,fun j o c hj hc'=>?_⟩⟩,?_⟩
   ·have ho:o=0:=by
     cases o with
     | zero=>rfl
     | succ o=>simp [Ty.at,Ty.enc,AV.cells] at hc'
    subst ho;have hcc:c=.int .i64 ((cI l).getD j 0):=by
     simp [Ty.at,Ty.enc,AV.cells] at hc';rw [← hc'];simp [aQj,Ty.dflt]
    subst hcc;refine⟨Value.int .i64 ((cI l).getD j 0),?_,.int _ _⟩;have e:j*I.sz+0=j:=by show j*1+0=j;omega
    rw [e];have h5:=take_putCellsI arr (cI l) (by rw [gN,q4];have:l.length*1≤N.n:=q5;omega);have h6:((putCells (Value.int .i64) 0 (cI l).toArray arr).toList.take (cI l).length)[j]?=((cI l).map (Value.int .i64))[j]?:=by rw [h5]
    rw [aXO hj,aQ3,aQn,aJS hj] at h6;rw [h6,aQj,aJS hj];rfl
   ·rcases gG with⟨h5,h6⟩ | ⟨h5,_⟩
    ·exact .inl ⟨h5,h6⟩
    ·rw [hg] at h5;cases h5
  ·rw [(hone _ k _ hk).1,(hone _ k' _ hk').1]
 | @iY _ _ b N hn hg=>
  obtain⟨b',N',hn',hB,gG⟩:=hr.live 0 _ rfl;rw [hn] at hn';simp only [aJp,aKN] at hn';obtain⟨rfl,rfl⟩:=hn';have hl0:l=[]:=by
   rcases gG with⟨h5,_⟩ | ⟨_,t,ty,h5⟩
   ·rw [hg] at h5;cases h5
   ·injection h5 with _ h6 h7
    subst h6;exact eq_of_heq h7
  subst hl0;have hs:=Any.slices_Sort_int_none aFB none 0 w;refine hs.mono ?_;rintro e w' ⟨rfl,rfl⟩;exact⟨R,ρ,_,rfl,.mU .nil,hr,eF.refl _ _ _ _⟩
def FL (a1:Ty.El (.list I)):Option (List (Ty.El I)):=aPa a1
def aSM:aW:=.own 94 [] ⟨[.ty (.list I)],3,I,fun x=>FL x.1⟩
theorem aSN:aSM.Ok CT.P:=by
 intro x y h;have hl:aPa x.1=some y:=h;exact oI (e:=3) (bt:=3) aL aI5 a2d a2c bAM aSx a2e (l:=x.1) (y:=y) ((bAN x.1).trans hl) (fun h0=>by
  rw [h0] at hl;exact(Option.some.inj hl).symm)
def a4S:aW:=.dV 101 [] bAZ
theorem aSO:a4S.Ok CT.P:=aW.mZ bA0
open Go.Proofs Go.Sort Go.ChangeShapes Go.WideShapes
def aYV:Go.Shelf.Ren:=⟨fun | 20=>102 | n=>n,fun | 22=>23 | n=>n,fun n=>n⟩
theorem L3:Lays2.n20 Tryz.prog aYV:={
 mixed:=by kernel_rfl,
 f20:=Tryz.func102.trans (aKR some (by kernel_rfl)),
 t0:=Tryz.underlying0,
 a0:=Tryz.isAgg0,
 z0:=Tryz.sizeOf0,
 v0:=Tryz.zeroValue0,
 t3:=Tryz.underlying3,
 a3:=Tryz.isAgg3,
 z3:=Tryz.sizeOf3,
 v3:=Tryz.zeroValue3,
 t4:=Tryz.underlying4,
 a4:=Tryz.isAgg4,
 z4:=Tryz.sizeOf4,
 v4:=Tryz.zeroValue4,
 t22:=Tryz.underlying23,
 a22:=Tryz.isAgg23,
 z22:=Tryz.sizeOf23,
 v22:=Tryz.zeroValue23,
 i3:=by kernel_rfl }
def iP (l:List Int):List Int:=Go.Lib.compact l
theorem JH (l:List Int):(iP l).length≤l.length:=by
 unfold iP Go.Lib.compact Go.Lib.compactUpTo;rw [aRD];exact aPB (aXR _ _) (by simp)
def aBW (l:List (Ty.El I)):Option (List (Ty.El I)):=bif Nat.ble l.length 1000000 then some (iP l) else none
def bA1:aW:=.mov 102 [] ⟨[],3,I,3,I,fun l x=>aBW l⟩
theorem bA2:bA1.Ok CT.P:=by
 intro l x y hxy R ρ w vs hr hvs;have hxy:aBW l=some y:=hxy;unfold aBW at hxy;cases hb:Nat.ble l.length 1000000 with
 | false=>rw [hb] at hxy;cases hxy
 | true=>
 rw [hb] at hxy;have hlen:=a9q hb;have hy:y=iP l:=(Option.some.inj hxy).symm;subst hy;have hr:Rel R ρ [some (.row 3 I l)] w:=hr;have hvs:aK w R ρ [.bL I 0] vs.toList:=hvs;obtain⟨u0,us,hu,h1,h2⟩:=hvs.cons_inv;obtain rfl:=h2.bE;have hv:vs=#[u0]:=aRl.1 (by simpa using hu);subst hv;show Calls CT.P 102 #[u0] w fun q w'=>∃ R' ρ' u,(q=.returned u∧aI w' R' ρ' (.bL I 1) u)∧Rel R' ρ' [none,some (.row 3 I (iP l))] w'∧fB R ρ [some (.row 3 I l)] w R' ρ' [none,some (.row 3 I (iP l))] w';cases h1 with
 | @bL _ _ b N cap hn hg hlc hc=>
  obtain⟨b',N',hn',hB,gG⟩:=hr.live 0 _ rfl;rw [hn] at hn';simp only [aJp,aKN] at hn';obtain⟨rfl,rfl⟩:=hn';obtain⟨q1,q2⟩:=hB;obtain⟨arr,q3,q4,q5,q6⟩:=q2 hg;have hcell:∀ j,j<l.length→arr[j]?=some (Value.int .i64 (l.getD j 0)):=by
   intro j hj;obtain⟨u,W9,hu2⟩:=q6 j 0 (.int .i64 (l.getD j 0)) hj rfl;have e:j*I.sz+0=j:=by show j*1+0=j;omega
   rw [e] at W9;cases hu2;exact W9
  have aSK:arr.toList.take l.length=l.map (Value.int .i64):=by
   apply List.ext_getElem?;intro j;by_cases hj:j<l.length
   ·rw [aXO hj,aQ3,hcell j hj,aQn,aJS hj,aQj,aJS hj];rfl
   ·rw [List.getElem?_take_eq_none (by omega),List.getElem?_eq_none (by simp;omega)]
  have hH:=holds_of_blockI (ss:=l) q3 aSK;have hll:l.length≤cap:=by omega
  rw [q1];have hs:=Any.slices_Compact_int L3 b 0 cap l w hH (by omega) hll;refine hs.mono ?_;rintro e w' ⟨rfl,n,rfl⟩;obtain⟨z,hz⟩:∃ z,z=iP l++List.replicate (l.length-(iP l).length) (0:Int):=⟨_,rfl⟩;have hzl:z.length=l.length:=by rw [hz,aPk,List.length_replicate];have:=JH l;omega
  have hcl:=JH l;show ∃ R' ρ' u,(_=_∧_)∧_;have hwd:putRow (Value.int .i64) (Sort.ahead w n) b 0 (Lib.compact l++List.replicate (l.length-(Lib.compact l).length) 0).toArray=putRow (Value.int .i64) (Sort.ahead w n) b 0 z.toArray:=by rw [hz];rfl
  rw [hwd];have hsz:(putRow (Value.int .i64) (Sort.ahead w n) b 0 z.toArray).heap.size=w.heap.size:=by simp [putRow,mapBlock,Sort.ahead]
  have hkeep:∀ k,k≠b→(putRow (Value.int .i64) (Sort.ahead w n) b 0 z.toArray).heap[k]?=w.heap[k]?:=by
   intro k hne;have:b≠k:=fun e=>hne e.symm;simp [putRow,mapBlock,Sort.ahead,Array.getElem?_modify,this]
  have hheap:(putRow (Value.int .i64) (Sort.ahead w n) b 0 z.toArray).heap[b]?=some (.cells (putCells (Value.int .i64) 0 z.toArray arr) 3 (0,0)):=by
   simp [putRow,mapBlock,Sort.ahead,Array.getElem?_modify,q3,onCells]
  have hput:=take_putCellsI arr z (by rw [hzl,q4];have:l.length*1≤N.n:=q5;omega);have bA3:(putCells (Value.int .i64) 0 z.toArray arr).size=N.n:=by simp [putCells,q4]
  have hB2:dY (putRow (Value.int .i64) (Sort.ahead w n) b 0 z.toArray) R ρ b ⟨N.n,(iP l).length,false⟩ (.row 3 I (iP l)):=by
   refine⟨rfl,fun _=>⟨_,hheap,bA3,by show(iP l).length*1≤N.n;have:l.length*1≤N.n:=q5;omega,fun j o c hj hc'=>?_⟩⟩;have ho:o=0:=by
    cases o with
    | zero=>rfl
    | succ o=>simp [Ty.at,Ty.enc,AV.cells] at hc'
   subst ho;have hcc:c=.int .i64 ((iP l).getD j 0):=by
    simp [Ty.at,Ty.enc,AV.cells] at hc';rw [← hc'];simp [aQj,Ty.dflt]
   subst hcc;refine⟨Value.int .i64 ((iP l).getD j 0),?_,.int _ _⟩;have e:j*I.sz+0=j:=by show j*1+0=j;omega
   rw [e];have hjz:j<z.length:=by omega
   have h6:((putCells (Value.int .i64) 0 z.toArray arr).toList.take z.length)[j]?=(z.map (Value.int .i64))[j]?:=by rw [hput]
   rw [aXO hjz,aQ3,aQn,hz,aZ8 hj,aJS hj] at h6;rw [← hz] at h6;rw [h6,aQj,aJS hj];rfl
  have hB1:dY (putRow (Value.int .i64) (Sort.ahead w n) b 0 z.toArray) R ρ b N (.cells 3 []):=⟨_,hheap,bA3,aLj _,by simpa using aK.nil⟩;obtain⟨r1,f1⟩:=O3 (w':=putRow (Value.int .i64) (Sort.ahead w n) b 0 z.toArray) (i:=0) (N':=⟨N.n,(iP l).length,false⟩) hr rfl hn (.row 3 I (iP l)) rfl rfl rfl hsz hkeep (.cells 3 []) hB1 hB2 hg rfl (a9v _ _);refine⟨R,_,_,⟨rfl,?_⟩,r1,f1⟩;exact .bL (N:=⟨N.n,(iP l).length,false⟩) (Nm.cD _ _ _) rfl (by show(iP l).length≤cap;omega) hc
 | @iY _ _ b N hn hg=>
  obtain⟨b',N',hn',hB,gG⟩:=hr.live 0 _ rfl;rw [hn] at hn';simp only [aJp,aKN] at hn';obtain⟨rfl,rfl⟩:=hn';have hl0:l=[]:=by
   rcases gG with⟨h5,_⟩ | ⟨_,t,ty,h5⟩
   ·rw [hg] at h5;cases h5
   ·injection h5 with _ h6 h7
    subst h6;exact eq_of_heq h7
  subst hl0;have hs:=Any.slices_Compact_int_empty L3 none 0 w;refine hs.mono ?_;rintro e w' ⟨rfl,rfl⟩;obtain⟨r1,f1⟩:=xP hr 0;obtain⟨r2,f2,v2⟩:=zA r1 3 I;exact⟨R,_,_,⟨rfl,v2⟩,r2,f1.trans f2⟩
end Go.DI.S
end
