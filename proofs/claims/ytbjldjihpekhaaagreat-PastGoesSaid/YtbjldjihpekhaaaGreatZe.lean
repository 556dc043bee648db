import Derived.Test.YtbjldjihpekhaaaGreatYb
import Derived.Test.YtbjldjihpekhaaaGreatGa
import Derived.Test.YtbjldjihpekhaaaGreatYd
import Derived.Test.YtbjldjihpekhaaaGreatXc
import Derived.Test.YtbjldjihpekhaaaGreatWa
/- What a command comes to, plain. No conditions. -/
set_option linter.unusedSimpArgs false
set_option linter.unusedVariables false
set_option maxRecDepth 100000
set_option maxHeartbeats 0
noncomputable section
namespace Go.DI.S
open Go.Proofs
structure Good (s:aZ)(made:Bool)(r:aZ)(n:Int):Prop where
 right:bK r=true
 small:Small r.2.2
 next:s.2.1≤r.2.1
 some:made=true→0<n∧Is r.2.2 n
 none:made=false→n=0
 near:(∀ n,Is s.2.2 n→Is r.2.2 n)∨(∀ n,Is r.2.2 n→Is s.2.2 n)
def kP (s:aZ)(made:Bool)(R:Option fM.El):Prop:=∃ r n e w',R=some (((r,n,e,()),(w',()),()):fM.El)∧(e=0→Good s made r n)
theorem aVq (g:Int→Bool)(l:List Thing):∀ n,Is (left g l) n→Is l n:=by
 rintro n ⟨u,hu,e⟩;obtain⟨t,ht,_,rfl⟩:=mem_left.1 hu;exact⟨t,ht,e⟩
theorem aQh (t:Thing)(l:List Thing):∀ n,Is (dR t l) n→Is l n:=by
 rintro n ⟨u,hu,e⟩;obtain⟨x,hx,_,rfl⟩:=gS.1 hu;rw [GS] at e;exact⟨x,hx,e⟩
theorem aQi {n:Int}(h1:1≤n)(h2:n≤1000000):IntKind.i64.wrap (n+1)=n+1:=wrap64 (by omega) (by omega)
theorem le_next (n:Int):n≤n+1:=by omega
theorem aVr {n:Int}(h:1≤n):0<n:=by omega
theorem a0s {n m:Int}{k:Nat}(h:n=m):m≤n+(k:Int):=by omega
theorem fZ {s:aZ}{made:Bool}{r:aZ}{n e:Int}{w':aR.El}(he:e≠0):kP s made (some (((r,n,e,()),(w',()),()):fM.El)):=⟨r,n,e,w',rfl,fun h=>absurd h he⟩
theorem rF {s:aZ}{made:Bool}{r:aZ}{n:Int}{w':aR.El}(h:Good s made r n):kP s made (some (((r,n,0,()),(w',()),()):fM.El)):=⟨r,n,0,w',rfl,fun _=>h⟩
section
variable {w:aR.El}(hs:Small w.1.2.2)(hr:bK w.1=true)
include hs hr
theorem aVs (t:Thing)(ht:t.2.2.2.2.length≤1000000):kP w.1 true (R6 t (w,())):=by
 have hR:=bR hr;have rK:=hR.next;unfold R6;by_cases hn:w.1.2.1>1000000
 ·have e45:=XK (1000000,t.2) (by show t.2.2.2.2.length≤_;omega);have hm:(if(1000000:Int)<w.1.2.1 then(1000000:Int) else w.1.2.1)=1000000:=aJb hn;have hg:kP w.1 true ((BW (1000000,t.2)).bind fun v2:aS [.bool]=>bif !v2.fst then some (((w.1,(0:Int),(9:Int),()),(w,()),()):fM.El) else some (((w.1,(0:Int),(12:Int),()),(w,()),()):fM.El)):=by
   rw [e45];show kP w.1 true (bif !(rt (1000000,t.2)) then _ else _);cases rt (1000000,t.2)
   ·exact fZ (by decide)
   ·exact fZ (by decide)
  have hd:decide (w.1.2.1>(1000000:Int))=true:=aKO hn;show kP w.1 true ((BW ((if(1000000:Int)<w.1.2.1 then(1000000:Int) else w.1.2.1),t.2)).bind fun v2=>bif !v2.fst then _ else bif decide (w.1.2.1>(1000000:Int)) then _ else _);rw [hm,hd];exact hg
 ·have hn':w.1.2.1≤1000000:=Int.not_lt.1 hn;have hm:(if(1000000:Int)<w.1.2.1 then(1000000:Int) else w.1.2.1)=w.1.2.1:=aJn hn;have hd:decide (w.1.2.1>(1000000:Int))=false:=aKP hn;have hw:IntKind.i64.wrap (w.1.2.1+1)=w.1.2.1+1:=aQi rK.1 hn';show kP w.1 true ((BW ((if(1000000:Int)<w.1.2.1 then(1000000:Int) else w.1.2.1),t.2)).bind fun v2=>bif !v2.fst then _ else bif decide (w.1.2.1>(1000000:Int)) then _ else
   (nP (w.1.1,IntKind.i64.wrap (w.1.2.1+1),w.1.2.2) ((if(1000000:Int)<w.1.2.1 then(1000000:Int) else w.1.2.1),t.2)).bind fun v4=>some ((v4.fst,(if(1000000:Int)<w.1.2.1 then(1000000:Int) else w.1.2.1),v4.snd.fst,()),(w,()),()))
  rw [hm,hd,hw];have e45:=XK (w.1.2.1,t.2) (by show t.2.2.2.2.length≤_;omega);rw [e45];show kP w.1 true (bif !(rt (w.1.2.1,t.2)) then _ else _);cases rt (w.1.2.1,t.2)
  ·exact fZ (by decide)
  ·have hr':=T9 hs hr hn';rcases bBy (w.1.1,w.1.2.1+1,w.1.2.2) (w.1.2.1,t.2) hs hr' ht with⟨e,he,h⟩ | ⟨l',h1,h2,h3,h,_⟩
   ·show kP w.1 true ((nP (w.1.1,w.1.2.1+1,w.1.2.2) (w.1.2.1,t.2)).bind _);rw [h];exact fZ he
   ·show kP w.1 true ((nP (w.1.1,w.1.2.1+1,w.1.2.2) (w.1.2.1,t.2)).bind _);rw [h];exact rF ⟨h3,h2,le_next w.1.2.1,fun _=>⟨aVr rK.1,⟨_,h1.new,rfl⟩⟩,(fun h=>by cases h),.inl (aGN h1)⟩
theorem a6C (id:Int):kP w.1 false ((aJT w.1 id).bind fun v=>some (((v.1,(0:Int),v.2.1,()),(w,()),()):fM.El)):=by
 rcases bHn w.1 id hs hr with⟨_,h⟩ | ⟨_,g,hc,_,h⟩
 ·rw [h];exact fZ (by decide)
 ·rw [h];exact rF ⟨aJ2 hr hs hc,T6 hs,Int.le_refl _,(fun h=>by cases h),(fun _=>rfl),.inr (aVq g w.1.2.2)⟩
theorem a6D:kP w.1 false (pZ (w,())):=by
 rcases aVe (a0n w) hs hr with⟨_,h⟩ | ⟨hg,us,hu,h⟩ | ⟨hg,e,row,hu,h⟩
 ·rw [h];exact fZ (by decide)
 ·rw [h];exact rF ⟨aGQ hr hs (oD hg) hu,(AZ hu).small hs,Int.le_refl _,(fun h=>by cases h),(fun _=>rfl),.inl fun n hn=>(AZ hu).is hn⟩
 ·rw [h];exact fZ (aJ5 (a6w _) hu)
theorem a6E (ids:List Int)(hi:ids.length≤1000):kP w.1 true ((ZD w.1 ids).bind fun v=>some (((v.1,v.2.1,v.2.2.1,()),(w,()),()):fM.El)):=by
 have hR:=bR hr;rcases bCI w.1 ids hs hr hi with⟨e,he,h⟩ | ⟨l',h1,h2,h3,h4,h5,h⟩
 ·rw [h];exact fZ he
 ·rw [h];exact rF ⟨h1,h2,le_next w.1.2.1,fun _=>⟨aVr hR.next.1,h4⟩,(fun h=>by cases h),.inl h5⟩
theorem a6F:kP w.1 false (DX (w,())):=by
 rcases a6A hs hr with⟨e,he,h⟩ | ⟨t,ht,hk,hl,h⟩
 ·rw [h];exact fZ he
 ·rw [h];exact rF ⟨aGW hr hs ht hk hl,MM hs hl,Int.le_refl _,(fun h=>by cases h),(fun _=>rfl),.inr (aQh t w.1.2.2)⟩
theorem a6G (id:Int)(q:fW):kP w.1 true ((aJJ w.1 id q).bind fun v=>some (((v.1,v.2.1,v.2.2.1,()),(w,()),()):fM.El)):=by
 rcases bHj w.1 id q hs hr with⟨e,he,h⟩ | ⟨hn,hk,c1,c2,out,hc,h⟩
 ·rw [h];exact fZ he
 ·have hR:=bR hr;obtain⟨us,rfl,hl,hcp⟩:=aGH hc;have hC:Cp w.1 id us:=⟨hR,hs,hn,c1,c2,hl,_,hcp⟩;rw [hC.first] at h;rw [h];exact rF ⟨hC.right hr,hC.small,a0s (n:=w9 w.1) (m:=w.1.2.1) rfl,fun _=>⟨(hC.aPZ hn).2,hC.bCF⟩,(fun h=>by cases h),.inl fun n hn=>hC.aJY hn⟩
theorem a6H (v:fW):kP w.1 false ((pR (v,w.1.2)).bind fun b=>bif !b.1 then some ((((v,w.1.2),(0:Int),(9:Int),()),(w,()),()):fM.El) else(vV w.1.2.2).bind fun l=>some ((((v,w.1.2.1,l),(0:Int),(0:Int),()),(w,()),()):fM.El)):=by
 have hR:=bR hr;have e20:=JI (v,w.1.2) hs;have hoo:=aCY w.1.2.2 hs (by have:=hR.len;omega);rw [e20,hoo];show kP w.1 false (bif !(bK (v,w.1.2)) then _ else _);cases hr':bK (v,w.1.2)
 ·exact fZ (by decide)
 ·exact rF ⟨hr',hs,Int.le_refl _,(fun h=>by cases h),(fun _=>rfl),.inl fun n hn=>hn⟩
end
theorem a0t (a:Int):∃ n:Int,J2 a=some ((n,()):aS [I])∧0≤n∧n<65536:=by
 refine⟨_,rfl,?_⟩;have h1:-65536<Int.tmod a 65536∧Int.tmod a 65536<65536:=by
  have:=Int.tmod_lt_of_pos a (show(0:Int)<65536 by decide);have h2:=Int.lt_tmod_of_pos a (show(0:Int)<65536 by decide);omega
 rw [wrap64 (by omega) (by omega)];have h3:0≤Int.tmod a 65536+65536:=by omega
 exact⟨Int.tmod_nonneg _ h3,Int.tmod_lt_of_pos _ (by decide)⟩
theorem a0u {n:Int}(h0:0≤n)(h1:n<65536):J2 n=some ((n,()):aS [I]):=by
 show some (((IntKind.i64.wrap (Int.tmod n (65536:Int)+(65536:Int))).tmod (65536:Int),()):aS [I])=_;have e1:Int.tmod n 65536=n:=by rw [Int.tmod_eq_emod_of_nonneg h0];omega
 rw [e1,wrap64 (by omega) (by omega),Int.tmod_eq_emod_of_nonneg (by omega)];have:(n+65536) % 65536=n:=by omega
 rw [this]
theorem a0v {n:Int}(h0:0≤n)(h1:n≤32768):0≤n*(32768-n)∧n*(32768-n)≤268435456:=by
 refine⟨Int.mul_nonneg h0 (by omega),?_⟩;have h:0≤(n-16384)*(n-16384):=by
  rw [← Int.natAbs_mul_self];exact Int.natCast_nonneg _
 have e:(n-16384)*(n-16384)=268435456-n*(32768-n):=by
  rw [Int.sub_mul,Int.mul_sub,Int.mul_sub,Int.mul_sub];omega
 omega
theorem aNg (f:rR)(a:Int){n:Int}(hn:J2 a=some ((n,()):aS [I]))(h0:0≤n)(h1:n≤32768):lK (D2 f a):=by
 obtain⟨p0,p1⟩:=a0v h0 h1;have w1:IntKind.i64.wrap ((32768:Int)-n)=32768-n:=wrap64 (by omega) (by omega);have w2:IntKind.i64.wrap (n*(32768-n))=n*(32768-n):=wrap64 (by omega) (by omega);unfold D2;refine rG hn (mD (aKP (by show ¬n>32768;omega)) ?_);show lK ((k9 (IntKind.u64.wrap ((16:Int)*IntKind.u64.wrap (IntKind.i64.wrap (n*IntKind.i64.wrap ((32768:Int)-n))))) (4294967296:Int)).bind fun v6=>
  (vY v6.fst v6.snd.fst (IntKind.u64.wrap ((5368709120:Int)-IntKind.u64.wrap ((4:Int)*IntKind.u64.wrap (IntKind.i64.wrap (n*IntKind.i64.wrap ((32768:Int)-n))))))).bind fun v8=>some (IntKind.i64.wrap v8.fst,()))
 rw [w1,w2];generalize n*(32768-n)=q at p0 p1;rw [aJ6 p0 (by omega),aJ6 (n:=16*q) (by omega) (by omega),aJ6 (n:=4*q) (by omega) (by omega),aJ6 (n:=5368709120-4*q) (by omega) (by omega)];refine rG (a6u (by omega) (by omega)) (bV (aNh _ _ _ ?_ ?_ (by omega)) fun _=>aO _)
 ·show 0≤16*q / 4294967296;omega
 ·show 16*q / 4294967296<5368709120-4*q;omega
theorem aNi (a:Int):lK (aGm a):=by
 obtain⟨n,hn,h0,h1⟩:=a0t a;show lK (D2 (J3 2) a);by_cases h:n≤32768
 ·exact aNg _ a hn h0 h
 ·unfold D2;refine rG hn (aNj (aKO (by show n>32768;omega)) (bV ?_ fun _=>aO _));show lK (D2 (J3 1) (IntKind.i64.wrap (n-32768)));rw [wrap64 (by omega) (by omega)];exact aNg _ _ (a0u (by omega) (by omega)) (by omega) (by omega)
theorem a0w (a:Int):lK (aMF a):=bV (aO _) fun _=>bV (aNi _) fun _=>aO _
def a0x (n:Int)(p:fW):fW⊕Int:=match aMH p.1 p.2 n with
 | some r=>if r.2.2.1=0 then .inl (r.1,r.2.1) else .inr 3
 | none=>.inr 3
theorem aVt (n:Int)(p:fW)(e:Int)(h:a0x n p=.inr e):e≠0:=by
 unfold a0x at h
 split at h
 ·split at h
  ·cases h
  ·cases h;decide
 ·cases h;decide
theorem aVu (w:aR.El)(p:fW):J4 w p=some (match a0x w.2.1.2.2.2.2.2.2.2.2.2.1 p with | .inl q=>.inl ((q,()):aS [aU]) | .inr e=>.inr e):=by
 obtain⟨r,hr⟩:=a0m (aNi _) (a0w _) p.1 p.2;unfold J4 a0x;rw [hr];simp only [aEk];by_cases h0:r.2.2.1=0
 ·rw [aJb h0];exact cU (by rw [h0];rfl) rfl
 ·rw [aJn h0];exact bZ (by simpa using h0) rfl
theorem a6I {w:aR.El}(hs:Small w.1.2.2)(hr:bK w.1=true):kP w.1 false (p8 (w,())):=by
 rcases aVg (aVu w) hs hr with⟨_,h⟩ | ⟨hg,us,hu,h⟩ | ⟨hg,e,row,hu,h⟩
 ·rw [h];exact fZ (by decide)
 ·rw [h];exact rF ⟨aGQ hr hs (oD hg) hu,(AZ hu).small hs,Int.le_refl _,(fun h=>by cases h),(fun _=>rfl),.inl fun n hn=>(AZ hu).is hn⟩
 ·rw [h];exact fZ (aJ5 (aVt _) hu)
end Go.DI.S
end
