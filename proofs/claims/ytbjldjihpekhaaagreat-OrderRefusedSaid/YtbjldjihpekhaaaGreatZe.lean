import Derived.Test.YtbjldjihpekhaaaGreatYb
import Derived.Test.YtbjldjihpekhaaaGreatGa
import Derived.Test.YtbjldjihpekhaaaGreatYd
import Derived.Test.YtbjldjihpekhaaaGreatXc
import Derived.Test.YtbjldjihpekhaaaGreatWa
/- What a command comes to, plain. No conditions. -/
set_option linter.unusedSimpArgs false
set_option linter.unusedVariables false
set_option maxRecDepth 100000
set_option maxHeartbeats 0
noncomputable section
namespace Go.DI.S
open Go.Proofs
structure Good (s:Scene)(made:Bool)(r:Scene)(n:Int):Prop where
 right:rightB r=true
 small:Small r.2.2
 next:s.2.1≤r.2.1
 some:made=true→0<n∧Is r.2.2 n
 none:made=false→n=0
def Outc (s:Scene)(made:Bool)(R:Option OUT_do4.El):Prop:=∃ r n e w',R=some (((r,n,e,()),(w',()),()):OUT_do4.El)∧(e=0→Good s made r n)
theorem wrap_next {n:Int}(h1:1≤n)(h2:n≤1000000):IntKind.i64.wrap (n+1)=n+1:=wrap64 (by omega) (by omega)
theorem le_next (n:Int):n≤n+1:=by omega
theorem pos_of {n:Int}(h:1≤n):0<n:=by omega
theorem le_more {n m:Int}{k:Nat}(h:n=m):m≤n+(k:Int):=by omega
theorem outc_err {s:Scene}{made:Bool}{r:Scene}{n e:Int}{w':tWorker.El}(he:e≠0):Outc s made (some (((r,n,e,()),(w',()),()):OUT_do4.El)):=⟨r,n,e,w',rfl,fun h=>absurd h he⟩
theorem outc_ok {s:Scene}{made:Bool}{r:Scene}{n:Int}{w':tWorker.El}(h:Good s made r n):Outc s made (some (((r,n,0,()),(w',()),()):OUT_do4.El)):=⟨r,n,0,w',rfl,fun _=>h⟩
section
variable {w:tWorker.El}(hs:Small w.1.2.2)(hr:rightB w.1=true)
include hs hr
theorem o_make (t:Thing)(ht:t.2.2.2.2.length≤1000000):Outc w.1 true (F_make t (w,())):=by
 have hR:=right_of hr
 have hnx:=hR.next
 unfold F_make
 by_cases hn:w.1.2.1>1000000
 ·have e45:=v_45 (1000000,t.2) (by show t.2.2.2.2.length≤_;omega)
  have hm:(if(1000000:Int)<w.1.2.1 then(1000000:Int) else w.1.2.1)=1000000:=if_pos hn
  have hg:Outc w.1 true ((F_45 (1000000,t.2)).bind fun v2:Els [.bool]=>bif !v2.fst then some (((w.1,(0:Int),(9:Int),()),(w,()),()):OUT_do4.El) else some (((w.1,(0:Int),(12:Int),()),(w,()),()):OUT_do4.El)):=by
   rw [e45]
   show Outc w.1 true (bif !(rt (1000000,t.2)) then _ else _)
   cases rt (1000000,t.2)
   ·exact outc_err (by decide)
   ·exact outc_err (by decide)
  have hd:decide (w.1.2.1>(1000000:Int))=true:=decide_eq_true hn
  show Outc w.1 true ((F_45 ((if(1000000:Int)<w.1.2.1 then(1000000:Int) else w.1.2.1),t.2)).bind fun v2=>bif !v2.fst then _ else bif decide (w.1.2.1>(1000000:Int)) then _ else _)
  rw [hm,hd]
  exact hg
 ·have hn':w.1.2.1≤1000000:=Int.not_lt.1 hn
  have hm:(if(1000000:Int)<w.1.2.1 then(1000000:Int) else w.1.2.1)=w.1.2.1:=if_neg hn
  have hd:decide (w.1.2.1>(1000000:Int))=false:=decide_eq_false hn
  have hw:IntKind.i64.wrap (w.1.2.1+1)=w.1.2.1+1:=wrap_next hnx.1 hn'
  show Outc w.1 true ((F_45 ((if(1000000:Int)<w.1.2.1 then(1000000:Int) else w.1.2.1),t.2)).bind fun v2=>bif !v2.fst then _ else bif decide (w.1.2.1>(1000000:Int)) then _ else
   (F_18w (w.1.1,IntKind.i64.wrap (w.1.2.1+1),w.1.2.2) ((if(1000000:Int)<w.1.2.1 then(1000000:Int) else w.1.2.1),t.2)).bind fun v4=>some ((v4.fst,(if(1000000:Int)<w.1.2.1 then(1000000:Int) else w.1.2.1),v4.snd.fst,()),(w,()),()))
  rw [hm,hd,hw]
  have e45:=v_45 (w.1.2.1,t.2) (by show t.2.2.2.2.length≤_;omega)
  rw [e45]
  show Outc w.1 true (bif !(rt (w.1.2.1,t.2)) then _ else _)
  cases rt (w.1.2.1,t.2)
  ·exact outc_err (by decide)
  ·have hr':=right_next hs hr hn'
   rcases v_18 (w.1.1,w.1.2.1+1,w.1.2.2) (w.1.2.1,t.2) hs hr' ht with⟨e,he,h⟩ | ⟨l',h1,h2,h3,h,_⟩
   ·show Outc w.1 true ((F_18w (w.1.1,w.1.2.1+1,w.1.2.2) (w.1.2.1,t.2)).bind _)
    rw [h]
    exact outc_err he
   ·show Outc w.1 true ((F_18w (w.1.1,w.1.2.1+1,w.1.2.2) (w.1.2.1,t.2)).bind _)
    rw [h]
    exact outc_ok ⟨h3,h2,le_next w.1.2.1,fun _=>⟨pos_of hnx.1,⟨_,h1.new,rfl⟩⟩,fun h=>by cases h⟩
theorem o_drop (id:Int):Outc w.1 false ((F_39 w.1 id).bind fun v=>some (((v.1,(0:Int),v.2.1,()),(w,()),()):OUT_do4.El)):=by
 rcases v_39 w.1 id hs hr with⟨_,h⟩ | ⟨_,g,hc,_,h⟩
 ·rw [h];exact outc_err (by decide)
 ·rw [h]
  exact outc_ok ⟨left_right hr hs hc,left_small hs,Int.le_refl _,(fun h=>by cases h),fun _=>rfl⟩
theorem o_move:Outc w.1 false (F_eachqm (w,())):=by
 rcases v_eachqm (move_mv w) hs hr with⟨_,h⟩ | ⟨hg,us,hu,h⟩ | ⟨hg,e,row,hu,h⟩
 ·rw [h];exact outc_err (by decide)
 ·rw [h]
  exact outc_ok ⟨eL_right hr hs (is_getB hg) hu,(eL_like hu).small hs,Int.le_refl _,(fun h=>by cases h),fun _=>rfl⟩
 ·rw [h];exact outc_err (eL_err (mv_err _) hu)
theorem o_hold (ids:List Int)(hi:ids.length≤1000):Outc w.1 true ((F_41w w.1 ids).bind fun v=>some (((v.1,v.2.1,v.2.2.1,()),(w,()),()):OUT_do4.El)):=by
 have hR:=right_of hr
 rcases v_41w w.1 ids hs hr hi with⟨e,he,h⟩ | ⟨l',h1,h2,h3,h4,h⟩
 ·rw [h];exact outc_err he
 ·rw [h]
  exact outc_ok ⟨h1,h2,le_next w.1.2.1,fun _=>⟨pos_of hR.next.1,h4⟩,fun h=>by cases h⟩
theorem o_free:Outc w.1 false (F_free (w,())):=by
 rcases v_free hs hr with⟨e,he,h⟩ | ⟨t,ht,hk,hl,h⟩
 ·rw [h];exact outc_err he
 ·rw [h]
  exact outc_ok ⟨freed_right hr hs ht hk hl,freed_small hs hl,Int.le_refl _,(fun h=>by cases h),fun _=>rfl⟩
theorem o_copy (id:Int)(q:Vec):Outc w.1 true ((F_42 w.1 id q).bind fun v=>some (((v.1,v.2.1,v.2.2.1,()),(w,()),()):OUT_do4.El)):=by
 rcases v_42 w.1 id q hs hr with⟨e,he,h⟩ | ⟨hn,hk,c1,c2,out,hc,h⟩
 ·rw [h];exact outc_err he
 ·have hR:=right_of hr
  obtain⟨us,rfl,hl,hcp⟩:=cpL_spec hc
  have hC:Cp w.1 id us:=⟨hR,hs,hn,c1,c2,hl,_,hcp⟩
  rw [hC.first] at h
  rw [h]
  exact outc_ok ⟨hC.right hr,hC.small,le_more (n:=nxt w.1) (m:=w.1.2.1) rfl,fun _=>⟨(hC.okfi hn).2,hC.fi_id⟩,fun h=>by cases h⟩
theorem o_grav (v:Vec):Outc w.1 false ((F_20 (v,w.1.2)).bind fun b=>bif !b.1 then some ((((v,w.1.2),(0:Int),(9:Int),()),(w,()),()):OUT_do4.El) else(F_oown w.1.2.2).bind fun l=>some ((((v,w.1.2.1,l),(0:Int),(0:Int),()),(w,()),()):OUT_do4.El)):=by
 have hR:=right_of hr
 have e20:=v_20 (v,w.1.2) hs
 have hoo:=v_oown w.1.2.2 hs (by have:=hR.len;omega)
 rw [e20,hoo]
 show Outc w.1 false (bif !(rightB (v,w.1.2)) then _ else _)
 cases hr':rightB (v,w.1.2)
 ·exact outc_err (by decide)
 ·exact outc_ok ⟨hr',hs,Int.le_refl _,(fun h=>by cases h),fun _=>rfl⟩
end
theorem norm_in (a:Int):∃ n:Int,F_norm a=some ((n,()):Els [I])∧0≤n∧n<65536:=by
 refine⟨_,rfl,?_⟩
 have h1:-65536<Int.tmod a 65536∧Int.tmod a 65536<65536:=by
  have:=Int.tmod_lt_of_pos a (show(0:Int)<65536 by decide)
  have h2:=Int.lt_tmod_of_pos a (show(0:Int)<65536 by decide)
  omega
 rw [wrap64 (by omega) (by omega)]
 have h3:0≤Int.tmod a 65536+65536:=by omega
 exact⟨Int.tmod_nonneg _ h3,Int.tmod_lt_of_pos _ (by decide)⟩
theorem norm_id {n:Int}(h0:0≤n)(h1:n<65536):F_norm n=some ((n,()):Els [I]):=by
 show some (((IntKind.i64.wrap (Int.tmod n (65536:Int)+(65536:Int))).tmod (65536:Int),()):Els [I])=_
 have e1:Int.tmod n 65536=n:=by rw [Int.tmod_eq_emod_of_nonneg h0];omega
 rw [e1,wrap64 (by omega) (by omega),Int.tmod_eq_emod_of_nonneg (by omega)]
 have:(n+65536) % 65536=n:=by omega
 rw [this]
theorem prod_le {n:Int}(h0:0≤n)(h1:n≤32768):0≤n*(32768-n)∧n*(32768-n)≤268435456:=by
 refine⟨Int.mul_nonneg h0 (by omega),?_⟩
 have h:0≤(n-16384)*(n-16384):=by
  rw [← Int.natAbs_mul_self]
  exact Int.natCast_nonneg _
 have e:(n-16384)*(n-16384)=268435456-n*(32768-n):=by
  rw [Int.sub_mul,Int.mul_sub,Int.mul_sub,Int.mul_sub]
  omega
 omega
theorem sin_low (f:FT_sin)(a:Int){n:Int}(hn:F_norm a=some ((n,()):Els [I]))(h0:0≤n)(h1:n≤32768):Tot (F_sinb f a):=by
 obtain⟨p0,p1⟩:=prod_le h0 h1
 have w1:IntKind.i64.wrap ((32768:Int)-n)=32768-n:=wrap64 (by omega) (by omega)
 have w2:IntKind.i64.wrap (n*(32768-n))=n*(32768-n):=wrap64 (by omega) (by omega)
 unfold F_sinb
 refine tot_via hn (tot_no (decide_eq_false (by show ¬n>32768;omega)) ?_)
 show Tot ((F_mul64 (IntKind.u64.wrap ((16:Int)*IntKind.u64.wrap (IntKind.i64.wrap (n*IntKind.i64.wrap ((32768:Int)-n))))) (4294967296:Int)).bind fun v6=>
  (F_div64 v6.fst v6.snd.fst (IntKind.u64.wrap ((5368709120:Int)-IntKind.u64.wrap ((4:Int)*IntKind.u64.wrap (IntKind.i64.wrap (n*IntKind.i64.wrap ((32768:Int)-n))))))).bind fun v8=>some (IntKind.i64.wrap v8.fst,()))
 rw [w1,w2]
 generalize n*(32768-n)=q at p0 p1
 rw [u64y p0 (by omega),u64y (n:=16*q) (by omega) (by omega),u64y (n:=4*q) (by omega) (by omega),u64y (n:=5368709120-4*q) (by omega) (by omega)]
 refine tot_via (mul64y (by omega) (by omega)) (tot_bind (t_div64 _ _ _ ?_ ?_ (by omega)) fun _=>tot_some _)
 ·show 0≤16*q / 4294967296
  omega
 ·show 16*q / 4294967296<5368709120-4*q
  omega
theorem tot_sin (a:Int):Tot (F_sin a):=by
 obtain⟨n,hn,h0,h1⟩:=norm_in a
 show Tot (F_sinb (F_sinn 2) a)
 by_cases h:n≤32768
 ·exact sin_low _ a hn h0 h
 ·unfold F_sinb
  refine tot_via hn (tot_yes (decide_eq_true (by show n>32768;omega)) (tot_bind ?_ fun _=>tot_some _))
  show Tot (F_sinb (F_sinn 1) (IntKind.i64.wrap (n-32768)))
  rw [wrap64 (by omega) (by omega)]
  exact sin_low _ _ (norm_id (by omega) (by omega)) (by omega) (by omega)
theorem tot_cos (a:Int):Tot (F_cos a):=tot_bind (tot_some _) fun _=>tot_bind (tot_sin _) fun _=>tot_some _
def rotV (n:Int)(p:Vec):Vec⊕Int:=match F_rot p.1 p.2 n with
 | some r=>if r.2.2.1=0 then .inl (r.1,r.2.1) else .inr 3
 | none=>.inr 3
theorem rotV_err (n:Int)(p:Vec)(e:Int)(h:rotV n p=.inr e):e≠0:=by
 unfold rotV at h
 split at h
 ·split at h
  ·cases h
  ·cases h;decide
 ·cases h;decide
theorem turn_rot (w:tWorker.El)(p:Vec):F_turn w p=some (match rotV w.2.1.2.2.2.2.2.2.2.2.2.1 p with | .inl q=>.inl ((q,()):Els [tVec]) | .inr e=>.inr e):=by
 obtain⟨r,hr⟩:=tot_rot (tot_sin _) (tot_cos _) p.1 p.2
 unfold F_turn rotV
 rw [hr]
 simp only [Option.bind_some]
 by_cases h0:r.2.2.1=0
 ·rw [if_pos h0]
  exact noV (by rw [h0];rfl) rfl
 ·rw [if_neg h0]
  exact yesV (by simpa using h0) rfl
theorem o_turn {w:tWorker.El}(hs:Small w.1.2.2)(hr:rightB w.1=true):Outc w.1 false (F_eachqt (w,())):=by
 rcases v_eachqt (turn_rot w) hs hr with⟨_,h⟩ | ⟨hg,us,hu,h⟩ | ⟨hg,e,row,hu,h⟩
 ·rw [h];exact outc_err (by decide)
 ·rw [h]
  exact outc_ok ⟨eL_right hr hs (is_getB hg) hu,(eL_like hu).small hs,Int.le_refl _,(fun h=>by cases h),fun _=>rfl⟩
 ·rw [h];exact outc_err (eL_err (rotV_err _) hu)
end Go.DI.S
end
