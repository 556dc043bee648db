import Derived.Test.YtbjldjihpekhaaaGreatZe
import Derived.Test.YtbjldjihpekhaaaGreatWd
import Derived.Test.YtbjldjihpekhaaaGreatAg
/- OrderRefused, plain. No conditions. -/
set_option linter.unusedSimpArgs false
set_option linter.unusedVariables false
set_option maxRecDepth 100000
set_option maxHeartbeats 0
noncomputable section
namespace Go.DI.S
open Go.Proofs
def cntB (l:List Thing):Nat:=l.countP fun t=>t.2.1==(1:Int)
theorem cntB_app (a b:List Thing):cntB (a++b)=cntB a+cntB b:=List.countP_append
theorem cntB_le (l:List Thing):cntB l≤l.length:=List.countP_le_length
theorem q_scw4 (s z:Scene)(y:World')(hl:s.2.2.length≤1000) :
  ∃ (B:List Body) (M:List (Int×Int)),B.length=cntB s.2.2∧R_scw_4 (((),(),(),(),s.2.2,(s.2.2.length:Int),(0:Int),()),(s,()),(y,()),(s.1,(),(),()),[],[],[],())=some (.inl (((),(),(),(),()),(s,()),(y,()),(s.1,B,(),()),[],M,())):=by
 have:=rounds_mu (G:=fun x=>G_scw_4 x.1.2.2.2.2.1 x.1.2.2.2.2.2.1 x.1.2.2.2.2.2.2.1 x.2.1 x.2.2.1 x.2.2.2.1 x.2.2.2.2.1 x.2.2.2.2.2.1 x.2.2.2.2.2.2.1)
  (fun x=>∃ (k:Nat) (B:List Body) (M:List (Int×Int)),k≤s.2.2.length∧B.length=cntB (s.2.2.take k)∧x=(((),(),(),(),s.2.2,(s.2.2.length:Int),(k:Int),()),(s,()),(y,()),(s.1,(),(),()),B,[],M,())) (fun x=>s.2.2.length-x.1.2.2.2.2.2.2.1.toNat)
  (fun r=>∃ (B:List Body) (M:List (Int×Int)),B.length=cntB s.2.2∧r=.inl (((),(),(),(),()),(s,()),(y,()),(s.1,B,(),()),[],M,())) ?_ fuel (((),(),(),(),s.2.2,(s.2.2.length:Int),(0:Int),()),(s,()),(y,()),(s.1,(),(),()),[],[],[],()) ⟨0,[],[],Nat.zero_le _,rfl,rfl⟩ (by
   show s.2.2.length-(0:Int).toNat<fuel
   unfold fuel;omega)
 ·obtain⟨r,h,B,M,h1,rfl⟩:=this
  exact⟨B,M,h1,h⟩
 ·rintro x ⟨k,B,M,hk,hB,rfl⟩
  show(∃ x',G_scw_4 s.2.2 (s.2.2.length:Int) (k:Int) (s,()) (y,()) (s.1,(),(),()) B [] M=_∧_)∨∃ r,G_scw_4 s.2.2 (s.2.2.length:Int) (k:Int) (s,()) (y,()) (s.1,(),(),()) B [] M=_∧_
  unfold G_scw_4
  have hBl:B.length≤1000:=by
   rw [hB];exact Nat.le_trans (cntB_le _) (by rw [List.length_take];omega)
  by_cases h:k<s.2.2.length
  ·have ha:=List.getElem?_eq_getElem h
   have htk:s.2.2.take (k+1)=s.2.2.take k++[s.2.2[k]]:=List.take_succ_eq_append_getElem h
   have hmu:s.2.2.length-((k+1:Nat):Int).toNat<s.2.2.length-(k:Int).toNat:=by omega
   simp only [dec_lt h,dec_in h,cond_true,getD_of ha,wrap_up h (by omega)]
   left
   by_cases hc:s.2.2[k].2.1=1
   ·refine⟨_,yesV (beq_iff_eq.2 hc) (yesV (Nat.ble_eq_true_of_le (by simp only [List.length_cons,List.length_nil];omega)) rfl),⟨k+1,_,_,h,?_,rfl⟩,hmu⟩
    rw [htk,cntB_app,List.length_append,hB]
    have:cntB [s.2.2[k]]=1:=by unfold cntB;rw [List.countP_singleton,if_pos (beq_iff_eq.2 hc)]
    rw [this];rfl
   ·have hcb:(s.2.2[k].2.1==(1:Int))=false:=beq_eq_false_iff_ne.2 hc
    refine⟨_,noV hcb rfl,⟨k+1,B,M,h,?_,rfl⟩,hmu⟩
    rw [htk,cntB_app,hB]
    have:cntB [s.2.2[k]]=0:=by unfold cntB;rw [List.countP_singleton,if_neg (by rw [hcb];decide)]
    rw [this];rfl
  ·have:k=s.2.2.length:=by omega
   subst this
   simp only [dec_end,cond_false]
   exact .inr ⟨_,rfl,B,M,by rw [hB,List.take_length],rfl⟩
theorem q_scw11 (l:List Thing)(y:World')(g:Vec)(B:List Body)(M:List (Int×Int))(hl:l.length≤1000) :
  ∃ J:List Joint,J.length≤l.length∧R_scw_11 (((),(),(),l,(l.length:Int),(0:Int),()),(y,()),(g,B,(),()),[],M,())=some (.inl (((),(),()),(y,()),(g,B,(),()),J,())):=by
 have:=rounds_mu (G:=fun x=>G_scw_11 x.1.2.2.2.1 x.1.2.2.2.2.1 x.1.2.2.2.2.2.1 x.2.1 x.2.2.1 x.2.2.2.1 x.2.2.2.2.1)
  (fun x=>∃ (k:Nat) (J:List Joint),k≤l.length∧J.length≤k∧x=(((),(),(),l,(l.length:Int),(k:Int),()),(y,()),(g,B,(),()),J,M,())) (fun x=>l.length-x.1.2.2.2.2.2.1.toNat)
  (fun r=>∃ J:List Joint,J.length≤l.length∧r=.inl (((),(),()),(y,()),(g,B,(),()),J,())) ?_ fuel (((),(),(),l,(l.length:Int),(0:Int),()),(y,()),(g,B,(),()),[],M,()) ⟨0,[],Nat.zero_le _,Nat.le_refl _,rfl⟩ (by
   show l.length-(0:Int).toNat<fuel
   unfold fuel;omega)
 ·obtain⟨r,h,J,h1,rfl⟩:=this
  exact⟨J,h1,h⟩
 ·rintro x ⟨k,J,hk,hJ,rfl⟩
  show(∃ x',G_scw_11 l (l.length:Int) (k:Int) (y,()) (g,B,(),()) J M=_∧_)∨∃ r,G_scw_11 l (l.length:Int) (k:Int) (y,()) (g,B,(),()) J M=_∧_
  unfold G_scw_11
  by_cases h:k<l.length
  ·have ha:=List.getElem?_eq_getElem h
   have hmu:l.length-((k+1:Nat):Int).toNat<l.length-(k:Int).toNat:=by omega
   simp only [dec_lt h,dec_in h,cond_true,getD_of ha,wrap_up h (by omega)]
   left
   by_cases hc:l[k].2.1=2
   ·refine⟨_,yesV (beq_iff_eq.2 hc) (yesV (Nat.ble_eq_true_of_le (by simp only [List.length_cons,List.length_nil];omega)) rfl),⟨k+1,_,h,?_,rfl⟩,hmu⟩
    rw [List.length_append]
    simp only [List.length_cons,List.length_nil]
    omega
   ·exact⟨_,noV (beq_eq_false_iff_ne.2 hc) rfl,⟨k+1,J,h,by omega,rfl⟩,hmu⟩
  ·have:k=l.length:=by omega
   subst this
   simp only [dec_end,cond_false]
   exact .inr ⟨_,rfl,J,hJ,rfl⟩
theorem t_scw (s:Scene)(hl:s.2.2.length≤1000):∃ W:World',F_scw s=some ((W,()):Els [tWorld])∧W.2.1.length=cntB s.2.2∧W.2.2.length≤s.2.2.length:=by
 obtain⟨B,M,h1,e1⟩:=q_scw4 s s ((((0:Int),(0:Int)),[],[])) hl
 obtain⟨J,h2,e2⟩:=q_scw11 s.2.2 ((((0:Int),(0:Int)),[],[])) s.1 B M hl
 refine⟨(s.1,B,J),?_,h1,h2⟩
 unfold F_scw
 exact bind_ofV e1 (bind_ofV e2 rfl)
theorem t_alike (a b:Body):∃ v:Bool,F_alike a b=some ((v,()):Els [.bool])∧(v=true→rb b=true):=by
 unfold F_alike
 rw [v_88 b]
 cases (a.fst==b.fst) with
 | false=>exact⟨false,rfl,fun h=>by cases h⟩
 | true=>
  simp only [cond_true]
  cases (a.snd.fst.fst==b.snd.fst.fst&&(a.snd.fst.snd==b.snd.fst.snd&&true)) with
  | false=>exact⟨false,rfl,fun h=>by cases h⟩
  | true=>
   simp only [cond_true]
   cases (a.snd.snd.fst==b.snd.snd.fst) with
   | false=>exact⟨false,rfl,fun h=>by cases h⟩
   | true=>exact⟨rb b,rfl,id⟩
theorem rt_body {t:Thing}(h:rt t=true)(hl:t.2.2.2.2.length≤1000000000)(hk:t.2.1=1){b:Body}(hb:rb b=true):rt (t.1,t.2.1,b,t.2.2.2)=true:=by
 have h1:=(rt_iff hl).1 h
 refine(rt_iff (t:=(t.1,t.2.1,b,t.2.2.2)) hl).2 ⟨h1.1,?_⟩
 rcases h1.2 with k | k | k
 ·exact .inl ⟨hk,k.2.1,k.2.2.1,hb⟩
 ·rw [hk] at k;exact absurd k.1 (by decide)
 ·rw [hk] at k;exact absurd k.1 (by decide)
theorem loop_scb (x:World')(g:Vec)(nx:Int)(z:Scene){N:Nat}(hN2:N≤1000000000):∀ (rest done:List Thing) (m j:Nat),done.length+rest.length=N→rest.length<m→j+cntB rest=x.2.1.length→x.2.1.length≤1000000→(∀ t∈rest,rt t=true∧t.2.2.2.2.length≤1000000000) →
  (∃ us,roundsT (fun x=>G_scb_6 x.1.2.2.2.1 x.1.2.2.2.2.2.1 x.1.2.2.2.2.2.2.1 x.2.1 x.2.2.1 x.2.2.2.1 x.2.2.2.2.1) m (((),(),(),(j:Int),(),(N:Int),(done.length:Int),()),(g,nx,(),()),done++rest,(x,()),(z,()),())=some (.inl (((),(),()),(g,nx,(),()),done++us,(z,()),()))∧Like rest us∧∀ t∈us,rt t=true) ∨
  ∃ s',roundsT (fun x=>G_scb_6 x.1.2.2.2.1 x.1.2.2.2.2.2.1 x.1.2.2.2.2.2.2.1 x.2.1 x.2.2.1 x.2.2.2.1 x.2.2.2.2.1) m (((),(),(),(j:Int),(),(N:Int),(done.length:Int),()),(g,nx,(),()),done++rest,(x,()),(z,()),())=some (.inr (((),(9:Int),()),(s',()),()))
 | [],done,m,j,hN,hm,hj,hx,hr=>by
  obtain⟨m,rfl⟩:∃ k,m=k+1:=⟨m-1,by omega⟩
  left
  have:done.length=N:=by simpa using hN
  subst this
  refine⟨[],rounds_out ?_ m,rfl,fun t ht=>by cases ht⟩
  show G_scb_6 (j:Int) (done.length:Int) (done.length:Int) (g,nx,(),()) (done++[]) (x,()) (z,())=_
  unfold G_scb_6
  rw [dec_end];rfl
 | t :: rest,done,m,j,hN,hm,hj,hx,hr=>by
  obtain⟨m,rfl⟩:∃ k,m=k+1:=⟨m-1,by simp only [List.length_cons] at hm;omega⟩
  simp only [List.length_cons] at hN hm
  have hlt:done.length<N:=by omega
  have hat:=append_at done t rest
  have hin:decide ((0:Int)≤(done.length:Int)∧(done.length:Int)<(((done++t :: rest).length:Nat):Int))=true:=dec_in (by rw [List.length_append,List.length_cons];omega)
  have hd:∀ d:Thing,(done++t :: rest).getD (Int.toNat (done.length:Int)) d=t:=fun d=>getD_of hat
  obtain⟨hrt,hll⟩:=hr t List.mem_cons_self
  have hrest:∀ u∈rest,rt u=true∧u.2.2.2.2.length≤1000000000:=fun u hu=>hr u (List.mem_cons_of_mem _ hu)
  by_cases hc:t.2.1=1
  ·have hcnt:cntB (t :: rest)=cntB rest+1:=by unfold cntB;rw [List.countP_cons,if_pos (beq_iff_eq.2 hc)]
   rw [hcnt] at hj
   have hjn:j<x.2.1.length:=by omega
   have hjd:decide ((0:Int)≤(j:Int)∧(j:Int)<((x.2.1.length:Nat):Int))=true:=dec_in hjn
   have hjg:=List.getElem?_eq_getElem hjn
   obtain⟨v,hv,hb⟩:=t_alike t.2.2.1 (x.2.1[j])
   cases v with
   | false=>
    right
    refine⟨(((0:Int),(0:Int)),(0:Int),[]),rounds_out (y:=Sum.inr (((),(9:Int),()),((((0:Int),(0:Int)),(0:Int),[]),()),())) ?_ m⟩
    show G_scb_6 (j:Int) (N:Int) (done.length:Int) (g,nx,(),()) (done++t :: rest) (x,()) (z,())=_
    unfold G_scb_6
    simp only [dec_lt hlt,hin,cond_true,hd]
    refine noV (bne_no hc) (yesV hjd ?_)
    rw [getD_of hjg]
    exact bind_ofV hv (yesV rfl rfl)
   | true=>
    have hrt':=rt_body hrt hll hc (hb rfl)
    have hstep:G_scb_6 (j:Int) (N:Int) (done.length:Int) (g,nx,(),()) (done++t :: rest) (x,()) (z,())=some (.inl (((),(),(),((j+1:Nat):Int),(),(N:Int),(((done++[(t.1,t.2.1,x.2.1[j],t.2.2.2)]).length:Nat):Int),()),(g,nx,(),()),(done++[(t.1,t.2.1,x.2.1[j],t.2.2.2)])++rest,(x,()),(z,()),())):=by
     unfold G_scb_6
     simp only [dec_lt hlt,hin,cond_true,hd]
     refine noV (bne_no hc) (yesV hjd ?_)
     rw [getD_of hjg]
     refine bind_ofV hv (noV rfl (yesV hjd ?_))
     rw [Int.toNat_natCast,append_set,wrap_up hjn (by omega),wrap_up hlt (by omega),List.length_append,List.append_assoc]
     rfl
    rcases loop_scb x g nx z hN2 rest (done++[(t.1,t.2.1,x.2.1[j],t.2.2.2)]) m (j+1) (by rw [List.length_append];simp only [List.length_cons,List.length_nil];omega) (by omega) (by omega) hx hrest with⟨us,e,hlk,hus⟩ | ⟨s',e⟩
    ·left
     refine⟨(t.1,t.2.1,x.2.1[j],t.2.2.2) :: us,?_,?_,fun u hu=>?_⟩
     ·rw [rounds_in hstep,e,List.append_assoc];rfl
     ·show List.map sk _=List.map sk _
      rw [List.map_cons,List.map_cons,show us.map sk=rest.map sk from hlk]
      rfl
     ·rcases List.mem_cons.1 hu with rfl | hu
      ·exact hrt'
      ·exact hus u hu
    ·exact .inr ⟨s',by rw [rounds_in hstep];exact e⟩
  ·have hcnt:cntB (t :: rest)=cntB rest:=by unfold cntB;rw [List.countP_cons,if_neg (by simpa using hc)];rfl
   rw [hcnt] at hj
   have hstep:G_scb_6 (j:Int) (N:Int) (done.length:Int) (g,nx,(),()) (done++t :: rest) (x,()) (z,())=some (.inl (((),(),(),(j:Int),(),(N:Int),(((done++[t]).length:Nat):Int),()),(g,nx,(),()),(done++[t])++rest,(x,()),(z,()),())):=by
    unfold G_scb_6
    simp only [dec_lt hlt,hin,cond_true,hd]
    refine yesV (bne_of hc) ?_
    rw [wrap_up hlt (by omega),List.length_append,List.append_assoc]
    rfl
   rcases loop_scb x g nx z hN2 rest (done++[t]) m j (by rw [List.length_append];simp only [List.length_cons,List.length_nil];omega) (by omega) hj hx hrest with⟨us,e,hlk,hus⟩ | ⟨s',e⟩
   ·left
    refine⟨t :: us,?_,?_,fun u hu=>?_⟩
    ·rw [rounds_in hstep,e,List.append_assoc];rfl
    ·show List.map sk _=List.map sk _
     rw [List.map_cons,List.map_cons,show us.map sk=rest.map sk from hlk]
    ·rcases List.mem_cons.1 hu with rfl | hu
     ·exact hrt
     ·exact hus u hu
   ·exact .inr ⟨s',by rw [rounds_in hstep];exact e⟩
theorem t_scb (s:Scene)(x:World')(hs:Small s.2.2)(hr:rightB s=true) :
  ∃ (r:Scene) (e:Int),F_scb s x=some ((r,e,()):Els [tScene,I])∧(e=0→rightB r=true∧Small r.2.2∧r.2.1=s.2.1):=by
 have hR:=right_of hr
 have h40:=hR.len
 have e20:=v_20 s hs
 rw [hr] at e20
 obtain⟨W,eW,hW,_⟩:=t_scw s (by omega)
 unfold F_scb
 by_cases hc:W.2.1.length=x.2.1.length
 ·have hne:(((W.2.1.length:Nat):Int) != ((x.2.1.length:Nat):Int))=false:=bne_no (by rw [hc])
  have h47:=v_47 s.2.2 hs
  have hcl:=cntB_le s.2.2
  rcases loop_scb x s.1 s.2.1 ((((0:Int),(0:Int)),(0:Int),[])) (N:=s.2.2.length) (by omega) s.2.2 [] fuel 0 (by simp) (fuel_lt (by omega)) (by rw [Nat.zero_add,← hW];exact hc) (by omega) (fun t ht=>⟨(hR.low t ht).2.2,hs.2 t ht⟩) with⟨us,e,hlk,hus⟩ | ⟨s',e⟩
  ·refine⟨(s.1,s.2.1,us),0,bind_ofV e20 (noV rfl (bind_ofV eW (noV hne (bind_ofV h47 ?_)))),fun _=>⟨hlk.right hr hs hus,hlk.small hs,rfl⟩⟩
   exact bind_ofV e rfl
  ·refine⟨s',9,bind_ofV e20 (noV rfl (bind_ofV eW (noV hne (bind_ofV h47 ?_)))),fun h=>absurd h (by decide)⟩
   exact bind_ofV e rfl
 ·exact⟨_,9,bind_ofV e20 (noV rfl (bind_ofV eW (yesV (bne_of (fun h=>hc (Int.ofNat_inj.1 h))) rfl))),fun h=>absurd h (by decide)⟩
theorem tot_w15 (w:World')(n:Int)(hg:GoodW w):Tot (F_w15 w n):=by
 by_cases h0:n<0
 ·exact⟨_,t_w15out w n (.inl h0)⟩
 ·by_cases h1:n>200
  ·exact⟨_,t_w15out w n (.inr h1)⟩
  ·obtain⟨k,rfl⟩:=Int.eq_ofNat_of_zero_le (Int.not_lt.1 h0)
   exact⟨_,t_w15 w k (by omega) hg⟩
theorem oc_yes {s:Scene}{m:Bool}{c:Bool}{a b:Option OUT_do4.El}(h:c=true)(k:Outc s m a):Outc s m (bif c then a else b):=by subst h;exact k
theorem oc_no {s:Scene}{m:Bool}{c:Bool}{a b:Option OUT_do4.El}(h:c=false)(k:Outc s m b):Outc s m (bif c then a else b):=by subst h;exact k
theorem oc_bind {α:Type}{s:Scene}{m:Bool}{a:Option α}{f:α→Option OUT_do4.El}{x:α}(h:a=some x)(k:Outc s m (f x)):Outc s m (a.bind f):=by subst h;exact k
theorem ten_of {k:Int}(h1:1≤k)(h2:k≤10)(c1:¬k=1)(c2:¬k=2)(c3:¬k=3)(c4:¬k=4)(c5:¬k=5)(c6:¬k=6)(c7:¬k=7)(c8:¬k=8)(c9:¬k=9):k=10:=by omega
def madeB (k:Int):Bool:=k==1||(k==4||(k==5||k==7))
section
variable {w:tWorker.El}(hs:Small w.1.2.2)(hr:rightB w.1=true)
include hs hr
theorem o_bake:Outc w.1 false (F_bake (w,())):=by
 have hR:=right_of hr
 have h40:=hR.len
 have hcl:=cntB_le w.1.2.2
 obtain⟨W,eW,hW1,hW2⟩:=t_scw w.1 (by omega)
 obtain⟨⟨x,a,e,⟨⟩⟩,h15⟩:=tot_w15 W w.2.1.2.2.2.2.2.2.2.2.2.2.1 ⟨by omega,by omega⟩
 unfold F_bake
 rw [show F_scw w.1=_ from eW]
 show Outc w.1 false ((F_w15 W w.2.1.2.2.2.2.2.2.2.2.2.2.1).bind _)
 rw [h15]
 show Outc w.1 false (bif e != (0:Int) then some (((w.1,(0:Int),e,()),(w,()),()):OUT_do4.El) else(F_scb w.1 x).bind fun v6=>some (((v6.fst,(0:Int),v6.snd.fst,()),(w,()),()):OUT_do4.El))
 by_cases he:e=0
 ·rw [bne_no he]
  obtain⟨r,e',h,hg⟩:=t_scb w.1 x hs hr
  rw [cond_false,h]
  exact⟨r,0,e',w,rfl,fun h0=>⟨(hg h0).1,(hg h0).2.1,Int.le_of_eq (hg h0).2.2.symm,(fun h=>by cases h),fun _=>rfl⟩⟩
 ·rw [bne_of he]
  exact outc_err he
theorem o_do5 (hk1:1≤w.2.1.1)(hk2:w.2.1.1≤10)(hids:w.2.1.2.2.2.2.2.2.2.2.2.2.2.length≤1000):Outc w.1 (madeB w.2.1.1) (F_do5 (w,())):=by
 have thru:∀ {made:Bool} {R:Option OUT_do4.El},Outc w.1 made R→Outc w.1 made (R.bind fun v=>some (((v.1.1,v.1.2.1,v.1.2.2.1,()),(v.2.1.1,()),()):OUT_do4.El)):=fun {made R} h=>by
  obtain⟨r,n,e,w',rfl,hg⟩:=h
  exact⟨r,n,e,w',rfl,hg⟩
 generalize hk:w.2.1.1=k at hk1 hk2
 unfold F_do5
 have y:∀ j:Int,k=j→(w.2.1.1==j)=true:=fun j h=>by rw [hk,h];simp
 have n:∀ j:Int,k≠j→(w.2.1.1==j)=false:=fun j h=>by rw [hk];simpa using h
 by_cases c1:k=1
 ·have hb:∃ t:Thing,t.2.2.2.2.length≤1000000∧F_body (w,())=some (((t,()),(w,()),()):OUT_body.El):=⟨_,Nat.zero_le _,rfl⟩
  obtain⟨t,ht,eb⟩:=hb
  rw [show madeB k=true by rw [c1];rfl]
  exact oc_yes (y 1 c1) (oc_bind eb (thru (o_make hs hr t ht)))
 by_cases c2:k=2
 ·rw [show madeB k=false by rw [c2];rfl]
  exact oc_no (n 1 c1) (oc_yes (y 2 c2) (o_drop hs hr w.2.1.2.1))
 by_cases c3:k=3
 ·rw [show madeB k=false by rw [c3];rfl]
  exact oc_no (n 1 c1) (oc_no (n 2 c2) (oc_yes (y 3 c3) (thru (o_move hs hr))))
 by_cases c4:k=4
 ·rw [show madeB k=true by rw [c4];rfl]
  exact oc_no (n 1 c1) (oc_no (n 2 c2) (oc_no (n 3 c3) (oc_yes (y 4 c4) (thru (o_make hs hr _ (Nat.zero_le _))))))
 by_cases c5:k=5
 ·rw [show madeB k=true by rw [c5];rfl]
  exact oc_no (n 1 c1) (oc_no (n 2 c2) (oc_no (n 3 c3) (oc_no (n 4 c4) (oc_yes (y 5 c5) (o_hold hs hr _ hids)))))
 by_cases c6:k=6
 ·rw [show madeB k=false by rw [c6];rfl]
  exact oc_no (n 1 c1) (oc_no (n 2 c2) (oc_no (n 3 c3) (oc_no (n 4 c4) (oc_no (n 5 c5) (oc_yes (y 6 c6) (thru (o_free hs hr)))))))
 by_cases c7:k=7
 ·rw [show madeB k=true by rw [c7];rfl]
  exact oc_no (n 1 c1) (oc_no (n 2 c2) (oc_no (n 3 c3) (oc_no (n 4 c4) (oc_no (n 5 c5) (oc_no (n 6 c6) (oc_yes (y 7 c7) (oc_bind (x:=(((w.2.2.1,w.2.2.2.1),()):Els [tVec])) rfl (o_copy hs hr w.2.1.2.1 (w.2.2.1,w.2.2.2.1)))))))))
 by_cases c8:k=8
 ·rw [show madeB k=false by rw [c8];rfl]
  exact oc_no (n 1 c1) (oc_no (n 2 c2) (oc_no (n 3 c3) (oc_no (n 4 c4) (oc_no (n 5 c5) (oc_no (n 6 c6) (oc_no (n 7 c7) (oc_yes (y 8 c8) (oc_bind (x:=(((w.2.2.1,w.2.2.2.1),()):Els [tVec])) rfl (o_grav hs hr (w.2.2.1,w.2.2.2.1))))))))))
 by_cases c9:k=9
 ·rw [show madeB k=false by rw [c9];rfl]
  exact oc_no (n 1 c1) (oc_no (n 2 c2) (oc_no (n 3 c3) (oc_no (n 4 c4) (oc_no (n 5 c5) (oc_no (n 6 c6) (oc_no (n 7 c7) (oc_no (n 8 c8) (oc_yes (y 9 c9) (thru (o_turn hs hr))))))))))
 ·have c10:k=10:=ten_of hk1 hk2 c1 c2 c3 c4 c5 c6 c7 c8 c9
  rw [show madeB k=false by rw [c10];rfl]
  exact oc_no (n 1 c1) (oc_no (n 2 c2) (oc_no (n 3 c3) (oc_no (n 4 c4) (oc_no (n 5 c5) (oc_no (n 6 c6) (oc_no (n 7 c7) (oc_no (n 8 c8) (oc_no (n 9 c9) (thru (o_bake hs hr))))))))))
end
theorem t_Do5 (s:Scene)(o:Order)(hs:Small s.2.2)(hids:o.2.2.2.2.2.2.2.2.2.2.2.length≤1000) :
  ∃ (r:Scene) (n e:Int),F_Do5 s o=some ((r,n,e,()):Els [tScene,I,I])∧((e≠0∧r=s∧n=0)∨(e=0∧rightB s=true∧Good s (madeB o.1) r n)):=by
 unfold F_Do5
 by_cases h1:o.1<1
 ·exact⟨s,0,9,yesV (decide_eq_true h1) rfl,.inl ⟨by decide,rfl,rfl⟩⟩
 by_cases h2:o.1>10
 ·exact⟨s,0,9,noV (decide_eq_false h1) (yesV (decide_eq_true h2) rfl),.inl ⟨by decide,rfl,rfl⟩⟩
 have e20:=v_20 s hs
 cases hr:rightB s with
 | false=>
  rw [hr] at e20
  exact⟨s,0,9,noV (decide_eq_false h1) (noV (decide_eq_false h2) (bind_ofV e20 (yesV rfl rfl))),.inl ⟨by decide,rfl,rfl⟩⟩
 | true=>
  rw [hr] at e20
  obtain⟨e,w,hw,hw1,hw2⟩:=tot_readw (s,o,(0,0,0,0,0))
  have hw1:w.1=s:=hw1
  have hw2:w.2.1=o:=hw2
  by_cases he:e=0
  ·subst he
   have hg:=o_do5 (w:=w) (by rw [hw1];exact hs) (by rw [hw1];exact hr) (by rw [hw2];exact Int.not_lt.1 h1) (by rw [hw2];exact Int.not_lt.1 h2) (by rw [hw2];exact hids)
   obtain⟨r,n,e,w',hd,hg⟩:=hg
   rw [hw1,hw2] at hg
   by_cases he:e=0
   ·subst he
    exact⟨r,n,0,noV (decide_eq_false h1) (noV (decide_eq_false h2) (bind_ofV e20 (noV rfl (bind_ofV hw (noV rfl (bind_ofV hd (noV rfl rfl))))))),.inr ⟨rfl,rfl,hg rfl⟩⟩
   ·exact⟨s,0,e,noV (decide_eq_false h1) (noV (decide_eq_false h2) (bind_ofV e20 (noV rfl (bind_ofV hw (noV rfl (bind_ofV hd (yesV (bne_of he) rfl))))))),.inl ⟨he,rfl,rfl⟩⟩
  ·exact⟨s,0,e,noV (decide_eq_false h1) (noV (decide_eq_false h2) (bind_ofV e20 (noV rfl (bind_ofV hw (yesV (bne_of he) rfl))))),.inl ⟨he,rfl,rfl⟩⟩
def tailR (g:Vec)(nx:Int)(l:List Thing)(k:Int)(v:Els [tScene,I,I]):Option (Els [.bool]):=
 bif v.2.2.1 != (0:Int) then
  bif v.2.1==(0:Int) then(F_25 (g,nx,l)).bind fun a=>(F_24 v.1 a.1).bind fun b=>some (b.1,()) else some (false,())
 else
  bif k==(1:Int) then
   (F_23 v.1 v.2.1).bind fun a=>(F_20 v.1).bind fun b=>bif b.1 then bif decide (v.2.1>(0:Int))==true then bif a.2.1==true then some (decide (v.1.2.1≥nx),()) else some (false,()) else some (false,()) else some (false,())
  else bif k==(4:Int) then
   (F_23 v.1 v.2.1).bind fun a=>(F_20 v.1).bind fun b=>bif b.1 then bif decide (v.2.1>(0:Int))==true then bif a.2.1==true then some (decide (v.1.2.1≥nx),()) else some (false,()) else some (false,()) else some (false,())
  else bif k==(5:Int) then
   (F_23 v.1 v.2.1).bind fun a=>(F_20 v.1).bind fun b=>bif b.1 then bif decide (v.2.1>(0:Int))==true then bif a.2.1==true then some (decide (v.1.2.1≥nx),()) else some (false,()) else some (false,()) else some (false,())
  else
   (F_23 v.1 v.2.1).bind fun a=>(F_20 v.1).bind fun b=>bif b.1 then bif decide (v.2.1>(0:Int))==(k==(7:Int)) then bif a.2.1==(k==(7:Int)) then some (decide (v.1.2.1≥nx),()) else some (false,()) else some (false,()) else some (false,())
theorem getB_no {s:Scene}(h:Rt s)(n:Int)(hn:¬Is s.2.2 n):(getB s.2.2 n).2=false:=by
 cases hg:(getB s.2.2 n).2 with
 | false=>rfl
 | true=>exact absurd (is_getB hg) hn
theorem getB_yes {s:Scene}(h:Rt s){n:Int}(hn:Is s.2.2 n):(getB s.2.2 n).2=true:=by
 obtain⟨t,ht,rfl⟩:=hn
 rw [h.asc.getB ht]
theorem made_of {k:Int}(h1:¬k=1)(h4:¬k=4)(h5:¬k=5):madeB k=(k==(7:Int)):=by
 unfold madeB
 rw [beq_eq_false_iff_ne.2 h1,beq_eq_false_iff_ne.2 h4,beq_eq_false_iff_ne.2 h5];rfl
theorem tail_good {g:Vec}{nx:Int}{l:List Thing}{k:Int}{r:Scene}{n:Int}(h:Good (g,nx,l) (madeB k) r n):tailR g nx l k (r,n,0,())=some ((true,()):Els [.bool]):=by
 have hR:=right_of h.right
 have e20:=v_20 r h.small
 rw [h.right] at e20
 have e23:=v_23 r n h.small.1 h.small.2
 have hnx:decide (r.2.1≥nx)=true:=decide_eq_true h.next
 have yes:madeB k=true→((F_23 r n).bind fun a=>(F_20 r).bind fun b=>bif b.1 then bif decide (n>(0:Int))==true then bif a.2.1==true then some ((decide (r.2.1≥nx),()):Els [.bool]) else some (false,()) else some (false,()) else some (false,()))=some ((true,()):Els [.bool]):=fun hm=>by
  obtain⟨hn,hi⟩:=h.some hm
  rw [getB_yes hR hi] at e23
  refine bind_ofV e23 (bind_ofV e20 (yesV rfl (yesV (by rw [decide_eq_true hn];rfl) (yesV rfl ?_))))
  rw [hnx]
 unfold tailR
 refine noV rfl ?_
 by_cases c1:k=1
 ·exact yesV (by rw [c1];rfl) (yes (by rw [c1];rfl))
 by_cases c4:k=4
 ·exact noV (beq_eq_false_iff_ne.2 c1) (yesV (by rw [c4];rfl) (yes (by rw [c4];rfl)))
 by_cases c5:k=5
 ·exact noV (beq_eq_false_iff_ne.2 c1) (noV (beq_eq_false_iff_ne.2 c4) (yesV (by rw [c5];rfl) (yes (by rw [c5];rfl))))
 refine noV (beq_eq_false_iff_ne.2 c1) (noV (beq_eq_false_iff_ne.2 c4) (noV (beq_eq_false_iff_ne.2 c5) ?_))
 have hm:=made_of c1 c4 c5
 rw [← hm]
 cases hmb:madeB k with
 | true=>
  exact yes hmb
 | false=>
  have hn:=h.none hmb
  subst hn
  rw [getB_no hR 0 (fun hi=>hR.pos hi rfl)] at e23
  refine bind_ofV e23 (bind_ofV e20 (yesV rfl (yesV rfl (yesV rfl ?_))))
  rw [hnx]
theorem tail_bad {g:Vec}{nx:Int}{l:List Thing}{k e:Int}(hs:Small l)(he:e≠0):tailR g nx l k ((g,nx,l),0,e,())=some ((true,()):Els [.bool]):=by
 unfold tailR
 exact yesV (bne_of he) (yesV rfl (bind_ofV (v_25 (g,nx,l)) (bind_ofV (v_24 (g,nx,l) hs) rfl)))
theorem orderRefused (g:Vec)(nx:I.El)(l:(Ty.list tThing).El)(o:Order)(h0:tVec.wf g)(h1:I.wf nx)(h2:(Ty.list tThing).wf l)(h3:tOrder.wf o):F_refused g nx l o=some ((true,()):Els [.bool]):=by
 unfold F_refused
 refine bind_ofV (v_22 l h2.1) ?_
 cases hf:fewB l with
 | false=>exact yesV rfl (bind_ofV alive_true rfl)
 | true=>
 have hs:Small l:=small_of (few_small hf)
 refine noV rfl ?_
 by_cases hi:((o.2.2.2.2.2.2.2.2.2.2.2.length:Int)>20)
 ·exact yesV (decide_eq_true hi) (bind_ofV alive_true rfl)
 have hi':o.2.2.2.2.2.2.2.2.2.2.2.length≤1000:=by
  have:¬((o.2.2.2.2.2.2.2.2.2.2.2.length:Int)>20):=hi
  omega
 refine noV (decide_eq_false hi) ?_
 obtain⟨r,n,e,hD,hc⟩:=t_Do5 (g,nx,l) o hs hi'
 have key:tailR g nx l o.1 (r,n,e,())=some ((true,()):Els [.bool]):=by
  rcases hc with⟨he,rfl,rfl⟩ | ⟨rfl,_,hg⟩
  ·exact tail_bad hs he
  ·exact tail_good hg
 by_cases h8:o.2.2.2.2.2.2.2.2.2.2.1>8
 ·refine yesV (decide_eq_true h8) ?_
  by_cases h200:o.2.2.2.2.2.2.2.2.2.2.1≤200
  ·exact yesV (decide_eq_true h200) (bind_ofV alive_true rfl)
  ·exact noV (decide_eq_false h200) (bind_ofV alive_true (noV rfl (bind_ofV hD key)))
 ·exact noV (decide_eq_false h8) (bind_ofV alive_true (noV rfl (bind_ofV hD key)))
end Go.DI.S
end
