import Derived.Test.YtbjldjihpekhaaaGreatWb
/- Sorting runs through, plain. No conditions. -/
set_option linter.unusedSimpArgs false
set_option linter.unusedVariables false
set_option maxRecDepth 100000
set_option maxHeartbeats 0
namespace Go.DI.S
open Go.Proofs
section
variable {bs:List Box}{n:Nat}
theorem q_w325_4 (hn:n≤1000000000)(a i:Nat)(b:Int)(hi:i<n)(l:List Int)(hl:Row (At bs) n l):∃ l',R_w325_4 (((),(a:Int),b,(),(i:Int),(i:Int),()),l,(bs,()),())=some (.inl (((),(a:Int),b,(),(i:Int),()),l',(bs,()),()))∧Row (At bs) n l':=by
 have:=rounds_mu (G:=fun x=>G_w325_4 x.1.2.1 x.1.2.2.1 x.1.2.2.2.2.1 x.1.2.2.2.2.2.1 x.2.1 x.2.2.1)
  (fun x=>∃ (j:Nat) (m:List Int),j<n∧Row (At bs) n m∧x=(((),(a:Int),b,(),(i:Int),(j:Int),()),m,(bs,()),())) (fun x=>x.1.2.2.2.2.2.1.toNat)
  (fun y=>∃ m,Row (At bs) n m∧y=.inl (((),(a:Int),b,(),(i:Int),()),m,(bs,()),())) ?_ fuel (((),(a:Int),b,(),(i:Int),(i:Int),()),l,(bs,()),()) ⟨i,l,hi,hl,rfl⟩ (by
   show(i:Int).toNat<fuel
   have:=fuel_lt hn;omega)
 ·obtain⟨y,h,m,h1,rfl⟩:=this
  exact⟨m,h,h1⟩
 ·rintro x ⟨j,m,hj,hm,rfl⟩
  show(∃ x',G_w325_4 (a:Int) b (i:Int) (j:Int) m (bs,())=_∧_)∨∃ y,G_w325_4 (a:Int) b (i:Int) (j:Int) m (bs,())=_∧_
  unfold G_w325_4
  by_cases h:(j:Int)>(a:Int)
  ·obtain⟨v,hv⟩:=t_w287 (m.getD j 0) (m.getD (j-1) 0) bs (hm.get hj) (hm.get (by omega))
   simp only [decide_eq_true h,cond_true,down1 (j:=j) (by omega) (by omega),hm.in hj,hm.in (i:=j-1) (by omega),Int.toNat_natCast,hv,Option.bind_some,List.length_set]
   by_cases hc:v<0
   ·simp only [decide_eq_true hc,cond_true]
    refine .inl ⟨_,rfl,⟨j-1,_,by omega,hm.swap hj (by omega),rfl⟩,?_⟩
    show((j-1:Nat):Int).toNat<(j:Int).toNat
    omega
   ·simp only [decide_eq_false hc,cond_false]
    exact .inr ⟨_,rfl,m,hm,rfl⟩
  ·simp only [decide_eq_false h,cond_false]
   exact .inr ⟨_,rfl,m,hm,rfl⟩
theorem t_w325 (hn:n≤1000000000)(a b:Nat)(ha:a≤n)(hb:b≤n)(l:List Int)(hl:Row (At bs) n l):∃ l',F_w325 (a:Int) (b:Int) l (bs,())=some ((),l',(bs,()),())∧Row (At bs) n l':=by
 have:=rounds_mu (G:=fun x=>G_w325_1 x.1.2.1 x.1.2.2.1 x.1.2.2.2.2.1 x.2.1 x.2.2.1)
  (fun x=>∃ (i:Nat) (m:List Int),i≤n+1∧Row (At bs) n m∧x=(((),(a:Int),(b:Int),(),(i:Int),()),m,(bs,()),())) (fun x=>n+2-x.1.2.2.2.2.1.toNat)
  (fun y=>∃ m,Row (At bs) n m∧y=.inl ((),m,(bs,()),())) ?_ fuel (((),(a:Int),(b:Int),(),((a+1:Nat):Int),()),l,(bs,()),()) ⟨a+1,l,by omega,hl,rfl⟩ (by
   show n+2-((a+1:Nat):Int).toNat<fuel
   have:=fuel_lt hn;unfold fuel;omega)
 ·obtain⟨y,h,m,h1,rfl⟩:=this
  refine⟨m,?_,h1⟩
  unfold F_w325 R_w325_1
  rw [show IntKind.i64.wrap ((a:Int)+1)=((a+1:Nat):Int) from wrap_up (n:=n+1) (by omega) (by omega),h]
  rfl
 ·rintro x ⟨i,m,hi,hm,rfl⟩
  show(∃ x',G_w325_1 (a:Int) (b:Int) (i:Int) m (bs,())=_∧_)∨∃ y,G_w325_1 (a:Int) (b:Int) (i:Int) m (bs,())=_∧_
  unfold G_w325_1
  by_cases h:i<b
  ·obtain⟨m',h1,h2⟩:=q_w325_4 hn a i (b:Int) (by omega) m hm
   simp only [dec_lt h,cond_true]
   rw [h1]
   refine .inl ⟨_,rfl,⟨i+1,m',by omega,h2,?_⟩,?_⟩
   ·show(((),(a:Int),(b:Int),(),IntKind.i64.wrap ((i:Int)+1),()),m',(bs,()),())=_
    rw [wrap_up h (by omega)]
   ·show n+2-(IntKind.i64.wrap ((i:Int)+1)).toNat<n+2-(i:Int).toNat
    rw [wrap_up h (by omega)];omega
  ·have h':decide ((i:Int)<(b:Int))=false:=decide_eq_false (by omega)
   simp only [h',cond_false]
   exact .inr ⟨_,rfl,m,hm,rfl⟩
theorem q_stb2 (hn:n≤1000000000)(l:List Int)(hl:Row (At bs) n l) :
  ∃ (a:Nat) (l':List Int),a≤n∧R_stb_2 (((),(n:Int),(),(20:Int),(0:Int),(20:Int),()),l,(bs,()),())=some (.inl (((),(n:Int),(),(20:Int),(a:Int),()),l',(bs,()),()))∧Row (At bs) n l':=by
 have:=rounds_mu (G:=fun x=>G_stb_2 x.1.2.1 x.1.2.2.2.1 x.1.2.2.2.2.1 x.1.2.2.2.2.2.1 x.2.1 x.2.2.1)
  (fun x=>∃ (a:Nat) (m:List Int),a≤n∧Row (At bs) n m∧x=(((),(n:Int),(),(20:Int),(a:Int),((a+20:Nat):Int),()),m,(bs,()),())) (fun x=>n-x.1.2.2.2.2.1.toNat)
  (fun y=>∃ (a:Nat) (m:List Int),a≤n∧Row (At bs) n m∧y=.inl (((),(n:Int),(),(20:Int),(a:Int),()),m,(bs,()),())) ?_ fuel (((),(n:Int),(),(20:Int),(0:Int),(20:Int),()),l,(bs,()),()) ⟨0,l,Nat.zero_le _,hl,rfl⟩ (by
   show n-(0:Int).toNat<fuel
   unfold fuel;omega)
 ·obtain⟨y,h,a,m,h1,h2,rfl⟩:=this
  exact⟨a,m,h1,h,h2⟩
 ·rintro x ⟨a,m,ha,hm,rfl⟩
  show(∃ x',G_stb_2 (n:Int) 20 (a:Int) ((a+20:Nat):Int) m (bs,())=_∧_)∨∃ y,G_stb_2 (n:Int) 20 (a:Int) ((a+20:Nat):Int) m (bs,())=_∧_
  unfold G_stb_2
  by_cases h:a+20≤n
  ·obtain⟨m',e,h2⟩:=t_w325 (bs:=bs) hn a (a+20) (by omega) h m hm
   simp only [dec_le h,cond_true]
   rw [e]
   refine .inl ⟨_,rfl,⟨a+20,m',h,h2,?_⟩,?_⟩
   ·show(((),(n:Int),(),(20:Int),((a+20:Nat):Int),IntKind.i64.wrap (((a+20:Nat):Int)+((20:Nat):Int)),()),m',(bs,()),())=_
    rw [wadd (by omega)]
   ·show n-((a+20:Nat):Int).toNat<n-(a:Int).toNat
    omega
  ·simp only [dec_nle (k:=a+20) (n:=n) (by omega),cond_false]
   exact .inr ⟨_,rfl,a,m,ha,hm,rfl⟩
theorem sym_at (hn:n≤1000000000)(a m b:Nat)(l:List Int)(h1:a<m)(h2:m<b)(h3:b≤n)(hl:Row (At bs) n l):Done bs n (F_sym (a:Int) (m:Int) (b:Int) l (bs,())):=
 t_sym hn 60 a m b l h1 h2 h3 (by have:(2:Nat)^60=1152921504606846976:=rfl;omega) hl
theorem q_stb9 (hn:n≤1000000000)(k:Nat)(hk:1≤k)(hkn:k≤n)(l:List Int)(hl:Row (At bs) n l) :
  ∃ (a:Nat) (l':List Int),a≤n∧R_stb_9 (((),(n:Int),(),(k:Int),(0:Int),((2*k:Nat):Int),()),l,(bs,()),())=some (.inl (((),(n:Int),(),(k:Int),(a:Int),()),l',(bs,()),()))∧Row (At bs) n l':=by
 have:=rounds_mu (G:=fun x=>G_stb_9 x.1.2.1 x.1.2.2.2.1 x.1.2.2.2.2.1 x.1.2.2.2.2.2.1 x.2.1 x.2.2.1)
  (fun x=>∃ (a:Nat) (m:List Int),a≤n∧Row (At bs) n m∧x=(((),(n:Int),(),(k:Int),(a:Int),((a+2*k:Nat):Int),()),m,(bs,()),())) (fun x=>n-x.1.2.2.2.2.1.toNat)
  (fun y=>∃ (a:Nat) (m:List Int),a≤n∧Row (At bs) n m∧y=.inl (((),(n:Int),(),(k:Int),(a:Int),()),m,(bs,()),())) ?_ fuel (((),(n:Int),(),(k:Int),(0:Int),((2*k:Nat):Int),()),l,(bs,()),()) ⟨0,l,Nat.zero_le _,hl,by rw [Nat.zero_add];rfl⟩ (by
   show n-(0:Int).toNat<fuel
   unfold fuel;omega)
 ·obtain⟨y,h,a,m,h1,h2,rfl⟩:=this
  exact⟨a,m,h1,h,h2⟩
 ·rintro x ⟨a,m,ha,hm,rfl⟩
  show(∃ x',G_stb_9 (n:Int) (k:Int) (a:Int) ((a+2*k:Nat):Int) m (bs,())=_∧_)∨∃ y,G_stb_9 (n:Int) (k:Int) (a:Int) ((a+2*k:Nat):Int) m (bs,())=_∧_
  unfold G_stb_9
  have w2:IntKind.i64.wrap ((2:Int)*(k:Int))=((2*k:Nat):Int):=by rw [wrap64 (by omega) (by omega)];omega
  by_cases h:a+2*k≤n
  ·obtain⟨m',e,h2⟩:=sym_at (bs:=bs) hn a (a+k) (a+2*k) m (by omega) (by omega) h hm
   simp only [dec_le h,cond_true,wadd (a:=a) (b:=k) (by omega),w2,wadd (a:=a+2*k) (b:=2*k) (by omega)]
   rw [e]
   refine .inl ⟨_,rfl,⟨a+2*k,m',h,h2,rfl⟩,?_⟩
   show n-((a+2*k:Nat):Int).toNat<n-(a:Int).toNat
   omega
  ·simp only [dec_nle (k:=a+2*k) (n:=n) (by omega),cond_false]
   exact .inr ⟨_,rfl,a,m,ha,hm,rfl⟩
theorem q_stb7 (hn:n≤1000000000)(l:List Int)(hl:Row (At bs) n l) :
  ∃ l',R_stb_7 (((),(n:Int),(),(20:Int),()),l,(bs,()),())=some (.inl ((),l',(bs,()),()))∧Row (At bs) n l':=by
 have:=rounds_mu (G:=fun x=>G_stb_7 x.1.2.1 x.1.2.2.2.1 x.2.1 x.2.2.1)
  (fun x=>∃ (k:Nat) (m:List Int),1≤k∧Row (At bs) n m∧k≤2000000000∧x=(((),(n:Int),(),(k:Int),()),m,(bs,()),())) (fun x=>n-x.1.2.2.2.1.toNat)
  (fun y=>∃ m,Row (At bs) n m∧y=.inl ((),m,(bs,()),())) ?_ fuel (((),(n:Int),(),(20:Int),()),l,(bs,()),()) ⟨20,l,by omega,hl,by omega,rfl⟩ (by
   show n-(20:Int).toNat<fuel
   unfold fuel;omega)
 ·obtain⟨y,h,m,h1,rfl⟩:=this
  exact⟨m,h,h1⟩
 ·rintro x ⟨k,m,hk,hm,hk2,rfl⟩
  show(∃ x',G_stb_7 (n:Int) (k:Int) m (bs,())=_∧_)∨∃ y,G_stb_7 (n:Int) (k:Int) m (bs,())=_∧_
  unfold G_stb_7
  have w2:IntKind.i64.wrap ((2:Int)*(k:Int))=((2*k:Nat):Int):=by rw [wrap64 (by omega) (by omega)];omega
  have w3:IntKind.i64.wrap ((k:Int)*(2:Int))=((k*2:Nat):Int):=by rw [wrap64 (by omega) (by omega)];omega
  by_cases h:k<n
  ·obtain⟨a,m',ha,e,h2⟩:=q_stb9 (bs:=bs) hn k hk (by omega) m hm
   have hmu:n-((k*2:Nat):Int).toNat<n-(k:Int).toNat:=by omega
   rw [dec_lt h,cond_true,w2,e]
   left
   by_cases h3:a+k<n
   ·obtain⟨m2,e2,h4⟩:=sym_at (bs:=bs) hn a (a+k) n m' (by omega) h3 (Nat.le_refl _) h2
    refine⟨(((),(n:Int),(),((k*2:Nat):Int),()),m2,(bs,()),()),bind_ofV rfl ?_,⟨k*2,m2,by omega,h4,by omega,rfl⟩,hmu⟩
    show(bif decide (IntKind.i64.wrap ((a:Int)+(k:Int))<(n:Int)) then(F_sym (a:Int) (IntKind.i64.wrap ((a:Int)+(k:Int))) (n:Int) m' (bs,())).bind _ else _)=_
    rw [wadd (a:=a) (b:=k) (by omega),dec_lt h3,cond_true,e2]
    show some (Sum.inl (((),(n:Int),(),IntKind.i64.wrap ((k:Int)*(2:Int)),()),m2,(bs,()),()))=_
    rw [w3]
   ·refine⟨(((),(n:Int),(),((k*2:Nat):Int),()),m',(bs,()),()),bind_ofV rfl ?_,⟨k*2,m',by omega,h2,by omega,rfl⟩,hmu⟩
    show(bif decide (IntKind.i64.wrap ((a:Int)+(k:Int))<(n:Int)) then _ else some (Sum.inl (((),(n:Int),(),IntKind.i64.wrap ((k:Int)*(2:Int)),()),m',(bs,()),())))=_
    rw [wadd (a:=a) (b:=k) (by omega),dec_nlt (k:=a+k) (n:=n) (by omega),cond_false,w3]
  ·simp only [dec_nlt (k:=k) (n:=n) (by omega),cond_false]
   exact .inr ⟨_,rfl,m,hm,rfl⟩
theorem t_stb (hn:n≤1000000000)(l:List Int)(hl:Row (At bs) n l):Done bs n (F_stb (n:Int) l (bs,())):=by
 obtain⟨a,l1,ha,e1,h1⟩:=q_stb2 (bs:=bs) hn l hl
 obtain⟨l2,e2,h2⟩:=t_w325 (bs:=bs) hn a n ha (Nat.le_refl _) l1 h1
 obtain⟨l3,e3,h3⟩:=q_stb7 (bs:=bs) hn l2 h2
 exact⟨l3,bind_ofV e1 (bind_ofV e2 (bind_ofV e3 rfl)),h3⟩
theorem t_w286 (hn:n≤1000000000)(l:List Int)(hl:Row (At bs) n l):∃ l',F_w286 l (bs,())=some ((),l',(bs,()),())∧Row (At bs) n l':=by
 obtain⟨l',e,h⟩:=t_stb hn l hl
 refine⟨l',?_,h⟩
 unfold F_w286
 rw [hl.1,e];rfl
theorem t_w233 (hn:bs.length≤1000):∃ l',F_w233 bs=some ((l',()):Els [.list I])∧Row (At bs) bs.length l':=by
 have:=rounds_mu (G:=fun x=>G_w233_3 x.1.2.2.1 x.1.2.2.2.1 x.2.1 x.2.2.1)
  (fun x=>∃ (k:Nat) (m:List Int),k≤bs.length∧Row (At bs) k m∧x=(((),(),(bs.length:Int),(k:Int),()),(bs,()),m,())) (fun x=>bs.length-x.1.2.2.2.1.toNat)
  (fun y=>∃ m,Row (At bs) bs.length m∧y=.inl (((),(),()),(bs,()),m,())) ?_ fuel (((),(),(bs.length:Int),(0:Int),()),(bs,()),[],()) ⟨0,[],Nat.zero_le _,⟨rfl,fun x hx=>by simp at hx⟩,rfl⟩ (by
   show bs.length-(0:Int).toNat<fuel
   unfold fuel;omega)
 ·obtain⟨y,h,m,h1,rfl⟩:=this
  obtain⟨l',e,h2⟩:=t_w286 (by omega) m h1
  refine⟨l',?_,h2⟩
  unfold F_w233 R_w233_3
  rw [h]
  simp only [Option.bind_some,Sum.elim_inl]
  rw [e];rfl
 ·rintro x ⟨k,m,hk,hm,rfl⟩
  show(∃ x',G_w233_3 (bs.length:Int) (k:Int) (bs,()) m=_∧_)∨∃ y,G_w233_3 (bs.length:Int) (k:Int) (bs,()) m=_∧_
  unfold G_w233_3
  by_cases h:k<bs.length
  ·have hsz:(((m.length+[(k:Int)].length)*8).ble 70368744177664)=true:=Nat.ble_eq_true_of_le (by rw [hm.1];simp;omega)
   simp only [dec_lt h,cond_true]
   refine .inl ⟨_,by rw [hsz];rfl,⟨k+1,m++[(k:Int)],h,⟨by simp [hm.1],fun x hx=>?_⟩,by rw [wrap_up h (by omega)]⟩,?_⟩
   ·rcases List.mem_append.1 hx with hx | hx
    ·exact hm.2 x hx
    ·rw [List.mem_singleton.1 hx];exact⟨by omega,by omega⟩
   ·show bs.length-(IntKind.i64.wrap ((k:Int)+1)).toNat<bs.length-(k:Int).toNat
    rw [wrap_up h (by omega)];omega
  ·have:k=bs.length:=by omega
   subst this
   simp only [dec_end,cond_false]
   exact .inr ⟨_,rfl,m,hm,rfl⟩
theorem t_w234 (a b:Box):Tot (F_w234 a b):=by
 unfold F_w234
 repeat' first | exact tot_some _ | apply tot_cond
def Two (bs:List Box)(p:Pair):Prop:=At bs p.1∧At bs p.2
theorem q_w165_7 (x0:Int)(h0:At bs x0)(r4 r11:List Int)(r12 r13:Int)(us:List Int)(hu:∀ x∈us,At bs x)(hul:us.length≤1000)(acc:List Pair)(hacc:∀ p∈acc,Two bs p)(hal:acc.length≤1000000) :
  ∃ acc',R_w165_7 ((bs,(),r4,x0,r11,r12,r13,us,(us.length:Int),(0:Int),()),acc,())=some (.inl ((bs,(),r4,r11,r12,r13,()),acc',()))∧(∀ p∈acc',Two bs p)∧acc'.length≤acc.length+us.length:=by
 have:=rounds_mu (G:=fun x=>G_w165_7 x.1.1 x.1.2.2.1 x.1.2.2.2.1 x.1.2.2.2.2.1 x.1.2.2.2.2.2.1 x.1.2.2.2.2.2.2.1 x.1.2.2.2.2.2.2.2.1 x.1.2.2.2.2.2.2.2.2.1 x.1.2.2.2.2.2.2.2.2.2.1 x.2.1)
  (fun x=>∃ (k:Nat) (m:List Pair),k≤us.length∧(∀ p∈m,Two bs p)∧m.length≤acc.length+k∧x=((bs,(),r4,x0,r11,r12,r13,us,(us.length:Int),(k:Int),()),m,())) (fun x=>us.length-x.1.2.2.2.2.2.2.2.2.2.1.toNat)
  (fun y=>∃ m:List Pair,(∀ p∈m,Two bs p)∧m.length≤acc.length+us.length∧y=.inl ((bs,(),r4,r11,r12,r13,()),m,())) ?_ fuel ((bs,(),r4,x0,r11,r12,r13,us,(us.length:Int),(0:Int),()),acc,()) ⟨0,acc,Nat.zero_le _,hacc,Nat.le_refl _,rfl⟩ (by
   show us.length-(0:Int).toNat<fuel
   unfold fuel;omega)
 ·obtain⟨y,h,m,h1,h2,rfl⟩:=this
  exact⟨m,h,h1,h2⟩
 ·rintro x ⟨k,m,hk,hm,hml,rfl⟩
  show(∃ x',G_w165_7 bs r4 x0 r11 r12 r13 us (us.length:Int) (k:Int) m=_∧_)∨∃ y,G_w165_7 bs r4 x0 r11 r12 r13 us (us.length:Int) (k:Int) m=_∧_
  unfold G_w165_7
  by_cases h:k<us.length
  ·have hg:=List.getElem?_eq_getElem h
   have hx:=hu _ (List.getElem_mem h)
   have hd0:decide ((0:Int)≤x0∧x0<(bs.length:Int))=true:=decide_eq_true h0
   have hd1:decide ((0:Int)≤us[k]∧us[k]<(bs.length:Int))=true:=decide_eq_true hx
   obtain⟨v,hv⟩:=t_w234 (List.getD bs (Int.toNat x0) tBox.dflt) (List.getD bs (Int.toNat us[k]) tBox.dflt)
   simp only [dec_lt h,dec_in h,cond_true,getD_of hg,hd0,hd1,hv,Option.bind_some,wrap_up h (by omega)]
   have hmu:us.length-((k+1:Nat):Int).toNat<us.length-(k:Int).toNat:=by omega
   cases v.1 with
   | false=>exact .inl ⟨_,rfl,⟨k+1,m,h,hm,by omega,rfl⟩,hmu⟩
   | true=>
    have hsz:∀ p:Pair,(((m.length+[p].length)*16).ble 70368744177664)=true:=fun p=>Nat.ble_eq_true_of_le (by simp;omega)
    refine .inl ⟨_,by rw [cond_true,hsz];rfl,⟨k+1,_,h,fun p hp=>?_,?_,rfl⟩,hmu⟩
    ·rcases List.mem_append.1 hp with hp | hp
     ·exact hm p hp
     ·rw [List.mem_singleton.1 hp]
      refine⟨?_,?_⟩
      ·show At bs (if us[k]<x0 then us[k] else x0)
       split <;> assumption
      ·show At bs (if us[k]>x0 then us[k] else x0)
       split <;> assumption
    ·rw [List.length_append]
     simp only [List.length_singleton]
     omega
  ·have:k=us.length:=by omega
   subst this
   simp only [dec_end,cond_false]
   exact .inr ⟨_,rfl,m,hm,hml,rfl⟩
theorem t_w165 (hn:bs.length≤100):∃ ps,F_w165 bs=some ((ps,()):Els [.list tPair])∧(∀ p∈ps,Two bs p)∧ps.length≤10000:=by
 obtain⟨ids,e1,hids⟩:=t_w233 (bs:=bs) (by omega)
 have hl:ids.length=bs.length:=hids.1
 have:=rounds_mu (G:=fun x=>G_w165_4 x.1.1 x.1.2.2.1 x.1.2.2.2.1 x.1.2.2.2.2.1 x.1.2.2.2.2.2.1 x.2.1)
  (fun x=>∃ (k:Nat) (m:List Pair),k≤ids.length∧(∀ p∈m,Two bs p)∧m.length≤k*100∧x=((bs,(),ids,ids,(ids.length:Int),(k:Int),()),m,())) (fun x=>ids.length-x.1.2.2.2.2.2.1.toNat)
  (fun y=>∃ m:List Pair,(∀ p∈m,Two bs p)∧m.length≤10000∧y=.inl (((),()),m,())) ?_ fuel ((bs,(),ids,ids,(ids.length:Int),(0:Int),()),[],()) ⟨0,[],Nat.zero_le _,fun p hp=>by simp at hp,Nat.zero_le _,rfl⟩ (by
   show ids.length-(0:Int).toNat<fuel
   unfold fuel;omega)
 ·obtain⟨y,h,m,h1,h2,rfl⟩:=this
  have e:F_w235 m=some ((),sortP m,()):=by
   unfold F_w235
   rw [show Nat.ble m.length 1000000000=true from Nat.ble_eq_true_of_le (by omega)];rfl
  refine⟨sortP m,?_,fun p hp=>h1 p ((sortP_perm m).mem_iff.1 hp),by rw [sortP_len];exact h2⟩
  unfold F_w165 R_w165_4
  rw [e1]
  simp only [Option.bind_some]
  rw [h]
  simp only [Option.bind_some,Sum.elim_inl]
  rw [e];rfl
 ·rintro x ⟨k,m,hk,hm,hml,rfl⟩
  show(∃ x',G_w165_4 bs ids ids (ids.length:Int) (k:Int) m=_∧_)∨∃ y,G_w165_4 bs ids ids (ids.length:Int) (k:Int) m=_∧_
  unfold G_w165_4
  by_cases h:k<ids.length
  ·have hg:=List.getElem?_eq_getElem h
   have hx:=hids.2 _ (List.getElem_mem h)
   have hd:decide ((0:Int)≤((k+1:Nat):Int)∧((k+1:Nat):Int)≤(ids.length:Int))=true:=decide_eq_true (by omega)
   simp only [dec_lt h,dec_in h,cond_true,getD_of hg,wrap_up h (by omega),hd,Int.toNat_natCast]
   obtain⟨us,hus⟩:∃ us,us=List.take (ids.length-(k+1)) (List.drop (k+1) ids):=⟨_,rfl⟩
   have hul:us.length=ids.length-(k+1):=by rw [hus];simp
   rw [← hus]
   obtain⟨acc',e,h1,h2⟩:=q_w165_7 (bs:=bs) (List.getD ids k 0) (hids.get (d:=0) (by omega)) ids ids (ids.length:Int) (k:Int) us (fun x hx=>by
    rw [hus] at hx
    exact hids.2 x (List.mem_of_mem_drop (List.mem_of_mem_take hx))) (by omega) m hm (by omega)
   rw [e]
   refine .inl ⟨_,rfl,⟨k+1,acc',h,h1,by omega,?_⟩,?_⟩
   ·show((bs,(),ids,ids,(ids.length:Int),IntKind.i64.wrap ((k:Int)+1),()),acc',())=_
    rw [wrap_up h (by omega)]
   ·show ids.length-(IntKind.i64.wrap ((k:Int)+1)).toNat<ids.length-(k:Int).toNat
    rw [wrap_up h (by omega)];omega
  ·have:k=ids.length:=by omega
   subst this
   simp only [dec_end,cond_false]
   exact .inr ⟨_,rfl,m,hm,by omega,rfl⟩
end
end Go.DI.S
