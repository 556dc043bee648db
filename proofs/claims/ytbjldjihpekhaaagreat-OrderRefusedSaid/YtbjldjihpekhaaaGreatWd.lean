import Derived.Test.YtbjldjihpekhaaaGreatWc
import Derived.Test.YtbjldjihpekhaaaGreatAf
/- A world runs through, plain. No conditions. -/
set_option linter.unusedSimpArgs false
set_option linter.unusedVariables false
set_option maxRecDepth 100000
set_option maxHeartbeats 0
noncomputable section
namespace Go.DI.S
open Go.Proofs
def Bd (n:Nat)(p:Option ((Unit×List Body×Unit)⊕Int)):Prop:=∃ y,p=some y∧Sum.elim (fun y=>y.2.1.length=n) (fun e=>e=3∨e=4) y
section
variable {n:Nat}
theorem in_len {α:Type}{m:List α}(hm:m.length=n){k:Nat}(h:k<n):decide ((0:Int)≤(k:Int)∧(k:Int)<((m.length:Nat):Int))=true:=by rw [hm];exact dec_in h
theorem t_w74 (hn:n≤1000000)(g:Vec)(js:List Joint)(l:List Body)(hl:l.length=n):Bd n (F_w74 (g,(),js,()) l):=by
 have:=rounds_mu (G:=fun x=>G_w74_2 x.1.2.2.1 x.1.2.2.2.1 x.2.1 x.2.2.1)
  (fun x=>∃ (k:Nat) (m:List Body),k≤n∧m.length=n∧x=(((),(),(n:Int),(k:Int),()),m,(g,(),js,()),())) (fun x=>n-x.1.2.2.2.1.toNat)
  (fun y=>(∃ m:List Body,m.length=n∧y=.inl (.inl ((),m,())))∨∃ e,y=.inr e∧(e=3∨e=4)) ?_ fuel (((),(),(n:Int),(0:Int),()),l,(g,(),js,()),()) ⟨0,l,Nat.zero_le _,hl,rfl⟩ (by
   show n-(0:Int).toNat<fuel
   unfold fuel;omega)
 ·obtain⟨y,h,hy⟩:=this
  unfold F_w74 R_w74_2
  rw [hl,h]
  rcases hy with⟨m,hm,rfl⟩ | ⟨e,rfl,he⟩
  ·exact⟨_,rfl,hm⟩
  ·exact⟨_,rfl,he⟩
 ·rintro x ⟨k,m,hk,hm,rfl⟩
  show(∃ x',G_w74_2 (n:Int) (k:Int) m (g,(),js,())=_∧_)∨∃ y,G_w74_2 (n:Int) (k:Int) m (g,(),js,())=_∧_
  unfold G_w74_2
  by_cases h:k<n
  ·have hmu:n-(IntKind.i64.wrap ((k:Int)+1)).toNat<n-(k:Int).toNat:=by rw [wrap_up h (by omega)];omega
   simp only [dec_lt h,cond_true,in_len hm h]
   cases ((m.getD (Int.toNat (k:Int)) tBody.dflt).snd.snd.fst != (0:Int)) with
   | false=>exact .inl ⟨_,rfl,⟨k+1,m,h,hm,by rw [wrap_up h (by omega)]⟩,hmu⟩
   | true=>
    simp only [cond_true]
    obtain⟨y1,e1,h1⟩:=t_w162 g (m.getD (Int.toNat (k:Int)) tBody.dflt).snd.snd.fst
    rw [e1]
    cases y1 with
    | inr e=>exact .inr ⟨_,rfl,.inr ⟨e,rfl,h1⟩⟩
    | inl v1=>
     simp only [Option.bind_some,Sum.elim_inl]
     obtain⟨y2,e2,h2⟩:=t_w161 v1.1 64
     rw [e2]
     cases y2 with
     | inr e=>exact .inr ⟨_,rfl,.inr ⟨e,rfl,h2⟩⟩
     | inl v2=>
      simp only [Option.bind_some,Sum.elim_inl]
      obtain⟨y3,e3,h3⟩:=t_124 (m.getD (Int.toNat (k:Int)) tBody.dflt).snd.snd.snd.snd v2.1
      rw [e3]
      cases y3 with
      | inr e=>exact .inr ⟨_,rfl,.inr ⟨e,rfl,h3⟩⟩
      | inl v3=>
       simp only [Option.bind_some,Sum.elim_inl,cond_true]
       exact .inl ⟨_,rfl,⟨k+1,_,h,List.length_set.trans hm,by rw [wrap_up h (by omega)]⟩,hmu⟩
  ·have:k=n:=by omega
   subst this
   simp only [dec_end,cond_false]
   exact .inr ⟨_,rfl,.inl ⟨m,hm,rfl⟩⟩
theorem t_w77 (hn:n≤1000000)(g:Vec)(js:List Joint)(l:List Body)(hl:l.length=n):Bd n (F_w77 (g,(),js,()) l):=by
 have:=rounds_mu (G:=fun x=>G_w77_2 x.1.2.2.1 x.1.2.2.2.1 x.2.1 x.2.2.1)
  (fun x=>∃ (k:Nat) (m:List Body),k≤n∧m.length=n∧x=(((),(),(n:Int),(k:Int),()),m,(g,(),js,()),())) (fun x=>n-x.1.2.2.2.1.toNat)
  (fun y=>(∃ m:List Body,m.length=n∧y=.inl (.inl ((),m,())))∨∃ e,y=.inr e∧(e=3∨e=4)) ?_ fuel (((),(),(n:Int),(0:Int),()),l,(g,(),js,()),()) ⟨0,l,Nat.zero_le _,hl,rfl⟩ (by
   show n-(0:Int).toNat<fuel
   unfold fuel;omega)
 ·obtain⟨y,h,hy⟩:=this
  unfold F_w77 R_w77_2
  rw [hl,h]
  rcases hy with⟨m,hm,rfl⟩ | ⟨e,rfl,he⟩
  ·exact⟨_,rfl,hm⟩
  ·exact⟨_,rfl,he⟩
 ·rintro x ⟨k,m,hk,hm,rfl⟩
  show(∃ x',G_w77_2 (n:Int) (k:Int) m (g,(),js,())=_∧_)∨∃ y,G_w77_2 (n:Int) (k:Int) m (g,(),js,())=_∧_
  unfold G_w77_2
  by_cases h:k<n
  ·have hmu:n-(IntKind.i64.wrap ((k:Int)+1)).toNat<n-(k:Int).toNat:=by rw [wrap_up h (by omega)];omega
   simp only [dec_lt h,cond_true,in_len hm h]
   cases ((m.getD (Int.toNat (k:Int)) tBody.dflt).snd.snd.fst != (0:Int)) with
   | false=>exact .inl ⟨_,rfl,⟨k+1,m,h,hm,by rw [wrap_up h (by omega)]⟩,hmu⟩
   | true=>
    simp only [cond_true]
    obtain⟨y1,e1,h1⟩:=t_w168 (m.getD (Int.toNat (k:Int)) tBody.dflt)
    rw [e1]
    cases y1 with
    | inr e=>exact .inr ⟨_,rfl,.inr ⟨e,rfl,h1⟩⟩
    | inl v1=>
     simp only [Option.bind_some,Sum.elim_inl]
     obtain⟨y2,e2,h2⟩:=t_w161 v1.1 64
     rw [e2]
     cases y2 with
     | inr e=>exact .inr ⟨_,rfl,.inr ⟨e,rfl,h2⟩⟩
     | inl v2=>
      simp only [Option.bind_some,Sum.elim_inl]
      obtain⟨y3,e3,h3⟩:=t_124 (m.getD (Int.toNat (k:Int)) tBody.dflt).snd.snd.snd.fst v2.1
      rw [e3]
      cases y3 with
      | inr e=>exact .inr ⟨_,rfl,.inr ⟨e,rfl,h3⟩⟩
      | inl v3=>
       simp only [Option.bind_some,Sum.elim_inl,cond_true]
       exact .inl ⟨_,rfl,⟨k+1,_,h,List.length_set.trans hm,by rw [wrap_up h (by omega)]⟩,hmu⟩
  ·have:k=n:=by omega
   subst this
   simp only [dec_end,cond_false]
   exact .inr ⟨_,rfl,.inl ⟨m,hm,rfl⟩⟩
def EndsJ (n:Nat)(j:Joint):Prop:=((0:Int)≤j.1∧j.1<(n:Int))∧((0:Int)≤j.2.1∧j.2.1<(n:Int))
theorem q_w75_4 (hn:n≤1000000)(g:Vec)(js:List Joint)(hjs:js.length≤1000000)(hj:∀ j∈js,EndsJ n j)(r4:Int)(l:List Body)(hl:l.length=n) :
  ∃ y,R_w75_4 (((),r4,js,(js.length:Int),(0:Int),()),l,(g,(),js,()),())=some y∧((∃ m:List Body,m.length=n∧y=.inl (.inl (((),r4,()),m,(g,(),js,()),())))∨∃ e,y=.inr e∧(e=3∨e=4)):=by
 refine rounds_mu (G:=fun x=>G_w75_4 x.1.2.1 x.1.2.2.1 x.1.2.2.2.1 x.1.2.2.2.2.1 x.2.1 x.2.2.1)
  (fun x=>∃ (k:Nat) (m:List Body),k≤js.length∧m.length=n∧x=(((),r4,js,(js.length:Int),(k:Int),()),m,(g,(),js,()),())) (fun x=>js.length-x.1.2.2.2.2.1.toNat)
  (fun y=>(∃ m:List Body,m.length=n∧y=.inl (.inl (((),r4,()),m,(g,(),js,()),())))∨∃ e,y=.inr e∧(e=3∨e=4)) ?_ fuel (((),r4,js,(js.length:Int),(0:Int),()),l,(g,(),js,()),()) ⟨0,l,Nat.zero_le _,hl,rfl⟩ (by
   show js.length-(0:Int).toNat<fuel
   unfold fuel;omega)
 rintro x ⟨k,m,hk,hm,rfl⟩
 show(∃ x',G_w75_4 r4 js (js.length:Int) (k:Int) m (g,(),js,())=_∧_)∨∃ y,G_w75_4 r4 js (js.length:Int) (k:Int) m (g,(),js,())=_∧_
 unfold G_w75_4
 by_cases h:k<js.length
 ·have hmu:js.length-(IntKind.i64.wrap ((k:Int)+1)).toNat<js.length-(k:Int).toNat:=by rw [wrap_up h (by omega)];omega
  obtain⟨j,hjd⟩:∃ j,j=List.getD js (Int.toNat (k:Int)) tJoint.dflt:=⟨_,rfl⟩
  have hin:EndsJ n j:=by
   rw [hjd,getD_of (List.getElem?_eq_getElem h)]
   exact hj _ (List.getElem_mem h)
  have d1:decide ((0:Int)≤j.1∧j.1<((m.length:Nat):Int))=true:=by rw [hm];exact decide_eq_true hin.1
  have d2:decide ((0:Int)≤j.2.1∧j.2.1<((m.length:Nat):Int))=true:=by rw [hm];exact decide_eq_true hin.2
  simp only [dec_lt h,cond_true,dec_in h,← hjd,d1,d2,List.length_set]
  obtain⟨y1,e1,h1⟩:=t_w163 (m.getD (Int.toNat j.1) tBody.dflt) (m.getD (Int.toNat j.2.1) tBody.dflt) j.2.2
  rw [e1]
  cases y1 with
  | inr e=>exact .inr ⟨_,rfl,.inr ⟨e,rfl,h1⟩⟩
  | inl v1=>exact .inl ⟨_,rfl,⟨k+1,_,h,List.length_set.trans (List.length_set.trans hm),by rw [wrap_up h (by omega)]⟩,hmu⟩
 ·have:k=js.length:=by omega
  subst this
  simp only [dec_end,cond_false]
  exact .inr ⟨_,rfl,.inl ⟨m,hm,rfl⟩⟩
theorem t_w75 (hn:n≤1000000)(g:Vec)(js:List Joint)(hjs:js.length≤1000000)(hj:∀ j∈js,EndsJ n j)(l:List Body)(hl:l.length=n):Bd n (F_w75 (g,(),js,()) l):=by
 have:=rounds_mu (G:=fun x=>G_w75_2 x.1.2.1 x.2.1 x.2.2.1)
  (fun x=>∃ (k:Nat) (m:List Body),k≤4∧m.length=n∧x=(((),(k:Int),()),m,(g,(),js,()),())) (fun x=>4-x.1.2.1.toNat)
  (fun y=>(∃ m:List Body,m.length=n∧y=.inl (.inl ((),m,())))∨∃ e,y=.inr e∧(e=3∨e=4)) ?_ fuel (((),(0:Int),()),l,(g,(),js,()),()) ⟨0,l,Nat.zero_le _,hl,rfl⟩ (by
   show 4-(0:Int).toNat<fuel
   unfold fuel;omega)
 ·obtain⟨y,h,hy⟩:=this
  unfold F_w75 R_w75_2
  rw [h]
  rcases hy with⟨m,hm,rfl⟩ | ⟨e,rfl,he⟩
  ·exact⟨_,rfl,hm⟩
  ·exact⟨_,rfl,he⟩
 ·rintro x ⟨k,m,hk,hm,rfl⟩
  show(∃ x',G_w75_2 (k:Int) m (g,(),js,())=_∧_)∨∃ y,G_w75_2 (k:Int) m (g,(),js,())=_∧_
  unfold G_w75_2
  by_cases h:k<4
  ·have hd:decide ((k:Int)<4)=true:=decide_eq_true (by omega)
   simp only [hd,cond_true]
   obtain⟨y,e,hy⟩:=q_w75_4 hn g js hjs hj (k:Int) m hm
   rw [e]
   rcases hy with⟨m',hm',rfl⟩ | ⟨e',rfl,he⟩
   ·refine .inl ⟨_,rfl,⟨k+1,m',h,hm',?_⟩,?_⟩
    ·show(((),IntKind.i64.wrap ((k:Int)+1),()),m',(g,(),js,()),())=_
     rw [wrap_up h (by omega)]
    ·show 4-(IntKind.i64.wrap ((k:Int)+1)).toNat<4-(k:Int).toNat
     rw [wrap_up h (by omega)];omega
   ·exact .inr ⟨_,rfl,.inr ⟨e',rfl,he⟩⟩
  ·have hd:decide ((k:Int)<4)=false:=decide_eq_false (by omega)
   simp only [hd,cond_false]
   exact .inr ⟨_,rfl,.inl ⟨m,hm,rfl⟩⟩
theorem q_w76_3 (hn:n≤1000000)(g:Vec)(js:List Joint)(l:List Body)(hl:l.length=n) :
  ∃ y,R_w76_3 (((),(),(),(n:Int),(0:Int),()),l,(g,(),js,()),[],())=some y∧((∃ bs:List Box,bs.length=n∧y=.inl (.inl (((),(),()),l,(g,(),js,()),bs,())))∨∃ e,y=.inr e∧(e=3∨e=4)):=by
 refine rounds_mu (G:=fun x=>G_w76_3 x.1.2.2.2.1 x.1.2.2.2.2.1 x.2.1 x.2.2.1 x.2.2.2.1)
  (fun x=>∃ (k:Nat) (bs:List Box),k≤n∧bs.length=k∧x=(((),(),(),(n:Int),(k:Int),()),l,(g,(),js,()),bs,())) (fun x=>n-x.1.2.2.2.2.1.toNat)
  (fun y=>(∃ bs:List Box,bs.length=n∧y=.inl (.inl (((),(),()),l,(g,(),js,()),bs,())))∨∃ e,y=.inr e∧(e=3∨e=4)) ?_ fuel (((),(),(),(n:Int),(0:Int),()),l,(g,(),js,()),[],()) ⟨0,[],Nat.zero_le _,rfl,rfl⟩ (by
   show n-(0:Int).toNat<fuel
   unfold fuel;omega)
 rintro x ⟨k,bs,hk,hbs,rfl⟩
 show(∃ x',G_w76_3 (n:Int) (k:Int) l (g,(),js,()) bs=_∧_)∨∃ y,G_w76_3 (n:Int) (k:Int) l (g,(),js,()) bs=_∧_
 unfold G_w76_3
 by_cases h:k<n
 ·have hmu:n-(IntKind.i64.wrap ((k:Int)+1)).toNat<n-(k:Int).toNat:=by rw [wrap_up h (by omega)];omega
  simp only [dec_lt h,cond_true,in_len hl h]
  obtain⟨y1,e1,h1⟩:=t_w164 (l.getD (Int.toNat (k:Int)) tBody.dflt)
  rw [e1]
  cases y1 with
  | inr e=>exact .inr ⟨_,rfl,.inr ⟨e,rfl,h1⟩⟩
  | inl v1=>
   have hsz:(((bs.length+[v1.1].length)*32).ble 70368744177664)=true:=Nat.ble_eq_true_of_le (by simp;omega)
   simp only [Option.bind_some,Sum.elim_inl]
   exact .inl ⟨_,by rw [hsz];rfl,⟨k+1,bs++[v1.1],h,by simp [hbs],by rw [wrap_up h (by omega)]⟩,hmu⟩
 ·have:k=n:=by omega
  subst this
  simp only [dec_end,cond_false]
  exact .inr ⟨_,rfl,.inl ⟨bs,hbs,rfl⟩⟩
theorem q_w76_8 (hn:n≤1000000)(g:Vec)(js:List Joint)(bs:List Box)(hbs:bs.length=n)(ps:List Pair)(hps:∀ p∈ps,Two bs p)(hpl:ps.length≤1000000)(l:List Body)(hl:l.length=n) :
  ∃ y,R_w76_8 (((),ps,(ps.length:Int),(0:Int),()),l,(g,(),js,()),())=some y∧((∃ m:List Body,m.length=n∧y=.inl (.inl ((),m,())))∨∃ e,y=.inr e∧(e=3∨e=4)):=by
 refine rounds_mu (G:=fun x=>G_w76_8 x.1.2.1 x.1.2.2.1 x.1.2.2.2.1 x.2.1 x.2.2.1)
  (fun x=>∃ (k:Nat) (m:List Body),k≤ps.length∧m.length=n∧x=(((),ps,(ps.length:Int),(k:Int),()),m,(g,(),js,()),())) (fun x=>ps.length-x.1.2.2.2.1.toNat)
  (fun y=>(∃ m:List Body,m.length=n∧y=.inl (.inl ((),m,())))∨∃ e,y=.inr e∧(e=3∨e=4)) ?_ fuel (((),ps,(ps.length:Int),(0:Int),()),l,(g,(),js,()),()) ⟨0,l,Nat.zero_le _,hl,rfl⟩ (by
   show ps.length-(0:Int).toNat<fuel
   unfold fuel;omega)
 rintro x ⟨k,m,hk,hm,rfl⟩
 show(∃ x',G_w76_8 ps (ps.length:Int) (k:Int) m (g,(),js,())=_∧_)∨∃ y,G_w76_8 ps (ps.length:Int) (k:Int) m (g,(),js,())=_∧_
 unfold G_w76_8
 by_cases h:k<ps.length
 ·have hmu:ps.length-(IntKind.i64.wrap ((k:Int)+1)).toNat<ps.length-(k:Int).toNat:=by rw [wrap_up h (by omega)];omega
  obtain⟨p,hpd⟩:∃ p,p=List.getD ps (Int.toNat (k:Int)) tPair.dflt:=⟨_,rfl⟩
  have hin:Two bs p:=by
   rw [hpd,getD_of (List.getElem?_eq_getElem h)]
   exact hps _ (List.getElem_mem h)
  have d1:decide ((0:Int)≤p.1∧p.1<((m.length:Nat):Int))=true:=by rw [hm,← hbs];exact decide_eq_true hin.1
  have d2:decide ((0:Int)≤p.2∧p.2<((m.length:Nat):Int))=true:=by rw [hm,← hbs];exact decide_eq_true hin.2
  simp only [dec_lt h,cond_true,dec_in h,← hpd,d1,d2,List.length_set]
  obtain⟨y1,e1,h1⟩:=t_w166 (m.getD (Int.toNat p.1) tBody.dflt) (m.getD (Int.toNat p.2) tBody.dflt)
  rw [e1]
  cases y1 with
  | inr e=>exact .inr ⟨_,rfl,.inr ⟨e,rfl,h1⟩⟩
  | inl v1=>
   simp only [Option.bind_some,Sum.elim_inl]
   cases v1.2.1 with
   | false=>exact .inl ⟨_,rfl,⟨k+1,m,h,hm,by rw [wrap_up h (by omega)]⟩,hmu⟩
   | true=>
    simp only [cond_true]
    obtain⟨y2,e2,h2⟩:=t_w167 (m.getD (Int.toNat p.1) tBody.dflt) (m.getD (Int.toNat p.2) tBody.dflt) v1.1
    rw [e2]
    cases y2 with
    | inr e=>exact .inr ⟨_,rfl,.inr ⟨e,rfl,h2⟩⟩
    | inl v2=>exact .inl ⟨_,rfl,⟨k+1,_,h,List.length_set.trans (List.length_set.trans hm),by rw [wrap_up h (by omega)]⟩,hmu⟩
 ·have:k=ps.length:=by omega
  subst this
  simp only [dec_end,cond_false]
  exact .inr ⟨_,rfl,.inl ⟨m,hm,rfl⟩⟩
end
theorem t_w76 {n:Nat}(hn:n≤100)(g:Vec)(js:List Joint)(l:List Body)(hl:l.length=n)(hp:∀ bs:List Box,bs.length=n→∃ ps,F_w165 bs=some ((ps,()):Els [.list tPair])∧(∀ p∈ps,Two bs p)∧ps.length≤1000000):Bd n (F_w76 (g,(),js,()) l):=by
 unfold F_w76
 obtain⟨y,e,hy⟩:=q_w76_3 (n:=n) (by omega) g js l hl
 rw [hl,e]
 rcases hy with⟨bs,hbs,rfl⟩ | ⟨e',rfl,he⟩
 ·obtain⟨ps,e2,hps,hpl⟩:=hp bs hbs
  simp only [Option.bind_some,Sum.elim_inl]
  rw [e2]
  simp only [Option.bind_some]
  obtain⟨y,e3,hy⟩:=q_w76_8 (n:=n) (by omega) g js bs hbs ps hps hpl l hl
  rw [e3]
  rcases hy with⟨m,hm,rfl⟩ | ⟨e',rfl,he⟩
  ·exact⟨_,rfl,hm⟩
  ·exact⟨_,rfl,he⟩
 ·exact⟨_,rfl,he⟩
theorem t_w73 (g:Vec)(js:List Joint)(l:List Body)(hl:l.length≤100)(hjs:js.length≤1000000)(hj:∀ j∈js,EndsJ l.length j)(hp:∀ bs:List Box,bs.length=l.length→∃ ps,F_w165 bs=some ((ps,()):Els [.list tPair])∧(∀ p∈ps,Two bs p)∧ps.length≤1000000) :
  (∃ m:List Body,m.length=l.length∧F_w73 (g,(),js,()) l=some (.inl ((),(g,(),js,()),m,())))∨∃ e,F_w73 (g,(),js,()) l=some (.inr e)∧(e=3∨e=4):=by
 unfold F_w73
 obtain⟨y1,e1,h1⟩:=t_w74 (n:=l.length) (by omega) g js l rfl
 rw [e1]
 cases y1 with
 | inr e=>exact .inr ⟨e,rfl,h1⟩
 | inl v1=>
  simp only [Option.bind_some,Sum.elim_inl]
  obtain⟨y2,e2,h2⟩:=t_w75 (n:=l.length) (by omega) g js hjs hj v1.2.1 h1
  rw [e2]
  cases y2 with
  | inr e=>exact .inr ⟨e,rfl,h2⟩
  | inl v2=>
   simp only [Option.bind_some,Sum.elim_inl]
   obtain⟨y3,e3,h3⟩:=t_w76 (n:=l.length) hl g js v2.2.1 h2 hp
   rw [e3]
   cases y3 with
   | inr e=>exact .inr ⟨e,rfl,h3⟩
   | inl v3=>
    simp only [Option.bind_some,Sum.elim_inl]
    obtain⟨y4,e4,h4⟩:=t_w77 (n:=l.length) (by omega) g js v3.2.1 h3
    rw [e4]
    cases y4 with
    | inr e=>exact .inr ⟨e,rfl,h4⟩
    | inl v4=>exact .inl ⟨v4.2.1,h4,rfl⟩
theorem q_99_2 (w:World')(l:List Body)(hl:l.length≤1000000):∃ y,R_99_2 (((),l,(l.length:Int),(0:Int),()),(w,()),())=some y∧(y=.inl (((),()),(w,()),())∨y=.inr ((false,()),())):=by
 refine rounds_mu (G:=fun x=>G_99_2 x.1.2.1 x.1.2.2.1 x.1.2.2.2.1 x.2.1)
  (fun x=>∃ k:Nat,k≤l.length∧x=(((),l,(l.length:Int),(k:Int),()),(w,()),())) (fun x=>l.length-x.1.2.2.2.1.toNat)
  (fun y=>y=.inl (((),()),(w,()),())∨y=.inr ((false,()),())) ?_ fuel (((),l,(l.length:Int),(0:Int),()),(w,()),()) ⟨0,Nat.zero_le _,rfl⟩ (by
   show l.length-(0:Int).toNat<fuel
   unfold fuel;omega)
 rintro x ⟨k,hk,rfl⟩
 show(∃ x',G_99_2 l (l.length:Int) (k:Int) (w,())=_∧_)∨∃ y,G_99_2 l (l.length:Int) (k:Int) (w,())=_∧_
 unfold G_99_2
 by_cases h:k<l.length
 ·have hmu:l.length-(IntKind.i64.wrap ((k:Int)+1)).toNat<l.length-(k:Int).toNat:=by rw [wrap_up h (by omega)];omega
  obtain⟨v,hv⟩:=t_88 (List.getD l (Int.toNat (k:Int)) tBody.dflt)
  simp only [dec_lt h,cond_true,dec_in h]
  rw [hv]
  simp only [Option.bind_some]
  cases v.1 with
  | true=>exact .inl ⟨_,rfl,⟨k+1,h,by rw [wrap_up h (by omega)]⟩,hmu⟩
  | false=>exact .inr ⟨_,rfl,.inr rfl⟩
 ·have:k=l.length:=by omega
  subst this
  simp only [dec_end,cond_false]
  exact .inr ⟨_,rfl,.inl rfl⟩
theorem ends_of (a b n:Int)(c1:¬((if b<a then b else a)<0))(c2:¬((if b>a then b else a)≥n)):(0≤a∧a<n)∧(0≤b∧b<n):=by
 split at c1 <;> split at c2 <;> refine⟨⟨?_,?_⟩,?_,?_⟩ <;> omega
theorem q_99_8 (w:World')(js:List Joint)(hjs:js.length≤1000000):∃ y,R_99_8 (((),js,(js.length:Int),(0:Int),()),(w,()),())=some y∧((y=.inl (((),()),(w,()),())∧∀ j∈js,EndsJ w.2.1.length j)∨y=.inr ((false,()),())):=by
 refine rounds_mu (G:=fun x=>G_99_8 x.1.2.1 x.1.2.2.1 x.1.2.2.2.1 x.2.1)
  (fun x=>∃ k:Nat,k≤js.length∧(∀ j∈js.take k,EndsJ w.2.1.length j)∧x=(((),js,(js.length:Int),(k:Int),()),(w,()),())) (fun x=>js.length-x.1.2.2.2.1.toNat)
  (fun y=>(y=.inl (((),()),(w,()),())∧∀ j∈js,EndsJ w.2.1.length j)∨y=.inr ((false,()),())) ?_ fuel (((),js,(js.length:Int),(0:Int),()),(w,()),()) ⟨0,Nat.zero_le _,fun j hj=>by simp at hj,rfl⟩ (by
   show js.length-(0:Int).toNat<fuel
   unfold fuel;omega)
 rintro x ⟨k,hk,hp,rfl⟩
 show(∃ x',G_99_8 js (js.length:Int) (k:Int) (w,())=_∧_)∨∃ y,G_99_8 js (js.length:Int) (k:Int) (w,())=_∧_
 unfold G_99_8
 by_cases h:k<js.length
 ·have hmu:js.length-(IntKind.i64.wrap ((k:Int)+1)).toNat<js.length-(k:Int).toNat:=by rw [wrap_up h (by omega)];omega
  have hg:=List.getElem?_eq_getElem h
  obtain⟨j,hjd⟩:∃ j,j=js[k]:=⟨_,rfl⟩
  rw [← hjd] at hg
  simp only [dec_lt h,cond_true,dec_in h,getD_of hg]
  have no:∃ y,(some (Sum.inr (Sum.inr ((false,()),()))):Option (LD_99_8.El⊕(LA_99_8.El⊕LB_99_8.El)))=some (.inr y)∧((y=.inl (((),()),(w,()),())∧∀ j∈js,EndsJ w.2.1.length j)∨y=.inr ((false,()),())):=⟨_,rfl,.inr rfl⟩
  cases c1:decide ((if j.snd.fst<j.fst then j.snd.fst else j.fst)<(0:Int)) with
  | true=>exact .inr no
  | false=>
   cases c2:decide ((if j.snd.fst>j.fst then j.snd.fst else j.fst)≥((List.length w.snd.fst:Nat):Int)) with
   | true=>exact .inr no
   | false=>
    have hE:EndsJ w.2.1.length j:=by
     have c1:=of_decide_eq_false c1
     have c2:=of_decide_eq_false c2
     exact ends_of j.1 j.2.1 _ c1 c2
    have hnext:∀ x∈js.take (k+1),EndsJ w.2.1.length x:=by
     intro x hx
     rw [List.take_succ_eq_append_getElem h] at hx
     rcases List.mem_append.1 hx with hx | hx
     ·exact hp x hx
     ·rw [List.mem_singleton.1 hx,← hjd];exact hE
    simp only [cond_false]
    cases (j.fst==j.snd.fst) with
    | true=>exact .inr no
    | false=>
     simp only [cond_false]
     cases decide (j.snd.snd<(0:Int)) with
     | true=>exact .inr no
     | false=>
      simp only [cond_false]
      cases decide (j.snd.snd>(4294967296000:Int)) with
      | true=>exact .inr no
      | false=>exact .inl ⟨_,rfl,⟨k+1,h,hnext,by rw [wrap_up h (by omega)]⟩,hmu⟩
 ·have:k=js.length:=by omega
  subst this
  simp only [dec_end,cond_false]
  exact .inr ⟨_,rfl,.inl ⟨rfl,by rw [List.take_length] at hp;exact hp⟩⟩
def rbW (w:World'):Bool:=match F_99 w with
 | some b=>b.1
 | none=>false
theorem t_99 (w:World')(hl:w.2.1.length≤1000000)(hj:w.2.2.length≤1000000):F_99 w=some ((rbW w,()):Els [.bool])∧(rbW w=true→∀ j∈w.2.2,EndsJ w.2.1.length j):=by
 have key:∃ b:Bool,F_99 w=some ((b,()):Els [.bool])∧(b=true→∀ j∈w.2.2,EndsJ w.2.1.length j):=by
  unfold F_99
  obtain⟨y,e,hy⟩:=q_99_2 w w.2.1 hl
  rw [e]
  rcases hy with rfl | rfl
  ·simp only [Option.bind_some,Sum.elim_inl]
   obtain⟨y,e2,hy⟩:=q_99_8 w w.2.2 hj
   rw [e2]
   rcases hy with⟨rfl,hE⟩ | rfl
   ·simp only [Option.bind_some,Sum.elim_inl]
    obtain⟨v,hv⟩:=t_130 w.1.1
    rw [hv]
    simp only [Option.bind_some]
    cases v.1 with
    | false=>exact⟨false,rfl,fun h=>by cases h⟩
    | true=>
     obtain⟨u,hu⟩:=t_130 w.1.2
     simp only [cond_true]
     rw [hu]
     exact⟨u.1,rfl,fun _=>hE⟩
   ·exact⟨false,rfl,fun h=>by cases h⟩
  ·exact⟨false,rfl,fun h=>by cases h⟩
 obtain⟨b,e,h⟩:=key
 have hb:rbW w=b:=by unfold rbW;rw [e]
 rw [hb]
 exact⟨e,h⟩
def zeroW:World':=((0,0),[],[])
theorem pairs_all (l:List Body)(hl:l.length≤100):∀ bs:List Box,bs.length=l.length→∃ ps,F_w165 bs=some ((ps,()):Els [.list tPair])∧(∀ p∈ps,Two bs p)∧ps.length≤1000000:=by
 intro bs hbs
 obtain⟨ps,e,h,h2⟩:=t_w165 (bs:=bs) (by omega)
 exact⟨ps,e,h,by omega⟩
theorem t_w23 (w:World')(hl:w.2.1.length≤100)(hj:w.2.2.length≤1000) :
  ∃ (w':World') (e:Int),F_w23 w=some ((w',e,()):Els [tWorld,I])∧((rbW w=false∧e=9∧w'=zeroW)∨(rbW w=true∧((e=0∧rbW w'=true∧w'.2.1.length=w.2.1.length∧w'.1=w.1∧w'.2.2=w.2.2)∨((e=3∨e=4)∧w'=zeroW)))):=by
 obtain⟨e16,hE⟩:=t_99 w (by omega) (by omega)
 unfold F_w23
 rw [e16]
 simp only [Option.bind_some]
 cases hr:rbW w with
 | false=>exact⟨_,_,rfl,.inl ⟨rfl,rfl,rfl⟩⟩
 | true=>
  simp only [Bool.not_true,cond_false]
  have e56:F_w56 w.2.1=some w.2.1:=by
   unfold F_w56
   rw [show Nat.ble (List.length w.2.1*64) 70368744177664=true from Nat.ble_eq_true_of_le (by omega)];rfl
  have e57:F_w57 w.2.2=some ((w.2.2,()):Els [.list tJoint]):=by
   unfold F_w57 O_w57
   rw [show Nat.ble (List.length w.2.2*24) 70368744177664=true from Nat.ble_eq_true_of_le (by omega)];rfl
  rw [e56]
  simp only [Option.bind_some]
  rw [e57]
  simp only [Option.bind_some]
  unfold F_w60_73
  rcases t_w73 w.1 w.2.2 w.2.1 hl (by omega) (hE hr) (pairs_all w.2.1 hl) with⟨m,hm,e⟩ | ⟨e,h73,he⟩
  ·rw [e]
   simp only [Option.bind_some,Sum.elim_inl]
   have h00:((0:Int)==0)=true:=rfl
   rw [h00,cond_true]
   obtain⟨e16',_⟩:=t_99 (w.1,m,w.2.2) (by show m.length≤1000000;omega) (by show w.2.2.length≤1000000;omega)
   rw [e16']
   simp only [Option.bind_some]
   cases hr':rbW (w.1,m,w.2.2) with
   | false=>exact⟨_,_,rfl,.inr ⟨trivial,.inr ⟨.inl rfl,rfl⟩⟩⟩
   | true=>exact⟨_,_,rfl,.inr ⟨trivial,.inl ⟨rfl,hr',hm,rfl,rfl⟩⟩⟩
  ·rw [h73]
   simp only [Option.bind_some,Sum.elim_inr]
   rcases he with rfl | rfl
   ·exact⟨_,_,rfl,.inr ⟨trivial,.inr ⟨.inl rfl,rfl⟩⟩⟩
   ·exact⟨_,_,rfl,.inr ⟨trivial,.inr ⟨.inr rfl,rfl⟩⟩⟩
def stp (w:World'):World'×Int:=match F_w23 w with
 | some y=>(y.1,y.2.1)
 | none=>(zeroW,0)
def GoodW (w:World'):Prop:=w.2.1.length≤100∧w.2.2.length≤1000
theorem stp_ok {w:World'}(h:GoodW w):F_w23 w=some (((stp w).1,(stp w).2,()):Els [tWorld,I])∧((rbW w=false∧(stp w).2=9∧(stp w).1=zeroW)∨(rbW w=true∧(((stp w).2=0∧rbW (stp w).1=true∧(stp w).1.2.1.length=w.2.1.length∧(stp w).1.1=w.1∧(stp w).1.2.2=w.2.2)∨(((stp w).2=3∨(stp w).2=4)∧(stp w).1=zeroW)))):=by
 obtain⟨w',e,hF,hP⟩:=t_w23 w h.1 h.2
 have:stp w=(w',e):=by unfold stp;rw [hF]
 rw [this]
 exact⟨hF,hP⟩
theorem GoodW.next {w:World'}(h:GoodW w)(h0:(stp w).2=0):GoodW (stp w).1:=by
 rcases (stp_ok h).2 with⟨_,h9,_⟩ | ⟨_,⟨_,_,k1,_,k2⟩ | ⟨h3,_⟩⟩
 ·rw [h0] at h9;cases h9
 ·exact⟨by rw [k1];exact h.1,by rw [k2];exact h.2⟩
 ·rw [h0] at h3;rcases h3 with h3 | h3 <;> cases h3
def run:Nat→Nat→World'→World'×Int×Int
 | 0,_,w=>(w,0,0)
 | m+1,k,w=>if(stp w).2=0 then run m (k+1) (stp w).1 else(zeroW,((k+1:Nat):Int),(stp w).2)
theorem run_fail {w:World'}{k:Nat}:∀ (m:Nat),(run m k w).2.2≠0→(run m k w).1=zeroW:=by
 intro m
 induction m generalizing k w with
 | zero=>intro h;exact absurd rfl h
 | succ m ih=>
  intro h
  unfold run at h ⊢
  split at h
  ·rename_i h0;rw [if_pos h0];exact ih h
  ·rename_i h0;rw [if_neg h0]
theorem run_loop (n:Nat)(hn:n≤1000):∀ (m k f:Nat) (w:World'),k+m=n→m<f→GoodW w →
  roundsT (fun x=>G_w15_5 x.1.2.2.1 x.1.2.2.2.1 x.2.1 x.2.2.1) f (((),(),(n:Int),(k:Int),()),(w,()),(zeroW,()),()) =
   some (if(run m k w).2.2=0 then .inl (((),(),()),((run m k w).1,()),(zeroW,()),()) else .inr (((),(run m k w).2.1,(run m k w).2.2,()),(zeroW,()),()))
 | 0,k,f,w,hk,hf,hg=>by
  obtain⟨f,rfl⟩:∃ j,f=j+1:=⟨f-1,by omega⟩
  have:k=n:=by omega
  subst this
  refine rounds_out ?_ f
  show G_w15_5 (k:Int) (k:Int) (w,()) (zeroW,())=_
  unfold G_w15_5
  rw [dec_end];rfl
 | m+1,k,f,w,hk,hf,hg=>by
  obtain⟨f,rfl⟩:∃ j,f=j+1:=⟨f-1,by omega⟩
  have hlt:k<n:=by omega
  obtain⟨hF,_⟩:=stp_ok hg
  by_cases h0:(stp w).2=0
  ·have e:run (m+1) k w=run m (k+1) (stp w).1:=by
    show(if(stp w).2=0 then _ else _)=_
    rw [if_pos h0]
   rw [e]
   have hG:G_w15_5 (n:Int) (k:Int) (w,()) (zeroW,())=some (.inl (((),(),(n:Int),((k+1:Nat):Int),()),((stp w).1,()),(zeroW,()),())):=by
    unfold G_w15_5
    rw [dec_lt hlt,cond_true,hF]
    simp only [Option.bind_some,h0,wrap_up hlt (by omega)]
    rfl
   rw [rounds_in (x':=(((),(),(n:Int),((k+1:Nat):Int),()),((stp w).1,()),(zeroW,()),())) hG]
   exact run_loop n hn m (k+1) f (stp w).1 (by omega) (by omega) (hg.next h0)
  ·have e:run (m+1) k w=(zeroW,((k+1:Nat):Int),(stp w).2):=by
    show(if(stp w).2=0 then _ else _)=_
    rw [if_neg h0]
   rw [e]
   have h00:((stp w).2 != (0:Int))=true:=by simpa using h0
   have hG:G_w15_5 (n:Int) (k:Int) (w,()) (zeroW,())=some (.inr (.inr (((),((k+1:Nat):Int),(stp w).2,()),(zeroW,()),()))):=by
    unfold G_w15_5
    rw [dec_lt hlt,cond_true,hF]
    simp only [Option.bind_some,h00,wrap_up hlt (by omega),cond_true]
    rfl
   rw [rounds_out (y:=.inr (((),((k+1:Nat):Int),(stp w).2,()),(zeroW,()),())) hG]
   rw [if_neg h0]
theorem e56 (w:World')(hg:GoodW w):F_w56 w.2.1=some w.2.1:=by
 unfold F_w56
 rw [show Nat.ble (List.length w.2.1*64) 70368744177664=true from Nat.ble_eq_true_of_le (by have:=hg.1;omega)];rfl
theorem e57 (w:World')(hg:GoodW w):F_w57 w.2.2=some ((w.2.2,()):Els [.list tJoint]):=by
 unfold F_w57 O_w57
 rw [show Nat.ble (List.length w.2.2*24) 70368744177664=true from Nat.ble_eq_true_of_le (by have:=hg.2;omega)];rfl
theorem t_w15out (w:World')(n:Int)(h:n<0∨n>200):F_w15 w n=some ((zeroW,(0:Int),(9:Int),()):Els [tWorld,I,I]):=by
 unfold F_w15
 by_cases h0:n<0
 ·rw [decide_eq_true h0];rfl
 ·rw [decide_eq_false h0,cond_false,decide_eq_true (show n>200 by omega)];rfl
theorem run_end (w:World')(n:Nat)(hn:n≤200)(hg:GoodW w) :
  (R_w15_5 (((),(),(n:Int),(0:Int),()),((w.1,w.2.1,w.2.2),()),((((0:Int),(0:Int)),[],[]),()),())).bind (fun v14=>Sum.elim (fun v15=>Option.some ((v15.snd.fst.fst,(0:Int),(0:Int),()):Els [tWorld,I,I])) (fun v16=>Option.some (v16.snd.fst.fst,v16.fst.snd.fst,v16.fst.snd.snd.fst,())) v14) =
   some (((run n 0 w).1,(run n 0 w).2.1,(run n 0 w).2.2,()):Els [tWorld,I,I]):=by
 have h:=run_loop n (by omega) n 0 fuel w (by omega) (fuel_lt (by omega)) hg
 show(roundsT _ fuel (((),(),(n:Int),((0:Nat):Int),()),(w,()),(zeroW,()),())).bind _=_
 rw [h]
 by_cases h0:(run n 0 w).2.2=0
 ·rw [if_pos h0]
  have:(run n 0 w).2.1=0:=by
   clear h
   have:∀ (m k:Nat) (w:World'),(run m k w).2.2=0→(run m k w).2.1=0:=by
    intro m
    induction m with
    | zero=>intro k w _;rfl
    | succ m ih=>
     intro k w h
     unfold run at h ⊢
     split at h
     ·rename_i h0;rw [if_pos h0];exact ih _ _ h
     ·rename_i h0;exact absurd h h0
   exact this n 0 w h0
  show some (((run n 0 w).1,(0:Int),(0:Int),()):Els [tWorld,I,I])=_
  rw [h0,this]
 ·rw [if_neg h0]
  show some ((zeroW,(run n 0 w).2.1,(run n 0 w).2.2,()):Els [tWorld,I,I])=_
  rw [run_fail n h0]
theorem t_w15 (w:World')(n:Nat)(hn:n≤200)(hg:GoodW w):F_w15 w (n:Int)=some (if n=0∧rbW w=false then((zeroW,(0:Int),(9:Int),()):Els [tWorld,I,I]) else((run n 0 w).1,(run n 0 w).2.1,(run n 0 w).2.2,())):=by
 unfold F_w15
 rw [decide_eq_false (show ¬(n:Int)<0 by omega),cond_false,decide_eq_false (show ¬(n:Int)>200 by omega),cond_false]
 by_cases h0:n=0
 ·subst h0
  obtain⟨e16,_⟩:=t_99 w (by have:=hg.1;omega) (by have:=hg.2;omega)
  have hz:(((0:Nat):Int)==(0:Int))=true:=rfl
  rw [hz,cond_true,e16]
  simp only [Option.bind_some]
  cases hr:rbW w with
  | false=>rw [if_pos (by simp)];rfl
  | true=>
   rw [if_neg (by simp)]
   simp only [Bool.not_true,cond_false]
   rw [e56 w hg]
   simp only [Option.bind_some]
   rw [e57 w hg]
   exact run_end w 0 hn hg
 ·have hz:(((n:Nat):Int)==(0:Int))=false:=beq_false_of_ne (by omega)
  rw [hz,cond_false,if_neg (by simp [h0]),e56 w hg]
  simp only [Option.bind_some]
  rw [e57 w hg]
  exact run_end w n hn hg
end Go.DI.S
end
