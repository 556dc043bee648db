import Derived.Test.YtbjldjihpekhaaaGreatDia
/- A reading of programs by functions on data, and that it is right. No conditions. -/
set_option linter.unusedSimpArgs false
set_option linter.unusedVariables false
set_option maxRecDepth 100000
set_option maxHeartbeats 0
namespace Go.DI
def aEx (k:IntKind)(a:Int):List AV→Option AV
 | []=>some (.int k a)
 | .int _ b :: r=>aEx k (if b<a then b else a) r
 | _ :: _=>none
def aX8:List AV→Option AV
 | .int k a :: r=>aEx k a r
 | _=>none
def aEy (k:IntKind)(a:Int):List AV→Option AV
 | []=>some (.int k a)
 | .int _ b :: r=>aEy k (if b>a then b else a) r
 | _ :: _=>none
def aX9:List AV→Option AV
 | .int k a :: r=>aEy k a r
 | _=>none
def O4 (C:dI)(h:AH)(b:Builtin)(ts:List TypeId)(xs:List AV):Option (AV×AH):=
 match b,ts,xs with
 | .append,[t,tx],[x,y]=>iN C h t tx x y
 | .len,t :: _,[x]=>(aOs C h t x).map fun v=>(v,h)
 | .min,_,xs=>(aX8 xs).map fun v=>(v,h)
 | .max,_,xs=>(aX9 xs).map fun v=>(v,h)
 | .clear,t :: _,[x]=>(aIj C h t x).map fun h'=>(.undef,h')
 | _,_,_=>none
inductive OR where
 | val (v:AV) (h:AH)
 | skip (h:AH)
 | call (g:FuncId) (args:List AV)
 | fN (v:AV)
def opA (C:dI)(h:AH)(ev:Operand→Option AV)(o:Op):Option OR:=
 match o8 C h ev o with
 | some v=>some (.val v h)
 | none=>match o with
  | .alloc e=>match wY C e with
   | some z=>(aRh h e z).map fun p=>.val p.1 p.2
   | none=>none
  | .box e x=>match ev x with
   | some v=>(aRh h e v).map fun p=>.val p.1 p.2
   | none=>none
  | .build t ps=>(aIi C ev t ps.toList).map fun v=>.val v h
  | .buildSlice t n ps=>(xQ C h ev t n ps.toList).map fun p=>.val p.1 p.2
  | .store t a x=>match ev a,ev x with
   | some p,some v=>(aAL C h t p v).map .skip
   | _,_=>none
  | .mapUpdate t m k x | .insert t m k x=>match ev m,ev k,ev x with
   | some a,some b,some c=>(iU C h t a b c).map .skip
   | _,_,_=>none
  | .makeMap _ none=>some (.val (.map h.length) (h++[some (.map [])]))
  | .panic x=>match ev x with
   | some (.iface t v)=>some (.fN (.iface t v))
   | _=>none
  | .call c=>match ID ev c.args.toList with
   | some xs=>match c.callee with
    | .builtin b=>(O4 C h b c.argTypes.toList xs).map fun p=>.val p.1 p.2
    | .value f=>match ev f with
     | some (.func g first eA)=>if C.aX3 g then some (.call g (first++xs++eA)) else none
     | _=>none
    | _=>none
   | none=>none
  | _=>none
section
variable {C:dI}{w:World}{R:Nat→Prop}{ρ:Nm}{h:AH}
theorem aEA {k:IntKind}:∀ {xs:List AV} {a:Int} {av:AV} {us:List Value},aEx k a xs=some av→aK w R ρ xs us→∃ r,(us.foldlM Builtin.min2 (.int k a)).run C.P w=.ok r w∧aI w R ρ av r
 | [],a,av,us,hm,hv=>by
  simp [aEx] at hm;subst hm;obtain rfl:=hv.bE;exact⟨_,by simp,.int _ _⟩
 | x :: r,a,av,us,hm,hv=>by
  obtain⟨u,nG,rfl,h1,h2⟩:=hv.cons_inv;cases x <;> simp only [aEx] at hm <;> (try (cases hm;done));cases h1;obtain⟨q,hq,hqv⟩:=aEA hm h2;exact⟨q,by rw [← hq];simp [Builtin.min2],hqv⟩
theorem aYa {ts:Array TypeId}{ty:TypeId}{xs:List AV}{av:AV}{us:Array Value}(hm:aX8 xs=some av)(hv:aK w R ρ xs us.toList):∃ r,(Builtin.min_ ts ty us).run C.P w=.ok r w∧aI w R ρ av r:=by
 cases xs with
 | nil=>simp [aX8] at hm
 | cons x r=>
  obtain⟨u,nG,hu,h1,h2⟩:=hv.cons_inv;cases x <;> simp only [aX8] at hm <;> (try (cases hm;done));cases h1;obtain⟨q,hq,hqv⟩:=aEA (C:=C) hm h2;exact⟨q,by rw [← hq];simp only [Builtin.min_,hu],hqv⟩
theorem aEB {k:IntKind}:∀ {xs:List AV} {a:Int} {av:AV} {us:List Value},aEy k a xs=some av→aK w R ρ xs us→∃ r,(us.foldlM Builtin.max2 (.int k a)).run C.P w=.ok r w∧aI w R ρ av r
 | [],a,av,us,hm,hv=>by
  simp [aEy] at hm;subst hm;obtain rfl:=hv.bE;exact⟨_,by simp,.int _ _⟩
 | x :: r,a,av,us,hm,hv=>by
  obtain⟨u,nG,rfl,h1,h2⟩:=hv.cons_inv;cases x <;> simp only [aEy] at hm <;> (try (cases hm;done));cases h1;obtain⟨q,hq,hqv⟩:=aEB hm h2;exact⟨q,by rw [← hq];simp [Builtin.max2],hqv⟩
theorem aYb {ts:Array TypeId}{ty:TypeId}{xs:List AV}{av:AV}{us:Array Value}(hm:aX9 xs=some av)(hv:aK w R ρ xs us.toList):∃ r,(Builtin.max_ ts ty us).run C.P w=.ok r w∧aI w R ρ av r:=by
 cases xs with
 | nil=>simp [aX9] at hm
 | cons x r=>
  obtain⟨u,nG,hu,h1,h2⟩:=hv.cons_inv;cases x <;> simp only [aX9] at hm <;> (try (cases hm;done));cases h1;obtain⟨q,hq,hqv⟩:=aEB (C:=C) hm h2;exact⟨q,by rw [← hq];simp only [Builtin.max_,hu],hqv⟩
theorem aEC (hr:Rel R ρ h w){b:Builtin}{ts:Array TypeId}{ty:TypeId}{consts:Array Bool}{xs:List AV}{us:Array Value}{av:AV}{h':AH}(hb:O4 C h b ts.toList xs=some (av,h'))(hv:aK w R ρ xs us.toList) :
  ∃ R' ρ' u w',(builtin b ts ty consts us).run C.P w=.ok (.value u) w'∧aI w' R' ρ' av u∧Rel R' ρ' h' w'∧fB R ρ h w R' ρ' h' w':=by
 have lift:∀ s:Sem Value,Post C R ρ h w s av h'→∃ R' ρ' u w',(do pure (.value (← s)):Sem Next).run C.P w=.ok (.value u) w'∧aI w' R' ρ' av u∧Rel R' ρ' h' w'∧fB R ρ h w R' ρ' h' w':=by
  rintro s ⟨R',ρ',u,w',h1,h2⟩;exact⟨R',ρ',u,w',by rw [aPJ,h1];rfl,h2⟩
 have pur:∀ s:Sem Value,(∃ r,s.run C.P w=.ok r w∧aI w R ρ av r)→h'=h→Post C R ρ h w s av h':=by
  rintro s ⟨r,h1,h2⟩ rfl;exact⟨R,ρ,r,w,h1,h2,hr,fB.refl _ _ _ _⟩
 unfold O4 at hb
 split at hb
 ·rename_i t tx x y hts;obtain⟨u,nG,W9,h1,h2⟩:=hv.cons_inv;obtain⟨v,bEW,rfl,h3,h4⟩:=h2.cons_inv;obtain rfl:=h4.bE;have e1:ts=#[t,tx]:=aRl.1 hts;have e2:us=#[u,v]:=aRl.1 W9;subst e1;subst e2;exact lift _ (lQ hr hb h1 h3)
 ·rename_i t rest x hts;obtain⟨u,nG,W9,h1,h2⟩:=hv.cons_inv;obtain rfl:=h2.bE;obtain⟨r,hl,he⟩:=aPV.1 hb;simp only [aKN] at he;obtain⟨rfl,rfl⟩:=he;refine lift _ (pur _ (NC hr hl h1 ?_ us ?_) rfl)
  ·rw [← aQ3,hts];rfl
  ·rw [← aQ3,W9];rfl
 ·obtain⟨r,hl,he⟩:=aPV.1 hb;simp only [aKN] at he;obtain⟨rfl,rfl⟩:=he;have:=aYa (C:=C) (ts:=ts) (ty:=ty) hl hv;exact lift _ (pur _ this rfl)
 ·obtain⟨r,hl,he⟩:=aPV.1 hb;simp only [aKN] at he;obtain⟨rfl,rfl⟩:=he;have:=aYb (C:=C) (ts:=ts) (ty:=ty) hl hv;exact lift _ (pur _ this rfl)
 ·rename_i t rest x hts;obtain⟨u,nG,W9,h1,h2⟩:=hv.cons_inv;obtain rfl:=h2.bE;obtain⟨r,hl,he⟩:=aPV.1 hb;simp only [aKN] at he;obtain⟨rfl,rfl⟩:=he;refine lift _ (aOt hr hl h1 ?_ us ?_)
  ·rw [← aQ3,hts];rfl
  ·rw [← aQ3,W9];rfl
 ·cases hb
def a3R (C:dI)(R:Nat→Prop)(ρ:Nm)(h:AH)(w:World)(s:Sem Next):OR→Prop
 | .val v h'=>∃ R' ρ' u w',s.run C.P w=.ok (.value u) w'∧aI w' R' ρ' v u∧Rel R' ρ' h' w'∧fB R ρ h w R' ρ' h' w'
 | .skip h'=>∃ R' ρ' w',s.run C.P w=.ok .skip w'∧Rel R' ρ' h' w'∧fB R ρ h w R' ρ' h' w'
 | .call g xs=>∃ us,s.run C.P w=.ok (.enter g us) w∧aK w R ρ xs us.toList
 | .fN v=>∃ u,s.run C.P w=.halt (.panic u) w∧aI w R ρ v u
theorem IE (hC:C.Ok)(hr:Rel R ρ h w){ev:Operand→Option AV}{a:Act}(cL:∀ x av,ev x=some av→aI w R ρ av (a.eval x)){o:Oper}{r:OR}(ho:opA C h ev o.op=some r):a3R C R ρ h w (execOp a.eval o) r:=by
 have lift:∀ (s:Sem Value) (av:AV) (h':AH),Post C R ρ h w s av h'→a3R C R ρ h w (do pure (.value (← s)):Sem Next) (.val av h'):=by
  rintro s av h' ⟨R',ρ',u,w',h1,h2⟩;exact⟨R',ρ',u,w',by rw [aPJ,h1];rfl,h2⟩
 have aRj:∀ (s:Sem Unit) (h':AH),X7 C R ρ h w s h'→a3R C R ρ h w (do s;pure .skip:Sem Next) (.skip h'):=by
  rintro s h' ⟨R',ρ',w',h1,h2⟩;exact⟨R',ρ',w',by rw [aPJ,h1];rfl,h2⟩
 unfold opA at ho
 split at ho
 ·rename_i v hp;injection ho with ho;subst ho
  obtain⟨u,h1,h2⟩:=X5 hC hr cL hp;exact⟨R,ρ,u,w,h1,h2,hr,fB.refl _ _ _ _⟩
 ·rename_i hpn;clear hpn;obtain⟨dst,op,type,pos,after,guard⟩:=o;simp only at ho
  split at ho
  ·rename_i e
   split at ho
   ·rename_i z hz;obtain⟨⟨av,h'⟩,hb,rfl⟩:=aPV.1 ho;exact lift _ _ _ (aOr hr hz hb)
   ·cases ho
  ·rename_i e x
   split at ho
   ·rename_i v hv;obtain⟨⟨av,h'⟩,hb,rfl⟩:=aPV.1 ho;exact lift _ _ _ (aK7 hr hb (cL _ _ hv))
   ·cases ho
  ·rename_i t ps;obtain⟨av,hb,rfl⟩:=aPV.1 ho;obtain⟨u,h1,h2⟩:=X6 cL hb;exact lift _ _ _ ⟨R,ρ,u,w,h1,h2,hr,fB.refl _ _ _ _⟩
  ·rename_i t n ps;obtain⟨⟨av,h'⟩,hb,rfl⟩:=aPV.1 ho;exact lift _ _ _ (O2 hr cL hb)
  ·rename_i t x y
   split at ho
   ·rename_i p v hp hv;obtain⟨h',hb,rfl⟩:=aPV.1 ho;exact aRj _ _ (X8 hr hb (cL _ _ hp) (cL _ _ hv))
   ·cases ho
  ·rename_i t m k x
   split at ho
   ·rename_i p q v hp hq hv;obtain⟨h',hb,rfl⟩:=aPV.1 ho;exact aRj _ _ (jM hr hb (cL _ _ hp) (cL _ _ hq) (cL _ _ hv))
   ·cases ho
  ·rename_i t m k x
   split at ho
   ·rename_i p q v hp hq hv;obtain⟨h',hb,rfl⟩:=aPV.1 ho;exact aRj _ _ (jM hr hb (cL _ _ hp) (cL _ _ hq) (cL _ _ hv))
   ·cases ho
  ·rename_i t;injection ho with ho;subst ho
   exact lift _ _ _ (LR hr t)
  ·rename_i x
   split at ho
   ·rename_i t v hv;injection ho with ho;subst ho
    have h1:=cL _ _ hv;simp only [execOp];generalize a.eval x=u at h1;cases h1 with
    | @iface _ _ u h2=>
    exact⟨.iface t u,by simp [Instr.panic],.iface h2⟩
   ·cases ho
  ·rename_i c
   split at ho
   ·rename_i xs hxs;have hvs:=mN cL hxs
    split at ho
    ·rename_i b hb;obtain⟨⟨av,h'⟩,hb',rfl⟩:=aPV.1 ho;obtain⟨R',ρ',u,w',h1,h2⟩:=aEC (C:=C) (ty:=type) (consts:=c.args.map fun | .const _=>true | _=>false) (us:=c.args.map a.eval) hr hb' (by simpa using hvs);refine⟨R',ρ',u,w',?_,h2⟩;rw [← h1];simp [execOp,resolve,hb,invoke];rfl
    ·rename_i f hf
     split at ho
     ·rename_i g first eA hg
      split at ho
      ·rename_i hfn;injection ho with ho;subst ho
       have h1:=cL _ _ hg;generalize hfv:a.eval f=fv at h1;cases h1 with
       | func vf vc h2 h3 h4 h5=>
       obtain⟨fn,bEY,bEZ,a9K⟩:=hC.fn g hfn;refine⟨vf++c.args.map a.eval++vc,?_,?_⟩
       ·have e1:¬(fn.name = "runtime.NumGoroutine"):=by simpa using bEZ
        have e2:¬(fn.body=none):=by intro e;rw [e] at a9K;simp at a9K
        simp [execOp,resolve,hf,hfv,Deferred.ofValue,invoke,callFunc,bEY];rw [aJn e1,aJn e2]
       ·simp only [Array.toList_append,Array.toList_map];refine(aK.append ⟨by simpa using h2,fun k c u hc hu=>h4 k c u hc (by simpa using hu)⟩ hvs).append ⟨by simpa using h3,fun k c u hc hu=>h5 k c u hc (by simpa using hu)⟩
      ·cases ho
     ·cases ho
    ·cases ho
   ·cases ho
  ·cases ho
end
structure AS where
 r:List AV
 h:AH
inductive AX where
 | normal
 | exit (id:Nat)
 | ret
 | fN (v:AV)
inductive Res where
 | ret (v:AV)
 | fN (v:AV)
abbrev CB:=FuncId→List AV→AH→Option (Res×AH)
def lS (r:List AV)(d:Option Tmp)(v:AV):List AV:=match d with
 | some d=>r.set d v
 | none=>r
def iZ (all:Array Oper)(r:List AV)(o:Oper):Option Bool:=
 match o.guard with
 | none=>some true
 | some (j,want)=>match (all[j]?).bind (·.dst) with
  | some d=>match r[d]? with
   | some (.bool b)=>some (b==want)
   | some .undef=>some false
   | none=>some false
   | _=>none
  | none=>some false
def Res.Is (w:World)(R:Nat→Prop)(ρ:Nm)(r:Res)(e:Ending)(v:Value):Prop:=
 match r with
 | .ret av=>e=.returned v∧aI w R ρ av v
 | .fN av=>e=.panicked [{ v,recovered:=false }]∧aI w R ρ av v
def AC (P:Program)(f:FuncId)(args:List AV)(h:AH)(r:Res)(h':AH):Prop:=
 ∀ R ρ w (vs:Array Value),Rel R ρ h w→aK w R ρ args vs.toList→Calls P f vs w fun e w'=>
  ∃ R' ρ' v,r.Is w' R' ρ' e v∧Rel R' ρ' h' w'∧fB R ρ h w R' ρ' h' w'
def a9M (w:World)(R:Nat→Prop)(ρ:Nm):AX→Exit→Prop
 | .normal,e=>e=.normal
 | .exit id,e=>e=.exit id
 | .ret,e=>e=.ret
 | .fN av,e=>∃ v,e=.panic [{ v,recovered:=false }]∧aI w R ρ av v
section
variable {C:dI}
theorem b9.put {w:World}{R:Nat→Prop}{ρ:Nm}{fH:List AV}{a:Act}(ha:b9 w R ρ fH a)(d:Option Tmp){av:AV}{v:Value}(hv:aI w R ρ av v):b9 w R ρ (lS fH d av) (a.put d v):=by
 cases d with
 | none=>exact ha
 | some d=>
  unfold b9;simp only [lS,Act.put,Array.toList_setIfInBounds];exact aK.set ha d hv
theorem b9.EM {R R':Nat→Prop}{ρ ρ':Nm}{h h':AH}{w w':World}{fH:List AV}{a:Act}(ha:b9 w R ρ fH a)(f:fB R ρ h w R' ρ' h' w')(hr:Rel R ρ h w):b9 w' R' ρ' fH a:=aK.EM ha f hr
theorem CX {all:Array Oper}{w:World}{R:Nat→Prop}{ρ:Nm}{fH:List AV}{a:Act}(ha:b9 w R ρ fH a){o:Oper}{b:Bool}(hw:iZ all fH o=some b):Region.wanted o (yielded all a.tmps)=b:=by
 unfold iZ at hw;unfold Region.wanted
 split at hw
 ·rename_i hg;rw [hg];simpa using hw
 ·rename_i j want hg;rw [hg];simp only [yielded]
  split at hw
  ·rename_i d hd;rw [hd];simp only [aEk]
   split at hw
   ·rename_i c hr;obtain⟨u,hu,hv⟩:=ha.get hr;have rW:a.tmps[d]?=some u:=by simpa using hu
    cases hv;rw [rW];simp at hw ⊢;exact hw
   ·rename_i hr;obtain⟨u,hu,hv⟩:=ha.get hr;have rW:a.tmps[d]?=some u:=by simpa using hu
    cases hv;rw [rW];simp at hw ⊢;exact hw
   ·rename_i hr;have:a.tmps[d]?=none:=by
     rw [List.getElem?_eq_none_iff] at hr;rw [Array.getElem?_eq_none_iff];have:=ha.1;simp at this;omega
    rw [this];simp at hw ⊢;exact hw
   ·cases hw
  ·rename_i hd;rw [hd];simp at hw ⊢;exact hw
end
abbrev DR:=(dI→CB→Array Oper→AS→Option (AX×AS))
def BS (C:dI)(s:AS):List ResultVar→Option (List AV)
 | []=>some []
 | .tmp t :: r=>match BS C s r with
  | some l=>some ((s.r[t]?).getD .undef :: l)
  | none=>none
 | .cell a t :: r=>match aEn C s.h t ((s.r[a]?).getD .undef),BS C s r with
  | some v,some l=>some (v :: l)
  | _,_=>none
def eE:List AV→AV
 | [v]=>v
 | l=>.xF l
section
variable {C:dI}{dr:DR}{cb:CB}
def aAO (tmps:Array Value):ResultVar→Sem Value
 | .tmp t=>pure (tmps.getD t undef)
 | .cell x t=>do loadVar t (← asAddr (tmps.getD x undef))
theorem CY (fn:Func)(tmps:Array Value):results fn tmps=(do
  let vs ← fn.results.mapM (aAO tmps)
  pure (if h:vs.size=1 then vs[0] else .tuple vs)):=by
 unfold results;have:(fun x:ResultVar=>(match x with
  | .tmp t=>pure (tmps.getD t undef)
  | .cell a t=>do loadVar t (← asAddr (tmps.getD a undef)):Sem Value))=aAO tmps:=by
  funext x;cases x <;> rfl
 rw [← this];rfl
theorem EZ {s:AS}{w:World}{R:Nat→Prop}{ρ:Nm}{a:Act}(hr:Rel R ρ s.h w)(ha:b9 w R ρ s.r a):∀ {rs:List ResultVar} {l:List AV},BS C s rs=some l →
  ∃ us:List Value,(rs.mapM (aAO a.tmps)).run C.P w=.ok us w∧aK w R ρ l us
 | [],l,h=>by
  simp [BS] at h;subst h;exact⟨[],by simp,.nil⟩
 | .tmp t :: r,l,h=>by
  simp only [BS] at h
  split at h
  ·rename_i l' hl;injection h with h;subst h
   obtain⟨us,h1,h2⟩:=EZ hr ha hl;have hv:=xL ha (x:=.tmp t) rfl;refine⟨a.tmps.getD t undef :: us,?_,.cons hv h2⟩;rw [List.mapM_cons];simp only [aAO,aPJ,aXP,aQ7,h1]
  ·cases h
 | .cell x t :: r,l,h=>by
  simp only [BS] at h
  split at h
  ·rename_i v l' hv hl;injection h with h;subst h
   obtain⟨us,h1,h2⟩:=EZ hr ha hl;have hx:=xL ha (x:=.tmp x) rfl;obtain⟨u,h3,h4⟩:=OY hr hx hv;refine⟨u :: us,?_,.cons h4 h2⟩;rw [List.mapM_cons];have h5:(aAO a.tmps (.cell x t)).run C.P w=.ok u w:=by
    simp only [aAO];have e1:a.eval (.tmp x)=a.tmps.getD x undef:=rfl;rw [e1] at h3;revert h3;generalize a.tmps.getD x undef=p;intro h3;cases p with
    | pointer q=>
     cases q with
     | none=>simp [Instr.loadAt,Instr.sureAddr] at h3
     | some q=>simpa [Instr.loadAt,Instr.sureAddr,asAddr] using h3
    | _=>simp [Instr.loadAt,Instr.sureAddr] at h3
   simp only [aPJ,h5,aQ7,h1,aXP]
  ·cases h
end
def AV.a3S:AV→Int
 | .int _ n=>n
 | _=>0
def AV.aYc:AV→Bool
 | .bool b=>b
 | _=>false
def AV.a3T:AV→List UInt8
 | .str s=>s
 | _=>[]
def AV.a3U:AV→Nat
 | .gU _ b=>b
 | _=>0
def AV.aRk (t:Ty):AV→List t.El
 | .nF t' l=>if h:t'=t then h▸l else []
 | _=>[]
def Ty.iE:(t:Ty)→List AV→t.El
 | .unit,_=>()
 | .int _,cs=>(cs.headD .any).a3S
 | .bool,cs=>(cs.headD .any).aYc
 | .str,cs=>(cs.headD .any).a3T
 | .gU _,cs=>(cs.headD .any).a3U
 | .list t,cs=>(cs.headD .any).aRk t
 | .wrap a,cs=>a.iE cs
 | .pair a b,cs=>(a.iE (cs.take a.sz),b.iE (cs.drop a.sz))
def AV.isInt (k:IntKind):AV→Bool
 | .int k' _=>decide (k'=k)
 | _=>false
def AV.isBool:AV→Bool
 | .bool _=>true
 | _=>false
def AV.a1O:AV→Bool
 | .str _=>true
 | _=>false
def AV.a1P (k:FloatKind):AV→Bool
 | .gU k' _=>decide (k'=k)
 | _=>false
def AV.a1Q (t:Ty):AV→Bool
 | .nF t' _=>decide (t'=t)
 | .eY=>true
 | _=>false
def CZ (f:AV→Bool):List AV→Bool
 | [c]=>f c
 | _=>false
def Ty.O5:Ty→List AV→Bool
 | .unit,cs=>cs.isEmpty
 | .int k,cs=>CZ (AV.isInt k) cs
 | .bool,cs=>CZ AV.isBool cs
 | .str,cs=>CZ AV.a1O cs
 | .gU k,cs=>CZ (AV.a1P k) cs
 | .list t,cs=>CZ (AV.a1Q t) cs
 | .wrap a,cs=>a.O5 cs
 | .pair a b,cs=>a.O5 (cs.take a.sz)&&b.O5 (cs.drop a.sz)
def Ty.isAgg:Ty→Bool
 | .unit | .wrap _ | .pair _ _=>true
 | _=>false
def Ty.dec (t:Ty)(v:AV):t.El:=t.iE v.cells
def Ty.ck (t:Ty)(v:AV):Bool:=match v with
 | .agg cs=>t.isAgg&&t.O5 cs
 | v=>!t.isAgg&&t.O5 [v]
theorem gK {f:AV→Bool}{cs:List AV}(h:CZ f cs=true):∃ c,cs=[c]∧f c=true:=by
 unfold CZ at h
 split at h
 ·exact⟨_,rfl,h⟩
 ·cases h
theorem Ty.ND {t:Ty}(h:t.isAgg=true)(x:t.El):t.enc x=.agg (t.enc x).cells:=by
 cases t <;> simp [Ty.isAgg] at h <;> rfl
theorem Ty.NE {t:Ty}(h:t.isAgg=false)(x:t.El):(t.enc x).cells=[t.enc x]:=by
 cases t <;> simp [Ty.isAgg] at h <;> rfl
theorem Ty.fK:∀ (t:Ty) (x:t.El),(t.enc x).cells.length=t.sz
 | .unit,_=>rfl
 | .int _,_=>rfl
 | .bool,_=>rfl
 | .str,_=>rfl
 | .gU _,_=>rfl
 | .list _,_=>rfl
 | .wrap a,x=>a.fK x
 | .pair a b,x=>by
  show((a.enc x.1).cells++(b.enc x.2).cells).length=a.sz+b.sz;rw [aPk,a.fK,b.fK]
theorem Ty.at_len (t:Ty)(l:List t.El)(j:Nat):(t.at l j).cells.length=t.sz:=t.fK _
theorem Ty.mO:∀ (t:Ty) (x:t.El),(t.enc x).cells.all AV.one=true
 | .unit,_=>rfl
 | .int _,_=>rfl
 | .bool,_=>rfl
 | .str,_=>rfl
 | .gU _,_=>rfl
 | .list _,_=>rfl
 | .wrap a,x=>a.mO x
 | .pair a b,x=>by
  show((a.enc x.1).cells++(b.enc x.2).cells).all AV.one=true;rw [List.all_append,a.mO,b.mO];rfl
section
variable {w:World}{R:Nat→Prop}{ρ:Nm}
theorem Ty.okC:∀ (t:Ty) {cs:List AV} {us:List Value},t.O5 cs=true→aK w R ρ cs us→aK w R ρ (t.enc (t.iE cs)).cells us
 | .unit,cs,us,h,hv=>by
  have:cs=[]:=by simpa [Ty.O5] using h
  subst this;exact hv
 | .int k,cs,us,h,hv=>by
  obtain⟨c,rfl,hc⟩:=gK h;cases c <;> simp [AV.isInt] at hc;subst hc;exact hv
 | .bool,cs,us,h,hv=>by
  obtain⟨c,rfl,hc⟩:=gK h;cases c <;> simp [AV.isBool] at hc;exact hv
 | .str,cs,us,h,hv=>by
  obtain⟨c,rfl,hc⟩:=gK h;cases c <;> simp [AV.a1O] at hc;exact hv
 | .gU k,cs,us,h,hv=>by
  obtain⟨c,rfl,hc⟩:=gK h;cases c <;> simp [AV.a1P] at hc;subst hc;exact hv
 | .list t,cs,us,h,hv=>by
  obtain⟨c,rfl,hc⟩:=gK h;cases c <;> simp [AV.a1Q] at hc
  ·obtain⟨u,nG,rfl,h1,h2⟩:=hv.cons_inv;obtain rfl:=h2.bE;cases h1;exact .cons (.nF (.lH _ _ _ _)) .nil
  ·subst hc;simpa [Ty.iE,AV.aRk,Ty.enc,AV.cells] using hv
 | .wrap a,cs,us,h,hv=>a.okC h hv
 | .pair a b,cs,us,h,hv=>by
  simp only [Ty.O5,aKS] at h;have h1:=a.okC h.1 (hv.take a.sz);have h2:=b.okC h.2 (hv.drop a.sz);have:=h1.append h2
  rwa [a9u] at this
theorem Ty.ok (t:Ty){v:AV}{u:Value}(h:t.ck v=true)(hv:aI w R ρ v u):aI w R ρ (t.enc (t.dec v)) u:=by
 unfold Ty.ck at h
 split at h
 ·rename_i cs;simp only [aKS] at h;obtain⟨us,rfl,fE⟩:=hv.fU;rw [t.ND h.1];exact .xH (t.okC h.2 fE)
 ·rename_i hna;simp only [aKS,a1K] at h;have e:v.cells=[v]:=by cases v <;> first | rfl | (exact absurd rfl (hna _))
  have h1:=t.okC h.2 (aK.cons hv .nil);rw [t.NE h.1] at h1;obtain⟨u',nG,he,h2,_⟩:=h1.cons_inv;simp only [List.cons.injEq] at he;rw [he.1];unfold Ty.dec;rw [e];exact h2
end
def bN (v:AV):Prop:=∀ (w:World) (R:Nat→Prop) (ρ ρ':Nm) (u:Value),aI w R ρ v u→aI w R ρ' v u
theorem bN.nF {t:Ty}(h:∀ (x:t.El),∀ c∈(t.enc x).cells,bN c)(l:List t.El):bN (.nF t l):=by
 intro w R ρ ρ' u hv;cases hv with
 | nF hv=>
 refine .nF ?_;have key:∀ (n:Nat),aI w R ρ (.ro t.sz n (t.at l)) u→aI w R ρ' (.ro t.sz n (t.at l)) u:=by
  intro n hw;cases hw with
  | lH _ _ a cap=>exact .lH _ _ a cap
  | @ro _ _ _ b iQ cap v hR hl hz hc h5=>
   exact .ro v hR hl hz hc (fun j o c hj M0=>h _ c (aPl M0) _ _ _ _ _ (h5 j o c hj M0))
 exact key _ hv
theorem Ty.eV:∀ (t:Ty) (x:t.El),∀ c∈(t.enc x).cells,bN c
 | .unit,_,c,h=>by simp [Ty.enc,AV.cells] at h
 | .int k,x,c,h=>by
  have h:c=.int k x:=by simpa [Ty.enc,AV.cells] using h
  subst h;intro w R ρ ρ' u hv;cases hv;exact .int _ _
 | .bool,x,c,h=>by
  have h:c=.bool x:=by simpa [Ty.enc,AV.cells] using h
  subst h;intro w R ρ ρ' u hv;cases hv;exact .bool _
 | .str,x,c,h=>by
  have h:c=.str x:=by simpa [Ty.enc,AV.cells] using h
  subst h;intro w R ρ ρ' u hv;cases hv;exact .str _
 | .gU k,x,c,h=>by
  have h:c=.gU k x:=by simpa [Ty.enc,AV.cells] using h
  subst h;intro w R ρ ρ' u hv;cases hv;exact .gU _ _
 | .list t,x,c,h=>by
  have h:c=.nF t x:=by simpa [Ty.enc,AV.cells] using h
  subst h;exact bN.nF t.eV x
 | .wrap a,x,c,h=>a.eV x c h
 | .pair a b,x,c,h=>by
  rcases aLA.1 h with h | h
  ·exact a.eV x.1 c h
  ·exact b.eV x.2 c h
theorem bN.agg {cs:List AV}(h:∀ c∈cs,bN c):bN (.agg cs):=by
 intro w R ρ ρ' u hv;obtain⟨us,rfl,fE⟩:=hv.fU;exact .xH ⟨fE.1,fun k c u hc hu=>h c (aPl hc) _ _ _ _ _ (fE.2 k c u hc hu)⟩
theorem Ty.kS (t:Ty)(x:t.El):bN (t.enc x):=by
 cases h:t.isAgg with
 | true=>rw [t.ND h];exact .agg (t.eV x)
 | false=>
  refine t.eV x _ ?_;rw [t.NE h];simp
def Ty.flat (t:Ty)(l:List t.El):List AV:=l.flatMap fun x=>(t.enc x).cells
theorem Ty.aRm (t:Ty):t.flat []=[]:=rfl
theorem Ty.gL (t:Ty)(x:t.El)(l:List t.El):t.flat (x :: l)=(t.enc x).cells++t.flat l:=rfl
theorem Ty.qW (t:Ty)(l m:List t.El):t.flat (l++m)=t.flat l++t.flat m:=by simp [Ty.flat]
theorem Ty.cH (t:Ty)(l:List t.El):(t.flat l).length=l.length*t.sz:=by
 induction l with
 | nil=>simp [Ty.flat]
 | cons x l ih=>rw [Ty.gL,aPk,ih,t.fK,aQO,Nat.add_mul];omega
theorem Ty.aYd (t:Ty)(x:t.El)(l:List t.El):t.at (x :: l) 0=t.enc x:=rfl
theorem Ty.aYe (t:Ty)(x:t.El)(l:List t.El)(j:Nat):t.at (x :: l) (j+1)=t.at l j:=rfl
theorem Ty.aED (t:Ty):∀ (l:List t.El) (j:Nat),j<l.length→t.flat l=t.flat (l.take j)++(t.at l j).cells++t.flat (l.drop (j+1))
 | [],j,h=>by simp at h
 | x :: l,0,_=>by simp [Ty.gL,Ty.aYd,Ty.aRm]
 | x :: l,j+1,h=>by
  have:=t.aED l j (by simpa using h);rw [List.take_succ_cons,t.gL,t.gL,t.aYe,List.drop_succ_cons];rw [this];simp [aQ4]
theorem Ty.iV (t:Ty)(l:List t.El){j o:Nat}(hj:j<l.length)(ho:o<t.sz):(t.flat l)[j*t.sz+o]?=(t.at l j).cells[o]?:=by
 have hl:(t.flat (l.take j)).length=j*t.sz:=by rw [t.cH,aP6,Nat.min_eq_left (by omega)]
 rw [t.aED l j hj,aQ4,a1N (by omega),aZ8 (by rw [t.at_len];omega),hl];congr 1;omega
section
variable {w:World}{R:Nat→Prop}{ρ:Nm}{h:AH}
theorem iG {b:Nat}{N:BN}{bt:TypeId}{t:Ty}{l:List t.El}(hb:dY w R ρ b N (.row bt t l))(hg:N.gh=false):dY w R ρ b N (.cells bt (t.flat l)):=by
 obtain⟨h1,h2⟩:=hb;obtain⟨arr,h3,h4,h5,h6⟩:=h2 hg;have hal:arr.toList.length=N.n:=by simpa using h4
 refine⟨arr,h3,h4,by rw [t.cH];exact h5,by rw [aP6,t.cH];omega,fun k c u hc hu=>?_⟩;have hk:k<l.length*t.sz:=by rw [← t.cH];exact(aK2.1 hc).1
 have hs:0<t.sz:=Nat.pos_of_ne_zero (fun e=>by rw [e] at hk;simp at hk);have hj:k / t.sz<l.length:=Nat.div_lt_of_lt_mul (by rw [Nat.mul_comm];exact hk);have ho:k % t.sz<t.sz:=Nat.mod_lt _ hs;have hke:k=k / t.sz*t.sz+k % t.sz:=by rw [Nat.mul_comm];exact(Nat.div_add_mod k t.sz).symm
 rw [hke,t.iV l hj ho] at hc;obtain⟨u',rW,hv⟩:=h6 _ _ _ hj hc;rw [← hke] at rW;rw [a0X] at hu
 split at hu
 ·have:u'=u:=by
   have e:arr.toList[k]?=some u':=by simpa using rW
   rw [e] at hu;simpa using hu
  exact this▸hv
 ·cases hu
theorem j8 {b:Nat}{N:BN}{bt:TypeId}{t:Ty}{l:List t.El}(hb:dY w R ρ b N (.cells bt (t.flat l)))(hn:N.len=l.length):dY w R ρ b N (.row bt t l):=by
 obtain⟨arr,h1,h2,h3,h4⟩:=hb;have hal:arr.toList.length=N.n:=by simpa using h2
 rw [t.cH] at h3;refine⟨hn,fun _=>⟨arr,h1,h2,h3,fun j o c hj hc=>?_⟩⟩;have ho:o<t.sz:=by rw [← t.at_len l j];exact(aK2.1 hc).1
 rw [← t.iV l hj ho] at hc;obtain⟨u,hu,hv⟩:=h4.get hc;rw [a0X] at hu
 split at hu
 ·exact⟨u,by simpa using hu,hv⟩
 ·cases hu
theorem dY.O6 {b:Nat}{N:BN}{bt:TypeId}{cs ds:List AV}(hb:dY w R ρ b N (.cells bt cs))(hl:ds.length=cs.length)(hv:∀ us,aK w R ρ cs us→aK w R ρ ds us):dY w R ρ b N (.cells bt ds):=by
 obtain⟨arr,h1,h2,h3,h4⟩:=hb;exact⟨arr,h1,h2,by rw [hl];exact h3,by rw [hl];exact hv _ h4⟩
theorem jV (hr:Rel R ρ h w){i:Nat}{rJ blk:cQ}{b:Nat}{N:BN}(hi:h[i]?=some (some rJ))(hn:ρ i=some (b,N))(hg:N.gh=false)(hb:dY w R ρ b N blk) :
  Rel R ρ (h.set i (some blk)) w∧fB R ρ h w R ρ (h.set i (some blk)) w:=
 y8 hr hi hn blk rfl rfl rfl rfl (fun _ _=>rfl) hb hg (aKQ _)
theorem C4 (hr:Rel R ρ h w){i:Nat}{rJ blk:cQ}{b:Nat}{N N':BN}(hi:h[i]?=some (some rJ))(hn:ρ i=some (b,N))(hg:N.gh=false)(hg':N'.gh=false)(hb:dY w R ρ b N' blk) :
  Rel R (ρ.W5 h.length (b,N')) (h.set i none++[some blk]) w∧fB R ρ h w R (ρ.W5 h.length (b,N')) (h.set i none++[some blk]) w:=by
 obtain⟨b',N2,hn',hb0,gG⟩:=hr.live _ _ hi;rw [hn] at hn';simp only [aJp,aKN] at hn';obtain⟨rfl,rfl⟩:=hn';exact O3 hr hi hn blk rfl rfl rfl rfl (fun _ _=>rfl) rJ hb0 N' hb hg hg' (aKQ _)
theorem zA (hr:Rel R ρ h w)(bt:TypeId)(t:Ty) :
  Rel R (ρ.W5 h.length (0,⟨0,0,true⟩)) (h++[some (.row bt t [])]) w∧fB R ρ h w R (ρ.W5 h.length (0,⟨0,0,true⟩)) (h++[some (.row bt t [])]) w ∧
   aI w R (ρ.W5 h.length (0,⟨0,0,true⟩)) (.bL t h.length) (.slice none 0 0):=by
 have hle:=Nm.CS (bn:=(0,⟨0,0,true⟩)) (hr.dom h.length (aKQ _));have hsplit:∀ (i:Nat) (dN:cQ),(h++[some (cQ.row bt t [])])[i]?=some (some dN)→(i<h.length∧h[i]?=some (some dN))∨(i=h.length∧dN=.row bt t []):=by
  intro i dN hi;rw [List.getElem?_append] at hi
  split at hi
  ·rename_i hlt;exact .inl ⟨hlt,hi⟩
  ·rename_i hge;have:i-h.length=0:=by
    have:=(aK2.1 hi).1;simp at this;omega
   rw [this] at hi;simp at hi;exact .inr ⟨by omega,hi.symm⟩
 have hgl:∀ (i:Nat) (b:Nat) (N:BN),i=h.length→(ρ.W5 h.length (0,⟨0,0,true⟩)) i=some (b,N)→N.gh=true:=by
  intro i b N he hn;subst he;rw [Nm.cD] at hn;simp only [aJp,aKN] at hn;rw [← hn.2]
 refine⟨⟨fun i dN hi=>?_,fun i j bi bj b Ni Nj hi hj hni rI W6 LL=>?_,fun i hi=>?_,hr.ro⟩,⟨rfl,rfl,rfl,aKQ _,hle,fun _ h=>h,fun _ _ _=>rfl,fun b hl=>?_,fun _ h=>.inl h,by simp,fun x hx hn=>by rw [Nm.fP (by omega)];exact hn,(by first | exact aKQ _ | exact a9p _)⟩,.iY (Nm.cD _ _ _) rfl⟩
 ·rcases hsplit i dN hi with⟨hlt,hi⟩ | ⟨rfl,rfl⟩
  ·obtain⟨b,N',h1,h2,h3⟩:=hr.live i dN hi;exact⟨b,N',hle _ _ h1,h2.mono h3 (fun _=>rfl) (fun _ _=>rfl) (fun _ h=>h) hle,h3⟩
  ·exact⟨0,_,Nm.cD _ _ _,⟨rfl,fun hg=>by cases hg⟩,.inr ⟨rfl,_,_,rfl⟩⟩
 ·rcases hsplit i bi hi with⟨hlt,hi⟩ | ⟨he,_⟩
  ·rcases hsplit j bj hj with⟨hlt',hj⟩ | ⟨he,_⟩
   ·rw [Nm.fP (by omega)] at hni rI;exact hr.inj i j bi bj b Ni Nj hi hj hni rI W6 LL
   ·rw [hgl j b Nj he rI] at LL;cases LL
  ·rw [hgl i b Ni he hni] at W6;cases W6
 ·rw [aPk,a9D] at hi;rw [Nm.fP (by omega)];exact hr.dom i (by omega)
 ·obtain⟨i,dN,N',hi,hn,hg⟩:=hl;rcases hsplit i dN hi with⟨hlt,hi⟩ | ⟨he,_⟩
  ·rw [Nm.fP (by omega)] at hn;exact .inl ⟨i,dN,N',hi,hn,hg⟩
  ·rw [hgl i b N' he hn] at hg;cases hg
theorem pE (hr:Rel R ρ h w){i:Nat}{blk:cQ}{b:Nat}{N:BN}(hi:h[i]?=some (some blk))(hn:ρ i=some (b,N))(hg:N.gh=false) :
  Rel (fun k=>R k∨k=b) ρ (h.set i none) w∧fB R ρ h w (fun k=>R k∨k=b) ρ (h.set i none) w:=by
 have hlb:Lv ρ h b:=⟨i,blk,N,hi,hn,hg⟩;have bE1:=hr.iS hlb;have hsub:∀ (j:Nat) (dN:cQ),(h.set i none)[j]?=some (some dN)→j≠i∧h[j]?=some (some dN):=by
  intro j dN hj;rw [aXL] at hj
  split at hj
  ·split at hj <;> simp at hj
  ·rename_i hne;exact⟨fun e=>hne e.symm,hj⟩
 refine⟨⟨fun j dN hj=>?_,fun j k bj bk c Nj Nk hj hk=>hr.inj j k bj bk c Nj Nk (hsub _ _ hj).2 (hsub _ _ hk).2,fun j hj=>hr.dom j (by simpa using hj),fun c hc=>?_⟩,
  ⟨rfl,rfl,rfl,aKQ _,Nm.le_refl _,fun _ h=>.inl h,fun _ _ _=>rfl,fun c hl=>?_,fun c hc=>?_,by simp,fun _ _ h=>h,(by first | exact aKQ _ | exact a9p _)⟩⟩
 ·obtain⟨hne,hj⟩:=hsub j dN hj;obtain⟨c,N',h1,h2,h3⟩:=hr.live j dN hj;refine⟨c,N',h1,h2.mono h3 (fun _=>rfl) (fun _ _=>rfl) (fun _ h=>.inl h) (Nm.le_refl _),?_⟩;rcases h3 with⟨h4,h5⟩ | h4
  ·refine .inl ⟨h4,?_⟩;rintro (h6 | rfl)
   ·exact h5 h6
   ·exact hne (hr.inj j i dN blk c N' N hj hi h1 hn h4 hg)
  ·exact .inr h4
 ·rcases hc with hc | rfl
  ·exact hr.ro c hc
  ·exact bE1
 ·obtain⟨j,dN,N',hj,hn',hg'⟩:=hl;exact .inl ⟨j,dN,N',(hsub j dN hj).2,hn',hg'⟩
 ·rcases hc with hc | rfl
  ·exact .inl hc
  ·exact .inr (.inl hlb)
theorem nR {b:Nat}{N:BN}{bt:TypeId}{t:Ty}{l:List t.El}{cap:Nat}(hb:dY w R ρ b N (.cells bt (t.flat l)))(hR:R b)(hl:l.length≤cap):aI w R ρ (.nF t l) (.slice (some ⟨b,0,none⟩) l.length cap):=by
 obtain⟨arr,h1,h2,h3,h4⟩:=hb;refine .nF (.ro (fun j o=>arr.getD (j*t.sz+o) (.tuple #[])) hR hl (fun j _=>t.at_len l j) ?_ ?_);all_goals
  intro j o c hj hc;have ho:o<t.sz:=by rw [← t.at_len l j];exact(aK2.1 hc).1
  rw [← t.iV l hj ho] at hc;obtain⟨u,hu,hv⟩:=h4.get hc;rw [a0X] at hu
  split at hu
  ·have rW:arr[j*t.sz+o]?=some u:=by simpa using hu
   first
    | (rw [aZ3];rw [iR h1 _ _ rW];simp [rW])
    | (simp only [aXT,rW,a0f];exact hv)
  ·cases hu
end
def Ty.chunks (t:Ty):Nat→List AV→Option (List t.El)
 | 0,cs=>if cs.isEmpty then some [] else none
 | n+1,cs=>if t.O5 (cs.take t.sz) then(match t.chunks n (cs.drop t.sz) with
  | some l=>some (t.iE (cs.take t.sz) :: l)
  | none=>none) else none
def aEE (t:Ty)(h:AH)(v:AV):Option (List t.El×AH):=
 match v with
 | .nF t' l=>if e:t'=t then some (e▸l,h) else none
 | .eY=>some ([],h)
 | .bL _ i=>match h[i]? with
  | some (some (.row _ ty l))=>if e:ty=t then some (e▸l,h.set i none) else none
  | _=>none
 | .own sz i off len=>match h[i]? with
  | some (some (.cells _ cs))=>if sz=t.sz∧off=0 then(match t.chunks len cs with
   | some l=>some (l,h.set i none)
   | none=>none) else none
  | some (some (.row _ ty l))=>if e:ty=t then(if sz=t.sz∧off=0∧len≤l.length∧l.isEmpty=false then some (e▸l.take len,h.set i none) else none) else none
  | _=>none
 | _=>none
def Ty.xR:(t:Ty)→AH→List AV→Option (t.El×AH)
 | .unit,h,cs=>if Ty.unit.O5 cs then some (Ty.unit.iE cs,h) else none
 | .int k,h,cs=>if(Ty.int k).O5 cs then some ((Ty.int k).iE cs,h) else none
 | .bool,h,cs=>if Ty.bool.O5 cs then some (Ty.bool.iE cs,h) else none
 | .str,h,cs=>if Ty.str.O5 cs then some (Ty.str.iE cs,h) else none
 | .gU k,h,cs=>if(Ty.gU k).O5 cs then some ((Ty.gU k).iE cs,h) else none
 | .list t,h,cs=>match cs with
  | [c]=>aEE t h c
  | _=>none
 | .wrap a,h,cs=>a.xR h cs
 | .pair a b,h,cs=>match a.xR h (cs.take a.sz) with
  | some (x,h1)=>match b.xR h1 (cs.drop a.sz) with
   | some (y,h2)=>some ((x,y),h2)
   | none=>none
  | none=>none
def Ty.kQ (t:Ty)(h:AH)(v:AV):Option (t.El×AH):=match v with
 | .agg cs=>if t.isAgg then t.xR h cs else none
 | v=>if t.isAgg then none else t.xR h [v]
theorem xS {f:AV→Bool}{cs:List AV}(h:CZ f cs=true):cs.length=1:=by
 obtain⟨c,rfl,_⟩:=gK h;rfl
theorem Ty.zC:∀ (t:Ty) {cs:List AV},t.O5 cs=true→cs.length=t.sz
 | .unit,cs,h=>by
  have:cs=[]:=by simpa [Ty.O5] using h
  subst this;rfl
 | .int k,cs,h=>xS h
 | .bool,cs,h=>xS h
 | .str,cs,h=>xS h
 | .gU k,cs,h=>xS h
 | .list t,cs,h=>xS h
 | .wrap a,cs,h=>a.zC h
 | .pair a b,cs,h=>by
  simp only [Ty.O5,aKS] at h;have h1:=a.zC h.1;have h2:=b.zC h.2;rw [aP6] at h1;rw [a9s] at h2;show cs.length=a.sz+b.sz;omega
section
variable {w:World}{R:Nat→Prop}{ρ:Nm}{h:AH}
theorem Ty.IG (t:Ty):∀ {n:Nat} {cs:List AV} {l:List t.El},t.chunks n cs=some l→l.length=n∧(t.flat l).length=cs.length∧∀ (w:World) (R:Nat→Prop) (ρ:Nm) (us:List Value),aK w R ρ cs us→aK w R ρ (t.flat l) us
 | 0,cs,l,h=>by
  simp only [Ty.chunks] at h
  split at h
  ·rename_i hc;injection h with h;subst h
   have:cs=[]:=by simpa using hc
   subst this;exact⟨rfl,rfl,fun _ _ _ _ h=>h⟩
  ·cases h
 | n+1,cs,l,h=>by
  simp only [Ty.chunks] at h
  split at h
  ·rename_i hc
   split at h
   ·rename_i l' hl;injection h with h;subst h
    obtain⟨h1,h2,h3⟩:=t.IG hl;have hct:(cs.take t.sz).length=t.sz:=by
     exact t.zC hc
    refine⟨by simp [h1],?_,fun w R ρ us hv=>?_⟩
    ·rw [t.gL,aPk,t.fK,h2,a9s];rw [aP6] at hct;omega
    ·rw [t.gL];have h4:=t.okC hc (hv.take t.sz);have h5:=h3 w R ρ _ (hv.drop t.sz);have:=h4.append h5
     rwa [a9u] at this
   ·cases h
  ·cases h
theorem _root_.Go.DI.Ty.II (t:Ty):∀ (l:List t.El) (n:Nat),(t.flat l).take (n*t.sz)=t.flat (l.take n)
 | [],n=>by simp [Ty.flat]
 | x :: l,0=>by simp [Ty.flat]
 | x :: l,n+1=>by
  rw [Ty.gL,List.take_succ_cons,Ty.gL,List.take_append,t.fK,List.take_of_length_le (by rw [t.fK,Nat.add_mul];omega),show(n+1)*t.sz-t.sz=n*t.sz by rw [Nat.add_mul];omega,t.II l n]
theorem _root_.Go.DI.dY.O7 {b:Nat}{N:BN}{bt:TypeId}{cs:List AV}(hb:dY w R ρ b N (.cells bt cs))(n:Nat):dY w R ρ b N (.cells bt (cs.take n)):=by
 obtain⟨arr,h1,h2,h3,h4⟩:=hb;refine⟨arr,h1,h2,by rw [aP6];omega,?_⟩;have:=h4.take n;rw [List.take_take] at this;rw [aP6];exact this
theorem aK8 (hr:Rel R ρ h w){t:Ty}{v:AV}{l:List t.El}{h':AH}{u:Value}(hf:aEE t h v=some (l,h'))(hv:aI w R ρ v u) :
  ∃ R',Rel R' ρ h' w∧fB R ρ h w R' ρ h' w∧aI w R' ρ (.nF t l) u:=by
 unfold aEE at hf
 split at hf
 ·rename_i t' l'
  split at hf
  ·rename_i e;subst e;simp only [aJp,aKN] at hf;obtain⟨rfl,rfl⟩:=hf;exact⟨R,hr,fB.refl _ _ _ _,hv⟩
  ·cases hf
 ·simp only [aJp,aKN] at hf;obtain⟨rfl,rfl⟩:=hf;cases hv;exact⟨R,hr,fB.refl _ _ _ _,.nF (.lH _ _ _ _)⟩
 ·rename_i t' i
  split at hf
  ·rename_i bt ty l' hi
   split at hf
   ·rename_i e;subst e;simp only [aJp,aKN] at hf;obtain⟨rfl,rfl⟩:=hf;obtain⟨b,N,hn,hb,gG⟩:=hr.live _ _ hi;cases hv with
    | @bL _ _ b' N' cap hn' hg hl hc=>
     rw [hn] at hn';simp only [aJp,aKN] at hn';obtain⟨rfl,rfl⟩:=hn';obtain⟨r1,f1⟩:=pE hr hi hn hg;have hlen:=hb.1;have hb2:=(iG hb hg).mono (R':=fun k=>R k∨k=b) (w':=w) (.inl ⟨hg,gG.aEm hg⟩) (fun _=>rfl) (fun _ _=>rfl) (fun _ h=>.inl h) (Nm.le_refl _);refine⟨_,r1,f1,?_⟩;rw [hlen];exact nR hb2 (.inr rfl) (by omega)
    | @iY _ _ b' N' hn' hg=>
     rw [hn] at hn';simp only [aJp,aKN] at hn';obtain⟨rfl,rfl⟩:=hn';obtain⟨r1,f1⟩:=xP hr i;refine⟨R,r1,f1,?_⟩;rcases gG with⟨h1,_⟩ | ⟨_,t2,ty2,h2⟩
     ·rw [hg] at h1;cases h1
     ·injection h2 with h3 h4 h5
      subst h4;have h5:=eq_of_heq h5;subst h5;exact .nF (.lH _ _ _ _)
   ·cases hf
  ·cases hf
 ·rename_i sz i off len
  split at hf
  ·rename_i bt cs hi
   split at hf
   ·rename_i hc;obtain⟨rfl,rfl⟩:=hc
    split at hf
    ·rename_i l' hl;simp only [aJp,aKN] at hf;obtain⟨rfl,rfl⟩:=hf;obtain⟨b,N,hn,hb,gG⟩:=hr.live _ _ hi;obtain⟨hg,bJ⟩:=gG.cells;obtain⟨k1,k2,k3⟩:=t.IG hl;cases hv with
     | @own _ _ _ _ b' N' cap hn' hle hcN=>
     rw [hn] at hn';simp only [aJp,aKN] at hn';obtain⟨rfl,rfl⟩:=hn';obtain⟨r1,f1⟩:=pE hr hi hn hg;have hb2:=(hb.O6 k2 (fun us h=>k3 _ _ _ us h)).mono (R':=fun k=>R k∨k=b) (w':=w) (.inl ⟨hg,bJ⟩) (fun _=>rfl) (fun _ _=>rfl) (fun _ h=>.inl h) (Nm.le_refl _);refine⟨_,r1,f1,?_⟩;subst k1;exact nR hb2 (.inr rfl) hle
    ·cases hf
   ·cases hf
  ·rename_i bt ty l' hi
   split at hf
   ·rename_i e;subst e
    split at hf
    ·rename_i hc;obtain⟨rfl,rfl,hlen,hne⟩:=hc;simp only [aJp,aKN] at hf;obtain⟨rfl,rfl⟩:=hf;obtain⟨b,N,hn,hb,gG⟩:=hr.live _ _ hi;have hg:N.gh=false:=by
      rcases gG with⟨h1,_⟩ | ⟨_,t2,ty2,h2⟩
      ·exact h1
      ·injection h2 with h3 h4 h5
       subst h4;have h5:=eq_of_heq h5;rw [h5] at hne;cases hne
     cases hv with
     | @own _ _ _ _ b' N' cap hn' hle hcN=>
     rw [hn] at hn';simp only [aJp,aKN] at hn';obtain⟨rfl,rfl⟩:=hn';obtain⟨r1,f1⟩:=pE hr hi hn hg;have hb2:=((iG hb hg).O7 (len*ty.sz)).mono (R':=fun k=>R k∨k=b) (w':=w) (.inl ⟨hg,gG.aEm hg⟩) (fun _=>rfl) (fun _ _=>rfl) (fun _ h=>.inl h) (Nm.le_refl _);rw [ty.II] at hb2;refine⟨_,r1,f1,?_⟩;have hll:(l'.take len).length=len:=by rw [aP6];omega
     have:=nR (cap:=cap) hb2 (.inr rfl) (by rw [hll];exact hle);rw [hll] at this;exact this
    ·cases hf
   ·cases hf
  ·cases hf
 ·cases hf
theorem Ty.zD:∀ (t:Ty) {R:Nat→Prop} {h:AH} {cs:List AV} {us:List Value} {x:t.El} {h':AH},t.xR h cs=some (x,h')→Rel R ρ h w→aK w R ρ cs us →
  ∃ R',Rel R' ρ h' w∧fB R ρ h w R' ρ h' w∧aK w R' ρ (t.enc x).cells us:=by
 have base:∀ (t:Ty) {R:Nat→Prop} {h:AH} {cs:List AV} {us:List Value} {x:t.El} {h':AH},(if t.O5 cs then some (t.iE cs,h) else none)=some (x,h')→Rel R ρ h w→aK w R ρ cs us →
   ∃ R',Rel R' ρ h' w∧fB R ρ h w R' ρ h' w∧aK w R' ρ (t.enc x).cells us:=by
  intro t R h cs us x h' hf hr hv
  split at hf
  ·rename_i hc;simp only [aJp,aKN] at hf;obtain⟨rfl,rfl⟩:=hf;exact⟨R,hr,fB.refl _ _ _ _,t.okC hc hv⟩
  ·cases hf
 intro t
 induction t with
 | unit=>intro R h cs us x h' hf hr hv;exact base .unit hf hr hv
 | int k=>intro R h cs us x h' hf hr hv;exact base (.int k) hf hr hv
 | bool=>intro R h cs us x h' hf hr hv;exact base .bool hf hr hv
 | str=>intro R h cs us x h' hf hr hv;exact base .str hf hr hv
 | gU k=>intro R h cs us x h' hf hr hv;exact base (.gU k) hf hr hv
 | list t ih=>
  intro R h cs us x h' hf hr hv;simp only [Ty.xR] at hf
  split at hf
  ·rename_i c;obtain⟨u,nG,rfl,h1,h2⟩:=hv.cons_inv;obtain rfl:=h2.bE;obtain⟨R',r1,f1,v1⟩:=aK8 hr hf h1;exact⟨R',r1,f1,.cons v1 .nil⟩
  ·cases hf
 | wrap a ih=>intro R h cs us x h' hf hr hv;exact ih hf hr hv
 | pair a b iha ihb=>
  intro R h cs us x h' hf hr hv;simp only [Ty.xR] at hf
  split at hf
  ·rename_i x1 h1 he1
   split at hf
   ·rename_i y1 h2 H8;simp only [aJp,aKN] at hf;obtain⟨rfl,rfl⟩:=hf;obtain⟨R1,r1,f1,v1⟩:=iha he1 hr (hv.take a.sz);obtain⟨R2,r2,f2,v2⟩:=ihb H8 r1 ((hv.drop a.sz).EM f1 hr);refine⟨R2,r2,f1.trans f2,?_⟩;have:=(v1.EM f2 r1).append v2
    rwa [a9u] at this
   ·cases hf
  ·cases hf
theorem Ty.C5 (t:Ty)(hr:Rel R ρ h w){v:AV}{u:Value}{x:t.El}{h':AH}(hf:t.kQ h v=some (x,h'))(hv:aI w R ρ v u) :
  ∃ R',Rel R' ρ h' w∧fB R ρ h w R' ρ h' w∧aI w R' ρ (t.enc x) u:=by
 unfold Ty.kQ at hf
 split at hf
 ·rename_i cs
  split at hf
  ·rename_i ha;obtain⟨us,rfl,fE⟩:=hv.fU;obtain⟨R',r1,f1,v1⟩:=t.zD hf hr fE;refine⟨R',r1,f1,?_⟩;rw [t.ND ha];exact .xH v1
  ·cases hf
 ·split at hf
  ·cases hf
  ·rename_i ha;obtain⟨R',r1,f1,v1⟩:=t.zD hf hr (aK.cons hv .nil);refine⟨R',r1,f1,?_⟩;rw [t.NE (by simpa using ha)] at v1;obtain⟨u',nG,he,h2,_⟩:=v1.cons_inv;simp only [List.cons.injEq] at he;rw [he.1];exact h2
def Ty.B0:Ty→Bool
 | .list _=>false
 | .wrap a=>a.B0
 | .pair a b=>a.B0&&b.B0
 | _=>true
theorem Ty.IJ:∀ (t:Ty),t.B0=true→∀ (x:t.El) (w:World) (R:Nat→Prop) (ρ:Nm) (w':World) (R':Nat→Prop) (ρ':Nm),∀ c∈(t.enc x).cells,∀ u,aI w R ρ c u→aI w' R' ρ' c u
 | .unit,_,_,_,_,_,_,_,_,c,h,_,_=>by simp [Ty.enc,AV.cells] at h
 | .int k,_,x,w,R,ρ,w',R',ρ',c,h,u,hv=>by
  have h:c=.int k x:=by simpa [Ty.enc,AV.cells] using h
  subst h;cases hv;exact .int _ _
 | .bool,_,x,w,R,ρ,w',R',ρ',c,h,u,hv=>by
  have h:c=.bool x:=by simpa [Ty.enc,AV.cells] using h
  subst h;cases hv;exact .bool _
 | .str,_,x,w,R,ρ,w',R',ρ',c,h,u,hv=>by
  have h:c=.str x:=by simpa [Ty.enc,AV.cells] using h
  subst h;cases hv;exact .str _
 | .gU k,_,x,w,R,ρ,w',R',ρ',c,h,u,hv=>by
  have h:c=.gU k x:=by simpa [Ty.enc,AV.cells] using h
  subst h;cases hv;exact .gU _ _
 | .list _,h,_,_,_,_,_,_,_,_,_,_,_=>by simp [Ty.B0] at h
 | .wrap a,h,x,w,R,ρ,w',R',ρ',c,hc,u,hv=>a.IJ h x w R ρ w' R' ρ' c hc u hv
 | .pair a b,h,x,w,R,ρ,w',R',ρ',c,hc,u,hv=>by
  simp only [Ty.B0,aKS] at h;rcases aLA.1 hc with hc | hc
  ·exact a.IJ h.1 x.1 w R ρ w' R' ρ' c hc u hv
  ·exact b.IJ h.2 x.2 w R ρ w' R' ρ' c hc u hv
theorem Ty.aRn (t:Ty)(h:t.B0=true)(x:t.El){w':World}{R':Nat→Prop}{ρ':Nm}{u:Value}(hv:aI w R ρ (t.enc x) u):aI w' R' ρ' (t.enc x) u:=by
 cases ha:t.isAgg with
 | true=>
  rw [t.ND ha] at hv ⊢;obtain⟨us,rfl,fE⟩:=hv.fU;exact .xH ⟨fE.1,fun k c u hc hu=>t.IJ h x _ _ _ _ _ _ c (aPl hc) u (fE.2 k c u hc hu)⟩
 | false=>
  refine t.IJ h x _ _ _ _ _ _ _ ?_ u hv;rw [t.NE ha];simp
end
@[reducible] def aS:List Ty→Type
 | []=>Unit
 | t :: ts=>t.El×aS ts
def i4:(ts:List Ty)→aS ts→List AV
 | [],_=>[]
 | t :: ts,x=>t.enc x.1 :: i4 ts x.2
def aAP:(ts:List Ty)→AH→List AV→Option (aS ts×AH)
 | [],h,cs=>if cs.isEmpty then some ((),h) else none
 | t :: ts,h,cs=>match cs with
  | c :: r=>match t.kQ h c with
   | some (x,h1)=>match aAP ts h1 r with
    | some (y,h2)=>some ((x,y),h2)
    | none=>none
   | none=>none
  | []=>none
def XA:(ts:List Ty)→aS ts→List AV
 | [],_=>[]
 | t :: ts,x=>.jL t.sz 1 (fun _=>t.enc x.1) 0 0 :: XA ts x.2
def aYf (t:Ty)(h:AH)(v:AV):Option (t.El×AH):=match v with
 | .ptr i off=>match h[i]? with
  | some (some (.cells _ cs))=>if off=0 then(match t.xR (h.set i none) cs with
   | some r=>some r
   | none=>none) else none
  | _=>none
 | .jL sz n f j o=>if o=0∧t.O5 (f j).cells then some (t.iE (f j).cells,h) else none
 | _=>none
def YA:(ts:List Ty)→AH→List AV→Option (aS ts×AH)
 | [],h,cs=>if cs.isEmpty then some ((),h) else none
 | t :: ts,h,cs=>match cs with
  | c :: r=>match aYf t h c with
   | some (x,h1)=>match YA ts h1 r with
    | some (y,h2)=>some ((x,y),h2)
    | none=>none
   | none=>none
  | []=>none
inductive O8 where
 | ty (t:Ty)
 | vE (f:FuncId) (eA:List Ty)
 | jL (t:Ty)
 | nil
def O8.El:O8→Type
 | .ty t=>t.El
 | .vE _ ts=>aS ts
 | .jL t=>t.El
 | .nil=>Unit
def O8.enc:(p:O8)→p.El→AV
 | .ty t,x=>t.enc x
 | .vE f ts,x=>.func f [] (XA ts x)
 | .jL t,x=>.jL t.sz 1 (fun _=>t.enc x) 0 0
 | .nil,_=>.eY
def O8.kQ:(p:O8)→AH→AV→Option (p.El×AH)
 | .ty t,h,v=>t.kQ h v
 | .vE f ts,h,v=>match v with
  | .func f' first eA=>if f'=f∧first.isEmpty then YA ts h eA else none
  | _=>none
 | .jL t,h,v=>aYf t h v
 | .nil,h,v=>match v with
  | .eY=>some ((),h)
  | _=>none
@[reducible] def Ps:List O8→Type
 | []=>Unit
 | p :: ps=>p.El×Ps ps
def bQ:(ps:List O8)→Ps ps→List AV
 | [],_=>[]
 | p :: ps,x=>p.enc x.1 :: bQ ps x.2
def qX:(ps:List O8)→AH→List AV→Option (Ps ps×AH)
 | [],h,cs=>if cs.isEmpty then some ((),h) else none
 | p :: ps,h,cs=>match cs with
  | c :: r=>match p.kQ h c with
   | some (x,h1)=>match qX ps h1 r with
    | some (y,h2)=>some ((x,y),h2)
    | none=>none
   | none=>none
  | []=>none
section
variable {w:World}{R:Nat→Prop}{ρ:Nm}{h:AH}
theorem aAQ:∀ (ts:List Ty) {R:Nat→Prop} {h:AH} {cs:List AV} {us:List Value} {x:aS ts} {h':AH},aAP ts h cs=some (x,h')→Rel R ρ h w→aK w R ρ cs us →
  ∃ R',Rel R' ρ h' w∧fB R ρ h w R' ρ h' w∧aK w R' ρ (i4 ts x) us
 | [],R,h,cs,us,x,h',hf,hr,hv=>by
  simp only [aAP] at hf
  split at hf
  ·rename_i hc;injection hf with hf
   have h2:=aKR Prod.snd hf;simp only at h2;subst h2;have:cs=[]:=by simpa using hc
   subst this;exact⟨R,hr,fB.refl _ _ _ _,hv⟩
  ·cases hf
 | t :: ts,R,h,cs,us,x,h',hf,hr,hv=>by
  simp only [aAP] at hf
  split at hf
  ·rename_i c r
   split at hf
   ·rename_i x1 h1 he1
    split at hf
    ·rename_i y1 h2 H8;injection hf with hf
     have e1:=aKR Prod.fst hf;have e2:=aKR Prod.snd hf;simp only at e1 e2;subst e1;subst e2;obtain⟨u,nG,rfl,v1,v2⟩:=hv.cons_inv;obtain⟨R1,r1,f1,w1⟩:=t.C5 hr he1 v1;obtain⟨R2,r2,f2,w2⟩:=aAQ ts H8 r1 (v2.EM f1 hr);exact⟨R2,r2,f1.trans f2,.cons (w1.EM f2 r1) w2⟩
    ·cases hf
   ·cases hf
  ·cases hf
theorem aAR {b:Nat}{N:BN}{bt:TypeId}{t:Ty}{x:t.El}(hb:dY w R ρ b N (.cells bt (t.enc x).cells))(hR:R b):aI w R ρ (.jL t.sz 1 (fun _=>t.enc x) 0 0) (.pointer (some ⟨b,0,none⟩)):=by
 obtain⟨arr,h1,h2,h3,h4⟩:=hb;have key:∀ (j o:Nat) (c:AV),j<1→(t.enc x).cells[o]?=some c→∃ u,arr[o]?=some u∧aI w R ρ c u:=by
  intro j o c _ hc;obtain⟨u,hu,hv⟩:=h4.get hc;rw [a0X] at hu
  split at hu
  ·exact⟨u,by simpa using hu,hv⟩
  ·cases hu
 have:=aI.jL (w:=w) (R:=R) (ρ:=ρ) (sz:=t.sz) (n:=1) (f:=fun _=>t.enc x) (j:=0) (o:=0) (b:=b) (iQ:=0) (fun _ o=>arr.getD o (.tuple #[])) (by omega) hR (fun _ _=>t.fK x)
  (fun j o c hj hc=>by
   obtain⟨u,hu,hv⟩:=key j o c hj hc;obtain rfl:j=0:=by omega
   have e:(⟨b,0+(0*t.sz+o),none⟩:Addr)=⟨b,o,none⟩:=by simp
   rw [e,iR h1 _ _ hu];simp [hu])
  (fun j o c hj hc=>by
   obtain⟨u,hu,hv⟩:=key j o c hj hc;simp only [aXT,hu,a0f];exact hv)
 simpa using this
theorem aK9 (hr:Rel R ρ h w){t:Ty}{v:AV}{u:Value}{x:t.El}{h':AH}(hf:aYf t h v=some (x,h'))(hv:aI w R ρ v u) :
  ∃ R',Rel R' ρ h' w∧fB R ρ h w R' ρ h' w∧aI w R' ρ (.jL t.sz 1 (fun _=>t.enc x) 0 0) u:=by
 unfold aYf at hf
 split at hf
 ·rename_i i off
  split at hf
  ·rename_i bt cs hi
   split at hf
   ·rename_i ho;subst ho
    split at hf
    ·rename_i r he;injection hf with hf
     subst hf;obtain⟨b,N,hn,hb,gG⟩:=hr.live _ _ hi;obtain⟨hg,bJ⟩:=gG.cells;cases hv with
     | @ptr _ _ b' N' hn'=>
     rw [hn] at hn';simp only [aJp,aKN] at hn';obtain⟨rfl,rfl⟩:=hn';obtain⟨r1,f1⟩:=pE hr hi hn hg;obtain⟨arr,h1,h2,h3,h4⟩:=hb;have hal:arr.toList.length=N.n:=by simpa using h2
     obtain⟨R2,r2,f2,v2⟩:=t.zD he r1 (h4.mono (R':=fun k=>R k∨k=b) (w':=w) (ρ':=ρ) (fun _ _=>rfl) (fun _ h=>.inl h) (Nm.le_refl _));have hl:=v2.1;rw [aP6] at hl;have o9:(t.enc x).cells.length=cs.length:=by omega
     refine⟨R2,r2,f1.trans f2,aAR (N:=N) (bt:=bt) ⟨arr,h1,h2,by omega,by rw [o9];exact v2⟩ (f2.mV _ (.inr rfl))⟩
    ·cases hf
   ·cases hf
  ·cases hf
 ·rename_i sz n f j o
  split at hf
  ·rename_i hc;obtain⟨rfl,hck⟩:=hc;simp only [aJp,aKN] at hf;obtain⟨rfl,rfl⟩:=hf;refine⟨R,hr,fB.refl _ _ _ _,?_⟩;cases hv with
   | @jL _ _ _ _ _ b iQ v hj hR hsz hc hv=>
   have hlen:(f j).cells.length=t.sz:=t.zC hck;have fE:aK w R ρ (f j).cells ((List.range t.sz).map (v j)):=by
    refine⟨by simp [hlen],fun k c u hk hu=>?_⟩;have hkl:k<t.sz:=by rw [← hlen];exact(aK2.1 hk).1
    simp [aQn,a1L hkl] at hu;subst hu;exact hv j k c hj hk
   have hok:=t.okC hck fE;have:=aI.jL (w:=w) (R:=R) (ρ:=ρ) (sz:=t.sz) (n:=1) (f:=fun _=>t.enc (t.iE (f j).cells)) (j:=0) (o:=0) (b:=b) (iQ:=iQ+j*sz) (fun _ o=>v j o) (by omega) hR (fun _ _=>t.fK _)
    (fun j' o c hj' M0=>by
     obtain rfl:j'=0:=by omega
     have hol:o<(f j).cells.length:=by rw [hlen,← t.fK (t.iE (f j).cells)];exact(aK2.1 M0).1
     have:=hc j o _ hj (aJS hol);have e:iQ+j*sz+(0*t.sz+o)=iQ+(j*sz+o):=by omega
     rw [e];exact this)
    (fun j' o c hj' M0=>by
     obtain rfl:j'=0:=by omega
     obtain⟨u,hu,hvu⟩:=hok.get M0;have hol:o<t.sz:=by rw [← t.fK (t.iE (f j).cells)];exact(aK2.1 M0).1
     simp [aQn,a1L hol] at hu;subst hu;exact hvu)
   simpa [Nat.add_assoc] using this
  ·cases hf
 ·cases hf
theorem aEF:∀ (ts:List Ty) {R:Nat→Prop} {h:AH} {cs:List AV} {us:List Value} {x:aS ts} {h':AH},YA ts h cs=some (x,h')→Rel R ρ h w→aK w R ρ cs us →
  ∃ R',Rel R' ρ h' w∧fB R ρ h w R' ρ h' w∧aK w R' ρ (XA ts x) us
 | [],R,h,cs,us,x,h',hf,hr,hv=>by
  simp only [YA] at hf
  split at hf
  ·rename_i hc;injection hf with hf
   have h2:=aKR Prod.snd hf;simp only at h2;subst h2;have:cs=[]:=by simpa using hc
   subst this;exact⟨R,hr,fB.refl _ _ _ _,hv⟩
  ·cases hf
 | t :: ts,R,h,cs,us,x,h',hf,hr,hv=>by
  simp only [YA] at hf
  split at hf
  ·rename_i c r
   split at hf
   ·rename_i x1 h1 he1
    split at hf
    ·rename_i y1 h2 H8;injection hf with hf
     have e1:=aKR Prod.fst hf;have e2:=aKR Prod.snd hf;simp only at e1 e2;subst e1;subst e2;obtain⟨u,nG,rfl,v1,v2⟩:=hv.cons_inv;obtain⟨R1,r1,f1,w1⟩:=aK9 hr he1 v1;obtain⟨R2,r2,f2,w2⟩:=aEF ts H8 r1 (v2.EM f1 hr);exact⟨R2,r2,f1.trans f2,.cons (w1.EM f2 r1) w2⟩
    ·cases hf
   ·cases hf
  ·cases hf
theorem O8.C5 (p:O8)(hr:Rel R ρ h w){v:AV}{u:Value}{x:p.El}{h':AH}(hf:p.kQ h v=some (x,h'))(hv:aI w R ρ v u) :
  ∃ R',Rel R' ρ h' w∧fB R ρ h w R' ρ h' w∧aI w R' ρ (p.enc x) u:=by
 cases p with
 | ty t=>exact t.C5 hr hf hv
 | jL t=>exact aK9 hr hf hv
 | nil=>
  simp only [O8.kQ] at hf
  split at hf
  ·have h2:h=h':=by injection hf with hf;exact aKR Prod.snd hf
   subst h2;exact⟨R,hr,fB.refl _ _ _ _,hv⟩
  ·cases hf
 | vE f ts=>
  simp only [O8.kQ] at hf
  split at hf
  ·rename_i f' first eA
   have hf2:(if f'=f∧first.isEmpty=true then YA ts h eA else none)=some ((x:aS ts),h'):=hf;clear hf
   split at hf2
   ·rename_i hc;obtain⟨rfl,hfi⟩:=hc;have:first=[]:=by simpa using hfi
    subst this;cases hv with
    | func vf vc h1 h2 h3 h4=>
    obtain⟨R1,r1,f1,v1⟩:=aEF ts hf2 hr (us:=vc.toList) ⟨by simpa using h2,fun k c u hc hu=>h4 k c u hc (by simpa using hu)⟩;exact⟨R1,r1,f1,.func vf vc h1 (by have:=v1.1;simpa using this) (fun k c u hc=>by simp at hc) (fun k c u hc hu=>v1.2 k c u hc (by simpa using hu))⟩
   ·cases hf2
  ·cases hf
theorem gA:∀ (ps:List O8) {R:Nat→Prop} {h:AH} {cs:List AV} {us:List Value} {x:Ps ps} {h':AH},qX ps h cs=some (x,h')→Rel R ρ h w→aK w R ρ cs us →
  ∃ R',Rel R' ρ h' w∧fB R ρ h w R' ρ h' w∧aK w R' ρ (bQ ps x) us
 | [],R,h,cs,us,x,h',hf,hr,hv=>by
  simp only [qX] at hf
  split at hf
  ·rename_i hc;injection hf with hf
   have h2:=aKR Prod.snd hf;simp only at h2;subst h2;have:cs=[]:=by simpa using hc
   subst this;exact⟨R,hr,fB.refl _ _ _ _,hv⟩
  ·cases hf
 | p :: ps,R,h,cs,us,x,h',hf,hr,hv=>by
  simp only [qX] at hf
  split at hf
  ·rename_i c r
   split at hf
   ·rename_i x1 h1 he1
    split at hf
    ·rename_i y1 h2 H8;injection hf with hf
     have e1:=aKR Prod.fst hf;have e2:=aKR Prod.snd hf;simp only at e1 e2;subst e1;subst e2;obtain⟨u,nG,rfl,v1,v2⟩:=hv.cons_inv;obtain⟨R1,r1,f1,w1⟩:=p.C5 hr he1 v1;obtain⟨R2,r2,f2,w2⟩:=gA ps H8 r1 (v2.EM f1 hr);exact⟨R2,r2,f1.trans f2,.cons (w1.EM f2 r1) w2⟩
    ·cases hf
   ·cases hf
  ·cases hf
theorem bN.jL {t:Ty}(x:t.El):bN (.jL t.sz 1 (fun _=>t.enc x) 0 0):=by
 intro w R ρ ρ' u hv;cases hv with
 | @jL _ _ _ _ _ b iQ v hj hR hsz hc hv=>
 exact .jL v hj hR hsz hc (fun j o c hj M0=>t.eV x c (aPl M0) _ _ _ _ _ (hv j o c hj M0))
theorem mP:∀ (ts:List Ty) (x:aS ts),∀ c∈XA ts x,bN c
 | [],_,c,h=>by simp [XA] at h
 | t :: ts,x,c,h=>by
  rcases aQL.1 h with rfl | h
  ·exact .jL x.1
  ·exact mP ts x.2 c h
theorem O8.kS (p:O8)(x:p.El):bN (p.enc x):=by
 cases p with
 | ty t=>exact t.kS x
 | jL t=>exact mP [t] (x,()) (.jL t.sz 1 (fun _=>t.enc x) 0 0) (by simp [XA])
 | nil=>intro w R ρ ρ' u hv;cases hv;exact .eY
 | vE f ts=>
  intro w R ρ ρ' u hv;cases hv with
  | func vf vc h1 h2 h3 h4=>
  exact .func vf vc h1 h2 (fun k c u hc=>by simp at hc) (fun k c u hc hu=>mP ts x c (aPl hc) _ _ _ _ _ (h4 k c u hc hu))
theorem dP:∀ (ps:List O8) (x:Ps ps),∀ c∈bQ ps x,bN c
 | [],_,c,h=>by simp [bQ] at h
 | p :: ps,x,c,h=>by
  rcases aQL.1 h with rfl | h
  ·exact p.kS x.1
  ·exact dP ps x.2 c h
theorem gB:∀ (ts:List Ty) (x:aS ts),∀ c∈i4 ts x,bN c
 | [],_,c,h=>by simp [i4] at h
 | t :: ts,x,c,h=>by
  rcases aQL.1 h with rfl | h
  ·exact t.kS x.1
  ·exact gB ts x.2 c h
theorem bN.O9 {w:World}{R:Nat→Prop}{ρ ρ':Nm}{cs:List AV}{us:List Value}(h:∀ c∈cs,bN c)(hv:aK w R ρ cs us):aK w R ρ' cs us:=
 ⟨hv.1,fun k c u hc hu=>h c (aPl hc) _ _ _ _ _ (hv.2 k c u hc hu)⟩
theorem bN.eE {cs:List AV}(h:∀ c∈cs,bN c):bN (eE cs):=by
 unfold Go.DI.eE
 split
 ·exact h _ (by simp)
 ·intro w R ρ ρ' u hv;obtain⟨us,rfl,fE⟩:=hv.qT;exact .mU (bN.O9 h fE)
def gI:Nm:=fun _=>none
theorem Rel.base (hR:∀ b,R b→b<w.heap.size):Rel R gI [] w:=⟨fun i blk h=>by simp at h,fun i j bi bj b Ni Nj h=>by simp at h,fun _ _=>rfl,hR⟩
theorem Rel.oG (hr:Rel R ρ [] w):ρ=gI:=funext fun i=>hr.dom i (aLj _)
end
end Go.DI
