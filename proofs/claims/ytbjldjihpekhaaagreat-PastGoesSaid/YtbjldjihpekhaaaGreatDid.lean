import Derived.Test.YtbjldjihpekhaaaGreatDic
import Derived.Orders
/- A reading of programs by functions on data, and that it is right. No conditions. -/
set_option linter.unusedSimpArgs false
set_option linter.unusedVariables false
set_option maxRecDepth 100000
set_option maxHeartbeats 0
noncomputable section
namespace Go.DI
inductive Co where
 | dat (t:Ty)
 | row (t:Ty) (i:Nat)
@[reducible] def Co.El:Co→Type
 | .dat t=>t.El
 | .row _ _=>Unit
@[reducible] def PS:List Co→Type
 | []=>Unit
 | c :: r=>c.El×PS r
def nH (σ:Nat→Nat):(cs:List Co)→PS cs→List AV
 | [],_=>[]
 | .dat t :: r,x=>(t.enc x.1).cells++nH σ r x.2
 | .row t i :: r,x=>.bL t (σ i) :: nH σ r x.2
def aRB:List Co→Nat
 | []=>0
 | .dat t :: r=>t.sz+aRB r
 | .row _ _ :: r=>1+aRB r
def sE:List Co→List Nat
 | []=>[]
 | .dat _ :: r=>sE r
 | .row _ i :: r=>i :: sE r
inductive It where
 | data (t:Ty)
 | own (t:Ty) (i:Nat)
 | ptr (i:Nat)
 | map (i:Nat)
 | vE (f:FuncId) (eA:List Ty)
 | jL (t:Ty)
 | any
 | eG (f:FuncId) (is:List Nat)
 | comp (cs:List Co)
 | BU (i o:Nat)
 | PT (sz i len:Nat)
 | kV (f:FuncId) (is:List Nat)
@[reducible] def It.El:It→Type
 | .data t=>t.El
 | .vE _ ts=>aS ts
 | .jL t=>t.El
 | .own _ _=>Unit
 | .ptr _=>Unit
 | .map _=>Unit
 | .any=>Unit
 | .eG _ _=>Unit
 | .comp cs=>PS cs
 | .BU _ _=>Unit
 | .PT _ _ _=>Unit
 | .kV _ _=>Unit
def It.enc (σ:Nat→Nat):(it:It)→it.El→AV
 | .data t,x=>t.enc x
 | .own t i,_=>.bL t (σ i)
 | .ptr i,_=>.ptr (σ i) 0
 | .map i,_=>.map (σ i)
 | .vE f ts,x=>.func f [] (XA ts x)
 | .jL t,x=>.jL t.sz 1 (fun _=>t.enc x) 0 0
 | .any,_=>.any
 | .eG f is,_=>.func f [] (is.map fun i=>.ptr (σ i) 0)
 | .comp cs,x=>.agg (nH σ cs x)
 | .BU i o,_=>.ptr (σ i) o
 | .PT sz i len,_=>.own sz (σ i) 0 len
 | .kV f is,_=>.func f (is.map fun i=>.ptr (σ i) 0) []
def It.sz:It→Nat
 | .data t=>t.sz
 | .comp cs=>aRB cs
 | _=>1
def It.names:It→List Nat
 | .data _ | .vE _ _ | .jL _ | .any=>[]
 | .own _ i | .ptr i | .map i | .BU i _ | .PT _ i _=>[i]
 | .eG _ is=>is
 | .kV _ is=>is
 | .comp cs=>sE cs
def AV.IU (t:Ty)(k:Nat):AV→Bool
 | .bL t' k'=>decide (t'=t)&&k'==k
 | _=>false
def AV.YH (k:Nat):AV→Bool
 | .ptr k' o=>k'==k&&o==0
 | _=>false
def AV.aA4 (k o:Nat):AV→Bool
 | .ptr k' o'=>k'==k&&o'==o
 | _=>false
def AV.aLi (sz k len:Nat):AV→Bool
 | .own sz' k' o' len'=>sz'==sz&&(k'==k&&(o'==0&&len'==len))
 | _=>false
def AV.isMap (k:Nat):AV→Bool
 | .map k'=>k'==k
 | _=>false
def aRC (t:Ty)(v:AV):Option t.El:=match v with
 | .jL sz n f j o=>if o=0∧t.O5 (f j).cells then some (t.iE (f j).cells) else none
 | _=>none
def aET:(ts:List Ty)→List AV→Option (aS ts)
 | [],cs=>if cs.isEmpty then some () else none
 | t :: ts,cs=>match cs with
  | c :: r=>match aRC t c with
   | some x=>match aET ts r with
    | some y=>some (x,y)
    | none=>none
   | none=>none
  | []=>none
def aYn (g:FuncId)(ts:List Ty)(v:AV):Option (aS ts):=match v with
 | .func f' first eA=>if f'=g∧first.isEmpty then aET ts eA else none
 | _=>none
def vI (σ:Nat→Nat):List Nat→List AV→Bool
 | [],cs=>cs.isEmpty
 | i :: r,cs=>match cs with
  | c :: cs=>c.YH (σ i)&&vI σ r cs
  | []=>false
def AV.aA5 (σ:Nat→Nat)(f:FuncId)(is:List Nat):AV→Bool
 | .func f' first eA=>Nat.beq f' f&&(first.isEmpty&&vI σ is eA)
 | _=>false
def AV.aA6 (σ:Nat→Nat)(f:FuncId)(is:List Nat):AV→Bool
 | .func f' first eA=>Nat.beq f' f&&(eA.isEmpty&&vI σ is first)
 | _=>false
theorem DC {σ:Nat→Nat}:∀ (is:List Nat) (cs:List AV),vI σ is cs=true→cs=is.map fun i=>.ptr (σ i) 0
 | [],cs,h=>by simpa [vI] using h
 | i :: r,[],h=>by simp [vI] at h
 | i :: r,c :: cs,h=>by
  simp only [vI,aKS] at h;have h1:=h.1;cases c <;> simp [AV.YH] at h1;obtain⟨rfl,rfl⟩:=h1;rw [DC r cs h.2];rfl
theorem YI {σ:Nat→Nat}{f:FuncId}{is:List Nat}{v:AV}(h:v.aA5 σ f is=true):v=.func f [] (is.map fun i=>.ptr (σ i) 0):=by
 cases v <;> simp only [AV.aA5,aKS] at h <;> try (cases h;done)
 obtain⟨h1,h2,h3⟩:=h;have:=aXS h1;subst this;rename_i first eA
 have:first=[]:=by simpa using h2
 subst this;rw [DC is eA h3]
theorem YJ {σ:Nat→Nat}{f:FuncId}{is:List Nat}{v:AV}(h:v.aA6 σ f is=true):v=.func f (is.map fun i=>.ptr (σ i) 0) []:=by
 cases v <;> simp only [AV.aA6,aKS] at h <;> try (cases h;done)
 obtain⟨h1,h2,h3⟩:=h;have:=aXS h1;subst this;rename_i first eA
 have:eA=[]:=by simpa using h2
 subst this;rw [DC is first h3]
def vJ (σ:Nat→Nat):(cs:List Co)→List AV→Option (PS cs)
 | [],l=>if l.isEmpty then some () else none
 | .dat t :: r,l=>if t.O5 (l.take t.sz) then(match vJ σ r (l.drop t.sz) with
  | some y=>some (t.iE (l.take t.sz),y)
  | none=>none) else none
 | .row t i :: r,l=>match l with
  | v :: l'=>if v.IU t (σ i) then(match vJ σ r l' with
   | some y=>some ((),y)
   | none=>none) else none
  | []=>none
def It.dec (σ:Nat→Nat):(it:It)→AV→Option it.El
 | .data t,v=>if t.ck v then some (t.dec v) else none
 | .own t i,v=>if v.IU t (σ i) then some () else none
 | .ptr i,v=>if v.YH (σ i) then some () else none
 | .map i,v=>if v.isMap (σ i) then some () else none
 | .vE f ts,v=>aYn f ts v
 | .jL t,v=>aRC t v
 | .any,_=>some ()
 | .eG f is,v=>if v.aA5 σ f is then some () else none
 | .BU i o,v=>if v.aA4 (σ i) o then some () else none
 | .PT sz i len,v=>if v.aLi sz (σ i) len then some () else none
 | .kV f is,v=>if v.aA6 σ f is then some () else none
 | .comp cs,v=>match v with
  | .agg l=>vJ σ cs l
  | _=>none
def It.iE (σ:Nat→Nat):(it:It)→List AV→Option it.El
 | .data t,cs=>if t.O5 cs then some (t.iE cs) else none
 | .own t i,cs=>if CZ (AV.IU t (σ i)) cs then some () else none
 | .ptr i,cs=>if CZ (AV.YH (σ i)) cs then some () else none
 | .map i,cs=>if CZ (AV.isMap (σ i)) cs then some () else none
 | .vE f ts,cs=>match cs with
  | [v]=>aYn f ts v
  | _=>none
 | .jL t,cs=>match cs with
  | [v]=>aRC t v
  | _=>none
 | .any,cs=>match cs with
  | [_]=>some ()
  | _=>none
 | .eG f is,cs=>if CZ (AV.aA5 σ f is) cs then some () else none
 | .BU i o,cs=>if CZ (AV.aA4 (σ i) o) cs then some () else none
 | .PT sz i len,cs=>if CZ (AV.aLi sz (σ i) len) cs then some () else none
 | .kV f is,cs=>if CZ (AV.aA6 σ f is) cs then some () else none
 | .comp cs,l=>vJ σ cs l
section
variable {w:World}{R:Nat→Prop}{ρ:Nm}{h:AH}
theorem aA7 {t:Ty}{v:AV}{u:Value}{x:t.El}(hf:aRC t v=some x)(hv:aI w R ρ v u):aI w R ρ (.jL t.sz 1 (fun _=>t.enc x) 0 0) u:=by
 unfold aRC at hf
 split at hf
 ·rename_i sz n f j o
  split at hf
  ·rename_i hc;obtain⟨rfl,hck⟩:=hc;injection hf with hf;subst hf
   cases hv with
   | @jL _ _ _ _ _ b iQ v hj hR hsz hc hv=>
   have hlen:(f j).cells.length=t.sz:=t.zC hck;have fE:aK w R ρ (f j).cells ((List.range t.sz).map (v j)):=by
    refine⟨by simp [hlen],fun k c u hk hu=>?_⟩;have hkl:k<t.sz:=by rw [← hlen];exact(aK2.1 hk).1
    simp [aQn,a1L hkl] at hu;subst hu;exact hv j k c hj hk
   have hok:=t.okC hck fE;have:=aI.jL (w:=w) (R:=R) (ρ:=ρ) (sz:=t.sz) (n:=1) (f:=fun _=>t.enc (t.iE (f j).cells)) (j:=0) (o:=0) (b:=b) (iQ:=iQ+j*sz) (fun _ o=>v j o) (by omega) hR (fun _ _=>t.fK _)
    (fun j' o c hj' M0=>by
     obtain rfl:j'=0:=by omega
     have hol:o<(f j).cells.length:=by rw [hlen,← t.fK (t.iE (f j).cells)];exact(aK2.1 M0).1
     have:=hc j o _ hj (aJS hol);have e:iQ+j*sz+(0*t.sz+o)=iQ+(j*sz+o):=by omega
     rw [e];exact this)
    (fun j' o c hj' M0=>by
     obtain rfl:j'=0:=by omega
     obtain⟨u,hu,hvu⟩:=hok.get M0;have hol:o<t.sz:=by rw [← t.fK (t.iE (f j).cells)];exact(aK2.1 M0).1
     simp [aQn,a1L hol] at hu;subst hu;exact hvu)
   simpa [Nat.add_assoc] using this
  ·cases hf
 ·cases hf
theorem aEU:∀ (ts:List Ty) {cs:List AV} {us:List Value} {x:aS ts},aET ts cs=some x→aK w R ρ cs us→aK w R ρ (XA ts x) us
 | [],cs,us,x,hf,hv=>by
  simp only [aET] at hf
  split at hf
  ·rename_i hc;have:cs=[]:=by simpa using hc
   subst this;exact hv
  ·cases hf
 | t :: ts,cs,us,x,hf,hv=>by
  simp only [aET] at hf
  split at hf
  ·rename_i c r
   split at hf
   ·rename_i x1 he1
    split at hf
    ·rename_i y1 H8;injection hf with hf
     subst hf;obtain⟨u,nG,rfl,v1,v2⟩:=hv.cons_inv;exact .cons (aA7 he1 v1) (aEU ts H8 v2)
    ·cases hf
   ·cases hf
  ·cases hf
theorem aLk {g:FuncId}{ts:List Ty}{v:AV}{u:Value}{x:aS ts}(hf:aYn g ts v=some x)(hv:aI w R ρ v u):aI w R ρ (.func g [] (XA ts x)) u:=by
 unfold aYn at hf
 split at hf
 ·rename_i f' first eA
  split at hf
  ·rename_i hc;obtain⟨rfl,hfi⟩:=hc;have:first=[]:=by simpa using hfi
   subst this;cases hv with
   | func vf vc h1 h2 h3 h4=>
   have h5:aK w R ρ eA vc.toList:=⟨by simpa using h2,fun k c u hc hu=>h4 k c u hc (by simpa using hu)⟩;have h6:=aEU ts hf h5;exact .func vf vc h1 (by simpa using h6.1) (fun k c u hc=>by simp at hc) (fun k c u hc hu=>h6.2 k c u hc (by simpa using hu))
  ·cases hf
 ·cases hf
theorem zH {σ:Nat→Nat}:∀ (cs:List Co) {l:List AV} {x:PS cs} {us:List Value},vJ σ cs l=some x→aK w R ρ l us→aK w R ρ (nH σ cs x) us
 | [],l,x,us,hd,hv=>by
  simp only [vJ] at hd
  split at hd
  ·rename_i hc;have:l=[]:=by simpa using hc
   subst this;exact hv
  ·cases hd
 | .dat t :: r,l,x,us,hd,hv=>by
  simp only [vJ] at hd
  split at hd
  ·rename_i hc
   split at hd
   ·rename_i y hy;injection hd with hd
    subst hd;have h1:=t.okC hc (hv.take t.sz);have h2:=zH r hy (hv.drop t.sz);have:=h1.append h2
    rwa [a9u] at this
   ·cases hd
  ·cases hd
 | .row t i :: r,l,x,us,hd,hv=>by
  cases l with
  | nil=>simp [vJ] at hd
  | cons v l'=>
   simp only [vJ] at hd
   split at hd
   ·rename_i hc
    split at hd
    ·rename_i y hy;injection hd with hd
     subst hd;cases v <;> simp [AV.IU] at hc;obtain⟨rfl,rfl⟩:=hc;obtain⟨u,nG,rfl,h1,h2⟩:=hv.cons_inv;exact .cons h1 (zH r hy h2)
    ·cases hd
   ·cases hd
theorem aEV {ρ':Nm}{t:Ty}{j k:Nat}{u:Value}(h1:ρ' k=ρ j)(hv:aI w R ρ (.bL t j) u):aI w R ρ' (.bL t k) u:=by
 cases hv with
 | bL k1 k2 k3 k4=>exact .bL (h1.trans k1) k2 k3 k4
 | iY k1 k2=>exact .iY (h1.trans k1) k2
theorem mQ {σ τ:Nat→Nat}{ρ':Nm}:∀ (cs:List Co) (x:PS cs) {us:List Value},(∀ i∈sE cs,ρ' (τ i)=ρ (σ i))→aK w R ρ (nH σ cs x) us→aK w R ρ' (nH τ cs x) us
 | [],x,us,hn,hv=>by
  obtain rfl:=hv.bE;exact .nil
 | .dat t :: r,x,us,hn,hv=>by
  have h1:=hv.take (t.enc x.1).cells.length;have h2:=hv.drop (t.enc x.1).cells.length;simp only [nH,List.take_left',List.drop_left'] at h1 h2;have k1:aK w R ρ' (t.enc x.1).cells (us.take (t.enc x.1).cells.length):=bN.O9 (t.eV x.1) h1;have k2:=mQ r x.2 (fun i hi=>hn i hi) h2;have:=k1.append k2
  rwa [a9u] at this
 | .row t i :: r,x,us,hn,hv=>by
  obtain⟨u,nG,rfl,h1,h2⟩:=aK.cons_inv (c:=.bL t (σ i)) hv;exact .cons (aEV (hn i (by simp [sE])) h1) (mQ r x.2 (fun i hi=>hn i (by simp [sE,hi])) h2)
theorem DD {σ τ:Nat→Nat}:∀ (cs:List Co) (x:PS cs),(nH σ cs x).length=(nH τ cs x).length
 | [],x=>rfl
 | .dat t :: r,x=>by simp only [nH,aPk,DD (σ:=σ) (τ:=τ) r]
 | .row t i :: r,x=>by simp only [nH,aQO,DD (σ:=σ) (τ:=τ) r]
theorem It.aA8 {σ:Nat→Nat}(it:It){v:AV}{x:it.El}{u:Value}(hd:it.dec σ v=some x)(hv:aI w R ρ v u):aI w R ρ (it.enc σ x) u:=by
 cases it with
 | data t=>
  simp only [It.dec] at hd
  split at hd
  ·rename_i hc;injection hd with hd;subst hd
   exact t.ok hc hv
  ·cases hd
 | own t i=>
  simp only [It.dec] at hd
  split at hd
  ·rename_i hc;cases v <;> simp [AV.IU] at hc;obtain⟨rfl,rfl⟩:=hc;exact hv
  ·cases hd
 | ptr i=>
  simp only [It.dec] at hd
  split at hd
  ·rename_i hc;cases v <;> simp [AV.YH] at hc;obtain⟨rfl,rfl⟩:=hc;exact hv
  ·cases hd
 | map i=>
  simp only [It.dec] at hd
  split at hd
  ·rename_i hc;cases v <;> simp [AV.isMap] at hc;subst hc;exact hv
  ·cases hd
 | vE f ts=>exact aLk hd hv
 | jL t=>exact aA7 hd hv
 | any=>exact .any _
 | eG f is=>
  simp only [It.dec] at hd
  split at hd
  ·rename_i hc;rw [YI hc] at hv;exact hv
  ·cases hd
 | BU i o=>
  simp only [It.dec] at hd
  split at hd
  ·rename_i hc;cases v <;> simp [AV.aA4] at hc;obtain⟨rfl,rfl⟩:=hc;exact hv
  ·cases hd
 | PT sz i len=>
  simp only [It.dec] at hd
  split at hd
  ·rename_i hc;cases v <;> simp [AV.aLi] at hc;obtain⟨rfl,rfl,rfl,rfl⟩:=hc;exact hv
  ·cases hd
 | kV f is=>
  simp only [It.dec] at hd
  split at hd
  ·rename_i hc;rw [YJ hc] at hv;exact hv
  ·cases hd
 | comp cs=>
  simp only [It.dec] at hd
  split at hd
  ·obtain⟨us,rfl,h1⟩:=hv.fU;exact .xH (zH cs hd h1)
  ·cases hd
theorem It.aYo {σ:Nat→Nat}(it:It){cs:List AV}{x:it.El}{us:List Value}(hd:it.iE σ cs=some x)(hv:aK w R ρ cs us):aK w R ρ (it.enc σ x).cells us:=by
 cases it with
 | data t=>
  simp only [It.iE] at hd
  split at hd
  ·rename_i hc;injection hd with hd;subst hd
   exact t.okC hc hv
  ·cases hd
 | own t i=>
  simp only [It.iE] at hd
  split at hd
  ·rename_i hc;obtain⟨v,rfl,hc2⟩:=gK hc;clear hc;cases v <;> simp [AV.IU] at hc2;obtain⟨rfl,rfl⟩:=hc2;exact hv
  ·cases hd
 | ptr i=>
  simp only [It.iE] at hd
  split at hd
  ·rename_i hc;obtain⟨v,rfl,hc2⟩:=gK hc;clear hc;cases v <;> simp [AV.YH] at hc2;obtain⟨rfl,rfl⟩:=hc2;exact hv
  ·cases hd
 | map i=>
  simp only [It.iE] at hd
  split at hd
  ·rename_i hc;obtain⟨v,rfl,hc2⟩:=gK hc;clear hc;cases v <;> simp [AV.isMap] at hc2;subst hc2;exact hv
  ·cases hd
 | vE f ts=>
  simp only [It.iE] at hd
  split at hd
  ·obtain⟨u,nG,rfl,h1,h2⟩:=hv.cons_inv;obtain rfl:=h2.bE;exact .cons (aLk hd h1) .nil
  ·cases hd
 | jL t=>
  simp only [It.iE] at hd
  split at hd
  ·obtain⟨u,nG,rfl,h1,h2⟩:=hv.cons_inv;obtain rfl:=h2.bE;exact .cons (aA7 hd h1) .nil
  ·cases hd
 | any=>
  simp only [It.iE] at hd
  split at hd
  ·obtain⟨u,nG,rfl,h1,h2⟩:=hv.cons_inv;obtain rfl:=h2.bE;exact .cons (.any _) .nil
  ·cases hd
 | eG f is=>
  simp only [It.iE] at hd
  split at hd
  ·rename_i hc;obtain⟨v,rfl,hc2⟩:=gK hc;rw [YI hc2] at hv;exact hv
  ·cases hd
 | BU i o=>
  simp only [It.iE] at hd
  split at hd
  ·rename_i hc;obtain⟨v,rfl,hc2⟩:=gK hc;cases v <;> simp [AV.aA4] at hc2;obtain⟨rfl,rfl⟩:=hc2;exact hv
  ·cases hd
 | PT sz i len=>
  simp only [It.iE] at hd
  split at hd
  ·rename_i hc;obtain⟨v,rfl,hc2⟩:=gK hc;cases v <;> simp [AV.aLi] at hc2;obtain⟨rfl,rfl,rfl,rfl⟩:=hc2;exact hv
  ·cases hd
 | kV f is=>
  simp only [It.iE] at hd
  split at hd
  ·rename_i hc;obtain⟨v,rfl,hc2⟩:=gK hc;rw [YJ hc2] at hv;exact hv
  ·cases hd
 | comp cs=>exact zH cs hd hv
theorem It.rename {σ τ:Nat→Nat}{ρ':Nm}(it:It)(x:it.El){u:Value}(hn:∀ i∈it.names,ρ' (τ i)=ρ (σ i))(hv:aI w R ρ (it.enc σ x) u):aI w R ρ' (it.enc τ x) u:=by
 cases it with
 | data t=>exact t.kS x _ _ _ _ _ hv
 | own t i=>
  have h1:=hn i (by simp [It.names]);cases hv with
  | bL k1 k2 k3 k4=>exact .bL (h1.trans k1) k2 k3 k4
  | iY k1 k2=>exact .iY (h1.trans k1) k2
 | ptr i=>
  have h1:=hn i (by simp [It.names]);cases hv with
  | ptr k1=>exact .ptr (h1.trans k1)
 | map i=>
  have h1:=hn i (by simp [It.names]);cases hv with
  | map k1=>exact .map (h1.trans k1)
 | vE f ts=>exact(O8.vE f ts).kS x _ _ _ _ _ hv
 | jL t=>exact mP [t] (x,()) (.jL t.sz 1 (fun _=>t.enc x) 0 0) (by simp [XA]) _ _ _ _ _ hv
 | any=>exact .any _
 | eG f is=>
  have hv:aI w R ρ (.func f [] (is.map fun i=>.ptr (σ i) 0)) u:=hv;cases hv with
  | func vf vc h1 h2 h3 h4=>
  refine .func vf vc h1 (by simpa using h2) (fun k c u hc=>by simp at hc) (fun k c u hc hu=>?_);rw [aQn] at hc;obtain⟨i,hi,rfl⟩:=aPV.1 hc;have h5:=h4 k (.ptr (σ i) 0) u (by rw [aQn,hi];rfl) hu;cases h5 with
  | ptr h6=>exact .ptr ((hn i (aPl hi)).trans h6)
 | BU i o=>
  have h1:=hn i (by simp [It.names]);cases hv with
  | ptr k1=>exact .ptr (h1.trans k1)
 | PT sz i len=>
  have h1:=hn i (by simp [It.names]);cases hv with
  | own k1 k2 k3=>exact .own (h1.trans k1) k2 k3
 | kV f is=>
  have hv:aI w R ρ (.func f (is.map fun i=>.ptr (σ i) 0) []) u:=hv;cases hv with
  | func vf vc h1 h2 h3 h4=>
  refine .func vf vc (by simpa using h1) h2 (fun k c u hc hu=>?_) (fun k c u hc=>by simp at hc);rw [aQn] at hc;obtain⟨i,hi,rfl⟩:=aPV.1 hc;have h5:=h3 k (.ptr (σ i) 0) u (by rw [aQn,hi];rfl) hu;cases h5 with
  | ptr h6=>exact .ptr ((hn i (aPl hi)).trans h6)
 | comp cs=>
  obtain⟨us,rfl,h1⟩:=aI.fU (cs:=nH σ cs x) hv;exact .xH (mQ cs x hn h1)
theorem It.aLl {σ τ:Nat→Nat}{ρ':Nm}(it:It)(x:it.El){us:List Value}(hn:∀ i∈it.names,ρ' (τ i)=ρ (σ i))(hv:aK w R ρ (it.enc σ x).cells us):aK w R ρ' (it.enc τ x).cells us:=by
 cases it with
 | data t=>exact bN.O9 (t.eV x) hv
 | own t i=>
  obtain⟨u,nG,rfl,h1,h2⟩:=aK.cons_inv (c:=.bL t (σ i)) hv;obtain rfl:=h2.bE;exact .cons ((It.own t i).rename (σ:=σ) (τ:=τ) x hn h1) .nil
 | ptr i=>
  obtain⟨u,nG,rfl,h1,h2⟩:=aK.cons_inv (c:=.ptr (σ i) 0) hv;obtain rfl:=h2.bE;exact .cons ((It.ptr i).rename (σ:=σ) (τ:=τ) x hn h1) .nil
 | map i=>
  obtain⟨u,nG,rfl,h1,h2⟩:=aK.cons_inv (c:=.map (σ i)) hv;obtain rfl:=h2.bE;exact .cons ((It.map i).rename (σ:=σ) (τ:=τ) x hn h1) .nil
 | vE f ts=>
  obtain⟨u,nG,rfl,h1,h2⟩:=aK.cons_inv (c:=(It.vE f ts).enc σ x) hv;obtain rfl:=h2.bE;exact .cons ((It.vE f ts).rename (σ:=σ) (τ:=τ) x hn h1) .nil
 | jL t=>
  obtain⟨u,nG,rfl,h1,h2⟩:=aK.cons_inv (c:=(It.jL t).enc σ x) hv;obtain rfl:=h2.bE;exact .cons ((It.jL t).rename (σ:=σ) (τ:=τ) x hn h1) .nil
 | any=>
  obtain⟨u,nG,rfl,h1,h2⟩:=aK.cons_inv (c:=.any) hv;obtain rfl:=h2.bE;exact .cons (.any _) .nil
 | eG f is=>
  obtain⟨u,nG,rfl,h1,h2⟩:=aK.cons_inv (c:=(It.eG f is).enc σ x) hv;obtain rfl:=h2.bE;exact .cons ((It.eG f is).rename (σ:=σ) (τ:=τ) x hn h1) .nil
 | BU i o=>
  obtain⟨u,nG,rfl,h1,h2⟩:=aK.cons_inv (c:=.ptr (σ i) o) hv;obtain rfl:=h2.bE;exact .cons ((It.BU i o).rename (σ:=σ) (τ:=τ) x hn h1) .nil
 | PT sz i len=>
  obtain⟨u,nG,rfl,h1,h2⟩:=aK.cons_inv (c:=.own sz (σ i) 0 len) hv;obtain rfl:=h2.bE;exact .cons ((It.PT sz i len).rename (σ:=σ) (τ:=τ) x hn h1) .nil
 | kV f is=>
  obtain⟨u,nG,rfl,h1,h2⟩:=aK.cons_inv (c:=(It.kV f is).enc σ x) hv;obtain rfl:=h2.bE;exact .cons ((It.kV f is).rename (σ:=σ) (τ:=τ) x hn h1) .nil
 | comp cs=>exact mQ cs x hn hv
end
@[reducible] def YK:List It→Type
 | []=>Unit
 | it :: r=>it.El×YK r
def nO (σ:Nat→Nat):(cs:List It)→YK cs→List AV
 | [],_=>[]
 | it :: r,x=>(it.enc σ x.1).cells++nO σ r x.2
def PU (σ:Nat→Nat):(cs:List It)→List AV→Option (YK cs)
 | [],l=>if l.isEmpty then some () else none
 | it :: r,l=>match it.iE σ (l.take it.sz),PU σ r (l.drop it.sz) with
  | some x,some y=>some (x,y)
  | _,_=>none
def vK (cs:List It):List Nat:=cs.flatMap It.names
inductive Bl where
 | var (bt:TypeId) (cs:List It)
 | row (bt:TypeId) (t:Ty)
 | cE (kt vt:Ty)
@[reducible] def Bl.El:Bl→Type
 | .var _ cs=>YK cs
 | .row _ t=>List t.El
 | .cE kt vt=>List (kt.El×vt.El)
def Bl.enc:(b:Bl)→b.El→cQ
 | .var bt cs,x=>.cells bt (nO id cs x)
 | .row bt t,l=>.row bt t l
 | .cE kt vt,m=>.cE kt vt m
def Bl.names:Bl→List Nat
 | .var _ cs=>vK cs
 | _=>[]
def Bl.dec (σ:Nat→Nat):(b:Bl)→cQ→Option b.El
 | .var bt cs,.cells HZ l=>if HZ=bt then PU σ cs l else none
 | .row bt t,.row HZ t' l=>if h:HZ=bt∧t'=t then some (h.2▸l) else none
 | .cE kt vt,.cE kt' vt' m=>if h:kt'=kt∧vt'=vt then some (h.1▸h.2▸m) else none
 | _,_=>none
section
variable {w:World}{R:Nat→Prop}{ρ ρ':Nm}{h:AH}{σ:Nat→Nat}
theorem aEW:∀ (cs:List It) {l:List AV} {x:YK cs} {us:List Value},PU σ cs l=some x→(∀ i∈vK cs,ρ' i=ρ (σ i))→aK w R ρ l us→aK w R ρ' (nO id cs x) us
 | [],l,x,us,hd,hn,hv=>by
  simp only [PU] at hd
  split at hd
  ·rename_i hc;have:l=[]:=by simpa using hc
   subst this;obtain rfl:=hv.bE;exact .nil
  ·cases hd
 | it :: r,l,x,us,hd,hn,hv=>by
  simp only [PU] at hd
  split at hd
  ·rename_i x1 y1 h1 h2;injection hd with hd
   subst hd;have k1:=it.aLl (τ:=id) (ρ':=ρ') x1 (fun i hi=>hn i (by simp [vK,List.mem_flatMap];exact .inl hi)) (it.aYo h1 (hv.take it.sz));have k2:=aEW r h2 (fun i hi=>hn i (by
    simp only [vK,aXJ,aLA];exact .inr hi)) (hv.drop it.sz)
   have:=k1.append k2
   rwa [a9u] at this
  ·cases hd
theorem Bl.aA8 (b:Bl){blk:cQ}{x:b.El}{n:Nat}{N:BN}{R0:Nat→Prop}(hd:b.dec σ blk=some x)(gG:Real R0 n N blk)(hn:∀ i∈b.names,ρ' i=ρ (σ i))(hb:dY w R ρ n N blk) :
  dY w R ρ' n N (b.enc x)∧Real R0 n N (b.enc x):=by
 cases b with
 | var bt cs=>
  cases blk <;> simp only [Bl.dec] at hd <;> try (cases hd;done)
  rename_i HZ l;by_cases he:HZ=bt
  ·have hd:PU σ cs l=some x:=by
    have e:(if HZ=bt then PU σ cs l else none)=some x:=hd;rw [aJb he] at e;exact e
   subst he;obtain⟨arr,h1,h2,h3,h4⟩:=hb;have h5:=aEW (ρ':=ρ') cs hd hn h4;have hlen:(nO id cs x).length=l.length:=by
    have h6:=h5.1;have h7:=h4.1;omega
   exact⟨⟨arr,h1,h2,by show(nO id cs x).length≤_;omega,by
    show aK w R ρ' (nO id cs x) (arr.toList.take (nO id cs x).length);rw [hlen];exact h5⟩,.inl gG.cells⟩
  ·exact absurd hd (by simp [he])
 | row bt t=>
  cases blk <;> simp only [Bl.dec] at hd <;> try (cases hd;done)
  rename_i HZ t' l
  split at hd
  ·rename_i he;obtain⟨rfl,rfl⟩:=he;injection hd with hd;subst hd
   refine⟨?_,gG⟩;obtain⟨h1,h2⟩:=hb;refine⟨h1,fun hg=>?_⟩;obtain⟨arr,h3,h4,h5,h6⟩:=h2 hg;exact⟨arr,h3,h4,h5,fun j o c hj hc=>by
    obtain⟨u,hu,hv⟩:=h6 j o c hj hc;exact⟨u,hu,t'.eV _ c (aPl hc) _ _ _ _ _ hv⟩⟩
  ·cases hd
 | cE kt vt=>
  cases blk <;> simp only [Bl.dec] at hd <;> try (cases hd;done)
  rename_i kt' vt' m
  split at hd
  ·rename_i he;obtain⟨rfl,rfl⟩:=he;injection hd with hd;subst hd
   refine⟨?_,gG⟩;obtain⟨arr,clock,h1,h2,h3⟩:=hb;refine⟨arr,clock,h1,bN.O9 ?_ h2,bN.O9 ?_ h3⟩
   ·intro c hc;obtain⟨p,_,rfl⟩:=aQ5.1 hc;exact kt'.kS _
   ·intro c hc;obtain⟨p,_,rfl⟩:=aQ5.1 hc;exact vt'.kS _
  ·cases hd
end
@[reducible] def jW:List (Nat×It)→Type
 | []=>Unit
 | p :: r=>p.2.El×jW r
def aIz:(rs:List (Nat×It))→jW rs→List AV→List AV
 | [],_,l=>l
 | p :: r,x,l=>aIz r x.2 (l.set p.1 (p.2.enc id x.1))
def aYp (σ:Nat→Nat)(l:List AV):(rs:List (Nat×It))→Option (jW rs)
 | []=>some ()
 | p :: r=>match l[p.1]? with
  | some v=>match p.2.dec σ v,aYp σ l r with
   | some x,some y=>some (x,y)
   | _,_=>none
  | none=>none
@[reducible] def lU:List Bl→Type
 | []=>Unit
 | b :: r=>b.El×lU r
def gH:(bs:List Bl)→lU bs→AH
 | [],_=>[]
 | b :: r,x=>some (b.enc x.1) :: gH r x.2
def aYq (σ:Nat→Nat)(h:AH):(i:Nat)→(bs:List Bl)→Option (lU bs)
 | _,[]=>some ()
 | i,b :: r=>match h[σ i]? with
  | some (some blk)=>match b.dec σ blk,aYq σ h (i+1) r with
   | some x,some y=>some (x,y)
   | _,_=>none
  | _=>none
structure aF where
 n:Nat
 fH:List (Nat×It)
 dS:List Bl
 sig:AS→List Nat
def aF.names (L:aF):List Nat:=L.fH.flatMap (·.2.names)++L.dS.flatMap Bl.names
def DE:List Nat→Bool
 | []=>true
 | x :: r=>!r.contains x&&DE r
abbrev aF.El (L:aF):Type:=jW L.fH×lU L.dS
def aF.enc (L:aF)(x:L.El):AS:=⟨aIz L.fH x.1 (List.replicate L.n .any),gH L.dS x.2⟩
def aEX:Nat→Nat→List Nat→Bool
 | 0,_,_=>true
 | n+1,i,l=>match l with
  | k :: r=>Nat.beq k i&&aEX n (i+1) r
  | []=>false
def bFf (p:Nat)(l:List Nat):Bool:=aEX p 0 l
theorem aEY:∀ (n i:Nat) (l:List Nat),aEX n i l=true→n≤l.length∧∀ k,k<n→l.getD k 0=i+k
 | 0,i,l,h=>⟨aLj _,fun k hk=>by omega⟩
 | n+1,i,[],h=>by simp [aEX] at h
 | n+1,i,x :: r,h=>by
  simp only [aEX,aKS] at h;obtain⟨h1,h2⟩:=aEY n (i+1) r h.2;have h3:=aXS h.1;refine⟨by simp;omega,fun k hk=>?_⟩;cases k with
  | zero=>simp [h3]
  | succ k=>
   rw [List.getD_cons_succ,h2 k (by omega)];omega
def aF.dec (p:Nat)(L:aF)(s:AS):Option L.El:=
 if(L.sig s).length=L.dS.length∧DE (L.sig s)=true∧s.r.length=L.n∧L.names.all (fun i=>decide (i<L.dS.length))=true∧bFf p (L.sig s)=true then
  (match aYp (fun i=>(L.sig s).getD i 0) s.r L.fH,aYq (fun i=>(L.sig s).getD i 0) s.h 0 L.dS with
  | some x,some y=>some (x,y)
  | _,_=>none)
 else none
section
variable {w:World}{R:Nat→Prop}{ρ ρ':Nm}{h:AH}{σ:Nat→Nat}
theorem PV:∀ {l:List Nat},DE l=true→∀ i j,i<l.length→j<l.length→l.getD i 0=l.getD j 0→i=j
 | [],_,i,j,hi,_,_=>by simp at hi
 | x :: r,hn,i,j,hi,hj,he=>by
  simp only [DE,aKS,a1K] at hn;have hx:x∉r:=by simpa using hn.1
  cases i with
  | zero=>
   cases j with
   | zero=>rfl
   | succ j=>
    have hj:j<r.length:=by simpa using hj
    have he':x=r[j]:=by simpa [aQj,aJS hj] using he
    exact absurd (by rw [he'];exact aXB hj) hx
  | succ i=>
   have hi:i<r.length:=by simpa using hi
   cases j with
   | zero=>
    have he':x=r[i]:=by simpa [aQj,aJS hi] using he.symm
    exact absurd (by rw [he'];exact aXB hi) hx
   | succ j=>
    have hj:j<r.length:=by simpa using hj
    simp only [List.getD_cons_succ] at he;rw [PV hn.2 i j hi hj he]
theorem aLm {us:List Value}{l0:List AV}(hv:aK w R ρ l0 us):∀ (rs:List (Nat×It)) {x:jW rs} {l:List AV},aYp σ l0 rs=some x→(∀ i∈rs.flatMap (·.2.names),ρ' i=ρ (σ i))→aK w R ρ' l us→aK w R ρ' (aIz rs x l) us
 | [],x,l,hd,hn,hl=>hl
 | p :: r,x,l,hd,hn,hl=>by
  simp only [aYp] at hd
  split at hd
  ·rename_i v hv0
   split at hd
   ·rename_i x1 y1 h1 h2;injection hd with hd
    subst hd;obtain⟨u,hu,hvu⟩:=hv.get hv0;have k1:=p.2.rename (τ:=id) (ρ':=ρ') x1 (fun i hi=>hn i (by simp only [aXJ,aLA];exact .inl hi)) (p.2.aA8 h1 hvu);have k2:=hl.set p.1 k1;have e:us.set p.1 u=us:=by
     apply List.ext_getElem?;intro k;rw [aXL]
     split
     ·rename_i hk;subst hk;rw [hu,aJb (aK2.1 hu).1]
     ·rfl
    rw [e] at k2;exact aLm hv r h2 (fun i hi=>hn i (by simp only [aXJ,aLA];exact .inr hi)) k2
   ·cases hd
  ·cases hd
theorem sF:∀ (bs:List Bl) (x:lU bs),(gH bs x).length=bs.length
 | [],_=>rfl
 | b :: r,x=>by simp [gH,sF r]
theorem YL:∀ (bs:List Bl) (x:lU bs) (k:Nat),k<bs.length→∃ blk,(gH bs x)[k]?=some (some blk)
 | [],x,k,h=>by simp at h
 | b :: r,x,0,h=>⟨b.enc x.1,rfl⟩
 | b :: r,x,k+1,h=>YL r x.2 k (by simpa using h)
theorem zI:∀ (bs:List Bl) {i:Nat} {x:lU bs},aYq σ h i bs=some x→∀ (j:Nat) (blk:cQ),(gH bs x)[j]?=some (some blk) →
  ∃ (b:Bl) (y:b.El) (rJ:cQ),blk=b.enc y∧h[σ (i+j)]?=some (some rJ)∧b.dec σ rJ=some y∧∀ k∈b.names,k∈bs.flatMap Bl.names
 | [],i,x,hd,j,blk,hj=>by simp [gH] at hj
 | b :: r,i,x,hd,j,blk,hj=>by
  simp only [aYq] at hd
  split at hd
  ·rename_i rJ hb0
   split at hd
   ·rename_i x1 y1 h1 h2;injection hd with hd
    subst hd;cases j with
    | zero=>
     simp only [gH,List.getElem?_cons_zero,aJp] at hj;exact⟨b,x1,rJ,hj.symm,hb0,h1,fun k hk=>by simp only [aXJ,aLA];exact .inl hk⟩
    | succ j=>
     simp only [gH,a9B] at hj;obtain⟨b',y',dN,k1,k2,k3,k4⟩:=zI r h2 j blk hj;refine⟨b',y',dN,k1,?_,k3,fun k hk=>by simp only [aXJ,aLA];exact .inr (k4 k hk)⟩;rw [← k2];congr 2;omega
   ·cases hd
  ·cases hd
theorem aF.okX (p:Nat)(L:aF)(s:AS)(x:L.El)(hd:L.dec p s=some x):(L.sig s).length=L.dS.length∧DE (L.sig s)=true∧s.r.length=L.n ∧
  (∀ k,k<L.dS.length→∃ blk,s.h[(L.sig s).getD k 0]?=some (some blk)) ∧
  ∀ (R:Nat→Prop) (ρ:Nm) (a:Act) (w:World),Rel R ρ s.h w→b9 w R ρ s.r a→∃ eN,(∀ k,k<L.dS.length→eN k=ρ ((L.sig s).getD k 0))∧Rel R eN (L.enc x).h w∧b9 w R eN (L.enc x).r a∧eF p R ρ s.h w R eN (L.enc x).h w:=by
 unfold aF.dec at hd
 split at hd
 ·rename_i hc;obtain⟨c1,c2,c3,c4,c5⟩:=hc
  split at hd
  ·rename_i y z hy hz;injection hd with hd
   subst hd;refine⟨c1,c2,c3,fun k hk=>?_,?_⟩
   ·have hk2:k<(gH L.dS z).length:=by rw [sF];exact hk
    have hne:∃ blk,(gH L.dS z)[k]?=some (some blk):=YL L.dS z k hk;obtain⟨blk,hblk⟩:=hne;obtain⟨b,y',rJ,_,k2,_,_⟩:=zI L.dS hz k blk hblk;rw [aZ3] at k2;exact⟨rJ,k2⟩
   intro R ρ a w hr ha;generalize hσ:(fun i=>(L.sig s).getD i 0)=σ at hy hz;have hinj:∀ i j,i<L.dS.length→j<L.dS.length→σ i=σ j→i=j:=by
    intro i j hi hj he;rw [← hσ] at he;exact PV c2 i j (by omega) (by omega) he
   let eN:Nm:=fun i=>if i<L.dS.length then ρ (σ i) else none;have hnm:∀ i∈L.names,eN i=ρ (σ i):=by
    intro i hi;have:=aQ6.1 c4 i hi;have:i<L.dS.length:=by simpa using this
    show(if i<L.dS.length then ρ (σ i) else none)=_;rw [aJb this]
   have hlt:∀ (j:Nat) (blk:cQ),(gH L.dS z)[j]?=some (some blk)→j<L.dS.length:=by
    intro j blk hj;rw [← sF L.dS z];exact(aK2.1 hj).1
   have aIA:∀ j,j<L.dS.length→eN j=ρ (σ j):=fun j hj=>by
    show(if j<L.dS.length then ρ (σ j) else none)=_;rw [aJb hj]
   refine⟨eN,fun k hk=>by rw [← hσ] at aIA;exact aIA k hk,⟨fun j blk hj=>?_,fun i j bi bj b Ni Nj hi hj hni rI W6 LL=>?_,fun i hi=>?_,hr.ro⟩,?_,⟨rfl,rfl,rfl,aKQ _,fun _ h=>h,fun _ _ _=>rfl,fun b hl=>?_,fun _ h=>.inl h,(by first | exact aKQ _ | exact a9p _),fun i bn hi hb=>?_⟩⟩
   ·obtain⟨b,y',rJ,rfl,k2,k3,k4⟩:=zI L.dS hz j blk hj;rw [aZ3] at k2;obtain⟨n,N,h1,h2,h3⟩:=hr.live _ _ k2;obtain⟨h4,h5⟩:=b.aA8 (ρ':=eN) k3 h3 (fun i hi=>hnm i (by simp only [aF.names,aLA];exact .inr (k4 i hi))) h2;exact⟨n,N,(aIA j (hlt j _ hj)).trans h1,h4,h5⟩
   ·have li:=hlt i bi hi;have lj:=hlt j bj hj;rw [aIA i li] at hni;rw [aIA j lj] at rI;obtain⟨b1,y1,aOu,_,k2,_,_⟩:=zI L.dS hz i bi hi;obtain⟨b2,y2,a9Z,_,k4,_,_⟩:=zI L.dS hz j bj hj;rw [aZ3] at k2 k4;exact hinj i j li lj (hr.inj _ _ _ _ b Ni Nj k2 k4 hni rI W6 LL)
   ·show(if i<L.dS.length then ρ (σ i) else none)=none;rw [aJn];have:(gH L.dS z).length≤i:=hi;rw [sF] at this;omega
   ·refine aLm ha L.fH hy (fun i hi=>hnm i (by simp only [aF.names,aLA];exact .inl hi)) ?_;refine⟨by rw [List.length_replicate,← c3];exact ha.1,fun k c u hk hu=>?_⟩;rw [List.getElem?_replicate] at hk
    split at hk
    ·simp only [aJp] at hk;subst hk;exact .any _
    ·cases hk
   ·obtain⟨j,blk,N,hj,hn,hg⟩:=hl;have lj:=hlt j blk hj;rw [aIA j lj] at hn;obtain⟨b2,y2,a9Z,_,k4,_,_⟩:=zI L.dS hz j blk hj;rw [aZ3] at k4;exact .inl ⟨_,a9Z,N,k4,hn,hg⟩
   ·obtain⟨p1,p2⟩:=aEY p 0 _ c5;have bFh:σ i=i:=by rw [← hσ];simpa using p2 i hi
    rw [aIA i (by omega),bFh];exact hb
  ·cases hd
 ·cases hd
theorem aF.ok (p:Nat)(L:aF)(s:AS)(x:L.El)(hd:L.dec p s=some x):M1 p s (L.enc x):=by
 intro R ρ a w hr ha;obtain⟨_,_,_,_,h⟩:=L.okX p s x hd;obtain⟨eN,_,h1,h2,h3⟩:=h R ρ a w hr ha;exact⟨R,eN,h1,h2,h3⟩
end
theorem M1.trans {p:Nat}{s s1 s2:AS}(h:M1 p s s1)(k:M1 p s1 s2):M1 p s s2:=by
 intro R ρ a w hr ha;obtain⟨R1,eN,r1,a1,f1⟩:=h R ρ a w hr ha;obtain⟨R2,y7,r2,a2,f2⟩:=k R1 eN a w r1 a1;exact⟨R2,y7,r2,a2,f1.trans f2⟩
def eP (s s1:AS):Prop:=∀ (R:Nat→Prop) (ρ:Nm) (a:Act) (w:World),Rel R ρ s.h w→b9 w R ρ s.r a→∃ R1 eN,Rel R1 eN s1.h w∧b9 w R1 eN s1.r a∧fB R ρ s.h w R1 eN s1.h w
theorem eP.refl (s:AS):eP s s:=fun R ρ a w hr ha=>⟨R,ρ,hr,ha,fB.refl _ _ _ _⟩
theorem eP.trans {s s1 s2:AS}(h:eP s s1)(k:eP s1 s2):eP s s2:=by
 intro R ρ a w hr ha;obtain⟨R1,eN,r1,a1,f1⟩:=h R ρ a w hr ha;obtain⟨R2,y7,r2,a2,f2⟩:=k R1 eN a w r1 a1;exact⟨R2,y7,r2,a2,f1.trans f2⟩
theorem eP.weak {p:Nat}{s s1:AS}(h:eP s s1):M1 p s s1:=by
 intro R ρ a w hr ha;obtain⟨R1,eN,r1,a1,f1⟩:=h R ρ a w hr ha;exact⟨R1,eN,r1,a1,f1.weak⟩
inductive qO where
 | bU (t:Nat) (bt:TypeId) (ty:Ty)
 | jX (t:Nat) (ty:Ty)
 | cG (t o:Nat) (bt:TypeId) (ty:Ty)
 | nT (t o:Nat) (ty:Ty)
 | dJ (t:Nat) (bt:TypeId) (ty:Ty)
def aA9 (t:Nat)(bt:TypeId)(ty:Ty)(s:AS):AS:=match s.r[t]? with
 | some (.own sz i 0 n)=>match s.h[i]? with
  | some (some (.cells b cs))=>if sz=ty.sz∧b=bt then(match ty.chunks n cs with
   | some l=>⟨s.r.set t (.bL ty s.h.length),s.h.set i none++[some (.row bt ty l)]⟩
   | none=>s) else s
  | _=>s
 | _=>s
def qO.run:qO→AS→AS
 | .dJ t bt ty,s=>aA9 t bt ty s
 | .bU t bt ty,s=>match s.r[t]? with
  | some .eY=>⟨s.r.set t (.bL ty s.h.length),s.h++[some (.row bt ty [])]⟩
  | _=>s
 | .jX t ty,s=>match s.r[t]? with
  | some v=>match ty.kQ s.h v with
   | some (x,h')=>⟨s.r.set t (ty.enc x),h'⟩
   | none=>s
  | none=>s
 | .cG t o bt ty,s=>match s.r[t]? with
  | some (.ptr k _)=>match s.h[k]? with
   | some (some (.cells b cs))=>match cs[o]? with
    | some .eY=>⟨s.r,(s.h++[some (cQ.row bt ty [])]).set k (some (cQ.cells b (cs.set o (.bL ty s.h.length))))⟩
    | _=>s
   | _=>s
  | _=>s
 | .nT t o ty,s=>match s.r[t]? with
  | some (.ptr k _)=>match s.h[k]? with
   | some (some (.cells b cs))=>match ty.xR s.h ((cs.drop o).take ty.sz) with
    | some (x,h')=>match h'[k]? with
     | some (some _)=>⟨s.r,h'.set k (some (cQ.cells b (cs.take o++(ty.enc x).cells++cs.drop (o+ty.sz))))⟩
     | _=>s
    | none=>s
   | _=>s
  | _=>s
section
variable {w:World}{R:Nat→Prop}{ρ:Nm}{h:AH}
theorem NH {us:List Value}{k:Nat}{u:Value}(hu:us[k]?=some u):us.set k u=us:=by
 apply List.ext_getElem?;intro j;rw [aXL]
 split
 ·rename_i hk;subst hk;rw [hu,aJb (aK2.1 hu).1]
 ·rfl
theorem aOF (t:Nat)(bt:TypeId)(ty:Ty)(s:AS):eP s (aA9 t bt ty s):=by
 unfold aA9
 split
 ·rename_i sz i n hv
  split
  ·rename_i b0 cs hi
   split
   ·rename_i hc;obtain⟨rfl,rfl⟩:=hc
    split
    ·rename_i l hl;intro R ρ a w hr ha;obtain⟨u,hu,hvu⟩:=ha.get hv;obtain⟨b,N,hn,hb,gG⟩:=hr.live _ _ hi;obtain⟨hg,bJ⟩:=gG.cells;obtain⟨k1,k2,k3⟩:=ty.IG hl;cases hvu with
     | @own _ _ _ _ b' N' cap hn' hle hcN=>
     rw [hn] at hn';simp only [aJp,aKN] at hn';obtain⟨rfl,rfl⟩:=hn';have hb1:=hb.O6 k2 (fun us h=>k3 _ _ _ us h);have hb2:dY w R ρ b ⟨N.n,l.length,false⟩ (.row b0 ty l):=j8 (by
      obtain⟨arr,q1,q2,q3,q4⟩:=hb1;exact⟨arr,q1,q2,q3,q4⟩) rfl
     obtain⟨r1,f1⟩:=C4 (N':=⟨N.n,l.length,false⟩) hr hi hn hg rfl hb2;refine⟨R,_,r1,?_,f1⟩;have ha2:b9 w R _ s.r a:=ha.EM f1 hr;have v1:aI w R (ρ.W5 s.h.length (b,⟨N.n,l.length,false⟩)) (.bL ty s.h.length) (.slice (some ⟨b,0,none⟩) n cap):=by
      have:=aI.bL (w:=w) (R:=R) (t:=ty) (ρ:=ρ.W5 s.h.length (b,⟨N.n,l.length,false⟩)) (i:=s.h.length) (b:=b) (N:=⟨N.n,l.length,false⟩) (cap:=cap) (Nm.cD _ _ _) rfl (by show l.length≤cap;omega) (by show cap*ty.sz≤N.n;omega);rw [← k1];exact this
     have:=aK.set ha2 t v1
     rwa [NH hu] at this
    ·exact eP.refl s
   ·exact eP.refl s
  ·exact eP.refl s
 ·exact eP.refl s
theorem qO.ok (p:qO)(s:AS):eP s (p.run s):=by
 cases p with
 | dJ t bt ty=>exact aOF t bt ty s
 | bU t bt ty=>
  simp only [qO.run]
  split
  ·rename_i hv;intro R ρ a w hr ha;obtain⟨r1,f1,v1⟩:=zA hr bt ty;obtain⟨u,hu,hvu⟩:=ha.get hv;refine⟨R,_,r1,?_,f1⟩;have ha2:b9 w R _ s.r a:=ha.EM f1 hr;cases hvu;have:=aK.set ha2 t v1
   rwa [NH hu] at this
  ·exact eP.refl s
 | jX t ty=>
  simp only [qO.run]
  split
  ·rename_i v hv
   split
   ·rename_i x h' hf;intro R ρ a w hr ha;obtain⟨u,hu,hvu⟩:=ha.get hv;obtain⟨R1,r1,f1,v1⟩:=ty.C5 hr hf hvu;refine⟨R1,ρ,r1,?_,f1⟩;have ha2:b9 w R1 ρ s.r a:=ha.EM f1 hr;have:=aK.set ha2 t v1
    rwa [NH hu] at this
   ·exact eP.refl s
  ·exact eP.refl s
 | cG t o bt ty=>
  simp only [qO.run]
  split
  ·rename_i k off hp
   split
   ·rename_i b cs hk
    split
    ·rename_i hv;intro R ρ a w hr ha;obtain⟨r1,f1,v1⟩:=zA hr bt ty;have hkl:k<s.h.length:=(aK2.1 hk).1;have hk1:(s.h++[some (cQ.row bt ty [])])[k]?=some (some (.cells b cs)):=by rw [aZ8 hkl];exact hk
     obtain⟨n,N,hn,hb,gG⟩:=r1.live _ _ hk1;obtain⟨hg,bJ⟩:=gG.cells;have hb2:dY w R (ρ.W5 s.h.length (0,⟨0,0,true⟩)) n N (.cells b (cs.set o (.bL ty s.h.length))):=by
      obtain⟨arr,h1,h2,h3,h4⟩:=hb;refine⟨arr,h1,h2,by rw [aXK];exact h3,?_⟩;rw [aXK];obtain⟨u,hu,hvu⟩:=h4.get hv;cases hvu;have:=aK.set h4 o v1
      rwa [NH hu] at this
     obtain⟨r2,f2⟩:=jV r1 hk1 hn hg hb2;exact⟨R,_,r2,(ha.EM f1 hr).EM f2 r1,f1.trans f2⟩
    ·exact eP.refl s
   ·exact eP.refl s
  ·exact eP.refl s
 | nT t o ty=>
  simp only [qO.run]
  split
  ·rename_i k off hp
   split
   ·rename_i b cs hk
    split
    ·rename_i x h' hf
     split
     ·rename_i blk hk1;intro R ρ a w hr ha;have hk2:=PB ty hf k blk hk1;rw [hk] at hk2;simp only [aJp] at hk2;subst hk2;obtain⟨n,N,hn,hb,gG⟩:=hr.live _ _ hk;obtain⟨hg,bJ⟩:=gG.cells;obtain⟨arr,h1,h2,h3,h4⟩:=hb;obtain⟨R1,r1,f1,v1⟩:=ty.zD hf hr ((h4.drop o).take ty.sz);have h5:aK w R1 ρ cs (arr.toList.take cs.length):=h4.EM f1 hr;have h6:=((h5.take o).append v1).append (h5.drop (o+ty.sz));have e:(arr.toList.take cs.length).take o++((arr.toList.take cs.length).drop o).take ty.sz++(arr.toList.take cs.length).drop (o+ty.sz)=arr.toList.take cs.length:=by
       rw [← List.drop_drop,aQ4,a9u,a9u]
      rw [e] at h6;have hlen:(cs.take o++(ty.enc x).cells++cs.drop (o+ty.sz)).length=cs.length:=by
       have h7:=h6.1;have h8:=h5.1;omega
      have hb2:dY w R1 ρ n N (.cells b (cs.take o++(ty.enc x).cells++cs.drop (o+ty.sz))):=
       ⟨arr,h1,h2,by rw [hlen];exact h3,by rw [hlen];exact h6⟩
      obtain⟨r2,f2⟩:=jV r1 hk1 hn hg hb2;exact⟨R1,ρ,r2,(ha.EM f1 hr).EM f2 r1,f1.trans f2⟩
     ·exact eP.refl s
    ·exact eP.refl s
   ·exact eP.refl s
  ·exact eP.refl s
end
def jP:List qO→AS→AS
 | [],s=>s
 | p :: r,s=>jP r (p.run s)
theorem pI:∀ (ps:List qO) (s:AS),eP s (jP ps s)
 | [],s=>eP.refl s
 | p :: r,s=>(p.ok s).trans (pI r (p.run s))
def aF.lay {p:Nat}(L:aF)(ps:List qO):Lay p L.El where
 enc:=L.enc
 dec:=fun s=>L.dec p (jP ps s)
 ok:=fun s x h=>(pI ps s).weak.trans (L.ok p _ x h)
def AV.slots:AV→List Nat
 | .ptr i _ | .own _ i _ _ | .bL _ i | .qP _ i _ _ | .map i=>[i]
 | .iface _ v=>v.slots
 | _=>[]
def pJ:List AV→List Nat
 | []=>[]
 | .agg cs :: r=>cs.flatMap AV.slots++pJ r
 | .func _ a b :: r=>a.flatMap AV.slots++b.flatMap AV.slots++pJ r
 | .xF vs :: r=>vs.flatMap AV.slots++pJ r
 | v :: r=>v.slots++pJ r
def mY (S:List Nat)(h:AH):AH:=h.mapIdx fun k b=>if S.contains k then b else none
def kW (S:List Nat)(h h':AH):AH:=(h.mapIdx fun k b=>if S.contains k then(h'[k]?).join else b)++h'.drop h.length
def PW (xs:List Operand):List Nat:=xs.filterMap fun
 | .tmp t=>some t
 | _=>none
def evM (rd:List Nat)(r:List AV):Operand→Option AV
 | .tmp t=>if rd.contains t then evO r (.tmp t) else none
 | x=>evO r x
structure FP where
 i:Nat
 rd:List Nat
 dst:Option Nat
 sl:List Nat
 tch:List Nat
def aEZ:Op→Bool
 | .nilCheck _ | .move _ | .assign _ | .pick .. | .load .. | .binOp .. | .unOp .. | .fieldAddr .. | .field .. | .indexAddr .. | .index .. | .lookup .. | .extract .. | .build .. | .makeFunc .. | .makeInterface .. | .typeAssert ..=>true
 | .slice _ _ none (some _) none=>false
 | .slice _ _ _ _ none=>true
 | .call c=>match c.callee with
  | .builtin .len=>true
  | _=>false
 | _=>false
def aLn (C:dI)(T:Tb)(ev:Operand→Option AV):Op→Bool
 | .call c=>match c.callee with
  | .value f=>match ID ev c.args.toList,ev f with
   | some xs,some (.func g first eA)=>C.aX3 g&&(match T.fn g (keysOf (first++xs++eA)) with
    | some e=>!e.hid&&mX e.rs
    | none=>false)
   | _,_=>false
  | _=>false
 | _=>false
def IV (C:dI)(T:Tb)(ev:Operand→Option AV)(op:Op):Bool:=aEZ op||aLn C T ev op
def aLo:Op→Bool
 | .move _ | .assign _ | .pick .. | .fieldAddr .. | .extract .. | .build .. | .makeFunc ..=>true
 | _=>false
def YM (b:Bool)(l:List Nat):List Nat:=match b with
 | true=>[]
 | false=>l
theorem aOG {b:Bool}{l:List Nat}{x:Nat}(h:x∈YM b l):x∈l:=by
 cases b with
 | true=>simp [YM] at h
 | false=>exact h
def a38 (a b:List Nat):Bool:=a.all fun x=>!b.contains x
def mR (x y:FP):Bool:=
 a38 x.tch y.sl&&a38 y.tch x.sl &&
 (match x.dst with | some d=>!y.rd.contains d&&!(y.dst==some d) | none=>true) &&
 (match y.dst with | some d=>!x.rd.contains d | none=>true)
def nU (before:Array Nat)(i j:Nat):Bool:=(before.getD i 0).testBit j
def sG (before:Array Nat):List FP→Bool
 | []=>true
 | x :: r=>r.all (fun y=>nU before x.i y.i||mR x y)&&sG before r
def aRE:AV→Bool
 | .int .. | .bool ..=>true
 | _=>false
def IW:AV→Bool
 | .iface _ (.agg cs)=>cs.all aRE
 | _=>false
theorem aOH {v:AV}(h:aRE v=true){w w':World}{R R':Nat→Prop}{ρ ρ':Nm}{u:Value}(hv:aI w R ρ v u):aI w' R' ρ' v u:=by
 cases v <;> simp [aRE] at h
 ·cases hv;exact .int _ _
 ·cases hv;exact .bool _
theorem aIB {v:AV}(h:IW v=true){w w':World}{R R':Nat→Prop}{ρ ρ':Nm}{u:Value}(hv:aI w R ρ v u):aI w' R' ρ' v u:=by
 unfold IW at h
 split at h
 ·cases hv with
  | iface h1=>
  obtain⟨us,rfl,fE⟩:=h1.fU;refine .iface (.xH ⟨fE.1,fun k c u hc hu=>aOH (aQ6.1 h c (aPl hc)) (fE.2 k c u hc hu)⟩)
 ·cases h
section
variable {β:Type}
def E6 (C:dI)(T:Tb)(ops:Array Oper)(m:Nat):List Nat→AS→List FP→Option β→Option β
 | [],s,qR,z=>if sG (Region.before ops) qR then z else none
 | i :: rest,s,qR,z=>match ops[i]? with
  | none=>none
  | some o=>
   let gd:=match o.guard with
    | some (j,_)=>match (ops[j]?).bind (·.dst) with
     | some d=>[d]
     | none=>[]
    | none=>[]
   let rd:=PW o.op.operands.toList
   if nU (Region.before ops) i m then
    let S:=YM (aLo o.op) (pJ (rd.map fun t=>(s.r[t]?).getD .undef))
    E6 C T ops m rest ⟨lS s.r o.dst .undef,s.h⟩ (⟨i,gd++rd,o.dst,S,S⟩ :: qR) z
   else
   PL ops s.r o
    (fun r=>
     let S:=YM (aLo o.op) (pJ (rd.map fun t=>(r[t]?).getD .undef))
     aER C T (mY S s.h) (evM rd r) o.op (fun v h'=>
      if IV C T (evM rd r) o.op then E6 C T ops m rest ⟨lS r o.dst v,s.h⟩ (⟨i,gd++rd,o.dst,S,[]⟩ :: qR) z
      else E6 C T ops m rest ⟨lS r o.dst v,kW S s.h h'⟩ (⟨i,gd++rd,o.dst,S,S⟩ :: qR) z) (fun _ _=>none))
    (fun r=>E6 C T ops m rest ⟨lS r o.dst .undef,s.h⟩ (⟨i,gd,o.dst,[],[]⟩ :: qR) z)
def aE0 (C:dI)(T:Tb)(ops:Array Oper):List Nat→AS→List FP→(AX→AS→Option β)→Option β
 | [],s,qR,K=>if sG (Region.before ops) qR then K .normal s else none
 | i :: rest,s,qR,K=>match ops[i]? with
  | none=>none
  | some o=>
   let gd:=match o.guard with
    | some (j,_)=>match (ops[j]?).bind (·.dst) with
     | some d=>[d]
     | none=>[]
    | none=>[]
   let rd:=PW o.op.operands.toList
   PL ops s.r o
    (fun r=>
     let S:=YM (aLo o.op) (pJ (rd.map fun t=>(r[t]?).getD .undef))
     aER C T (mY S s.h) (evM rd r) o.op (fun v h'=>
      if IV C T (evM rd r) o.op then aE0 C T ops rest ⟨lS r o.dst v,s.h⟩ (⟨i,gd++rd,o.dst,S,[]⟩ :: qR) K
      else aE0 C T ops rest ⟨lS r o.dst v,kW S s.h h'⟩ (⟨i,gd++rd,o.dst,S,S⟩ :: qR) K)
      (fun v _=>if IW v then E6 C T ops i rest ⟨lS r o.dst .undef,s.h⟩ (⟨i,gd++rd,o.dst,S,S⟩ :: qR) (K (.fN v) (XE C.dB r.length)) else none))
    (fun r=>aE0 C T ops rest ⟨lS r o.dst .undef,s.h⟩ (⟨i,gd,o.dst,[],[]⟩ :: qR) K)
end
structure Kw (w w':World):Prop where
 os:w'.os=w.os
 tape:w'.tape=w.tape
 output:w'.output=w.output
 size:w.heap.size≤w'.heap.size
 keep:∀ b,b<w.heap.size→w'.heap[b]?=w.heap[b]?
 kQ:w.drawn≤w'.drawn
theorem Kw.refl (w:World):Kw w w:=⟨rfl,rfl,rfl,aKQ _,fun _ _=>rfl,(by first | exact aKQ _ | exact a9p _)⟩
def xW (P:Program)(op:Op)(ev:Operand→Option AV)(h:AH)(v:AV):Prop:=
 ∀ (R:Nat→Prop) (ρ:Nm) (w:World) (a:Act) (o:Oper),o.op=op→Rel R ρ h w→pF w R ρ ev a →
  ∀ (K:Act→World→Prop) (Q:Exit→Act→World→Prop),(∀ u w',Kw w w'→aI w' R ρ v u→K (a.put o.dst u) w')→o.wp P a w K Q
section
variable {C:dI}{T:Tb}{h:AH}{ev:Operand→Option AV}{β:Type}{op:Op}{v:AV}
theorem xW.iK {P:Program}(hs:∀ (R:Nat→Prop) (ρ:Nm) (w:World) (a:Act) (o:Oper),o.op=op→Rel R ρ h w→pF w R ρ ev a→∃ u,(execOp a.eval o).run P w=.ok (.value u) w∧aI w R ρ v u):xW P op ev h v:=by
 intro R ρ w a o hop hr cL K Q hK;obtain⟨u,h1,h2⟩:=hs R ρ w a o hop hr cL;unfold Oper.wp;rw [h1];exact hK _ _ (Kw.refl w) h2
theorem xW.iO (f:(Operand→Value)→Sem Value)(hex:∀ (a:Act) (o:Oper),o.op=op→execOp a.eval o=(do pure (.value (← f a.eval))))
  (hs:∀ R ρ w (a:Act),Rel R ρ h w→pF w R ρ ev a→∃ r,(f a.eval).run C.P w=.ok r w∧aI w R ρ v r):xW C.P op ev h v:=by
 refine .iK fun R ρ w a o hop hr cL=>?_;obtain⟨r,h1,h2⟩:=hs R ρ w a hr cL;exact⟨r,by rw [hex a o hop];exact j9 h1,h2⟩
theorem xW.zK (hC:C.Ok)(ho:o8 C h ev op=some v):xW C.P op ev h v:=by
 refine .iK fun R ρ w a o hop hr cL=>?_;subst hop;exact X5 hC hr cL ho
theorem aRF (hC:C.Ok){op:Op}{K Kp:AV→AH→Option β}{z:β}(hp:aEZ op=true)(hx:aER C T h ev op K Kp=some z):∃ v,xW C.P op ev h v∧K v h=some z:=by
 unfold aER at hx
 split at hx
 ·rename_i x;obtain⟨v,hv,hK⟩:=g9 hx;exact⟨v,.iK fun R ρ w a o hop hr cL=>by
   obtain⟨dst,op,type,pos,after,guard⟩:=o;subst hop;exact⟨_,rfl,cL _ _ hv⟩,hK⟩
 ·rename_i x;obtain⟨v,hv,hK⟩:=g9 hx;exact⟨v,.iK fun R ρ w a o hop hr cL=>by
   obtain⟨dst,op,type,pos,after,guard⟩:=o;subst hop;exact⟨_,rfl,cL _ _ hv⟩,hK⟩
 ·rename_i c x y;obtain⟨cv,hc,hx⟩:=eB hx;unfold aRu at hx
  split at hx
  ·rename_i b;have key:∀ (p:Operand) (v:AV),(p=if b then x else y)→ev p=some v→xW C.P (.pick c x y) ev h v:=by
    intro p v hp hv;refine .iK fun R ρ w a o hop hr cL=>?_;obtain⟨dst,op,type,pos,after,guard⟩:=o;subst hop;have h1:=cL _ _ hc;refine⟨a.eval p,?_,cL _ _ hv⟩;simp only [execOp];generalize hcv:a.eval c=cv' at h1;cases h1;subst hp;cases b <;> simp [asBool]
   rcases cF hx with⟨hb,hx⟩ | ⟨hb,hx⟩
   ·obtain⟨v,hv,hK⟩:=g9 hx;exact⟨v,key x v (by rw [hb];rfl) hv,hK⟩
   ·obtain⟨v,hv,hK⟩:=g9 hx;exact⟨v,key y v (by rw [hb];rfl) hv,hK⟩
  ·cases hx
 ·rename_i t x;obtain⟨xv,xG,hx⟩:=eB hx;obtain⟨v,hl,hK⟩:=g9 hx;exact⟨v,.iO (fun f=>Instr.loadAt t (f x)) (fun a o hop=>by obtain⟨_,_,_,_,_,_⟩:=o;subst hop;rfl) fun R ρ w a hr cL=>aEH hr (cL _ _ xG) hl,hK⟩
 ·rename_i x
  split at hx
  ·rename_i t i j o hv;refine⟨_,.iK fun R ρ w a o hop hr cL=>?_,hx⟩;obtain⟨dst,op,type,pos,after,guard⟩:=o;subst hop;have h1:=cL _ _ hv;simp only [execOp];generalize a.eval x=u at h1;cases h1 with
   | qP hn hj=>exact⟨_,rfl,.qP hn hj⟩
  ·unfold E3 at hx
   split at hx
   ·rename_i v h' ho;unfold opA at ho
    split at ho
    ·rename_i v1 hp1;injection ho with ho
     injection ho with e1 e2
     subst e1;subst e2;exact⟨_,.zK hC hp1,hx⟩
    ·simp at ho
   ·rename_i h' ho;unfold opA at ho
    split at ho
    ·injection ho with ho;cases ho
    ·simp at ho
   ·cases hx
 ·rename_i op t x y ty;obtain⟨xv,xG,hx⟩:=eB hx;obtain⟨yv,hyv,hx⟩:=eB hx;obtain⟨v,hb,hK⟩:=aLd hx;refine⟨v,.zK hC ?_,hK⟩;simp only [o8,xG,hyv,hb]
 ·rename_i t x lo hi;obtain⟨xv,xG,hx⟩:=eB hx
  split at hx
  ·cases hp
  obtain⟨v,hK,hs⟩:=YB hx;refine⟨v,.iO (fun f=>Instr.sliceAt t (f x) (lo.map f) (hi.map f) none) (fun a o hop=>by obtain⟨_,_,_,_,_,_⟩:=o;subst hop;rfl) fun R ρ w a hr cL=>?_,hK⟩;refine hs w R ρ _ _ _ hr (cL _ _ xG) ?_ ?_ ?_ ?_
  ·intro b hb;obtain⟨x,rfl,LU⟩:=aPV.1 hb;exact⟨_,rfl,cL _ _ LU⟩
  ·intro b hb;obtain⟨x,rfl,LU⟩:=aPV.1 hb;exact⟨_,rfl,cL _ _ LU⟩
  ·intro hb;rw [Option.map_eq_none_iff] at hb;rw [hb];rfl
  ·intro hb;rw [Option.map_eq_none_iff] at hb;rw [hb];rfl
 ·rename_i s x f;obtain⟨xv,xG,hx⟩:=eB hx;obtain⟨v,hl,hK⟩:=g9 hx;exact⟨v,.iO (fun g=>Instr.fieldAt s (g x) f) (fun a o hop=>by obtain⟨_,_,_,_,_,_⟩:=o;subst hop;rfl) fun R ρ w a hr cL=>B5 hl (cL _ _ xG),hK⟩
 ·rename_i t x ix;obtain⟨xv,xG,hx⟩:=eB hx;obtain⟨iv,hiv,hx⟩:=eB hx;obtain⟨v,hK,hs⟩:=B4 hx;exact⟨v,.iO (fun g=>Instr.indexAt t (g x) (g ix)) (fun a o hop=>by obtain⟨_,_,_,_,_,_⟩:=o;subst hop;rfl) fun R ρ w a hr cL=>hs R ρ w _ _ hr (cL _ _ xG) (cL _ _ hiv),hK⟩
 ·rename_i t x ix;obtain⟨xv,xG,hx⟩:=eB hx;obtain⟨iv,hiv,hx⟩:=eB hx;obtain⟨v,hb,hK⟩:=YC hx;refine⟨v,.zK hC ?_,hK⟩;simp only [o8,xG,hiv,hb]
 ·rename_i t x k ok;obtain⟨xv,xG,hx⟩:=eB hx;obtain⟨kv,hkv,hx⟩:=eB hx;obtain⟨v,hK,hl⟩:=aEQ hx;exact⟨v,.iO (fun g=>Instr.lookup t (g x) (g k) ok) (fun a o hop=>by obtain⟨_,_,_,_,_,_⟩:=o;subst hop;rfl) fun R ρ w a hr cL=>hl R ρ w _ _ hr (cL _ _ xG) (cL _ _ hkv),hK⟩
 ·cases hp
 ·cases hp
 ·cases hp
 ·rename_i c;simp only [aEZ] at hp
  split at hp
  ·rename_i BT;simp only [zG,BT] at hx
   split at hx
   ·rename_i t rest x hts hxs;obtain⟨v,hl,hK⟩:=g9 hx;refine⟨v,.iK fun R ρ w a o hop hr cL=>?_,hK⟩;obtain⟨dst,op,type,pos,after,guard⟩:=o;subst hop;have hvs:=mN (f:=a.eval) cL hxs;obtain⟨u,nG,W9,g1,g2⟩:=hvs.cons_inv;obtain rfl:=g2.bE;have e1:c.argTypes[0]?=some t:=by rw [← aQ3,hts];rfl
    have e2:(c.args.map a.eval)[0]?=some u:=by
     have:(c.args.map a.eval)=#[u]:=aRl.1 (by simpa using W9);rw [this];rfl
    obtain⟨r,k1,k2⟩:=aLe (C:=C) (ty:=type) hr hl g1 e1 (c.args.map a.eval) e2;refine⟨r,?_,k2⟩;have:(execOp a.eval { dst:=dst,op:=.call c,type:=type,pos:=pos,after:=after,guard:=guard })=(do pure (.value (← Builtin.len_ c.argTypes type (c.args.map a.eval))):Sem Next):=by
     simp [execOp,resolve,BT,invoke];rfl
    rw [this];exact j9 k1
   ·cases hx
  ·cases hp
 ·cases hp
 ·cases hp
 ·rename_i hnc _ _;unfold E3 at hx
  split at hx
  ·rename_i v h' ho;unfold opA at ho
   split at ho
   ·rename_i v1 hp1;injection ho with ho
    injection ho with e1 e2
    subst e1;subst e2;exact⟨_,.zK hC hp1,hx⟩
   ·rename_i hp1;cases op with
    | call c=>exact absurd rfl (hnc c)
    | build t ps=>
     simp only [aPV] at ho;obtain⟨av,hb,he⟩:=ho;injection he with e1 e2
     subst e1;subst e2;exact⟨_,.iO (fun f=>Instr.build t (ps.map fun p=>(p.1,f p.2))) (fun a o hop=>by obtain⟨_,_,_,_,_,_⟩:=o;subst hop;rfl) (fun R ρ w a hr cL=>X6 cL hb),hx⟩
    | _=>first | (simp [aEZ] at hp;done) | (simp at ho;done)
  ·rename_i h' ho;unfold opA at ho
   split at ho
   ·injection ho with ho;cases ho
   ·cases op with
    | call c=>exact absurd rfl (hnc c)
    | _=>first | (simp [aEZ] at hp;done) | (simp at ho;done)
  ·cases hx
theorem aBa (hC:C.Ok)(hT:T.Ok C.P){c:Call}{K Kp:AV→AH→Option β}{z:β}(hp:aLn C T ev (.call c)=true)(hx:zG C T h ev c K Kp=some z):∃ v,xW C.P (.call c) ev h v∧K v h=some z:=by
 simp only [aLn] at hp
 split at hp
 ·rename_i f BT
  split at hp
  ·rename_i xs g first eA hxs hg
   simp only [aKS] at hp;obtain⟨hfn,hp⟩:=hp
   split at hp
   ·rename_i e he;simp only [aKS,a1K] at hp;obtain⟨bFi,hnr⟩:=hp;simp only [zG,BT,hxs,hg,hfn,if_true,aLg,he] at hx
    split at hx
    ·rename_i x h1 hf;obtain⟨y,hy,hK⟩:=aXE.1 hx;rw [bFi,hnr] at hK;simp only [aZC,if_false,if_true] at hK;refine⟨_,fun R ρ w a o hop hr cL K' Q hKK=>?_,hK⟩;have hA:opA C h ev o.op=some (.call g (first++xs++eA)):=by
      rw [hop];simp only [opA,o8,BT,hxs,hg,hfn,if_true]
     obtain⟨us,hrun,hvs⟩:=IE hC hr cL hA;unfold Oper.wp;rw [hrun];simp only [Oper.upon];obtain⟨R1,r1,f1,v1⟩:=gA e.ps hf hr hvs;refine((hT.fn g _ e he x y hy).xU (dP _ _) (.eE (gB _ _)) r1 v1).mono ?_;rintro ee w' ⟨R',u,rfl,hu,r2,f2,hkp⟩;exact hKK _ _ ⟨f2.os,f2.tape,f2.output,f2.size,hkp,f2.kQ⟩ (IM hnr hu)
    ·cases hx
   ·cases hp
  ·cases hp
 ·cases hp
theorem YN (hC:C.Ok)(hT:T.Ok C.P){op:Op}{K Kp:AV→AH→Option β}{z:β}(hp:IV C T ev op=true)(hx:aER C T h ev op K Kp=some z):∃ v,xW C.P op ev h v∧K v h=some z:=by
 unfold IV at hp;rcases Bool.or_eq_true_iff.1 hp with hp | hp
 ·exact aRF hC hp hx
 ·cases op with
  | call c=>exact aBa hC hT hp hx
  | _=>simp [aLn] at hp
end
inductive Did where
 | no
 | pure (v:AV)
 | eff (v:AV) (h:AH)
 | gone
def eH (ops:Array Oper)(o:Oper):List Nat:=match o.guard with
 | some (j,_)=>match (ops[j]?).bind (·.dst) with
  | some d=>[d]
  | none=>[]
 | none=>[]
def eC (o:Oper):List Nat:=PW o.op.operands.toList
def dD (o:Oper)(s:AS):List Nat:=YM (aLo o.op) (pJ ((eC o).map fun t=>(s.r[t]?).getD .undef))
def jQ (o:Oper)(s:AS):Did→AS
 | .no=>⟨lS s.r o.dst .undef,s.h⟩
 | .pure v=>⟨lS s.r o.dst v,s.h⟩
 | .eff v h'=>⟨lS s.r o.dst v,kW (dD o s) s.h h'⟩
 | .gone=>⟨lS s.r o.dst .undef,s.h⟩
def aIC (ops:Array Oper)(i:Nat)(o:Oper)(s:AS):Did→FP
 | .no=>⟨i,eH ops o,o.dst,[],[]⟩
 | .pure _=>⟨i,eH ops o++eC o,o.dst,dD o s,[]⟩
 | .eff _ _=>⟨i,eH ops o++eC o,o.dst,dD o s,dD o s⟩
 | .gone=>⟨i,eH ops o++eC o,o.dst,dD o s,dD o s⟩
def aE1 (C:dI)(ops:Array Oper)(o:Oper)(s:AS):Did→Prop
 | .no=>iZ ops s.r o=some false
 | .pure v=>iZ ops s.r o=some true∧xW C.P o.op (evM (eC o) s.r) (mY (dD o s) s.h) v
 | .eff v h'=>iZ ops s.r o=some true∧fI C.P o.op (evM (eC o) s.r) (mY (dD o s) s.h) v h'
 | .gone=>True
theorem E7 (o:Oper)(s:AS)(d:Did):(jQ o s d).r.length=s.r.length:=by
 have key:∀ v,(lS s.r o.dst v).length=s.r.length:=by
  intro v;unfold lS
  split
  ·simp
  ·rfl
 cases d <;> exact key _
def aID (C:dI)(ops:Array Oper)(p:Option (Nat×AV×AH))(i:Nat)(o:Oper)(s:AS)(d:Did):Prop:=
 (∀ m v h',p=some (m,v,h')→i=m→d=.gone∧iZ ops s.r o=some true∧E0 C.P o.op (evM (eC o) s.r) (mY (dD o s) s.h) v h'∧IW v=true) ∧
 (d=.gone→∃ m v h',p=some (m,v,h')∧(i=m∨nU (Region.before ops) i m=true))
inductive Walk (C:dI) (ops:Array Oper) (p:Option (Nat×AV×AH)):List Nat→AS→List FP→AS→List FP→Prop
 | nil (s qR):Walk C ops p [] s qR s qR
 | cons {i rest s qR s' hY} (o:Oper) (d:Did) (ho:ops[i]?=some o) (hd:aE1 C ops o s d) (hg:aID C ops p i o s d) (hw:Walk C ops p rest (jQ o s d) (aIC ops i o s d :: qR) s' hY):Walk C ops p (i :: rest) s qR s' hY
section
variable {C:dI}{T:Tb}{β:Type}
theorem PX {γ:Type}{c:Bool}{a:Option γ}{z:γ}(h:(if c=true then a else none)=some z):c=true∧a=some z:=by
 split at h
 ·rename_i hc;exact⟨hc,h⟩
 ·cases h
theorem PY (hC:C.Ok)(hT:T.Ok C.P)(ops:Array Oper)(m:Nat)(pv:AV)(ph:AH):∀ (is:List Nat) (s:AS) (qR:List FP) (z0:Option β) (z:β),m∉is→E6 C T ops m is s qR z0=some z →
  ∃ s' hY,Walk C ops (some (m,pv,ph)) is s qR s' hY∧sG (Region.before ops) hY=true∧z0=some z
 | [],s,qR,z0,z,_,h=>by
  simp only [E6] at h;obtain⟨hc,h⟩:=PX h;exact⟨s,qR,.nil _ _,hc,h⟩
 | i :: rest,s,qR,z0,z,hm,h=>by
  have hi:i≠m:=fun e=>hm (e▸a1F);have hr:m∉rest:=fun e=>hm (a0y _ e);have no1:∀ {d:Did} {o:Oper} {s:AS},∀ m' v h',(some (m,pv,ph):Option (Nat×AV×AH))=some (m',v,h')→i=m'→d=.gone∧iZ ops s.r o=some true∧E0 C.P o.op (evM (eC o) s.r) (mY (dD o s) s.h) v h'∧IW v=true:=by
   intro d o s m' v h' e e2;injection e with e
   injection e with e3 e4
   exact absurd (e2.trans e3.symm) hi
  simp only [E6] at h;cases ho:ops[i]? with
  | none=>rw [ho] at h;cases h
  | some o=>
   rw [ho] at h;simp only at h;have more:∀ (d:Did),aE1 C ops o s d→(d=.gone→nU (Region.before ops) i m=true)→E6 C T ops m rest (jQ o s d) (aIC ops i o s d :: qR) z0=some z →
     ∃ s' hY,Walk C ops (some (m,pv,ph)) (i :: rest) s qR s' hY∧sG (Region.before ops) hY=true∧z0=some z:=by
    intro d hd hg hx;obtain⟨s',hY,k1,k2,k3⟩:=PY hC hT ops m pv ph rest _ _ z0 z hr hx;exact⟨s',hY,.cons o d ho hd ⟨no1,fun e=>⟨m,pv,ph,rfl,.inr (hg e)⟩⟩ k1,k2,k3⟩
   cases hin:nU (Region.before ops) i m with
   | true=>
    rw [hin] at h;simp only [if_true] at h;exact more .gone trivial (fun _=>hin) h
   | false=>
    rw [hin] at h;simp only [aZC,if_false] at h;rcases IQ h with⟨hw,h⟩ | ⟨hw,h⟩
    ·cases hp:IV C T (evM (PW o.op.operands.toList) s.r) o.op with
     | true=>
      simp only [hp,if_true] at h;obtain⟨v,hs,h⟩:=YN hC hT hp h;exact more (.pure v) ⟨hw,hs⟩ (fun e=>by cases e) h
     | false=>
      simp only [hp,aZC,if_false] at h;rcases aA1 hC hT h with⟨v,h',hs,h⟩ | ⟨v,h',hs,h⟩
      ·exact more (.eff v h') ⟨hw,hs⟩ (fun e=>by cases e) h
      ·cases h
    ·exact more .no hw (fun e=>by cases e) h
theorem YO (hC:C.Ok)(hT:T.Ok C.P)(ops:Array Oper):∀ (is:List Nat) (s:AS) (qR:List FP) (K:AX→AS→Option β) (z:β),is.Nodup→aE0 C T ops is s qR K=some z →
  (∃ s' hY,Walk C ops none is s qR s' hY∧sG (Region.before ops) hY=true∧K .normal s'=some z) ∨
  ∃ m v h' s' hY,m∈is∧Walk C ops (some (m,v,h')) is s qR s' hY∧sG (Region.before ops) hY=true∧K (.fN v) (XE C.dB s.r.length)=some z
 | [],s,qR,K,z,_,h=>by
  simp only [aE0] at h
  split at h
  ·rename_i hc;exact .inl ⟨s,qR,.nil _ _,hc,h⟩
  ·cases h
 | i :: rest,s,qR,K,z,hnd,h=>by
  obtain⟨hni,hnd⟩:=List.nodup_cons.1 hnd;simp only [aE0] at h;cases ho:ops[i]? with
  | none=>rw [ho] at h;cases h
  | some o=>
   rw [ho] at h;simp only at h;have more:∀ (d:Did),aE1 C ops o s d→d≠.gone→aE0 C T ops rest (jQ o s d) (aIC ops i o s d :: qR) K=some z →
     (∃ s' hY,Walk C ops none (i :: rest) s qR s' hY∧sG (Region.before ops) hY=true∧K .normal s'=some z) ∨
     ∃ m v h' s' hY,m∈i :: rest∧Walk C ops (some (m,v,h')) (i :: rest) s qR s' hY∧sG (Region.before ops) hY=true∧K (.fN v) (XE C.dB s.r.length)=some z:=by
    intro d hd gW hx;rcases YO hC hT ops rest _ _ K z hnd hx with⟨s',hY,k1,k2,k3⟩ | ⟨m,v,h',s',hY,k1,k2,k3,k4⟩
    ·exact .inl ⟨s',hY,.cons o d ho hd ⟨(fun m v h' e=>by cases e),fun e=>absurd e gW⟩ k1,k2,k3⟩
    ·rw [E7] at k4;refine .inr ⟨m,v,h',s',hY,a0y _ k1,.cons o d ho hd ⟨(fun m' v' h'' e e2=>?_),fun e=>absurd e gW⟩ k2,k3,k4⟩;injection e with e
     injection e with e3 e4
     exact absurd ((e2.trans e3.symm)▸k1) hni
   rcases IQ h with⟨hw,h⟩ | ⟨hw,h⟩
   ·cases hp:IV C T (evM (PW o.op.operands.toList) s.r) o.op with
    | true=>
     simp only [hp,if_true] at h;obtain⟨v,hs,h⟩:=YN hC hT hp h;exact more (.pure v) ⟨hw,hs⟩ (fun e=>by cases e) h
    | false=>
     simp only [hp,aZC,if_false] at h;rcases aA1 hC hT h with⟨v,h',hs,h⟩ | ⟨v,h',hs,h⟩
     ·exact more (.eff v h') ⟨hw,hs⟩ (fun e=>by cases e) h
     ·obtain⟨hc,h⟩:=PX h;obtain⟨s',hY,k1,k2,k3⟩:=PY hC hT ops i v h' rest _ _ _ z hni h;refine .inr ⟨i,v,h',s',hY,a1F,.cons o .gone ho trivial ⟨(fun m' v' h'' e _=>?_),fun _=>⟨i,v,h',rfl,.inl rfl⟩⟩ k1,k2,k3⟩;injection e with e
      injection e with e3 e4
      injection e4 with e4 e5
      subst e4;subst e5;exact⟨rfl,hw,hs,hc⟩
   ·exact more .no hw (fun e=>by cases e) h
end
section
variable {C:dI}{T:Tb}{β:Type}{ops:Array Oper}
theorem Walk.fn {p:Option (Nat×AV×AH)}:∀ (m k:Nat) (s:AS) (qR:List FP) (s':AS) (hY:List FP),Walk C ops p (List.range' k m) s qR s' hY →
  ∃ (st:Nat→AS) (op:Nat→Oper) (did:Nat→Did),st k=s∧st (k+m)=s' ∧
   (∀ i,k≤i→i<k+m→ops[i]?=some (op i)∧aE1 C ops (op i) (st i) (did i)∧st (i+1)=jQ (op i) (st i) (did i)∧aID C ops p i (op i) (st i) (did i)) ∧
   hY=((List.range' k m).map fun i=>aIC ops i (op i) (st i) (did i)).reverse++qR
 | 0,k,s,qR,s',hY,h=>by
  cases h;exact⟨fun _=>s,fun _=>default,fun _=>.no,rfl,rfl,fun i h1 h2=>by omega,by simp⟩
 | m+1,k,s,qR,s',hY,h=>by
  rw [List.range'_succ] at h;cases h with
  | cons o d ho hd hg hw=>
  obtain⟨st,op,did,h1,h2,h3,h4⟩:=Walk.fn m (k+1) _ _ _ _ hw;refine⟨fun i=>if i=k then s else st i,fun i=>if i=k then o else op i,fun i=>if i=k then d else did i,by simp,?_,fun i hi1 hi2=>?_,?_⟩
  ·have:k+(m+1)≠k:=by omega
   simp only [this,if_false];rw [← h2];congr 1;omega
  ·by_cases hk:i=k
   ·subst hk;simp only [if_true];refine⟨ho,hd,?_,hg⟩;rw [aJn (by omega),h1]
   ·simp only [hk,if_false];rw [aJn (by omega)];exact h3 i (by omega) (by omega)
  ·rw [h4,List.range'_succ,aXW,List.reverse_cons,aQ4];simp only [if_true,List.singleton_append];congr 2;refine List.map_congr_left fun i hi=>?_;have:k+1≤i:=(List.mem_range'_1.1 hi).1;rw [aJn (by omega),aJn (by omega),aJn (by omega)]
theorem LV {b:Array Nat}:∀ {l:List FP},sG b l=true→l.Pairwise fun x y=>(nU b x.i y.i||mR x y)=true
 | [],_=>.nil
 | x :: r,h=>by
  simp only [sG,aKS,aQ6] at h;exact .cons (fun y hy=>h.1 y hy) (LV h.2)
end
open Classical in
def dX {α:Type}(base:α)(wr:Nat→Prop)(out:Nat→α)(D:Nat→Prop):Nat→α
 | 0=>base
 | k+1=>if D k∧wr k then out k else dX base wr out D k
section
variable {α:Type}{base:α}{wr:Nat→Prop}{out:Nat→α}{D:Nat→Prop}
theorem PZ {i:Nat}(hwr:wr i):∀ (n:Nat),i<n→(∀ j,i<j→j<n→D j→¬wr j)→dX base wr out (fun j=>D j∨j=i) n=out i
 | 0,h,_=>by omega
 | n+1,h,hl=>by
  unfold dX;by_cases hn:n=i
  ·subst hn;rw [aJb ⟨.inr rfl,hwr⟩]
  ·rw [aJn,PZ hwr n (by omega) (fun j h1 h2=>hl j h1 (by omega))];rintro ⟨h1 | h1,h2⟩
   ·exact hl n (by omega) (by omega) h1 h2
   ·exact hn h1
theorem nV {i:Nat}(hwr:¬wr i):∀ (n:Nat),dX base wr out (fun j=>D j∨j=i) n=dX base wr out D n
 | 0=>rfl
 | n+1=>by
  unfold dX;rw [nV hwr n];by_cases hc:D n∧wr n
  ·rw [aJb hc,aJb ⟨.inl hc.1,hc.2⟩]
  ·rw [aJn hc,aJn];rintro ⟨h1 | h1,h2⟩
   ·exact hc ⟨h1,h2⟩
   ·subst h1;exact hwr h2
theorem NI {i:Nat}:∀ (n:Nat),i≤n→(∀ j,j<n→wr j→(D j↔j<i))→dX base wr out D n=dX base wr out (fun _=>True) i
 | 0,h,_=>by
  obtain rfl:i=0:=by omega
  rfl
 | n+1,h,hr=>by
  by_cases hi:i=n+1
  ·subst hi;unfold dX;by_cases hw:wr n
   ·rw [aJb ⟨(hr n (by omega) hw).2 (by omega),hw⟩,aJb ⟨trivial,hw⟩]
   ·rw [aJn (fun h=>hw h.2),aJn (fun h=>hw h.2)];exact NI n (aKQ _) fun j h1 h2=>by
     have:=hr j (by omega) h2;constructor
     ·intro _;exact h1
     ·intro _;exact this.2 (by omega)
  ·have:dX base wr out D (n+1)=dX base wr out D n:=by
    simp only [dX];rw [aJn];rintro ⟨h1,h2⟩;have:=(hr n (by omega) h2).1 h1;omega
   rw [this];exact NI n (by omega) fun j h1 h2=>hr j (by omega) h2
theorem P0 {f:Nat→α}{n:Nat}(h:∀ j,j<n→¬wr j→f (j+1)=f j):∀ k,k≤n→dX (f 0) wr (fun j=>f (j+1)) (fun _=>True) k=f k
 | 0,_=>rfl
 | k+1,hk=>by
  simp only [dX];by_cases hw:wr k
  ·rw [aJb ⟨trivial,hw⟩]
  ·rw [aJn (fun h=>hw h.2),P0 h k (by omega),h k (by omega) hw]
theorem NJ {n:Nat}(h:∀ j,j<n→¬D j):dX base wr out D n=base:=by
 induction n with
 | zero=>rfl
 | succ n ih=>
  simp only [dX];rw [aJn (fun hc=>h n (by omega) hc.1)];exact ih fun j hj=>h j (by omega)
end
theorem aIE (S:List Nat)(h h':AH):h.length≤(kW S h h').length:=by
 simp [kW]
theorem aIF {S:List Nat}{h h':AH}{x:Nat}(hx:x<h.length)(hS:x∉S):(kW S h h')[x]?=h[x]?:=by
 unfold kW;rw [aZ8 (by simpa using hx),List.getElem?_mapIdx];simp only [a1g,hS,if_false];cases h[x]? <;> rfl
theorem aOI {S:List Nat}{h h':AH}{x:Nat}(hx:x<h.length)(hS:x∈S):(kW S h h')[x]?=some (h'[x]?).join:=by
 unfold kW;rw [aZ8 (by simpa using hx),List.getElem?_mapIdx];simp only [a1g,hS,if_true];rw [aJS hx];rfl
theorem aIG {S:List Nat}{h h':AH}{x:Nat}(hx:h.length≤x):(kW S h h')[x]?=h'[x]?:=by
 unfold kW;rw [a1N (by simpa using hx),List.length_mapIdx,a1f];congr 1;omega
theorem IX {S:List Nat}{h:AH}{x:Nat}{b:cQ}:(mY S h)[x]?=some (some b)↔x∈S∧h[x]?=some (some b):=by
 unfold mY;rw [List.getElem?_mapIdx];cases hx:h[x]? with
 | none=>simp
 | some c=>
  by_cases hS:x∈S
  ·have:S.contains x=true:=by simpa using hS
   simp [hS]
  ·have:S.contains x=false:=by simpa using hS
   simp [hS]
theorem aE2 (o:Oper)(s:AS)(d:Did):s.h.length≤(jQ o s d).h.length:=by
 cases d with
 | no=>exact aKQ _
 | pure v=>exact aKQ _
 | eff v h'=>exact aIE _ _ _
 | gone=>exact aKQ _
theorem aBb {ops:Array Oper}{i:Nat}{o:Oper}{s:AS}{d:Did}{x:Nat}(h1:x∉(aIC ops i o s d).tch)(h2:¬(s.h.length≤x∧x<(jQ o s d).h.length)) :
  ((jQ o s d).h[x]?).join=(s.h[x]?).join:=by
 cases d with
 | no=>rfl
 | pure v=>rfl
 | gone=>rfl
 | eff v h'=>
  by_cases hx:x<s.h.length
  ·show((kW (dD o s) s.h h')[x]?).join=_;rw [aIF (S:=dD o s) hx h1]
  ·have h3:(jQ o s (.eff v h')).h.length≤x:=by omega
   rw [List.getElem?_eq_none_iff.2 h3,List.getElem?_eq_none_iff.2 (by omega)]
theorem aE3 {o:Oper}{s:AS}{d:Did}{t:Nat}(h:o.dst≠some t):(jQ o s d).r[t]?=s.r[t]?:=by
 have key:∀ v,(lS s.r o.dst v)[t]?=s.r[t]?:=by
  intro v;unfold lS
  split
  ·rename_i d' hd;rw [aXL,aJn];intro he;exact h (by rw [hd,he])
  ·rfl
 cases d <;> exact key _
theorem IY {S:List Nat}{h:AH}:(mY S h).length=h.length:=by simp [mY]
def cut (ρ:Nm)(b:Nat):Nm:=fun x=>if x<b then ρ x else none
theorem E8 (ρ:Nm){b c:Nat}(h:b≤c):(cut ρ b).le (cut ρ c):=fun i bn hi=>by
 unfold cut at hi ⊢
 split at hi
 ·rw [aJb (by omega)];exact hi
 ·cases hi
theorem kX {ρ:Nm}{b x:Nat}(h:x<b):cut ρ b x=ρ x:=by unfold cut;rw [aJb h]
theorem P4 {ρ ρ':Nm}{b:Nat}(h:ρ.le ρ'):(cut ρ b).le (cut ρ' b):=fun i bn hi=>by
 unfold cut at hi ⊢
 split at hi
 ·rename_i hc;rw [aJb hc];exact h i bn hi
 ·cases hi
structure Wk (C:dI)(ops:Array Oper) where
 n:Nat
 le:n≤ops.size
 st:Nat→AS
 op:Nat→Oper
 did:Nat→Did
 ok:∀ i,i<n→ops[i]?=some (op i)∧aE1 C ops (op i) (st i) (did i)∧st (i+1)=jQ (op i) (st i) (did i)
section
variable {C:dI}{ops:Array Oper}(W:Wk C ops)
def Wk.L (i:Nat):Nat:=(W.st i).h.length
def Wk.fp (i:Nat):FP:=aIC ops i (W.op i) (W.st i) (W.did i)
def Wk.wr (t:Nat)(i:Nat):Prop:=(W.op i).dst=some t
def Wk.ws (x:Nat)(i:Nat):Prop:=x∈(W.fp i).tch∨(W.L i≤x∧x<W.L (i+1))
def Wk.reg (D:Nat→Prop)(t:Nat):Option AV:=dX (W.st 0).r[t]? (W.wr t) (fun j=>(W.st (j+1)).r[t]?) D W.n
def Wk.slot (D:Nat→Prop)(x:Nat):Option cQ:=dX ((W.st 0).h[x]?).join (W.ws x) (fun j=>((W.st (j+1)).h[x]?).join) D W.n
def Wk.rb (D:Nat→Prop)(t:Nat):Nat:=dX (W.L 0) (W.wr t) (fun j=>W.L (j+1)) D W.n
def Wk.sb (D:Nat→Prop)(x:Nat):Nat:=dX (W.L 0) (W.ws x) (fun j=>W.L (j+1)) D W.n
structure Wk.Inv (R0:Nat→Prop)(gI:Nm)(w0:World)(D:Nat→Prop)(R:Nat→Prop)(ρ:Nm)(a:Act)(w:World):Prop where
 defers:a.defers=[]
 size:a.tmps.size=(W.st 0).r.length
 reg:∀ t u,a.tmps[t]?=some u→∃ v,W.reg D t=some v∧aI w R (cut ρ (W.rb D t)) v u
 slot:∀ x blk,W.slot D x=some blk→∃ b N,ρ x=some (b,N)∧dY w R (cut ρ (W.sb D x)) b N blk∧Real R b N blk
 inj:∀ x y bx by_ b Nx Ny,W.slot D x=some bx→W.slot D y=some by_→ρ x=some (b,Nx)→ρ y=some (b,Ny)→Nx.gh=false→Ny.gh=false→x=y
 dom:∀ x,ρ x≠none→x<W.L 0∨∃ i,D i∧W.L i≤x∧x<W.L (i+1)
 ro:∀ b,R b→b<w.heap.size
 os:w.os=w0.os
 tape:w.tape=w0.tape
 output:w.output=w0.output
 xX:w0.heap.size≤w.heap.size
 mV:∀ b,R0 b→R b
 keeps:∀ b,b<w0.heap.size→¬Lv gI (W.st 0).h b→w.heap[b]?=w0.heap[b]?
 cW:∀ x blk b N,W.slot D x=some blk→ρ x=some (b,N)→N.gh=false→Lv gI (W.st 0).h b∨w0.heap.size≤b
 cZ:∀ b,R b→R0 b∨Lv gI (W.st 0).h b∨w0.heap.size≤b
 kQ:w0.drawn≤w.drawn
 named:∀ j,D j→∀ x∈(W.fp j).sl,ρ x≠none
 aLr:∀ x bn,gI x=some bn→ρ x=some bn
end
section
variable {C:dI}{ops:Array Oper}(W:Wk C ops)
theorem aYr {ρ:Nm}{b:Nat}(h:∀ i,b≤i→ρ i=none):cut ρ b=ρ:=by
 funext x;unfold cut
 split
 ·rfl
 ·rw [h x (by omega)]
theorem Wk.start {R:Nat→Prop}{ρ:Nm}{w:World}{a:Act}(hr:Rel R ρ (W.st 0).h w)(ha:b9 w R ρ (W.st 0).r a)(hd:a.defers=[]):W.Inv R ρ w (fun _=>False) R ρ a w:=by
 have hc:cut ρ (W.L 0)=ρ:=aYr hr.dom;have e1:∀ t,W.reg (fun _=>False) t=(W.st 0).r[t]?:=fun t=>NJ (fun _ _ h=>h);have e2:∀ x,W.slot (fun _=>False) x=((W.st 0).h[x]?).join:=fun x=>NJ (fun _ _ h=>h);have e3:∀ t,W.rb (fun _=>False) t=W.L 0:=fun t=>NJ (fun _ _ h=>h);have e4:∀ t,W.sb (fun _=>False) t=W.L 0:=fun t=>NJ (fun _ _ h=>h);have hs:∀ x blk,W.slot (fun _=>False) x=some blk→(W.st 0).h[x]?=some (some blk):=by
  intro x blk h;rw [e2] at h;cases hx:(W.st 0).h[x]? with
  | none=>rw [hx] at h;cases h
  | some c=>
   rw [hx] at h;cases c with
   | none=>cases h
   | some b=>simp at h;rw [h]
 refine⟨hd,by have:=ha.1;simpa using this,fun t u hu=>?_,fun x blk hx=>?_,fun x y bx by_ b Nx Ny hx hy=>?_,fun x hx=>?_,hr.ro,rfl,rfl,rfl,aKQ _,fun _ h=>h,fun _ _ _=>rfl,fun x blk b N hx hn hg=>?_,fun _ h=>.inl h,(by first | exact aKQ _ | exact a9p _),fun _ h=>h.elim,fun _ _ h=>h⟩
 ·have hlt:t<(W.st 0).r.length:=by
   have h1:=ha.1;have h2:=(aZK.1 hu).1;simp at h1;omega
  refine⟨(W.st 0).r[t],by rw [e1,aJS hlt],?_⟩;rw [e3,hc];exact ha.2 t _ u (aJS hlt) (by simpa using hu)
 ·obtain⟨b,N,h1,h2,h3⟩:=hr.live x blk (hs x blk hx);rw [e4,hc];exact⟨b,N,h1,h2,h3⟩
 ·exact hr.inj x y bx by_ b Nx Ny (hs _ _ hx) (hs _ _ hy)
 ·refine .inl ?_;rcases Nat.lt_or_ge x (W.L 0) with h | h
  ·exact h
  ·exact absurd (hr.dom x h) hx
 ·exact .inl ⟨x,blk,N,hs _ _ hx,hn,hg⟩
end
section
variable {C:dI}{ops:Array Oper}(W:Wk C ops)
theorem Wk.aRG {D:Nat→Prop}{i:Nat}(hi:i≤W.n){t:Nat}(h:∀ j,j<W.n→W.wr t j→(D j↔j<i)):W.reg D t=(W.st i).r[t]?:=by
 unfold Wk.reg;rw [NI W.n hi h];exact P0 (f:=fun j=>(W.st j).r[t]?) (n:=W.n) (fun j hj hw=>by
  show(W.st (j+1)).r[t]?=_;rw [(W.ok j hj).2.2];exact aE3 hw) i hi
theorem Wk.NK {D:Nat→Prop}{i:Nat}(hi:i≤W.n){x:Nat}(h:∀ j,j<W.n→W.ws x j→(D j↔j<i)):W.slot D x=((W.st i).h[x]?).join:=by
 unfold Wk.slot;rw [NI W.n hi h];exact P0 (f:=fun j=>((W.st j).h[x]?).join) (n:=W.n) (fun j hj hw=>by
  show((W.st (j+1)).h[x]?).join=_;have h1:=(W.ok j hj).2.2;rw [h1];refine aBb (ops:=ops) (i:=j) (fun h2=>hw (.inl h2)) (fun h2=>hw (.inr ⟨h2.1,?_⟩));show x<(W.st (j+1)).h.length;rw [h1];exact h2.2) i hi
theorem Wk.aIH {j:Nat}(hj:j<W.n):W.L j≤W.L (j+1):=by
 unfold Wk.L;rw [(W.ok j hj).2.2];exact aE2 _ _ _
theorem Wk.gD {i j:Nat}(h:i≤j)(hj:j≤W.n):W.L i≤W.L j:=by
 induction j with
 | zero=>
  obtain rfl:i=0:=by omega
  exact aKQ _
 | succ j ih=>
  by_cases he:i=j+1
  ·subst he;exact aKQ _
  ·exact aPB (ih (by omega) (by omega)) (W.aIH (by omega))
theorem aE4 {wr:Nat→Prop}{D:Nat→Prop}{base:Nat}{out:Nat→Nat}{c:Nat}(hb:base≤c):∀ (n:Nat),(∀ j,j<n→D j→wr j→out j≤c)→dX base wr out D n≤c
 | 0,_=>hb
 | n+1,h=>by
  simp only [dX]
  split
  ·rename_i hc;exact h n (by omega) hc.1 hc.2
  ·exact aE4 hb n fun j h1 h2 h3=>h j (by omega) h2 h3
end
section
variable {C:dI}{ops:Array Oper}(W:Wk C ops)
structure Wk.a4a (D:Nat→Prop)(i:Nat):Prop where
 lt:i≤W.n
 reg:∀ t∈(W.fp i).rd,∀ j,j<W.n→W.wr t j→(D j↔j<i)
 slot:∀ x∈(W.fp i).sl,∀ j,j<W.n→W.ws x j→(D j↔j<i)
variable {W}
theorem Wk.Inv.rel {R0 R:Nat→Prop}{gI ρ:Nm}{w0 w:World}{D:Nat→Prop}{a:Act}{i:Nat}(hI:W.Inv R0 gI w0 D R ρ a w)(hs:W.a4a D i){S:List Nat}(hS:∀ x∈S,x∈(W.fp i).sl) :
  Rel R (cut ρ (W.L i)) (mY S (W.st i).h) w:=by
 have MZ:∀ x blk,(mY S (W.st i).h)[x]?=some (some blk)→x<W.L i∧W.slot D x=some blk∧W.sb D x≤W.L i:=by
  intro x blk hx;obtain⟨h1,h2⟩:=IX.1 hx;refine⟨(aK2.1 h2).1,?_,?_⟩
  ·rw [W.NK (hs.lt) (hs.slot x (hS x h1)),h2];rfl
  ·refine aE4 (W.gD (aLj _) (hs.lt)) _ fun j h3 h4 h5=>?_;have:=(hs.slot x (hS x h1) j h3 h5).1 h4;exact W.gD this (hs.lt)
 refine⟨fun x blk hx=>?_,fun x y bx by_ b Nx Ny hx hy rK hny hgx hgy=>?_,fun x hx=>?_,hI.ro⟩
 ·obtain⟨h1,h2,h3⟩:=MZ x blk hx;obtain⟨b,N,k1,k2,k3⟩:=hI.slot x blk h2;exact⟨b,N,by rw [kX h1];exact k1,k2.mono k3 (fun _=>rfl) (fun _ _=>rfl) (fun _ h=>h) (E8 ρ h3),k3⟩
 ·obtain⟨h1,h2,_⟩:=MZ x bx hx;obtain⟨h3,h4,_⟩:=MZ y by_ hy;rw [kX h1] at rK;rw [kX h3] at hny;exact hI.inj x y bx by_ b Nx Ny h2 h4 rK hny hgx hgy
 ·rw [IY] at hx;have hx:W.L i≤x:=hx;unfold cut;rw [aJn (by omega)]
end
section
variable {C:dI}{ops:Array Oper}{W:Wk C ops}
theorem Wk.a4d {i:Nat}(h:i≤W.n):(W.st i).r.length=(W.st 0).r.length:=by
 induction i with
 | zero=>rfl
 | succ i ih=>rw [(W.ok i (by omega)).2.2,E7,ih (by omega)]
theorem Wk.Inv.fH {R0 R:Nat→Prop}{gI ρ:Nm}{w0 w:World}{D:Nat→Prop}{a:Act}{i:Nat}(hI:W.Inv R0 gI w0 D R ρ a w)(hlt:i≤W.n){t:Nat}(aRH:∀ j,j<W.n→W.wr t j→(D j↔j<i)) :
  aI w R (cut ρ (W.L i)) (((W.st i).r[t]?).getD .undef) (a.tmps.getD t undef)∧((W.st i).r[t]?=none↔a.tmps[t]?=none):=by
 have he:=W.aRG (D:=D) (hlt) (aRH);have hb:W.rb D t≤W.L i:=aE4 (W.gD (aLj _) (hlt)) _ fun j h3 h4 h5=>by
  have:=(aRH j h3 h5).1 h4;exact W.gD this (hlt)
 cases hu:a.tmps[t]? with
 | some u=>
  obtain⟨v,hv,hr⟩:=hI.reg t u hu;rw [he] at hv;rw [hv];simp only [a0f,aXT,hu];exact⟨hr.mono (fun _ _=>rfl) (fun _ h=>h) (E8 ρ hb),by simp⟩
 | none=>
  have h1:(W.st i).r[t]?=none:=by
   rw [List.getElem?_eq_none_iff,Wk.a4d (hlt),← hI.size];exact Array.getElem?_eq_none_iff.1 hu
  rw [h1];simp only [Option.getD_none,aXT,hu];exact⟨.undef,by simp⟩
end
section
variable {w:World}{R:Nat→Prop}{ρ:Nm}
theorem LW {v:AV}{u:Value}(h:aI w R ρ v u):∀ x∈v.slots,ρ x≠none:=by
 induction h with
 | ptr h=>intro x hx;simp only [AV.slots,aXF] at hx;subst hx;rw [h];simp
 | own h _ _=>intro x hx;simp only [AV.slots,aXF] at hx;subst hx;rw [h];simp
 | bL h _ _ _=>intro x hx;simp only [AV.slots,aXF] at hx;subst hx;rw [h];simp
 | iY h _=>intro x hx;simp only [AV.slots,aXF] at hx;subst hx;rw [h];simp
 | qP h _=>intro x hx;simp only [AV.slots,aXF] at hx;subst hx;rw [h];simp
 | map h=>intro x hx;simp only [AV.slots,aXF] at hx;subst hx;rw [h];simp
 | iface _ ih=>exact ih
 | _=>intro x hx;simp [AV.slots] at hx
theorem nW {cs:List AV}{us:List Value}(h:aK w R ρ cs us):∀ x∈cs.flatMap AV.slots,ρ x≠none:=by
 intro x hx;obtain⟨c,hc,hx⟩:=List.mem_flatMap.1 hx;obtain⟨k,hk⟩:=List.mem_iff_getElem?.1 hc;obtain⟨u,_,hv⟩:=h.get hk;exact LW hv x hx
theorem E9:∀ {vs:List AV},(∀ v∈vs,∃ u,aI w R ρ v u)→∀ x∈pJ vs,ρ x≠none
 | [],_,x,hx=>by simp [pJ] at hx
 | v :: r,h,x,hx=>by
  have ih:=E9 (vs:=r) fun v hv=>h v (a0y _ hv);obtain⟨u,hu⟩:=h v a1F;have two:∀ (l:List Nat),(∀ y∈l,ρ y≠none)→x∈l++pJ r→ρ x≠none:=fun l hl hx=>by
   rcases aLA.1 hx with h1 | h1
   ·exact hl x h1
   ·exact ih x h1
  cases v with
  | agg cs=>
   obtain⟨us,rfl,h1⟩:=hu.fU;exact two _ (nW h1) hx
  | xF cs=>
   obtain⟨us,rfl,h1⟩:=hu.qT;exact two _ (nW h1) hx
  | func f a b=>
   cases hu with
   | func vf vc hf0 hc0 hf hc=>
    refine two (a.flatMap AV.slots++b.flatMap AV.slots) (fun y hy=>?_) hx;rcases aLA.1 hy with h1 | h1
    ·exact nW (us:=vf.toList) ⟨by simpa using hf0,fun k c u hc hu=>hf k c u hc (by simpa using hu)⟩ y h1
    ·exact nW (us:=vc.toList) ⟨by simpa using hc0,fun k c u hc' hu=>hc k c u hc' (by simpa using hu)⟩ y h1
  | _=>exact two _ (LW hu) hx
end
section
variable {C:dI}{ops:Array Oper}{W:Wk C ops}{R0 R:Nat→Prop}{gI ρ:Nm}{w0 w:World}{D:Nat→Prop}{a:Act}{i:Nat}
theorem Wk.aIJ (i:Nat):(W.fp i).dst=(W.op i).dst:=by
 unfold Wk.fp;cases W.did i <;> rfl
theorem Wk.a90 (i:Nat):(W.fp i).i=i:=by
 unfold Wk.fp;cases W.did i <;> rfl
theorem Wk.Inv.aBd (hI:W.Inv R0 gI w0 D R ρ a w)(hlt:i<W.n)(nI:∀ t,W.wr t i→∀ j,i<j→j<W.n→D j→¬W.wr t j)
  {R':Nat→Prop} {ρ':Nm} {w':World} {v:AV} {u:Value} (hst:(W.st (i+1)).r=lS (W.st i).r (W.op i).dst v) (hv:aI w' R' (cut ρ' (W.L (i+1))) v u)
  (hw:∀ b,R b→w'.heap[b]?=w.heap[b]?) (hR:∀ b,R b→R' b) (hρ:ρ.le ρ') :
  ∀ t u0,(a.put (W.op i).dst u).tmps[t]?=some u0→∃ v0,W.reg (fun j=>D j∨j=i) t=some v0∧aI w' R' (cut ρ' (W.rb (fun j=>D j∨j=i) t)) v0 u0:=by
 intro t u0 hu;by_cases hwr:W.wr t i
 ·have hd:(W.op i).dst=some t:=hwr;rw [hd] at hu;simp only [Act.put] at hu;have hts:t<a.tmps.size:=by
   have:=(aZK.1 hu).1;simpa using this
  rw [Array.getElem?_setIfInBounds_self_of_lt hts] at hu;injection hu with hu;subst hu
  refine⟨v,?_,?_⟩
  ·unfold Wk.reg;rw [PZ hwr W.n hlt (nI t hwr),hst,hd];simp only [lS];rw [aXL,aJb rfl,aJb];rw [Wk.a4d (a1c hlt),← hI.size];exact hts
  ·unfold Wk.rb;rw [PZ hwr W.n hlt (nI t hwr)];exact hv
 ·have hne:(W.op i).dst≠some t:=hwr;have he:(a.put (W.op i).dst u).tmps[t]?=a.tmps[t]?:=by
   unfold Act.put
   split
   ·rename_i d hd;exact Array.getElem?_setIfInBounds_ne (fun e=>hne (by rw [hd,e]))
   ·rfl
  rw [he] at hu;obtain⟨v0,h1,h2⟩:=hI.reg t u0 hu;refine⟨v0,?_,?_⟩
  ·unfold Wk.reg;rw [nV hwr];exact h1
  ·unfold Wk.rb;rw [nV hwr];exact h2.mono hw hR (P4 hρ)
theorem P5 (a:Act)(d:Option Tmp)(u:Value):(a.put d u).tmps.size=a.tmps.size:=by
 cases d <;> simp [Act.put]
theorem P6 (a:Act)(d:Option Tmp)(u:Value):(a.put d u).defers=a.defers:=by
 cases d <;> rfl
theorem Wk.Inv.put (hI:W.Inv R0 gI w0 D R ρ a w)(hlt:i<W.n)(nI:∀ t,W.wr t i→∀ j,i<j→j<W.n→D j→¬W.wr t j)
  (hnm:∀ x∈(W.fp i).sl,ρ x≠none) (a4e:(W.fp i).tch=[]) (hL:W.L (i+1)=W.L i) {v:AV} {u:Value} (hst:(W.st (i+1)).r=lS (W.st i).r (W.op i).dst v) (hv:aI w R (cut ρ (W.L i)) v u) :
  W.Inv R0 gI w0 (fun j=>D j∨j=i) R ρ (a.put (W.op i).dst u) w:=by
 have hws:∀ x,¬W.ws x i:=by
  rintro x (h | h)
  ·rw [a4e] at h;simp at h
  ·rw [hL] at h;omega
 have e1:∀ x,W.slot (fun j=>D j∨j=i) x=W.slot D x:=fun x=>nV (hws x) _;have e2:∀ x,W.sb (fun j=>D j∨j=i) x=W.sb D x:=fun x=>nV (hws x) _;refine⟨by rw [P6];exact hI.defers,by rw [P5];exact hI.size,hI.aBd hlt nI hst (by rw [hL];exact hv) (fun _ _=>rfl) (fun _ h=>h) (Nm.le_refl _),fun x blk hx=>?_,fun x y bx by_ b Nx Ny hx hy=>?_,fun x hx=>?_,
  hI.ro,hI.os,hI.tape,hI.output,hI.xX,hI.mV,hI.keeps,fun x blk b N hx=>?_,hI.cZ,hI.kQ,fun j hj x hx=>hj.elim (fun h=>hI.named j h x hx) (fun h=>hnm x (h▸hx)),hI.aLr⟩
 ·rw [e1] at hx;rw [e2];exact hI.slot x blk hx
 ·rw [e1] at hx hy;exact hI.inj x y bx by_ b Nx Ny hx hy
 ·rcases hI.dom x hx with h | ⟨k,h1,h2⟩
  ·exact .inl h
  ·exact .inr ⟨k,.inl h1,h2⟩
 ·rw [e1] at hx;exact hI.cW x blk b N hx
theorem Wk.Inv.bFj (hI:W.Inv R0 gI w0 D R ρ a w)(hlt:i<W.n)(nI:∀ t,W.wr t i→∀ j,i<j→j<W.n→D j→¬W.wr t j)
  (hnm:∀ x∈(W.fp i).sl,ρ x≠none) (a4e:(W.fp i).tch=[]) (hL:W.L (i+1)=W.L i) {v:AV} {u:Value} (hst:(W.st (i+1)).r=lS (W.st i).r (W.op i).dst v) {w':World} (hk:Kw w w') (hv:aI w' R (cut ρ (W.L i)) v u) :
  W.Inv R0 gI w0 (fun j=>D j∨j=i) R ρ (a.put (W.op i).dst u) w':=by
 have hws:∀ x,¬W.ws x i:=by
  rintro x (h | h)
  ·rw [a4e] at h;simp at h
  ·rw [hL] at h;omega
 have e1:∀ x,W.slot (fun j=>D j∨j=i) x=W.slot D x:=fun x=>nV (hws x) _;have e2:∀ x,W.sb (fun j=>D j∨j=i) x=W.sb D x:=fun x=>nV (hws x) _;refine⟨by rw [P6];exact hI.defers,by rw [P5];exact hI.size,hI.aBd hlt nI hst (by rw [hL];exact hv) (fun b hb=>hk.keep b (hI.ro b hb)) (fun _ h=>h) (Nm.le_refl _),fun x blk hx=>?_,fun x y bx by_ b Nx Ny hx hy=>?_,fun x hx=>?_,
  fun b hb=>a1r (hI.ro b hb) hk.size,hk.os.trans hI.os,hk.tape.trans hI.tape,hk.output.trans hI.output,aPB hI.xX hk.size,hI.mV,fun b hb hl=>(hk.keep b (a1r hb hI.xX)).trans (hI.keeps b hb hl),fun x blk b N hx=>?_,fun b hb=>(hI.cZ b hb),aPB hI.kQ hk.kQ,fun j hj x hx=>hj.elim (fun h=>hI.named j h x hx) (fun h=>hnm x (h▸hx)),hI.aLr⟩
 ·rw [e1] at hx;rw [e2];obtain⟨b,N,k1,k2,k3⟩:=hI.slot x blk hx;exact⟨b,N,k1,k2.mono k3 (fun hg=>hk.keep b (k2.lt hg)) (fun c hc=>hk.keep c (hI.ro c hc)) (fun _ h=>h) (Nm.le_refl _),k3⟩
 ·rw [e1] at hx hy;exact hI.inj x y bx by_ b Nx Ny hx hy
 ·rcases hI.dom x hx with h | ⟨k,h1,h2⟩
  ·exact .inl h
  ·exact .inr ⟨k,.inl h1,h2⟩
 ·rw [e1] at hx;exact hI.cW x blk b N hx
theorem Wk.Inv.eff (hI:W.Inv R0 gI w0 D R ρ a w)(hs:W.a4a D i)(hlt:i<W.n)(hnD:¬D i)(nI:∀ t,W.wr t i→∀ j,i<j→j<W.n→D j→¬W.wr t j)
  (NL:∀ x,W.ws x i→∀ j,i<j→j<W.n→D j→¬W.ws x j) (hDn:∀ j,D j→j<W.n) (hnm:∀ x∈(W.fp i).sl,ρ x≠none)
  {v:AV} {h':AH} (hd:W.did i=.eff v h') {R':Nat→Prop} {eN:Nm} {u:Value} {w':World}
  (hv:aI w' R' eN v u) (hr':Rel R' eN h' w') (hf:fB R (cut ρ (W.L i)) (mY (dD (W.op i) (W.st i)) (W.st i).h) w R' eN h' w') :
  ∃ ρ',W.Inv R0 gI w0 (fun j=>D j∨j=i) R' ρ' (a.put (W.op i).dst u) w':=by
 have hS:dD (W.op i) (W.st i)=(W.fp i).tch:=by unfold Wk.fp;rw [hd];rfl
 have hSl:(W.fp i).sl=(W.fp i).tch:=by unfold Wk.fp;rw [hd];rfl
 generalize hSS:dD (W.op i) (W.st i)=S at hf hS;have hrel:=hI.rel hs (S:=S) (by rw [hS,hSl];exact fun _ h=>h);have hstep:W.st (i+1)=⟨lS (W.st i).r (W.op i).dst v,kW S (W.st i).h h'⟩:=by
  rw [(W.ok i hlt).2.2,hd];simp only [jQ,hSS]
 have hLh:W.L i≤h'.length:=by have:=hf.hlen;rw [IY] at this;exact this
 have hL1:W.L (i+1)=h'.length:=by
  unfold Wk.L;rw [hstep];simp only [kW];simp only [aPk,List.length_mapIdx,a9s];have:(W.st i).h.length≤h'.length:=hLh;omega
 have hLL:W.L i≤W.L (i+1):=W.aIH hlt;let ρ':Nm:=fun x=>if W.L i≤x∧x<W.L (i+1) then eN x else ρ x;have hnone:∀ x,W.L i≤x→x<W.L (i+1)→ρ x=none:=by
  intro x h1 h2;cases hx:ρ x with
  | none=>rfl
  | some bn=>
   exfalso;rcases hI.dom x (by rw [hx];simp) with h3 | ⟨k,h3,h4,h5⟩
   ·have:=W.gD (aLj i) (a1c hlt);omega
   ·rcases a9y k i with h6 | h6 | h6
    ·have:=W.gD (i:=k+1) (j:=i) h6 (a1c hlt);omega
    ·subst h6;exact hnD h3
    ·have:=W.gD (i:=i+1) (j:=k) h6 (a1c (hDn k h3));omega
 have hin:∀ x,W.L i≤x→x<W.L (i+1)→ρ' x=eN x:=fun x h1 h2=>aJb ⟨h1,h2⟩;have hout:∀ x,¬(W.L i≤x∧x<W.L (i+1))→ρ' x=ρ x:=fun x h1=>aJn h1;have hle:ρ.le ρ':=by
  intro x bn hx;rw [hout]
  ·exact hx
  ·rintro ⟨h1,h2⟩;rw [hnone x h1 h2] at hx;cases hx
 have hold:∀ x,x<W.L i→eN x=ρ x:=by
  intro x hx;cases he:ρ x with
  | some bn=>exact hf.names x bn (by rw [kX hx];exact he)
  | none=>exact hf.fresh x (by rw [IY];exact hx) (by rw [kX hx];exact he)
 have hcut:cut ρ' (W.L (i+1))=eN:=by
  funext x;unfold cut
  split
  ·rename_i h1;by_cases h2:W.L i≤x
   ·exact hin x h2 h1
   ·rw [hout x (fun h=>h2 h.1),hold x (by omega)]
  ·rename_i h1;exact(hr'.dom x (by omega)).symm
 have aOL:∀ x,x<W.L (i+1)→ρ' x=eN x:=fun x hx=>by
  rw [← hcut,kX hx]
 have hro:=hf.aAG hrel
 -- a block that the operation was told of
 have hlv:∀ b,Lv (cut ρ (W.L i)) (mY S (W.st i).h) b→∃ z blk N,z∈S∧W.slot D z=some blk∧ρ z=some (b,N)∧N.gh=false:=by
  rintro b ⟨z,blk,N,h1,h2,h3⟩;obtain⟨h4,h5⟩:=IX.1 h1;have hz:z<W.L i:=(aK2.1 h5).1;refine⟨z,blk,N,h4,?_,by rw [kX hz] at h2;exact h2,h3⟩;rw [W.NK (a1c hlt) (hs.slot z (by rw [hSl,← hS];exact h4)),h5];rfl
 have aYs:∀ x blk b N,¬W.ws x i→W.slot D x=some blk→ρ x=some (b,N)→N.gh=false→¬Lv (cut ρ (W.L i)) (mY S (W.st i).h) b:=by
  intro x blk b N hx h1 h2 h3 hl;obtain⟨z,dN,N',h4,h5,h6,h7⟩:=hlv b hl;have:=hI.inj x z blk dN b N N' h1 h5 h2 h6 h3 h7;subst this;exact hx (.inl (by rw [← hS];exact h4))
 -- blocks behind it
 have aOM:∀ x blk,W.ws x i→W.slot (fun j=>D j∨j=i) x=some blk→h'[x]?=some (some blk)∧x<W.L (i+1)∧W.sb (fun j=>D j∨j=i) x=W.L (i+1):=by
  intro x blk hx h1;unfold Wk.slot at h1;rw [PZ hx W.n hlt (NL x hx),hstep] at h1;have hj:∀ {o:Option (Option cQ)},o.join=some blk→o=some (some blk):=by
   intro o ho;cases o with
   | none=>cases ho
   | some c=>cases c with
    | none=>cases ho
    | some b=>simp at ho;rw [ho]
  have h1:=hj h1;have h2:h'[x]?=some (some blk):=by
   by_cases hxl:x<(W.st i).h.length
   ·have hxS:x∈S:=by
     rcases hx with h | h
     ·rw [hS];exact h
     ·exact absurd h.1 (by show ¬(W.st i).h.length≤x;omega)
    rw [aOI (S:=S) (h:=(W.st i).h) (h':=h') hxl hxS] at h1;injection h1 with h1
    exact hj h1
   ·rw [aIG (S:=S) (h:=(W.st i).h) (h':=h') (by omega)] at h1;exact h1
  refine⟨h2,by rw [hL1];exact(aK2.1 h2).1,?_⟩;unfold Wk.sb;rw [PZ hx W.n hlt (NL x hx)]
 have aON:∀ x,¬W.ws x i→W.slot (fun j=>D j∨j=i) x=W.slot D x∧W.sb (fun j=>D j∨j=i) x=W.sb D x∧ρ' x=ρ x:=by
  intro x hx;exact⟨nV hx _,nV hx _,hout x fun h=>hx (.inr h)⟩
 refine⟨ρ',by rw [P6];exact hI.defers,by rw [P5];exact hI.size,
  hI.aBd hlt nI (v:=v) (by rw [hstep]) (by rw [hcut];exact hv) hro hf.mV hle,
  fun x blk hx=>?_,fun x y bx by_ b Nx Ny hx hy rK hny hgx hgy=>?_,fun x hx=>?_,
  hr'.ro,hf.os.trans hI.os,hf.tape.trans hI.tape,hf.output.trans hI.output,aPB hI.xX hf.size,fun b hb=>hf.mV b (hI.mV b hb),fun b hb hl=>?_,fun x blk b N hx hn hg=>?_,fun b hb=>?_,aPB hI.kQ hf.kQ,fun j hj x hx=>?_,fun x bn hx=>hle x bn (hI.aLr x bn hx)⟩
 ·by_cases hxw:W.ws x i
  ·obtain⟨h1,h2,h3⟩:=aOM x blk hxw hx;obtain⟨b,N,k1,k2,k3⟩:=hr'.live x blk h1;exact⟨b,N,by rw [aOL x h2];exact k1,by rw [h3,hcut];exact k2,k3⟩
  ·obtain⟨h1,h2,h3⟩:=aON x hxw;rw [h1] at hx;obtain⟨b,N,k1,k2,k3⟩:=hI.slot x blk hx;refine⟨b,N,by rw [h3];exact k1,?_,?_⟩
   ·rw [h2];exact k2.mono k3 (fun hg=>hf.keeps b (k2.lt hg) (aYs x blk b N hxw hx k1 hg)) hro hf.mV (P4 hle)
   ·rcases k3 with⟨k4,k5⟩ | k4
    ·refine .inl ⟨k4,fun hR=>?_⟩;rcases hf.cZ b hR with h6 | h6 | h6
     ·exact k5 h6
     ·exact aYs x blk b N hxw hx k1 k4 h6
     ·have:=k2.lt k4;omega
    ·exact .inr k4
 ·by_cases hxw:W.ws x i <;> by_cases hyw:W.ws y i
  ·obtain⟨h1,h2,_⟩:=aOM x bx hxw hx;obtain⟨h3,h4,_⟩:=aOM y by_ hyw hy;rw [aOL x h2] at rK;rw [aOL y h4] at hny;exact hr'.inj x y bx by_ b Nx Ny h1 h3 rK hny hgx hgy
  ·exfalso;obtain⟨h1,h2,_⟩:=aOM x bx hxw hx;obtain⟨h3,_,h5⟩:=aON y hyw;rw [h3] at hy;rw [aOL x h2] at rK;rw [h5] at hny;rcases hf.cW b ⟨x,bx,Nx,h1,rK,hgx⟩ with h6 | h6
   ·exact aYs y by_ b Ny hyw hy hny hgy h6
   ·obtain⟨b',N',k1,k2,k3⟩:=hI.slot y by_ hy;rw [hny] at k1;simp only [aJp,aKN] at k1;obtain⟨rfl,rfl⟩:=k1;have:=k2.lt hgy;omega
  ·exfalso;obtain⟨h1,h2,_⟩:=aOM y by_ hyw hy;obtain⟨h3,_,h5⟩:=aON x hxw;rw [h3] at hx;rw [aOL y h2] at hny;rw [h5] at rK;rcases hf.cW b ⟨y,by_,Ny,h1,hny,hgy⟩ with h6 | h6
   ·exact aYs x bx b Nx hxw hx rK hgx h6
   ·obtain⟨b',N',k1,k2,k3⟩:=hI.slot x bx hx;rw [rK] at k1;simp only [aJp,aKN] at k1;obtain⟨rfl,rfl⟩:=k1;have:=k2.lt hgx;omega
  ·obtain⟨h1,_,h2⟩:=aON x hxw;obtain⟨h3,_,h4⟩:=aON y hyw;rw [h1] at hx;rw [h3] at hy;rw [h2] at rK;rw [h4] at hny;exact hI.inj x y bx by_ b Nx Ny hx hy rK hny hgx hgy
 ·by_cases hx':W.L i≤x∧x<W.L (i+1)
  ·exact .inr ⟨i,.inr rfl,hx'.1,hx'.2⟩
  ·rw [hout x hx'] at hx;rcases hI.dom x hx with h | ⟨k,h1,h2⟩
   ·exact .inl h
   ·exact .inr ⟨k,.inl h1,h2⟩
 ·rw [hf.keeps b (a1r hb hI.xX) (fun h1=>?_)]
  ·exact hI.keeps b hb hl
  ·obtain⟨z,blk,N,h2,h3,h4,h5⟩:=hlv b h1;rcases hI.cW z blk b N h3 h4 h5 with h6 | h6
   ·exact hl h6
   ·omega
 ·by_cases hxw:W.ws x i
  ·obtain⟨h1,h2,_⟩:=aOM x blk hxw hx;rw [aOL x h2] at hn;rcases hf.cW b ⟨x,blk,N,h1,hn,hg⟩ with h6 | h6
   ·obtain⟨z,dN,N',h2,h3,h4,h5⟩:=hlv b h6;exact hI.cW z dN b N' h3 h4 h5
   ·exact .inr (aPB hI.xX h6)
  ·obtain⟨h1,_,h2⟩:=aON x hxw;rw [h1] at hx;rw [h2] at hn;exact hI.cW x blk b N hx hn hg
 ·rcases hf.cZ b hb with h6 | h6 | h6
  ·exact hI.cZ b h6
  ·obtain⟨z,dN,N',h2,h3,h4,h5⟩:=hlv b h6;exact .inr (hI.cW z dN b N' h3 h4 h5)
  ·exact .inr (.inr (aPB hI.xX h6))
 ·have h1:ρ x≠none:=hj.elim (fun h=>hI.named j h x hx) (fun h=>hnm x (h▸hx));cases he:ρ x with
  | none=>exact absurd he h1
  | some bn=>rw [hle x bn he];simp
end
def IZ (ops:Array Oper)(D:Nat→Prop):Prop:=∀ i o,D i→ops[i]?=some o→∀ e∈o.after,Region.binds .any e=true→D e.on
theorem aIK (acc:Array Nat)(es:Array Edge):∀ j,(es.foldl (fun s e=>if Region.binds .any e then s ||| 2^e.on ||| acc.getD e.on 0 else s) 0).testBit j=true →
  ∃ e∈es,Region.binds .any e=true∧(e.on=j∨(acc.getD e.on 0).testBit j=true):=by
 refine Array.foldl_induction (motive:=fun _ (s:Nat)=>∀ j,s.testBit j=true→∃ e∈es,Region.binds .any e=true∧(e.on=j∨(acc.getD e.on 0).testBit j=true)) ?_ ?_
 ·intro j h;simp at h
 ·intro i s ih j h
  split at h
  ·rename_i hb;rw [Nat.testBit_or,Nat.testBit_or,Bool.or_eq_true,Bool.or_eq_true] at h;rcases h with(h | h) | h
   ·exact ih j h
   ·refine⟨es[i],Array.getElem_mem _,hb,.inl ?_⟩;rw [Nat.testBit_two_pow] at h;simpa using h
   ·exact⟨es[i],Array.getElem_mem _,hb,.inr h⟩
  ·exact ih j h
theorem LX (ops:Array Oper):(Region.before ops).size=ops.size∧∀ k,k<ops.size→∀ j,((Region.before ops).getD k 0).testBit j=true →
  ∃ o,ops[k]?=some o∧∃ e∈o.after,Region.binds .any e=true∧(e.on=j∨(e.on<k∧((Region.before ops).getD e.on 0).testBit j=true)):=by
 unfold Region.before;refine Array.foldl_induction (motive:=fun n (acc:Array Nat)=>acc.size=n∧∀ k,k<n→∀ j,(acc.getD k 0).testBit j=true →
  ∃ o,ops[k]?=some o∧∃ e∈o.after,Region.binds .any e=true∧(e.on=j∨(e.on<k∧(acc.getD e.on 0).testBit j=true))) ?_ ?_
 ·exact⟨rfl,fun k hk=>absurd hk (a9x _)⟩
 ·rintro i acc ⟨h1,h2⟩;refine⟨by simp [h1],fun k hk j hj=>?_⟩;have aRJ:∀ (v m:Nat),m<i→(acc.push v).getD m 0=acc.getD m 0:=fun v m hm=>by
   rw [aXT,aXT,Array.getElem?_push,aJn (by omega)]
  by_cases hki:k=i
  ·rw [aXT,Array.getElem?_push,aJb (by omega),a0f] at hj;obtain⟨e,he,hb,h3⟩:=aIK acc _ j hj;refine⟨ops[i],by subst hki;simp,e,he,hb,?_⟩;rcases h3 with h3 | h3
   ·exact .inl h3
   ·have hlt:e.on<i:=by
     rcases Nat.lt_or_ge e.on i with h | h
     ·exact h
     ·rw [aXT,Array.getElem?_eq_none_iff.2 (by omega)] at h3;simp at h3
    exact .inr ⟨by omega,by rw [aRJ _ _ hlt];exact h3⟩
  ·have a93:k<i:=by omega
   rw [aRJ _ _ a93] at hj;obtain⟨o,ho,e,he,hb,h3⟩:=h2 k a93 j hj;refine⟨o,ho,e,he,hb,?_⟩;rcases h3 with h3 | ⟨h3,h4⟩
   ·exact .inl h3
   ·exact .inr ⟨h3,by rw [aRJ _ _ (by omega)];exact h4⟩
theorem I1 {ops:Array Oper}{D:Nat→Prop}(hcl:IZ ops D):∀ i,(∀ o,ops[i]?=some o→∀ e∈o.after,Region.binds .any e=true→D e.on) →
  ∀ j,((Region.before ops).getD i 0).testBit j=true→D j:=by
 intro i
 induction i using Nat.strongRecOn with
 | ind i ih=>
  intro hi j hb;by_cases hlt:i<ops.size
  ·obtain⟨o,ho,e,he,hbd,h⟩:=(LX ops).2 i hlt j hb;have hD:=hi o ho e he hbd;rcases h with rfl | ⟨h1,h2⟩
   ·exact hD
   ·exact ih e.on h1 (fun o' ho' e' he' hb'=>hcl e.on o' hD ho' e' he' hb') j h2
  ·have hz:=(LX ops).1;rw [aXT,Array.getElem?_eq_none_iff.2 (by omega)] at hb;simp at hb
theorem vL {all:Array Oper}{w:World}{R:Nat→Prop}{ρ:Nm}{r:List AV}{a:Act}{o:Oper}{b:Bool}
  (h:∀ d∈eH all o,aI w R ρ ((r[d]?).getD .undef) (a.tmps.getD d undef)∧(r[d]?=none↔a.tmps[d]?=none)) (hw:iZ all r o=some b):Region.wanted o (yielded all a.tmps)=b:=by
 unfold iZ at hw;unfold Region.wanted
 split at hw
 ·rename_i hg;rw [hg];simpa using hw
 ·rename_i j want hg;have hgr:eH all o=match (all[j]?).bind (·.dst) with
   | some d=>[d]
   | none=>[]:=by unfold eH;rw [hg] <;> rfl
  rw [hg];simp only [yielded]
  split at hw
  ·rename_i d hd;have bFk:eH all o=[d]:=by rw [hgr,hd]
   rw [hd];simp only [aEk];obtain⟨h1,h2⟩:=h d (by rw [bFk];simp);rw [aXT] at h1
   split at hw
   ·rename_i c hr;rw [hr] at h1 h2;cases hu:a.tmps[d]? with
    | none=>rw [hu] at h2;simp at h2
    | some u=>
     rw [hu] at h1;simp only [a0f] at h1;cases h1;simp at hw ⊢;exact hw
   ·rename_i hr;rw [hr] at h1 h2;cases hu:a.tmps[d]? with
    | none=>rw [hu] at h2;simp at h2
    | some u=>
     rw [hu] at h1;simp only [a0f] at h1;cases h1;simp at hw ⊢;exact hw
   ·rename_i hr;rw [h2.1 hr];simp at hw ⊢;exact hw
   ·cases hw
  ·rename_i hd;rw [hd];simp at hw ⊢;exact hw
section
variable {C:dI}{ops:Array Oper}{W:Wk C ops}{R0 R:Nat→Prop}{gI ρ:Nm}{w0 w:World}{D:Nat→Prop}{a:Act}{i:Nat}
def Wk.jE (W:Wk C ops):Prop:=∀ j i,j<i→i<W.n→(nU (Region.before ops) i j||mR (W.fp i) (W.fp j))=true
theorem i5 {x y:FP}(h:mR x y=true):(∀ s,s∈x.tch→s∉y.sl)∧(∀ s,s∈y.tch→s∉x.sl)∧(∀ d,x.dst=some d→d∉y.rd∧y.dst≠some d)∧(∀ d,y.dst=some d→d∉x.rd):=by
 unfold mR a38 at h;simp only [aKS,aQ6,a1K,List.contains_eq_mem,decide_eq_false_iff_not] at h;obtain⟨⟨⟨h1,h2⟩,h3⟩,h4⟩:=h;refine⟨h1,h2,fun d hd=>?_,fun d hd=>?_⟩
 ·rw [hd] at h3;simpa using h3
 ·rw [hd] at h4;simpa using h4
theorem Wk.aIL (i:Nat):∀ x∈(W.fp i).tch,x∈(W.fp i).sl:=by
 unfold Wk.fp;cases W.did i <;> intro x hx <;> first | exact hx | simp [aIC] at hx
theorem aIM {rd:List Nat}{r:List AV}{a:Act}(h:∀ t∈rd,aI w R ρ ((r[t]?).getD .undef) (a.tmps.getD t undef)):pF w R ρ (evM rd r) a:=by
 intro x av hx;have hc:∀ y:Operand,(∀ t,y≠.tmp t)→evO r y=some av→aI w R ρ av (a.eval y):=by
  intro y hy he;have h1:b9 w R ρ [] ({ a with tmps:=#[] }:Act):=.nil;cases y with
  | tmp t=>exact absurd rfl (hy t)
  | const v=>exact xL (a:={ a with tmps:=#[] }) h1 (x:=.const v) he
  | func f=>exact xL (a:={ a with tmps:=#[] }) h1 (x:=.func f) he
  | global g=>cases he
 cases x with
 | tmp t=>
  simp only [evM] at hx
  split at hx
  ·rename_i ht;simp only [evO,aJp] at hx;subst hx;exact h t (by simpa using ht)
  ·cases hx
 | const v=>exact hc _ (fun t h=>by cases h) hx
 | func f=>exact hc _ (fun t h=>by cases h) hx
 | global g=>exact hc _ (fun t h=>by cases h) hx
theorem Wk.Inv.see (hI:W.Inv R0 gI w0 D R ρ a w)(hpb:∀ j,j<i→(nU (Region.before ops) i j||mR (W.fp i) (W.fp j))=true)(hpa:∀ j,i<j→j<W.n→(nU (Region.before ops) j i||mR (W.fp j) (W.fp i))=true)
  (hcl:IZ ops D) (hrd:∀ o,ops[i]?=some o→∀ e∈o.after,Region.binds .any e=true→D e.on) (hnD:¬D i) (hlt:i≤W.n) (hDn:∀ j,D j→j<W.n) :
  (∀ t∈(W.fp i).rd,aI w R (cut ρ (W.L i)) (((W.st i).r[t]?).getD .undef) (a.tmps.getD t undef)∧((W.st i).r[t]?=none↔a.tmps[t]?=none))∧W.a4a D i ∧
   (∀ x∈(W.fp i).sl,x<W.L i∧ρ x≠none)∧∀ j,i<j→j<W.n→D j→mR (W.fp j) (W.fp i)=true:=by
 have a94:∀ j,j<i→D j∨mR (W.fp i) (W.fp j)=true:=by
  intro j hj;rcases Bool.or_eq_true _ _▸hpb j hj with h | h
  ·exact .inl (I1 hcl i hrd j h)
  ·exact .inr h
 have aOP:∀ j,i<j→j<W.n→D j→mR (W.fp j) (W.fp i)=true:=by
  intro j hj hjn hD;rcases Bool.or_eq_true _ _▸hpa j hj hjn with h | h
  ·exact absurd (I1 hcl j (fun o ho=>hcl j o hD ho) i h) hnD
  ·exact h
 have aRH:∀ t∈(W.fp i).rd,∀ j,j<W.n→W.wr t j→(D j↔j<i):=by
  intro t ht j hj hw;have hw':(W.fp j).dst=some t:=by rw [W.aIJ];exact hw
  rcases a9y j i with h | h | h
  ·rcases a94 j h with h1 | h1
   ·exact⟨fun _=>h,fun _=>h1⟩
   ·exact absurd ht ((i5 h1).2.2.2 t hw')
  ·subst h;exact⟨fun h=>absurd h hnD,fun h=>absurd h (Nat.lt_irrefl _)⟩
  ·refine⟨fun hD=>?_,fun h'=>by omega⟩;exact absurd ht ((i5 (aOP j h hj hD)).2.2.1 t hw').1
 have kD:=fun t ht=>hI.fH hlt (aRH t ht);have MZ:∀ x∈(W.fp i).sl,x<W.L i∧ρ x≠none:=by
  have key:(∀ t∈eC (W.op i),t∈(W.fp i).rd)→∀ x∈dD (W.op i) (W.st i),x<W.L i∧ρ x≠none:=by
   intro hsub x hx;have h1:cut ρ (W.L i) x≠none:=by
    refine E9 (w:=w) (R:=R) (ρ:=cut ρ (W.L i)) (fun v hv=>?_) x (aOG hx);obtain⟨t,ht,rfl⟩:=aQ5.1 hv;exact⟨_,(kD t (hsub t ht)).1⟩
   by_cases hxl:x<W.L i
   ·rw [kX hxl] at h1;exact⟨hxl,h1⟩
   ·unfold cut at h1;rw [aJn hxl] at h1;exact absurd rfl h1
  cases hd:W.did i with
  | no=>
   have:(W.fp i).sl=[]:=by unfold Wk.fp;rw [hd];rfl
   intro x hx;rw [this] at hx;simp at hx
  | pure v=>
   have h1:(W.fp i).sl=dD (W.op i) (W.st i):=by unfold Wk.fp;rw [hd];rfl
   have h2:(W.fp i).rd=eH ops (W.op i)++eC (W.op i):=by unfold Wk.fp;rw [hd];rfl
   rw [h1];exact key fun t ht=>by rw [h2];exact a9o _ ht
  | eff v h'=>
   have h1:(W.fp i).sl=dD (W.op i) (W.st i):=by unfold Wk.fp;rw [hd];rfl
   have h2:(W.fp i).rd=eH ops (W.op i)++eC (W.op i):=by unfold Wk.fp;rw [hd];rfl
   rw [h1];exact key fun t ht=>by rw [h2];exact a9o _ ht
  | gone=>
   have h1:(W.fp i).sl=dD (W.op i) (W.st i):=by unfold Wk.fp;rw [hd];rfl
   have h2:(W.fp i).rd=eH ops (W.op i)++eC (W.op i):=by unfold Wk.fp;rw [hd];rfl
   rw [h1];exact key fun t ht=>by rw [h2];exact a9o _ ht
 have hnm:∀ x∈(W.fp i).sl,ρ x≠none:=fun x hx=>(MZ x hx).2;have aLs:∀ x∈(W.fp i).sl,∀ j,j<W.n→W.ws x j→(D j↔j<i):=by
  intro x hx j hj hw;obtain⟨hxl,hxn⟩:=MZ x hx;rcases hw with hw | ⟨hw1,hw2⟩
  ·rcases a9y j i with h | h | h
   ·rcases a94 j h with h1 | h1
    ·exact⟨fun _=>h,fun _=>h1⟩
    ·exact absurd hx ((i5 h1).2.1 x hw)
   ·subst h;exact⟨fun h=>absurd h hnD,fun h=>absurd h (Nat.lt_irrefl _)⟩
   ·refine⟨fun hD=>?_,fun h'=>by omega⟩;exact absurd hx ((i5 (aOP j h hj hD)).1 x hw)
  ·have hji:j<i:=by
    rcases Nat.lt_or_ge j i with h | h
    ·exact h
    ·have:=W.gD h (a1c hj);omega
   refine⟨fun _=>hji,fun _=>?_⟩;rcases hI.dom x hxn with h3 | ⟨k,h3,h4,h5⟩
   ·have:=W.gD (aLj j) (a1c hj);omega
   ·have hkn:=hDn k h3;rcases a9y k j with h6 | h6 | h6
    ·have:=W.gD (i:=k+1) (j:=j) h6 (a1c hj);omega
    ·subst h6;exact h3
    ·have:=W.gD (i:=j+1) (j:=k) h6 (a1c hkn);omega
 exact⟨kD,⟨hlt,aRH,aLs⟩,MZ,aOP⟩
theorem Wk.Inv.run (hI:W.Inv R0 gI w0 D R ρ a w)(hp:W.jE)(hcl:IZ ops D)(hrd:∀ o,ops[i]?=some o→∀ e∈o.after,Region.binds .any e=true→D e.on)
  (hnD:¬D i) (hlt:i<W.n) (gW:W.did i≠.gone) (hDn:∀ j,D j→j<W.n) {K:Act→World→Prop} {Q:Exit→Act→World→Prop}
  (hK:∀ R' ρ' a' w',W.Inv R0 gI w0 (fun j=>D j∨j=i) R' ρ' a' w'→K a' w'):wpOp C.P ops Q i K a w:=by
 obtain⟨kD,hs,MZ,aOP⟩:=hI.see (fun j hj=>hp j i hj hlt) (fun j hj hjn=>hp i j hj hjn) hcl hrd hnD (a1c hlt) hDn;have hnm:∀ x∈(W.fp i).sl,ρ x≠none:=fun x hx=>(MZ x hx).2;have hnone:∀ x,W.L i≤x→x<W.L (i+1)→ρ x=none:=by
  intro x h1 h2;cases hx:ρ x with
  | none=>rfl
  | some bn=>
   exfalso;rcases hI.dom x (by rw [hx];simp) with h3 | ⟨k,h3,h4,h5⟩
   ·have:=W.gD (aLj i) (a1c hlt);omega
   ·rcases a9y k i with h6 | h6 | h6
    ·have:=W.gD (i:=k+1) (j:=i) h6 (a1c hlt);omega
    ·subst h6;exact hnD h3
    ·have:=W.gD (i:=i+1) (j:=k) h6 (a1c (hDn k h3));omega
 have nI:∀ t,W.wr t i→∀ j,i<j→j<W.n→D j→¬W.wr t j:=by
  intro t ht j hj hjn hD hw;have h1:=(i5 (aOP j hj hjn hD)).2.2.1 t (by rw [W.aIJ];exact hw);exact h1.2 (by rw [W.aIJ];exact ht)
 have NL:∀ x,W.ws x i→∀ j,i<j→j<W.n→D j→¬W.ws x j:=by
  intro x hx j hj hjn hD hw;have hij:=W.gD (i:=i+1) (j:=j) hj (a1c hjn);have hii:=W.aIH hlt;rcases hx with hx | ⟨hx1,hx2⟩
  ·have hxl:=(MZ x (W.aIL i x hx)).1;rcases hw with hw | ⟨hw1,hw2⟩
   ·exact(i5 (aOP j hj hjn hD)).1 x hw (W.aIL i x hx)
   ·omega
  ·rcases hw with hw | ⟨hw1,hw2⟩
   ·exact hI.named j hD x (W.aIL j x hw) (hnone x hx1 hx2)
   ·omega
 have hok:=W.ok i hlt;have hgd:∀ d∈eH ops (W.op i),d∈(W.fp i).rd:=by
  intro d P7;unfold Wk.fp;cases W.did i with
  | no=>exact P7
  | pure v=>exact a1h _ P7
  | eff v h'=>exact a1h _ P7
  | gone=>exact a1h _ P7
 unfold wpOp;rw [hok.1];simp only;have aOQ:=hok.2.1;cases hd:W.did i with
 | no=>
  rw [hd] at aOQ;rw [vL (fun d P7=>kD d (hgd d P7)) aOQ];simp only [aZC,if_false];have hst:W.st (i+1)=⟨lS (W.st i).r (W.op i).dst .undef,(W.st i).h⟩:=by rw [hok.2.2,hd];rfl
  exact hK _ _ _ _ (hI.put hlt nI hnm (by unfold Wk.fp;rw [hd];rfl) (by unfold Wk.L;rw [hst]) (by rw [hst]) .undef)
 | pure v=>
  rw [hd] at aOQ;obtain⟨hw,hstep⟩:=aOQ;rw [vL (fun d P7=>kD d (hgd d P7)) hw];simp only [if_true];refine .inl ?_;have h1:(W.fp i).sl=dD (W.op i) (W.st i):=by unfold Wk.fp;rw [hd];rfl
  have h2:(W.fp i).rd=eH ops (W.op i)++eC (W.op i):=by unfold Wk.fp;rw [hd];rfl
  have hrel:=hI.rel hs (S:=dD (W.op i) (W.st i)) (by rw [h1];exact fun _ h=>h);have cL:pF w R (cut ρ (W.L i)) (evM (eC (W.op i)) (W.st i).r) a:=aIM fun t ht=>(kD t (by rw [h2];exact a9o _ ht)).1;have hst:W.st (i+1)=⟨lS (W.st i).r (W.op i).dst v,(W.st i).h⟩:=by rw [hok.2.2,hd];rfl
  refine hstep R (cut ρ (W.L i)) w a (W.op i) rfl hrel cL K Q fun u w' hk hv=>?_;exact hK _ _ _ _ (hI.bFj hlt nI hnm (by unfold Wk.fp;rw [hd];rfl) (by unfold Wk.L;rw [hst]) (by rw [hst]) hk hv)
 | eff v h'=>
  rw [hd] at aOQ;obtain⟨hw,hstep⟩:=aOQ;rw [vL (fun d P7=>kD d (hgd d P7)) hw];simp only [if_true];refine .inl ?_;have h1:(W.fp i).sl=dD (W.op i) (W.st i):=by unfold Wk.fp;rw [hd];rfl
  have h2:(W.fp i).rd=eH ops (W.op i)++eC (W.op i):=by unfold Wk.fp;rw [hd];rfl
  have hrel:=hI.rel hs (S:=dD (W.op i) (W.st i)) (by rw [h1];exact fun _ h=>h);have cL:pF w R (cut ρ (W.L i)) (evM (eC (W.op i)) (W.st i).r) a:=aIM fun t ht=>(kD t (by rw [h2];exact a9o _ ht)).1;refine hstep R (cut ρ (W.L i)) w a (W.op i) rfl hrel cL K Q fun R' eN u w' k1 k2 k3=>?_;obtain⟨ρ',hI'⟩:=hI.eff hs hlt hnD nI NL hDn hnm hd k1 k2 k3;exact hK _ _ _ _ hI'
 | gone=>exact absurd hd gW
theorem Wk.Inv.fin (hI:W.Inv R0 gI w0 D R ρ a w)(hall:∀ j,j<W.n→D j)(hDn:∀ j,D j→j<W.n):XD C.dB R0 gI (W.st 0).h w0 .normal (W.st W.n) .normal a w:=by
 have e1:∀ t,W.reg D t=(W.st W.n).r[t]?:=fun t=>W.aRG (aKQ _) fun j hj _=>⟨fun _=>hj,fun _=>hall j hj⟩;have e2:∀ x,W.slot D x=((W.st W.n).h[x]?).join:=fun x=>W.NK (aKQ _) fun j hj _=>⟨fun _=>hj,fun _=>hall j hj⟩;have b1:∀ t,W.rb D t≤W.L W.n:=fun t=>aE4 (W.gD (aLj _) (aKQ _)) _ fun j hj _ _=>W.gD hj (aKQ _);have b2:∀ x,W.sb D x≤W.L W.n:=fun x=>aE4 (W.gD (aLj _) (aKQ _)) _ fun j hj _ _=>W.gD hj (aKQ _);have MZ:∀ x blk,(W.st W.n).h[x]?=some (some blk)→x<W.L W.n∧W.slot D x=some blk:=by
  intro x blk hx;exact⟨(aK2.1 hx).1,by rw [e2,hx];rfl⟩
 refine⟨hI.defers,R,cut ρ (W.L W.n),⟨fun x blk hx=>?_,fun x y bx by_ b Nx Ny hx hy rK hny=>?_,fun x hx=>?_,hI.ro⟩,⟨?_,fun t c u hc hu=>?_⟩,⟨hI.os,hI.tape,hI.output,hI.xX,hI.mV,hI.keeps,?_,hI.cZ,hI.kQ,fun x bn _ hx=>?_⟩,rfl⟩
 ·obtain⟨h1,h2⟩:=MZ x blk hx;obtain⟨b,N,k1,k2,k3⟩:=hI.slot x blk h2;exact⟨b,N,by rw [kX h1];exact k1,k2.mono k3 (fun _=>rfl) (fun _ _=>rfl) (fun _ h=>h) (E8 ρ (b2 x)),k3⟩
 ·obtain⟨h1,h2⟩:=MZ x bx hx;obtain⟨h3,h4⟩:=MZ y by_ hy;rw [kX h1] at rK;rw [kX h3] at hny;exact hI.inj x y bx by_ b Nx Ny h2 h4 rK hny
 ·unfold cut;have hx:W.L W.n≤x:=hx;rw [aJn (by omega)]
 ·rw [Wk.a4d (aKQ _),← hI.size];simp
 ·obtain⟨v,h1,h2⟩:=hI.reg t u (by simpa using hu);rw [e1,hc] at h1;injection h1 with h1;subst h1
  exact h2.mono (fun _ _=>rfl) (fun _ h=>h) (E8 ρ (b1 t))
 ·rintro b ⟨x,blk,N,hx,hn,hg⟩;obtain⟨h1,h2⟩:=MZ x blk hx;rw [kX h1] at hn;exact hI.cW x blk b N h2 hn hg
 ·have h1:=hI.aLr x bn hx;have h2:x<W.L W.n:=by
   rcases hI.dom x (by rw [h1];simp) with h | ⟨k,h3,_,h5⟩
   ·have:=W.gD (aLj W.n) (aKQ _);omega
   ·have:=W.gD (i:=k+1) (j:=W.n) (hDn k h3) (aKQ _);omega
  rw [kX h2];exact h1
theorem Wk.Inv.fN {m:Nat}{v:AV}{h':AH}(hI:W.Inv R0 gI w0 D R ρ a w)(hp:W.jE)(hm:m<W.n)(hgo:ops[m]?=some (W.op m))(aRK:iZ ops (W.st m).r (W.op m)=some true)(hst:E0 C.P (W.op m).op (evM (eC (W.op m)) (W.st m).r) (mY (dD (W.op m) (W.st m)) (W.st m).h) v h')(hpl:IW v=true)(aOR:W.did m=.gone)
  (hcl:IZ ops D) (hrd:∀ o,ops[m]?=some o→∀ e∈o.after,Region.binds .any e=true→D e.on) (hnD:¬D m) (hDn:∀ j,D j→j<W.n) {p:Nat} {K:Act→World→Prop} {Q:Exit→Act→World→Prop}
  (hQ:∀ e a' w',XD p R0 gI (W.st 0).h w0 (.fN v) (XE p (W.st 0).r.length) e a' w'→Q e a' w'):wpOp C.P ops Q m K a w:=by
 obtain⟨kD,hs,MZ,_⟩:=hI.see (fun j hj=>hp j m hj hm) (fun j hj hjn=>hp m j hj hjn) hcl hrd hnD (a1c hm) hDn;have h1:(W.fp m).sl=dD (W.op m) (W.st m):=by unfold Wk.fp;rw [aOR];rfl
 have h2:(W.fp m).rd=eH ops (W.op m)++eC (W.op m):=by unfold Wk.fp;rw [aOR];rfl
 unfold wpOp;rw [hgo];simp only;rw [vL (fun d P7=>kD d (by rw [h2];exact a1h _ P7)) aRK];simp only [if_true];refine .inl ?_;have hrel:=hI.rel hs (S:=dD (W.op m) (W.st m)) (by rw [h1];exact fun _ h=>h);have cL:pF w R (cut ρ (W.L m)) (evM (eC (W.op m)) (W.st m).r) a:=aIM fun t ht=>(kD t (by rw [h2];exact a9o _ ht)).1;refine hst R (cut ρ (W.L m)) w a (W.op m) rfl hrel cL K Q fun R' eN u w' k1 k2 hf=>?_;have hlv:∀ b,Lv (cut ρ (W.L m)) (mY (dD (W.op m) (W.st m)) (W.st m).h) b→Lv gI (W.st 0).h b∨w0.heap.size≤b:=by
  rintro b ⟨z,blk,N,h1',h2',h3⟩;obtain⟨h4,h5⟩:=IX.1 h1';have hz:z<W.L m:=(aK2.1 h5).1;rw [kX hz] at h2';refine hI.cW z blk b N ?_ h2' h3;rw [W.NK (a1c hm) (hs.slot z (by rw [h1];exact h4)),h5];rfl
 have hnone:∀ (i:Nat) (blk:cQ),(List.replicate p (none:Option cQ))[i]?=some (some blk)→False:=by
  intro i blk hi;rw [List.getElem?_replicate] at hi
  split at hi <;> simp at hi
 have bFl:∀ (n:Nat) (us:List Value),us.length=n→aK w' R' (fun i=>if i<p then gI i else none) (List.replicate n .any) us:=by
  intro n
  induction n with
  | zero=>
   intro us h;have:us=[]:=a9w h;subst this;exact .nil
  | succ n ih=>
   intro us h;cases us with
   | nil=>simp at h
   | cons u us=>exact .cons (.any u) (ih us (by simpa using h))
 refine hQ _ _ _ ⟨hI.defers,R',fun i=>if i<p then gI i else none,⟨fun i blk hi=>(hnone i blk hi).elim,fun i j bi bj b Ni Nj hi=>(hnone i bi hi).elim,fun i hi=>?_,k2.ro⟩,bFl _ _ ?_,
  ⟨hf.os.trans hI.os,hf.tape.trans hI.tape,hf.output.trans hI.output,aPB hI.xX hf.size,fun b hb=>hf.mV b (hI.mV b hb),fun b hb hl=>?_,?_,fun b hb=>?_,aPB hI.kQ hf.kQ,fun i bn hi h=>?_⟩,u,rfl,aIB hpl k1⟩
 ·have hi:p≤i:=by simpa [XE] using hi
  exact aJn (by omega)
 ·rw [← hI.size];simp
 ·rw [hf.keeps b (a1r hb hI.xX) (fun h3=>?_)]
  ·exact hI.keeps b hb hl
  ·rcases hlv b h3 with h6 | h6
   ·exact hl h6
   ·omega
 ·rintro b ⟨i,blk,N,hi,_⟩;exact(hnone i blk hi).elim
 ·rcases hf.cZ b hb with h6 | h6 | h6
  ·exact hI.cZ b h6
  ·exact .inr (hlv b h6)
  ·exact .inr (.inr (aPB hI.xX h6))
 ·show(if i<p then gI i else none)=_;rw [aJb hi];exact h
def fwd (ops:Array Oper):Bool:=(List.range ops.size).all fun i=>match ops[i]? with
 | some o=>o.after.toList.all fun e=>!Region.binds .any e||Nat.blt e.on i
 | none=>true
theorem aRL (h:fwd ops=true){i:Nat}{o:Oper}(ho:ops[i]?=some o){e:Edge}(he:e∈o.after)(hb:Region.binds .any e=true):e.on<i:=by
 unfold fwd at h;rw [aQ6] at h;have h1:=h i (a9t.2 (aZK.1 ho).1);rw [ho] at h1;simp only [aQ6] at h1;have h2:=h1 e (by simpa using he);rw [hb] at h2;simpa [Nat.blt_eq] using h2
def unl (ops:Array Oper)(listed:Array Bool):List Nat:=(List.range ops.size).filter fun j=>!listed.getD j true
theorem Wk.jE.any (hp:W.jE)(hf:fwd ops=true){Q:Exit→Act→World→Prop}
  (hn:W.n=ops.size)
  (hQ:∀ D R ρ a w,W.Inv R0 gI w0 D R ρ a w→(∀ j,j<ops.size→D j)→(∀ j,D j→j<W.n)→(∀ j,D j→W.did j≠.gone)→Q .normal a w)
  (bFm:∀ i,i<W.n→W.did i=.gone→∀ D R ρ a w,W.Inv R0 gI w0 D R ρ a w→IZ ops D→(∀ o,ops[i]?=some o→∀ e∈o.after,Region.binds .any e=true→D e.on)→¬D i→(∀ j,D j→j<W.n)→(∀ j,D j→W.did j≠.gone) →
   ∀ K:Act→World→Prop,wpOp C.P ops Q i K a w) :
  ∀ (fuel:Nat) (listed:Array Bool) (R:Nat→Prop) (ρ:Nm) (a:Act) (w:World),listed.size=ops.size→(unl ops listed).length≤fuel→IZ ops (fun j=>listed.getD j false=true)→(∀ j,listed.getD j false=true→j<W.n)→(∀ j,listed.getD j false=true→W.did j≠.gone) →
   W.Inv R0 gI w0 (fun j=>listed.getD j false=true) R ρ a w→wpAny C.P .any ops Q fuel listed a w:=by
 have hnil:∀ (listed:Array Bool),listed.size=ops.size→Region.ready .any ops listed=[]→∀ j,j<ops.size→listed.getD j false=true:=by
  intro listed hsz hr j
  induction j using Nat.strongRecOn with
  | ind j ih=>
   intro hj;cases hb:listed.getD j false with
   | true=>rfl
   | false=>
    exfalso;have hm:j∈Region.ready .any ops listed:=by
     rw [mem_ready];refine⟨?_,ops[j],by simp,fun e he hbd=>?_⟩
     ·rw [aXT] at hb ⊢;rw [aXN (by omega)] at hb ⊢;simpa using hb
     ·have hlt:=aRL hf (o:=ops[j]) (i:=j) (by simp) he hbd;exact ih e.on hlt (by omega)
    rw [hr] at hm;simp at hm
 intro fuel
 induction fuel with
 | zero=>
  intro listed R ρ a w hsz hu hcl hdn gW hI;have hz:unl ops listed=[]:=a9w (by omega);have hall:∀ j,j<ops.size→listed.getD j false=true:=by
   intro j hj;cases hb:listed.getD j false with
   | true=>rfl
   | false=>
    exfalso;have:j∈unl ops listed:=by
     unfold unl;rw [aXV];refine⟨a9t.2 hj,?_⟩;rw [aXT] at hb ⊢;rw [aXN (by omega)] at hb ⊢;simpa using hb
    rw [hz] at this;simp at this
  refine⟨?_,hQ _ R ρ a w hI hall hdn gW⟩;cases hr:Region.ready .any ops listed with
  | nil=>rfl
  | cons x xs=>
   exfalso;have hx:x∈Region.ready .any ops listed:=by rw [hr];simp
   obtain⟨h1,o,ho,_⟩:=mem_ready.1 hx;have hxl:=(aZK.1 ho).1;have h2:=hall x hxl;rw [aXT,aXN (by omega)] at h1 h2;simp at h1 h2;rw [h1] at h2;cases h2
 | succ fuel ih=>
  intro listed R ρ a w hsz hu hcl hdn gW hI;refine⟨fun hr=>hQ _ R ρ a w hI (hnil listed hsz hr) hdn gW,fun i hi=>?_⟩;obtain⟨h1,o,ho,h2⟩:=mem_ready.1 hi;have hlt:=(aZK.1 ho).1;have h3:listed.getD i false=false:=by
   rw [aXT,aXN (by omega)] at h1 ⊢;simpa using h1
  have aRM:∀ o',ops[i]?=some o'→∀ e∈o'.after,Region.binds .any e=true→listed.getD e.on false=true:=fun o' ho'=>by
   rw [ho] at ho';injection ho' with ho';subst ho';exact h2
  have hin:i<W.n:=by rw [hn];exact hlt
  by_cases hgo:W.did i=.gone
  ·exact bFm i hin hgo _ R ρ a w hI hcl aRM (by rw [h3];simp) hdn gW _
  refine hI.run hp hcl aRM (by rw [h3];simp) hin hgo hdn fun R' ρ' a' w' hI'=>?_
  ·have aYu:∀ j,((listed.setIfInBounds i true).getD j false=true)=(listed.getD j false=true∨j=i):=by
    intro j;apply propext;by_cases hji:j=i
    ·subst hji;simp only [or_true,iff_true];rw [aXT,Array.getElem?_setIfInBounds_self_of_lt (by omega)];rfl
    ·rw [getD_set_ne false (Ne.symm hji)];simp [hji]
   refine ih _ R' ρ' a' w' (by simpa using hsz) ?_ ?_ (fun j hj=>?_) (fun j hj=>?_) ?_
   ·have hlen:(unl ops (listed.setIfInBounds i true)).length<(unl ops listed).length:=by
     have he:unl ops (listed.setIfInBounds i true)=(unl ops listed).filter fun j=>decide (j≠i):=by
      unfold unl;rw [List.filter_filter];refine List.filter_congr fun j hj=>?_;have hj:=a9t.1 hj;by_cases hji:j=i
      ·subst hji;rw [aXT,Array.getElem?_setIfInBounds_self_of_lt (by omega)];simp
      ·rw [getD_set_ne true (Ne.symm hji)];simp [hji]
     rw [he];rw [List.length_filter_lt_length_iff_exists];refine⟨i,?_,by simp⟩;unfold unl;rw [aXV];exact⟨a9t.2 hlt,by rw [h1];rfl⟩
    omega
   ·intro j oj hj hoj e he hb;rw [aYu] at hj ⊢;rcases hj with hj | hj
    ·exact .inl (hcl j oj hj hoj e he hb)
    ·subst hj;rw [ho] at hoj;injection hoj with hoj;subst hoj
     exact .inl (h2 e he hb)
   ·rw [aYu] at hj;rcases hj with hj | hj
    ·exact hdn j hj
    ·rw [hj];exact hin
   ·rw [aYu] at hj;rcases hj with hj | hj
    ·exact gW j hj
    ·rw [hj];exact hgo
   ·have:(fun j=>(listed.setIfInBounds i true).getD j false=true)=(fun j=>listed.getD j false=true∨j=i):=funext aYu;rw [this];exact hI'
end
def cB {β:Type}(C:dI)(T:Tb):H7 β:=fun ops s K=>if fwd ops then aE0 C T ops (List.range ops.size) s [] K else none
theorem aRN {C:dI}{ops:Array Oper}{W:Wk C ops}{qR:List FP}(hk:sG (Region.before ops) qR=true)(h4:qR=((List.range' 0 W.n).map fun i=>W.fp i).reverse):W.jE:=by
 intro j i hji hi;have hpw:=LV hk;rw [h4,List.pairwise_reverse] at hpw;rw [List.pairwise_map] at hpw;have:=List.pairwise_iff_getElem.1 hpw j i (by simp;omega) (by simpa using hi) hji;simp only [List.getElem_range',aZ3,Nat.one_mul] at this;rw [W.a90,W.a90] at this;exact this
theorem eZ {β:Type}{C:dI}{T:Tb}(hC:C.Ok)(hT:T.Ok C.P):nN C (cB (β:=β) C T):=by
 intro id ops s K z hx;unfold cB at hx
 split at hx
 ·rename_i hf;have hstart:∀ {W:Wk C ops} {R:Nat→Prop} {ρ:Nm} {a:Act} {w:World},(fun j=>(Array.replicate ops.size false).getD j false=true)=fun _=>False:=by
   intro W R ρ a w;funext j;apply propext;rw [aXT,Array.getElem?_replicate]
   split <;> simp
  have hno:∀ j,(Array.replicate ops.size false).getD j false=true→False:=by
   intro j hi;rw [aXT,Array.getElem?_replicate] at hi
   split at hi <;> simp at hi
  have mk:∀ {p:Option (Nat×AV×AH)} {s':AS} {hY:List FP},Walk C ops p (List.range ops.size) s [] s' hY→sG (Region.before ops) hY=true →
    ∃ W:Wk C ops,W.n=ops.size∧W.st 0=s∧W.st ops.size=s'∧W.jE∧∀ i,i<ops.size→ops[i]?=some (W.op i)∧aID C ops p i (W.op i) (W.st i) (W.did i):=by
   intro p s' hY hw hk;rw [List.range_eq_range'] at hw;obtain⟨st,op,did,h1,h2,h3,h4⟩:=hw.fn;let W:Wk C ops:=⟨ops.size,aKQ _,st,op,did,fun i hi=>by
    obtain⟨k1,k2,k3,_⟩:=h3 i (aLj _) (by omega);exact⟨k1,k2,k3⟩⟩
   exact⟨W,rfl,h1,by rw [← h2];show st _=st _;congr 1;omega,aRN hk (by rw [h4,a1d];rfl),fun i hi=>by
    obtain⟨k1,_,_,k4⟩:=h3 i (aLj _) (by omega);exact⟨k1,k4⟩⟩
  rcases YO hC hT ops _ s [] K z List.nodup_range hx with⟨s',hY,hw,hk,hK⟩ | ⟨m,v,h',s',hY,hmem,hw,hk,hK⟩
  ·refine⟨.normal,s',hK,?_⟩;obtain⟨W,hn,a4f,hs',hp,hgo⟩:=mk hw hk;subst a4f;have gW:∀ j,j<ops.size→W.did j≠.gone:=by
    intro j hj e;obtain⟨m,v,h',k,_⟩:=(hgo j hj).2.2 e;cases k
   intro R ρ a w hr ha hd;have hr0:Rel R ρ (W.st 0).h w:=hr;have ha0:b9 w R ρ (W.st 0).r a:=ha;obtain⟨qQ,f1⟩:=EU hr0;have ha1:b9 w.drew R ρ (W.st 0).r a:=ha0.EM f1 hr0;refine wp_region_any hC.mixed ?_;refine hp.any (R0:=R) (gI:=ρ) (w0:=w.drew) hf hn (fun D R' ρ' a' w' hI hall hDn _=>?_) (fun i hi W6=>absurd W6 (gW i (by omega))) ops.size _ R ρ a w.drew (by simp) ?_ ?_ ?_ ?_ ?_
   ·have:=(hI.fin (fun j hj=>hall j (by omega)) hDn).pre f1.weak;rw [hn,hs'] at this;exact this
   ·unfold unl;exact aPB (aXR _ _) (by simp)
   ·intro i o hi;exact(hno i hi).elim
   ·intro j hj;exact(hno j hj).elim
   ·intro j hj;exact(hno j hj).elim
   ·rw [hstart (W:=W) (R:=R) (ρ:=ρ) (a:=a) (w:=w)];exact W.start qQ ha1 hd
  ·refine⟨.fN v,_,hK,?_⟩;obtain⟨W,hn,a4f,hs',hp,hgo⟩:=mk hw hk;subst a4f;have hm:m<ops.size:=a9t.1 hmem;obtain⟨hop,hg1,_⟩:=hgo m hm;obtain⟨aOR,aRK,hstep,hpl⟩:=hg1 m v h' rfl rfl;intro R ρ a w hr ha hd;have hr0:Rel R ρ (W.st 0).h w:=hr;have ha0:b9 w R ρ (W.st 0).r a:=ha;obtain⟨qQ,f1⟩:=EU hr0;have ha1:b9 w.drew R ρ (W.st 0).r a:=ha0.EM f1 hr0;refine wp_region_any hC.mixed ?_;refine hp.any (R0:=R) (gI:=ρ) (w0:=w.drew) hf hn (fun D R' ρ' a' w' hI hall hDn gW=>absurd aOR (gW m (hall m hm))) (fun i hi W6 D R' ρ' a' w' hI hcl hrd hnD hDn gW K'=>?_) ops.size _ R ρ a w.drew (by simp) ?_ ?_ ?_ ?_ ?_
   ·obtain⟨m',v',h'',e,hor⟩:=(hgo i (by omega)).2.2 W6;injection e with e
    injection e with e1 e2
    rcases hor with hor | hor
    ·have him:i=m:=hor.trans e1.symm;subst him;refine hI.fN (p:=C.dB) hp hi hop aRK hstep hpl aOR hcl hrd hnD hDn fun e a'' w'' hfin=>?_;exact hfin.pre f1.weak
    ·rw [← e1] at hor;exact absurd aOR (gW m (I1 hcl i hrd m hor))
   ·unfold unl;exact aPB (aXR _ _) (by simp)
   ·intro i o hi;exact(hno i hi).elim
   ·intro j hj;exact(hno j hj).elim
   ·intro j hj;exact(hno j hj).elim
   ·rw [hstart (W:=W) (R:=R) (ρ:=ρ) (a:=a) (w:=w)];exact W.start qQ ha1 hd
 ·cases hx
section
variable {C:dI}{T:Tb}
theorem aLt {w:World}{R:Nat→Prop}{ρ ρ':Nm}{b:Nat}{N:BN}{bt:TypeId}{t:Ty}{l:List t.El}(hb:dY w R ρ b N (.row bt t l)):dY w R ρ' b N (.row bt t l):=by
 obtain⟨k1,k2⟩:=hb;refine⟨k1,fun hg=>?_⟩;obtain⟨arr,k3,k4,k5,k6⟩:=k2 hg;refine⟨arr,k3,k4,k5,fun j o c hj hc=>?_⟩;obtain⟨u,hu,hv⟩:=k6 j o c hj hc;exact⟨u,hu,t.eV _ c (aPl hc) _ _ _ _ _ hv⟩
theorem aE5 {f:FuncId}{fn:Func}{c:Code}(hfn:C.P.funcs[f]?=some fn)(hb:fn.body=some c){args:List AV}{h0:AH}{x:AX}{s':AS}(hx:x=.ret∨x=.normal)
  {R:Nat→Prop} {ρ:Nm} {w:World} {vs:Array Value} (hr:Rel R ρ h0 w) (hvs:aK w R ρ args vs.toList)
  (hca:c.wp C.P (XD C.dB R ρ h0 w x s') { tmps:=vs++Array.replicate (fn.ntmps-vs.size) undef,defers:=[] } w) {l:List AV} (hl:BS C s' fn.results.toList=some l)
  {v:AV} {h':AH} (hlen:h0.length≤h'.length) (hfin:∀ (FA:Nm) R ρ w u,(∀ k,h0.length≤k→FA k=none)→Rel R ρ s'.h w→aI w R ρ (eE l) u→∃ R' ρ',Rel R' ρ' h' w∧aI w R' ρ' v u∧(∀ b,R b→R' b)∧(∀ b,Lv ρ' h' b→Lv ρ s'.h b)∧(∀ b,R' b→R b∨Lv ρ s'.h b) ∧
   FA.le ρ'∧∀ x,x<h0.length→FA x=none→ρ' x=none) :
  Calls C.P f vs w fun e w'=>∃ R' ρ' u,(Res.ret v).Is w' R' ρ' e u∧Rel R' ρ' h' w'∧fB R ρ h0 w R' ρ' h' w':=by
 refine calls_of_wp hfn hb ?_;refine wp_mono hca ?_;rintro e a' w' ⟨hd,R',ρ',hr',ha',f',hx'⟩;obtain⟨us,h1,h2⟩:=EZ (C:=C) hr' ha' hl;have hres:∃ v,(results fn a'.tmps).run C.P w'=.ok v w'∧aI w' R' ρ' (eE l) v:=by
  have hm:(fn.results.mapM (aAO a'.tmps)).run C.P w'=.ok us.toArray w':=by
   rw [Array.mapM_eq_mapM_toList,Sem.run_map,h1];rfl
  rw [CY,aPJ];refine⟨if h:us.toArray.size=1 then us.toArray[0] else .tuple us.toArray,by rw [hm];rfl,?_⟩;have hlen:=h2.1;cases l with
  | nil=>
   obtain rfl:=h2.bE;exact .mU .nil
  | cons c1 l=>
   obtain⟨u1,nG,rfl,h3,h4⟩:=h2.cons_inv;cases l with
   | nil=>
    obtain rfl:=h4.bE;simpa [eE] using h3
   | cons c2 l=>
    have:¬((u1 :: nG).toArray.size=1):=by
     have:=h4.1;simp at this ⊢;intro he;rw [he] at this;simp at this
    rw [dif_neg this];exact .mU (.cons h3 h4)
 obtain⟨u,hv1,hv2⟩:=hres;obtain⟨R2,y7,r2,v2,k1,k2,k3,k4,k5⟩:=hfin ρ R' ρ' w' u hr.dom hr' hv2;have hf:fB R ρ h0 w R2 y7 h' w':=by
  refine⟨f'.os,f'.tape,f'.output,f'.size,k4,fun b hb=>k1 b (f'.mV b hb),f'.keeps,fun b hl=>?_,fun b hb=>?_,hlen,k5,f'.kQ⟩
  ·exact f'.cW b (k2 b hl)
  ·rcases k3 b hb with h | h
   ·exact f'.cZ b h
   ·rcases f'.cW b h with h | h
    ·exact .inr (.inl h)
    ·exact .inr (.inr h)
 rcases hx with rfl | rfl
 ·have he:e=.ret:=hx';subst he;exact⟨hd,u,hv1,R2,y7,u,⟨rfl,v2⟩,r2,hf⟩
 ·have he:e=.normal:=hx';subst he;exact⟨hd,u,hv1,R2,y7,u,⟨rfl,v2⟩,r2,hf⟩
theorem YP {f:FuncId}{fn:Func}{c:Code}(hfn:C.P.funcs[f]?=some fn)(hb:fn.body=some c){args:List AV}{h0:AH}{x:AX}{s':AS}(hx:x=.ret∨x=.normal)
  (hca:CA C c ⟨args++List.replicate (fn.ntmps-args.length) .undef,h0⟩ x s') {l:List AV} (hl:BS C s' fn.results.toList=some l)
  {v:AV} {h':AH} (hlen:h0.length≤h'.length) (hfin:∀ (FA:Nm) R ρ w u,(∀ k,h0.length≤k→FA k=none)→Rel R ρ s'.h w→aI w R ρ (eE l) u→∃ R' ρ',Rel R' ρ' h' w∧aI w R' ρ' v u∧(∀ b,R b→R' b)∧(∀ b,Lv ρ' h' b→Lv ρ s'.h b)∧(∀ b,R' b→R b∨Lv ρ s'.h b) ∧
   FA.le ρ'∧∀ x,x<h0.length→FA x=none→ρ' x=none) :
  AC C.P f args h0 (.ret v) h':=by
 intro R ρ w vs hr hvs;have hsz:vs.size=args.length:=by have:=hvs.1;simpa using this
 have ha:b9 w R ρ (args++List.replicate (fn.ntmps-args.length) .undef) { tmps:=vs++Array.replicate (fn.ntmps-vs.size) undef,defers:=[] }:=by
  unfold b9;simp only [Array.toList_append,Array.toList_replicate,hsz];exact hvs.append (aK.replicate .undef _)
 exact aE5 hfn hb hx hr hvs (hca R ρ _ w hr ha rfl) hl hlen hfin
def P8 (C:dI)(bt:TypeId)(t:Ty)(res:List ResultVar)(x:AX)(s:AS):Option (List t.El):=match x with
 | .ret | .normal=>match BS C s res with
  | some [.bL t' i]=>match s.h[i]? with
   | some (some (.row HZ ty l))=>if hty:ty=t then(if HZ=bt∧t'=t then some (hty▸l) else none) else none
   | _=>none
  | some [.eY]=>some []
  | _=>none
 | _=>none
theorem aBe {bt:TypeId}{t:Ty}{res:List ResultVar}{x:AX}{s:AS}{y:List t.El}(h:P8 C bt t res x s=some y) :
  (x=.ret∨x=.normal)∧∃ l,BS C s res=some l∧∀ R ρ w u,Rel R ρ s.h w→aI w R ρ (eE l) u →
   ∃ b N,(∀ ρ',dY w R ρ' b N (.row bt t y))∧Real R b N (.row bt t y)∧(N.gh=false→Lv ρ s.h b)∧∀ (ρ':Nm) k,ρ' k=some (b,N)→aI w R ρ' (.bL t k) u:=by
 have hx:x=.ret∨x=.normal:=by
  cases x with
  | ret=>exact .inl rfl
  | normal=>exact .inr rfl
  | _=>simp [P8] at h
 refine⟨hx,?_⟩;have hh:(match BS C s res with
  | some [.bL t' i]=>match s.h[i]? with
   | some (some (.row HZ ty l))=>if hty:ty=t then(if HZ=bt∧t'=t then some (hty▸l) else none) else none
   | _=>none
  | some [.eY]=>some []
  | _=>none)=some y:=by
  rcases hx with rfl | rfl <;> exact h
 split at hh
 ·rename_i t' i hl;refine⟨_,hl,fun R ρ w u hr hv=>?_⟩
  split at hh
  ·rename_i HZ ty l hi
   split at hh
   ·rename_i hty;subst hty
    split at hh
    ·rename_i hbt;obtain⟨rfl,rfl⟩:=hbt;injection hh with hh;subst hh
     obtain⟨b,N,h1,h2,h3⟩:=hr.live i _ hi;refine⟨b,N,fun _=>aLt h2,h3,fun hg=>⟨i,_,N,hi,h1,hg⟩,fun ρ' k hk=>?_⟩;have hv:aI w R ρ (.bL t' i) u:=hv;cases hv with
     | @bL _ _ b' N' cap hn' hg hl hcc=>
      rw [h1] at hn';simp only [aJp,aKN] at hn';obtain⟨rfl,rfl⟩:=hn';exact .bL hk hg hl hcc
     | @iY _ _ b' N' hn' hg=>
      rw [h1] at hn';simp only [aJp,aKN] at hn';obtain⟨rfl,rfl⟩:=hn';exact .iY hk hg
    ·cases hh
   ·cases hh
  ·cases hh
 ·rename_i hl;refine⟨_,hl,fun R ρ w u hr hv=>?_⟩;injection hh with hh;subst hh
  refine⟨0,⟨0,0,true⟩,fun _=>⟨rfl,fun hg=>by cases hg⟩,.inr ⟨rfl,_,_,rfl⟩,fun hg=>(by cases hg),fun ρ' k hk=>?_⟩;have hv:aI w R ρ .eY u:=hv;cases hv;exact .iY hk rfl
 ·cases hh
theorem aE6 {bt:TypeId}{t:Ty}{s':AS}{y:List t.El}{l:List AV}(hk:∀ R ρ w u,Rel R ρ s'.h w→aI w R ρ (eE l) u →
   ∃ b N,(∀ ρ',dY w R ρ' b N (.row bt t y))∧Real R b N (.row bt t y)∧(N.gh=false→Lv ρ s'.h b)∧∀ (ρ':Nm) k,ρ' k=some (b,N)→aI w R ρ' (.bL t k) u) :
  ∀ (FA:Nm) R ρ w u,(∀ k,([]:AH).length≤k→FA k=none)→Rel R ρ s'.h w→aI w R ρ (eE l) u→∃ R' ρ',Rel R' ρ' [some (.row bt t y)] w∧aI w R' ρ' (.bL t 0) u∧(∀ b,R b→R' b)∧(∀ b,Lv ρ' [some (.row bt t y)] b→Lv ρ s'.h b)∧(∀ b,R' b→R b∨Lv ρ s'.h b) ∧
   FA.le ρ'∧∀ x,x<([]:AH).length→FA x=none→ρ' x=none:=by
 intro FA R ρ w u hin hr hv;obtain⟨b,N,h1,h2,h3,h4⟩:=hk R ρ w u hr hv;have hone:∀ (k:Nat) (blk:cQ),([some (cQ.row bt t y)]:AH)[k]?=some (some blk)→k=0∧blk=.row bt t y:=by
  intro k blk hk;cases k with
  | zero=>simp at hk;exact⟨rfl,hk.symm⟩
  | succ k=>simp at hk
 refine⟨R,fun k=>if k=0 then some (b,N) else none,⟨fun k blk hk=>?_,fun k k' bk bk' c Nk Nk' hk hk' _ _ _ _=>?_,fun k hk=>?_,hr.ro⟩,h4 _ 0 rfl,fun _ h=>h,?_,fun _ h=>.inl h,fun k bn hk=>?_,fun x hx=>absurd hx (a9x _)⟩
 ·obtain⟨rfl,rfl⟩:=hone k blk hk;exact⟨b,N,rfl,h1 _,h2⟩
 ·rw [(hone k _ hk).1,(hone k' _ hk').1]
 ·show(if k=0 then _ else _)=_;rw [aJn];simp at hk;omega
 ·rintro c ⟨k,blk,N',hk,hn',hg⟩;obtain⟨rfl,rfl⟩:=hone k blk hk;simp only [if_true,aJp,aKN] at hn';obtain⟨rfl,rfl⟩:=hn';exact h3 hg
 ·rw [hin k (aLj _)] at hk;cases hk
def B7 (C:dI)(T:Tb)(bt:TypeId)(t:Ty)(dr:H7 (List t.El))(lp:dK (List t.El))(fn:Func)(c:Code)(args:List AV):Option (List t.El):=
 aV C T dr lp c ⟨args++List.replicate (fn.ntmps-args.length) .undef,[]⟩ (P8 C bt t fn.results.toList)
theorem aRO (hC:C.Ok)(hT:T.Ok C.P){bt:TypeId}{t:Ty}{dr:H7 (List t.El)}{lp:dK (List t.El)}(hdr:nN C dr){f:FuncId}{fn:Func}{c:Code}(hfn:C.P.funcs[f]?=some fn)(hb:fn.body=some c)(hlp:aC C lp (aJ c))
  {args:List AV} {y:List t.El} (hf:B7 C T bt t dr lp fn c args=some y):AC C.P f args [] (.ret (.bL t 0)) [some (.row bt t y)]:=by
 obtain⟨x,s',hK,hca⟩:=cV hC hT hdr c hlp _ _ _ hf;obtain⟨hx,l,hl,hk⟩:=aBe hK;exact YP hfn hb hx hca hl (aLj _) (aE6 hk)
def aRP (C:dI)(T:Tb)(bt:TypeId)(t:Ty)(HZ:TypeId)(t':Ty)(dr:H7 (List t'.El))(lp:dK (List t'.El))(fn:Func)(c:Code)(l:List t.El)(args:List AV):Option (List t'.El):=
 aV C T dr lp c ⟨(.bL t 0 :: args)++List.replicate (fn.ntmps-(AV.bL t 0 :: args).length) .undef,[some (.row bt t l)]⟩ (P8 C HZ t' fn.results.toList)
theorem aRQ (hC:C.Ok)(hT:T.Ok C.P){bt HZ:TypeId}{t t':Ty}{dr:H7 (List t'.El)}{lp:dK (List t'.El)}(hdr:nN C dr){f:FuncId}{fn:Func}{c:Code}(hfn:C.P.funcs[f]?=some fn)(hb:fn.body=some c)(hlp:aC C lp (aJ c))
  {l:List t.El} {args:List AV} {y:List t'.El} (hf:aRP C T bt t HZ t' dr lp fn c l args=some y):AC C.P f (.bL t 0 :: args) [some (.row bt t l)] (.ret (.bL t' 1)) [none,some (.row HZ t' y)]:=by
 obtain⟨x,s',hK,hca⟩:=cV hC hT hdr c hlp _ _ _ hf;obtain⟨hx,l,hl,hk⟩:=aBe hK;refine YP hfn hb hx hca hl (by simp) fun FA R ρ w u hin hr hv=>?_;obtain⟨b,N,h1,h2,h3,h4⟩:=hk R ρ w u hr hv;have hone:∀ (k:Nat) (blk:cQ),([none,some (cQ.row HZ t' y)]:AH)[k]?=some (some blk)→k=1∧blk=.row HZ t' y:=by
  intro k blk hk;cases k with
  | zero=>simp at hk
  | succ k=>cases k with
   | zero=>simp at hk;exact⟨rfl,hk.symm⟩
   | succ k=>simp at hk
 refine⟨R,fun k=>if k=1 then some (b,N) else FA k,⟨fun k blk hk=>?_,fun k k' bk bk' c Nk Nk' hk hk' _ _ _ _=>?_,fun k hk=>?_,hr.ro⟩,h4 _ 1 rfl,fun _ h=>h,?_,fun _ h=>.inl h,fun k bn hk=>?_,fun x hx hn=>?_⟩
 ·obtain⟨rfl,rfl⟩:=hone k blk hk;exact⟨b,N,rfl,h1 _,h2⟩
 ·rw [(hone k _ hk).1,(hone k' _ hk').1]
 ·show(if k=1 then _ else _)=_;simp only [aQO,List.length_nil] at hk;rw [aJn (by omega)];exact hin k (by simp;omega)
 ·rintro c ⟨k,blk,N',hk,hn',hg⟩;obtain⟨rfl,rfl⟩:=hone k blk hk;simp only [if_true,aJp,aKN] at hn';obtain⟨rfl,rfl⟩:=hn';exact h3 hg
 ·show(if k=1 then _ else _)=_;rw [aJn]
  ·exact hk
  ·intro e;rw [hin k (by simp;omega)] at hk;cases hk
 ·show(if x=1 then _ else _)=_;simp only [aQO,List.length_nil] at hx;rw [aJn (by omega)];exact hn
end
inductive aW where
 | fn (g:FuncId) (ks:List FuncId) (e:FnE)
 | own (g:FuncId) (ks:List FuncId) (e:aRo)
 | mov (g:FuncId) (ks:List FuncId) (e:aYg)
 | gen (g:FuncId) (ks:List FuncId) (r:a3V)
 | fN (g:FuncId) (ks:List FuncId) (r:aIm)
 | ext (g:FuncId) (r:a3W)
def aW.Ok (P:Program):aW→Prop
 | .fn g _ e=>∀ x y,e.F x=some y→AC P g (bQ e.ps x) [] (.ret (eE (i4 e.rs y))) []
 | .own g _ e=>∀ x y,e.F x=some y→AC P g (bQ e.ps x) [] (.ret (.bL e.t 0)) [some (.row e.bt e.t y)]
 | .mov g _ e=>∀ l x y,e.F l x=some y→AC P g (.bL e.t 0 :: bQ e.ps x) [some (.row e.bt e.t l)] (.ret (.bL e.t' 1)) [none,some (.row e.HZ e.t' y)]
 | .gen g _ r=>∀ (β:Type) (h:AH) (args:List AV) (K:AV→AH→Option β) (z:β),r.run h args K=some z→∃ v h',K v h'=some z∧vF P g args h v h'
 | .fN g _ r=>r.Ok P g
 | .ext g r=>∀ (β:Type) (args:List AV) (K:AV→Option β) (z:β),r.run args K=some z→∃ v,K v=some z∧a1R P g args v
def YQ:List aW→FuncId→List FuncId→Option FnE
 | [],_,_=>none
 | .fn g' ks' e :: r,g,ks=>if Nat.beq g' g&&ks'==ks then some e else YQ r g ks
 | _ :: r,g,ks=>YQ r g ks
def I3:List aW→FuncId→List FuncId→Option aRo
 | [],_,_=>none
 | .own g' ks' e :: r,g,ks=>if Nat.beq g' g&&ks'==ks then some e else I3 r g ks
 | _ :: r,g,ks=>I3 r g ks
def I4:List aW→FuncId→List FuncId→Option aYg
 | [],_,_=>none
 | .mov g' ks' e :: r,g,ks=>if Nat.beq g' g&&ks'==ks then some e else I4 r g ks
 | _ :: r,g,ks=>I4 r g ks
def I5:List aW→FuncId→List FuncId→Option a3V
 | [],_,_=>none
 | .gen g' ks' e :: r,g,ks=>if Nat.beq g' g&&ks'==ks then some e else I5 r g ks
 | _ :: r,g,ks=>I5 r g ks
def I6:List aW→FuncId→List FuncId→Option aIm
 | [],_,_=>none
 | .fN g' ks' e :: r,g,ks=>if Nat.beq g' g&&ks'==ks then some e else I6 r g ks
 | _ :: r,g,ks=>I6 r g ks
def I7:List aW→FuncId→Option a3W
 | [],_=>none
 | .ext g' f :: r,g=>if Nat.beq g' g then some f else I7 r g
 | _ :: r,g=>I7 r g
def cC (ty:TypeId→Option Ty)(mp:TypeId→Option (Ty×Ty))(l:List aW):Tb:=⟨ty,mp,YQ l,I3 l,I4 l,I5 l,I6 l,I7 l⟩
def vM (P:Program):List aW→Prop
 | []=>True
 | e :: r=>e.Ok P∧vM P r
theorem pK {P:Program}:∀ {l:List aW},vM P l→∀ g ks e,YQ l g ks=some e→(aW.fn g ks e).Ok P
 | [],_,g,ks,e,h=>by simp [YQ] at h
 | .fn g' ks' e' :: r,hl,g,ks,e,h=>by
  simp only [YQ] at h
  split at h
  ·rename_i hc;injection h with h;subst h
   simp only [aKS] at hc;have:=aXS hc.1;subst this;exact hl.1
  ·exact pK hl.2 g ks e h
 | .own .. :: r,hl,g,ks,e,h=>pK (l:=r) hl.2 g ks e h
 | .gen .. :: r,hl,g,ks,e,h=>pK (l:=r) hl.2 g ks e h
 | .mov .. :: r,hl,g,ks,e,h=>pK (l:=r) hl.2 g ks e h
 | .fN .. :: r,hl,g,ks,e,h=>pK (l:=r) hl.2 g ks e h
 | .ext .. :: r,hl,g,ks,e,h=>pK (l:=r) hl.2 g ks e h
theorem lV {P:Program}:∀ {l:List aW},vM P l→∀ g ks e,I3 l g ks=some e→(aW.own g ks e).Ok P
 | [],_,g,ks,e,h=>by simp [I3] at h
 | .own g' ks' e' :: r,hl,g,ks,e,h=>by
  simp only [I3] at h
  split at h
  ·rename_i hc;injection h with h;subst h
   simp only [aKS] at hc;have:=aXS hc.1;subst this;exact hl.1
  ·exact lV hl.2 g ks e h
 | .fn .. :: r,hl,g,ks,e,h=>lV (l:=r) hl.2 g ks e h
 | .gen .. :: r,hl,g,ks,e,h=>lV (l:=r) hl.2 g ks e h
 | .mov .. :: r,hl,g,ks,e,h=>lV (l:=r) hl.2 g ks e h
 | .fN .. :: r,hl,g,ks,e,h=>lV (l:=r) hl.2 g ks e h
 | .ext .. :: r,hl,g,ks,e,h=>lV (l:=r) hl.2 g ks e h
theorem lW {P:Program}:∀ {l:List aW},vM P l→∀ g ks e,I4 l g ks=some e→(aW.mov g ks e).Ok P
 | [],_,g,ks,e,h=>by simp [I4] at h
 | .mov g' ks' e' :: r,hl,g,ks,e,h=>by
  simp only [I4] at h
  split at h
  ·rename_i hc;injection h with h;subst h
   simp only [aKS] at hc;have:=aXS hc.1;subst this;exact hl.1
  ·exact lW hl.2 g ks e h
 | .fn .. :: r,hl,g,ks,e,h=>lW (l:=r) hl.2 g ks e h
 | .gen .. :: r,hl,g,ks,e,h=>lW (l:=r) hl.2 g ks e h
 | .own .. :: r,hl,g,ks,e,h=>lW (l:=r) hl.2 g ks e h
 | .fN .. :: r,hl,g,ks,e,h=>lW (l:=r) hl.2 g ks e h
 | .ext .. :: r,hl,g,ks,e,h=>lW (l:=r) hl.2 g ks e h
theorem lX {P:Program}:∀ {l:List aW},vM P l→∀ g ks e,I5 l g ks=some e→(aW.gen g ks e).Ok P
 | [],_,g,ks,e,h=>by simp [I5] at h
 | .gen g' ks' e' :: r,hl,g,ks,e,h=>by
  simp only [I5] at h
  split at h
  ·rename_i hc;injection h with h;subst h
   simp only [aKS] at hc;have:=aXS hc.1;subst this;exact hl.1
  ·exact lX hl.2 g ks e h
 | .fn .. :: r,hl,g,ks,e,h=>lX (l:=r) hl.2 g ks e h
 | .own .. :: r,hl,g,ks,e,h=>lX (l:=r) hl.2 g ks e h
 | .mov .. :: r,hl,g,ks,e,h=>lX (l:=r) hl.2 g ks e h
 | .fN .. :: r,hl,g,ks,e,h=>lX (l:=r) hl.2 g ks e h
 | .ext .. :: r,hl,g,ks,e,h=>lX (l:=r) hl.2 g ks e h
theorem lY {P:Program}:∀ {l:List aW},vM P l→∀ g ks e,I6 l g ks=some e→(aW.fN g ks e).Ok P
 | [],_,g,ks,e,h=>by simp [I6] at h
 | .fN g' ks' e' :: r,hl,g,ks,e,h=>by
  simp only [I6] at h
  split at h
  ·rename_i hc;injection h with h;subst h
   simp only [aKS] at hc;have:=aXS hc.1;subst this;exact hl.1
  ·exact lY hl.2 g ks e h
 | .fn .. :: r,hl,g,ks,e,h=>lY (l:=r) hl.2 g ks e h
 | .own .. :: r,hl,g,ks,e,h=>lY (l:=r) hl.2 g ks e h
 | .mov .. :: r,hl,g,ks,e,h=>lY (l:=r) hl.2 g ks e h
 | .gen .. :: r,hl,g,ks,e,h=>lY (l:=r) hl.2 g ks e h
 | .ext .. :: r,hl,g,ks,e,h=>lY (l:=r) hl.2 g ks e h
theorem lZ {P:Program}:∀ {l:List aW},vM P l→∀ g r0,I7 l g=some r0→(aW.ext g r0).Ok P
 | [],_,g,r0,h=>by simp [I7] at h
 | .ext g' f :: r,hl,g,r0,h=>by
  simp only [I7] at h
  split at h
  ·rename_i hc;have:=aXS hc;subst this;injection h with h;subst h
   exact hl.1
  ·exact lZ hl.2 g r0 h
 | .fn .. :: r,hl,g,r0,h=>lZ (l:=r) hl.2 g r0 h
 | .own .. :: r,hl,g,r0,h=>lZ (l:=r) hl.2 g r0 h
 | .mov .. :: r,hl,g,r0,h=>lZ (l:=r) hl.2 g r0 h
 | .gen .. :: r,hl,g,r0,h=>lZ (l:=r) hl.2 g r0 h
 | .fN .. :: r,hl,g,r0,h=>lZ (l:=r) hl.2 g r0 h
theorem aQ {P:Program}{ty:TypeId→Option Ty}{mp:TypeId→Option (Ty×Ty)}{l:List aW}(h:vM P l):(cC ty mp l).Ok P:=
 ⟨fun g ks e he=>pK h g ks e he,fun g ks e he=>lV h g ks e he,fun g ks e he=>lW h g ks e he,fun g ks e he=>lX h g ks e he,fun g ks e he=>lY h g ks e he,fun g r he=>lZ h g r he⟩
section
variable {C:dI}{T:Tb}
theorem aC.nil {β:Type}{lp:dK β}:aC C lp []:=fun p hp=>by simp at hp
theorem aC.cons {β:Type}{lp:dK β}{k:Nat}{c:Code}{r:List (Nat×Code)}(h:∀ (s:AS) (K:AX→AS→Option β) (z:β),lp k s K=some z→∃ x s',K x s'=some z∧CA C (.loop c) s x s')(hr:aC C lp r):aC C lp ((k,c) :: r):=by
 intro p hp;rcases aQL.1 hp with rfl | hp
 ·exact h
 ·exact hr p hp
theorem aW.ofFn (hC:C.Ok)(hT:T.Ok C.P){g:FuncId}{ks:List FuncId}{e:FnE}{lp:dK (aS e.rs)}{fn:Func}{c:Code}(hfn:C.P.funcs[g]?=some fn)(hb:fn.body=some c)(hlp:aC C lp (aJ c))
  (hF:∀ x,dA C T e.rs (cB C T) lp fn c (bQ e.ps x)=e.F x):(aW.fn g ks e).Ok C.P:=fun x y h=>
 aES hC hT (eZ hC hT) hfn hb hlp ((hF x).trans h)
theorem aW.LY (hC:C.Ok)(hT:T.Ok C.P){g:FuncId}{ks:List FuncId}{e:aRo}{lp:dK (List e.t.El)}{fn:Func}{c:Code}(hfn:C.P.funcs[g]?=some fn)(hb:fn.body=some c)(hlp:aC C lp (aJ c))
  (hF:∀ x,B7 C T e.bt e.t (cB C T) lp fn c (bQ e.ps x)=e.F x):(aW.own g ks e).Ok C.P:=fun x y h=>
 aRO hC hT (eZ hC hT) hfn hb hlp ((hF x).trans h)
theorem aW.a95 (hC:C.Ok)(hT:T.Ok C.P){g:FuncId}{ks:List FuncId}{e:aYg}{lp:dK (List e.t'.El)}{fn:Func}{c:Code}(hfn:C.P.funcs[g]?=some fn)(hb:fn.body=some c)(hlp:aC C lp (aJ c))
  (hF:∀ l x,aRP C T e.bt e.t e.HZ e.t' (cB C T) lp fn c l (bQ e.ps x)=e.F l x):(aW.mov g ks e).Ok C.P:=fun l x y h=>
 aRQ hC hT (eZ hC hT) hfn hb hlp ((hF l x).trans h)
end
section
variable {C:dI}{T:Tb}{w:World}
theorem AC.YR {P:Program}{f:FuncId}{args:List AV}{bt:TypeId}{t:Ty}{l:List t.El}(h:AC P f args [] (.ret (.bL t 0)) [some (.row bt t l)]):AC P f args [] (.ret (.nF t l)) []:=by
 intro R ρ w vs hr hvs;refine(h R ρ w vs hr hvs).mono ?_;rintro e w' ⟨R',ρ',u,⟨rfl,hu⟩,r1,f1⟩;have hn0:=hr.oG;have hfr:Ty.kQ (.list t) [some (.row bt t l)] (.bL t 0)=some (l,[none]):=by
  simp [Ty.kQ,Ty.isAgg,Ty.xR,aEE]
 obtain⟨R2,r2,f2,v2⟩:=(Ty.list t).C5 r1 hfr hu;refine⟨R2,gI,u,⟨rfl,(Ty.list t).kS l _ _ _ _ _ v2⟩,.base r2.ro,⟨f2.os.trans f1.os,f2.tape.trans f1.tape,f2.output.trans f1.output,aPB f1.size f2.size,by rw [hn0];exact Nm.le_refl _,fun b hb=>f2.mV b (f1.mV b hb),fun b hb hl=>?_,fun b hl=>absurd hl Lv.none,fun b hb=>?_,aKQ _,fun x hx=>absurd hx (a9x _),aPB f1.kQ f2.kQ⟩⟩
 ·rw [f2.keeps b (a1r hb f1.size) (fun h1=>?_)]
  ·exact f1.keeps b hb hl
  ·rcases f1.cW b h1 with h2 | h2
   ·exact hl h2
   ·omega
 ·rcases f2.cZ b hb with h1 | h1 | h1
  ·exact f1.cZ b h1
  ·rcases f1.cW b h1 with h2 | h2
   ·exact .inr (.inl h2)
   ·exact .inr (.inr h2)
  ·exact .inr (.inr (aPB f1.size h1))
theorem aOS {t e:TypeId}(hu:C.P.underlying t=some (.slice e))(a:Option Addr)(n c:Nat):(Op.equal t (.slice a n c) (.slice none 0 0)).run C.P w=.ok a.isNone w:=by
 have key:∀ d,(Op.equalIn (d+1) t (.slice a n c) (.slice none 0 0)).run C.P w=.ok a.isNone w:=by
  intro d;cases a <;> simp [Op.equalIn,run_underlying hu]
 exact key 9999
theorem FB {P:Program}{ops:Array Oper}{Q:Exit→Act→World→Prop}{i:Nat}{rest:List Nat}{a:Act}{o:Oper}{u:Value}{a':Act}{d:Option Tmp}(ho:ops[i]?=some o)(hg:o.guard=none)(hd:o.dst=d)
  (hr:(execOp a.eval o).run P w=.ok (.value u) w) (ha:a.put d u=a') (h:wpOps P ops Q rest a' w):wpOps P ops Q (i :: rest) a w:=by
 subst hd;subst ha;unfold wpOps;rw [ho];simp only;have hw:Region.wanted o (yielded ops a.tmps)=true:=by unfold Region.wanted;rw [hg]
 rw [hw];simp only [if_true];refine .inl ?_;unfold Oper.wp;rw [hr];exact h
structure oH (C:dI)(fn:Func)(c:Code)(st:TypeId) where
 i0:Nat
 i1:Nat
 i2:Nat
 aBf:Array Oper
 XF:Array Oper
 XG:Array Oper
 rest:Code
 code:c=.seq (.region i0 aBf false) (.seq (.seq (.region i1 XF false) (.cond (.tmp 4) (.seq (.region i2 XG false) .ret) .skip)) rest)
 s0:aBf.size=1
 s1:XF.size=2
 s2:XG.size=1
 o00:Oper
 o10:Oper
 o11:Oper
 o20:Oper
 h00:aBf[0]?=some o00
 h10:XF[0]?=some o10
 h11:XF[1]?=some o11
 h20:XG[0]?=some o20
 g00:o00.op=.assign (.const (.slice none 0 0))∧o00.dst=some 2∧o00.guard=none
 g10:o10.op=.move (.tmp 0)∧o10.dst=some 3∧o10.guard=none
 g11:o11.op=.binOp .eql st (.tmp 3) (.const (.slice none 0 0)) st∧o11.dst=some 4∧o11.guard=none
 g20:o20.op=.assign (.const (.slice none 0 0))∧o20.dst=some 2∧o20.guard=none
 nt:fn.ntmps=8
 res:fn.results.toList=[.tmp 2]
theorem LZ (ev:Operand→Value){P:Program}{o:Oper}{x:Operand}(h:o.op=.assign x):(execOp ev o).run P w=.ok (.value (ev x)) w:=by
 obtain⟨_,op,_,_,_,_⟩:=o;simp only at h;subst h;rfl
theorem aOT (ev:Operand→Value){P:Program}{o:Oper}{x:Operand}(h:o.op=.move x):(execOp ev o).run P w=.ok (.value (ev x)) w:=by
 obtain⟨_,op,_,_,_,_⟩:=o;simp only at h;subst h;rfl
theorem aIN (ev:Operand→Value){o:Oper}{t e:TypeId}{x y:Operand}(h:o.op=.binOp .eql t x y t)(hu:C.P.underlying t=some (.slice e)){a:Option Addr}{n c:Nat}(hx:ev x=.slice a n c)(hy:ev y=.slice none 0 0) :
  (execOp ev o).run C.P w=.ok (.value (.bool a.isNone)) w:=by
 obtain⟨_,op,_,_,_,_⟩:=o;simp only at h;subst h;have hp:=jE.slice (C:=C) (t:=t) a n c none 0 0;have h1:(do eqGuard .eql t x y (ev x) (ev y);binOp .eql t (ev x) (ev y):Sem Value).run C.P w=.ok (.bool a.isNone) w:=by
  rw [hx,hy,aPJ,hp.guard (op:=.eql) (x:=x) (y:=y),aQ7,hp.eql,aPJ,aOS hu];rfl
 exact j9 h1
theorem a4g {bt:TypeId}{t:Ty}{f:FuncId}{fn:Func}{c:Code}(hfn:C.P.funcs[f]?=some fn)(hb:fn.body=some c){args:List AV}{y:List t.El}
  (h:∀ (R:Nat→Prop) (ρ:Nm) (w:World) (vs:Array Value),Rel R ρ [] w→aK w R ρ args vs.toList→∃ x s',P8 C bt t fn.results.toList x s'=some y∧c.wp C.P (XD C.dB R ρ [] w x s') { tmps:=vs++Array.replicate (fn.ntmps-vs.size) undef,defers:=[] } w) :
  AC C.P f args [] (.ret (.bL t 0)) [some (.row bt t y)]:=by
 intro R ρ w vs hr hvs;obtain⟨x,s',bFn,hwp⟩:=h R ρ w vs hr hvs;obtain⟨hx,l,hl,hk⟩:=aBe bFn;exact aE5 hfn hb hx hr hvs hwp hl (aLj _) (aE6 hk)
theorem oI (hC:C.Ok)(hT:T.Ok C.P){g:FuncId}{fn:Func}{c:Code}{st bt e:TypeId}{τ:Ty}(hfn:C.P.funcs[g]?=some fn)(hb:fn.body=some c)(K:oH C fn c st)(hu:C.P.underlying st=some (.slice e))
  (hlo:aJ K.rest=[]) {l y:List τ.El}
  (B6:aV C T (cB C T) (fun _ _ _=>none) K.rest ⟨[.nF τ l,.any,.eY,.any,.bool false,.any,.any,.any],[]⟩ (P8 C bt τ [.tmp 2])=some y) (hnil:l=[]→y=[]) :
  AC C.P g [.nF τ l] [] (.ret (.bL τ 0)) [some (.row bt τ y)]:=by
 refine a4g hfn hb fun R ρ w vs hr hvs=>?_;obtain⟨u,nG,bFo,hu0,h2⟩:=hvs.cons_inv;obtain rfl:=h2.bE;have a96:vs=#[u]:=aRl.1 (by simpa using bFo);subst a96;have bFp:∃ a cap,u=.slice a l.length cap:=by
  cases hu0 with
  | nF h=>exact h.EP
 obtain⟨a,cap,rfl⟩:=bFp;rw [K.nt,K.code,K.res];have a97:({ tmps:=#[.slice a l.length cap]++Array.replicate (8-(#[Value.slice a l.length cap]:Array Value).size) undef,defers:=[] }:Act)={ tmps:=#[.slice a l.length cap,undef,undef,undef,undef,undef,undef,undef],defers:=[] }:=rfl;rw [a97];generalize hU:Value.slice a l.length cap=U at hu0 ⊢
 -- up to the test
 have pre:∀ (Q:Exit→Act→World→Prop),
   (a.isNone=true→(Code.seq (.region K.i2 K.XG false) .ret).wp C.P (Exit.then (fun _ _=>False) Q) { tmps:=#[U,undef,.slice none 0 0,U,.bool true,undef,undef,undef],defers:=[] } w) →
   (a.isNone=false→K.rest.wp C.P Q { tmps:=#[U,undef,.slice none 0 0,U,.bool false,undef,undef,undef],defers:=[] } w) →
   (Code.seq (.region K.i0 K.aBf false) (.seq (.seq (.region K.i1 K.XF false) (.cond (.tmp 4) (.seq (.region K.i2 K.XG false) .ret) .skip)) K.rest)).wp C.P Q { tmps:=#[U,undef,undef,undef,undef,undef,undef,undef],defers:=[] } w:=by
  intro Q hn hs;refine wp_seq (wp_region ?_);rw [K.s0];refine FB (a':={ tmps:=#[U,undef,.slice none 0 0,undef,undef,undef,undef,undef],defers:=[] }) (u:=.slice none 0 0) K.h00 K.g00.2.2 K.g00.2.1 (LZ _ K.g00.1) rfl ?_;refine wp_seq (wp_seq (wp_region ?_));rw [K.s1];refine FB (a':={ tmps:=#[U,undef,.slice none 0 0,U,undef,undef,undef,undef],defers:=[] }) (u:=U) K.h10 K.g10.2.2 K.g10.2.1 (aOT _ K.g10.1) rfl ?_;refine FB (a':={ tmps:=#[U,undef,.slice none 0 0,U,.bool a.isNone,undef,undef,undef],defers:=[] }) (u:=.bool a.isNone) K.h11 K.g11.2.2 K.g11.2.1 (aIN _ K.g11.1 hu (a:=a) (n:=l.length) (c:=cap) hU.symm rfl) rfl ?_;show Code.wp _ _ _ _ _;cases ha:a.isNone with
  | true=>
   refine wp_cond_true rfl ?_;refine wp_mono (hn ha) ?_;intro e a' w' he;cases e <;> first | exact he | exact he.elim
  | false=>
   refine wp_cond_false rfl (wp_skip ?_);exact hs ha
 cases ha:a.isNone with
 | true=>
  have hl0:l=[]:=by
   have ha':a=none:=by simpa using ha
   subst ha';subst hU;cases hu0 with
   | nF h=>cases hl:l.length with
    | zero=>exact a9w hl
    | succ n=>rw [hl] at h;cases h
  have hy:=hnil hl0;subst hy;refine⟨.ret,⟨[.any,.any,.eY,.any,.any,.any,.any,.any],[]⟩,rfl,pre _ (fun _=>?_) (fun h=>by rw [ha] at h;cases h)⟩;refine wp_seq (wp_region ?_);rw [K.s2];refine FB (a':={ tmps:=#[U,undef,.slice none 0 0,U,.bool true,undef,undef,undef],defers:=[] }) (u:=.slice none 0 0) K.h20 K.g20.2.2 K.g20.2.1 (LZ _ K.g20.1) rfl ?_;refine wp_ret ?_;refine⟨rfl,R,ρ,hr,?_,eF.refl _ _ _ _,rfl⟩;exact .cons (.any _) (.cons (.any _) (.cons .eY (.cons (.any _) (.cons (.any _) (.cons (.any _) (.cons (.any _) (.cons (.any _) .nil)))))))
 | false=>
  obtain⟨x,s',hK,hca⟩:=cV hC hT (eZ hC hT) K.rest (by rw [hlo];exact aC.nil) _ _ _ B6;refine⟨x,s',hK,pre _ (fun h=>by rw [ha] at h;cases h) (fun _=>?_)⟩;refine hca R ρ _ w hr ?_ rfl;exact .cons hu0 (.cons (.any _) (.cons .eY (.cons (.any _) (.cons (.bool false) (.cons (.any _) (.cons (.any _) (.cons (.any _) .nil)))))))
end
end Go.DI
end
