import Derived.Test.YtbjldjihpekhaaaGreatDib
/- A reading of programs by functions on data, and that it is right. No conditions. -/
set_option linter.unusedSimpArgs false
set_option linter.unusedVariables false
set_option maxRecDepth 100000
set_option maxHeartbeats 0
namespace Go.DI
structure FnE where
 ps:List O8
 rs:List Ty
 F:Ps ps→Option (aS rs)
 /-- What its lists hold is not told to the caller, who keeps what it owns. -/
 hid:Bool:=false
structure aRo where
 ps:List O8
 bt:TypeId
 t:Ty
 F:Ps ps→Option (List t.El)
structure aYg where
 ps:List O8
 bt:TypeId
 t:Ty
 HZ:TypeId
 t':Ty
 F:List t.El→Ps ps→Option (List t'.El)
def vF (P:Program)(g:FuncId)(args:List AV)(h:AH)(v:AV)(h':AH):Prop:=
 ∀ (R:Nat→Prop) (ρ:Nm) (w:World) (vs:Array Value),Rel R ρ h w→aK w R ρ args vs.toList →
  Calls P g vs w fun e w'=>∃ R' ρ' u,e=.returned u∧aI w' R' ρ' v u∧Rel R' ρ' h' w'∧fB R ρ h w R' ρ' h' w'
structure a3V where
 run:{β:Type}→AH→List AV→(AV→AH→Option β)→Option β
def aAT (P:Program)(g:FuncId)(args:List AV)(h:AH)(v:AV)(h':AH):Prop:=
 ∀ (R:Nat→Prop) (ρ:Nm) (w:World) (vs:Array Value),Rel R ρ h w→aK w R ρ args vs.toList →
  Calls P g vs w fun e w'=>∃ R' ρ' u,e=.panicked [{ v:=u,recovered:=false }]∧aI w' R' ρ' v u∧Rel R' ρ' h' w'∧fB R ρ h w R' ρ' h' w'
structure aIm where
 run:{β:Type}→AH→List AV→(AV→AH→Option β)→(AV→AH→Option β)→Option β
def aIm.Ok (P:Program)(g:FuncId)(r:aIm):Prop:=∀ (β:Type) (h:AH) (args:List AV) (K Kp:AV→AH→Option β) (z:β),r.run h args K Kp=some z→(∃ v h',K v h'=some z∧vF P g args h v h')∨∃ v h',Kp v h'=some z∧aAT P g args h v h'
structure a3W where
 run:{β:Type}→List AV→(AV→Option β)→Option β
structure Tb where
 ty:TypeId→Option Ty
 mp:TypeId→Option (Ty×Ty)
 fn:FuncId→List FuncId→Option FnE
 own:FuncId→List FuncId→Option aRo
 mov:FuncId→List FuncId→Option aYg:=fun _ _=>none
 gen:FuncId→List FuncId→Option a3V:=fun _ _=>none
 fN:FuncId→List FuncId→Option aIm:=fun _ _=>none
 /-- Functions that the machine stands in for. -/
 ext:FuncId→Option a3W:=fun _=>none
def a1R (P:Program)(g:FuncId)(args:List AV)(v:AV):Prop:=∀ (w:World) (R:Nat→Prop) (ρ:Nm) (us:Array Value),aK w R ρ args us.toList→∃ u,(callFunc g us).run P w=.ok (.value u) w∧aI w R ρ v u
structure Tb.Ok (P:Program)(T:Tb):Prop where
 fn:∀ g ks e,T.fn g ks=some e→∀ x y,e.F x=some y→AC P g (bQ e.ps x) [] (.ret (eE (i4 e.rs y))) []
 own:∀ g ks e,T.own g ks=some e→∀ x y,e.F x=some y→AC P g (bQ e.ps x) [] (.ret (.bL e.t 0)) [some (.row e.bt e.t y)]
 mov:∀ g ks e,T.mov g ks=some e→∀ l x y,e.F l x=some y→AC P g (.bL e.t 0 :: bQ e.ps x) [some (.row e.bt e.t l)] (.ret (.bL e.t' 1)) [none,some (.row e.HZ e.t' y)]
 gen:∀ g ks r,T.gen g ks=some r→∀ (β:Type) (h:AH) (args:List AV) (K:AV→AH→Option β) (z:β),r.run h args K=some z→∃ v h',K v h'=some z∧vF P g args h v h'
 fN:∀ g ks r,T.fN g ks=some r→r.Ok P g
 ext:∀ g r,T.ext g=some r→∀ (β:Type) (args:List AV) (K:AV→Option β) (z:β),r.run args K=some z→∃ v,K v=some z∧a1R P g args v
def pF (w:World)(R:Nat→Prop)(ρ:Nm)(ev:Operand→Option AV)(a:Act):Prop:=∀ x av,ev x=some av→aI w R ρ av (a.eval x)
def fI (P:Program)(op:Op)(ev:Operand→Option AV)(h:AH)(v:AV)(h':AH):Prop:=
 ∀ (R:Nat→Prop) (ρ:Nm) (w:World) (a:Act) (o:Oper),o.op=op→Rel R ρ h w→pF w R ρ ev a →
  ∀ (K:Act→World→Prop) (Q:Exit→Act→World→Prop),(∀ R' ρ' u w',aI w' R' ρ' v u→Rel R' ρ' h' w'→fB R ρ h w R' ρ' h' w'→K (a.put o.dst u) w')→o.wp P a w K Q
def E0 (P:Program)(op:Op)(ev:Operand→Option AV)(h:AH)(v:AV)(h':AH):Prop:=
 ∀ (R:Nat→Prop) (ρ:Nm) (w:World) (a:Act) (o:Oper),o.op=op→Rel R ρ h w→pF w R ρ ev a →
  ∀ (K:Act→World→Prop) (Q:Exit→Act→World→Prop),(∀ R' ρ' u w',aI w' R' ρ' v u→Rel R' ρ' h' w'→fB R ρ h w R' ρ' h' w'→Q (.panic [{ v:=u,recovered:=false }]) a w')→o.wp P a w K Q
section
variable {C:dI}{T:Tb}{h h':AH}{ev:Operand→Option AV}{op:Op}{v:AV}
theorem fI.aRp (f:(Operand→Value)→Sem Value)(hex:∀ (a:Act) (o:Oper),o.op=op→execOp a.eval o=(do pure (.value (← f a.eval))))
  (hs:∀ R ρ w (a:Act),Rel R ρ h w→pF w R ρ ev a→Post C R ρ h w (f a.eval) v h'):fI C.P op ev h v h':=by
 intro R ρ w a o ho hr cL K Q hK;obtain⟨R',ρ',u,w',h1,h2,h3,h4⟩:=hs R ρ w a hr cL;unfold Oper.wp;rw [hex a o ho,aPJ,h1];exact hK _ _ _ _ h2 h3 h4
theorem fI.iO (f:(Operand→Value)→Sem Value)(hex:∀ (a:Act) (o:Oper),o.op=op→execOp a.eval o=(do pure (.value (← f a.eval))))
  (hs:∀ R ρ w (a:Act),Rel R ρ h w→pF w R ρ ev a→∃ r,(f a.eval).run C.P w=.ok r w∧aI w R ρ v r):fI C.P op ev h v h:=
 .aRp f hex fun R ρ w a hr cL=>by
  obtain⟨r,h1,h2⟩:=hs R ρ w a hr cL;exact⟨R,ρ,r,w,h1,h2,hr,fB.refl _ _ _ _⟩
theorem fI.aLa (f:(Operand→Value)→Sem Unit)(hex:∀ (a:Act) (o:Oper),o.op=op→execOp a.eval o=(do f a.eval;pure .skip))
  (hs:∀ R ρ w (a:Act),Rel R ρ h w→pF w R ρ ev a→X7 C R ρ h w (f a.eval) h'):fI C.P op ev h .undef h':=by
 intro R ρ w a o ho hr cL K Q hK;obtain⟨R',ρ',w',h1,h3,h4⟩:=hs R ρ w a hr cL;unfold Oper.wp;rw [hex a o ho,aPJ,h1];exact hK _ _ _ _ .undef h3 h4
theorem fI.aIn (hC:C.Ok)(ho:opA C h ev op=some (.val v h')):fI C.P op ev h v h':=by
 intro R ρ w a o hop hr cL K Q hK;subst hop;obtain⟨R',ρ',u,w',h1,h2,h3,h4⟩:=IE hC hr cL ho;unfold Oper.wp;rw [h1];exact hK _ _ _ _ h2 h3 h4
theorem fI.aYh (hC:C.Ok)(ho:opA C h ev op=some (.skip h')):fI C.P op ev h .undef h':=by
 intro R ρ w a o hop hr cL K Q hK;subst hop;obtain⟨R',ρ',w',h1,h3,h4⟩:=IE hC hr cL ho;unfold Oper.wp;rw [h1];exact hK _ _ _ _ .undef h3 h4
theorem fI.post {v1:AV}{h1:AH}(hs:fI C.P op ev h v1 h1)
  (hp:∀ R ρ w u,Rel R ρ h1 w→aI w R ρ v1 u→∃ R' ρ',Rel R' ρ' h' w∧aI w R' ρ' v u∧fB R ρ h1 w R' ρ' h' w):fI C.P op ev h v h':=by
 intro R ρ w a o hop hr cL K Q hK;refine hs R ρ w a o hop hr cL K Q fun R1 eN u w1 h2 h3 h4=>?_;obtain⟨R',ρ',k1,k2,k3⟩:=hp R1 eN w1 u h3 h2;exact hK R' ρ' u w1 k2 k1 (h4.trans k3)
def AV.plain:AV→AV
 | .nF t l=>.ro t.sz l.length (t.at l)
 | v=>v
theorem pG {w:World}{R:Nat→Prop}{ρ:Nm}{v:AV}{u:Value}(hv:aI w R ρ v u):aI w R ρ v.plain u:=by
 cases v <;> first | exact hv | (cases hv;assumption)
def XB (C:dI)(t:TypeId)(τ:Ty):Bool:=match C.P.underlying t with
 | some (.slice e)=>match C.P.info? e with
  | some ti=>ti.size==τ.sz
  | none=>false
 | _=>false
def NF {β:Type}(f:Nat→Option β)(i:Int):Nat→Nat→Option β
 | 0,_=>none
 | n+1,a=>bif decide (i=(a:Int)) then f a else NF f i n (a+1)
theorem PA {β:Type}{f:Nat→Option β}{i:Int}{z:β}:∀ (n a:Nat),NF f i n a=some z→∃ k,k<a+n∧i=(k:Int)∧f k=some z
 | 0,a,h=>by cases h
 | n+1,a,h=>by
  simp only [NF] at h;cases hd:decide (i=(a:Int)) with
  | true=>
   rw [hd] at h;exact⟨a,by omega,aXU hd,h⟩
  | false=>
   rw [hd] at h;obtain⟨k,h1,h2,h3⟩:=PA n (a+1) h;exact⟨k,by omega,h2,h3⟩
def C6 {β:Type}(C:dI)(h:AH)(t:TypeId)(x ix:AV)(K:AV→AH→Option β):Option β:=
 match x,ix with
 | .nF τ l,.int _ i=>if XB C t τ then(bif decide (0≤i∧i<l.length) then K (.jL τ.sz l.length (τ.at l) i.toNat 0) h else none) else none
 | .bL τ j,.int _ i=>match h[j]? with
  | some (some (.row _ ty l))=>if ty=τ∧XB C t τ then(bif decide (0≤i∧i<l.length) then K (.qP τ j i.toNat 0) h else none) else none
  | _=>none
 | .own sz j off len,.int _ i=>match C.P.underlying t with
  | some (.slice e)=>match C.P.info? e with
   | some ti=>if ti.size=sz then NF (fun a=>K (.ptr j (off+a*sz)) h) i len 0 else none
   | none=>none
  | _=>none
 | x,ix=>match lN C t x ix with
  | some v=>K v h
  | none=>none
theorem cF {β:Type}{b:Bool}{x y:Option β}{z:β}(h:(bif b then x else y)=some z):(b=true∧x=some z)∨(b=false∧y=some z):=by
 cases b
 ·exact .inr ⟨rfl,h⟩
 ·exact .inl ⟨rfl,h⟩
theorem B4 {β:Type}{t:TypeId}{x ix:AV}{K:AV→AH→Option β}{y:β}(hi:C6 C h t x ix K=some y) :
  ∃ v,K v h=some y∧∀ R ρ w u k,Rel R ρ h w→aI w R ρ x u→aI w R ρ ix k→∃ r,(Instr.indexAt t u k).run C.P w=.ok r w∧aI w R ρ v r:=by
 unfold C6 at hi
 split at hi
 ·rename_i τ l kk i
  split at hi
  ·rename_i hsz;rcases cF hi with⟨hb,hi⟩ | ⟨_,hi⟩
   ·refine⟨_,hi,fun R ρ w u k hr hx hk=>?_⟩;have hb:0≤i∧i<l.length:=by simpa using hb
    refine mM (C:=C) (x:=.ro τ.sz l.length (τ.at l)) (ix:=.int kk i) ?_ (pG (v:=.nF τ l) hx) hk;unfold XB at hsz
    split at hsz
    ·rename_i e ht
     split at hsz
     ·rename_i ti wZ;simp only [lN,ht,wZ];rw [aJb ⟨by simpa using hsz,hb⟩]
     ·cases hsz
    ·cases hsz
   ·cases hi
  ·cases hi
 ·rename_i τ j kk i
  split at hi
  ·rename_i bt ty l hh
   split at hi
   ·rename_i hc;obtain⟨rfl,hsz⟩:=hc;rcases cF hi with⟨hb,hi⟩ | ⟨_,hi⟩
    ·refine⟨_,hi,fun R ρ w u k hr hx hk=>?_⟩;have hb:0≤i∧i<l.length:=by simpa using hb
     obtain⟨b,N,hn,hB,gG⟩:=hr.live _ _ hh;cases hk;cases hx with
     | @bL _ _ b' N' cap hn' hg hl hc=>
      rw [hn] at hn';simp only [aJp,aKN] at hn';obtain⟨rfl,rfl⟩:=hn';have hlen:=hB.1;unfold XB at hsz
      split at hsz
      ·rename_i e ht
       split at hsz
       ·rename_i ti wZ;have hts:ti.size=ty.sz:=by simpa using hsz
        refine⟨.pointer (some ⟨b,i.toNat*ty.sz+0,none⟩),?_,.qP hn (by omega)⟩;have hb2:0≤i∧i<(N.len:Int):=by omega
        simp [Instr.indexAt,run_underlying ht,asIntOf,hb2,cM wZ,Addr.add_mid,hts]
       ·cases hsz
      ·cases hsz
     | @iY _ _ b' N' hn' hg=>
      rcases gG with⟨h1,_⟩ | ⟨_,t2,ty2,h2⟩
      ·rw [hn] at hn';simp only [aJp,aKN] at hn';obtain⟨rfl,rfl⟩:=hn';rw [hg] at h1;cases h1
      ·injection h2 with h3 h4 h5
       subst h4;have h5:=eq_of_heq h5;subst h5;simp at hb;omega
    ·cases hi
   ·cases hi
  ·cases hi
 ·rename_i sz j off len kk i
  split at hi
  ·rename_i e ht
   split at hi
   ·rename_i ti wZ
    split at hi
    ·rename_i hsz;obtain⟨a,h1,h2,h3⟩:=PA len 0 hi;refine⟨_,h3,fun R ρ w u k hr hx hk=>?_⟩;refine mM (C:=C) (x:=.own sz j off len) (ix:=.int kk i) ?_ hx hk;subst h2;simp only [lN,ht,wZ];rw [aJb ⟨hsz,by omega,by omega⟩];simp
    ·cases hi
   ·cases hi
  ·cases hi
 ·split at hi
  ·rename_i v hv;exact⟨v,hi,fun R ρ w u k hr hx hk=>mM hv hx hk⟩
  ·cases hi
end
section
variable {C:dI}{T:Tb}{w:World}{R:Nat→Prop}{ρ:Nm}{h:AH}
theorem lT (hr:Rel R ρ h w){i:Nat}{bt:TypeId}{t:Ty}{l:List t.El}{b:Nat}{N:BN}(hi:h[i]?=some (some (.row bt t l)))(hn:ρ i=some (b,N)) :
  N.len=l.length∧(N.gh=false→dY w R ρ b N (.row bt t l)∧¬R b)∧(N.gh=true→l=[]):=by
 obtain⟨b',N',hn',hB,gG⟩:=hr.live _ _ hi;rw [hn] at hn';simp only [aJp,aKN] at hn';obtain⟨rfl,rfl⟩:=hn';refine⟨hB.1,fun hg=>⟨hB,gG.aEm hg⟩,fun hg=>?_⟩;rcases gG with⟨h1,_⟩ | ⟨_,t2,ty2,h2⟩
 ·rw [hg] at h1;cases h1
 ·injection h2 with h3 h4 h5
  subst h4;exact eq_of_heq h5
def loadT (C:dI)(h:AH)(t:TypeId)(x:AV):Option AV:=match x with
 | .qP τ i j o=>match h[i]? with
  | some (some (.row _ ty l))=>if ty=τ then gJ C t (ty.at l j).cells o else none
  | _=>none
 | x=>aEn C h t x
theorem aEH (hr:Rel R ρ h w){t:TypeId}{x av:AV}{v:Value}(hx:aI w R ρ x v)(hl:loadT C h t x=some av) :
  ∃ u,(Instr.loadAt t v).run C.P w=.ok u w∧aI w R ρ av u:=by
 unfold loadT at hl
 split at hl
 ·rename_i τ i j o
  split at hl
  ·rename_i bt ty l hi
   split at hl
   ·rename_i he;subst he;cases hx with
    | @qP _ _ _ _ b N hn hj=>
    obtain⟨h1,h2,h3⟩:=lT hr hi hn;have hg:N.gh=false:=by
     cases hg:N.gh with
     | false=>rfl
     | true=>have:=h3 hg;subst this;simp at h1;omega
    obtain⟨⟨_,hB⟩,BR⟩:=h2 hg;obtain⟨arr,ha,hN,hlen,hc⟩:=hB hg;have hjl:j<l.length:=by omega
    refine aAH (b:=b) (o0:=j*ty.sz) (off:=o) (cs:=(ty.at l j).cells) (us:=(List.range ty.sz).map fun o=>arr.getD (j*ty.sz+o) (.tuple #[])) ?_ ?_ hl
    ·refine⟨by simp [ty.at_len],fun k c u hk hu=>?_⟩;have hkl:k<ty.sz:=by rw [← ty.at_len l j];exact(aK2.1 hk).1
     obtain⟨u',rW,hv⟩:=hc j k c hjl hk;simp [aQn,a1L hkl,rW] at hu;subst hu;exact hv
    ·intro k u hu;have hkl:k<ty.sz:=by have:=(aK2.1 hu).1;simpa using this
     have bE4:k<(ty.at l j).cells.length:=by rw [ty.at_len];exact hkl
     obtain⟨u',rW,hv⟩:=hc j k _ hjl (aJS bE4);simp [aQn,a1L hkl,rW] at hu;subst hu;exact iR ha _ _ rW
   ·cases hl
  ·cases hl
 ·exact OY hr hx hl
def C7 (C:dI)(s:TypeId)(x:AV)(f:Nat):Option AV:=match x with
 | .qP τ i j o=>match C.P.underlying s with
  | some (.struct fields)=>match fields[f]? with
   | some fd=>match C.P.info? fd.type with
    | some ti=>if ti.size=0 then none else some (.qP τ i j (o+fd.offset))
    | none=>none
   | none=>none
  | _=>none
 | x=>vB C s x f
theorem B5 {s:TypeId}{x av:AV}{f:Nat}{u:Value}(hf:C7 C s x f=some av)(hx:aI w R ρ x u):∃ r,(Instr.fieldAt s u f).run C.P w=.ok r w∧aI w R ρ av r:=by
 unfold C7 at hf
 split at hf
 ·rename_i τ i j o
  split at hf
  ·rename_i fields hs
   split at hf
   ·rename_i fd hfd
    split at hf
    ·rename_i ti hi
     split at hf
     ·cases hf
     ·rename_i hsz;injection hf with hf;subst hf
      cases hx with
      | @qP _ _ _ _ b N hn hj=>
      refine⟨.pointer (some ⟨b,j*τ.sz+(o+fd.offset),none⟩),?_,.qP hn hj⟩;simp [Instr.fieldAt,run_underlying hs,hfd,Instr.sureAddr,fieldPlace,cM hi,hsz,Addr.add_mid,Nat.add_assoc]
    ·cases hf
   ·cases hf
  ·cases hf
 ·exact BZ hf hx
def storeT (C:dI)(h:AH)(t:TypeId)(x v:AV):Option AH:=match x with
 | .qP τ i j o=>match h[i]?,C.P.info? t with
  | some (some (.row bt ty l)),some ti=>
   if ty=τ∧v.known=true∧v.cells.all AV.one=true∧v.cells.length=ti.size∧o+v.cells.length≤τ.sz then
    (match ty.xR h ((ty.at l j).cells.take o++v.cells++(ty.at l j).cells.drop (o+v.cells.length)) with
    | some (e,h1)=>match h1[i]? with
     | some (some _)=>some (h1.set i (some (.row bt ty (l.set j e))))
     | _=>none
    | none=>none)
   else none
  | _,_=>none
 | x=>aAL C h t x v
theorem aEI {t:Ty}{h h':AH}{v:AV}{l:List t.El}(hf:aEE t h v=some (l,h'))(i:Nat)(b:cQ)(hi:h'[i]?=some (some b)):h[i]?=some (some b):=by
 have kill:∀ (k:Nat),(h.set k none)[i]?=some (some b)→h[i]?=some (some b):=by
  intro k hk;rw [aXL] at hk
  split at hk
  ·split at hk <;> simp at hk
  ·exact hk
 unfold aEE at hf
 split at hf
 ·split at hf
  ·simp only [aJp,aKN] at hf;rw [hf.2];exact hi
  ·cases hf
 ·simp only [aJp,aKN] at hf;rw [hf.2];exact hi
 ·split at hf
  ·split at hf
   ·simp only [aJp,aKN] at hf;exact kill _ (hf.2▸hi)
   ·cases hf
  ·cases hf
 ·split at hf
  ·split at hf
   ·split at hf
    ·simp only [aJp,aKN] at hf;exact kill _ (hf.2▸hi)
    ·cases hf
   ·cases hf
  ·split at hf
   ·split at hf
    ·simp only [aJp,aKN] at hf;exact kill _ (hf.2▸hi)
    ·cases hf
   ·cases hf
  ·cases hf
 ·cases hf
theorem PB:∀ (t:Ty) {h h':AH} {cs:List AV} {x:t.El},t.xR h cs=some (x,h')→∀ (i:Nat) (b:cQ),h'[i]?=some (some b)→h[i]?=some (some b):=by
 have base:∀ (t:Ty) {h h':AH} {cs:List AV} {x:t.El},(if t.O5 cs then some (t.iE cs,h) else none)=some (x,h')→∀ (i:Nat) (b:cQ),h'[i]?=some (some b)→h[i]?=some (some b):=by
  intro t h h' cs x hf i b hi
  split at hf
  ·simp only [aJp,aKN] at hf;rw [hf.2];exact hi
  ·cases hf
 intro t
 induction t with
 | unit=>intro h h' cs x hf;exact base .unit hf
 | int k=>intro h h' cs x hf;exact base (.int k) hf
 | bool=>intro h h' cs x hf;exact base .bool hf
 | str=>intro h h' cs x hf;exact base .str hf
 | gU k=>intro h h' cs x hf;exact base (.gU k) hf
 | list t ih=>
  intro h h' cs x hf i b hi;simp only [Ty.xR] at hf
  split at hf
  ·exact aEI hf i b hi
  ·cases hf
 | wrap a ih=>intro h h' cs x hf;exact ih hf
 | pair a b iha ihb=>
  intro h h' cs x hf i blk hi;simp only [Ty.xR] at hf
  split at hf
  ·rename_i x1 h1 he1
   split at hf
   ·rename_i y1 h2 H8;simp only [aJp,aKN] at hf;exact iha he1 i blk (ihb H8 i blk (hf.2▸hi))
   ·cases hf
  ·cases hf
theorem aOv (hr:Rel R ρ h w){t:TypeId}{x y:AV}{h':AH}{u v:Value}(hs:storeT C h t x y=some h')(hx:aI w R ρ x u)(hy:aI w R ρ y v):X7 C R ρ h w (Instr.storeAt t u v) h':=by
 unfold storeT at hs
 split at hs
 ·rename_i τ i j o
  split at hs
  ·rename_i bt ty l ti hi wZ
   split at hs
   ·rename_i hcnd;obtain⟨he,hk,hone,hl,hle⟩:=hcnd;subst he
    split at hs
    ·rename_i e h1 hfz
     split at hs
     ·rename_i aOu hi1;injection hs with hs
      subst hs;have hi0:=PB ty hfz i aOu hi1;rw [hi] at hi0;simp only [aJp] at hi0;subst hi0;cases hx with
      | @qP _ _ _ _ b N hn hj=>
      obtain⟨q1,q2,q3⟩:=lT hr hi hn;have hg:N.gh=false:=by
       cases hg:N.gh with
       | false=>rfl
       | true=>have:=q3 hg;subst this;simp at q1;omega
      obtain⟨⟨_,hB⟩,BR⟩:=q2 hg;obtain⟨arr,ha,hN,hlen,hc⟩:=hB hg;have hjl:j<l.length:=by omega
      have bE5:(j+1)*ty.sz≤l.length*ty.sz:=a9E _ hjl;rw [Nat.add_mul,Nat.one_mul] at bE5;have hal:arr.toList.length=N.n:=by simpa using hN
      have hvc:=iT hy hk;have hvl:v.cells.size=y.cells.length:=by have:=hvc.1;simpa using this
      -- the element's cells, before and behind
      let seg:=(arr.toList.drop (j*ty.sz)).take ty.sz;have MZ:seg.length=ty.sz:=by simp only [seg,aP6,a9s];omega
      have hsv:aK w R ρ (ty.at l j).cells seg:=by
       refine⟨by rw [MZ,ty.at_len],fun k c u hk hu=>?_⟩;obtain⟨u',rW,hv⟩:=hc j k c hjl hk;have hkl:k<ty.sz:=by rw [← ty.at_len l j];exact(aK2.1 hk).1
       simp only [seg] at hu;rw [a0X,aJb hkl,a1f] at hu;have:arr.toList[j*ty.sz+k]?=some u':=by simpa using rW
       rw [this] at hu;simp at hu;exact hu▸hv
      have hnew:aK w R ρ ((ty.at l j).cells.take o++y.cells++(ty.at l j).cells.drop (o+y.cells.length)) (seg.take o++v.cells.toList++seg.drop (o+y.cells.length)):=((hsv.take o).append hvc).append (hsv.drop _);obtain⟨R1,r1,f1,v1⟩:=ty.zD hfz hr hnew;have hb1:¬R1 b:=by
       obtain⟨b',N',hn',_,gG⟩:=r1.live _ _ hi1;rw [hn] at hn';simp only [aJp,aKN] at hn';obtain⟨rfl,rfl⟩:=hn';exact gG.aEm hg
      obtain⟨CU,h5,h6⟩:=dZ (b:=b) v.cells.toList (j*ty.sz+o) w arr ha (by simp;omega);obtain⟨s1,s2,s3,s4⟩:=fF (b:=b) v.cells.toList (j*ty.sz+o) w;have hkeep:∀ k,k≠b→(w.setCells b (j*ty.sz+o) v.cells.toList).heap[k]?=w.heap[k]?:=fun k hk=>dO _ _ _ k hk;have hkR:∀ k,R1 k→(w.setCells b (j*ty.sz+o) v.cells.toList).heap[k]?=w.heap[k]?:=fun k hk=>hkeep k (fun e=>hb1 (e▸hk));have a9N:v.cells.toList.length=y.cells.length:=by simpa using hvl
      have hB2:dY (w.setCells b (j*ty.sz+o) v.cells.toList) R1 ρ b N (.row bt ty (l.set j e)):=by
       refine⟨by rw [aXK];exact q1,fun _=>⟨CU,h5,?_,by rw [aXK];exact hlen,fun j' o' c hj' M0=>?_⟩⟩
       ·rw [← a1e,h6];simp;omega
       ·rw [aXK] at hj';have ho':o'<ty.sz:=by rw [← ty.at_len (l.set j e) j'];exact(aK2.1 M0).1
        have a1S:∀ k,CU[k]?=(arr.toList.take (j*ty.sz+o)++v.cells.toList++arr.toList.drop (j*ty.sz+o+v.cells.toList.length))[k]?:=fun k=>by rw [← h6,aQ3]
        by_cases hjj:j'=j
        ·subst hjj;have hat:ty.at (l.set j' e) j'=ty.enc e:=by
          unfold Ty.at;rw [aQj,List.getElem?_set_self hj'];rfl
         rw [hat] at M0;obtain⟨u',rW,hv'⟩:=v1.get M0;refine⟨u',?_,hv'.mono hkR (fun _ h=>h) (Nm.le_refl _)⟩;rw [a1S,← rW];simp only [seg,List.getElem?_append,aPk,aP6,a9s,a0X,a1f,a9N,hal];have m1:min (j'*ty.sz+o) N.n=j'*ty.sz+o:=by omega
         have m2:min o (min ty.sz (N.n-j'*ty.sz))=o:=by omega
         rw [m1,m2];by_cases c1:o'<o
         ·rw [aJb (by omega),aJb (by omega),aJb (by omega),aJb (by omega),aJb (by omega),aJb (by omega),aJb (by omega)]
         ·by_cases c2:o'<o+y.cells.length
          ·rw [aJb (by omega),aJn (by omega),aJb (by omega),aJn (by omega)];congr 1;omega
          ·rw [aJn (by omega),aJn (by omega),aJb (by omega)];congr 1;omega
        ·have hat:ty.at (l.set j e) j'=ty.at l j':=by
          unfold Ty.at;rw [aQj,aQj,List.getElem?_set_ne (fun h=>hjj h.symm)]
         rw [hat] at M0;obtain⟨u',rW,hv'⟩:=hc j' o' c hj' M0;refine⟨u',?_,(hv'.mono (w':=w.setCells b (j*ty.sz+o) v.cells.toList) (R':=R1) (ρ':=ρ) (fun k hk=>hkR k (f1.mV k hk)) f1.mV (Nm.le_refl _))⟩;have hu2:arr.toList[j'*ty.sz+o']?=some u':=by simpa using rW
         rw [a1S,← hu2];have hout:j'*ty.sz+o'<j*ty.sz∨(j+1)*ty.sz≤j'*ty.sz+o':=by
          rcases Nat.lt_or_gt_of_ne hjj with h7 | h7
          ·left;have:=a9E ty.sz (show j'+1≤j from h7);rw [Nat.add_mul,Nat.one_mul] at this;omega
          ·right;have:=a9E ty.sz (show j+1≤j' from h7);omega
         rw [Nat.add_mul,Nat.one_mul] at hout;simp only [List.getElem?_append,aPk,aP6,a9s,a0X,a1f,a9N,hal];have m1:min (j*ty.sz+o) N.n=j*ty.sz+o:=by omega
         rw [m1];rcases hout with h7 | h7
         ·rw [aJb (by omega),aJb (by omega),aJb (by omega)]
         ·rw [aJn (by omega)];congr 1;omega
      obtain⟨r2,f2⟩:=y8 r1 hi1 hn _ s2 s3 s4 s1 hkeep hB2 hg (Nat.le_of_eq (eO _ _ _).symm);refine⟨_,_,_,LP wZ (qV ha (j*ty.sz+o) _ (by omega)) (by omega) ?_,r2,f1.trans f2⟩;intro z hz;obtain⟨k,hk1⟩:=List.getElem?_of_mem hz;have hkl:k<y.cells.length:=by have:=(aK2.1 hk1).1;simp at this;omega
      have h8:=aJS hkl;exact(hvc.2 k _ _ h8 hk1).OW (by simpa using aQ6.1 hone _ (aPl h8))
     ·cases hs
    ·cases hs
   ·cases hs
  ·cases hs
 ·exact X8 hr hs hx hy
end
section
variable {C:dI}{T:Tb}{w:World}{R:Nat→Prop}{ρ:Nm}{h:AH}{β:Type}
def aAU (lo hi:Option (Option AV))(len:Nat)(K:Nat→Nat→Option β):Option β:=
 match hi with
 | none=>match lo with
  | none=>K 0 len
  | some (some (.int _ l))=>bif decide (0≤l∧l≤len) then K l.toNat len else none
  | _=>none
 | some (some (.int _ h))=>match lo with
  | none=>bif decide (0≤h∧h≤len) then K 0 h.toNat else none
  | some (some (.int _ l))=>bif decide (0≤h∧h≤len∧0≤l∧l≤h) then K l.toNat h.toNat else none
  | _=>none
 | _=>none
theorem vG {lo hi:Option (Option AV)}{len:Nat}{K:Nat→Nat→Option β}{y:β}(hb:aAU lo hi len K=some y):∃ l h,CR lo hi len=some (l,h)∧l≤h∧h≤len∧K l h=some y:=by
 unfold aAU at hb
 split at hb
 ·split at hb
  ·exact⟨_,_,rfl,by omega,by omega,hb⟩
  ·rename_i k l;rcases cF hb with⟨h1,h2⟩ | ⟨_,h2⟩
   ·have h1:0≤l∧l≤len:=by simpa using h1
    exact⟨_,_,by simp only [CR];rw [aJb h1],by omega,by omega,h2⟩
   ·cases h2
  ·cases hb
 ·rename_i k h
  split at hb
  ·rcases cF hb with⟨h1,h2⟩ | ⟨_,h2⟩
   ·have h1:0≤h∧h≤len:=by simpa using h1
    exact⟨_,_,by simp only [CR];rw [aJb h1],by omega,by omega,h2⟩
   ·cases h2
  ·rename_i k2 l;rcases cF hb with⟨h1,h2⟩ | ⟨_,h2⟩
   ·have h1:0≤h∧h≤len∧0≤l∧l≤h:=by simpa using h1
    exact⟨_,_,by simp only [CR];rw [aJb ⟨h1.1,h1.2.1⟩,aJb ⟨h1.2.2.1,h1.2.2.2⟩],by omega,by omega,h2⟩
   ·cases h2
  ·cases hb
 ·cases hb
theorem aI.aRq {sz n:Nat}{f g:Nat→AV}{v:Value}(hfg:∀ j,j<n→f j=g j)(hv:aI w R ρ (.ro sz n f) v):aI w R ρ (.ro sz n g) v:=by
 cases hv with
 | lH _ _ a cap=>exact .lH _ _ a cap
 | @ro _ _ _ b iQ cap u hR hl hsz hc h5=>
  exact .ro u hR hl (fun j hj=>by rw [← hfg j hj];exact hsz j hj) (fun j o c hj M0=>hc j o c hj (by rw [hfg j hj];exact M0)) (fun j o c hj M0=>h5 j o c hj (by rw [hfg j hj];exact M0))
def aLb:Ty→Bool
 | .int _=>true
 | _=>false
theorem aYi {lo:Option (Option AV)}{len l h:Nat}(hb:CR lo none len=some (l,h)):h=len:=by
 simp only [CR] at hb
 split at hb
 ·simp only [aJp,aKN] at hb;exact hb.2.symm
 ·split at hb
  ·simp only [aJp,aKN] at hb;exact hb.2.symm
  ·cases hb
 ·cases hb
theorem aLc {hi:Option (Option AV)}{len l h:Nat}(hb:CR none hi len=some (l,h)):l=0:=by
 unfold CR at hb
 split at hb
 ·simp only [aJp,aKN] at hb;exact hb.1.symm
 ·split at hb
  ·simp only [aJp,aKN] at hb;exact hb.1.symm
  ·cases hb
 ·cases hb
def aIo (C:dI)(h:AH)(t:TypeId)(x:AV)(lo hi:Option (Option AV))(K:AV→Option β):Option β:=match x with
 | .str s=>match C.P.underlying t with
  | some .string=>aAU lo hi s.length fun l h=>K (.str ((s.drop l).take (h-l)))
  | _=>none
 | .nF τ s=>if XB C t τ then aAU lo hi s.length fun l h=>K (.nF τ ((s.drop l).take (h-l))) else none
 | .bL τ i=>match h[i]? with
  | some (some (.row _ ty s))=>if ty=τ∧XB C t τ then bif aLb τ then(match lo,hi with
   | some _,none=>aAU lo hi s.length fun l h=>bif Nat.blt l s.length then K (.own τ.sz i (l*τ.sz) (h-l)) else K .any
   | none,some _=>aAU lo hi s.length fun l h=>bif Nat.blt 0 s.length then K (.own τ.sz i 0 h) else K .any
   | _,_=>aAU lo hi s.length fun _ _=>K .any) else(aAU lo hi s.length fun _ _=>K .any) else none
  | _=>none
 | x=>match kR C t x lo hi with
  | some v=>K v
  | none=>none
theorem YB {t:TypeId}{x:AV}{lo hi:Option (Option AV)}{K:AV→Option β}{y:β}(hs:aIo C h t x lo hi K=some y) :
  ∃ av,K av=some y∧∀ (w:World) (R:Nat→Prop) (ρ:Nm) (u:Value) (X4 MY:Option Value),Rel R ρ h w→aI w R ρ x u →
   (∀ a,lo=some (some a)→∃ v,X4=some v∧aI w R ρ a v)→(∀ a,hi=some (some a)→∃ v,MY=some v∧aI w R ρ a v)→(lo=none→X4=none)→(hi=none→MY=none) →
   ∃ r,(Instr.sliceAt t u X4 MY none).run C.P w=.ok r w∧aI w R ρ av r:=by
 unfold aIo at hs
 split at hs
 ·rename_i s
  split at hs
  ·rename_i ht;obtain⟨l,h,hb,_,_,hK⟩:=vG hs;exact⟨_,hK,fun w R ρ u X4 MY _ hx h1 h2 h3 h4=>j7 (by simp only [kR,ht,hb]) hx h1 h2 h3 h4⟩
  ·cases hs
 ·rename_i τ s
  split at hs
  ·rename_i hsz;obtain⟨l,h,hb,hlh,hhn,hK⟩:=vG hs;refine⟨_,hK,fun w R ρ u X4 MY _ hx h1 h2 h3 h4=>?_⟩;unfold XB at hsz
   split at hsz
   ·rename_i e ht
    split at hsz
    ·rename_i ti wZ;have hz:ti.size=τ.sz:=by simpa using hsz
     obtain⟨r,hr,hv⟩:=j7 (C:=C) (t:=t) (lo:=lo) (hi:=hi) (x:=.ro τ.sz s.length (τ.at s)) (av:=.ro τ.sz (h-l) (fun j=>τ.at s (l+j))) (by simp only [kR,ht,wZ,hz,if_true,hb]) (pG (v:=.nF τ s) hx) h1 h2 h3 h4;refine⟨r,hr,.nF ?_⟩;have hlen:((s.drop l).take (h-l)).length=h-l:=by rw [aP6,a9s];omega
     rw [hlen];refine hv.aRq fun j hj=>?_;unfold Ty.at;rw [aQj,aQj,a0X,aJb hj,a1f]
    ·cases hsz
   ·cases hsz
  ·cases hs
 ·rename_i τ i
  split at hs
  ·rename_i bt ty s hi0
   split at hs
   ·rename_i hsz;obtain⟨rfl,hsz⟩:=hsz;have gen:∀ (l hh:Nat) (av0:AV),CR lo hi s.length=some (l,hh)→(av0=.any∨(av0=.own ty.sz i (l*ty.sz) (hh-l)∧s≠[]∧¬(l=hh∧l≠0))) →
      ∀ (w:World) (R:Nat→Prop) (ρ:Nm) (u:Value) (X4 MY:Option Value),Rel R ρ h w→aI w R ρ (.bL ty i) u →
       (∀ a,lo=some (some a)→∃ v,X4=some v∧aI w R ρ a v)→(∀ a,hi=some (some a)→∃ v,MY=some v∧aI w R ρ a v)→(lo=none→X4=none)→(hi=none→MY=none) →
       ∃ r,(Instr.sliceAt t u X4 MY none).run C.P w=.ok r w∧aI w R ρ av0 r:=by
     intro l hh av0 hb a9Q w R ρ u X4 MY hr hx h1 h2 h3 h4;unfold XB at hsz
     split at hsz
     ·rename_i e ht
      split at hsz
      ·rename_i ti wZ;have hz:ti.size=ty.sz:=by simpa using hsz
       cases hx with
       | @bL _ _ b N cap hn hg hlc hc=>
        obtain⟨q1,_,_⟩:=lT hr hi0 hn;have hx2:aI w R ρ (.own ty.sz i 0 s.length) (.slice (some ⟨b,0,none⟩) N.len cap):=by
         rw [q1];exact .own hn (by omega) (by omega)
        rcases a9Q with rfl | ⟨rfl,_,hne⟩
        ·have:∃ av,kR C t (.own ty.sz i 0 s.length) lo hi=some av:=by
          simp only [kR,ht,wZ,hz,if_true,hb]
          split <;> exact⟨_,rfl⟩
         obtain⟨av,hav⟩:=this;obtain⟨r,k1,k2⟩:=j7 hav hx2 h1 h2 h3 h4;exact⟨r,k1,.any r⟩
        ·have hav:kR C t (.own ty.sz i 0 s.length) lo hi=some (.own ty.sz i (0+l*ty.sz) (hh-l)):=by
          simp only [kR,ht,wZ,hz,if_true,hb];rw [aJn hne]
         rw [aZ3] at hav;exact j7 hav hx2 h1 h2 h3 h4
       | @iY _ _ b N hn hg=>
        obtain⟨_,_,q3⟩:=lT hr hi0 hn;have hs0:=q3 hg;rcases a9Q with rfl | ⟨_,hne,_⟩
        ·subst hs0;have:∃ av,kR C t .eY lo hi=some av:=by
          simp only [List.length_nil] at hb;simp only [kR,ht,wZ,hb];exact⟨_,rfl⟩
         obtain⟨av,hav⟩:=this;obtain⟨r,k1,k2⟩:=j7 hav .eY h1 h2 h3 h4;exact⟨r,k1,.any r⟩
        ·exact absurd hs0 hne
      ·cases hsz
     ·cases hsz
    have aRr:∀ {k:Nat},k<s.length→s≠[]:=fun hk e=>by rw [e] at hk;simp at hk
    cases hty:aLb ty with
    | false=>
     rw [hty] at hs;simp only [cond_false] at hs;obtain⟨l,hh,hb,hlh,hhn,hK⟩:=vG hs;exact⟨_,hK,gen l hh _ hb (.inl rfl)⟩
    | true=>
    rw [hty] at hs;simp only [cond_true] at hs
    split at hs
    ·obtain⟨l,hh,hb,hlh,hhn,hK⟩:=vG hs;cases hc:Nat.blt l s.length with
     | false=>
      rw [hc] at hK;exact⟨_,hK,gen l hh _ hb (.inl rfl)⟩
     | true=>
      rw [hc] at hK;have hlt:l<s.length:=Nat.blt_eq▸hc;refine⟨_,hK,gen l hh _ hb (.inr ⟨rfl,aRr hlt,fun e=>?_⟩)⟩;have:=aYi hb;omega
    ·obtain⟨l,hh,hb,hlh,hhn,hK⟩:=vG hs;have hl0:=aLc hb;subst hl0;cases hc:Nat.blt 0 s.length with
     | false=>
      rw [hc] at hK;exact⟨_,hK,gen 0 hh _ hb (.inl rfl)⟩
     | true=>
      rw [hc] at hK;have hlt:0<s.length:=Nat.blt_eq▸hc;have:=gen 0 hh (.own ty.sz i (0*ty.sz) (hh-0)) hb (.inr ⟨rfl,aRr hlt,fun e=>e.2 rfl⟩);rw [Nat.zero_mul,Nat.sub_zero] at this;exact⟨_,hK,this⟩
    ·obtain⟨l,hh,hb,hlh,hhn,hK⟩:=vG hs;exact⟨_,hK,gen l hh _ hb (.inl rfl)⟩
   ·cases hs
  ·cases hs
 ·split at hs
  ·rename_i v hv;exact⟨v,hs,fun w R ρ u X4 MY _ hx h1 h2 h3 h4=>j7 hv hx h1 h2 h3 h4⟩
  ·cases hs
def a3Y (C:dI)(op:BinOp)(t:TypeId)(x y:AV)(K:AV→Option β):Option β:=match op,x,y with
 | .shl,.int k a,.int _ b=>bif decide (b<0) then none else K (.int k (k.wrap (a*2^(min b.toNat k.bits))))
 | .shr,.int k a,.int _ b=>bif decide (b<0) then none else K (.int k (a.fdiv (2^(min b.toNat k.bits))))
 | .quo,.int k a,.int k' b=>if k=k' then(bif decide (b=0) then none else K (.int k (k.wrap (a.tdiv b)))) else none
 | .rem,.int k a,.int k' b=>if k=k' then(bif decide (b=0) then none else K (.int k (a.tmod b))) else none
 | .add,.gU k a,.gU k' b=>if k=k' then(bif fOk .add k a b then K (.gU k (EQ .add k a b)) else none) else none
 | .sub,.gU k a,.gU k' b=>if k=k' then(bif fOk .sub k a b then K (.gU k (EQ .sub k a b)) else none) else none
 | .mul,.gU k a,.gU k' b=>if k=k' then(bif fOk .mul k a b then K (.gU k (EQ .mul k a b)) else none) else none
 | .quo,.gU k a,.gU k' b=>if k=k' then(bif fOk .quo k a b then K (.gU k (EQ .quo k a b)) else none) else none
 | .add,.str a,.str b=>bif decide (a.length+b.length≤4611686018427387904) then K (.str (a++b)) else none
 | op,x,y=>match ER C op t x y with
  | some v=>K v
  | none=>none
theorem aLd {op:BinOp}{t:TypeId}{x y:AV}{K:AV→Option β}{z:β}(hb:a3Y C op t x y K=some z):∃ v,ER C op t x y=some v∧K v=some z:=by
 unfold a3Y at hb
 split at hb
 ·rename_i k a k2 b;rcases cF hb with⟨_,h2⟩ | ⟨h1,h2⟩
  ·cases h2
  ·have h1:¬b<0:=by simpa using h1
   exact⟨_,by simp only [ER];rw [aJn h1],h2⟩
 ·rename_i k a k2 b;rcases cF hb with⟨_,h2⟩ | ⟨h1,h2⟩
  ·cases h2
  ·have h1:¬b<0:=by simpa using h1
   exact⟨_,by simp only [ER];rw [aJn h1],h2⟩
 ·rename_i k a k2 b
  split at hb
  ·rename_i hk;rcases cF hb with⟨_,h2⟩ | ⟨h1,h2⟩
   ·cases h2
   ·have h1:¬b=0:=by simpa using h1
    exact⟨_,by simp only [ER,CO];rw [aJb hk,aJn h1],h2⟩
  ·cases hb
 ·rename_i k a k2 b
  split at hb
  ·rename_i hk;rcases cF hb with⟨_,h2⟩ | ⟨h1,h2⟩
   ·cases h2
   ·have h1:¬b=0:=by simpa using h1
    exact⟨_,by simp only [ER,CO];rw [aJb hk,aJn h1],h2⟩
  ·cases hb
 ·rename_i k a k2 b
  split at hb
  ·rename_i hk;rcases cF hb with⟨h1,h2⟩ | ⟨h1,h2⟩
   ·exact⟨_,by simp only [ER,xM];rw [aJb hk,h1];rfl,h2⟩
   ·cases h2
  ·cases hb
 ·rename_i k a k2 b
  split at hb
  ·rename_i hk;rcases cF hb with⟨h1,h2⟩ | ⟨h1,h2⟩
   ·exact⟨_,by simp only [ER,xM];rw [aJb hk,h1];rfl,h2⟩
   ·cases h2
  ·cases hb
 ·rename_i k a k2 b
  split at hb
  ·rename_i hk;rcases cF hb with⟨h1,h2⟩ | ⟨h1,h2⟩
   ·exact⟨_,by simp only [ER,xM];rw [aJb hk,h1];rfl,h2⟩
   ·cases h2
  ·cases hb
 ·rename_i k a k2 b
  split at hb
  ·rename_i hk;rcases cF hb with⟨h1,h2⟩ | ⟨h1,h2⟩
   ·exact⟨_,by simp only [ER,xM];rw [aJb hk,h1];rfl,h2⟩
   ·cases h2
  ·cases hb
 ·rename_i a b;rcases cF hb with⟨h1,h2⟩ | ⟨_,h2⟩
  ·have h1:a.length+b.length≤4611686018427387904:=by simpa using h1
   exact⟨_,by simp only [ER];rw [aJb h1],h2⟩
  ·cases h2
 ·split at hb
  ·rename_i v hv;exact⟨v,hv,hb⟩
  ·cases hb
def a3Z (C:dI)(h:AH)(t:TypeId)(x:AV):Option AV:=match x with
 | .nF _ l=>match C.P.underlying t with
  | some (.slice _)=>some (.int .i64 l.length)
  | _=>none
 | .bL _ i=>match C.P.underlying t,h[i]? with
  | some (.slice _),some (some (.row _ _ l))=>some (.int .i64 l.length)
  | _,_=>none
 | .map i=>match C.P.underlying t,h[i]? with
  | some (.map _ _),some (some (.cE _ _ m))=>some (.int .i64 m.length)
  | _,_=>aOs C h t (.map i)
 | x=>aOs C h t x
theorem aLe (hr:Rel R ρ h w){t ty:TypeId}{ts:Array TypeId}{x av:AV}{u:Value}(hl:a3Z C h t x=some av)(hx:aI w R ρ x u)(hts:ts[0]?=some t)(us:Array Value)(fE:us[0]?=some u) :
  ∃ r,(Builtin.len_ ts ty us).run C.P w=.ok r w∧aI w R ρ av r:=by
 unfold a3Z at hl
 split at hl
 ·rename_i τ l
  split at hl
  ·rename_i e ht;exact NC hr (x:=.ro τ.sz l.length (τ.at l)) (by simp only [aOs,ht];exact hl) (pG hx) hts us fE
  ·cases hl
 ·rename_i τ i
  split at hl
  ·rename_i e bt ty l ht hi;injection hl with hl;subst hl
   cases hx with
   | @bL _ _ b N cap hn hg hlc hc=>
    obtain⟨h1,_,_⟩:=lT hr hi hn;rw [← h1];exact⟨_,by simp [Builtin.len_,hts,fE,run_underlying ht,goInt],.int _ _⟩
   | @iY _ _ b N hn hg=>
    obtain⟨_,_,h3⟩:=lT hr hi hn;rw [h3 hg];exact⟨_,by simp [Builtin.len_,hts,fE,run_underlying ht,goInt],.int _ _⟩
  ·cases hl
 ·rename_i i
  split at hl
  ·rename_i kt0 vt0 kt vt m ht hi;injection hl with hl;subst hl
   cases hx with
   | @map _ b N hn=>
   obtain⟨b',N',hn',⟨arr,clock,hb,h1,h2⟩,_⟩:=hr.live _ _ hi;rw [hn] at hn';simp only [aJp,aKN] at hn';obtain⟨rfl,rfl⟩:=hn';have hm:arr.size=m.length:=by have:=h1.1;simpa using this
   rw [← hm];exact⟨_,by simp [Builtin.len_,hts,fE,run_underlying ht,goInt,getObj,Sem.run,hb],.int _ _⟩
  ·exact NC hr hl hx hts us fE
 ·exact NC hr hl hx hts us fE
def aIp (C:dI)(t:TypeId)(x ix:AV)(K:AV→Option β):Option β:=match x,ix with
 | .str s,.int _ i=>match C.P.underlying t with
  | some .string=>bif decide (0≤i∧i<s.length) then K (.int .u8 (s.getD i.toNat 0).toNat) else none
  | _=>none
 | x,ix=>match IC C t x ix with
  | some v=>K v
  | none=>none
theorem YC {t:TypeId}{x ix:AV}{K:AV→Option β}{y:β}(hi:aIp C t x ix K=some y):∃ v,IC C t x ix=some v∧K v=some y:=by
 unfold aIp at hi
 split at hi
 ·rename_i s k i
  split at hi
  ·rename_i ht;rcases cF hi with⟨h1,h2⟩ | ⟨_,h2⟩
   ·have h1:0≤i∧i<s.length:=by simpa using h1
    have hlt:i.toNat<s.length:=by omega
    refine⟨_,?_,h2⟩;simp only [IC,ht];rw [aJb h1.1,aJS hlt,aQj,aJS hlt];rfl
   ·cases h2
  ·cases hi
 ·split at hi
  ·rename_i v hv;exact⟨v,hv,hi⟩
  ·cases hi
end
section
variable {C:dI}{T:Tb}{w:World}{R:Nat→Prop}{ρ:Nm}{h:AH}{β:Type}
theorem Ty.aOx (t:Ty)(l:List t.El):((List.range l.length).map (t.at l)).flatMap AV.cells=t.flat l:=by
 induction l with
 | nil=>rfl
 | cons x l ih=>
  rw [aQO,List.range_succ_eq_map,aXW,aXJ,List.map_map,t.gL,← ih];rfl
theorem Ty.xT (t:Ty)(l:List t.El):(t.flat l).all AV.one=true:=by
 induction l with
 | nil=>rfl
 | cons x l ih=>rw [t.gL,List.all_append,t.mO,ih];rfl
theorem IK {h:AH}(t:Ty)(l:List t.El):aEt h t.sz (.ro t.sz l.length (t.at l))=some (t.flat l,l.length):=by
 cases hl:l.length with
 | zero=>
  have:l=[]:=a9w hl;subst this;rfl
 | succ n=>
  simp only [aEt,if_true];rw [← hl,t.aOx]
theorem aYj (hr:Rel R ρ h w):Rel R ρ (h++[none]) w∧fB R ρ h w R ρ (h++[none]) w:=by
 have hsub:∀ (j:Nat) (blk:cQ),(h++[none])[j]?=some (some blk)→h[j]?=some (some blk):=by
  intro j blk hj;rw [List.getElem?_append] at hj
  split at hj
  ·exact hj
  ·rename_i hge;cases hk:j-h.length with
   | zero=>rw [hk] at hj;simp at hj
   | succ n=>rw [hk] at hj;simp at hj
 refine⟨⟨fun j blk hj=>hr.live j blk (hsub j blk hj),fun j k bj bk c Nj Nk hj hk=>hr.inj j k bj bk c Nj Nk (hsub _ _ hj) (hsub _ _ hk),fun j hj=>hr.dom j (by simp at hj;omega),hr.ro⟩,
  ⟨rfl,rfl,rfl,aKQ _,Nm.le_refl _,fun _ h=>h,fun _ _ _=>rfl,fun c hl=>?_,fun _ h=>.inl h,by simp,fun _ _ h=>h,(by first | exact aKQ _ | exact a9p _)⟩⟩
 obtain⟨j,blk,N,hj,hn,hg⟩:=hl;exact .inl ⟨j,blk,N,hsub j blk hj,hn,hg⟩
theorem C8 {s:Sem Value}{hh:AH}{e:TypeId}{τ:Ty}{l:List τ.El}(hp:Post C R ρ h w s (.own τ.sz hh.length 0 l.length) (hh++[some (.cells e (τ.flat l))])) :
  Post C R ρ h w s (.bL τ (hh.length+1)) (hh++[none,some (.row e τ l)]):=by
 obtain⟨R',ρ',u,w',h1,h2,h3,h4⟩:=hp;have hi:(hh++[some (cQ.cells e (τ.flat l))])[hh.length]?=some (some (.cells e (τ.flat l))):=by simp
 cases h2 with
 | @own _ _ _ _ b N cap hn hlc hc=>
 obtain⟨b',N',hn',hb,gG⟩:=h3.live _ _ hi;rw [hn] at hn';simp only [aJp,aKN] at hn';obtain⟨rfl,rfl⟩:=hn';obtain⟨hg,BR⟩:=gG.cells;have hb2:dY w' R' ρ' b ⟨N.n,l.length,false⟩ (.row e τ l):=j8 (by
  obtain⟨arr,k1,k2,k3,k4⟩:=hb;exact⟨arr,k1,k2,k3,k4⟩) rfl
 obtain⟨r1,f1⟩:=C4 (N':=⟨N.n,l.length,false⟩) h3 hi hn hg rfl hb2;have e1:(hh++[some (cQ.cells e (τ.flat l))]).set hh.length none++[some (.row e τ l)]=hh++[none,some (.row e τ l)]:=by
  simp
 have e2:(hh++[some (cQ.cells e (τ.flat l))]).length=hh.length+1:=by simp
 rw [e1,e2] at r1 f1;refine⟨R',_,_,w',h1,.bL (N:=⟨N.n,l.length,false⟩) (Nm.cD _ _ _) rfl hlc (by simp only [];omega),r1,h4.trans f1⟩
theorem append_nil (hr:Rel R ρ h w){t tx H6 e ee:TypeId}{τ:Ty}{ti:TypeInfo}{l:List τ.El}{u2:Value}(ht:C.P.underlying t=some (.slice e))(htx:C.P.underlying tx=some (.slice ee))(wZ:C.P.info? e=some ti)
  (hsz:ti.size=τ.sz) (hz:(ti.zero.map fun z=>z.cells.size)=some ti.size) (hb1:1≤ti.bytes) (hle:l.length*ti.bytes≤70368744177664) (hv:aI w R ρ (.nF τ l) u2) :
  Post C R ρ h w (Builtin.append_ #[t,tx] H6 #[.slice none 0 0,u2]) (.bL τ (h.length+1)) (h++[none,some (.row e τ l)]):=by
 have hlb:l.length≤l.length*ti.bytes:=Nat.le_mul_of_pos_right _ hb1;have hA:iN C h t tx .eY (.ro τ.sz l.length (τ.at l))=if l.length=0 then some (.eY,h) else some (.own ti.size h.length 0 l.length,h++[some (.cells e (τ.flat l))]):=by
  have e1:ti.size=τ.sz:=hsz;simp only [iN,ht,htx,wZ];rw [aJb ⟨rfl,hz⟩,e1,IK τ l];simp only [τ.xT l,if_true];by_cases h0:l.length=0
  ·rw [aJb h0,aJb h0]
  ·rw [aJn h0,aJn h0,aJb ⟨hle,by omega⟩]
 by_cases h0:l.length=0
 ·rw [aJb h0] at hA;obtain⟨R',ρ',u,w',h1,h2,h3,h4⟩:=lQ (ty:=H6) hr hA .eY (pG (v:=.nF τ l) hv);cases h2;obtain⟨r1,f1⟩:=aYj h3;obtain⟨r2,f2,v2⟩:=zA r1 e τ;have:l=[]:=a9w h0;subst this;refine⟨R',_,_,w',h1,by simpa using v2,by simpa using r2,?_⟩;have:=(h4.trans f1).trans f2;simpa using this
 ·rw [aJn h0,hsz] at hA;exact C8 (lQ (ty:=H6) hr hA .eY (pG (v:=.nF τ l) hv))
theorem aIq (hr:Rel R ρ h w){t tx H6 e ee:TypeId}{τ:Ty}{ti:TypeInfo}{l m:List τ.El}{i:Nat}{zF:Ty}{u u2:Value}(ht:C.P.underlying t=some (.slice e))(htx:C.P.underlying tx=some (.slice ee))(wZ:C.P.info? e=some ti)
  (hsz:ti.size=τ.sz) (hz:(ti.zero.map fun z=>z.cells.size)=some ti.size) (hb1:1≤ti.bytes) (hle:(l.length+m.length)*ti.bytes≤70368744177664) (hi:h[i]?=some (some (.row e τ l))) (hs':zF.sz=τ.sz)
  (hx:aI w R ρ (.bL zF i) u) (hv:aI w R ρ (.nF τ m) u2) :
  Post C R ρ h w (Builtin.append_ #[t,tx] H6 #[u,u2]) (.bL τ (h.length+1)) (h.set i none++[none,some (.row e τ (l++m))]):=by
 cases hx with
 | @bL _ _ b N cap hn hg hlc hc=>
  obtain⟨q1,q2,_⟩:=lT hr hi hn;obtain⟨hB,BR⟩:=q2 hg;have hil:i<h.length:=(aK2.1 hi).1;obtain⟨r1,f1⟩:=jV hr hi hn hg (iG hB hg);have hlb:l.length+m.length≤(l.length+m.length)*ti.bytes:=Nat.le_mul_of_pos_right _ hb1;have hA:iN C (h.set i (some (.cells e (τ.flat l)))) t tx (.own τ.sz i 0 l.length) (.ro τ.sz m.length (τ.at m)) =
    some (.own τ.sz (h.set i none).length 0 (l++m).length,h.set i none++[some (.cells e (τ.flat (l++m)))]):=by
   simp only [iN,ht,htx,wZ];rw [aJb ⟨rfl,hz⟩,hsz,IK τ m];simp only [τ.xT m,if_true];have:(h.set i (some (cQ.cells e (τ.flat l))))[i]?=some (some (.cells e (τ.flat l))):=by
    rw [List.getElem?_set_self hil]
   simp only [this];rw [aJb ⟨trivial,trivial,(τ.cH l).symm,hle,by omega⟩];simp [τ.qW]
  have hx2:aI w R ρ (.own τ.sz i 0 l.length) (.slice (some ⟨b,0,none⟩) N.len cap):=by
   rw [q1];exact .own hn (by omega) (by rw [hs'] at hc;omega)
  obtain⟨R',ρ',u',w',h1,h2,h3,h4⟩:=C8 (lQ (ty:=H6) r1 hA hx2 (pG (v:=.nF τ m) hv));exact⟨R',ρ',u',w',h1,by simpa using h2,h3,f1.trans h4⟩
 | @iY _ _ b N hn hg=>
  obtain⟨q1,_,q3⟩:=lT hr hi hn;have:=q3 hg;subst this;obtain⟨r1,f1⟩:=xP hr i;obtain⟨R',ρ',u',w',h1,h2,h3,h4⟩:=append_nil (H6:=H6) r1 ht htx wZ hsz hz hb1 (by simpa using hle) (hv.EM f1 hr);exact⟨R',ρ',u',w',h1,by simpa using h2,by simpa using h3,f1.trans (by simpa using h4)⟩
theorem aEJ (hr:Rel R ρ h w){t tx H6 e ee:TypeId}{τ:Ty}{ti:TypeInfo}{m:List τ.El}{i:Nat}{u u2:Value}(ht:C.P.underlying t=some (.slice e))(htx:C.P.underlying tx=some (.slice ee))(wZ:C.P.info? e=some ti)
  (hsz:ti.size=τ.sz) (hz:(ti.zero.map fun z=>z.cells.size)=some ti.size) (hb1:1≤ti.bytes) (hle:m.length*ti.bytes≤70368744177664) (hi:h[i]?=some (some (.cells e [])))
  (hx:aI w R ρ (.own τ.sz i 0 0) u) (hv:aI w R ρ (.nF τ m) u2) :
  Post C R ρ h w (Builtin.append_ #[t,tx] H6 #[u,u2]) (.bL τ (h.length+1)) (h.set i none++[none,some (.row e τ m)]):=by
 have hil:i<h.length:=(aK2.1 hi).1;have hlb:m.length≤m.length*ti.bytes:=Nat.le_mul_of_pos_right _ hb1;have hA:iN C h t tx (.own τ.sz i 0 0) (.ro τ.sz m.length (τ.at m)) =
   some (.own τ.sz (h.set i none).length 0 m.length,h.set i none++[some (.cells e (τ.flat m))]):=by
  simp only [iN,ht,htx,wZ];rw [aJb ⟨rfl,hz⟩,hsz,IK τ m];simp only [τ.xT m,if_true,hi];rw [aJb ⟨trivial,trivial,by simp,by simpa using hle,by omega⟩];simp
 obtain⟨R',ρ',u',w',h1,h2,h3,h4⟩:=C8 (lQ (ty:=H6) hr hA hx (pG (v:=.nF τ m) hv));exact⟨R',ρ',u',w',h1,by simpa using h2,h3,h4⟩
def aIr (t:Ty)(h:AH)(v:AV):Option (List t.El×AH):=match aEE t h v with
 | some r=>some r
 | none=>match v with
  | .own sz i off len=>match h[i]? with
   | some (some (.cells _ cs))=>if sz=t.sz∧off=0∧len=1∧cs.length=t.sz then(match t.xR h cs with
    | some (x,h1)=>match h1[i]? with
     | some (some (.cells _ _))=>some ([x],h1.set i none)
     | _=>none
    | none=>none) else none
   | _=>none
  | _=>none
theorem aAV (hr:Rel R ρ h w){t:Ty}{v:AV}{l:List t.El}{h':AH}{u:Value}(hf:aIr t h v=some (l,h'))(hv:aI w R ρ v u) :
  ∃ R',Rel R' ρ h' w∧fB R ρ h w R' ρ h' w∧aI w R' ρ (.nF t l) u:=by
 unfold aIr at hf
 split at hf
 ·rename_i r hl;injection hf with hf;subst hf
  exact aK8 hr hl hv
 ·split at hf
  ·rename_i sz i off len
   split at hf
   ·rename_i bt cs hi
    split at hf
    ·rename_i hc;obtain⟨rfl,rfl,rfl,hlen⟩:=hc
     split at hf
     ·rename_i x h1 hx
      split at hf
      ·rename_i bt1 cs1 hi1;simp only [aJp,aKN] at hf;obtain⟨rfl,rfl⟩:=hf;obtain⟨b,N,hn,hb,gG⟩:=hr.live _ _ hi;obtain⟨hg,bJ⟩:=gG.cells;obtain⟨arr,a1,a2,a3,a4⟩:=hb;obtain⟨R1,r1,f1,v1⟩:=t.zD hx hr a4;obtain⟨b',N',hn',hb',bE6⟩:=r1.live _ _ hi1;rw [hn] at hn';simp only [aJp,aKN] at hn';obtain⟨rfl,rfl⟩:=hn';obtain⟨_,bE7⟩:=bE6.cells;have hfl:t.flat [x]=(t.enc x).cells:=by simp [Ty.flat]
       have hB:dY w R1 ρ b N (.cells bt (t.flat [x])):=by
        refine⟨arr,a1,a2,?_,?_⟩
        ·rw [hfl,t.fK,← hlen];exact a3
        ·rw [hfl,t.fK,← hlen];exact v1
       have hv1:=hv.EM f1 hr;cases hv1 with
       | @own _ _ _ _ b2 N2 cap hn2 hle hcN=>
       rw [hn] at hn2;simp only [aJp,aKN] at hn2;obtain⟨rfl,rfl⟩:=hn2;obtain⟨r2,f2⟩:=pE r1 hi1 hn hg;have hb2:=hB.mono (R':=fun k=>R1 k∨k=b) (w':=w) (.inl ⟨hg,bE7⟩) (fun _=>rfl) (fun _ _=>rfl) (fun _ h=>.inl h) (Nm.le_refl _);exact⟨_,r2,f1.trans f2,nR (l:=[x]) hb2 (.inr rfl) hle⟩
      ·cases hf
     ·cases hf
    ·cases hf
   ·cases hf
  ·cases hf
theorem aRs {t:Ty}{v:AV}{l:List t.El}{h':AH}(hf:aIr t h v=some (l,h'))(i:Nat)(b:cQ)(hi:h'[i]?=some (some b)):h[i]?=some (some b):=by
 unfold aIr at hf
 split at hf
 ·rename_i r hl;injection hf with hf;subst hf
  exact aEI hl i b hi
 ·split at hf
  ·split at hf
   ·split at hf
    ·split at hf
     ·rename_i x h1 hx
      split at hf
      ·simp only [aJp,aKN] at hf;obtain⟨rfl,rfl⟩:=hf;rw [aXL] at hi
       split at hi
       ·split at hi
        ·cases hi
        ·cases hi
       ·exact PB t hx i b hi
      ·cases hf
     ·cases hf
    ·cases hf
   ·cases hf
  ·cases hf
def aAW (C:dI)(T:Tb)(h:AH)(t tx:TypeId)(x y:AV)(K:AV→AH→Option β):Option β:=
 match C.P.underlying t,C.P.underlying tx with
 | some (.slice e),some (.slice _)=>match T.ty e,C.P.info? e with
  | some τ,some ti=>if ti.size=τ.sz∧(ti.zero.map fun z=>z.cells.size)=some ti.size∧1≤ti.bytes then
   (match x with
   | .eY=>match aIr τ h y with
    | some (m,h1)=>bif Nat.ble (m.length*ti.bytes) 70368744177664 then K (.bL τ (h1.length+1)) (h1++[none,some (.row e τ m)]) else none
    | none=>none
   | .bL zF i=>match h[i]? with
    | some (some (.row bt ty l))=>if ty=τ∧bt=e∧zF=τ then(match aIr ty h y with
     | some (m,h1)=>match h1[i]? with
      | some (some _)=>bif Nat.ble ((l.length+m.length)*ti.bytes) 70368744177664 then K (.bL ty (h1.length+1)) (h1.set i none++[none,some (.row e ty (l++m))]) else none
      | _=>none
     | none=>none) else none
    | _=>none
   | .own sz i 0 0=>match aIr τ h y with
    | some (m,h1)=>match h1[i]? with
     | some (some (.cells bt []))=>if bt=e∧sz=τ.sz then(bif Nat.ble (m.length*ti.bytes) 70368744177664 then K (.bL τ (h1.length+1)) (h1.set i none++[none,some (.row e τ m)]) else none) else none
     | _=>none
    | none=>match iN C h t tx (.own sz i 0 0) y with
     | some (v,h')=>K v h'
     | none=>none
   | x=>match iN C h t tx x y with
    | some (v,h')=>K v h'
    | none=>none) else none
  | _,_=>match iN C h t tx x y with
   | some (v,h')=>K v h'
   | none=>none
 | _,_=>match iN C h t tx x y with
  | some (v,h')=>K v h'
  | none=>none
theorem aIs {t tx:TypeId}{x y:AV}{K:AV→AH→Option β}{z:β}(ha:aAW C T h t tx x y K=some z) :
  ∃ v h',K v h'=some z∧∀ (R:Nat→Prop) (ρ:Nm) (w:World) (H6:TypeId) (u u2:Value),Rel R ρ h w→aI w R ρ x u→aI w R ρ y u2→Post C R ρ h w (Builtin.append_ #[t,tx] H6 #[u,u2]) v h':=by
 have dflt:(match iN C h t tx x y with
   | some (v,h')=>K v h'
   | none=>none)=some z→∃ v h',K v h'=some z∧∀ (R:Nat→Prop) (ρ:Nm) (w:World) (H6:TypeId) (u u2:Value),Rel R ρ h w→aI w R ρ x u→aI w R ρ y u2→Post C R ρ h w (Builtin.append_ #[t,tx] H6 #[u,u2]) v h':=by
  intro hm
  split at hm
  ·rename_i v h' hv;exact⟨v,h',hm,fun R ρ w H6 u u2 hr hx hy=>lQ hr hv hx hy⟩
  ·cases hm
 unfold aAW at ha
 split at ha
 ·rename_i e ee ht htx
  split at ha
  ·rename_i τ ti hτ wZ
   split at ha
   ·rename_i hc;obtain⟨hsz,hz,hb1⟩:=hc
    split at ha
    ·split at ha
     ·rename_i m h1 hf;rcases cF ha with⟨hb,ha⟩ | ⟨_,ha⟩
      ·refine⟨_,_,ha,fun R ρ w H6 u u2 hr hx hy=>?_⟩;obtain⟨R1,r1,f1,v1⟩:=aAV hr hf hy;cases hx;obtain⟨R',ρ',u',w',k1,k2,k3,k4⟩:=append_nil (H6:=H6) r1 ht htx wZ hsz hz hb1 (by simpa using hb) v1;exact⟨R',ρ',u',w',k1,k2,k3,f1.trans k4⟩
      ·cases ha
     ·cases ha
    ·rename_i zF i
     split at ha
     ·rename_i bt ty l hi
      split at ha
      ·rename_i hc2;obtain⟨rfl,rfl,rfl⟩:=hc2
       split at ha
       ·rename_i m h1 hf
        split at ha
        ·rename_i blk hi1;rcases cF ha with⟨hb,ha⟩ | ⟨_,ha⟩
         ·refine⟨_,_,ha,fun R ρ w H6 u u2 hr hx hy=>?_⟩;have hi2:=aRs hf i blk hi1;rw [hi] at hi2;simp only [aJp] at hi2;subst hi2;obtain⟨R1,r1,f1,v1⟩:=aAV hr hf hy;obtain⟨R',ρ',u',w',k1,k2,k3,k4⟩:=aIq (H6:=H6) r1 ht htx wZ hsz hz hb1 (by simpa using hb) hi1 rfl (hx.EM f1 hr) v1;exact⟨R',ρ',u',w',k1,k2,k3,f1.trans k4⟩
         ·cases ha
        ·cases ha
       ·cases ha
      ·cases ha
     ·cases ha
    ·rename_i sz i
     split at ha
     ·rename_i m h1 hf
      split at ha
      ·rename_i bt hi1
       split at ha
       ·rename_i hc2;obtain⟨rfl,rfl⟩:=hc2;rcases cF ha with⟨hb,ha⟩ | ⟨_,ha⟩
        ·refine⟨_,_,ha,fun R ρ w H6 u u2 hr hx hy=>?_⟩;obtain⟨R1,r1,f1,v1⟩:=aAV hr hf hy;obtain⟨R',ρ',u',w',k1,k2,k3,k4⟩:=aEJ (H6:=H6) r1 ht htx wZ hsz hz hb1 (by simpa using hb) hi1 (hx.EM f1 hr) v1;exact⟨R',ρ',u',w',k1,k2,k3,f1.trans k4⟩
        ·cases ha
       ·cases ha
      ·cases ha
     ·exact dflt ha
    ·exact dflt ha
   ·cases ha
  ·exact dflt ha
 ·exact dflt ha
end
def Ty.keq:(t:Ty)→t.El→t.El→Bool
 | .int _,a,b=>(a==b:Bool)
 | .bool,a,b=>(a==b:Bool)
 | .str,a,b=>(a==b:Bool)
 | _,_,_=>false
def PC:TypeDesc→Ty→Bool
 | .int _,.int _=>true
 | .string,.str=>true
 | .bool,.bool=>true
 | _,_=>false
def fV (kt vt:Ty)(k:kt.El):List (kt.El×vt.El)→Option vt.El
 | []=>none
 | p :: m=>bif kt.keq k p.1 then some p.2 else fV kt vt k m
def lG (kt vt:Ty)(k:kt.El)(v:vt.El):List (kt.El×vt.El)→List (kt.El×vt.El)
 | []=>[(k,v)]
 | p :: m=>bif kt.keq k p.1 then(k,v) :: m else p :: lG kt vt k v m
def rY (kt vt:Ty)(m:List (kt.El×vt.El)):List (AV×AV):=m.map fun p=>(kt.enc p.1,vt.enc p.2)
theorem aOy {d:TypeDesc}{kt:Ty}(hd:PC d kt=true)(a b:kt.El):X2 d (kt.enc a) (kt.enc b)=some (kt.keq a b):=by
 cases d <;> cases kt <;> simp [PC] at hd <;> simp [X2,Ty.enc,Ty.keq]
theorem E1 {d:TypeDesc}{kt:Ty}(hd:PC d kt=true):LK d=true:=by
 cases d <;> cases kt <;> simp [PC] at hd <;> rfl
theorem IL {d:TypeDesc}{kt vt:Ty}(hd:PC d kt=true)(k:kt.El):∀ (m:List (kt.El×vt.El)) (i:Nat),
  (fV kt vt k m=none∧wX d (kt.enc k) (rY kt vt m) i=some none∧∀ v,lG kt vt k v m=m++[(k,v)]) ∨
  (∃ n v,fV kt vt k m=some v∧wX d (kt.enc k) (rY kt vt m) i=some (some (i+n,vt.enc v))∧∀ v',lG kt vt k v' m=m.set n (k,v'))
 | [],i=>.inl ⟨rfl,rfl,fun v=>rfl⟩
 | p :: m,i=>by
  simp only [fV,lG,rY,aXW,wX,aOy hd];cases hk:kt.keq k p.1 with
  | true=>exact .inr ⟨0,p.2,rfl,rfl,fun v'=>rfl⟩
  | false=>
   rcases IL hd k m (i+1) with⟨h1,h2,h3⟩ | ⟨n,v,h1,h2,h3⟩
   ·exact .inl ⟨h1,h2,fun v=>by simp [h3]⟩
   ·refine .inr ⟨n+1,v,h1,?_,fun v'=>by simp [h3]⟩;have:i+1+n=i+(n+1):=by omega
    rw [← this];exact h2
section
variable {C:dI}{T:Tb}{w:World}{R:Nat→Prop}{ρ:Nm}{h:AH}{β:Type}
theorem aEK {b:Nat}{N:BN}{kt vt:Ty}{m:List (kt.El×vt.El)}:dY w R ρ b N (.cE kt vt m)↔dY w R ρ b N (.map (rY kt vt m)):=by
 constructor
 ·rintro ⟨arr,clock,h1,h2,h3⟩;exact⟨arr,clock,h1,by simpa [rY,Function.comp_def] using h2,by simpa [rY,Function.comp_def] using h3⟩
 ·rintro ⟨arr,clock,h1,h2,h3⟩;exact⟨arr,clock,h1,by simpa [rY,Function.comp_def] using h2,by simpa [rY,Function.comp_def] using h3⟩
theorem PD (hr:Rel R ρ h w){i:Nat}{kt vt:Ty}{m:List (kt.El×vt.El)}(hi:h[i]?=some (some (.cE kt vt m))) :
  Rel R ρ (h.set i (some (.map (rY kt vt m)))) w∧fB R ρ h w R ρ (h.set i (some (.map (rY kt vt m)))) w:=by
 obtain⟨b,N,hn,hb,gG⟩:=hr.live _ _ hi;exact jV hr hi hn gG.cE.1 (aEK.1 hb)
theorem PE (hr:Rel R ρ h w){i:Nat}{kt vt:Ty}{m:List (kt.El×vt.El)}(hi:h[i]?=some (some (.map (rY kt vt m)))) :
  Rel R ρ (h.set i (some (.cE kt vt m))) w∧fB R ρ h w R ρ (h.set i (some (.cE kt vt m))) w:=by
 obtain⟨b,N,hn,hb,gG⟩:=hr.live _ _ hi;exact jV hr hi hn gG.map.1 (aEK.2 hb)
def aLf {β:Type}(d:TypeDesc)(k:AV)(K:Option AV→Option β):List (AV×AV)→Option β
 | []=>K none
 | e :: es=>match X2 d k e.1 with
  | some b=>bif b then K (some e.2) else aLf d k K es
  | none=>none
theorem aEL {β:Type}{d:TypeDesc}{k:AV}{K:Option AV→Option β}{z:β}:∀ (es:List (AV×AV)) (i:Nat),aLf d k K es=some z→∃ r,wX d k es i=some r∧K (r.map (·.2))=some z
 | [],i,h=>⟨none,rfl,h⟩
 | e :: es,i,h=>by
  simp only [aLf] at h
  split at h
  ·rename_i b hb;cases b with
   | true=>exact⟨some (i,e.2),by simp only [wX,hb],h⟩
   | false=>
    obtain⟨r,h1,h2⟩:=aEL es (i+1) h;exact⟨r,by simp only [wX,hb];exact h1,h2⟩
  ·cases h
def aAX {β:Type}(C:dI)(t:TypeId)(es:List (AV×AV))(k:AV)(ok:Bool)(K:AV→Option β):Option β:=
 match C.P.underlying t with
 | some (.map kt e)=>match C.P.underlying kt with
  | some d=>if LK d then aLf d k (fun r=>match r with
   | some v=>K (if ok then .xF [v,.bool true] else v)
   | none=>match wY C e with
    | some z=>K (if ok then .xF [z,.bool false] else z)
    | none=>none) es else none
  | none=>none
 | _=>none
theorem aIt {β:Type}{C:dI}{h:AH}{t:TypeId}{x k:AV}{es:List (AV×AV)}{ok:Bool}{K:AV→Option β}{z:β}(hm:mapOf h x=some es)(hl:aAX C t es k ok K=some z):∃ v,jO C h t x k ok=some v∧K v=some z:=by
 unfold aAX at hl
 split at hl
 ·rename_i kt e ht
  split at hl
  ·rename_i d hd
   split at hl
   ·rename_i hk;obtain⟨r,h1,h2⟩:=aEL es 0 hl;cases r with
    | none=>
     simp only [Option.map_none] at h2
     split at h2
     ·rename_i zz hz;exact⟨_,by simp only [jO,ht,hd,aJb hk,hm,h1,hz],h2⟩
     ·cases h2
    | some p=>
     exact⟨_,by simp only [jO,ht,hd,aJb hk,hm,h1],h2⟩
   ·cases hl
  ·cases hl
 ·cases hl
def aAY (C:dI)(h:AH)(t:TypeId)(x k:AV)(ok:Bool):Option AV:=match x with
 | .map i=>match h[i]? with
  | some (some (.cE kt vt m))=>match C.P.underlying t with
   | some (.map kd e)=>match C.P.underlying kd,wY C e with
    | some d,some z=>if PC d kt∧kt.ck k∧vt.ck z then
      some (if ok then .xF [vt.enc ((fV kt vt (kt.dec k) m).getD (vt.dec z)),.bool (fV kt vt (kt.dec k) m).isSome] else vt.enc ((fV kt vt (kt.dec k) m).getD (vt.dec z)))
     else none
    | _,_=>none
   | _=>none
  | _=>jO C h t (.map i) k ok
 | x=>jO C h t x k ok
theorem aIu (hr:Rel R ρ h w){t:TypeId}{x k av:AV}{ok:Bool}{u v:Value}(hl:aAY C h t x k ok=some av)(hx:aI w R ρ x u)(hk:aI w R ρ k v) :
  ∃ r,(Instr.lookup t u v ok).run C.P w=.ok r w∧aI w R ρ av r:=by
 unfold aAY at hl
 split at hl
 ·rename_i i
  split at hl
  ·rename_i kt vt m hi
   split at hl
   ·rename_i kd e ht
    split at hl
    ·rename_i d z hd hz
     split at hl
     ·rename_i hc;obtain⟨h1,h2,h3⟩:=hc;injection hl with hl
      have hil:i<h.length:=(aK2.1 hi).1;obtain⟨r1,f1⟩:=PD hr hi;have hk2:=kt.ok h2 hk;have hmap:mapOf (h.set i (some (.map (rY kt vt m)))) (.map i)=some (rY kt vt m):=by
       simp only [mapOf,List.getElem?_set_self hil]
      rcases IL (vt:=vt) h1 (kt.dec k) m 0 with⟨g1,g2,_⟩ | ⟨n,v0,g1,g2,_⟩
      ·have hA:jO C (h.set i (some (.map (rY kt vt m)))) t (.map i) (kt.enc (kt.dec k)) ok=some (if ok then .xF [z,.bool false] else z):=by
        simp only [jO,ht,hd,E1 h1,if_true,hmap,g2,hz]
       obtain⟨r,qQ,hr2⟩:=lP r1 hA hx hk2;refine⟨r,qQ,?_⟩;rw [g1] at hl;subst hl;cases ok
       ·exact vt.ok h3 hr2
       ·obtain⟨us,rfl,fE⟩:=aI.qT hr2;obtain⟨u1,us1,he,k1,k2⟩:=fE.cons_inv;refine .mU ?_;rw [he];exact .cons (vt.ok h3 k1) k2
      ·have hA:jO C (h.set i (some (.map (rY kt vt m)))) t (.map i) (kt.enc (kt.dec k)) ok=some (if ok then .xF [vt.enc v0,.bool true] else vt.enc v0):=by
        simp only [jO,ht,hd,E1 h1,if_true,hmap,g2]
       obtain⟨r,qQ,hr2⟩:=lP r1 hA hx hk2;refine⟨r,qQ,?_⟩;rw [g1] at hl;subst hl;exact hr2
     ·cases hl
    ·cases hl
   ·cases hl
  ·exact lP hr hl hx hk
 ·exact lP hr hl hx hk
def C9 (C:dI)(h:AH)(t:TypeId)(x k v:AV):Option AH:=match x with
 | .map i=>match h[i]? with
  | some (some (.cE kt vt m))=>match C.P.underlying t with
   | some (.map kd e)=>match C.P.underlying kd with
    | some d=>if PC d kt∧kt.ck k∧vt.ck v then some (h.set i (some (.cE kt vt (lG kt vt (kt.dec k) (vt.dec v) m)))) else none
    | _=>none
   | _=>none
  | _=>iU C h t (.map i) k v
 | x=>iU C h t x k v
theorem XC (hr:Rel R ρ h w){t:TypeId}{m k x:AV}{h':AH}{um uk ux:Value}(hs:C9 C h t m k x=some h')(hm:aI w R ρ m um)(hk:aI w R ρ k uk)(hx:aI w R ρ x ux) :
  X7 C R ρ h w (Instr.mapUpdate t um uk ux) h':=by
 unfold C9 at hs
 split at hs
 ·rename_i i
  split at hs
  ·rename_i kt vt m hi
   split at hs
   ·rename_i kd e ht
    split at hs
    ·rename_i d hd
     split at hs
     ·rename_i hc;obtain⟨h1,h2,h3⟩:=hc;injection hs with hs;subst hs
      have hil:i<h.length:=(aK2.1 hi).1;obtain⟨r1,f1⟩:=PD hr hi;have hk2:=kt.ok h2 hk;have hx2:=vt.ok h3 hx;have hA:iU C (h.set i (some (.map (rY kt vt m)))) t (.map i) (kt.enc (kt.dec k)) (vt.enc (vt.dec x))=some (h.set i (some (.map (rY kt vt (lG kt vt (kt.dec k) (vt.dec x) m))))):=by
       rcases IL (vt:=vt) h1 (kt.dec k) m 0 with⟨_,g2,g3⟩ | ⟨n,v0,_,g2,g3⟩
       ·simp only [iU,ht,hd,List.getElem?_set_self hil,E1 h1,if_true,g2];rw [g3];simp [rY]
       ·simp only [iU,ht,hd,List.getElem?_set_self hil,E1 h1,if_true,g2];rw [g3];simp [rY,List.map_set]
      obtain⟨R',ρ',w',k1,k2,k3⟩:=jM r1 hA hm hk2 hx2;obtain⟨r2,f2⟩:=PE (kt:=kt) (vt:=vt) (m:=lG kt vt (kt.dec k) (vt.dec x) m) (i:=i) k2 (by rw [List.getElem?_set_self hil]);refine⟨R',ρ',w',k1,by simpa using r2,?_⟩;have:=(f1.trans k3).trans f2;simpa using this
     ·cases hs
    ·cases hs
   ·cases hs
  ·exact jM hr hs hm hk hx
 ·exact jM hr hs hm hk hx
def PG (T:Tb)(h:AH)(t:TypeId):cQ:=match T.mp t with
 | some (kt,vt)=>.cE kt vt []
 | none=>.map []
theorem aEM (hr:Rel R ρ h w)(t:TypeId):Post C R ρ h w (Instr.makeMap t none) (.map h.length) (h++[some (PG T h t)]):=by
 obtain⟨R',ρ',u,w',h1,h2,h3,h4⟩:=LR (C:=C) hr t;unfold PG
 split
 ·rename_i kt vt ht;obtain⟨r2,f2⟩:=PE (kt:=kt) (vt:=vt) (m:=[]) (i:=h.length) h3 (by simp [rY]);refine⟨R',ρ',u,w',h1,h2,by simpa using r2,?_⟩;have:=h4.trans f2;simpa using this
 ·exact⟨R',ρ',u,w',h1,h2,h3,h4⟩
end
section
variable {C:dI}{T:Tb}{w:World}{R:Nat→Prop}{ρ:Nm}{h:AH}{β:Type}
theorem AC.own {P:Program}{g:FuncId}{args:List AV}{bt:TypeId}{t:Ty}{l:List t.El}(hc:AC P g args [] (.ret (.bL t 0)) [some (.row bt t l)])(ha:∀ c∈args,bN c) :
  vF P g args h (.bL t h.length) (h++[some (.row bt t l)]):=by
 intro R ρ w vs hr hvs;refine(hc R gI w vs (.base hr.ro) (bN.O9 ha hvs)).mono ?_;rintro e w' ⟨R',ρ',u,⟨rfl,hu⟩,r1,f1⟩;have hnl:∀ b,¬Lv gI [] b:=by rintro b ⟨i,blk,N,hi,_⟩;simp at hi
 have hkeep:∀ b,b<w.heap.size→w'.heap[b]?=w.heap[b]?:=fun b hb=>f1.keeps b hb (hnl b);have PI:∀ b,R' b→R b∨w.heap.size≤b:=by
  intro b hb;rcases f1.cZ b hb with h6 | h6 | h6
  ·exact .inl h6
  ·exact absurd h6 (hnl b)
  ·exact .inr h6
 have r2:Rel R' ρ h w':=by
  refine⟨fun i blk hi=>?_,hr.inj,hr.dom,r1.ro⟩;obtain⟨b,N,h1,h2,h3⟩:=hr.live i blk hi;refine⟨b,N,h1,h2.mono h3 (fun hg=>hkeep b (h2.lt hg)) (fun k hk=>hkeep k (hr.ro k hk)) f1.mV (Nm.le_refl _),?_⟩;rcases h3 with⟨h4,h5⟩ | h4
  ·refine .inl ⟨h4,fun hb=>?_⟩;rcases PI b hb with h6 | h6
   ·exact h5 h6
   ·have:=h2.lt h4;omega
  ·exact .inr h4
 obtain⟨b,N,hn,hb,gG⟩:=r1.live 0 _ rfl;have hb2:dY w' R' ρ b N (.row bt t l):=by
  obtain⟨k1,k2⟩:=hb;refine⟨k1,fun hg=>?_⟩;obtain⟨arr,k3,k4,k5,k6⟩:=k2 hg;refine⟨arr,k3,k4,k5,fun j o c hj hc=>?_⟩;obtain⟨u,hu,hv⟩:=k6 j o c hj hc;exact⟨u,hu,t.eV _ c (aPl hc) _ _ _ _ _ hv⟩
 have hbig:N.gh=false→w.heap.size≤b:=by
  intro hg;rcases f1.cW b ⟨0,_,N,rfl,hn,hg⟩ with h6 | h6
  ·exact absurd h6 (hnl b)
  ·exact h6
 have r3:=EW r2 (.row bt t l) hb2 (fun hg hl=>by have:=hr.iS hl;have:=hbig hg;omega) gG;have hle:=Nm.CS (bn:=(b,N)) (hr.dom h.length (aKQ _));refine⟨R',_,u,rfl,?_,r3,⟨f1.os,f1.tape,f1.output,f1.size,hle,f1.mV,fun b hb _=>hkeep b hb,fun c hl=>?_,fun b hb=>?_,by simp,fun x hx hn=>by rw [Nm.fP (by omega)];exact hn,f1.kQ⟩⟩
 ·cases hu with
  | @bL _ _ b' N' cap hn' hg hl hcc=>
   rw [hn] at hn';simp only [aJp,aKN] at hn';obtain⟨rfl,rfl⟩:=hn';exact .bL (Nm.cD _ _ _) hg hl hcc
  | @iY _ _ b' N' hn' hg=>
   rw [hn] at hn';simp only [aJp,aKN] at hn';obtain⟨rfl,rfl⟩:=hn';exact .iY (Nm.cD _ _ _) hg
 ·obtain⟨j,blk,N2,hj,hn2,hg2⟩:=hl;by_cases hjl:j=h.length
  ·subst hjl;rw [Nm.cD] at hn2;simp only [aJp,aKN] at hn2;obtain⟨rfl,rfl⟩:=hn2;exact .inr (hbig hg2)
  ·rw [Nm.fP hjl] at hn2;have aIk:j<h.length:=by
    have:=(aK2.1 hj).1;simp at this;omega
   rw [aZ8 aIk] at hj;exact .inl ⟨j,blk,N2,hj,hn2,hg2⟩
 ·rcases PI b hb with h6 | h6
  ·exact .inl h6
  ·exact .inr (.inr h6)
theorem AC.a1U {P:Program}{g:FuncId}{args:List AV}{bt HZ:TypeId}{t t':Ty}{l:List t.El}{y:List t'.El}(hc:AC P g (.bL t 0 :: args) [some (.row bt t l)] (.ret (.bL t' 1)) [none,some (.row HZ t' y)])(ha:∀ c∈args,bN c)
  {i:Nat} (hi:h[i]?=some (some (.row bt t l))):vF P g (.bL t i :: args) h (.bL t' h.length) (h.set i none++[some (.row HZ t' y)]):=by
 intro R ρ w vs hr hvs;obtain⟨b,N,hn,hb,gG⟩:=hr.live i _ hi;have hil:i<h.length:=(aK2.1 hi).1;let ρm:Nm:=fun k=>if k=0 then some (b,N) else none;have hm0:ρm 0=some (b,N):=rfl;have a9S:∀ {w:World} {R:Nat→Prop} {ρ ρ':Nm} {b:Nat} {N:BN} {bt:TypeId} {t:Ty} {l:List t.El},dY w R ρ b N (.row bt t l)→dY w R ρ' b N (.row bt t l):=by
  intro w R ρ ρ' b N bt t l hb;obtain⟨k1,k2⟩:=hb;refine⟨k1,fun hg=>?_⟩;obtain⟨arr,k3,k4,k5,k6⟩:=k2 hg;refine⟨arr,k3,k4,k5,fun j o c hj hc=>?_⟩;obtain⟨u,hu,hv⟩:=k6 j o c hj hc;exact⟨u,hu,t.eV _ c (aPl hc) _ _ _ _ _ hv⟩
 have hone:∀ (k:Nat) (blk:cQ),([some (cQ.row bt t l)]:AH)[k]?=some (some blk)→k=0∧blk=.row bt t l:=by
  intro k blk hk;cases k with
  | zero=>simp at hk;exact⟨rfl,hk.symm⟩
  | succ k=>simp at hk
 have rm:Rel R ρm [some (.row bt t l)] w:=by
  refine⟨fun k blk hk=>?_,fun k k' bk bk' c Nk Nk' hk hk' _ _ _ _=>?_,fun k hk=>?_,hr.ro⟩
  ·obtain⟨rfl,rfl⟩:=hone k blk hk;exact⟨b,N,rfl,a9S hb,gG⟩
  ·rw [(hone k _ hk).1,(hone k' _ hk').1]
  ·show(if k=0 then _ else _)=_;rw [aJn];simp at hk;omega
 obtain⟨u0,us0,hu0,g1,g2⟩:=hvs.cons_inv;have gm:aI w R ρm (.bL t 0) u0:=by
  cases g1 with
  | @bL _ _ b' N' cap hn' hg hl hcc=>
   rw [hn] at hn';simp only [aJp,aKN] at hn';obtain⟨rfl,rfl⟩:=hn';exact .bL hm0 hg hl hcc
  | @iY _ _ b' N' hn' hg=>
   rw [hn] at hn';simp only [aJp,aKN] at hn';obtain⟨rfl,rfl⟩:=hn';exact .iY hm0 hg
 refine(hc R ρm w vs rm (by rw [hu0];exact .cons gm (bN.O9 ha g2))).mono ?_;rintro e w' ⟨R',ρ',u,⟨rfl,hu⟩,r1,f1⟩;have hlm:∀ c,Lv ρm [some (.row bt t l)] c→c=b∧N.gh=false:=by
  rintro c ⟨k,blk,N',hk,hn',hg⟩;obtain⟨rfl,rfl⟩:=hone k blk hk;rw [hm0] at hn';simp only [aJp,aKN] at hn';obtain⟨rfl,rfl⟩:=hn';exact⟨rfl,hg⟩
 have hkeep:∀ c,c<w.heap.size→(N.gh=false→c≠b)→w'.heap[c]?=w.heap[c]?:=fun c h1 h2=>f1.keeps c h1 fun hl=>h2 (hlm c hl).2 (hlm c hl).1;have BR:N.gh=false→¬R b:=gG.aEm;have hRk:∀ k,R k→w'.heap[k]?=w.heap[k]?:=fun k hk=>hkeep k (hr.ro k hk) fun hg e=>BR hg (e▸hk);have hsub:∀ (j:Nat) (blk:cQ),(h.set i none)[j]?=some (some blk)→j≠i∧h[j]?=some (some blk):=by
  intro j blk hj;rw [aXL] at hj
  split at hj
  ·exfalso;first | (split at hj <;> simp at hj;done) | (simp at hj;done)
  ·rename_i hne;exact⟨fun e=>hne e.symm,hj⟩
 have a30:∀ (j:Nat) (blk:cQ) (c:Nat) (M:BN),j≠i→h[j]?=some (some blk)→ρ j=some (c,M)→M.gh=false→N.gh=false→c≠b:=by
  intro j blk c M hji hj hc' hg1 hg2 e;subst e;exact hji (hr.inj j i _ _ _ _ _ hj hi hc' hn hg1 hg2)
 have r2:Rel R' ρ (h.set i none) w':=by
  refine⟨fun j blk hj=>?_,fun j k bj bk c Nj Nk hj hk=>hr.inj j k bj bk c Nj Nk (hsub _ _ hj).2 (hsub _ _ hk).2,fun j hj=>hr.dom j (by simpa using hj),r1.ro⟩;obtain⟨hji,hj⟩:=hsub j blk hj;obtain⟨c,M,h1,h2,h3⟩:=hr.live j blk hj;refine⟨c,M,h1,h2.mono h3 (fun hg=>hkeep c (h2.lt hg) (a30 j blk c M hji hj h1 hg)) hRk f1.mV (Nm.le_refl _),?_⟩;rcases h3 with⟨h4,h5⟩ | h4
  ·refine .inl ⟨h4,fun hR=>?_⟩;rcases f1.cZ c hR with h6 | h6 | h6
   ·exact h5 h6
   ·obtain⟨e,hg⟩:=hlm c h6;exact a30 j blk c M hji hj h1 h4 hg e
   ·have:=h2.lt h4;omega
  ·exact .inr h4
 obtain⟨b2,N2,hn2,hb2,a32⟩:=r1.live 1 _ rfl;have o9:N2.gh=false→(b2=b∧N.gh=false)∨w.heap.size≤b2:=by
  intro hg;rcases f1.cW b2 ⟨1,_,N2,rfl,hn2,hg⟩ with h6 | h6
  ·exact .inl (hlm b2 h6)
  ·exact .inr h6
 have r3:=EW r2 (.row HZ t' y) (a9S hb2) (fun hg hl=>by
  obtain⟨j,blk,M,hj,rI,LL⟩:=hl;obtain⟨hji,hj⟩:=hsub j blk hj;rcases o9 hg with⟨e,hgN⟩ | h6
  ·exact a30 j blk b2 M hji hj rI LL hgN e
  ·have:=hr.iS ⟨j,blk,M,hj,rI,LL⟩;omega) a32
 have hle:=Nm.CS (bn:=(b2,N2)) (hr.dom h.length (aKQ _));have hlen:(h.set i none).length=h.length:=by simp
 rw [hlen] at r3;refine⟨R',_,u,rfl,?_,r3,⟨f1.os,f1.tape,f1.output,f1.size,hle,f1.mV,fun c hc' hl=>hkeep c hc' fun hg e=>hl (e▸⟨i,_,N,hi,hn,hg⟩),fun c hl=>?_,fun c hR=>?_,by simp,fun x hx hn=>by rw [Nm.fP (by omega)];exact hn,f1.kQ⟩⟩
 ·cases hu with
  | @bL _ _ b' N' cap hn' hg hl hcc=>
   rw [hn2] at hn';simp only [aJp,aKN] at hn';obtain⟨rfl,rfl⟩:=hn';exact .bL (Nm.cD _ _ _) hg hl hcc
  | @iY _ _ b' N' hn' hg=>
   rw [hn2] at hn';simp only [aJp,aKN] at hn';obtain⟨rfl,rfl⟩:=hn';exact .iY (Nm.cD _ _ _) hg
 ·obtain⟨j,blk,M,hj,rI,LL⟩:=hl;by_cases hjl:j=h.length
  ·subst hjl;rw [Nm.cD] at rI;simp only [aJp,aKN] at rI;obtain⟨rfl,rfl⟩:=rI;rcases o9 LL with⟨e,hg⟩ | h6
   ·exact .inl (e▸⟨i,_,N,hi,hn,hg⟩)
   ·exact .inr h6
  ·rw [Nm.fP hjl] at rI;have aIk:j<(h.set i none).length:=by
    have:=(aK2.1 hj).1;simp at this ⊢;omega
   rw [aZ8 aIk] at hj;exact .inl ⟨j,blk,M,(hsub j blk hj).2,rI,LL⟩
 ·rcases f1.cZ c hR with h6 | h6 | h6
  ·exact .inl h6
  ·obtain⟨e,hg⟩:=hlm c h6;exact .inr (.inl (e▸⟨i,_,N,hi,hn,hg⟩))
  ·exact .inr (.inr h6)
theorem aK.E2 {w:World}{R:Nat→Prop}{ρ:Nm}{cs:List AV}{u:Value}(hv:aI w R ρ (eE cs) u) :
  (∃ c,cs=[c]∧aI w R ρ c u)∨∃ us:Array Value,u=.tuple us∧aK w R ρ cs us.toList∧eE cs=.xF cs∧∀ c,cs≠[c]:=by
 unfold eE at hv ⊢
 split at hv
 ·exact .inl ⟨_,rfl,hv⟩
 ·rename_i hne;obtain⟨us,rfl,fE⟩:=hv.qT;exact .inr ⟨us,rfl,fE,rfl,hne⟩
def mX (ts:List Ty):Bool:=ts.all Ty.B0
theorem DA:∀ (ts:List Ty) (x:aS ts),mX ts=true→∀ c∈i4 ts x,∀ (w:World) (R:Nat→Prop) (ρ:Nm) (w':World) (R':Nat→Prop) (ρ':Nm) (u:Value),aI w R ρ c u→aI w' R' ρ' c u
 | [],_,_,c,h=>by simp [i4] at h
 | t :: ts,x,hn,c,h=>by
  simp only [mX,List.all_cons,aKS] at hn;rcases aQL.1 h with rfl | h
  ·intro w R ρ w' R' ρ' u hv;exact t.aRn hn.1 x.1 hv
  ·exact DA ts x.2 hn.2 c h
theorem IM {ts:List Ty}{x:aS ts}(hn:mX ts=true){w':World}{R':Nat→Prop}{ρ':Nm}{u:Value}(hv:aI w R ρ (eE (i4 ts x)) u):aI w' R' ρ' (eE (i4 ts x)) u:=by
 rcases aK.E2 hv with⟨c,hc,h1⟩ | ⟨us,rfl,fE,he,_⟩
 ·rw [hc];show aI w' R' ρ' c u;exact DA ts x hn c (by rw [hc];simp) _ _ _ _ _ _ _ h1
 ·rw [he];exact .mU ⟨fE.1,fun k c u hc hu=>DA ts x hn c (aPl hc) _ _ _ _ _ _ _ (fE.2 k c u hc hu)⟩
theorem rZ {h1:AH}{R1 R':Nat→Prop}{w':World}(hr:Rel R ρ h w)(f1:fB R ρ h w R1 ρ h1 w)(qQ:Rel R1 ρ h1 w)(r2:Rel R' ρ h1 w')(f2:fB R1 ρ h1 w R' ρ h1 w')(hsub:∀ (b:Nat),Lv ρ h b→¬R b→(Lv ρ h1 b→w'.heap[b]?=w.heap[b]?)) :
  Rel (fun k=>R' k∧¬Lv ρ h k) ρ h w'∧fB R ρ h w (fun k=>R' k∧¬Lv ρ h k) ρ h w':=by
 have hk:∀ b,b<w.heap.size→w'.heap[b]?=w.heap[b]?:=by
  intro b hb;by_cases hl:Lv ρ h1 b
  ·have hl0:Lv ρ h b:=by
    rcases f1.cW b hl with h6 | h6
    ·exact h6
    ·omega
   exact hsub b hl0 (fun hR=>hr.qU hR hl0) hl
  ·exact f2.keeps b hb hl
 have hRR:∀ k,R k→R' k∧¬Lv ρ h k:=fun k hk=>⟨f2.mV k (f1.mV k hk),hr.qU hk⟩;refine⟨⟨fun i blk hi=>?_,hr.inj,hr.dom,fun b hb=>r2.ro b hb.1⟩,⟨f2.os,f2.tape,f2.output,f2.size,Nm.le_refl _,hRR,fun b hb _=>hk b hb,fun b hl=>.inl hl,fun b hb=>?_,aKQ _,fun _ _ h=>h,aPB f1.kQ f2.kQ⟩⟩
 ·obtain⟨b,N,k1,k2,k3⟩:=hr.live i blk hi;refine⟨b,N,k1,k2.mono k3 (fun hg=>hk b (k2.lt hg)) (fun k hkR=>hk k (hr.ro k hkR)) hRR (Nm.le_refl _),?_⟩;rcases k3 with⟨h4,h5⟩ | h4
  ·exact .inl ⟨h4,fun hb=>hb.2 ⟨i,blk,N,hi,k1,h4⟩⟩
  ·exact .inr h4
 ·rcases f2.cZ b hb.1 with h6 | h6 | h6
  ·rcases f1.cZ b h6 with h7 | h7 | h7
   ·exact .inl h7
   ·exact absurd h7 hb.2
   ·exact .inr (.inr h7)
  ·rcases f1.cW b h6 with h7 | h7
   ·exact absurd h7 hb.2
   ·exact .inr (.inr h7)
  ·exact .inr (.inr h6)
def aEN:AV→AV
 | .nF _ _=>.slc
 | v=>v
def PJ:AV→AV
 | .agg cs=>.agg (cs.map aEN)
 | v=>aEN v
theorem a9U (t:Ty):∀ (x:t.El) (w:World) (R:Nat→Prop) (ρ:Nm) (w':World) (R':Nat→Prop) (ρ':Nm) (c:AV),c∈(t.enc x).cells→∀ u,aI w R ρ c u→aI w' R' ρ' (aEN c) u:=by
 induction t with
 | unit=>intro x w R ρ w' R' ρ' c hc;simp [Ty.enc,AV.cells] at hc
 | int k=>intro x w R ρ w' R' ρ' c hc u hv;simp only [Ty.enc,AV.cells,aXF] at hc;subst hc;cases hv;constructor
 | bool=>intro x w R ρ w' R' ρ' c hc u hv;simp only [Ty.enc,AV.cells,aXF] at hc;subst hc;cases hv;constructor
 | str=>intro x w R ρ w' R' ρ' c hc u hv;simp only [Ty.enc,AV.cells,aXF] at hc;subst hc;cases hv;constructor
 | gU k=>intro x w R ρ w' R' ρ' c hc u hv;simp only [Ty.enc,AV.cells,aXF] at hc;subst hc;cases hv;constructor
 | list t _=>
  intro x w R ρ w' R' ρ' c hc u hv;simp only [Ty.enc,AV.cells,aXF] at hc;subst hc;cases hv with
  | nF hv=>
   obtain⟨a,c,rfl⟩:=hv.EP;exact .slc _ _ _
 | wrap a ih=>intro x w R ρ w' R' ρ' c hc u hv;exact ih x w R ρ w' R' ρ' c hc u hv
 | pair a b iha ihb=>
  intro x w R ρ w' R' ρ' c hc u hv;simp only [Ty.enc,AV.cells,aLA] at hc;rcases hc with hc | hc
  ·exact iha x.1 w R ρ w' R' ρ' c hc u hv
  ·exact ihb x.2 w R ρ w' R' ρ' c hc u hv
theorem PK {cs:List AV}{w w':World}{R R':Nat→Prop}{ρ ρ':Nm}{u:Value}(h:∀ c∈cs,∀ u,aI w R ρ c u→aI w' R' ρ' (aEN c) u)(hv:aI w R ρ (.agg cs) u):aI w' R' ρ' (.agg (cs.map aEN)) u:=by
 obtain⟨us,rfl,fE⟩:=hv.fU;refine .xH ⟨by simpa using fE.1,fun k c u hc hu=>?_⟩;rw [aQn] at hc;obtain⟨c0,hc0,rfl⟩:=aPV.1 hc;exact h c0 (aPl hc0) u (fE.2 k c0 u hc0 hu)
theorem aYk (t:Ty)(x:t.El){w w':World}{R R':Nat→Prop}{ρ ρ':Nm}{u:Value}(hv:aI w R ρ (t.enc x) u):aI w' R' ρ' (PJ (t.enc x)) u:=by
 have h1:=fun c hc=>a9U t x w R ρ w' R' ρ' c hc;cases t with
 | unit=>exact PK (cs:=[]) (fun c hc=>by simp at hc) hv
 | wrap a=>exact PK h1 hv
 | pair a b=>exact PK h1 hv
 | _=>exact h1 _ (by simp [Ty.enc,AV.cells]) u hv
theorem IP:∀ (ts:List Ty) (x:aS ts) (w:World) (R:Nat→Prop) (ρ:Nm) (w':World) (R':Nat→Prop) (ρ':Nm) (us:List Value),aK w R ρ (i4 ts x) us→aK w' R' ρ' ((i4 ts x).map PJ) us
 | [],x,w,R,ρ,w',R',ρ',us,hv=>by
  obtain rfl:=hv.bE;exact .nil
 | t :: ts,x,w,R,ρ,w',R',ρ',us,hv=>by
  obtain⟨u,nG,rfl,h1,h2⟩:=aK.cons_inv hv;exact .cons (aYk t x.1 h1) (IP ts x.2 w R ρ w' R' ρ' nG h2)
theorem aEO {ts:List Ty}{x:aS ts}{w w':World}{R R':Nat→Prop}{ρ ρ':Nm}{u:Value}(hv:aI w R ρ (eE (i4 ts x)) u):aI w' R' ρ' (eE ((i4 ts x).map PJ)) u:=by
 rcases aK.E2 hv with⟨c,hc,h1⟩ | ⟨us,rfl,fE,he,hne⟩
 ·have h2:=IP ts x w R ρ w' R' ρ' [u] (by rw [hc];exact .cons h1 .nil);rw [hc] at h2 ⊢;obtain⟨u',nG,he,h3,h4⟩:=aK.cons_inv h2;simp only [List.cons.injEq] at he;obtain⟨rfl,rfl⟩:=he;exact h3
 ·have h2:=IP ts x w R ρ w' R' ρ' _ fE;have:eE ((i4 ts x).map PJ)=.xF ((i4 ts x).map PJ):=by
   unfold eE
   split
   ·rename_i c hc;exfalso;cases hl:i4 ts x with
    | nil=>rw [hl] at hc;simp at hc
    | cons d l=>rw [hl] at hc;simp at hc;exact hne d (by rw [hl,hc.2])
   ·rfl
  rw [this];exact .mU h2
def keysOf (args:List AV):List FuncId:=args.filterMap fun
 | .func f _ _=>some f
 | _=>none
def aLg (T:Tb)(h:AH)(g:FuncId)(args:List AV)(K Kp:AV→AH→Option β):Option β:=match T.fn g (keysOf args) with
 | some e=>match qX e.ps h args with
  | some (x,h1)=>(e.F x).bind fun y=>if e.hid then K (eE ((i4 e.rs y).map PJ)) h else K (eE (i4 e.rs y)) (if mX e.rs then h else h1)
  | none=>none
 | none=>match T.own g (keysOf args) with
  | some e=>match qX e.ps h args with
   | some (x,h1)=>(e.F x).bind fun y=>if e.t.B0 then K (.bL e.t h.length) (h++[some (.row e.bt e.t y)]) else K (.bL e.t h1.length) (h1++[some (.row e.bt e.t y)])
   | none=>none
  | none=>match T.mov g (keysOf args) with
   | some e=>match args with
    | .bL τ i :: rest=>match qX e.ps h rest with
     | some (x,h1)=>match h1[i]? with
      | some (some (.row bt ty l))=>if hty:ty=e.t then(if bt=e.bt∧τ=e.t then(e.F (hty▸l) x).bind fun y=>K (.bL e.t' h1.length) (h1.set i none++[some (.row e.HZ e.t' y)]) else none) else none
      | _=>none
     | none=>none
    | _=>none
   | none=>match T.gen g (keysOf args) with
    | some r=>r.run h args K
    | none=>match T.fN g (keysOf args) with
     | some r=>r.run h args K Kp
     | none=>none
theorem AC.xU {P:Program}{g:FuncId}{args:List AV}{v:AV}(hc:AC P g args [] (.ret v) [])(ha:∀ c∈args,bN c)(hv:bN v)(hr:Rel R ρ h w){vs:Array Value}(hvs:aK w R ρ args vs.toList) :
  Calls P g vs w fun e w'=>∃ R' u,e=.returned u∧aI w' R' ρ v u∧Rel R' ρ h w'∧fB R ρ h w R' ρ h w'∧∀ b,b<w.heap.size→w'.heap[b]?=w.heap[b]?:=by
 refine(hc R gI w vs (.base hr.ro) (bN.O9 ha hvs)).mono ?_;rintro e w' ⟨R',ρ',u,⟨rfl,hu⟩,r1,f1⟩;obtain rfl:=r1.oG;have hnl:∀ b,¬Lv gI [] b:=by rintro b ⟨i,blk,N,hi,_⟩;simp at hi
 have hkeep:∀ b,b<w.heap.size→w'.heap[b]?=w.heap[b]?:=fun b hb=>f1.keeps b hb (hnl b);refine⟨R',u,rfl,hv _ _ _ _ _ hu,⟨fun i blk hi=>?_,hr.inj,hr.dom,r1.ro⟩,⟨f1.os,f1.tape,f1.output,f1.size,Nm.le_refl _,f1.mV,fun b hb _=>hkeep b hb,fun b hl=>.inl hl,fun b hb=>?_,aKQ _,fun _ _ h=>h,f1.kQ⟩,hkeep⟩
 ·obtain⟨b,N,h1,h2,h3⟩:=hr.live i blk hi;refine⟨b,N,h1,h2.mono h3 (fun hg=>hkeep b (h2.lt hg)) (fun k hk=>hkeep k (hr.ro k hk)) f1.mV (Nm.le_refl _),?_⟩;rcases h3 with⟨h4,h5⟩ | h4
  ·refine .inl ⟨h4,fun hb=>?_⟩;rcases f1.cZ b hb with h6 | h6 | h6
   ·exact h5 h6
   ·exact hnl b h6
   ·have:=h2.lt h4;omega
  ·exact .inr h4
 ·rcases f1.cZ b hb with h6 | h6 | h6
  ·exact .inl h6
  ·exact absurd h6 (hnl b)
  ·exact .inr (.inr h6)
theorem AC.aYl {P:Program}{g:FuncId}{args:List AV}{bt:TypeId}{t:Ty}{l:List t.El}(hc:AC P g args [] (.ret (.bL t 0)) [some (.row bt t l)])(ha:∀ c∈args,bN c)(hn:t.B0=true){h1:AH}{R1:Nat→Prop}(hr:Rel R ρ h w)(f1:fB R ρ h w R1 ρ h1 w)(qQ:Rel R1 ρ h1 w){vs:Array Value}(hvs:aK w R1 ρ args vs.toList) :
  Calls P g vs w fun e w'=>∃ R' ρ' u,e=.returned u∧aI w' R' ρ' (.bL t h.length) u∧Rel R' ρ' (h++[some (.row bt t l)]) w'∧fB R ρ h w R' ρ' (h++[some (.row bt t l)]) w':=by
 refine(hc R1 gI w vs (.base qQ.ro) (bN.O9 ha hvs)).mono ?_;rintro e w' ⟨R',ρ',u,⟨rfl,hu⟩,r1,f2⟩;have hnl:∀ b,¬Lv gI [] b:=by rintro b ⟨i,blk,N,hi,_⟩;simp at hi
 have hkeep:∀ b,b<w.heap.size→w'.heap[b]?=w.heap[b]?:=fun b hb=>f2.keeps b hb (hnl b);have PI:∀ b,R' b→R1 b∨w.heap.size≤b:=by
  intro b hb;rcases f2.cZ b hb with h6 | h6 | h6
  ·exact .inl h6
  ·exact absurd h6 (hnl b)
  ·exact .inr h6
 have r2:Rel R' ρ h1 w':=by
  refine⟨fun i blk hi=>?_,qQ.inj,qQ.dom,r1.ro⟩;obtain⟨b,N,k1,k2,k3⟩:=qQ.live i blk hi;refine⟨b,N,k1,k2.mono k3 (fun hg=>hkeep b (k2.lt hg)) (fun k hk=>hkeep k (qQ.ro k hk)) f2.mV (Nm.le_refl _),?_⟩;rcases k3 with⟨h4,h5⟩ | h4
  ·refine .inl ⟨h4,fun hb=>?_⟩;rcases PI b hb with h6 | h6
   ·exact h5 h6
   ·have:=k2.lt h4;omega
  ·exact .inr h4
 have f2':fB R1 ρ h1 w R' ρ h1 w':=⟨f2.os,f2.tape,f2.output,f2.size,Nm.le_refl _,f2.mV,fun b hb _=>hkeep b hb,fun b hl=>.inl hl,fun b hb=>(PI b hb).elim .inl (fun h=>.inr (.inr h)),aKQ _,fun _ _ h=>h,f2.kQ⟩;obtain⟨r3,f3⟩:=rZ hr f1 qQ r2 f2' (fun b hl _ _=>hkeep b (hr.iS hl));obtain⟨b,N,hnm,hb,gG⟩:=r1.live 0 _ rfl;have hb2:dY w' (fun k=>R' k∧¬Lv ρ h k) ρ b N (.row bt t l):=by
  obtain⟨k1,k2⟩:=hb;refine⟨k1,fun hg=>?_⟩;obtain⟨arr,k3,k4,k5,k6⟩:=k2 hg;refine⟨arr,k3,k4,k5,fun j o c hj hc=>?_⟩;obtain⟨u,hu,hv⟩:=k6 j o c hj hc;exact⟨u,hu,t.IJ hn (l.getD j t.dflt) _ _ _ _ _ _ c (aPl hc) u hv⟩
 have hbig:N.gh=false→w.heap.size≤b:=by
  intro hg;rcases f2.cW b ⟨0,_,N,rfl,hnm,hg⟩ with h6 | h6
  ·exact absurd h6 (hnl b)
  ·exact h6
 have a32:Real (fun k=>R' k∧¬Lv ρ h k) b N (.row bt t l):=by
  rcases gG with⟨h5,h6⟩ | h5
  ·exact .inl ⟨h5,fun h7=>h6 h7.1⟩
  ·exact .inr h5
 have r4:=EW r3 (.row bt t l) hb2 (fun hg hl=>by have:=hr.iS hl;have:=hbig hg;omega) a32;have hle:=Nm.CS (bn:=(b,N)) (hr.dom h.length (aKQ _));refine⟨_,_,u,rfl,?_,r4,⟨f3.os,f3.tape,f3.output,f3.size,hle,f3.mV,fun c hc' _=>hkeep c hc',fun c hl=>?_,f3.cZ,by simp,fun x hx hn'=>by rw [Nm.fP (by omega)];exact hn',f3.kQ⟩⟩
 ·cases hu with
  | @bL _ _ b' N' cap hn' hg hl hcc=>
   rw [hnm] at hn';simp only [aJp,aKN] at hn';obtain⟨rfl,rfl⟩:=hn';exact .bL (Nm.cD _ _ _) hg hl hcc
  | @iY _ _ b' N' hn' hg=>
   rw [hnm] at hn';simp only [aJp,aKN] at hn';obtain⟨rfl,rfl⟩:=hn';exact .iY (Nm.cD _ _ _) hg
 ·obtain⟨j,blk,N2,hj,hn2,hg2⟩:=hl;by_cases hjl:j=h.length
  ·subst hjl;rw [Nm.cD] at hn2;simp only [aJp,aKN] at hn2;obtain⟨rfl,rfl⟩:=hn2;exact .inr (hbig hg2)
  ·rw [Nm.fP hjl] at hn2;have aIk:j<h.length:=by
    have:=(aK2.1 hj).1;simp at this;omega
   rw [aZ8 aIk] at hj;exact .inl ⟨j,blk,N2,hj,hn2,hg2⟩
theorem aRt {P:Program}(hT:T.Ok P){g:FuncId}{args:List AV}{K Kp:AV→AH→Option β}{z:β}(hc:aLg T h g args K Kp=some z):(∃ v h',K v h'=some z∧vF P g args h v h')∨∃ v h',Kp v h'=some z∧aAT P g args h v h':=by
 unfold aLg at hc
 split at hc
 ·rename_i e he
  split at hc
  ·rename_i x h1 hf;obtain⟨y,hy,hK⟩:=aXE.1 hc;cases hh:e.hid with
   | true=>
    rw [hh] at hK;simp only [if_true] at hK;refine .inl ⟨_,_,hK,fun R ρ w vs hr hvs=>?_⟩;obtain⟨R1,r1,f1,v1⟩:=gA e.ps hf hr hvs;refine((hT.fn g _ e he x y hy).xU (dP _ _) (.eE (gB _ _)) r1 v1).mono ?_;rintro ee w' ⟨R',u,rfl,hu,r2,f2,hkp⟩;obtain⟨r3,f3⟩:=rZ hr f1 r1 r2 f2 (fun b hl _ _=>hkp b (hr.iS hl));exact⟨_,ρ,u,rfl,aEO hu,r3,f3⟩
   | false=>
   rw [hh] at hK;simp only [aZC,if_false] at hK;refine .inl ⟨_,_,hK,fun R ρ w vs hr hvs=>?_⟩;obtain⟨R1,r1,f1,v1⟩:=gA e.ps hf hr hvs;refine((hT.fn g _ e he x y hy).xU (dP _ _) (.eE (gB _ _)) r1 v1).mono ?_;rintro ee w' ⟨R',u,rfl,hu,r2,f2,hkp⟩;cases hn:mX e.rs with
   | true=>
    simp only [if_true];obtain⟨r3,f3⟩:=rZ hr f1 r1 r2 f2 (fun b hl _ _=>hkp b (hr.iS hl));exact⟨_,ρ,u,rfl,IM hn hu,r3,f3⟩
   | false=>
    simp only [aZC,if_false];exact⟨R',ρ,u,rfl,hu,r2,f1.trans f2⟩
  ·cases hc
 ·split at hc
  ·rename_i e he
   split at hc
   ·rename_i x h1 hf;obtain⟨y,hy,hK⟩:=aXE.1 hc
    split at hK
    ·rename_i hnr;refine .inl ⟨_,_,hK,fun R ρ w vs hr hvs=>?_⟩;obtain⟨R1,r1,f1,v1⟩:=gA e.ps hf hr hvs;exact(hT.own g _ e he x y hy).aYl (dP _ _) hnr hr f1 r1 v1
    refine .inl ⟨_,_,hK,fun R ρ w vs hr hvs=>?_⟩;obtain⟨R1,r1,f1,v1⟩:=gA e.ps hf hr hvs;refine((hT.own g _ e he x y hy).own (dP _ _) R1 ρ w vs r1 v1).mono ?_;rintro ee w' ⟨R',ρ',u,rfl,hu,r2,f2⟩;exact⟨R',ρ',u,rfl,hu,r2,f1.trans f2⟩
   ·cases hc
  ·split at hc
   ·rename_i e he
    split at hc
    ·rename_i τ i rest _ _
     split at hc
     ·rename_i x h1 hf
      split at hc
      ·rename_i bt ty l hi
       split at hc
       ·rename_i hty
        split at hc
        ·rename_i hbt;obtain⟨y,hy,hK⟩:=aXE.1 hc;obtain⟨hbt,hτ⟩:=hbt;subst hτ;subst hbt;refine .inl ⟨_,_,hK,fun R ρ w vs hr hvs=>?_⟩;obtain⟨u0,us0,hu0,g1,g2⟩:=hvs.cons_inv;obtain⟨R1,r1,f1,v1⟩:=gA e.ps hf hr g2;have hi':h1[i]?=some (some (cQ.row e.bt e.t (hty▸l))):=by rw [hi];cases hty;rfl
         refine((hT.mov g _ e he _ x y hy).a1U (dP _ _) hi' R1 ρ w vs r1 (by rw [hu0];exact .cons (g1.EM f1 hr) v1)).mono ?_;rintro ee w' ⟨R',ρ',u,rfl,hu,r2,f2⟩;exact⟨R',ρ',u,rfl,hu,r2,f1.trans f2⟩
        ·cases hc
       ·cases hc
      ·cases hc
     ·cases hc
    ·cases hc
   ·split at hc
    ·rename_i r hr;exact .inl (hT.gen g _ r hr β h args K z hc)
    ·split at hc
     ·rename_i r hr;exact hT.fN g _ r hr β h args K Kp z hc
     ·cases hc
end
section
variable {C:dI}{T:Tb}{h:AH}{ev:Operand→Option AV}{β:Type}
theorem fI.iK {op:Op}{v:AV}{h':AH}(hs:∀ R ρ w (a:Act) (o:Oper),o.op=op→Rel R ρ h w→pF w R ρ ev a→∃ R' ρ' u w',(execOp a.eval o).run C.P w=.ok (.value u) w'∧aI w' R' ρ' v u∧Rel R' ρ' h' w'∧fB R ρ h w R' ρ' h' w') :
  fI C.P op ev h v h':=by
 intro R ρ w a o hop hr cL K Q hK;obtain⟨R',ρ',u,w',h1,h2,h3,h4⟩:=hs R ρ w a o hop hr cL;unfold Oper.wp;rw [h1];exact hK _ _ _ _ h2 h3 h4
def aAZ (x:Option AV)(h:AH)(K:AV→AH→Option β):Option β:=match x with
 | some v=>K v h
 | none=>none
theorem g9 {x:Option AV}{K:AV→AH→Option β}{z:β}(hx:aAZ x h K=some z):∃ v,x=some v∧K v h=some z:=by
 unfold aAZ at hx
 split at hx
 ·rename_i v;exact⟨v,rfl,hx⟩
 ·cases hx
def aLh (x:Option AH)(K:AV→AH→Option β):Option β:=match x with
 | some h'=>K .undef h'
 | none=>none
theorem aEP {x:Option AH}{K:AV→AH→Option β}{z:β}(hx:aLh x K=some z):∃ h',x=some h'∧K .undef h'=some z:=by
 unfold aLh at hx
 split at hx
 ·rename_i v;exact⟨v,rfl,hx⟩
 ·cases hx
def E3 (C:dI)(h:AH)(ev:Operand→Option AV)(op:Op)(K:AV→AH→Option β):Option β:=match opA C h ev op with
 | some (.val v h')=>K v h'
 | some (.skip h')=>K .undef h'
 | _=>none
theorem xV (hC:C.Ok){op:Op}{K:AV→AH→Option β}{z:β}(hx:E3 C h ev op K=some z):∃ v h',fI C.P op ev h v h'∧K v h'=some z:=by
 unfold E3 at hx
 split at hx
 ·rename_i v h' ho;exact⟨v,h',.aIn hC ho,hx⟩
 ·rename_i h' ho;exact⟨.undef,h',.aYh hC ho,hx⟩
 ·cases hx
def qD (x:Option AV)(K:AV→Option β):Option β:=match x with
 | some v=>K v
 | none=>none
theorem eB {x:Option AV}{K:AV→Option β}{z:β}(hx:qD x K=some z):∃ v,x=some v∧K v=some z:=by
 unfold qD at hx
 split at hx
 ·rename_i v;exact⟨v,rfl,hx⟩
 ·cases hx
def aRu (c:AV)(x y:Option AV)(h:AH)(K:AV→AH→Option β):Option β:=match c with
 | .bool b=>bif b then aAZ x h K else aAZ y h K
 | _=>none
def aIv (C:dI)(h:AH)(t:TypeId)(sz i off len:Nat)(K:AV→AH→Option β):Option β:=match h[i]?,C.P.underlying t with
 | some (some (.row bt (.int k) s)),some (.slice e)=>match wY C e with
  | some (.int k' n)=>bif Nat.beq sz 1&&(Nat.beq (off+len) s.length&&(Nat.blt 0 s.length&&(decide (k'=k)&&decide (n=0)))) then K .undef (h.set i (some (.row bt (.int k) (s.take off++List.replicate len (0:Int))))) else none
  | _=>none
 | _,_=>none
theorem E4 (k:IntKind):∀ (s:List Int),(Ty.int k).flat s=s.map (AV.int k)
 | []=>rfl
 | n :: s=>by
  rw [Ty.gL,aXW,← E4 k s];rfl
theorem aOz {t:TypeId}{sz i off len:Nat}{K:AV→AH→Option β}{z:β}(hx:aIv C h t sz i off len K=some z) :
  ∃ h',K .undef h'=some z∧∀ (R:Nat→Prop) (ρ:Nm) (w:World) (H6:TypeId) (ts:Array TypeId) (us:Array Value) (u:Value),Rel R ρ h w→aI w R ρ (.own sz i off len) u→ts[0]?=some t→us[0]?=some u→Post C R ρ h w (Builtin.clear_ ts H6 us) .undef h':=by
 unfold aIv at hx
 split at hx
 ·rename_i bt k s e hi ht
  split at hx
  ·rename_i k' n hz;cases hc:(Nat.beq sz 1&&(Nat.beq (off+len) s.length&&(Nat.blt 0 s.length&&(decide (k'=k)&&decide (n=0))))) with
   | false=>rw [hc] at hx;cases hx
   | true=>
    rw [hc] at hx;simp only [aKS,decide_eq_true_eq] at hc;obtain⟨c1,c2,c3,rfl,rfl⟩:=hc;have c1:=aXS c1;have c2:=aXS c2;have c3:0<s.length:=Nat.blt_eq▸c3;subst c1;refine⟨_,hx,fun R ρ w H6 ts us u hr hv hts fE=>?_⟩;cases hv with
    | @own _ _ _ _ b N cap hn hle hcN=>
    obtain⟨q1,q2,q3⟩:=lT hr hi hn;have hg:N.gh=false:=by
     cases hg:N.gh with
     | false=>rfl
     | true=>
      have:=q3 hg;rw [this] at c3;simp at c3
    obtain⟨hB,BR⟩:=q2 hg;have hC2:=iG hB hg;obtain⟨zv,hz1,hz2⟩:=mW hz;have hzv:zv=.int k' 0:=by
     have:=hz2 w R ρ;cases this;rfl
    subst hzv;have hfl:((Ty.int k').flat s).length=s.length:=by rw [E4,aRD]
    have hnew:((Ty.int k').flat s).take off++List.replicate len (AV.int k' 0)++((Ty.int k').flat s).drop (off+(List.replicate len (AV.int k' 0)).length)=(Ty.int k').flat (s.take off++List.replicate len (0:Int)):=by
     rw [List.length_replicate,c2,List.drop_of_length_le (by rw [hfl];exact aKQ _),a1d,E4,E4,List.map_append,List.map_take,List.map_replicate]
    have hlen:N.len=(s.take off++List.replicate len (0:Int)).length:=by
     rw [q1,aPk,aP6,List.length_replicate];omega
    cases len with
    | zero=>
     have hs:s.take off++List.replicate 0 (0:Int)=s:=by
      rw [List.replicate_zero,a1d,List.take_of_length_le (by omega)]
     have hs:(s.take off++List.replicate 0 (0:Int):List (Ty.int k').El)=s:=hs;obtain⟨r1,r2⟩:=jV (blk:=.row bt (.int k') (s.take off++List.replicate 0 (0:Int))) hr hi hn hg (by rw [hs];exact hB);exact⟨R,ρ,.tuple #[],w,by simp [Builtin.clear_,hts,fE,run_underlying ht],.undef,r1,r2⟩
    | succ m=>
     have bE9:(Builtin.zeroCells (Value.int k' 0).cells (m+1)).toList=List.replicate (m+1) (Value.int k' 0):=by
      have hcz:(Value.int k' 0).cells=#[Value.int k' 0]:=rfl;rw [hcz];unfold Builtin.zeroCells;apply List.ext_getElem
      ·simp
      ·intro j h1 h2;simp [Nat.mod_one]
     have hvc:aK w R ρ (List.replicate (m+1) (AV.int k' 0)) (List.replicate (m+1) (Value.int k' 0)):=by
      refine⟨by simp,fun j c u hc hu=>?_⟩;have h1:=List.eq_of_mem_replicate (aPl hc);have h2:=List.eq_of_mem_replicate (aPl hu);rw [h1,h2];exact .int _ _
     have hb2:=O0 (o:=off) hC2 hvc (by rw [hfl,List.length_replicate];omega) BR;rw [hnew] at hb2;have hrow:=j8 hb2 hlen;obtain⟨arr,ha,hN,bFa,_⟩:=hC2;obtain⟨s1,s2,s3,s4⟩:=fF (b:=b) (List.replicate (m+1) (Value.int k' 0)) off w;obtain⟨r1,r2⟩:=y8 hr hi hn _ s2 s3 s4 s1 (fun k hk=>dO _ _ _ k hk) hrow hg (Nat.le_of_eq (eO _ _ _).symm);rw [hfl] at bFa;have hth:=qV ha off (m+1) (by omega);have hst:=run_storeCells_cells (P:=C.P) b off (List.replicate (m+1) (Value.int k' 0)) 0 w (fun j hj=>by simpa using (hth j (by simpa using hj)).1) (fun j hj=>by simpa using (hth j (by simpa using hj)).2) (fun v hv=>by rw [List.eq_of_mem_replicate hv];rfl);simp only [Nat.add_zero] at hst;refine⟨R,ρ,.tuple #[],_,?_,.undef,r1,r2⟩;simp only [Builtin.clear_,hts,fE,aPJ,run_underlying ht,aQ7,hz1,bE9,hst,aXP]
  ·cases hx
 ·cases hx
def aRv (C:dI)(h:AH)(t:TypeId)(k:IntKind)(i:Nat)(hi:Option AV)(K:AV→AH→Option β):Option β:=match h[i]? with
 | some (some (.row bt (.int k') s))=>if k'=k∧XB C t (.int k) then aAU none (some hi) s.length fun _ n=>bif Nat.blt 0 s.length then K (.bL (.int k') h.length) (h.set i none++[some (.row bt (.int k') (s.take n))]) else none else none
 | _=>none
theorem aRw {t:TypeId}{k:IntKind}{i:Nat}{hi:Option AV}{K:AV→AH→Option β}{z:β}(hx:aRv C h t k i hi K=some z) :
  ∃ v h',K v h'=some z∧∀ (R:Nat→Prop) (ρ:Nm) (w:World) (u:Value) (MY:Option Value),Rel R ρ h w→aI w R ρ (.bL (.int k) i) u→(∀ a,hi=some a→∃ v,MY=some v∧aI w R ρ a v) →
   Post C R ρ h w (Instr.sliceAt t u none MY none) v h':=by
 unfold aRv at hx
 split at hx
 ·rename_i bt k' s hi0
  split at hx
  ·rename_i hc0;obtain⟨rfl,hsz⟩:=hc0;obtain⟨l,n,hb,hln,hns,hK⟩:=vG hx;have hl0:=aLc hb;subst hl0;cases hc:Nat.blt 0 s.length with
   | false=>rw [hc] at hK;cases hK
   | true=>
    rw [hc] at hK;have hlt:0<s.length:=Nat.blt_eq▸hc;refine⟨_,_,hK,fun R ρ w u MY hr hv hhi=>?_⟩;unfold XB at hsz
    split at hsz
    ·rename_i e ht
     split at hsz
     ·rename_i ti wZ;have hz:ti.size=(Ty.int k').sz:=by simpa using hsz
      cases hv with
      | @bL _ _ b N cap hn hg hlc hcc=>
       obtain⟨q1,q2,_⟩:=lT hr hi0 hn;obtain⟨hB,BR⟩:=q2 hg;have hx2:aI w R ρ (.own (Ty.int k').sz i 0 s.length) (.slice (some ⟨b,0,none⟩) N.len cap):=by
        rw [q1];exact .own hn (by omega) (by omega)
       have hav:kR C t (.own (Ty.int k').sz i 0 s.length) none (some hi)=some (.own (Ty.int k').sz i (0+0*(Ty.int k').sz) (n-0)):=by
        simp only [kR,ht,wZ,hz,if_true,hb];rw [aJn (fun e=>e.2 rfl)]
       obtain⟨r,k1,k2⟩:=j7 (X4:=none) (MY:=MY) hav hx2 (fun a ha=>by cases ha) (fun a ha=>hhi a (by injection ha)) (fun _=>rfl) (fun e=>by cases e);rw [Nat.zero_mul,Nat.add_zero,Nat.sub_zero] at k2;cases k2 with
       | @own _ _ _ _ b2 N2 bI6 hn2 hle2 hc2=>
       rw [hn] at hn2;simp only [aJp,aKN] at hn2;obtain⟨rfl,rfl⟩:=hn2;have hcells:=(iG hB hg).O7 (n*(Ty.int k').sz);rw [Ty.II] at hcells;obtain⟨arr,c1,c2,c3,c4⟩:=hcells;have hB2:dY w R ρ b ⟨N.n,n,false⟩ (.row bt (Ty.int k') (s.take n)):=j8 ⟨arr,c1,c2,c3,c4⟩ (by show n=(s.take n).length;rw [aP6];omega);obtain⟨r1,f1⟩:=C4 (N':=⟨N.n,n,false⟩) hr hi0 hn hg rfl hB2;exact⟨R,_,_,w,k1,.bL (N:=⟨N.n,n,false⟩) (Nm.cD _ _ _) rfl hle2 (by simp only [];omega),r1,f1⟩
      | @iY _ _ b N hn hg=>
       obtain⟨_,_,q3⟩:=lT hr hi0 hn;have:=q3 hg;rw [this] at hlt;simp at hlt
     ·cases hsz
    ·cases hsz
  ·cases hx
 ·cases hx
def zG (C:dI)(T:Tb)(h:AH)(ev:Operand→Option AV)(c:Call)(K Kp:AV→AH→Option β):Option β:=
 match c.callee with
 | .builtin .append=>match c.argTypes.toList,ID ev c.args.toList with
  | [t,tx],some [x,y]=>aAW C T h t tx x y K
  | _,_=>none
 | .builtin .len=>match c.argTypes.toList,ID ev c.args.toList with
  | t :: _,some [x]=>aAZ (a3Z C h t x) h K
  | _,_=>none
 | .builtin .cap=>match c.argTypes.toList,ID ev c.args.toList with
  | t :: _,some [.eY]=>match C.P.underlying t with
   | some (.slice _)=>K (.int .i64 0) h
   | _=>none
  | _,_=>none
 | .builtin .clear=>match c.argTypes.toList,ID ev c.args.toList with
  | t :: _,some [.own sz i off len]=>aIv C h t sz i off len K
  | _,_=>E3 C h ev (.call c) K
 | .value f=>match ID ev c.args.toList,ev f with
  | some xs,some (.func g first eA)=>if C.aX3 g then aLg T h g (first++xs++eA) K Kp else(match T.ext g with
   | some r=>r.run (first++xs++eA) fun v=>K v h
   | none=>none)
  | _,_=>none
 | _=>E3 C h ev (.call c) K
theorem LS:∀ (l:List Int),CP ((Ty.int .u8).flat l)=some l
 | []=>rfl
 | n :: l=>by
  have h:(Ty.int .u8).flat (n :: l)=.int .u8 n :: (Ty.int .u8).flat l:=by simp [Ty.flat,Ty.enc,AV.cells]
  rw [h];simp only [CP,LS l]
def aRx (C:dI)(h:AH)(src dst:TypeId)(i:Nat)(K:AV→AH→Option β):Option β:=match h[i]? with
 | some (some (.row _ (.int .u8) l))=>match C.P.underlying src,C.P.underlying dst with
  | some (.slice e),some .string=>match C.P.underlying e with
   | some (.int .u8)=>K (.str (l.map fun n=>UInt8.ofNat n.toNat)) h
   | _=>none
  | _,_=>none
 | _=>none
theorem aRy {src dst:TypeId}{i:Nat}{K:AV→AH→Option β}{z:β}(hx:aRx C h src dst i K=some z) :
  ∃ v,K v h=some z∧∀ R ρ w u,Rel R ρ h w→aI w R ρ (.bL (.int .u8) i) u→∃ r,(convert src dst u).run C.P w=.ok r w∧aI w R ρ v r:=by
 unfold aRx at hx
 split at hx
 ·rename_i bt l hi
  split at hx
  ·rename_i e hs hd
   split at hx
   ·rename_i he;refine⟨_,hx,fun R ρ w u hr hv=>?_⟩;cases hv with
    | @bL _ _ b N cap hn hg hlc hc=>
     obtain⟨q1,q2,_⟩:=lT hr hi hn;obtain⟨hB,_⟩:=q2 hg;have hil:i<h.length:=(aK2.1 hi).1;obtain⟨r1,_⟩:=jV hr hi hn hg (iG hB hg);have hx2:aI w R ρ (.own 1 i 0 l.length) (.slice (some ⟨b,0,none⟩) N.len cap):=by
      rw [q1];exact .own hn (by omega) (by have:(Ty.int .u8).sz=1:=rfl;rw [this] at hc;omega)
     have hfl:((Ty.int .u8).flat l).length=l.length:=by rw [Ty.cH];show l.length*1=_;omega
     have hA:BX C (h.set i (some (.cells bt ((Ty.int .u8).flat l)))) src dst (.own 1 i 0 l.length)=some (.str (l.map fun n=>UInt8.ofNat n.toNat)):=by
      have h2:(h.set i (some (cQ.cells bt ((Ty.int .u8).flat l))))[i]?=some (some (.cells bt ((Ty.int .u8).flat l))):=by rw [List.getElem?_set_self hil]
      simp only [BX,hs,hd,he,h2];rw [aJb (by omega),List.drop_zero,List.take_of_length_le (by omega),LS];rfl
     exact ES r1 hA hx2
    | @iY _ _ b N hn hg=>
     obtain⟨_,_,q3⟩:=lT hr hi hn;have:=q3 hg;subst this;have hA:BX C h src dst .eY=some (.str []):=by simp only [BX,hs,hd,he]
     exact ES hr hA .eY
   ·cases hx
  ·cases hx
 ·cases hx
def aRz (C:dI)(h:AH)(t:TypeId)(x k:AV)(ok:Bool)(K:AV→AH→Option β):Option β:=match mapOf h x with
 | some es=>aAX C t es k ok fun v=>K v h
 | none=>aAZ (aAY C h t x k ok) h K
theorem aEQ {t:TypeId}{x k:AV}{ok:Bool}{K:AV→AH→Option β}{z:β}(hx:aRz C h t x k ok K=some z) :
  ∃ v,K v h=some z∧∀ (R:Nat→Prop) (ρ:Nm) (w:World) (u kv:Value),Rel R ρ h w→aI w R ρ x u→aI w R ρ k kv→∃ r,(Instr.lookup t u kv ok).run C.P w=.ok r w∧aI w R ρ v r:=by
 unfold aRz at hx
 split at hx
 ·rename_i es hm;obtain⟨v,h1,h2⟩:=aIt hm hx;exact⟨v,h2,fun R ρ w u kv hr hu hk=>lP hr h1 hu hk⟩
 ·obtain⟨v,h1,h2⟩:=g9 hx;exact⟨v,h2,fun R ρ w u kv hr hu hk=>aIu hr h1 hu hk⟩
def a34 (C:dI)(src dst:TypeId)(s:FloatKind)(b:Nat)(K:AV→Option β):Option β:=match C.P.underlying src,C.P.underlying dst with
 | some _,some (.int k)=>bif CQ s b k then K (.int k (aRd s b)) else none
 | some _,some (.float k)=>if s=k then K (.gU k b) else none
 | _,_=>none
theorem aYm {src dst:TypeId}{s:FloatKind}{b:Nat}{K:AV→Option β}{z:β}(hx:a34 C src dst s b K=some z):∃ v,BX C h src dst (.gU s b)=some v∧K v=some z:=by
 unfold a34 at hx
 split at hx
 ·rename_i d k hs hd;rcases cF hx with⟨h1,h2⟩ | ⟨h1,h2⟩
  ·exact⟨_,by simp only [BX,hs,hd,h1,cond_true],h2⟩
  ·cases h2
 ·rename_i d k hs hd
  split at hx
  ·rename_i hk;exact⟨_,by simp only [BX,hs,hd,aJb hk],hx⟩
  ·cases hx
 ·cases hx
def aER (C:dI)(T:Tb)(h:AH)(ev:Operand→Option AV)(op:Op)(K Kp:AV→AH→Option β):Option β:=
 match op with
 | .move x | .assign x=>aAZ (ev x) h K
 | .pick c x y=>qD (ev c) fun c=>aRu c (ev x) (ev y) h K
 | .load t a=>qD (ev a) fun x=>aAZ (loadT C h t x) h K
 | .nilCheck x=>match ev x with
  | some (.qP t i j o)=>K (.qP t i j o) h
  | _=>E3 C h ev (.nilCheck x) K
 | .binOp op t x y ty=>qD (ev x) fun x=>qD (ev y) fun y=>a3Y C op t x y fun v=>K v h
 | .slice t x lo hi none=>qD (ev x) fun x=>(match x,lo,hi with
  | .bL (.int k) i,none,some y=>aRv C h t k i (ev y) K
  | x,lo,hi=>aIo C h t x (lo.map ev) (hi.map ev) fun v=>K v h)
 | .fieldAddr s x f=>qD (ev x) fun x=>aAZ (C7 C s x f) h K
 | .indexAddr t x ix=>qD (ev x) fun x=>qD (ev ix) fun ix=>C6 C h t x ix K
 | .index t x ix=>qD (ev x) fun x=>qD (ev ix) fun ix=>aIp C t x ix fun v=>K v h
 | .lookup t x k ok=>qD (ev x) fun x=>qD (ev k) fun k=>aRz C h t x k ok K
 | .store t a x=>qD (ev a) fun a=>qD (ev x) fun x=>aLh (storeT C h t a x) K
 | .mapUpdate t m k x=>qD (ev m) fun m=>qD (ev k) fun k=>qD (ev x) fun x=>aLh (C9 C h t m k x) K
 | .makeMap t none=>K (.map h.length) (h++[some (PG T h t)])
 | .call c=>zG C T h ev c K Kp
 | .panic x=>match ev x with
  | some (.iface t v)=>Kp (.iface t v) h
  | _=>none
 | .convert src dst x=>match ev x with
  | some (.bL (.int .u8) i)=>aRx C h src dst i K
  | some (.gU s b)=>a34 C src dst s b fun v=>K v h
  | _=>E3 C h ev (.convert src dst x) K
 | op=>E3 C h ev op K
theorem j9 {s:Sem Value}{P:Program}{w w':World}{u:Value}(h:s.run P w=.ok u w'):(do pure (.value (← s)):Sem Next).run P w=.ok (.value u) w':=by
 rw [aPJ,h];rfl
theorem aIw (hC:C.Ok)(hT:T.Ok C.P){c:Call}{K Kp:AV→AH→Option β}{z:β}(hx:zG C T h ev c K Kp=some z):(∃ v h',fI C.P (.call c) ev h v h'∧K v h'=some z)∨∃ v h',E0 C.P (.call c) ev h v h'∧Kp v h'=some z:=by
 unfold zG at hx
 split at hx
 ·rename_i BT
  split at hx
  ·rename_i t tx x y hts hxs;obtain⟨v,h',hK,hs⟩:=aIs hx;refine .inl ⟨v,h',.iK fun R ρ w a o hop hr cL=>?_,hK⟩;obtain⟨dst,op,type,pos,after,guard⟩:=o;subst hop;have hvs:=mN (f:=a.eval) cL hxs;obtain⟨u,nG,W9,g1,g2⟩:=hvs.cons_inv;obtain⟨u2,bEW,rfl,g3,g4⟩:=g2.cons_inv;obtain rfl:=g4.bE;have e1:c.argTypes=#[t,tx]:=aRl.1 hts;have e2:c.args.map a.eval=#[u,u2]:=aRl.1 (by simpa using W9);obtain⟨R',ρ',r,w',k1,k2,k3,k4⟩:=hs R ρ w type u u2 hr g1 g3;refine⟨R',ρ',r,w',?_,k2,k3,k4⟩;have:(execOp a.eval { dst:=dst,op:=.call c,type:=type,pos:=pos,after:=after,guard:=guard })=(do pure (.value (← Builtin.append_ c.argTypes type (c.args.map a.eval))):Sem Next):=by
    simp [execOp,resolve,BT,invoke];rfl
   rw [this,e1,e2];exact j9 k1
  ·cases hx
 ·rename_i BT
  split at hx
  ·rename_i t rest x hts hxs;obtain⟨v,hl,hK⟩:=g9 hx;refine .inl ⟨v,h,.iK fun R ρ w a o hop hr cL=>?_,hK⟩;obtain⟨dst,op,type,pos,after,guard⟩:=o;subst hop;have hvs:=mN (f:=a.eval) cL hxs;obtain⟨u,nG,W9,g1,g2⟩:=hvs.cons_inv;obtain rfl:=g2.bE;have e1:c.argTypes[0]?=some t:=by rw [← aQ3,hts];rfl
   have e2:(c.args.map a.eval)[0]?=some u:=by
    have:(c.args.map a.eval)=#[u]:=aRl.1 (by simpa using W9);rw [this];rfl
   obtain⟨r,k1,k2⟩:=aLe (C:=C) (ty:=type) hr hl g1 e1 (c.args.map a.eval) e2;refine⟨R,ρ,r,w,?_,k2,hr,fB.refl _ _ _ _⟩;have:(execOp a.eval { dst:=dst,op:=.call c,type:=type,pos:=pos,after:=after,guard:=guard })=(do pure (.value (← Builtin.len_ c.argTypes type (c.args.map a.eval))):Sem Next):=by
    simp [execOp,resolve,BT,invoke];rfl
   rw [this];exact j9 k1
  ·cases hx
 ·rename_i BT
  split at hx
  ·rename_i t rest hts hxs
   split at hx
   ·rename_i e ht;refine .inl ⟨_,h,.iK fun R ρ w a o hop hr cL=>?_,hx⟩;obtain⟨dst,op,type,pos,after,guard⟩:=o;subst hop;have hvs:=mN (f:=a.eval) cL hxs;obtain⟨u,nG,W9,g1,g2⟩:=hvs.cons_inv;obtain rfl:=g2.bE;cases g1;have e1:c.argTypes[0]?=some t:=by rw [← aQ3,hts];rfl
    have e2:(c.args.map a.eval)[0]?=some (.slice none 0 0):=by
     have:(c.args.map a.eval)=#[.slice none 0 0]:=aRl.1 (by simpa using W9);rw [this];rfl
    refine⟨R,ρ,.int .i64 0,w,?_,.int _ _,hr,fB.refl _ _ _ _⟩;have:(execOp a.eval { dst:=dst,op:=.call c,type:=type,pos:=pos,after:=after,guard:=guard })=(do pure (.value (← Builtin.cap_ c.argTypes type (c.args.map a.eval))):Sem Next):=by
     simp [execOp,resolve,BT,invoke];rfl
    rw [this];exact j9 (by simp [Builtin.cap_,e1,e2,run_underlying ht,goInt])
   ·cases hx
  ·cases hx
 ·rename_i BT
  split at hx
  ·rename_i t rest sz i off len hts hxs;obtain⟨h',hK,hs⟩:=aOz hx;refine .inl ⟨_,h',.iK fun R ρ w a o hop hr cL=>?_,hK⟩;obtain⟨dst,op,type,pos,after,guard⟩:=o;subst hop;have hvs:=mN (f:=a.eval) cL hxs;obtain⟨u,nG,W9,g1,g2⟩:=hvs.cons_inv;obtain rfl:=g2.bE;have e1:c.argTypes[0]?=some t:=by rw [← aQ3,hts];rfl
   have e2:(c.args.map a.eval)[0]?=some u:=by
    have:(c.args.map a.eval)=#[u]:=aRl.1 (by simpa using W9);rw [this];rfl
   obtain⟨R',ρ',r,w',k1,k2,k3,k4⟩:=hs R ρ w type _ _ u hr g1 e1 e2;refine⟨R',ρ',r,w',?_,k2,k3,k4⟩;have:(execOp a.eval { dst:=dst,op:=.call c,type:=type,pos:=pos,after:=after,guard:=guard })=(do pure (.value (← Builtin.clear_ c.argTypes type (c.args.map a.eval))):Sem Next):=by
    simp [execOp,resolve,BT,invoke];rfl
   rw [this];exact j9 k1
  ·exact .inl (xV hC hx)
 ·rename_i f BT
  split at hx
  ·rename_i xs g first eA hxs hg
   split at hx
   ·rename_i hfn;have hA:∀ o:Oper,o.op=.call c→opA C h ev o.op=some (.call g (first++xs++eA)):=fun o hop=>by
     rw [hop];simp only [opA,o8,hxs,BT,hg,hfn,if_true]
    rcases aRt hT hx with⟨v,h',hK,hs⟩ | ⟨v,h',hK,hs⟩
    ·refine .inl ⟨v,h',fun R ρ w a o hop hr cL K Q hKK=>?_,hK⟩;obtain⟨us,hrun,hvs⟩:=IE hC hr cL (hA o hop);unfold Oper.wp;rw [hrun];simp only [Oper.upon];refine(hs R ρ w us hr hvs).mono ?_;rintro e w' ⟨R',ρ',u,rfl,k1,k2,k3⟩;exact hKK _ _ _ _ k1 k2 k3
    ·refine .inr ⟨v,h',fun R ρ w a o hop hr cL K Q hKK=>?_,hK⟩;obtain⟨us,hrun,hvs⟩:=IE hC hr cL (hA o hop);unfold Oper.wp;rw [hrun];simp only [Oper.upon];refine(hs R ρ w us hr hvs).mono ?_;rintro e w' ⟨R',ρ',u,rfl,k1,k2,k3⟩;exact hKK _ _ _ _ k1 k2 k3
   ·split at hx
    ·rename_i r0 hr0;obtain⟨v,hK,hv⟩:=hT.ext g r0 hr0 _ _ _ _ hx;refine .inl ⟨v,h,.iK fun R ρ w a o hop hr cL=>?_,hK⟩;obtain⟨dst,op,type,pos,after,guard⟩:=o;subst hop;have hvs:=mN (f:=a.eval) cL hxs;have h1:=cL _ _ hg;generalize hfv:a.eval f=fv at h1;cases h1 with
     | func vf vc h2 h3 h4 h5=>
     have hall:aK w R ρ (first++xs++eA) (vf++c.args.map a.eval++vc).toList:=by
      simp only [Array.toList_append,Array.toList_map];refine(aK.append ⟨by simpa using h2,fun k c u hc hu=>h4 k c u hc (by simpa using hu)⟩ hvs).append ⟨by simpa using h3,fun k c u hc hu=>h5 k c u hc (by simpa using hu)⟩
     obtain⟨u,hu,hvu⟩:=hv w R ρ _ hall;refine⟨R,ρ,u,w,?_,hvu,hr,fB.refl _ _ _ _⟩;rw [← hu];simp [execOp,resolve,BT,hfv,Deferred.ofValue,invoke]
    ·cases hx
  ·cases hx
 ·exact .inl (xV hC hx)
theorem aA1 (hC:C.Ok)(hT:T.Ok C.P){op:Op}{K Kp:AV→AH→Option β}{z:β}(hx:aER C T h ev op K Kp=some z):(∃ v h',fI C.P op ev h v h'∧K v h'=some z)∨∃ v h',E0 C.P op ev h v h'∧Kp v h'=some z:=by
 unfold aER at hx
 split at hx
 ·rename_i x;obtain⟨v,hv,hK⟩:=g9 hx;exact .inl ⟨v,h,.iK fun R ρ w a o hop hr cL=>by
   obtain⟨dst,op,type,pos,after,guard⟩:=o;subst hop;exact⟨R,ρ,_,w,rfl,cL _ _ hv,hr,fB.refl _ _ _ _⟩,hK⟩
 ·rename_i x;obtain⟨v,hv,hK⟩:=g9 hx;exact .inl ⟨v,h,.iK fun R ρ w a o hop hr cL=>by
   obtain⟨dst,op,type,pos,after,guard⟩:=o;subst hop;exact⟨R,ρ,_,w,rfl,cL _ _ hv,hr,fB.refl _ _ _ _⟩,hK⟩
 ·rename_i c x y;obtain⟨cv,hc,hx⟩:=eB hx;unfold aRu at hx
  split at hx
  ·rename_i b;have key:∀ (p:Operand) (v:AV),(p=if b then x else y)→ev p=some v→fI C.P (.pick c x y) ev h v h:=by
    intro p v hp hv;refine .iK fun R ρ w a o hop hr cL=>?_;obtain⟨dst,op,type,pos,after,guard⟩:=o;subst hop;have h1:=cL _ _ hc;refine⟨R,ρ,a.eval p,w,?_,cL _ _ hv,hr,fB.refl _ _ _ _⟩;simp only [execOp];generalize hcv:a.eval c=cv' at h1;cases h1;subst hp;cases b <;> simp [asBool]
   rcases cF hx with⟨hb,hx⟩ | ⟨hb,hx⟩
   ·obtain⟨v,hv,hK⟩:=g9 hx;exact .inl ⟨v,h,key x v (by rw [hb];rfl) hv,hK⟩
   ·obtain⟨v,hv,hK⟩:=g9 hx;exact .inl ⟨v,h,key y v (by rw [hb];rfl) hv,hK⟩
  ·cases hx
 ·rename_i t x;obtain⟨xv,xG,hx⟩:=eB hx;obtain⟨v,hl,hK⟩:=g9 hx;exact .inl ⟨v,h,.iO (fun f=>Instr.loadAt t (f x)) (fun a o hop=>by obtain⟨_,_,_,_,_,_⟩:=o;subst hop;rfl) fun R ρ w a hr cL=>aEH hr (cL _ _ xG) hl,hK⟩
 ·rename_i x
  split at hx
  ·rename_i t i j o hv;refine .inl ⟨_,h,.iK fun R ρ w a o hop hr cL=>?_,hx⟩;obtain⟨dst,op,type,pos,after,guard⟩:=o;subst hop;have h1:=cL _ _ hv;simp only [execOp];generalize a.eval x=u at h1;cases h1 with
   | qP hn hj=>exact⟨R,ρ,_,w,rfl,.qP hn hj,hr,fB.refl _ _ _ _⟩
  ·exact .inl (xV hC hx)
 ·rename_i op t x y ty;obtain⟨xv,xG,hx⟩:=eB hx;obtain⟨yv,hyv,hx⟩:=eB hx;obtain⟨v,hb,hK⟩:=aLd hx;refine .inl ⟨v,h,.aIn hC ?_,hK⟩;simp only [opA,o8,xG,hyv,hb]
 ·rename_i t x lo hi;obtain⟨xv,xG,hx⟩:=eB hx
  split at hx
  ·rename_i k i y _h0;obtain⟨v,h',hK,hs⟩:=aRw hx;refine .inl ⟨v,h',.iK fun R ρ w a o hop hr cL=>?_,hK⟩;obtain⟨dst,op,type,pos,after,guard⟩:=o;subst hop;obtain⟨R',ρ',r,w',k1,k2,k3,k4⟩:=hs R ρ w _ (some (a.eval y)) hr (cL _ _ xG) (fun b hb=>⟨_,rfl,cL _ _ hb⟩);refine⟨R',ρ',r,w',?_,k2,k3,k4⟩;have:(execOp a.eval { dst:=dst,op:=.slice t x none (some y) none,type:=type,pos:=pos,after:=after,guard:=guard })=(do pure (.value (← Instr.sliceAt t (a.eval x) none (some (a.eval y)) none)):Sem Next):=rfl;rw [this];exact j9 k1
  obtain⟨v,hK,hs⟩:=YB hx;refine .inl ⟨v,h,.iO (fun f=>Instr.sliceAt t (f x) (lo.map f) (hi.map f) none) (fun a o hop=>by obtain⟨_,_,_,_,_,_⟩:=o;subst hop;rfl) fun R ρ w a hr cL=>?_,hK⟩;refine hs w R ρ _ _ _ hr (cL _ _ xG) ?_ ?_ ?_ ?_
  ·intro b hb;obtain⟨x,rfl,LU⟩:=aPV.1 hb;exact⟨_,rfl,cL _ _ LU⟩
  ·intro b hb;obtain⟨x,rfl,LU⟩:=aPV.1 hb;exact⟨_,rfl,cL _ _ LU⟩
  ·intro hb;rw [Option.map_eq_none_iff] at hb;rw [hb];rfl
  ·intro hb;rw [Option.map_eq_none_iff] at hb;rw [hb];rfl
 ·rename_i s x f;obtain⟨xv,xG,hx⟩:=eB hx;obtain⟨v,hl,hK⟩:=g9 hx;exact .inl ⟨v,h,.iO (fun g=>Instr.fieldAt s (g x) f) (fun a o hop=>by obtain⟨_,_,_,_,_,_⟩:=o;subst hop;rfl) fun R ρ w a hr cL=>B5 hl (cL _ _ xG),hK⟩
 ·rename_i t x ix;obtain⟨xv,xG,hx⟩:=eB hx;obtain⟨iv,hiv,hx⟩:=eB hx;obtain⟨v,hK,hs⟩:=B4 hx;exact .inl ⟨v,h,.iO (fun g=>Instr.indexAt t (g x) (g ix)) (fun a o hop=>by obtain⟨_,_,_,_,_,_⟩:=o;subst hop;rfl) fun R ρ w a hr cL=>hs R ρ w _ _ hr (cL _ _ xG) (cL _ _ hiv),hK⟩
 ·rename_i t x ix;obtain⟨xv,xG,hx⟩:=eB hx;obtain⟨iv,hiv,hx⟩:=eB hx;obtain⟨v,hb,hK⟩:=YC hx;refine .inl ⟨v,h,.aIn hC ?_,hK⟩;simp only [opA,o8,xG,hiv,hb]
 ·rename_i t x k ok;obtain⟨xv,xG,hx⟩:=eB hx;obtain⟨kv,hkv,hx⟩:=eB hx;obtain⟨v,hK,hl⟩:=aEQ hx;exact .inl ⟨v,h,.iO (fun g=>Instr.lookup t (g x) (g k) ok) (fun a o hop=>by obtain⟨_,_,_,_,_,_⟩:=o;subst hop;rfl) fun R ρ w a hr cL=>hl R ρ w _ _ hr (cL _ _ xG) (cL _ _ hkv),hK⟩
 ·rename_i t p x;obtain⟨av,hav,hx⟩:=eB hx;obtain⟨xv,xG,hx⟩:=eB hx;obtain⟨h',hl,hK⟩:=aEP hx;exact .inl ⟨_,h',.aLa (fun g=>Instr.storeAt t (g p) (g x)) (fun a o hop=>by obtain⟨_,_,_,_,_,_⟩:=o;subst hop;rfl) fun R ρ w a hr cL=>aOv hr hl (cL _ _ hav) (cL _ _ xG),hK⟩
 ·rename_i t m k x;obtain⟨mv,hmv,hx⟩:=eB hx;obtain⟨kv,hkv,hx⟩:=eB hx;obtain⟨xv,xG,hx⟩:=eB hx;obtain⟨h',hl,hK⟩:=aEP hx;exact .inl ⟨_,h',.aLa (fun g=>Instr.mapUpdate t (g m) (g k) (g x)) (fun a o hop=>by obtain⟨_,_,_,_,_,_⟩:=o;subst hop;rfl) fun R ρ w a hr cL=>XC hr hl (cL _ _ hmv) (cL _ _ hkv) (cL _ _ xG),hK⟩
 ·rename_i t;exact .inl ⟨_,_,.aRp (fun g=>Instr.makeMap t none) (fun a o hop=>by obtain⟨_,_,_,_,_,_⟩:=o;subst hop;rfl) fun R ρ w a hr cL=>aEM hr t,hx⟩
 ·rename_i c;exact aIw hC hT hx
 ·rename_i x
  split at hx
  ·rename_i t v hv;refine .inr ⟨_,h,fun R ρ w a o hop hr cL K Q hKK=>?_,hx⟩;have hA:opA C h ev o.op=some (.fN (.iface t v)):=by
    rw [hop];simp only [opA,o8,hv]
   obtain⟨u,hrun,hu⟩:=IE hC hr cL hA;unfold Oper.wp;rw [hrun];exact hKK _ _ _ _ hu hr (fB.refl _ _ _ _)
  ·cases hx
 ·rename_i src dst x
  split at hx
  ·rename_i i xG;obtain⟨v,hK,hs⟩:=aRy hx;exact .inl ⟨v,h,.iO (fun g=>convert src dst (g x)) (fun a o hop=>by obtain⟨_,_,_,_,_,_⟩:=o;subst hop;rfl) fun R ρ w a hr cL=>hs R ρ w _ hr (cL _ _ xG),hK⟩
  ·rename_i s b xG;obtain⟨v,hA,hK⟩:=aYm (h:=h) hx;exact .inl ⟨v,h,.iO (fun g=>convert src dst (g x)) (fun a o hop=>by obtain⟨_,_,_,_,_,_⟩:=o;subst hop;rfl) fun R ρ w a hr cL=>ES hr hA (cL _ _ xG),hK⟩
  ·exact .inl (xV hC hx)
 ·exact .inl (xV hC hx)
end
structure eF (p:Nat)(R:Nat→Prop)(ρ:Nm)(h:AH)(w:World)(R':Nat→Prop)(ρ':Nm)(h':AH)(w':World):Prop where
 os:w'.os=w.os
 tape:w'.tape=w.tape
 output:w'.output=w.output
 size:w.heap.size≤w'.heap.size
 mV:∀ b,R b→R' b
 keeps:∀ b,b<w.heap.size→¬Lv ρ h b→w'.heap[b]?=w.heap[b]?
 cW:∀ b,Lv ρ' h' b→Lv ρ h b∨w.heap.size≤b
 cZ:∀ b,R' b→R b∨Lv ρ h b∨w.heap.size≤b
 kQ:w.drawn≤w'.drawn
 pins:∀ i bn,i<p→ρ i=some bn→ρ' i=some bn
theorem fB.weak {p:Nat}{R R':Nat→Prop}{ρ ρ':Nm}{h h':AH}{w w':World}(f:fB R ρ h w R' ρ' h' w'):eF p R ρ h w R' ρ' h' w':=⟨f.os,f.tape,f.output,f.size,f.mV,f.keeps,f.cW,f.cZ,f.kQ,fun i bn _ h=>f.names i bn h⟩
theorem eF.refl {p:Nat}(R:Nat→Prop)(ρ:Nm)(h:AH)(w:World):eF p R ρ h w R ρ h w:=(fB.refl R ρ h w).weak
theorem eF.trans {p:Nat}{R R1 R2:Nat→Prop}{ρ eN y7:Nm}{h h1 h2:AH}{w w1 w2:World}(a:eF p R ρ h w R1 eN h1 w1)(b:eF p R1 eN h1 w1 R2 y7 h2 w2):eF p R ρ h w R2 y7 h2 w2 where
 os:=b.os.trans a.os
 tape:=b.tape.trans a.tape
 output:=b.output.trans a.output
 size:=aPB a.size b.size
 mV:=fun x hx=>b.mV x (a.mV x hx)
 keeps:=fun x hx hl=>by
  rw [b.keeps x (a1r hx a.size) (fun hl1=>?_),a.keeps x hx hl];rcases a.cW x hl1 with h | h
  ·exact hl h
  ·omega
 cW:=fun x hx=>by
  rcases b.cW x hx with h | h
  ·exact a.cW x h
  ·exact .inr (aPB a.size h)
 cZ:=fun x hx=>by
  rcases b.cZ x hx with h | h | h
  ·exact a.cZ x h
  ·rcases a.cW x h with h | h
   ·exact .inr (.inl h)
   ·exact .inr (.inr h)
  ·exact .inr (.inr (aPB a.size h))
 kQ:=aPB a.kQ b.kQ
 pins:=fun i bn hi h=>b.pins i bn hi (a.pins i bn hi h)
def XD (p:Nat)(R:Nat→Prop)(ρ:Nm)(h:AH)(w:World)(x:AX)(s':AS):Exit→Act→World→Prop:=fun e a' w'=>
 a'.defers=[]∧∃ R' ρ',Rel R' ρ' s'.h w'∧b9 w' R' ρ' s'.r a'∧eF p R ρ h w R' ρ' s'.h w'∧a9M w' R' ρ' x e
def CA (C:dI)(c:Code)(s:AS)(x:AX)(s':AS):Prop:=
 ∀ (R:Nat→Prop) (ρ:Nm) (a:Act) (w:World),Rel R ρ s.h w→b9 w R ρ s.r a→a.defers=[]→c.wp C.P (XD C.dB R ρ s.h w x s') a w
theorem XD.pre {p:Nat}{R R1:Nat→Prop}{ρ eN:Nm}{h h1:AH}{w w1:World}{x:AX}{s':AS}(f:eF p R ρ h w R1 eN h1 w1){e:Exit}{a':Act}{w':World}(hf:XD p R1 eN h1 w1 x s' e a' w'):XD p R ρ h w x s' e a' w':=by
 obtain⟨h1,R',ρ',h2,h3,h4,h5⟩:=hf;exact⟨h1,R',ρ',h2,h3,f.trans h4,h5⟩
theorem CA.post {C:dI}{c:Code}{s s1:AS}{x:AX}{s':AS}(hc:CA C c s x s1)(hx:∀ v,x≠.fN v)(hp:∀ R ρ (a:Act) w,Rel R ρ s1.h w→b9 w R ρ s1.r a→∃ R1 eN,Rel R1 eN s'.h w∧b9 w R1 eN s'.r a∧eF C.dB R ρ s1.h w R1 eN s'.h w):CA C c s x s':=by
 intro R ρ a w hr ha hd;refine wp_mono (hc R ρ a w hr ha hd) fun e a' w' hf=>?_;obtain⟨h1,R',ρ',h2,h3,h4,h5⟩:=hf;obtain⟨R1,eN,r1,a1,f1⟩:=hp R' ρ' a' w' h2 h3;refine⟨h1,R1,eN,r1,a1,h4.trans f1,?_⟩;cases x with
 | fN v=>exact absurd rfl (hx v)
 | _=>exact h5
section
variable {C:dI}{T:Tb}{β:Type}
def a37 (r:List AV)(c:Operand)(b:Bool):List AV:=match c with
 | .tmp t=>r.set t (.bool b)
 | _=>r
theorem kT {r:List AV}{t:Nat}{v:AV}(h:r[t]?=some v):r.set t v=r:=by
 apply List.ext_getElem?;intro k;rw [aXL]
 split
 ·rename_i hk;subst hk;rw [h,aJb (aK2.1 h).1]
 ·rfl
theorem YD {r:List AV}{c:Operand}{b:Bool}(h:evO r c=some (.bool b)):a37 r c b=r:=by
 cases c with
 | tmp t=>
  simp only [evO,aJp] at h;cases ht:r[t]? with
  | none=>rw [ht] at h;cases h
  | some v=>
   rw [ht] at h;simp only [a0f] at h;subst h;exact kT ht
 | _=>rfl
def PL (all:Array Oper)(r:List AV)(o:Oper)(yes no:List AV→Option β):Option β:=
 match o.guard with
 | none=>yes r
 | some (j,want)=>match (all[j]?).bind (·.dst) with
  | some d=>match r[d]? with
   | some (.bool b)=>match want with
    | true=>bif b then yes (r.set d (.bool true)) else no (r.set d (.bool false))
    | false=>bif b then no (r.set d (.bool true)) else yes (r.set d (.bool false))
   | some .undef=>no r
   | none=>no r
   | _=>none
  | none=>no r
theorem IQ {all:Array Oper}{r:List AV}{o:Oper}{yes no:List AV→Option β}{z:β}(hg:PL all r o yes no=some z):(iZ all r o=some true∧yes r=some z)∨(iZ all r o=some false∧no r=some z):=by
 unfold PL at hg;unfold iZ
 split at hg
 ·rename_i h1;rw [h1];exact .inl ⟨rfl,hg⟩
 ·rename_i j want h1;rw [h1]
  split at hg
  ·rename_i d h2;simp only [h2]
   split at hg
   ·rename_i b h3;simp only [h3]
    split at hg
    ·rcases cF hg with⟨hb,h⟩ | ⟨hb,h⟩
     ·subst hb;rw [kT h3] at h;exact .inl ⟨rfl,h⟩
     ·subst hb;rw [kT h3] at h;exact .inr ⟨rfl,h⟩
    ·rcases cF hg with⟨hb,h⟩ | ⟨hb,h⟩
     ·subst hb;rw [kT h3] at h;exact .inr ⟨rfl,h⟩
     ·subst hb;rw [kT h3] at h;exact .inl ⟨rfl,h⟩
   ·rename_i h3;simp only [h3];exact .inr ⟨trivial,hg⟩
   ·rename_i h3;simp only [h3];exact .inr ⟨trivial,hg⟩
   ·cases hg
  ·rename_i h2;simp only [h2];exact .inr ⟨trivial,hg⟩
def aOA (C:dI)(T:Tb)(all:Array Oper):List Nat→AS→(AX→AS→Option β)→Option β
 | [],s,K=>K .normal s
 | i :: rest,s,K=>match all[i]? with
  | none=>aOA C T all rest s K
  | some o=>PL all s.r o (fun r=>aER C T s.h (evO r) o.op (fun v h'=>aOA C T all rest ⟨lS r o.dst v,h'⟩ K) (fun v h'=>K (.fN v) ⟨s.r,h'⟩)) (fun r=>aOA C T all rest ⟨lS r o.dst .undef,s.h⟩ K)
theorem NG {p:Nat}(hC:C.Ok)(hT:T.Ok C.P)(all:Array Oper):∀ (is:List Nat) (s:AS) (K:AX→AS→Option β) (z:β),aOA C T all is s K=some z →
  ∃ x s',K x s'=some z∧∀ (R:Nat→Prop) (ρ:Nm) (a:Act) (w:World),Rel R ρ s.h w→b9 w R ρ s.r a→a.defers=[] →
   ∀ (Q:Exit→Act→World→Prop),(∀ e a' w',XD p R ρ s.h w x s' e a' w'→Q e a' w')→wpOps C.P all Q is a w
 | [],s,K,z,hx=>⟨.normal,s,hx,fun R ρ a w hr ha hd Q hQ=>hQ _ _ _ ⟨hd,R,ρ,hr,ha,eF.refl _ _ _ _,rfl⟩⟩
 | i :: rest,s,K,z,hx=>by
  simp only [aOA] at hx;cases ho:all[i]? with
  | none=>
   rw [ho] at hx;obtain⟨x,s',hK,hw⟩:=NG hC hT all rest s K z hx;refine⟨x,s',hK,fun R ρ a w hr ha hd Q hQ=>?_⟩;unfold wpOps;rw [ho];exact hw R ρ a w hr ha hd Q hQ
  | some o=>
   rw [ho] at hx;simp only at hx;rcases IQ hx with⟨hw,hx⟩ | ⟨hw,hx⟩
   ·rcases aA1 hC hT hx with⟨v,h',hstep,hx⟩ | ⟨v,h',hstep,hx⟩
    ·obtain⟨x,s',hK,B6⟩:=NG hC hT all rest _ K z hx;refine⟨x,s',hK,fun R ρ a w hr ha hd Q hQ=>?_⟩;unfold wpOps;rw [ho];simp only;rw [CX ha hw];simp only [if_true];refine .inl ?_;refine hstep R ρ w a o rfl hr (fun x av hx=>xL ha hx) _ _ fun R' ρ' u w' h1 h2 h3=>?_;exact B6 R' ρ' _ w' h2 ((ha.EM h3 hr).put o.dst h1) (by cases o.dst <;> exact hd) Q fun e a' w'' hf=>hQ e a' w'' (hf.pre h3.weak)
    ·refine⟨.fN v,_,hx,fun R ρ a w hr ha hd Q hQ=>?_⟩;unfold wpOps;rw [ho];simp only;rw [CX ha hw];simp only [if_true];refine .inl ?_;refine hstep R ρ w a o rfl hr (fun x av hx=>xL ha hx) _ _ fun R' ρ' u w' h1 h2 h3=>?_;exact hQ _ _ _ ⟨hd,R',ρ',h2,ha.EM h3 hr,h3.weak,u,rfl,h1⟩
   ·obtain⟨x,s',hK,B6⟩:=NG hC hT all rest _ K z hx;refine⟨x,s',hK,fun R ρ a w hr ha hd Q hQ=>?_⟩;unfold wpOps;rw [ho];simp only;rw [CX ha hw];simp only [aZC,if_false];exact B6 R ρ _ w hr (ha.put o.dst .undef) (by cases o.dst <;> exact hd) Q hQ
def vH:Code→Option Nat
 | .region id _ _=>some id
 | .seq a b=>match vH a with
  | some k=>some k
  | none=>vH b
 | .cond _ a b=>match vH a with
  | some k=>some k
  | none=>vH b
 | .block _ c | .loop c | .scope c=>vH c
 | _=>none
def aJ:Code→List (Nat×Code)
 | .seq a b | .cond _ a b=>aJ a++aJ b
 | .block _ c=>aJ c
 | .loop c=>match vH c with
  | some k=>[(k,c)]
  | none=>[]
 | _=>[]
def a1V {γ:Type}(v:AV)(k:AV→γ):γ:=match v with
 | .agg cs=>k (.agg cs)
 | v=>k v
theorem aRA {γ:Type}(v:AV)(k:AV→γ):a1V v k=k v:=by cases v <;> rfl
def PM {γ:Type}:List AV→(List AV→γ)→γ
 | [],k=>k []
 | x :: r,k=>a1V x fun x'=>PM r fun r'=>k (x' :: r')
theorem YE {γ:Type}:∀ (l:List AV) (k:List AV→γ),PM l k=k l
 | [],k=>rfl
 | x :: r,k=>by simp only [PM,aRA,YE r]
def aIx {γ:Type}(v:AV)(k:AV→γ):γ:=match v with
 | .agg cs=>PM cs fun cs'=>k (.agg cs')
 | .xF cs=>PM cs fun cs'=>k (.xF cs')
 | v=>k v
theorem aOB {γ:Type}(v:AV)(k:AV→γ):aIx v k=k v:=by cases v <;> simp [aIx,YE]
def PN {γ:Type}:List AV→(List AV→γ)→γ
 | [],k=>k []
 | x :: r,k=>aIx x fun x'=>PN r fun r'=>k (x' :: r')
theorem IR {γ:Type}:∀ (l:List AV) (k:List AV→γ),PN l k=k l
 | [],k=>rfl
 | x :: r,k=>by simp only [PN,aOB,IR r]
def aIy {γ:Type}(b:Option cQ)(k:Option cQ→γ):γ:=match b with
 | some (.cells t cs)=>PN cs fun cs'=>k (some (.cells t cs'))
 | some (.row t ty l)=>k (some (.row t ty l))
 | some (.map es)=>k (some (.map es))
 | some (.cE kt vt m)=>k (some (.cE kt vt m))
 | none=>k none
theorem aOC {γ:Type}(b:Option cQ)(k:Option cQ→γ):aIy b k=k b:=by
 cases b with
 | none=>rfl
 | some b=>cases b <;> simp [aIy,IR]
def aA2 {γ:Type}:AH→(AH→γ)→γ
 | [],k=>k []
 | x :: r,k=>aIy x fun x'=>aA2 r fun r'=>k (x' :: r')
theorem YF {γ:Type}:∀ (l:AH) (k:AH→γ),aA2 l k=k l
 | [],k=>rfl
 | x :: r,k=>by simp only [aA2,aOC,YF r]
def DB {γ:Type}(s:AS)(k:AS→γ):γ:=PN s.r fun r=>aA2 s.h fun h=>k ⟨r,h⟩
theorem sD {γ:Type}(s:AS)(k:AS→γ):DB s k=k s:=by simp [DB,IR,YF]
abbrev H7 (β:Type):=Array Oper→AS→(AX→AS→Option β)→Option β
def XE (p n:Nat):AS:=⟨List.replicate n .any,List.replicate p none⟩
abbrev dK (β:Type):=Nat→AS→(AX→AS→Option β)→Option β
def aV (C:dI)(T:Tb)(dr:H7 β)(lp:dK β):Code→AS→(AX→AS→Option β)→Option β
 | .skip,s,K=>K .normal s
 | .label _,s,K=>K .normal s
 | .seq a b,s,K=>aV C T dr lp a s fun x s'=>match x with
  | .normal=>aV C T dr lp b s' K
  | x=>K x s'
 | .cond c a b,s,K=>match evO s.r c with
  | some (.bool t)=>bif t then aV C T dr lp a ⟨a37 s.r c true,s.h⟩ K else aV C T dr lp b ⟨a37 s.r c false,s.h⟩ K
  | _=>none
 | .block id c,s,K=>aV C T dr lp c s fun x s'=>match x with
  | .exit i=>if i=id then K .normal s' else K (.exit i) s'
  | x=>K x s'
 | .loop c,s,K=>match vH c with
  | some k=>lp k s K
  | none=>none
 | .exit id,s,K=>K (.exit id) s
 | .ret,s,K=>K .ret s
 | .region _ ops draw,s,K=>if draw then dr ops s (fun x s'=>DB s' (K x)) else aOA C T ops (List.range ops.size) s (fun x s'=>DB s' (K x))
 | _,_,_=>none
def nN (C:dI)(dr:H7 β):Prop:=∀ (id:Nat) (ops:Array Oper) (s:AS) (K:AX→AS→Option β) (z:β),dr ops s K=some z→∃ x s',K x s'=some z∧CA C (.region id ops true) s x s'
def aC (C:dI)(lp:dK β)(ls:List (Nat×Code)):Prop:=∀ p∈ls,∀ (s:AS) (K:AX→AS→Option β) (z:β),lp p.1 s K=some z→∃ x s',K x s'=some z∧CA C (.loop p.2) s x s'
theorem cV (hC:C.Ok)(hT:T.Ok C.P){dr:H7 β}{lp:dK β}(hdr:nN C dr):∀ (c:Code),aC C lp (aJ c)→∀ (s:AS) (K:AX→AS→Option β) (z:β),aV C T dr lp c s K=some z →
  ∃ x s',K x s'=some z∧CA C c s x s':=by
 intro c
 induction c with
 | skip=>
  intro _ s K z hx;exact⟨_,_,hx,fun R ρ a w hr ha hd=>wp_skip ⟨hd,R,ρ,hr,ha,eF.refl _ _ _ _,rfl⟩⟩
 | label l=>
  intro _ s K z hx;exact⟨_,_,hx,fun R ρ a w hr ha hd=>wp_label ⟨hd,R,ρ,hr,ha,eF.refl _ _ _ _,rfl⟩⟩
 | seq c1 c2 ih1 ih2=>
  intro hl s K z hx;obtain⟨x1,s1,hx1,hc1⟩:=ih1 (fun p hp=>hl p (a1h _ hp)) s _ z hx;cases x1 with
  | normal=>
   obtain⟨x2,s2,hx2,hc2⟩:=ih2 (fun p hp=>hl p (a9o _ hp)) s1 K z hx1;refine⟨x2,s2,hx2,fun R ρ a w hr ha hd=>wp_seq (wp_mono (hc1 R ρ a w hr ha hd) ?_)⟩;rintro e a1 w1 ⟨E5,R1,eN,qQ,ha1,f1,he⟩;have he:e=.normal:=he;subst he;exact wp_mono (hc2 R1 eN a1 w1 qQ ha1 E5) fun e a' w' hf=>hf.pre f1
  | exit id=>
   refine⟨_,s1,hx1,fun R ρ a w hr ha hd=>wp_seq (wp_mono (hc1 R ρ a w hr ha hd) ?_)⟩;rintro e a1 w1 ⟨E5,R1,eN,qQ,ha1,f1,he⟩;have he:e=.exit id:=he;subst he;exact⟨E5,R1,eN,qQ,ha1,f1,rfl⟩
  | ret=>
   refine⟨_,s1,hx1,fun R ρ a w hr ha hd=>wp_seq (wp_mono (hc1 R ρ a w hr ha hd) ?_)⟩;rintro e a1 w1 ⟨E5,R1,eN,qQ,ha1,f1,he⟩;have he:e=.ret:=he;subst he;exact⟨E5,R1,eN,qQ,ha1,f1,rfl⟩
  | fN v=>
   refine⟨_,s1,hx1,fun R ρ a w hr ha hd=>wp_seq (wp_mono (hc1 R ρ a w hr ha hd) ?_)⟩;rintro e a1 w1 ⟨E5,R1,eN,qQ,ha1,f1,u,he,hu⟩;subst he;exact⟨E5,R1,eN,qQ,ha1,f1,u,rfl,hu⟩
 | cond c t e iht ihe=>
  intro hl s K z hx;simp only [aV] at hx
  split at hx
  ·rename_i b hc;rcases cF hx with⟨hb,hx⟩ | ⟨hb,hx⟩
   ·subst hb;rw [YD hc] at hx;obtain⟨x,s',hK,hca⟩:=iht (fun p hp=>hl p (a1h _ hp)) s K z hx;refine⟨x,s',hK,fun R ρ a w hr ha hd=>?_⟩;have h1:=xL ha hc;generalize hv:a.eval c=v at h1;cases h1;exact wp_cond_true hv (hca R ρ a w hr ha hd)
   ·subst hb;rw [YD hc] at hx;obtain⟨x,s',hK,hca⟩:=ihe (fun p hp=>hl p (a9o _ hp)) s K z hx;refine⟨x,s',hK,fun R ρ a w hr ha hd=>?_⟩;have h1:=xL ha hc;generalize hv:a.eval c=v at h1;cases h1;exact wp_cond_false hv (hca R ρ a w hr ha hd)
  ·cases hx
 | block id c ih=>
  intro hl s K z hx;obtain⟨x1,s1,hx1,hc1⟩:=ih hl s _ z hx;cases x1 with
  | normal=>
   refine⟨_,s1,hx1,fun R ρ a w hr ha hd=>wp_block (wp_mono (hc1 R ρ a w hr ha hd) ?_)⟩;rintro e a1 w1 ⟨E5,R1,eN,qQ,ha1,f1,he⟩;have he:e=.normal:=he;subst he;exact⟨E5,R1,eN,qQ,ha1,f1,rfl⟩
  | exit id'=>
   simp only at hx1
   split at hx1
   ·rename_i hid;refine⟨_,s1,hx1,fun R ρ a w hr ha hd=>wp_block (wp_mono (hc1 R ρ a w hr ha hd) ?_)⟩;rintro e a1 w1 ⟨E5,R1,eN,qQ,ha1,f1,he⟩;have he:e=.exit id':=he;subst he;simp only [Exit.inBlock];rw [aJb hid];exact⟨E5,R1,eN,qQ,ha1,f1,rfl⟩
   ·rename_i hid;refine⟨_,s1,hx1,fun R ρ a w hr ha hd=>wp_block (wp_mono (hc1 R ρ a w hr ha hd) ?_)⟩;rintro e a1 w1 ⟨E5,R1,eN,qQ,ha1,f1,he⟩;have he:e=.exit id':=he;subst he;simp only [Exit.inBlock];rw [aJn hid];exact⟨E5,R1,eN,qQ,ha1,f1,rfl⟩
  | ret=>
   refine⟨_,s1,hx1,fun R ρ a w hr ha hd=>wp_block (wp_mono (hc1 R ρ a w hr ha hd) ?_)⟩;rintro e a1 w1 ⟨E5,R1,eN,qQ,ha1,f1,he⟩;have he:e=.ret:=he;subst he;exact⟨E5,R1,eN,qQ,ha1,f1,rfl⟩
  | fN v=>
   refine⟨_,s1,hx1,fun R ρ a w hr ha hd=>wp_block (wp_mono (hc1 R ρ a w hr ha hd) ?_)⟩;rintro e a1 w1 ⟨E5,R1,eN,qQ,ha1,f1,u,he,hu⟩;subst he;exact⟨E5,R1,eN,qQ,ha1,f1,u,rfl,hu⟩
 | loop c ih=>
  intro hl s K z hx;simp only [aV] at hx
  split at hx
  ·rename_i k hk;exact hl (k,c) (by simp [aJ,hk]) s K z hx
  ·cases hx
 | exit id=>
  intro _ s K z hx;exact⟨_,_,hx,fun R ρ a w hr ha hd=>wp_exit ⟨hd,R,ρ,hr,ha,eF.refl _ _ _ _,rfl⟩⟩
 | ret=>
  intro _ s K z hx;exact⟨_,_,hx,fun R ρ a w hr ha hd=>wp_ret ⟨hd,R,ρ,hr,ha,eF.refl _ _ _ _,rfl⟩⟩
 | region id ops draw=>
  intro _ s K z hx;simp only [aV] at hx;cases draw with
  | true=>
   simp only [if_true] at hx;obtain⟨x,s',hK,hca⟩:=hdr id ops s _ z hx;rw [sD] at hK;exact⟨x,s',hK,hca⟩
  | false=>
   simp only [aZC,if_false] at hx;obtain⟨x,s',hK,bFc⟩:=NG hC hT ops _ s _ z hx;rw [sD] at hK;exact⟨x,s',hK,fun R ρ a w hr ha hd=>wp_region (bFc R ρ a w hr ha hd _ (fun e a' w' hf=>hf))⟩
 | rangeFunc f ps as_ b iha ihb=>intro _ s K z hx;simp [aV] at hx
 | scope c ih=>intro _ s K z hx;simp [aV] at hx
 | goto l=>intro _ s K z hx;simp [aV] at hx
 | refuse y=>intro _ s K z hx;simp [aV] at hx
end
section
variable {C:dI}{T:Tb}
def aOD (C:dI)(rs:List Ty)(res:List ResultVar)(x:AX)(s:AS):Option (aS rs):=match x with
 | .ret | .normal=>match BS C s res with
  | some l=>match aAP rs s.h l with
   | some (y,_)=>some y
   | none=>none
  | none=>none
 | _=>none
def dA (C:dI)(T:Tb)(rs:List Ty)(dr:H7 (aS rs))(lp:dK (aS rs))(fn:Func)(c:Code)(args:List AV):Option (aS rs):=
 aV C T dr lp c ⟨args++List.replicate (fn.ntmps-args.length) .undef,[]⟩ (aOD C rs fn.results.toList)
theorem Lv.none {ρ:Nm}{b:Nat}:¬Lv ρ [] b:=by rintro ⟨i,blk,N,hi,_⟩;simp at hi
theorem aOE {f:FuncId}{fn:Func}{c:Code}(hfn:C.P.funcs[f]?=some fn)(hb:fn.body=some c){args:List AV}{x:AX}{s':AS}(hx:x=.ret∨x=.normal)
  (hca:CA C c ⟨args++List.replicate (fn.ntmps-args.length) .undef,[]⟩ x s') {l:List AV} (hl:BS C s' fn.results.toList=some l)
  {v:AV} {h':AH} (hfin:∀ R ρ w u,Rel R ρ s'.h w→aI w R ρ (eE l) u→∃ R' ρ',Rel R' ρ' h' w∧aI w R' ρ' v u∧(∀ b,R b→R' b)∧(∀ b,Lv ρ' h' b→Lv ρ s'.h b)∧(∀ b,R' b→R b∨Lv ρ s'.h b)) :
  AC C.P f args [] (.ret v) h':=by
 intro R ρ w vs hr hvs;refine calls_of_wp hfn hb ?_;have hsz:vs.size=args.length:=by have:=hvs.1;simpa using this
 have ha:b9 w R ρ (args++List.replicate (fn.ntmps-args.length) .undef) { tmps:=vs++Array.replicate (fn.ntmps-vs.size) undef,defers:=[] }:=by
  unfold b9;simp only [Array.toList_append,Array.toList_replicate,hsz];exact hvs.append (aK.replicate .undef _)
 refine wp_mono (hca R ρ _ w hr ha rfl) ?_;rintro e a' w' ⟨hd,R',ρ',hr',ha',f',hx'⟩;obtain⟨us,h1,h2⟩:=EZ (C:=C) hr' ha' hl;have hres:∃ v,(results fn a'.tmps).run C.P w'=.ok v w'∧aI w' R' ρ' (eE l) v:=by
  have hm:(fn.results.mapM (aAO a'.tmps)).run C.P w'=.ok us.toArray w':=by
   rw [Array.mapM_eq_mapM_toList,Sem.run_map,h1];rfl
  rw [CY,aPJ];refine⟨if h:us.toArray.size=1 then us.toArray[0] else .tuple us.toArray,by rw [hm];rfl,?_⟩;have hlen:=h2.1;cases l with
  | nil=>
   obtain rfl:=h2.bE;exact .mU .nil
  | cons c1 l=>
   obtain⟨u1,nG,rfl,h3,h4⟩:=h2.cons_inv;cases l with
   | nil=>
    obtain rfl:=h4.bE;simpa [eE] using h3
   | cons c2 l=>
    have:¬((u1 :: nG).toArray.size=1):=by
     have:=h4.1;simp at this ⊢;intro he;rw [he] at this;simp at this
    rw [dif_neg this];exact .mU (.cons h3 h4)
 obtain⟨u,hv1,hv2⟩:=hres;obtain⟨R2,y7,r2,v2,k1,k2,k3⟩:=hfin R' ρ' w' u hr' hv2;have hρ:=hr.oG;have hf:fB R ρ [] w R2 y7 h' w':=by
  refine⟨f'.os,f'.tape,f'.output,f'.size,(by rw [hρ];intro i bn h;cases h),fun b hb=>k1 b (f'.mV b hb),f'.keeps,fun b hl=>?_,fun b hb=>?_,aLj _,fun x hx=>by simp at hx,f'.kQ⟩
  ·exact f'.cW b (k2 b hl)
  ·rcases k3 b hb with h | h
   ·exact f'.cZ b h
   ·rcases f'.cW b h with h | h
    ·exact absurd h Lv.none
    ·exact .inr (.inr h)
 rcases hx with rfl | rfl
 ·have he:e=.ret:=hx';subst he;exact⟨hd,u,hv1,R2,y7,u,⟨rfl,v2⟩,r2,hf⟩
 ·have he:e=.normal:=hx';subst he;exact⟨hd,u,hv1,R2,y7,u,⟨rfl,v2⟩,r2,hf⟩
theorem PO:∀ (ts:List Ty) (x:aS ts),(i4 ts x).length=ts.length
 | [],_=>rfl
 | t :: ts,x=>by simp [i4,PO ts]
theorem PP:∀ (ts:List Ty) {h:AH} {cs:List AV} {r:aS ts×AH},aAP ts h cs=some r→cs.length=ts.length
 | [],h,cs,r,hf=>by
  simp only [aAP] at hf
  split at hf
  ·rename_i hc;have:cs=[]:=by simpa using hc
   subst this;rfl
  ·cases hf
 | t :: ts,h,cs,r,hf=>by
  simp only [aAP] at hf
  split at hf
  ·split at hf
   ·split at hf
    ·rename_i H8;simp [PP ts H8]
    ·cases hf
   ·cases hf
  ·cases hf
theorem PR {rs:List Ty}{f:FuncId}{fn:Func}{c:Code}(hfn:C.P.funcs[f]?=some fn)(hb:fn.body=some c)
  {args:List AV} {x:AX} {s':AS} {y:aS rs} (hK:aOD C rs fn.results.toList x s'=some y) (hca:CA C c ⟨args++List.replicate (fn.ntmps-args.length) .undef,[]⟩ x s'):AC C.P f args [] (.ret (eE (i4 rs y))) []:=by
 have key:(x=.ret∨x=.normal)∧∃ l h',BS C s' fn.results.toList=some l∧aAP rs s'.h l=some (y,h'):=by
  unfold aOD at hK
  split at hK
  ·split at hK
   ·rename_i l hl
    split at hK
    ·rename_i y' h' he;injection hK with hK;subst hK
     exact⟨.inl rfl,l,h',hl,he⟩
    ·cases hK
   ·cases hK
  ·split at hK
   ·rename_i l hl
    split at hK
    ·rename_i y' h' he;injection hK with hK;subst hK
     exact⟨.inr rfl,l,h',hl,he⟩
    ·cases hK
   ·cases hK
  ·cases hK
 obtain⟨hx,l,h',hl,he⟩:=key;refine aOE hfn hb hx hca hl fun R ρ w u hr hv=>?_
 -- what comes back is read as typed data
 have main:∃ R',Rel R' ρ h' w∧fB R ρ s'.h w R' ρ h' w∧aI w R' ρ (eE (i4 rs y)) u:=by
  rcases aK.E2 hv with⟨c,rfl,h1⟩ | ⟨us,rfl,fE,he1,hne⟩
  ·obtain⟨R',r1,f1,v1⟩:=aAQ rs he hr (aK.cons h1 .nil);refine⟨R',r1,f1,?_⟩;have h2:(i4 rs y).length=1:=by rw [PO,← PP rs he];rfl
   cases hm:i4 rs y with
   | nil=>rw [hm] at h2;simp at h2
   | cons d m=>
    rw [hm] at h2 v1;have:m=[]:=by simpa using h2
    subst this;obtain⟨u',nG,H8,h3,_⟩:=v1.cons_inv;simp only [List.cons.injEq] at H8;rw [H8.1];exact h3
  ·obtain⟨R',r1,f1,v1⟩:=aAQ rs he hr fE;refine⟨R',r1,f1,?_⟩;have h2:(i4 rs y).length=l.length:=by rw [PO,← PP rs he]
   have:eE (i4 rs y)=.xF (i4 rs y):=by
    unfold eE
    split
    ·rename_i d hd;rw [hd] at h2;obtain⟨c,rfl⟩:∃ c,l=[c]:=by
      cases l with
      | nil=>simp at h2
      | cons c l=>cases l with
       | nil=>exact⟨c,rfl⟩
       | cons _ _=>simp at h2
     exact absurd rfl (hne c)
    ·rfl
   rw [this];exact .mU v1
 obtain⟨R',r1,f1,v1⟩:=main;refine⟨R',gI,.base r1.ro,bN.eE (gB rs y) _ _ _ _ _ v1,f1.mV,fun b hl=>absurd hl Lv.none,fun b hb=>?_⟩;rcases f1.cZ b hb with h | h | h
 ·exact .inl h
 ·exact .inr h
 ·have:=r1.ro b hb;omega
theorem aES (hC:C.Ok)(hT:T.Ok C.P){rs:List Ty}{dr:H7 (aS rs)}{lp:dK (aS rs)}(hdr:nN C dr){f:FuncId}{fn:Func}{c:Code}(hfn:C.P.funcs[f]?=some fn)(hb:fn.body=some c)(hlp:aC C lp (aJ c))
  {args:List AV} {y:aS rs} (hf:dA C T rs dr lp fn c args=some y):AC C.P f args [] (.ret (eE (i4 rs y))) []:=by
 obtain⟨x,s',hK,hca⟩:=cV hC hT hdr c hlp _ _ _ hf;exact PR hfn hb hK hca
end
section
variable {C:dI}{T:Tb}{P:Program}
def CL (C:dI)(c:Code)(s:AS)(x:AX)(s':AS):Prop:=
 ∀ (R:Nat→Prop) (ρ:Nm) (a:Act) (w:World),Rel R ρ s.h w→b9 w R ρ s.r a→a.defers=[] →
  ∀ (b:Frame) (kk:List Item) (cs:List Frame),∃ e a' w',XD C.dB R ρ s.h w x s' e a' w'∧Arrives C.P (lone (b.at a (.code c :: .inLoop c :: kk)) cs w) b kk cs e a' w'
theorem CL.loop {c:Code}{s s':AS}{x:AX}(hc:CL C c s x s'):CA C (.loop c) s x s':=by
 intro R ρ a w hr ha hd b kk cs;obtain⟨e,a',w',hq,aA3⟩:=hc R ρ a w hr ha hd b kk cs;exact⟨e,a',w',hq,.of_steps (.one step_loop) aA3⟩
theorem CL.step {c:Code}{s s1 s':AS}{x:AX}(hc:CA C c s .normal s1)(hl:CL C c s1 x s'):CL C c s x s':=by
 intro R ρ a w hr ha hd b kk cs;obtain⟨e,a2,w2,hfin,aA3⟩:=hc R ρ a w hr ha hd b (.inLoop c :: kk) cs;obtain⟨hd2,R2,y7,hr2,ha2,f2,he⟩:=hfin;have he:e=.normal:=he;subst he;obtain⟨e3,a3,w3,a9X,a9Y⟩:=hl R2 y7 a2 w2 hr2 ha2 hd2 b kk cs;exact⟨e3,a3,w3,a9X.pre f2,.of_steps (Steps.trans aA3 (.one step_inLoop)) a9Y⟩
theorem CL.out {c:Code}{s s':AS}{x:AX}(hc:CA C c s x s')(hx:x≠.normal):CL C c s x s':=by
 intro R ρ a w hr ha hd b kk cs;obtain⟨e,a2,w2,hfin,aA3⟩:=hc R ρ a w hr ha hd b (.inLoop c :: kk) cs;refine⟨e,a2,w2,hfin,?_⟩;obtain⟨_,R2,y7,_,_,_,he⟩:=hfin;cases x with
 | normal=>exact absurd rfl hx
 | exit id=>
  have he:e=.exit id:=he;subst he;exact .pass (x:=.inLoop c) rfl (fun _ _=>.inl (by simp)) aA3
 | ret=>
  have he:e=.ret:=he;subst he;exact .pass (x:=.inLoop c) rfl (fun _ _=>.inl (by simp)) aA3
 | fN v=>
  obtain⟨u,he,_⟩:=he;subst he;exact .pass (x:=.inLoop c) rfl (fun _ _=>.inl (by simp)) aA3
def M1 (p:Nat)(s s1:AS):Prop:=∀ (R:Nat→Prop) (ρ:Nm) (a:Act) (w:World),Rel R ρ s.h w→b9 w R ρ s.r a→∃ R1 eN,Rel R1 eN s1.h w∧b9 w R1 eN s1.r a∧eF p R ρ s.h w R1 eN s1.h w
theorem CL.pre {c:Code}{s s1 s':AS}{x:AX}(hc:CL C c s1 x s')(hp:M1 C.dB s s1):CL C c s x s':=by
 intro R ρ a w hr ha hd b kk cs;obtain⟨R1,eN,r1,a1,f1⟩:=hp R ρ a w hr ha;obtain⟨e,a',w',hf,aA3⟩:=hc R1 eN a w r1 a1 hd b kk cs;exact⟨e,a',w',hf.pre f1,aA3⟩
structure Lay (p:Nat)(X:Type) where
 enc:X→AS
 dec:AS→Option X
 ok:∀ s x,dec s=some x→M1 p s (enc x)
def aH {X Y:Type}(G:X→Option (X⊕Y)):Nat→X→Option Y
 | 0,_=>none
 | n+1,x=>(G x).bind fun y=>Sum.elim (aH G n) some y
structure kU (p:Nat)(A B:Type) where
 xa:AX
 la:Lay p A
 xb:AX
 lb:Lay p B
def AX.same:AX→AX→Bool
 | .normal,.normal=>true
 | .exit i,.exit j=>i==j
 | .ret,.ret=>true
 | _,_=>false
theorem AX.nS {x y:AX}(h:x.same y=true):x=y:=by
 cases x <;> cases y <;> simp [AX.same] at h <;> first | rfl | (subst h;rfl)
def bG {p:Nat}{X A B:Type}(L:Lay p X)(E:kU p A B)(x:AX)(s:AS):Option (X⊕(A⊕B)):=
 if x.same .normal then(match L.dec s with
  | some x=>some (.inl x)
  | none=>none)
 else if x.same E.xa then(match E.la.dec s with
  | some a=>some (.inr (.inl a))
  | none=>none)
 else if x.same E.xb then(match E.lb.dec s with
  | some b=>some (.inr (.inr b))
  | none=>none)
 else none
theorem CA.YG {c:Code}{s s1 s':AS}{x:AX}(hc:CA C c s x s1)(hx:∀ v,x≠.fN v)(hp:M1 C.dB s1 s'):CA C c s x s':=hc.post hx hp
theorem kC (hC:C.Ok)(hT:T.Ok C.P){X A B:Type}{dr:H7 (X⊕(A⊕B))}{lp:dK (X⊕(A⊕B))}(hdr:nN C dr){c:Code}(hlp:aC C lp (aJ c)){L:Lay C.dB X}{E:kU C.dB A B}
  {G:X→Option (X⊕(A⊕B))} (hG:∀ x,aV C T dr lp c (L.enc x) (bG L E)=G x) (hxa:E.xa.same .normal=false) (LU:E.xb.same .normal=false) (hpa:∀ v,E.xa≠.fN v) (hpb:∀ v,E.xb≠.fN v) :
  ∀ (n:Nat) (x:X) (y:A⊕B),aH G n x=some y→CL C c (L.enc x) (Sum.elim (fun _=>E.xa) (fun _=>E.xb) y) (Sum.elim E.la.enc E.lb.enc y)
 | 0,x,y,h=>by simp [aH] at h
 | n+1,x,y,h=>by
  simp only [aH] at h;obtain⟨z,hz,h⟩:=aXE.1 h;obtain⟨x',s',hK,hca⟩:=cV hC hT hdr c hlp _ _ z ((hG x).trans hz);unfold bG at hK
  split at hK
  ·rename_i hx;have:=AX.nS hx;subst this
   split at hK
   ·rename_i x2 hd;injection hK with hK;subst hK
    exact CL.step hca ((kC hC hT hdr hlp hG hxa LU hpa hpb n x2 y h).pre (L.ok _ _ hd))
   ·cases hK
  ·split at hK
   ·rename_i hx;have:=AX.nS hx;subst this
    split at hK
    ·rename_i a hd;injection hK with hK;subst hK
     simp only [Sum.elim_inr,aJp] at h;subst h;exact CL.out (hca.YG hpa (E.la.ok _ _ hd)) (fun e=>by have e:E.xa=.normal:=e;rw [e] at hxa;cases hxa)
    ·cases hK
   ·split at hK
    ·rename_i hx;have:=AX.nS hx;subst this
     split at hK
     ·rename_i b hd;injection hK with hK;subst hK
      simp only [Sum.elim_inr,aJp] at h;subst h;exact CL.out (hca.YG hpb (E.lb.ok _ _ hd)) (fun e=>by have e:E.xb=.normal:=e;rw [e] at LU;cases LU)
     ·cases hK
    ·cases hK
def bO {p:Nat}{X A B β:Type}(L:Lay p X)(E:kU p A B)(F:X→Option (A⊕B))(s:AS)(K:AX→AS→Option β):Option β:=match L.dec s with
 | some x=>(F x).bind fun y=>Sum.elim (fun a=>K E.xa (E.la.enc a)) (fun b=>K E.xb (E.lb.enc b)) y
 | none=>none
theorem pH {X A B β:Type}{L:Lay C.dB X}{E:kU C.dB A B}{F:X→Option (A⊕B)}{c:Code}(hF:∀ x y,F x=some y→CL C c (L.enc x) (Sum.elim (fun _=>E.xa) (fun _=>E.xb) y) (Sum.elim E.la.enc E.lb.enc y))
  {s:AS} {K:AX→AS→Option β} {z:β} (hx:bO L E F s K=some z):∃ x s',K x s'=some z∧CA C (.loop c) s x s':=by
 unfold bO at hx
 split at hx
 ·rename_i x hd;obtain⟨y,hy,hx⟩:=aXE.1 hx;have h1:=((hF x y hy).pre (L.ok _ _ hd)).loop;cases y with
  | inl a=>exact⟨_,_,hx,h1⟩
  | inr b=>exact⟨_,_,hx,h1⟩
 ·cases hx
end
end Go.DI
