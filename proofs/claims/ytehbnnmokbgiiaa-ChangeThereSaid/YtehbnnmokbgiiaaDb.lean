import Derived.Test.YtehbnnmokbgiiaaDa
/- The first call, and the statements, told by functions on data. No conditions. -/
/-! A function's code with rows frozen on the way. -/
set_option linter.unusedVariables false
set_option linter.unusedSimpArgs false
namespace Go.DI
section
variable {C : Cfg} {T : Tb} {β : Type}
/-- Code, with steps on what is told ahead of the n-th of what follows one another. -/
def codeTS (C : Cfg) (T : Tb) (dr : DrT β) (lp : LpT β) (ps : List Stp) : Nat → Code → AS → (AX → AS → Option β) → Option β
  | 0, c, s, K => codeT C T dr lp c (runStps ps s) K
  | n + 1, .seq c1 c2, s, K => codeT C T dr lp c1 s (fun x s' => match x with
    | .normal => codeTS C T dr lp ps n c2 s' K
    | x => K x s')
  | _ + 1, c, s, K => codeT C T dr lp c s K
theorem codeTS_ok (hC : C.Ok) (hT : T.Ok C.P) {dr : DrT β} {lp : LpT β} (hdr : DrTOk C dr) (ps : List Stp) : ∀ (n : Nat) (c : Code), LpTOk C lp (loopsOf c) → ∀ (s : AS) (K : AX → AS → Option β) (z : β), codeTS C T dr lp ps n c s K = some z →
    ∃ x s', K x s' = some z ∧ CA C c s x s'
  | 0, c, hl, s, K, z, h => by
    obtain ⟨x, s', hK, hc⟩ := codeT_ok hC hT hdr c hl _ _ _ h
    exact ⟨x, s', hK, hc.pre (runStps_ok ps s).weak⟩
  | n + 1, .seq c1 c2, hl, s, K, z, h => by
    obtain ⟨x1, s1, hx1, hc1⟩ := codeT_ok hC hT hdr c1 (fun p hp => hl p (List.mem_append_left _ hp)) s _ z h
    cases x1 with
    | normal =>
      obtain ⟨x2, s2, hx2, hc2⟩ := codeTS_ok hC hT hdr ps n c2 (fun p hp => hl p (List.mem_append_right _ hp)) s1 K z hx1
      refine ⟨x2, s2, hx2, fun R ρ a w hr ha hd => wp_seq (wp_mono (hc1 R ρ a w hr ha hd) ?_)⟩
      rintro e a1 w1 ⟨hd1, R1, ρ1, hr1, ha1, f1, he⟩
      have he : e = .normal := he
      subst he
      exact wp_mono (hc2 R1 ρ1 a1 w1 hr1 ha1 hd1) fun e a' w' hf => hf.pre f1
    | exit id =>
      refine ⟨_, s1, hx1, fun R ρ a w hr ha hd => wp_seq (wp_mono (hc1 R ρ a w hr ha hd) ?_)⟩
      rintro e a1 w1 ⟨hd1, R1, ρ1, hr1, ha1, f1, he⟩
      have he : e = .exit id := he
      subst he
      exact ⟨hd1, R1, ρ1, hr1, ha1, f1, rfl⟩
    | ret =>
      refine ⟨_, s1, hx1, fun R ρ a w hr ha hd => wp_seq (wp_mono (hc1 R ρ a w hr ha hd) ?_)⟩
      rintro e a1 w1 ⟨hd1, R1, ρ1, hr1, ha1, f1, he⟩
      have he : e = .ret := he
      subst he
      exact ⟨hd1, R1, ρ1, hr1, ha1, f1, rfl⟩
    | pan v =>
      refine ⟨_, s1, hx1, fun R ρ a w hr ha hd => wp_seq (wp_mono (hc1 R ρ a w hr ha hd) ?_)⟩
      rintro e a1 w1 ⟨hd1, R1, ρ1, hr1, ha1, f1, he⟩
      obtain ⟨u, rfl, hu⟩ := he
      exact ⟨hd1, R1, ρ1, hr1, ha1, f1, u, rfl, hu⟩
  | n + 1, .region i o d, hl, s, K, z, h => codeT_ok hC hT hdr _ hl s K z h
  | n + 1, .skip, hl, s, K, z, h => codeT_ok hC hT hdr _ hl s K z h
  | n + 1, .cond c a b, hl, s, K, z, h => codeT_ok hC hT hdr _ hl s K z h
  | n + 1, .loop c, hl, s, K, z, h => codeT_ok hC hT hdr _ hl s K z h
  | n + 1, .block i c, hl, s, K, z, h => codeT_ok hC hT hdr _ hl s K z h
  | n + 1, .exit i, hl, s, K, z, h => codeT_ok hC hT hdr _ hl s K z h
  | n + 1, .ret, hl, s, K, z, h => codeT_ok hC hT hdr _ hl s K z h
  | n + 1, .label l, hl, s, K, z, h => codeT_ok hC hT hdr _ hl s K z h
def funcTS (C : Cfg) (T : Tb) (ps : List Stp) (n : Nat) (rs : List Ty) (dr : DrT (Els rs)) (lp : LpT (Els rs)) (fn : Func) (c : Code) (args : List AV) : Option (Els rs) :=
  codeTS C T dr lp ps n c ⟨args ++ List.replicate (fn.ntmps - args.length) .undef, []⟩ (retT C rs fn.results.toList)
theorem funcTS_ok (hC : C.Ok) (hT : T.Ok C.P) {ps : List Stp} {n : Nat} {rs : List Ty} {dr : DrT (Els rs)} {lp : LpT (Els rs)} (hdr : DrTOk C dr) {f : FuncId} {fn : Func} {c : Code} (hfn : C.P.funcs[f]? = some fn) (hb : fn.body = some c) (hlp : LpTOk C lp (loopsOf c))
    {args : List AV} {y : Els rs} (hf : funcTS C T ps n rs dr lp fn c args = some y) : AC C.P f args [] (.ret (resV (encs rs y))) [] := by
  obtain ⟨x, s', hK, hca⟩ := codeTS_ok hC hT hdr ps n c hlp _ _ _ hf
  exact retT_fin hfn hb hK hca
end
theorem Ent.ofFnS {C : Cfg} {T : Tb} (ps : List Stp) (n : Nat) (hC : C.Ok) (hT : T.Ok C.P) {g : FuncId} {ks : List FuncId} {e : FnE} {lp : LpT (Els e.rs)} {fn : Func} {c : Code} (hfn : C.P.funcs[g]? = some fn) (hb : fn.body = some c) (hlp : LpTOk C lp (loopsOf c))
    (hF : ∀ x, funcTS C T ps n e.rs (drT C T) lp fn c (encPs e.ps x) = e.F x) : (Ent.fn g ks e).Ok C.P := fun x y h =>
  funcTS_ok hC hT (drT_ok hC hT) hfn hb hlp ((hF x).trans h)
end Go.DI

/-! The program's functions, told by functions on data. -/
set_option linter.unusedVariables false
set_option maxRecDepth 100000
set_option maxHeartbeats 0
namespace Go.DI.S
open Go.Proofs
/-! ### 7: maquette/maquettelaw22.alive -/
noncomputable def c_207 : Code := Try.f7.body.getD .skip
theorem hb_207 : Try.f7.body = some c_207 := by kernel_rfl
theorem hf_207 : CT.P.funcs[7]? = some Try.f7 := by kernel_rfl
noncomputable def T_207 : Tb := mkTb tyP mpP [E_17, E_19, E_216, E_68, E_66, E_24, E_25]
theorem T_207_ok : T_207.Ok CT.P := mkTb_ok (⟨e_17, e_19, e_216, e_68, e_66, e_24, e_25, trivial⟩)
noncomputable def lp_207 {β : Type} : LpT β := fun _ _ _ => none
theorem lp_207_ok {β : Type} : LpTOk CT (lp_207 (β := β)) (loopsOf c_207) := by
  have h : loopsOf c_207 = [] := by kernel_rfl
  rw [h]
  exact LpTOk.nil
noncomputable def F_207  : Option (Els [.bool]) :=
  F_19.bind fun v2 =>
    (F_17 (1 : Int) (0 : Int) (0 : Int) (0 : Int)).bind fun v4 =>
      (F_216 v2.fst (((0 : Int), (0 : Int)), (2 : Int), [v4.fst])).bind fun v6 =>
        (F_216 v2.fst v2.fst).bind fun v8 =>
          (F_68 v2.fst v6.fst).bind fun v10 =>
            (F_66 (((0 : Int), (0 : Int)), (2 : Int), [v4.fst]) v6.fst).bind fun v12 =>
              bif v6.snd.fst then
                bif !v8.snd.fst then
                  bif v10.snd.fst == (0 : Int) then
                    (F_25 (((0 : Int), (0 : Int)), (2 : Int), [v4.fst])).bind fun v14 =>
                      (F_24 v10.fst v14.fst).bind fun v16 =>
                        bif v16.fst then
                          bif v12.snd.fst == (0 : Int) then (F_25 v2.fst).bind fun v18 => (F_24 v12.fst v18.fst).bind fun v20 => Option.some (v20.fst, ())
                          else Option.some (Bool.false, ())
                        else Option.some (Bool.false, ())
                  else Option.some (Bool.false, ())
                else Option.some (Bool.false, ())
              else Option.some (Bool.false, ())
theorem f_207 (x : Ps []) : funcTS CT T_207 [.frzCell 2 3 (.list tThing)] 3 [.bool] (drT CT T_207) lp_207 Try.f7 c_207 (encPs [] x) = F_207 := by kernel_rfl
noncomputable def E_207 : Ent := .fn 7 [] ⟨[], [.bool], fun x => F_207, false⟩
theorem e_207 : E_207.Ok CT.P := Ent.ofFnS [.frzCell 2 3 (.list tThing)] 3 CT_ok T_207_ok hf_207 hb_207 lp_207_ok f_207
noncomputable def E_207h : Ent := .fn 7 [] ⟨[], [.bool], fun x => F_207, true⟩
/-! ### 3: maquette/maquettelaw22.ChangeTurns -/
noncomputable def c_203 : Code := Try.f3.body.getD .skip
theorem hb_203 : Try.f3.body = some c_203 := by kernel_rfl
theorem hf_203 : CT.P.funcs[3]? = some Try.f3 := by kernel_rfl
noncomputable def T_203 : Tb := mkTb tyP mpP [E_22, E_206, E_207, E_109, E_209, E_64, E_68, E_66, E_24, E_25]
theorem T_203_ok : T_203.Ok CT.P := mkTb_ok (⟨e_22, e_206, e_207, e_109, e_209, e_64, e_68, e_66, e_24, e_25, trivial⟩)
noncomputable def lp_203 {β : Type} : LpT β := fun _ _ _ => none
theorem lp_203_ok {β : Type} : LpTOk CT (lp_203 (β := β)) (loopsOf c_203) := by
  have h : loopsOf c_203 = [] := by kernel_rfl
  rw [h]
  exact LpTOk.nil
noncomputable def F_203 (a1 : Ty.El tVec) (a2 : Ty.El I) (a3 : Ty.El (.list tThing)) (a4 : Ty.El tEntry) : Option (Els [.bool]) :=
  (F_22 a3).bind fun v2 =>
    bif !v2.fst then F_207.bind fun v4 => Option.some (v4.fst, ())
    else
      (F_206 a4).bind fun v6 =>
        bif !v6.fst then F_207.bind fun v8 => Option.some (v8.fst, ())
        else
          F_207.bind fun v10 =>
            bif !v10.fst then F_207.bind fun v12 => Option.some (v12.fst, ())
            else
              (F_109 a4).bind fun v14 =>
                (F_109 v14.fst).bind fun v16 =>
                  (F_209 v16.fst a4).bind fun v18 =>
                    bif !v18.fst then Option.some (Bool.false, ())
                    else
                      (F_64 v14.fst).bind fun v20 =>
                        (F_64 a4).bind fun v22 =>
                          bif !v20.fst == v22.fst then Option.some (Bool.false, ())
                          else
                            (F_68 (a1, a2, a3) a4).bind fun v24 =>
                              bif v24.snd.fst != (0 : Int) then (F_24 v24.fst (((0 : Int), (0 : Int)), (0 : Int), [])).bind fun v26 => Option.some (v26.fst, ())
                              else
                                (F_66 v24.fst a4).bind fun v28 =>
                                  bif v28.snd.fst == (0 : Int) then (F_25 (a1, a2, a3)).bind fun v30 => (F_24 v28.fst v30.fst).bind fun v32 => Option.some (v32.fst, ())
                                  else Option.some (Bool.false, ())
theorem f_203 (x : Ps [.ty tVec, .ty I, .ty (.list tThing), .ty tEntry]) : funcT CT T_203 [.bool] (drT CT T_203) lp_203 Try.f3 c_203 (encPs [.ty tVec, .ty I, .ty (.list tThing), .ty tEntry] x) = F_203 x.1 x.2.1 x.2.2.1 x.2.2.2.1 := by kernel_rfl
noncomputable def E_203 : Ent := .fn 3 [] ⟨[.ty tVec, .ty I, .ty (.list tThing), .ty tEntry], [.bool], fun x => F_203 x.1 x.2.1 x.2.2.1 x.2.2.2.1, false⟩
theorem e_203 : E_203.Ok CT.P := Ent.ofFn CT_ok T_203_ok hf_203 hb_203 lp_203_ok f_203
noncomputable def E_203h : Ent := .fn 3 [] ⟨[.ty tVec, .ty I, .ty (.list tThing), .ty tEntry], [.bool], fun x => F_203 x.1 x.2.1 x.2.2.1 x.2.2.2.1, true⟩
/-! ### 4: maquette/maquettelaw22.ChangeThere -/
noncomputable def c_204 : Code := Try.f4.body.getD .skip
theorem hb_204 : Try.f4.body = some c_204 := by kernel_rfl
theorem hf_204 : CT.P.funcs[4]? = some Try.f4 := by kernel_rfl
noncomputable def T_204 : Tb := mkTb tyP mpP [E_22, E_20, E_207, E_216, E_28b, E_68, E_66, E_64]
theorem T_204_ok : T_204.Ok CT.P := mkTb_ok (⟨e_22, e_20, e_207, e_216, e_28b, e_68, e_66, e_64, trivial⟩)
noncomputable def lp_204 {β : Type} : LpT β := fun _ _ _ => none
theorem lp_204_ok {β : Type} : LpTOk CT (lp_204 (β := β)) (loopsOf c_204) := by
  have h : loopsOf c_204 = [] := by kernel_rfl
  rw [h]
  exact LpTOk.nil
noncomputable def F_204 (a1 : Ty.El tVec) (a2 : Ty.El tVec) (a3 : Ty.El I) (a4 : Ty.El I) (a5 : Ty.El (.list tThing)) (a6 : Ty.El (.list tThing)) : Option (Els [.bool]) :=
  (F_22 a5).bind fun v2 =>
    bif !v2.fst then F_207.bind fun v4 => Option.some (v4.fst, ())
    else
      (F_22 a6).bind fun v6 =>
        bif !v6.fst then F_207.bind fun v8 => Option.some (v8.fst, ())
        else
          (F_20 (a1, a3, a5)).bind fun v10 =>
            bif !v10.fst then F_207.bind fun v12 => Option.some (v12.fst, ())
            else
              (F_20 (a2, a4, a6)).bind fun v14 =>
                bif !v14.fst then F_207.bind fun v16 => Option.some (v16.fst, ())
                else
                  F_207.bind fun v18 =>
                    bif !v18.fst then F_207.bind fun v20 => Option.some (v20.fst, ())
                    else
                      (F_216 (a1, a3, a5) (a2, a4, a6)).bind fun v22 =>
                        bif !v22.snd.fst then
                          (F_28b (a1, a3, a5)).bind fun v24 =>
                            (F_28b (a2, a4, a6)).bind fun v26 =>
                              bif v24.fst == v26.fst then Option.some (Bool.true, ())
                              else Option.some (Decidable.decide (Go.IntKind.i64.wrap ((↑(List.length a5) : Int) + (↑(List.length a6) : Int)) > (40 : Int)), ())
                        else
                          (F_68 (a1, a3, a5) v22.fst).bind fun v28 =>
                            (F_66 (a2, a4, a6) v22.fst).bind fun v30 =>
                              (F_66 (a1, a3, a5) v22.fst).bind fun v32 =>
                                (F_68 (a2, a4, a6) v22.fst).bind fun v34 =>
                                  (F_64 v22.fst).bind fun v36 =>
                                    bif v36.fst then
                                      bif v28.snd.fst == (0 : Int) then
                                        (F_28b v28.fst).bind fun v38 =>
                                          (F_28b (a2, a4, a6)).bind fun v40 =>
                                            bif v38.fst == v40.fst then
                                              bif v30.snd.fst == (0 : Int) then
                                                (F_28b v30.fst).bind fun v42 =>
                                                  (F_28b (a1, a3, a5)).bind fun v44 =>
                                                    bif v42.fst == v44.fst then
                                                      bif v32.snd.fst == (14 : Int) then Option.some (v34.snd.fst == (14 : Int), ()) else Option.some (Bool.false, ())
                                                    else Option.some (Bool.false, ())
                                              else Option.some (Bool.false, ())
                                            else Option.some (Bool.false, ())
                                      else Option.some (Bool.false, ())
                                    else Option.some (Bool.false, ())
theorem f_204 (x : Ps [.ty tVec, .ty tVec, .ty I, .ty I, .ty (.list tThing), .ty (.list tThing)]) : funcT CT T_204 [.bool] (drT CT T_204) lp_204 Try.f4 c_204 (encPs [.ty tVec, .ty tVec, .ty I, .ty I, .ty (.list tThing), .ty (.list tThing)] x) = F_204 x.1 x.2.1 x.2.2.1 x.2.2.2.1 x.2.2.2.2.1 x.2.2.2.2.2.1 := by kernel_rfl
noncomputable def E_204 : Ent := .fn 4 [] ⟨[.ty tVec, .ty tVec, .ty I, .ty I, .ty (.list tThing), .ty (.list tThing)], [.bool], fun x => F_204 x.1 x.2.1 x.2.2.1 x.2.2.2.1 x.2.2.2.2.1 x.2.2.2.2.2.1, false⟩
theorem e_204 : E_204.Ok CT.P := Ent.ofFn CT_ok T_204_ok hf_204 hb_204 lp_204_ok f_204
noncomputable def E_204h : Ent := .fn 4 [] ⟨[.ty tVec, .ty tVec, .ty I, .ty I, .ty (.list tThing), .ty (.list tThing)], [.bool], fun x => F_204 x.1 x.2.1 x.2.2.1 x.2.2.2.1 x.2.2.2.2.1 x.2.2.2.2.2.1, true⟩
end Go.DI.S

/-! The first call's answer is true. -/
set_option maxRecDepth 1000000
set_option maxHeartbeats 0
namespace Go.DI.S
open Go.Proofs
theorem alive22 : F_207 = some (true, ()) := by kernel_rfl
end Go.DI.S

