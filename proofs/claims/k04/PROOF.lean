import PyProof.Rows.All
import Wide.All
import OpenK.AllK
import Wide.FinOn
import PyProof.EqAt
import PyProof.EqKinds
import PyProof.TupleCall
import KE.GoesEnum
import KE.KOpsOwn
import HandS.ForMost
import HandS.Exc
import HandS.ExcOwn
import HandS.TryOnly
import HandS.TryMany
import HandS.WordsExc
import HandS.ExcInit
import HandS.ExcField
import HandS.Slots
import HandS.SlotsOwn
import HandS.ClsMeth
import HandS.IsInst
import HandS.Style
import HandS.TupMul
import HandS.TupAny
import HandS.Flow
import HandS.Wide
import HandS.Walk
import HandS.Zip
import HandS.Rev
import HandS.More
import HandS.CallSlots
import PyProof.ListMulRight
import KE.KTupSum
import PySem.Challenge.RW_turndues_k04_whole_charts_put_together
set_option Elab.async false
set_option linter.all false
set_option maxRecDepth 100000
set_option maxHeartbeats 4000000
/-! # Rules of our own, A: own operators of slotted instances (also within a try), the base's __init__ called by the own base class's name, several except clauses with names -/
namespace KR
open PySem PySem.Spec PyProof.Rows L2

/-! ### an operator whose left side is an instance with slots -/
/-- x op y for own instances of one class, or x op int: the def's promise, what is raised wished for at the slots -/
def rOwnOp (C : Addr) (sp : Sp) (E : XK) : R2 := fun x y H Q => ∃ a dx vs, x = .ref a ∧ SlX.Slt H a C dx vs ∧ ((∃ b dy ws, y = .ref b ∧ SlX.Slt H b C dy ws) ∨ ∃ i, y = .int i) ∧ sp [x, y] H Q E
def tOwnOp (C : Addr) (sp : Sp) (E : L2.St → XK) (ta tb : TE) : TE := fun σ H Q => ta σ H fun x Hv => tb σ Hv fun y Hw => rOwnOp C sp (E σ) x y Hw Q
/-- what the class must have for the operator named nm -/
structure OpTxt (K : PySem.W.Frag) (C g : Addr) (nm : String) : Prop where
  first : PySem.W.selfFirst K C = true
  at_ : PySem.W.findIn K (.ref C) (PySem.dunder nm) = some (some (.ref g))
  fn : PySem.W.isFn K (.ref g) = true
/-- .. where the right side is an int -/
structure OpInt (K : PySem.W.Frag) (C : Addr) (nm : String) : Prop where
  refl : ∃ rc, PySem.W.findIn K (.ref C) (PySem.dunderR nm) = some rc ∧ (rc = none ∨ ∃ g : Addr, rc = some (.ref g))
  l : ∃ fo, PySem.W.findIn K (.type "int") (PySem.dunder nm) = some fo
  r : ∃ ro, PySem.W.findIn K (.type "int") (PySem.dunderR nm) = some ro
  sub : PySem.W.subIn K (.type "int") (.ref C) = some false
section
variable {X : Cx} {CX : CXT} {k : Nat} {C g : Addr} {fd : FuncData} {ps : List Str} {sp : Sp} {E : L2.St → XK} {a b : Expr} {ta tb : TE} {pos : Pos}
theorem pe_ownOp {op : Operator} (T : OpTxt X.K C g op.info.2) (Ti : OpInt X.K C op.info.2) (F : FnOk X.prog X.w X.K X.mg X.base CX k g fd ps sp) (hr : Room k X.A) (hb : Binds X.K fd ps []) (hx : ∀ σ, PassesAt CX X σ (E σ))
    (ha : PE X a ta) (hb' : PE X b tb) : PE X (.BinOp a op b pos) (tOwnOp C sp E ta tb) := by
  refine ⟨fun pns s σ H Q I h => ?_⟩
  refine wpAny_BinOp (L2.bin ha hb' I h fun v u sw x y Hw Iw rx ry q => ?_)
  obtain ⟨p, dx, vs, rfl, hs, hy, q⟩ := q
  cases (show v = Value.ref p from rx)
  obtain ⟨sl, od, _, J, _⟩ := SlX.slt_inst Iw hs
  obtain ⟨m, hF⟩ := Iw.fr
  rcases hy with ⟨p2, dy, ws, rfl, hs2⟩ | ⟨i, rfl⟩
  · cases (show u = Value.ref p2 from ry)
    obtain ⟨sl2, od2, _, J2, _⟩ := SlX.slt_inst Iw hs2
    refine PySem.W.binop_K hF Iw.ok.mod.kin J J2.type T.first T.at_ T.fn ?_
    refine thn (run_fnS (us := [.ref p, .ref p2]) (vs := [.ref p, .ref p2]) F hr hb (hx σ) Iw (.cons rfl (.cons rfl .nil)) q) fun w s' z => ?_
    obtain ⟨z', H', I', rzz, qzz⟩ := z
    exact SlX.cmpback rzz ⟨z', H', I', rzz, qzz⟩
  · obtain ⟨t, rfl⟩ := (show ∃ t, u = Value.int i t from ry)
    obtain ⟨rc, hrc, hpo⟩ := Ti.refl
    obtain ⟨fo, hfo⟩ := Ti.l
    obtain ⟨ro, hro⟩ := Ti.r
    refine PySem.W.ksp_binT (T := "int") hF Iw.ok.mod.kin J (by rfl) T.first T.at_ T.fn hrc hpo hfo hro Ti.sub ?_
    refine thn (run_fnS (us := [.ref p, .int i t]) (vs := [.ref p, .int i]) F hr hb (hx σ) Iw (.cons rfl (.cons ⟨t, rfl⟩ .nil)) q) fun w s' z => ?_
    obtain ⟨z', H', I', rzz, qzz⟩ := z
    exact SlX.cmpback rzz ⟨z', H', I', rzz, qzz⟩
/-- ~x -/
def tOwnInv (C : Addr) (sp : Sp) (E : L2.St → XK) (ta : TE) : TE := fun σ H Q => ta σ H fun x Hv => ∃ a dx vs, x = .ref a ∧ SlX.Slt Hv a C dx vs ∧ sp [x] Hv Q (E σ)
theorem pe_ownInv (hat : PySem.W.findIn X.K (.ref C) "__invert__" = some (some (.ref g))) (hf : PySem.W.isFn X.K (.ref g) = true) (F : FnOk X.prog X.w X.K X.mg X.base CX k g fd ps sp) (hr : Room k X.A) (hb : Binds X.K fd ps []) (hx : ∀ σ, PassesAt CX X σ (E σ))
    (ha : PE X a ta) : PE X (.UnaryOp .Invert a pos) (tOwnInv C sp E ta) := by
  refine ⟨fun pns s σ H Q I h => ?_⟩
  refine UnaryOp_ (thn (ha.run pns s σ H _ I h) fun v sv ⟨x, Hv, Iv, ru1, qv⟩ => ?_)
  obtain ⟨p, dx, vs, rfl, hs, q⟩ := qv
  cases (show v = Value.ref p from ru1)
  obtain ⟨sl, od, _, J, _⟩ := SlX.slt_inst Iv hs
  obtain ⟨m, hF⟩ := Iv.fr
  refine PySem.W.ksp_inv hF Iv.ok.mod.kin J hat hf ?_
  exact run_fnS (us := [.ref p]) (vs := [.ref p]) F hr hb (hx σ) Iv (.cons rfl .nil) q
end
end KR

set_option Elab.async false
set_option linter.all false
set_option maxRecDepth 100000
set_option maxHeartbeats 4000000
/-! # Rules of our own, B: int * instance by the reflected def; the base's __init__ by the own base class's name; several except clauses with names -/
namespace KR
open PySem PySem.Spec PyProof.Rows L2

/-! ### int * instance, by the class's reflected def -/
section
open PySem.W PySem.Calls Builtin
variable {prog : Program} {w : World} {A : Around} {E : Value → Shared → Prop} {s : Shared} {K : Frag} {x C L f g : Addr} {h₀ : Heap} {m : Str → Option Value} {ox : Obj} {od : Option Obj}
theorem int_mul_ins (i : Int) (t : Tok) (l C dx : Addr) (sl : Array (Option Value)) :
    Meets (Builtin.«int.__mul__» ⟨[.int i t, .ref l], []⟩) (fun _ R s => s.heap.get? l = some { PySem.W.instObj C dx with slots := sl } ∧ R (.ok (.ret Value.notImplemented)) s) :=
  .of_wp fun prog w A R s h => by
    obtain ⟨hpo, g, d, tk, os⟩ := s
    obtain ⟨hl, h⟩ := h
    wp_walk using wpAny_loadPart' hl
    exact ⟨_, rfl, h⟩
/-- i * x where int declines and the class has both defs -/
theorem mul_refl {i : Int} {t : Tok} {dx : Addr} {sl : Array (Option Value)} {Q : Value → Shared → Prop} (F : Fr h₀ L s.heap m) (X₀ : K.In h₀) (I : InstAt s.heap x { PySem.W.instObj C dx with slots := sl } C od) (hc : selfFirst K C = true)
    (hm : findIn K (.ref C) (PySem.dunder "mul") = some (some (.ref f))) (hr : findIn K (.ref C) (PySem.dunderR "mul") = some (some (.ref g))) (hf : isFn K (.ref g) = true) (hsub : subIn K (.ref C) (.type "int") = some false)
    (h : wpAny (model prog w) A (call (.ref g) [.ref x, .int i t]) (PySem.W.CmpBack Q) E s) : wpAny (model prog w) A (binaryOp .Mult (.int i t) (.ref x)) Q E s := by
  have X := X₀.keeps F.keep
  obtain ⟨cd, rest, hcd, hmro⟩ := ksp_first hc
  have one := ksp_try (b := .int i t) X I hr hf h
  have hx := I.at_
  have Ty : s.TypeIs (.int i t) "int" := typeIs_int s i t
  have L1 : Looks (model prog w) s.heap (typeOf (.ref x)) (.ref C) := I.type
  have L2 : Looks (model prog w) s.heap (fillsNumberSlot (.ref C) "mul") true := fills_K X hcd hmro hm
  have L3 : Looks (model prog w) s.heap (isSubtype (.ref C) (.type "int")) false := looks_subIn X hsub
  have L4 : Looks (model prog w) s.heap (numberSlotInPython (.type "int") "mul") false := Looks.of_pure rfl
  have two : wpAny (model prog w) A (tryMethod (.int i t) (PySem.dunder "mul") (.ref x)) (fun r s' => r = none ∧ s' = s) E s := by
    refine @PySem.wpAny_tryMethod_declines (model prog w) A E s (.int i t) (.ref x) "int" (PySem.dunder "mul") "int.__mul__" (fun r s' => r = none ∧ s' = s) Ty PySem.F.slot_int_mul ?_
    exact call_meets PySem.F.slot_int_mul Ty PySem.F.entry_int_mul (PySem.F.args_int_mul_2 _ _) (int_mul_ins i t x C dx sl) ⟨hx, rfl, rfl, rfl⟩
  have L0 : Looks (model prog w) s.heap (fillsNumberSlot (.type "int") "mul") true := Looks.of_pure PySem.F.fills_int_mul
  have hnee : (Value.type "int" == Value.ref C) = false := Bool.eq_false_iff.mpr fun q => by cases beq_iff_eq.mp q
  unfold binaryOp
  refine wpAny_holding (wpAny_bind ?_)
  simp only [Operator.info]
  unfold binaryOp1
  refine wpAny_bind (wpAny_typeOf Ty (wpAny_bind (L1.here (wpAny_bind (L0.here ?_)))))
  simp only [hnee, Bool.false_eq_true, if_false]
  refine wpAny_bind (L2.here ?_)
  simp only [if_true, Bool.and_self]
  refine wpAny_bind (L3.here ?_)
  simp only [Bool.false_eq_true, if_false, Bool.not_false, Bool.and_self, if_true]
  refine wpAny_bind (L4.here ?_)
  simp only [if_false, Bool.false_eq_true]
  refine wpAny_bind (wpAny_mono two (fun r s' hr' => ?_) fun _ _ e => e)
  obtain ⟨rfl, rfl⟩ := hr'
  refine wpAny_bind (wpAny_mono one (fun r s' hr' => ?_) fun _ _ e => e)
  obtain ⟨v, rfl, hqq⟩ := hr'
  exact wpAny_bind (wpAny_rule (wpAny_pure (wpAny_pure hqq)))
end
section
variable {X : Cx} {CX : CXT} {k : Nat} {C f g : Addr} {fd : FuncData} {ps : List Str} {sp : Sp} {E : L2.St → XK} {a b : Expr} {ta tb : TE} {pos : Pos}
/-- i * x -/
def tReflMul (C : Addr) (sp : Sp) (E : L2.St → XK) (ta tb : TE) : TE := fun σ H Q => ta σ H fun x Hv => tb σ Hv fun y Hw => ∃ i a dx vs, x = .int i ∧ y = .ref a ∧ SlX.Slt Hw a C dx vs ∧ sp [y, x] Hw Q (E σ)
/-- what the class must have for it: itm own __mul__ and itm own __rmul__ -/
structure ReflTxt (K : PySem.W.Frag) (C f g : Addr) : Prop where
  first : PySem.W.selfFirst K C = true
  mul : PySem.W.findIn K (.ref C) (PySem.dunder "mul") = some (some (.ref f))
  rmul : PySem.W.findIn K (.ref C) (PySem.dunderR "mul") = some (some (.ref g))
  fn : PySem.W.isFn K (.ref g) = true
  sub : PySem.W.subIn K (.ref C) (.type "int") = some false
theorem pe_reflMul (T : ReflTxt X.K C f g) (F : FnOk X.prog X.w X.K X.mg X.base CX k g fd ps sp) (hr : Room k X.A) (hb : Binds X.K fd ps []) (hx : ∀ σ, PassesAt CX X σ (E σ))
    (ha : PE X a ta) (hb' : PE X b tb) : PE X (.BinOp a .Mult b pos) (tReflMul C sp E ta tb) := by
  refine ⟨fun pns s σ H Q I h => ?_⟩
  refine wpAny_BinOp (L2.bin ha hb' I h fun v u sw x y Hw Iw rx ry q => ?_)
  obtain ⟨i, p, dx, vs, rfl, rfl, hs, q⟩ := q
  obtain ⟨t, rfl⟩ := (show ∃ t, v = Value.int i t from rx)
  cases (show u = Value.ref p from ry)
  obtain ⟨sl, od, _, J, _⟩ := SlX.slt_inst Iw hs
  obtain ⟨m, hF⟩ := Iw.fr
  refine mul_refl hF Iw.ok.mod.kin J T.first T.mul T.rmul T.fn T.sub ?_
  refine thn (run_fnS (us := [.ref p, .int i t]) (vs := [.ref p, .int i]) F hr hb (hx σ) Iw (.cons rfl (.cons ⟨t, rfl⟩ .nil)) q) fun w s' z => ?_
  obtain ⟨z', H', I', rzz, qzz⟩ := z
  exact SlX.cmpback rzz ⟨z', H', I', rzz, qzz⟩
end

/-! ### B.__init__(self, ..), B an own class over ValueError without an __init__ of itm own -/
section
variable {X : Cx} {e : Expr} {es : List Expr} {ta : TA} {x : Str} {B : Addr} {mc : Value} {p1 p2 pos : Pos}
theorem pe_binit {pl : Sem Bool} (hg : Gl X x) (hm : X.mg x = some (.ref B)) (r : ClX.CRead X.K B mc) (v : PySem.W.findCls X.K (.ref B) mc "__init__" = some (.val (.builtin "ValueError.__init__"))) (ha : PA X (e :: es) ta)
    (hdb : (x == ("__debug__" : Str)) = false := by decide)
    (hc : eval (.Call (.Attribute (.Name x p1) "__init__" p2) (e :: es) [] pos) X.env = (do
      let ov ← eval (.Name x p1) X.env
      standAt p2.atName
      let (f, first) ← holding [ov] (getMethod ov "__init__" pl)
      callWith pos f first (backTo pos (starEach (e :: es) X.env)) (backToKw pos (keywordEach [] X.env))) := by rfl)
    (hee : starEach (e :: es) X.env = (false, eval e X.env) :: starEach es X.env := by rfl) (hpl : (backTo pos (starEach es X.env)).any (·.1) = false := by rfl) :
    PE X (.Call (.Attribute (.Name x p1) "__init__" p2) (e :: es) [] pos) (tVeI X.K ta) := by
  refine ⟨fun pns s σ H Q I h => ?_⟩
  refine PySem.W.methodCall_KW (ld_glob I hg hm ?_ hdb) hc
  refine PySem.W.method_cls I.kIn r.ga (PySem.W.cls_value I.kIn r.rd v (by decide +kernel) ?_)
  show wpAny _ _ (callWith pos (Value.builtin "ValueError.__init__") [] (backTo pos (starEach (e :: es) X.env)) []) _ _ _
  refine PyProof.Rows.callWith_method1 (thn (ha.run pos pns _ σ H _ (I.tok _) h) fun us sv hh => ?_) hee hpl
  obtain ⟨vs, Hv, Iv, ru1, a, C, ws, ev, hl, T, ea, q⟩ := hh
  subst ev
  cases ru1 with
  | @cons _ u0 _ ull rla rw' =>
    obtain rfl : u0 = Value.ref a := rla
    have hlen : ull.length ≤ sizeLine := by
      rw [← Paired.length rw', sizeLine_eq]
      omega
    exact oinit_ok T Iv ea hlen fun s' J => ⟨.non, Hv, J, rfl, q⟩
end
end KR

set_option Elab.async false
set_option linter.all false
set_option maxRecDepth 100000
set_option maxHeartbeats 4000000
/-! # Rules of our own, C: try with several clauses «except X as n», one name n for all -/
namespace KR
open PySem PySem.Spec PyProof.Rows L2

/-- behind a suite the clause's name is gone -/
def endAs (i : Nat) (D : Ends) : Ends := { nx := fun τ G => D.nx (τ.set i none) G, rt := D.rt, bk := fun τ G => D.bk (τ.set i none) G, ct := fun τ G => D.ct (τ.set i none) G }
abbrev Clause := Value × (Addr → Value → Option Addr → TS)
def wClauses (K : PySem.W.Frag) (i : Nat) (Wout : WX) (D : Ends) : List Clause → WX
  | [] => Wout
  | (c, ts) :: more => fun cls d τ G => ∃ yes, PySem.W.exmOne K cls c = some yes ∧ (yes = true → ∀ a, G a = none → ts a cls d (endAs i D) (τ.set i (some (.ref a))) G) ∧ (yes = false → wClauses K i Wout D more cls d τ G)
inductive Clauses (X : Cx) (n : Str) : List ExceptHandler → List Clause → Prop
  | none : Clauses X n [] []
  | more {x : Str} {c : Value} {ts : Addr → Value → Option Addr → TS} {first : Stmt} {suite : List Stmt} {np hpo : Pos} {hdt : List ExceptHandler} {l : List Clause} (hc : Names X x c)
      (hsu : ∀ (a : Addr) (oe : Obj) (cls : Value) (d : Option Addr) (pn : List (Addr × Obj)), Zc cls d oe → (∃ vs, oe.data = .fields vs) → PSs (X.suite a ((a, oe) :: pn)) (first :: suite) (ts a cls d)) (r : Clauses X n hdt l) :
      Clauses X n (.ExceptHandler (some (.Name x np)) (some n) (first :: suite) hpo :: hdt) ((c, ts) :: l)
section
variable {X : Cx} {n : Str} {i : Nat} {body : List Stmt} {h0 : ExceptHandler} {hdt : List ExceptHandler} {l : List Clause} {pos : Pos} {tb : WX → TS} {Wout : WX}
theorem ps_try_clauses (hst : X.stack = X.env :: X.outer) (hfm : X.env.frame = some X.env.locals) (hN : X.N.Nodup) (hi : X.N[i]? = some n) (hln : X.env.kindOf n = some .local) (tk : Takes X Wout)
    (hb : ∀ (W : WX) (pn : List (Addr × Obj)) (xe : Value → Shared → Prop), Takes (X.tr pn xe) W → PassesOwn (model X.prog X.w) X.A X.env xe → PSs (X.tr pn xe) body (tb W))
    (hh : Clauses X n (h0 :: hdt) l) : PS X (.Try body (h0 :: hdt) [] [] pos) (fun D σ H => tb (wClauses X.K i Wout D l) D σ H) := by
  refine ⟨fun pns s σ H D I hw => ?_⟩
  have ok := I.ok
  have hframes : X.A.frames = some (X.env :: X.outer) := by rw [ok.frames, hst]
  have hLoc : Loc X.env.scope n := .inl hln
  refine wpAny_Try_except ?_
  refine wpAny_mono ((hb (wClauses X.K i Wout D l) (X.pn ++ pns) (fun e sv => wpAny (model X.prog X.w) X.A (noteFrame e X.env) (fun _ sw => wpAny (model X.prog X.w) X.A (setFlight e none)
    (fun _ s3 => wpAny (model X.prog X.w) X.A (handleBy e X.env (h0 :: hdt)) (SP X pns D) X.xe s3) X.xe sw) X.xe sv) (fun u s' thrown => ?_) PassesOwn.looking).run [] s σ H D (I.toTry _) hw) (fun f sv fin => ?_) (fun _ _ z => z)
  · obtain ⟨a, B, sI, pins2, τ, G, cls, d, rfl, J0, below, upto, sky, fresh, hob, bare, want⟩ := thrown
    have J : Inv X pns τ G sI := J0.ofTry ok
    have sky2 : Sky B (X.env :: X.outer) a (Zc cls d) X.env.locals s'.heap := by rw [← hst]; exact sky
    show wpAny (model X.prog X.w) X.A (noteFrame (.ref a) X.env) _ _ _
    refine Sky.land Zc.steady hframes hfm sky2 fun h3 fly3 up3 => ?_
    have J3 : Inv X pns τ G { s' with heap := h3 } := J.landed below fly3.1 (upto.trans up3) hob bare
    obtain ⟨oe3, vs3, at3, zc3, dat3⟩ := fly3.there
    have apart : a ∉ frs (X.env :: X.outer) := fun hm => by
      obtain ⟨_, o2, e2, hnf⟩ := fly3.2.2.1.mem hm
      rw [at3] at e2
      cases e2
      exact hnf _ dat3
    have nL : a ≠ X.env.locals := fun z => apart (List.mem_filterMap.mpr ⟨X.env, List.mem_cons_self, by rw [hfm, z]⟩)
    have nFs : a ∉ X.fs := fun hm => by
      obtain ⟨e, hee, q⟩ := List.mem_filterMap.mp hm
      exact apart (List.mem_filterMap.mpr ⟨e, List.mem_cons_of_mem _ hee, q⟩)
    have S3 := J3.suite at3 dat3 fresh nL nFs
    have go : ∀ {hs' : List ExceptHandler} {l' : List Clause}, Clauses X n hs' l' → wClauses X.K i Wout D l' cls d τ G →
        wpAny (model X.prog X.w) X.A (handleBy (.ref a) X.env hs') (SP X pns D) X.xe { s' with heap := h3 } := by
      intro hs' l' hk
      induction hk with
      | none =>
        intro out
        refine wpAny_handleBy_nil ?_
        obtain ⟨k1, k2, k3, oe, vs, T, oT, ts', hee, hzz, hd, h1, hr⟩ := id fly3
        unfold PySem.passOn
        refine wpAny_bind (wpAny_field hee hd h1 ?_)
        rw [if_neg (show ¬ ((Value.ref T == Value.none) = true) from by simp)]
        have lift : wpAny (model X.prog X.w) X.A (setFlight (.ref a) X.env.frame) (fun _ s4 => wpAny (model X.prog X.w) X.A (throw (.ref a) : Sem Flow) (SP X pns D) X.xe s4) X.xe { s' with heap := h3 } := by
          rw [hfm]
          refine HandSPX.setFlight_upZ fly3 fun h4 hh4 up4 => wpAny_throw (tk _ _ ?_)
          exact ⟨a, B, sI, pns, τ, G, cls, d, rfl, J, below, (upto.trans up3).trans up4, .inr (.inr (by rw [hst]; exact hh4)), fresh, hob, bare, out⟩
        first
          | exact wpAny_bind (wpAny_pure (wpAny_bind lift))
          | exact wpAny_bind lift
      | @more x c ts first suite np hpo hs2 l2 hc hsu r ih =>
        intro out
        obtain ⟨yes, hyes, whenY, whenN⟩ := out
        refine wpAny_handleBy_cons (codeAny_handlers_test ?_) (by intro q; cases q)
        have LT : PySem.W.Looks (model X.prog X.w) h3 (typeOf (.ref a)) cls := fun A Q E s k q => wpAny_typeOf_ref (k _ _ at3) (by rw [zc3.1]; exact q)
        have LM := PySem.W.exm_one (M := model X.prog X.w) J3.kIn LT hyes
        have test : ∀ {Q : Value → Shared → Prop} {E : Value → Shared → Prop}, Q c { s' with heap := h3 } → wpAny (model X.prog X.w) (X.A.mark (some (.ref a))) (eval (.Name x np) X.env) Q E { s' with heap := h3 } := fun {Q E} q => by
          obtain ⟨hg, hdb0, hm | ⟨hm, hv, hnam⟩⟩ := hc
          · exact ld_glob (X := X.suite a ((a, oe3) :: (X.pn ++ pns))) S3 hg hm q hdb0
          · exact ld_blt (X := X.suite a ((a, oe3) :: (X.pn ++ pns))) S3 hg hm hv q hnam hdb0
        refine test (LM.here ?_)
        cases yes with
        | false =>
          show wpAny _ X.A (handleBy (.ref a) X.env hs2) _ _ _
          exact ih (whenN rfl)
        | true =>
          refine codeAny_handlers_suite_as ?_
          refine HandSPX.lands_againZ fly3 fun h4 fly4 up4 => ?_
          have J4 : Inv X pns τ G { s' with heap := h4 } := J.landed below fly4.1 ((upto.trans up3).trans up4) hob bare
          obtain ⟨oe4, vs4, at4, zc4, dat4⟩ := fly4.there
          have S4 := J4.suite at4 dat4 fresh nL nFs
          refine store_ok (X := X.suite a ((a, oe4) :: (X.pn ++ pns))) (v := .ref a) S4 hN hi hLoc rfl (fun s5 S5 => ?_) (.inr hln)
          refine wpAny_mono ((hsu a oe4 cls d (X.pn ++ pns) zc4 ⟨_, dat4⟩).run [] s5 _ G _ S5 (whenY rfl a fresh)) (fun f s6 done => ?_) (fun _ _ z => False.elim z)
          have gone : ∀ {τ6 : L2.St} {G6 : Hp} {Q : Shared → Prop}, Inv (X.suite a ((a, oe4) :: (X.pn ++ pns))) [] τ6 G6 s6 → (∀ s7, Inv X pns (τ6.set i Option.none) G6 s7 → Q s7) →
              wpAny (model X.prog X.w) X.A (do bindName X.env n .none; unbindBehindTheSuite X.env n hpo) (fun _ s7 => Q s7) X.xe s6 := fun {τ6 G6 Q} S6 hqq => gone_ok (S6.unsuite ok) hN hi hln hqq
          cases f with
          | ret u =>
            obtain ⟨v6, τ6, G6, S6, r6, q6⟩ := done
            exact gone S6 fun s7 J7 => ⟨_, _, _, J7, r6, q6⟩
          | next =>
            obtain ⟨τ6, G6, S6, q6⟩ := done
            exact gone S6 fun s7 J7 => ⟨_, _, J7, q6⟩
          | brk =>
            obtain ⟨τ6, G6, S6, q6⟩ := done
            exact gone S6 fun s7 J7 => ⟨_, _, J7, q6⟩
          | cont =>
            obtain ⟨τ6, G6, S6, q6⟩ := done
            exact gone S6 fun s7 J7 => ⟨_, _, J7, q6⟩
    exact go hh want
  · cases f with
    | ret u =>
      obtain ⟨v, τ, G, J0, r, q⟩ := fin
      exact ⟨v, τ, G, J0.ofTry ok, r, q⟩
    | next =>
      obtain ⟨τ, G, J0, q⟩ := fin
      exact wpAny_execs_nil ⟨τ, G, J0.ofTry ok, q⟩
    | brk =>
      obtain ⟨τ, G, J0, q⟩ := fin
      exact ⟨τ, G, J0.ofTry ok, q⟩
    | cont =>
      obtain ⟨τ, G, J0, q⟩ := fin
      exact ⟨τ, G, J0.ofTry ok, q⟩
end
end KR

set_option Elab.async false
set_option linter.all false
set_option maxRecDepth 100000
set_option maxHeartbeats 4000000
/-! # Rules of our own, D: a tuple backwards by a slice; a tuple times 0 or 1 -/
namespace KR
open PySem PySem.Spec PyProof.Rows L2 HT

section
variable {prog : Program} {w : World} {A : Around} {E : Value → Shared → Prop} {s : Shared}
theorem applied_back {sl : Addr} {u : Tok} {n : Nat} {Q : Int × Int × Nat → Shared → Prop} (hs : s.heap.IsSliceOf sl .none .none (.int (-1) u))
    (h : Q ((n : Int) - 1, -1, n) s) : wpAny (model prog w) A (Builtin.Slice.sliceApplied (.ref sl) (pure (n : Int))) Q E s := by
  obtain ⟨os, hob, hcl, hdt⟩ := id hs
  unfold Builtin.Slice.sliceApplied Builtin.Slice.sliceFields
  refine wpAny_bind (wpAny_bind (wpAny_field hob hdt (x := .none) rfl (wpAny_bind (wpAny_field hob hdt (x := .none) rfl (wpAny_bind (wpAny_field hob hdt (x := .int (-1) u) rfl (wpAny_pure ?_)))))))
  refine wpAny_bind (slicePart_int ?_)
  show wpAny _ _ (if ((-1 : Int) == 0) = true then _ else _) _ _ s
  rw [if_neg (by decide)]
  refine wpAny_bind (slicePart_none (wpAny_bind (slicePart_none (wpAny_bind (wpAny_pure ?_)))))
  have e : Builtin.Slice.slicePlaces ((n : Int) - 1) (-1) (-1) = n := by
    unfold Builtin.Slice.slicePlaces
    rw [if_neg (by decide)]
    by_cases hn : n = 0
    · subst hn
      rfl
    · rw [if_pos (by omega)]
      have : ((n : Int) - 1 - -1 - 1) / (- -1) + 1 = n := by
        rw [show (- -1 : Int) = 1 from rfl, Int.ediv_one]
        omega
      rw [this]
      omega
  show wpAny _ _ (pure ((n : Int) - 1, (-1 : Int), Builtin.Slice.slicePlaces ((n : Int) - 1) (-1) (-1))) _ _ s
  rw [e]
  exact wpAny_pure h
theorem pick_back (xs : Array Value) : ((List.range xs.size).filterMap fun (m : Nat) => xs[((xs.size : Int) - 1 + (m : Int) * -1).toNat]?).toArray = xs.toList.reverse.toArray := by
  congr 1
  apply List.ext_getElem?
  intro i
  have e1 : ∀ k, k ≤ xs.size → ((List.range k).filterMap fun (m : Nat) => xs[((xs.size : Int) - 1 + (m : Int) * -1).toNat]?) = (xs.toList.reverse.take k) := by
    intro k
    induction k with
    | zero => intro _; rfl
    | succ k ih =>
      intro hk
      rw [List.range_succ, List.filterMap_append, ih (by omega)]
      have hlt3 : k < xs.toList.reverse.length := by rw [List.length_reverse, Array.length_toList]; omega
      rw [List.take_add_one, List.getElem?_eq_getElem hlt3]
      have e3 : ((xs.size : Int) - 1 + (k : Int) * -1).toNat = xs.size - 1 - k := by omega
      simp only [List.filterMap_cons, List.filterMap_nil, e3]
      have h4 : xs.size - 1 - k < xs.size := by omega
      rw [Array.getElem?_eq_getElem h4]
      simp [List.getElem_reverse]
  rw [e1 _ (Nat.le_refl _), List.take_of_length_le (by rw [List.length_reverse, Array.length_toList]; exact Nat.le_refl _)]
theorem getItem_tuple_back {t sl : Addr} {items : Array Value} {u : Tok} {Q : Value → Shared → Prop} (ht : IsTup s.heap t items) (hs : s.heap.IsSliceOf sl .none .none (.int (-1) u))
    (h : Q (.ref s.heap.objs.size) { s with heap := s.heap.push { cls := .type "tuple", data := .seq items.toList.reverse.toArray } })
    (hsiz : items.size ≤ sizeLine) : wpAny (model prog w) A (getItem (.ref t) (.ref sl)) Q E s := by
  have hok : sizeOk (.seq items.toList.reverse.toArray) := by
    show items.toList.reverse.toArray.size ≤ sizeLine
    rw [List.size_toArray, List.length_reverse, Array.length_toList]
    exact hsiz
  obtain ⟨os, hob, hcl, hdt⟩ := id hs
  have slT : s.TypeIs (.ref sl) "slice" := ⟨os, hob, hcl⟩
  unfold getItem
  try with_reducible refine wpAny_holding ?_
  first | refine wpAny_bind (wpAny_pure ?_) | skip
  refine wpAny_bind (wpAny_sequenceKey ht.typeIs (by decide) ?_)
  refine wpAny_bind (wpAny_callSpecial?_slot (name := Str.ofString "__getitem__") ht.typeIs PyProof.Rows.slot_tuple_getitem
    (wpAny_call_entry PyProof.Rows.slot_tuple_getitem ht.typeIs PyProof.Rows.entry_tuple_getitem ?_ (PyProof.Rows.args_tuple_getitem _ _)))
  show wpAny _ _ (Builtin.Tuple.tupleItemsOf (.ref t) >>= _) _ _ s
  refine wpAny_bind (tupleItemsOf_ ht ?_)
  refine wpAny_bind (wpAny_typeOf slT ?_)
  rw [if_pos (by decide)]
  refine wpAny_bind (applied_back hs ?_)
  have no : ¬ ((((items.size : Int) - 1 == 0) && ((-1 : Int) == 1) && (items.size == items.size)) = true) := by
    rw [show ((-1 : Int) == 1) = false from rfl, Bool.and_false, Bool.false_and]
    exact Bool.false_ne_true
  show wpAny _ _ (if (((items.size : Int) - 1 == 0) && ((-1 : Int) == 1) && (items.size == items.size)) = true then _ else _) _ _ s
  rw [if_neg no, pick_back]
  first
    | exact wpAny_bind (m := Builtin.Tuple.tupleExact _) (wpAny_newObj_type (wpAny_pure ⟨_, rfl, wpAny_pure h⟩) hok)
    | exact wpAny_bind (m := Builtin.Tuple.tupleExact _) (wpAny_newObj_type (wpAny_bind (wpAny_pure (wpAny_pure ⟨_, rfl, wpAny_pure h⟩))) hok)
    | exact wpAny_bind (wpAny_bind (m := Builtin.Tuple.tupleExact _) (wpAny_newObj_type (wpAny_pure (wpAny_pure ⟨_, rfl, wpAny_pure h⟩)) hok))
    | exact wpAny_bind (wpAny_bind (m := Builtin.Tuple.tupleExact _) (wpAny_newObj_type (wpAny_pure ⟨_, rfl, wpAny_pure h⟩) hok))
end
/-- t[::-1] -/
def tBackT (K : PySem.W.Frag) (te : TE) : TE := fun σ H Q => te σ H fun x Hv => ∃ a xs, x = .ref a ∧ SqT K Hv a xs ∧ ∀ p, Hv p = none → Q (.ref p) (upd Hv p (.tup xs.reverse))
section
variable {X : Cx}
theorem pe_backT {e : Expr} {te : TE} {k : Nat} {p1 p2 p3 pos : Pos} (hee : PE X e te) : PE X (.Subscript e (.Slice none none (some (.UnaryOp .USub (.Constant (.int 1) k p1) p2)) p3) pos) (tBackT X.K te) := by
  refine ⟨fun pns s σ H Q I h => ?_⟩
  refine Subscript_ (thn (hee.run pns s σ H _ I h) fun v sv ⟨x, Hv, Iv, ru1, qv⟩ => ?_)
  obtain ⟨a, xs, ex, hx, q⟩ := qv
  subst ex
  cases ru1
  have hst : PO X (some (.UnaryOp .USub (.Constant (.int 1) k p1) p2)) (tPart (tUn (rU fun i => .int (-i)) (tC (.int 1)))) := po_some (pe_un un_neg pe_int)
  refine wpAny_Slice (thn (po_none.run pns sv σ Hv (fun o G => o = none ∧ G = Hv) Iv ⟨rfl, rfl⟩) fun vl sw ⟨l, Hw, Iw, pl, el, e2⟩ => ?_)
  subst el e2
  refine thn (po_none.run pns sw σ Hw (fun o G => o = none ∧ G = Hw) Iw ⟨rfl, rfl⟩) fun vu s3 ⟨u, H3, I3, pu, eu, e3⟩ => ?_
  subst eu e3
  refine thn (hst.run pns s3 σ H3 (fun o G => o = some (-1) ∧ G = H3) I3 ⟨1, rfl, -1, rfl, rfl, rfl⟩) fun vs s4 ⟨o, H4, I4, ps, eo, e4⟩ => ?_
  subst eo e4
  cases pl
  cases pu
  cases ps with
  | int _ tk =>
  have I5 : Inv X pns σ H4 { s4 with heap := s4.heap.push { cls := .type "slice", data := .fields #[.none, .none, .int (-1) tk] } } := I4.kept (t' := s4.toks) fun b ob q => Heap.get?_push_of_some _ q
  obtain ⟨itm, r, ht, hzz⟩ := I5.tuple hx
  have hlen := r.length
  show wpAny (model X.prog X.w) X.A (subscriptTail e (.Slice none none (some (.UnaryOp .USub (.Constant (.int 1) k p1) p2)) p3) (.ref a) (.ref s4.heap.objs.size)) (EP X pns σ Q) X.xe { s4 with heap := s4.heap.push { cls := .type "slice", data := .fields #[.none, .none, .int (-1) tk] } }
  refine tail_any (ops := [.ref a, .ref s4.heap.objs.size]) ht.typeIs (PyProof.Rows.slot_tuple_getitem.lookup) ?_ (by with_unfolding_all rfl)
  refine getItem_tuple_back ht (Heap.IsSliceOf.new _ .none .none (.int (-1) tk)) ?_ (by rw [List.size_toArray]; omega)
  refine ⟨.ref _, _, I5.laid (t' := s4.toks) (o := .tup xs.reverse) (fun b ob q => Heap.get?_push_of_some _ q) (Nat.le_refl _) ?_, rfl, q _ (I5.hok.fresh (Nat.le_refl _))⟩
  exact ⟨by rw [List.length_reverse]; exact hzz, _, r.reverse, IsTup.new _ _⟩
end
/-! ### a tuple times an int from 0 on -/
theorem tuple_mul_one (l : Addr) (items : Array Value) (n : Nat) (dd : Option Addr) (sl : Array (Option Value)) (u : Tok) :
    Meets (Builtin.«tuple.__mul__» ⟨[.ref l, .int 1 u], []⟩) (fun _ R s => s.heap.get? l = some { cls := .type "tuple", dict := dd, data := .seq items n, slots := sl } ∧ R (.ok (.ret (Value.ref l))) s) :=
  .of_wp fun prog w A R s h => by
    obtain ⟨hpo, g, d, tk, os⟩ := s
    obtain ⟨hl, h⟩ := h
    have g1 := AutoSeq1.idx_int
    wp_walk using wpAny_loadPart' hl
    repeat (first
      | (refine wpAny_ite_false (by decide) ?_; wp_walk using wpAny_loadPart' hl)
      | (refine wpAny_ite_true (by simp) ?_; wp_walk using wpAny_loadPart' hl))
    exact ⟨_, rfl, h⟩
theorem tuple_mul_zero (l : Addr) (items : Array Value) (n : Nat) (dd : Option Addr) (sl : Array (Option Value)) (u : Tok) (hee : items.isEmpty = false) :
    Meets (Builtin.«tuple.__mul__» ⟨[.ref l, .int 0 u], []⟩) (fun _ R s => s.heap.get? l = some { cls := .type "tuple", dict := dd, data := .seq items n, slots := sl } ∧
      R (.ok (.ret (Value.ref s.heap.objs.size))) { s with heap := s.heap.push { cls := Value.type "tuple", data := Data.seq #[] }, toks := s.toks }) :=
  .of_wp fun prog w A R s h => by
    obtain ⟨hpo, g, d, tk, os⟩ := s
    obtain ⟨hl, h⟩ := h
    have g1 := AutoSeq1.idx_int
    wp_walk using wpAny_loadPart' hl
    exact ⟨_, rfl, h⟩
/-- t * k, 0 ≤ k, t not empty: once it is t itself -/
def rTimes (K : PySem.W.Frag) : R2 := fun x y H Q => ∃ l k xs, x = .ref l ∧ y = .int k ∧ SqT K H l xs ∧ xs ≠ [] ∧ 0 ≤ k ∧ k ≤ 1000 ∧ xs.length ≤ 1000 ∧
  (k = 1 → Q (.ref l) H) ∧ (k ≠ 1 → ∀ p, H p = none → Q (.ref p) (upd H p (.tup (List.replicate k.toNat xs).flatten)))
section
variable {X : Cx}
theorem op_times : OpR X (binaryOp .Mult) (rTimes X.K) := by
  intro pns s σ H x y v u Q I rx ry h
  obtain ⟨l, k, xs, rfl, rfl, hT, hnee, h0, h1, hzz, qv, qw⟩ := h
  by_cases hk : 2 ≤ k
  · exact op_repT pns s σ H _ _ v u Q I rx ry ⟨l, k, xs, rfl, rfl, hT, hnee, hk, h1, hzz, qw (by omega)⟩
  · cases rx
    obtain ⟨t, rfl⟩ := ry
    obtain ⟨itm, r, ⟨⟨cls, dd, data, sl⟩, ho, hc, n, hd⟩, hs⟩ := I.tuple hT
    simp only at hc hd
    subst hc hd
    have hi : itm.toArray.isEmpty = false := by
      cases itm with
      | nil => cases r; exact absurd rfl hnee
      | cons a b => rfl
    have road : ∀ {Q' : Value → Shared → Prop}, wpAny (model X.prog X.w) X.A (call (.builtin "tuple.__mul__") [.ref l, .int k t]) Q' X.xe s → wpAny (model X.prog X.w) X.A (binaryOp .Mult (.ref l) (.int k t)) Q' X.xe s := fun {Q'} hqq =>
      wpAny_binaryOp_repeat_ref (T := "tuple") (U := "int") (by decide) ⟨_, ho, rfl⟩ (fun s' => typeIs_int s' k t) noFill_tuple_mul PySem.F.fills_int_mul PySem.F.slot_int_rmul repeat_tuple PySem.F.slot_int_index.lookup
        (call_meets PySem.F.slot_int_rmul (typeIs_int s k t) PySem.F.entry_int_rmul (PySem.F.args_int_rmul_2 _ _) (int_rmul_tuple k t l itm.toArray n dd sl) ⟨ho, rfl, ⟨_, ho, rfl⟩, hqq⟩)
    refine road ?_
    have hk2 : k = 0 ∨ k = 1 := by omega
    rcases hk2 with rfl | rfl
    · refine call_meets PySem.F.slot_tuple_mul ⟨_, ho, rfl⟩ PySem.F.entry_tuple_mul (PySem.F.args_tuple_mul_2 _ _) (tuple_mul_zero l itm.toArray n dd sl t hi) ⟨ho, ?_⟩
      refine ⟨.ref s.heap.objs.size, _, I.laid (t' := s.toks) (o := .tup []) (fun b ob q => Heap.get?_push_of_some _ q) (Nat.le_refl _) ?_, rfl, qw (by decide) _ (I.hok.fresh (Nat.le_refl _))⟩
      exact ⟨Nat.zero_le _, [], .nil, IsTup.new _ _⟩
    · refine call_meets PySem.F.slot_tuple_mul ⟨_, ho, rfl⟩ PySem.F.entry_tuple_mul (PySem.F.args_tuple_mul_2 _ _) (tuple_mul_one l itm.toArray n dd sl t) ⟨ho, ?_⟩
      exact ⟨.ref l, H, I, rfl, qv rfl⟩
end
end KR

set_option Elab.async false
set_option linter.all false
set_option maxRecDepth 100000
set_option maxHeartbeats 4000000
/-! # Rules of our own, F: what is walked: a list or a tuple; enumerate of either; zip of a tuple and a list -/
namespace KR
open PySem PySem.Spec PyProof.Rows L2

/-! ### a list or a tuple -/
def SqA (K : PySem.W.Frag) (H : Hp) (a : Addr) (xs : List V) : Prop := SqL K H a xs ∨ SqT K H a xs
theorem sameT {K : PySem.W.Frag} {H H' : Hp} {a : Addr} {xs : List V} (e : Same H H') (h : SqT K H a xs) : SqT K H' a xs := by
  rcases h with (h | ⟨o, h⟩) | h
  · exact .inl (.inl (e _ _ h))
  · exact .inl (.inr ⟨o, e _ _ h⟩)
  · exact .inr h
theorem sameA {K : PySem.W.Frag} {H H' : Hp} {a : Addr} {xs : List V} (e : Same H H') (h : SqA K H a xs) : SqA K H' a xs := h.imp e.seq (sameT e)
/-- told by a walk: G is what must stand -/
abbrev TellW (n : Nat) (Y : Nat → Hp → V → Hp → Prop) (H : Hp) (R : It → Hp → Prop) : Prop :=
  ∀ (J : It) (G : Hp → Prop), G H → (∀ Hv Hw, Same Hv Hw → G Hv → G Hw) → Walk J n G Y → R J H
def iSeqA (K : PySem.W.Frag) (te : TE) : TI := fun σ H R => te σ H fun x Hv => ∃ a xs, x = .ref a ∧ SqA K Hv a xs ∧ TellW xs.length (YAt xs) Hv R
section
variable {X : Cx} {tg : Expr}
theorem pi_seqA {l : Expr} {tl : TE} (hl : PE X l tl) : PI X tg l (iSeqA X.K tl) := by
  refine ⟨fun pns s σ H R I h => ?_⟩
  refine thn (hl.run pns s σ H _ I h) fun v sv ⟨x, Hv, Iv, ru1, a, xs, ex, hqq, q⟩ => ?_
  subst ex
  cases ru1
  have fresh : ∀ b ∈ [sv.heap.objs.size], FpOk X pns Hv b := fun b hb => by
    have e : b = sv.heap.objs.size := List.mem_singleton.mp hb
    subst e
    exact Iv.fpOk (Nat.le_refl _) (Iv.hok.fresh (Nat.le_refl _))
  rcases hqq with hqq | hqq
  · obtain ⟨itm, rvv, p, _⟩ := Iv.list hqq
    refine wpAny_pyIter_list p.isList ?_
    exact ⟨sv.heap.objs.size, [sv.heap.objs.size], _, _, Hv, rfl, Iv.kept (t' := sv.toks) fun b o e => Heap.get?_push_of_some _ e, turn_list a _, ⟨_, Heap.get?_push_size _ rfl, rfl, rfl⟩, fresh,
      q (Itl X.K a) (fun G => SqL X.K G a xs) hqq (fun _ _ => Same.seq) walk_list⟩
  · obtain ⟨itm, rvv, p, _⟩ := Iv.tuple hqq
    refine wpAny_pyIter_tuple (show sv.heap.IsTuple a itm.toArray from p) ?_
    exact ⟨sv.heap.objs.size, [sv.heap.objs.size], _, _, Hv, rfl, Iv.kept (t' := sv.toks) fun b o e => Heap.get?_push_of_some _ e, turn_tuple a _, ⟨_, Heap.get?_push_size _ rfl, rfl, rfl⟩, fresh,
      q (Itt X.K a) (fun G => SqT X.K G a xs) hqq (fun _ _ => sameT) walk_tup⟩
end

/-! ### enumerate(tuple) -/
theorem enum_new_tuple (l : Addr) (items : Array Value) (n : Nat) (dcc : Option Addr) (sl : Array (Option Value)) :
    Meets (Builtin.«enumerate.__new__» ⟨[.type "enumerate", .ref l], []⟩) (fun _ R s => s.heap.get? l = some { cls := .type "tuple", dict := dcc, data := .seq items n, slots := sl } ∧
      R (.ok (.ret (.ref (s.heap.push { cls := .type "tuple_iterator", data := .fields #[.ref l, .int 0 0] }).objs.size)))
        { s with heap := (s.heap.push { cls := .type "tuple_iterator", data := .fields #[.ref l, .int 0 0] }).push { cls := .type "enumerate", data := .fields #[.none, .bool false, .ref s.heap.objs.size, rawInt 0, .none, .none] } }) :=
  .of_wp fun prog w A R s h => by
    obtain ⟨hpo, g, d, tk, os⟩ := s
    obtain ⟨hl, h⟩ := h
    have hsub := sub_enumerate
    have hT : Heap.IsTuple (Shared.heap ⟨hpo, g, d, tk, os⟩) l items := ⟨_, hl, rfl, n, rfl⟩
    wp_walk using AutoSeq1.wpAny_loadPart' hl
    refine wpAny_stack_any fun stt => wpAny_pure ?_
    split
    · rename_i c _ _ _ _ _
      cases (c == Value.type "enumerate")
      · wp_walk using AutoSeq1.wpAny_loadPart' hl, wpAny_pyIter_tuple hT
        exact ⟨_, rfl, h⟩
      · wp_walk using AutoSeq1.wpAny_loadPart' hl, wpAny_pyIter_tuple hT
        exact ⟨_, rfl, h⟩
    · wp_walk using AutoSeq1.wpAny_loadPart' hl, wpAny_pyIter_tuple hT
      exact ⟨_, rfl, h⟩
section
variable {prog : Program} {w : World} {A : Around} {E : Value → Shared → Prop} {s : Shared}
theorem call_enum_tuple {l : Addr} {items : Array Value} {Q : Value → Shared → Prop} (hLs : s.heap.IsTuple l items)
    (h : ∀ h', IsEnum h' (s.heap.objs.size + 1) s.heap.objs.size 0 .none → h'.IsTupleIter s.heap.objs.size l 0 →
      (∀ b o, s.heap.get? b = some o → h'.get? b = some o) → Q (.ref (s.heap.objs.size + 1)) { s with heap := h' }) :
    wpAny (model prog w) A (call (.type "enumerate") [.ref l]) Q E s := by
  obtain ⟨⟨c, dcc, dat, sl⟩, hl, hc, n, hd⟩ := hLs
  replace hc : c = .type "tuple" := hc
  replace hd : dat = .seq items n := hd
  subst hc hd
  refine callType_new PySem.F.called_enumerate (by decide) (PySem.F.typeCall_enumerate_1 _) (PySem.F.newCall_enumerate_1 _) (fun obj => PySem.F.args_object_init_2 obj _) PySem.F.entry_enumerate_new
    (enum_new_tuple l items n dcc sl) ⟨hl, ?_⟩
  have hzz : (s.heap.push { cls := .type "tuple_iterator", data := .fields #[.ref l, .int 0 0] }).objs.size = s.heap.objs.size + 1 := Heap.size_push ..
  show _ ∧ _
  rw [hzz]
  have hee : IsEnum ((s.heap.push { cls := .type "tuple_iterator", data := .fields #[.ref l, .int 0 0] }).push
      { cls := .type "enumerate", data := .fields #[.none, .bool false, .ref s.heap.objs.size, rawInt 0, .none, .none] }) (s.heap.objs.size + 1) s.heap.objs.size 0 .none := by
    have e1 := Heap.get?_push_size (s.heap.push { cls := .type "tuple_iterator", data := .fields #[.ref l, .int 0 0] })
      (o := { cls := .type "enumerate", data := .fields #[.none, .bool false, .ref s.heap.objs.size, rawInt 0, .none, .none] }) rfl
    rw [hzz] at e1
    exact e1
  exact ⟨⟨_, hee, rfl⟩, h _ hee ⟨_, Heap.get?_push_of_some _ (Heap.get?_push_size _ rfl), rfl, rfl⟩ fun b o x => Heap.get?_push_of_some _ (Heap.get?_push_of_some _ x)⟩
end
/-- the tuple at a, each item in a newo pair with itm number -/
def IteT (K : PySem.W.Frag) (a : Addr) : It :=
  ⟨fun i H => ∃ (xs : List V) (x : V), SqT K H a xs ∧ xs[i]? = some x, fun i H v H' => ∃ T x, v = .ref T ∧ H T = none ∧ H' = upd H T (.tup [.int (i : Nat), x]) ∧ ∀ xs, SqT K H a xs → xs[i]? = some x, fun i H => ∃ xs : List V, SqT K H a xs ∧ xs.length = i⟩
theorem apart_cls {h : Heap} {a b : Addr} {oa ob : Obj} (ha : h.get? a = some oa) (hb : h.get? b = some ob) (hc : oa.cls ≠ ob.cls) : a ≠ b := fun e => by
  rw [e, hb] at ha
  cases ha
  exact hc rfl
theorem turn_enumT {P : Program} {w : World} {K : PySem.W.Frag} {elts : List Expr} {kk : Nat} {tpos : Pos} (a e it : Addr) :
    Turn P w K (.Tuple elts kk tpos) (IteT K a) [e, it] e (fun i h => (∃ oldv, IsEnum h e it ((i : Nat) : Int) oldv) ∧ h.IsTupleIter it a i ∧ e ≠ it) where
  mem := by simp
  obj := fun i h stt b hb => by
    obtain ⟨⟨oldv, hee⟩, ⟨o, ho, hc, hd⟩, _⟩ := stt
    rcases (by simpa using hb : b = e ∨ b = it) with z | z
    · rw [z]
      exact ⟨_, hee, fun v q => nomatch q⟩
    · rw [z]
      exact ⟨o, ho, fun v q => by rw [hd] at q; cases q⟩
  keep := fun i h h' stt k => let ⟨⟨oldv, hee⟩, hi, hnee⟩ := stt; ⟨⟨oldv, k e (by simp) _ hee⟩, hi.at fun o q => k it (by simp) o q, hnee⟩
  item := by
    intro X hP hw hK hc i pns s σ H E I hf stt hg
    subst hP hw hK
    obtain ⟨⟨oldv, hee⟩, hitt, hnee⟩ := stt
    obtain ⟨xs, x, hqq, hx⟩ := hg
    obtain ⟨itm, rvv, p, hzz⟩ := I.tuple hqq
    obtain ⟨u, huu, ru⟩ := rvv.get hx
    obtain ⟨oi, hoi, hci, hdi⟩ := id hitt
    obtain ⟨oa, hoa, hca, _⟩ := id p
    have hlt1 : e < s.heap.objs.size := Heap.lt_size hee
    have hil : it < s.heap.objs.size := Heap.lt_size hoi
    have hai : a ≠ it := apart_cls hoa hoi (by rw [hca, hci]; decide)
    have hea : e ≠ a := apart_cls hee hoa (by rw [hca]; show Value.type "enumerate" ≠ Value.type "tuple"; decide)
    have hlt3 : i < itm.toArray.size := by
      have q := (List.getElem?_eq_some_iff.mp huu).1
      rw [List.size_toArray]
      exact q
    have hh : X.A.in1.handled = none := I.ok.hd hc
    refine wpAny_pyNext_enum_itemD (Draws.tuple hh it a hai itm.toArray) hee ⟨hitt, p⟩ hlt3 hnee (by simp [hnee, hea]) fun y h' tk hP ho st' hT hsiz hk => ?_
    have eu : u = y := by
      have q : itm.toArray[i]? = some y := hP
      rw [List.getElem?_toArray, huu] at q
      exact Option.some.inj q
    subst eu
    refine ⟨_, rfl, wpAny_letOwnedTupleGo_enum (s := { s with heap := h', toks := tk + 1 }) ho fun h'' he' sb => ?_⟩
    have hTt : h''.get? s.heap.objs.size = some { cls := .type "tuple", data := .seq #[.int i tk, u] } := (sb.2 _ (Nat.ne_of_gt hlt1)).trans hT
    have newo : ObjOk X.prog X.w (upd H s.heap.objs.size (.tup [.int (i : Nat), x])) h'' s.heap.objs.size (.tup [.int (i : Nat), x]) :=
      ⟨by show 2 ≤ sizeLine; decide, [.int i tk, u], .cons ⟨_, rfl⟩ (.cons ru .nil), ⟨_, hTt, rfl, _, rfl⟩⟩
    have Iv : Inv X pns σ (upd H s.heap.objs.size (.tup [.int (i : Nat), x])) { s with heap := h'', toks := tk + 1 } :=
      I.turnedNew (ch := [e, it]) (fun b ob hb q => (sb.2 b (fun z => hb (by simp [z]))).trans (hk b ob (fun z => hb (by simp [z])) (fun z => hb (by simp [z])) q)) hf (Nat.le_refl _) newo
    refine ⟨.ref s.heap.objs.size, _, Iv, rfl, ⟨_, x, rfl, I.hok.fresh (Nat.le_refl _), rfl, fun ys hy => by rw [I.tuple_inj hy hqq]; exact hx⟩, ⟨⟨u, ?_⟩, st'.1.at fun o q => (sb.2 it (Ne.symm hnee)).trans q, hnee⟩, fun b hb => ?_⟩
    · rw [show ((i + 1 : Nat) : Int) = (i : Int) + 1 by omega]
      exact he'
    · have hb' : b < s.heap.objs.size := by
        rcases (by simpa using hb : b = e ∨ b = it) with z | z
        · rw [z]; exact hlt1
        · rw [z]; exact hil
      rw [upd_ne (Nat.ne_of_lt hb')]
      exact (hf b hb).1
  done := by
    intro X hP hw hK hc i pns s σ H E I hf stt hg
    subst hP hw hK
    obtain ⟨⟨oldv, hee⟩, hitt, hnee⟩ := stt
    obtain ⟨xs, hqq, hx⟩ := hg
    obtain ⟨itm, rvv, p, hzz⟩ := I.tuple hqq
    obtain ⟨g0, g1, g2, g3, g4, g5⟩ := hf it (by simp)
    obtain ⟨oi, hoi, hci, hdi⟩ := id hitt
    obtain ⟨oa, hoa, hca, _⟩ := id p
    have hai : a ≠ it := apart_cls hoa hoi (by rw [hca, hci]; decide)
    have hh : X.A.in1.handled = none := I.ok.hd hc
    have hn : i = itm.toArray.size := by rw [List.size_toArray, ← rvv.length, hx]
    refine wpAny_pyNext_enum_endD (n := itm.toArray.size) (Draws.tuple hh it a hai itm.toArray) hee ⟨?_, p⟩ fun h' eb => ⟨rfl, I.turned (t' := s.toks) (fun b o hb q => eb b o hb q) g0 g1 g3 g4 g5⟩
    rw [← hn]
    exact hitt
  self := fun A i s Q E stt h => let ⟨⟨_, hee⟩, _⟩ := stt; wpAny_pyIter_enum hee h
theorem walk_enumT {K : PySem.W.Frag} {a : Addr} {xs : List V} : Walk (IteT K a) xs.length (fun H => SqT K H a xs) (YPair (fun i => some (.int (i : Nat))) (fun i => xs[i]?)) := by
  refine ⟨fun i _ hi q => ⟨xs, xs[i], q, by simp [hi]⟩, fun _ q => ⟨xs, q, rfl⟩, fun i H v H' _ q y => ?_⟩
  obtain ⟨T, x, h1, h2, h3, h4⟩ := y
  exact ⟨T, .int (i : Nat), x, h1, h2, h3, rfl, h4 xs q⟩
/-- enumerate of a list or a tuple -/
def iEnumA (K : PySem.W.Frag) (ta : TA) : TI := fun σ H R => ta σ H fun vs Hv => ∃ a xs, vs = [.ref a] ∧ SqA K Hv a xs ∧ TellW xs.length (YPair (fun i => some (.int (i : Nat))) (fun i => xs[i]?)) Hv R
theorem pi_enumA {X : Cx} {e : Expr} {ta : TA} {p pos tpos : Pos} {elts : List Expr} {kk : Nat} (hg : Gl X "enumerate") (hm : X.mg "enumerate" = none) (ha : PA X [e] ta) (hs : starEach [e] X.env = [(false, eval e X.env)] := by rfl) :
    PI X (.Tuple elts kk tpos) (.Call (.Name "enumerate" p) [e] [] pos) (iEnumA X.K ta) := by
  refine ⟨fun pns s σ H R I h => ?_⟩
  refine Call_ (ld_blt I hg hm boot_enumerate (PyProof.Rows.callWith_type1 (thn (ha.run pos pns s σ H _ I h) fun us sv ⟨vs, Hv, Iv, ru1, qv⟩ => ?_) hs rfl))
  obtain ⟨a, xs, ex, hqq, q⟩ := qv
  subst ex
  cases ru1 with
  | cons r rr =>
    cases rr
    cases r
    have fresh : ∀ b ∈ [sv.heap.objs.size + 1, sv.heap.objs.size], FpOk X pns Hv b := fun b hb => by
      have hlow : sv.heap.objs.size ≤ b := by
        rcases (by simpa using hb : b = sv.heap.objs.size + 1 ∨ b = sv.heap.objs.size) with z | z
        · rw [z]; exact Nat.le_succ _
        · rw [z]; exact Nat.le_refl _
      exact Iv.fpOk hlow (Iv.hok.fresh hlow)
    rcases hqq with hqq | hqq
    · obtain ⟨itm, rvv, p', hzz⟩ := Iv.list hqq
      refine call_enumerate_list p'.isList fun h' hee hitt hsiz hk => wpAny_pyIter_enum hee ?_
      have Iw : Inv X pns σ Hv { sv with heap := h' } := Iv.kept (t' := sv.toks) hk
      exact ⟨sv.heap.objs.size + 1, [sv.heap.objs.size + 1, sv.heap.objs.size], _, _, Hv, rfl, Iw, turn_enum a (sv.heap.objs.size + 1) sv.heap.objs.size, ⟨⟨.none, hee⟩, hitt, Nat.succ_ne_self _⟩, fresh,
        q (Ite X.K a) (fun G => SqL X.K G a xs) hqq (fun _ _ => Same.seq) walk_enum⟩
    · obtain ⟨itm, rvv, p', hzz⟩ := Iv.tuple hqq
      refine call_enum_tuple (show sv.heap.IsTuple a itm.toArray from p') fun h' hee hitt hk => wpAny_pyIter_enum hee ?_
      have Iw : Inv X pns σ Hv { sv with heap := h' } := Iv.kept (t' := sv.toks) hk
      exact ⟨sv.heap.objs.size + 1, [sv.heap.objs.size + 1, sv.heap.objs.size], _, _, Hv, rfl, Iw, turn_enumT a (sv.heap.objs.size + 1) sv.heap.objs.size, ⟨⟨.none, hee⟩, hitt, Nat.succ_ne_self _⟩, fresh,
        q (IteT X.K a) (fun G => SqT X.K G a xs) hqq (fun _ _ => sameT) walk_enumT⟩
end KR

set_option Elab.async false
set_option linter.all false
set_option maxRecDepth 100000
set_option maxHeartbeats 4000000
/-! # Rules of our own, G: zip of a tuple and a list; sum of a tuple -/
namespace KR
open PySem PySem.Spec PyProof.Rows L2

/-- the tuple at a and the list at b, their items in newo pairs -/
def ItzM (K : PySem.W.Frag) (a b : Addr) : It :=
  ⟨fun i H => ∃ (xs ys : List V) (x y : V), SqT K H a xs ∧ SqL K H b ys ∧ xs[i]? = some x ∧ ys[i]? = some y,
    fun i H v H' => ∃ T x y, v = .ref T ∧ H T = none ∧ H' = upd H T (.tup [x, y]) ∧ (∀ xs, SqT K H a xs → xs[i]? = some x) ∧ ∀ ys, SqL K H b ys → ys[i]? = some y,
    fun i H => ∃ xs ys : List V, SqT K H a xs ∧ SqL K H b ys ∧ xs.length = i ∧ ys.length = i⟩
theorem in5 {c z a b d e : Addr} (h : c ∈ [z, a, b, d, e]) : c = z ∨ c = a ∨ c = b ∨ c = d ∨ c = e := by simpa using h
theorem turn_zipM {P : Program} {w : World} {K : PySem.W.Frag} {elts : List Expr} {kk : Nat} {tpos : Pos} {a b z TI To i1 i2 : Addr} (S : ZipSep2 z TI To i1 i2 [i1, a] [i2, b]) :
    Turn P w K (.Tuple elts kk tpos) (ItzM K a b) [z, TI, To, i1, i2] z (fun i h => IsZip h z TI To .none ∧ IsTupOf2 h TI (.ref i1) (.ref i2) ∧ (∃ x y, IsTupOf2 h To x y) ∧ h.IsTupleIter i1 a i ∧ h.IsListIter i2 b i) where
  mem := by simp
  obj := fun i h stt c hc => by
    obtain ⟨hzz, hTi, ⟨x, y, hTo⟩, ⟨o1, e1, _, d1⟩, ⟨o2, e2, _, d2⟩⟩ := stt
    rcases in5 hc with q | q | q | q | q <;> subst q
    · exact ⟨_, hzz, fun v q => nomatch q⟩
    · exact ⟨_, hTi, fun v q => nomatch q⟩
    · exact ⟨_, hTo, fun v q => nomatch q⟩
    · exact ⟨o1, e1, fun v q => by rw [d1] at q; cases q⟩
    · exact ⟨o2, e2, fun v q => by rw [d2] at q; cases q⟩
  keep := fun i h h' stt k => by
    obtain ⟨hzz, hTi, ⟨x, y, hTo⟩, h1, h2⟩ := stt
    exact ⟨k z (by simp) _ hzz, k TI (by simp) _ hTi, ⟨x, y, k To (by simp) _ hTo⟩, h1.at fun o q => k i1 (by simp) o q, h2.at fun o q => k i2 (by simp) o q⟩
  item := by
    intro X hP hw hK hc i pns s σ H E I hf stt hg
    subst hP hw hK
    obtain ⟨hzz, hTi, ⟨x0, y0, hTo⟩, h1, h2⟩ := stt
    obtain ⟨xs, ys, x, y, hqa, hqb, hx, hy⟩ := hg
    obtain ⟨itm, rvv, p, _⟩ := I.tuple hqa
    obtain ⟨itm2, rvw, p2, _⟩ := I.list hqb
    obtain ⟨u, huu, ru⟩ := rvv.get hx
    obtain ⟨uw, huw, ruw⟩ := rvw.get hy
    have hh : X.A.in1.handled = none := I.ok.hd hc
    have n1 : a ≠ i1 := fun e => by
      obtain ⟨oi, hoi, hci, _⟩ := id h1
      obtain ⟨oa, hoa, hca, _⟩ := id p
      exact apart_cls hoa hoi (by rw [hca, hci]; decide) e
    have n2 : b ≠ i2 := fun e => by
      obtain ⟨oi, hoi, hci, _⟩ := id h2
      obtain ⟨ob, hob, hcb, _⟩ := p2.isList
      exact apart_cls hob hoi (by rw [hcb, hci]; decide) e
    have hlt2 : z < s.heap.objs.size := Heap.lt_size hzz
    have l1 : i < itm.toArray.size := by rw [List.size_toArray]; exact (List.getElem?_eq_some_iff.mp huu).1
    have l2 : i < itm2.toArray.size := by rw [List.size_toArray]; exact (List.getElem?_eq_some_iff.mp huw).1
    refine wpAny_pyNext_zipD2_item S (Draws.tuple hh i1 a n1 itm.toArray) (Draws.list hh i2 b n2 itm2.toArray) hzz hTi hTo ⟨h1, p⟩ ⟨h2, p2.isList⟩ l1 l2 fun w1 w2 h' tk P1 P2 z' TO' s1' s2' hT hsiz hk => ?_
    have e1 : u = w1 := by
      have q : itm.toArray[i]? = some w1 := P1
      rw [List.getElem?_toArray, huu] at q
      exact Option.some.inj q
    have e2 : uw = w2 := by
      have q : itm2.toArray[i]? = some w2 := P2
      rw [List.getElem?_toArray, huw] at q
      exact Option.some.inj q
    subst e1 e2
    refine ⟨_, rfl, wpAny_letOwnedTupleGo_zip (s := { s with heap := h', toks := tk }) z' fun h'' z'' sb => ?_⟩
    have hTt : h''.get? s.heap.objs.size = some { cls := .type "tuple", data := .seq #[u, uw] } := (sb.2 _ (Nat.ne_of_gt hlt2)).trans hT
    have newo : ObjOk X.prog X.w (upd H s.heap.objs.size (.tup [x, y])) h'' s.heap.objs.size (.tup [x, y]) :=
      ⟨by show 2 ≤ sizeLine; decide, [u, uw], .cons ru (.cons ruw .nil), ⟨_, hTt, rfl, _, rfl⟩⟩
    have Iv : Inv X pns σ (upd H s.heap.objs.size (.tup [x, y])) { s with heap := h'', toks := tk } :=
      I.turnedNew (t' := tk) (ch := [z, TI, To, i1, i2]) (fun c o hb q => (sb.2 c (fun q' => hb (by simp [q']))).trans (hk c o (fun q' => hb (by simp [q'])) (fun q' => hb (by simp [q'])) (fun q' => hb (by simp [q'])) (fun q' => hb (by simp [q'])) q)) hf (Nat.le_refl _) newo
    refine ⟨.ref s.heap.objs.size, _, Iv, rfl, ⟨_, x, y, rfl, I.hok.fresh (Nat.le_refl _), rfl, fun l hl => by rw [I.tuple_inj hl hqa]; exact hx, fun l hl => by rw [I.list_inj hl hqb]; exact hy⟩, ⟨z'', ?_, ⟨u, uw, ?_⟩, ?_, ?_⟩, fun c hcm => ?_⟩
    · exact (sb.2 _ S.TIz).trans (hk _ _ S.TIz S.TITO S.TIi1 S.TIi2 hTi)
    · exact (sb.2 _ S.TOz).trans TO'
    · exact s1'.1.at fun o q => (sb.2 _ S.zi1.symm).trans q
    · exact s2'.1.at fun o q => (sb.2 _ S.zi2.symm).trans q
    · have hlt3 : c < s.heap.objs.size := by
        rcases in5 hcm with q | q | q | q | q <;> subst q
        · exact hlt2
        · exact Heap.lt_size hTi
        · exact Heap.lt_size hTo
        · obtain ⟨_, e1, _⟩ := h1; exact Heap.lt_size e1
        · obtain ⟨_, e2, _⟩ := h2; exact Heap.lt_size e2
      rw [upd_ne (Nat.ne_of_lt hlt3)]
      exact (hf c hcm).1
  done := by
    intro X hP hw hK hc i pns s σ H E I hf stt hg
    subst hP hw hK
    obtain ⟨hzz, hTi, ⟨x0, y0, hTo⟩, h1, h2⟩ := stt
    obtain ⟨xs, ys, hqa, hqb, hx, hy⟩ := hg
    obtain ⟨itm, rvv, p, _⟩ := I.tuple hqa
    obtain ⟨itm2, rvw, p2, _⟩ := I.list hqb
    have hh : X.A.in1.handled = none := I.ok.hd hc
    have n1 : a ≠ i1 := fun e => by
      obtain ⟨oi, hoi, hci, _⟩ := id h1
      obtain ⟨oa, hoa, hca, _⟩ := id p
      exact apart_cls hoa hoi (by rw [hca, hci]; decide) e
    have n2 : b ≠ i2 := fun e => by
      obtain ⟨oi, hoi, hci, _⟩ := id h2
      obtain ⟨ob, hob, hcb, _⟩ := p2.isList
      exact apart_cls hob hoi (by rw [hcb, hci]; decide) e
    have l1 : i = itm.toArray.size := by rw [List.size_toArray, ← rvv.length, hx]
    have l2 : i = itm2.toArray.size := by rw [List.size_toArray, ← rvw.length, hy]
    refine wpAny_pyNext_zipD2_end S (Draws.tuple hh i1 a n1 itm.toArray) (Draws.list hh i2 b n2 itm2.toArray) hzz hTi hTo ⟨h1, p⟩ ⟨h2, p2.isList⟩ (Nat.le_of_eq l1) (Nat.le_of_eq l2) (.inl l1) fun h' tk hk =>
      ⟨rfl, I.turnedL (t' := tk) (ch := [z, TI, To, i1, i2]) (fun c o hb q => hk c o (fun q' => hb (by simp [q'])) (fun q' => hb (by simp [q'])) (fun q' => hb (by simp [q'])) (fun q' => hb (by simp [q'])) q) hf⟩
  self := fun A i s Q E stt h => wpAny_pyIter_zip stt.1 h
theorem walk_zipM {K : PySem.W.Frag} {a b : Addr} {xs ys : List V} (hl : xs.length = ys.length) : Walk (ItzM K a b) xs.length (fun H => SqT K H a xs ∧ SqL K H b ys) (YPair (fun i => xs[i]?) (fun i => ys[i]?)) := by
  refine ⟨fun i _ hi q => ⟨xs, ys, xs[i], ys[i]'(by omega), q.1, q.2, by simp [hi], by simp [show i < ys.length by omega]⟩, fun _ q => ⟨xs, ys, q.1, q.2, rfl, hl.symm⟩, fun i H v H' _ q y => ?_⟩
  obtain ⟨T, x, z, h1, h2, h3, h4, h5⟩ := y
  exact ⟨T, x, z, h1, h2, h3, h4 xs q.1, h5 ys q.2⟩
/-- zip(tuple, list), both of one length -/
def iZipM (K : PySem.W.Frag) (ta : TA) : TI := fun σ H R => ta σ H fun vs Hv => ∃ a b xs ys, vs = [.ref a, .ref b] ∧ SqT K Hv a xs ∧ SqL K Hv b ys ∧ xs.length = ys.length ∧ TellW xs.length (YPair (fun i => xs[i]?) (fun i => ys[i]?)) Hv R
theorem pi_zipM {X : Cx} {e e2 : Expr} {ta : TA} {p pos tpos : Pos} {elts : List Expr} {kk : Nat} (hg : Gl X "zip") (hm : X.mg "zip" = none) (ha : PA X [e, e2] ta)
    (hs : starEach [e, e2] X.env = (false, eval e X.env) :: starEach [e2] X.env := by rfl) (hpl : (backTo pos (starEach [e2] X.env)).any (·.1) = false := by rfl) :
    PI X (.Tuple elts kk tpos) (.Call (.Name "zip" p) [e, e2] [] pos) (iZipM X.K ta) := by
  refine ⟨fun pns s σ H R I h => ?_⟩
  refine Call_ (ld_blt I hg hm PyProof.Rows.boot_zip (PyProof.Rows.callWith_type1 (thn (ha.run pos pns s σ H _ I h) fun us sv ⟨vs, Hv, Iv, ru1, qv⟩ => ?_) hs hpl))
  obtain ⟨a, b, xs, ys, ex, hqa, hqb, hl, q⟩ := qv
  subst ex
  cases ru1 with
  | cons r rr =>
    cases rr with
    | cons r' rr =>
      cases rr
      cases r
      cases r'
      have fresh5 : ∀ c ∈ [sv.heap.objs.size + 4, sv.heap.objs.size + 2, sv.heap.objs.size + 3, sv.heap.objs.size, sv.heap.objs.size + 1], FpOk X pns Hv c := fun c hcm => by
        have hlow : sv.heap.objs.size ≤ c := by
          rcases in5 hcm with z | z | z | z | z
          · exact z ▸ Nat.le_add_right _ _
          · exact z ▸ Nat.le_add_right _ _
          · exact z ▸ Nat.le_add_right _ _
          · rw [z]; exact Nat.le_refl _
          · exact z ▸ Nat.le_add_right _ _
        exact Iv.fpOk hlow (Iv.hok.fresh hlow)
      obtain ⟨itm, rvv, p1, _⟩ := Iv.tuple hqa
      obtain ⟨itm2, rvw, p2, _⟩ := Iv.list hqb
      have la : ∀ c ∈ [a], c < sv.heap.objs.size := fun c hc => by
        rw [List.mem_singleton.mp hc]
        obtain ⟨o, ho, _⟩ := id p1
        exact Heap.lt_size ho
      have lb : ∀ c ∈ [b], c < sv.heap.objs.size := fun c hc => by
        rw [List.mem_singleton.mp hc]
        exact p2.lt
      refine zip_begins2 (begins_tuple a itm.toArray) (begins_list b itm2.toArray) (show sv.heap.IsTuple a itm.toArray from p1) p2.isList fun h' hzz hTi hTo h1 h2 hsiz hk => wpAny_pyIter_zip hzz ?_
      have Iw : Inv X pns σ Hv { sv with heap := h' } := Iv.kept (t' := sv.toks) hk
      exact ⟨sv.heap.objs.size + 4, [sv.heap.objs.size + 4, sv.heap.objs.size + 2, sv.heap.objs.size + 3, sv.heap.objs.size, sv.heap.objs.size + 1], _, _, Hv, rfl, Iw, turn_zipM (zip_sep2 la lb), ⟨hzz, hTi, ⟨_, _, hTo⟩, ⟨_, h1, rfl, rfl⟩, ⟨_, h2, rfl, rfl⟩⟩, fresh5,
        q (ItzM X.K a b) (fun G => SqT X.K G a xs ∧ SqL X.K G b ys) ⟨hqa, hqb⟩ (fun _ _ e q => ⟨sameT e q.1, e.seq q.2⟩) (walk_zipM hl)⟩
/-! ### sum of a list or a tuple of ints -/
def rSumA (K : PySem.W.Frag) : List V → Hp → VK → Prop := fun vs H Q => ∃ (a : Addr) (ns : List Int), vs = [V.ref a] ∧ SqA K H a (ns.map V.int) ∧ Q (.int ns.sum) H
theorem cr_sumA {X : Cx} (hc : X.calm = true) : CallR X (.builtin "sum") (rSumA X.K) := by
  intro pns s σ H vs us Q I r h
  obtain ⟨a, ns, rfl, hs, q⟩ := h
  rcases hs with hs | hs
  · exact cr_sum hc pns s σ H _ us Q I r ⟨a, ns, rfl, hs, q⟩
  · obtain ⟨itm, rvv, hl, _⟩ := I.tuple hs
    rw [Vals.ref1 r]
    have hi := rvv.ints
    obtain ⟨xs, e⟩ := hi.allInts.items
    have hn : numsOf (intItems xs).toList = ns := by rw [← e]; exact hi.numsOf
    rw [nums_intItems] at hn
    have hl' : s.heap.IsTuple a (intItems xs) := by rw [← e]; exact hl
    refine PySem.W.ktm_sumG (I.ok.hd hc) hl' fun h' tk t' hk => ?_
    rw [preSum_eq, List.take_of_length_le (by simp), hn]
    exact ⟨.int _, H, I.kept hk, ⟨_, rfl⟩, q⟩
end KR

set_option Elab.async false
set_option linter.all false
set_option maxRecDepth 100000
set_option maxHeartbeats 4000000
/-! # The mathematics: no program in sight -/
namespace KM
open PySem

/-! ### Euclid in 64 turns -/
def stepG (p : Nat × Nat) : Nat × Nat := if p.2 = 0 then p else (p.2, p.1 % p.2)
def runG : Nat → Nat × Nat → Nat × Nat
  | 0, p => p
  | k + 1, p => runG k (stepG p)
theorem runG_succ : ∀ (k : Nat) (p : Nat × Nat), runG (k + 1) p = stepG (runG k p)
  | 0, _ => rfl
  | k + 1, p => runG_succ k (stepG p)
theorem stepG_gcd (p : Nat × Nat) : Nat.gcd (stepG p).1 (stepG p).2 = Nat.gcd p.1 p.2 := by
  unfold stepG
  by_cases h : p.2 = 0
  · rw [if_pos h]
  · rw [if_neg h]
    show Nat.gcd p.2 (p.1 % p.2) = Nat.gcd p.1 p.2
    rw [Nat.gcd_comm p.1 p.2, Nat.gcd_rec p.2 p.1, Nat.gcd_comm]
theorem runG_gcd : ∀ (k : Nat) (p : Nat × Nat), Nat.gcd (runG k p).1 (runG k p).2 = Nat.gcd p.1 p.2
  | 0, _ => rfl
  | k + 1, p => (runG_gcd k (stepG p)).trans (stepG_gcd p)
def fib : Nat → Nat
  | 0 => 0
  | 1 => 1
  | n + 2 => fib n + fib (n + 1)
theorem runG_zero : ∀ (k : Nat) (a : Nat), (runG k (a, 0)).2 = 0
  | 0, _ => rfl
  | k + 1, a => by
    show (runG k (stepG (a, 0))).2 = 0
    exact runG_zero k a
theorem runG_fib : ∀ (n a b : Nat), b ≤ a → a < fib (n + 2) → (runG n (a, b)).2 = 0 ∧ (runG (n + 1) (a, b)).2 = 0
  | 0, a, b, h, hf => by
    have hf' : a < 1 := hf
    have e2 : b = 0 := by omega
    subst e2
    exact ⟨rfl, runG_zero 1 a⟩
  | 1, a, b, h, hf => by
    have hf' : a < 2 := hf
    have hb : b = 0 ∨ b = 1 := by omega
    rcases hb with rfl | rfl
    · exact ⟨runG_zero 1 a, runG_zero 2 a⟩
    · have ea : a = 1 := by omega
      subst ea
      exact ⟨rfl, rfl⟩
  | n + 2, a, b, h, hf => by
    by_cases hb : b = 0
    · subst hb
      exact ⟨runG_zero _ a, runG_zero _ a⟩
    · have e1 : ∀ k, runG (k + 1) (a, b) = runG k (b, a % b) := fun k => by
        show runG k (stepG (a, b)) = _
        unfold stepG
        rw [if_neg (show ¬ (a, b).2 = 0 from hb)]
      have ef : fib (n + 4) = fib (n + 2) + fib (n + 3) := rfl
      have hm : a % b < b := Nat.mod_lt _ (Nat.pos_of_ne_zero hb)
      rw [e1, e1]
      by_cases hs : b < fib (n + 3)
      · have ih := runG_fib (n + 1) b (a % b) (Nat.le_of_lt hm) hs
        exact ih
      · have hr : a % b < fib (n + 2) := by
          have q : a % b ≤ a - b := by
            rw [Nat.mod_eq_sub_mod h]
            exact Nat.mod_le _ _
          have hf' : a < fib (n + 4) := hf
          omega
        by_cases hr0 : a % b = 0
        · rw [hr0]
          exact ⟨runG_zero _ b, runG_zero _ b⟩
        · have e2 : ∀ k, runG (k + 1) (b, a % b) = runG k (a % b, b % (a % b)) := fun k => by
            show runG k (stepG (b, a % b)) = _
            unfold stepG
            rw [if_neg (show ¬ (b, a % b).2 = 0 from hr0)]
          have ih := runG_fib n (a % b) (b % (a % b)) (Nat.le_of_lt (Nat.mod_lt _ (Nat.pos_of_ne_zero hr0))) hr
          rw [e2, e2]
          exact ih
theorem runG_more : ∀ (j k : Nat) (p : Nat × Nat), (runG k p).2 = 0 → (runG (k + j) p).2 = 0 ∧ (runG (k + j) p).1 = (runG k p).1
  | 0, _, _, h => ⟨h, rfl⟩
  | j + 1, k, p, h => by
    obtain ⟨h1, h2⟩ := runG_more j k p h
    have e : runG (k + (j + 1)) p = runG (k + j) p := by
      show runG (k + j + 1) p = _
      rw [runG_succ]
      unfold stepG
      rw [if_pos h1]
    rw [e]
    exact ⟨h1, h2⟩
theorem runG_64 {a b : Nat} (hb : b ≤ 1000000000000) : (runG 64 (a, b)).1 = Nat.gcd a b := by
  have key : (runG 64 (a, b)).2 = 0 := by
    by_cases h : b = 0
    · subst h
      exact runG_zero _ a
    · have e1 : runG 64 (a, b) = runG 63 (b, a % b) := by
        show runG 63 (stepG (a, b)) = _
        unfold stepG
        rw [if_neg (show ¬ (a, b).2 = 0 from h)]
      rw [e1]
      have hf : b < fib (59 + 2) := Nat.lt_of_le_of_lt hb (by decide +kernel)
      exact (runG_more 4 59 (b, a % b) (runG_fib 59 b (a % b) (Nat.le_of_lt (Nat.mod_lt _ (Nat.pos_of_ne_zero h))) hf).1).1
  have g := runG_gcd 64 (a, b)
  rw [key, Nat.gcd_zero_right] at g
  exact g

/-! ### the common scale -/
theorem lcm_left {a b : Int} (ha : 0 < a) (hb : 0 < b) : 0 < a / (Nat.gcd a.toNat b.toNat : Nat) * b ∧ a * ((a / (Nat.gcd a.toNat b.toNat : Nat) * b) / a) = a / (Nat.gcd a.toNat b.toNat : Nat) * b ∧
    b * ((a / (Nat.gcd a.toNat b.toNat : Nat) * b) / b) = a / (Nat.gcd a.toNat b.toNat : Nat) * b := by
  obtain ⟨n, rfl⟩ := Int.eq_ofNat_of_zero_le (Int.le_of_lt ha)
  obtain ⟨m, rfl⟩ := Int.eq_ofNat_of_zero_le (Int.le_of_lt hb)
  rw [Int.toNat_natCast, Int.toNat_natCast]
  have hn : 0 < n := by omega
  have hm : 0 < m := by omega
  have hg : 0 < Nat.gcd n m := Nat.gcd_pos_of_pos_left _ hn
  obtain ⟨c, hc⟩ := Nat.gcd_dvd_left n m
  obtain ⟨d, hd⟩ := Nat.gcd_dvd_right n m
  have hcp : 0 < c := Nat.pos_of_ne_zero fun e => by rw [e, Nat.mul_zero] at hc; omega
  have e1 : ((n : Int) / ((Nat.gcd n m : Nat) : Int)) = (c : Int) := by
    have q : n / Nat.gcd n m = c := by
      have := Nat.mul_div_cancel_left c hg
      rw [← hc] at this
      exact this
    rw [← q]
    exact (Int.natCast_ediv n (Nat.gcd n m)).symm
  rw [e1]
  have e2 : (c : Int) * (m : Int) = (n : Int) * (d : Int) := by
    have : c * m = n * d := by
      calc c * m = c * (Nat.gcd n m * d) := by rw [← hd]
        _ = Nat.gcd n m * c * d := by rw [← Nat.mul_assoc, Nat.mul_comm c]
        _ = n * d := by rw [← hc]
    exact_mod_cast this
  refine ⟨Int.mul_pos (by omega) (by omega), ?_, ?_⟩
  · rw [e2, Int.mul_ediv_cancel_left _ (by omega)]
  · rw [Int.mul_ediv_cancel _ (by omega), Int.mul_comm]

/-! ### names -/
structure NameOk (z : Str) : Prop where
  pos : 1 ≤ z.length
  le : z.length ≤ 12
  az : ∀ c ∈ z.cps.toList, 97 ≤ c ∧ c ≤ 122
structure NamesOk (ns : List Str) : Prop where
  pos : 1 ≤ ns.length
  le : ns.length ≤ 8
  nd : ns.Nodup
  ok : ∀ z ∈ ns, NameOk z
theorem codes_len (z : Str) : z.cps.toList.length = z.length := Array.length_toList
theorem codes_app (a b : Str) : (a ++ b).cps.toList = a.cps.toList ++ b.cps.toList := Array.toList_append
theorem codes_inj {a b : Str} (h : a.cps.toList = b.cps.toList) : a = b := PyProof.Rows.ext_toList h
/-- the code of z -/
def cz : Str := ⟨#[122]⟩
/-- w with k letters z behind it -/
def zs (w : Str) : Nat → Str
  | 0 => w
  | k + 1 => zs w k ++ cz
theorem zs_codes (w : Str) : ∀ k, (zs w k).cps.toList = w.cps.toList ++ List.replicate k 122
  | 0 => by simp [zs]
  | k + 1 => by
    show (zs w k ++ cz).cps.toList = _
    rw [codes_app, zs_codes w k, List.append_assoc, List.replicate_succ']
    rfl
theorem zs_len (w : Str) (k : Nat) : (zs w k).length = w.length + k := by
  rw [← codes_len, zs_codes, List.length_append, List.length_replicate, codes_len]
theorem zs_ne (w : Str) {i j : Nat} (h : i ≠ j) : zs w i ≠ zs w j := fun e => by
  have := congrArg Str.length e
  rw [zs_len, zs_len] at this
  omega
/-- what a drawn name is like -/
structure Gen (z : Str) : Prop where
  pos : 1 ≤ z.length
  le : z.length ≤ 10
  az : ∀ c ∈ z.cps.toList, 97 ≤ c ∧ c ≤ 122
  tail : 6 ≤ z.length → z.cps.toList.getLast? = some 122
theorem Gen.ok {z : Str} (g : Gen z) : NameOk z := ⟨g.pos, by have := g.le; omega, g.az⟩
theorem gen_zs {w : Str} (h1 : 1 ≤ w.length) (h2 : w.length ≤ 5) (az : ∀ c ∈ w.cps.toList, 97 ≤ c ∧ c ≤ 122) {k : Nat} (hk : k ≤ 5) : Gen (zs w k) := by
  refine ⟨by rw [zs_len]; omega, by rw [zs_len]; omega, fun c hc => ?_, fun h6 => ?_⟩
  · rw [zs_codes, List.mem_append] at hc
    rcases hc with hc | hc
    · exact az c hc
    · rw [(List.mem_replicate.mp hc).2]
      decide
  · rw [zs_len] at h6
    have hk0 : 0 < k := by omega
    rw [zs_codes]
    obtain ⟨j, rfl⟩ : ∃ j, k = j + 1 := ⟨k - 1, by omega⟩
    rw [List.replicate_succ', ← List.append_assoc, List.getLast?_concat]
/-- k different members of a list -/
theorem few {f : Nat → Str} (hf : ∀ i j, i ≠ j → f i ≠ f j) : ∀ (k : Nat) (l : List Str), (∀ i, i < k → f i ∈ l) → k ≤ l.length
  | 0, _, _ => Nat.zero_le _
  | k + 1, l, h => by
    have hk := h k (Nat.lt_succ_self k)
    have ih := few hf k (l.erase (f k)) fun i hi => (List.mem_erase_of_ne (hf i k (Nat.ne_of_lt hi))).mpr (h i (Nat.lt_succ_of_lt hi))
    have e := List.length_erase_of_mem hk
    have p := List.length_pos_of_mem hk
    omega
/-- the state of the eight turns: k letters hung on, behind j turns -/
structure ZTurn (w : Str) (found : List Str) (j k : Nat) : Prop where
  le : k ≤ j
  got : ∀ i, i < k → zs w i ∈ found
  out : k < j → zs w k ∉ found
theorem ZTurn.start (w : Str) (found : List Str) : ZTurn w found 0 0 := ⟨Nat.le_refl _, fun _ h => absurd h (Nat.not_lt_zero _), fun h => absurd h (Nat.not_lt_zero _)⟩
theorem ZTurn.yes {w : Str} {found : List Str} {j k : Nat} (z : ZTurn w found j k) (h : zs w k ∈ found) : ZTurn w found (j + 1) (k + 1) := by
  have e : k = j := by
    rcases Nat.lt_or_ge k j with q | q
    · exact absurd h (z.out q)
    · have := z.le
      omega
  refine ⟨by omega, fun i hi => ?_, fun h' => by omega⟩
  rcases Nat.lt_or_ge i k with q | q
  · exact z.got i q
  · have : i = k := by omega
    rw [this]
    exact h
theorem ZTurn.no {w : Str} {found : List Str} {j k : Nat} (z : ZTurn w found j k) (h : zs w k ∉ found) : ZTurn w found (j + 1) k :=
  ⟨Nat.le_succ_of_le z.le, z.got, fun _ => h⟩
theorem ZTurn.done {w : Str} {found : List Str} {k : Nat} (z : ZTurn w found 8 k) (hl : found.length ≤ 5) : k ≤ 5 ∧ zs w k ∉ found := by
  have q := few (f := zs w) (fun i j h => zs_ne w h) k found z.got
  exact ⟨by omega, z.out (by omega)⟩
theorem names_snoc {ns : List Str} {z : Str} (h : ns.Nodup) (hz : z ∉ ns) : (ns ++ [z]).Nodup := by
  rw [List.nodup_append]
  refine ⟨h, List.nodup_cons.mpr ⟨List.not_mem_nil, List.nodup_nil⟩, fun a ha b hb => ?_⟩
  rw [List.mem_singleton.mp hb]
  exact fun e => hz (e ▸ ha)
/-- the stranger's name -/
def qs : Str := ⟨#[113, 113, 113, 113, 113, 113, 113]⟩
theorem qs_ok : NameOk qs := ⟨by decide, by decide, by decide⟩
theorem qs_new {ns : List Str} (h : ∀ z ∈ ns, Gen z) : qs ∉ ns := fun hm => by
  have q := (h qs hm).tail (by decide)
  revert q
  decide
theorem names_gen {ns : List Str} (h1 : 1 ≤ ns.length) (h2 : ns.length ≤ 6) (nd : ns.Nodup) (g : ∀ z ∈ ns, Gen z) : NamesOk ns := ⟨h1, by omega, nd, fun z hz => (g z hz).ok⟩
theorem names_more {ns : List Str} (h1 : 1 ≤ ns.length) (h2 : ns.length ≤ 6) (nd : ns.Nodup) (g : ∀ z ∈ ns, Gen z) : NamesOk (ns ++ [qs]) ∧ ns ≠ ns ++ [qs] := by
  refine ⟨⟨by simp, by rw [List.length_append]; show ns.length + 1 ≤ 8; omega, names_snoc nd (qs_new g), fun z hz => ?_⟩, fun e => ?_⟩
  · rcases List.mem_append.mp hz with q | q
    · exact (g z q).ok
    · rw [List.mem_singleton.mp q]
      exact qs_ok
  · have := congrArg List.length e
    rw [List.length_append] at this
    simp at this
theorem names_round {ns : List Str} (h1 : 2 ≤ ns.length) (h2 : ns.length ≤ 6) (nd : ns.Nodup) (g : ∀ z ∈ ns, Gen z) : NamesOk (ns.drop 1 ++ ns.take 1) ∧ ns ≠ ns.drop 1 ++ ns.take 1 := by
  match ns, h1 with
  | a :: b :: r, _ =>
    have nd2 := nd
    rw [List.nodup_cons] at nd2
    have ha : a ∉ b :: r := nd2.1
    have e1 : (a :: b :: r).drop 1 ++ (a :: b :: r).take 1 = (b :: r) ++ [a] := rfl
    rw [e1]
    refine ⟨⟨by simp, by have q : (a :: b :: r).length ≤ 6 := h2; rw [List.length_append]; simp only [List.length_cons, List.length_nil] at q ⊢; omega, names_snoc nd2.2 ha, fun z hz => ?_⟩, fun e => ?_⟩
    · rcases List.mem_append.mp hz with q | q
      · exact (g z (List.mem_cons_of_mem _ q)).ok
      · rw [List.mem_singleton.mp q]
        exact (g a List.mem_cons_self).ok
    · have e2 : a = b := by
        have := congrArg List.head? e
        simpa using this
      exact ha (e2 ▸ List.mem_cons_self)

/-! ### rounds -/
abbrev Rnd := List Int
structure RowOk (m : Nat) (S : Int) (r : Rnd) : Prop where
  len : r.length = m
  lo : ∀ x ∈ r, 0 ≤ x
  hi : ∀ x ∈ r, x ≤ S
  sum : r.sum = S
theorem sum_nonneg : ∀ {r : Rnd}, (∀ x ∈ r, 0 ≤ x) → 0 ≤ r.sum
  | [], _ => by simp
  | a :: r, h => by
    rw [List.sum_cons]
    have h1 := h a List.mem_cons_self
    have h2 := sum_nonneg (r := r) fun x hx => h x (List.mem_cons_of_mem _ hx)
    omega
theorem le_sum : ∀ {r : Rnd} {x : Int}, (∀ x ∈ r, 0 ≤ x) → x ∈ r → x ≤ r.sum
  | a :: r, x, h, hx => by
    rw [List.sum_cons]
    have h1 := h a List.mem_cons_self
    have h2 := sum_nonneg (r := r) fun x hx => h x (List.mem_cons_of_mem _ hx)
    rcases List.mem_cons.mp hx with rfl | q
    · omega
    · have := le_sum (r := r) (fun x hx => h x (List.mem_cons_of_mem _ hx)) q
      omega
theorem rowOk_of {m : Nat} {S : Int} {r : Rnd} (h1 : r.length = m) (h2 : ∀ x ∈ r, 0 ≤ x) (h3 : r.sum = S) : RowOk m S r := ⟨h1, h2, fun x hx => h3 ▸ le_sum h2 hx, h3⟩
theorem sum_mul (f : Int) : ∀ r : Rnd, (r.map (· * f)).sum = r.sum * f
  | [] => by simp
  | a :: r => by rw [List.map_cons, List.sum_cons, List.sum_cons, sum_mul f r, Int.add_mul]
theorem RowOk.mul {m : Nat} {S f : Int} {r : Rnd} (h : RowOk m S r) (hf : 0 ≤ f) : RowOk m (S * f) (r.map (· * f)) :=
  rowOk_of (by rw [List.length_map]; exact h.len) (fun x hx => by obtain ⟨y, hy, rfl⟩ := List.mem_map.mp hx; exact Int.mul_nonneg (h.lo y hy) hf) (by rw [sum_mul, h.sum])
def times (R : List Rnd) (f : Int) : List Rnd := R.map fun r => r.map (· * f)
structure ChartOk (ns : List Str) (S : Int) (R : List Rnd) : Prop where
  nm : NamesOk ns
  lo : 1 ≤ S
  hi : S ≤ 1000000000000
  few : R.length ≤ 240
  rows : ∀ r ∈ R, RowOk ns.length S r
theorem row_one {m : Nat} {S : Int} (h : 0 ≤ S) : RowOk (m + 1) S (S :: List.replicate m 0) := by
  refine rowOk_of (by simp) (fun x hx => ?_) ?_
  · rcases List.mem_cons.mp hx with rfl | q
    · exact h
    · rw [(List.mem_replicate.mp q).2]
      exact Int.le_refl _
  · rw [List.sum_cons]
    have : ∀ k, (List.replicate k (0 : Int)).sum = 0 := fun k => by
      induction k with
      | zero => rfl
      | succ k ih => rw [List.replicate_succ, List.sum_cons, ih]; rfl
    rw [this]
    omega

/-! ### the shares of a round, place by place -/
structure Part (m b : Nat) (S : Int) (n : Nat) (f : Rnd) (left : Int) : Prop where
  len : f.length = m
  lo : ∀ x ∈ f, 0 ≤ x
  nn : 0 ≤ left
  sum : f.sum + left = S
  free : ∀ j, n ≤ j → j < m → f[(b + j) % m]? = some 0
theorem Part.start {m b : Nat} {S : Int} (h : 0 ≤ S) : Part m b S 0 (List.replicate m 0) S := by
  refine ⟨by simp, fun x hx => by rw [(List.mem_replicate.mp hx).2]; exact Int.le_refl _, h, ?_, fun j _ hj => ?_⟩
  · have : ∀ k, (List.replicate k (0 : Int)).sum = 0 := fun k => by
      induction k with
      | zero => rfl
      | succ k ih => rw [List.replicate_succ, List.sum_cons, ih]; rfl
    rw [this]
    omega
  · rw [List.getElem?_replicate, if_pos (Nat.mod_lt _ (by omega))]
theorem mod_inj {m b i j : Nat} (hi : i < m) (hj : j < m) (h : (b + i) % m = (b + j) % m) : i = j := by
  have hm : 0 < m := by omega
  have e1 : (b % m + i) % m = (b % m + j) % m := by rw [Nat.mod_add_mod, Nat.mod_add_mod]; exact h
  have hb : b % m < m := Nat.mod_lt _ hm
  have key : ∀ k, k < m → (b % m + k) % m = if b % m + k < m then b % m + k else b % m + k - m := fun k hk => by
    by_cases q : b % m + k < m
    · rw [if_pos q, Nat.mod_eq_of_lt q]
    · rw [if_neg q, Nat.mod_eq_sub_mod (by omega), Nat.mod_eq_of_lt (by omega)]
  rw [key i hi, key j hj] at e1
  split at e1 <;> split at e1 <;> omega
theorem Part.put {m b n : Nat} {S left p : Int} {f : Rnd} (h : Part m b S n f left) (hn : n < m) (h0 : 0 ≤ p) (h1 : p ≤ left) : Part m b S (n + 1) (f.set ((b + n) % m) p) (left - p) := by
  refine ⟨by rw [List.length_set]; exact h.len, fun x hx => ?_, by omega, ?_, fun j hj hjm => ?_⟩
  · rcases List.mem_or_eq_of_mem_set hx with q | q
    · exact h.lo x q
    · rw [q]
      exact h0
  · rw [L2.sum_set (h.free n (Nat.le_refl _) hn)]
    have := h.sum
    omega
  · rw [List.getElem?_set_ne (fun e => by have := mod_inj hn hjm e; omega)]
    exact h.free j (by omega) hjm
theorem Part.last {m b : Nat} {S left : Int} {f : Rnd} (h : Part (m + 1) b S m f left) : RowOk (m + 1) S (f.set ((b + m) % (m + 1)) left) := by
  have q := h.put (p := left) (by omega) h.nn (Int.le_refl _)
  refine rowOk_of q.len q.lo ?_
  have := q.sum
  omega

/-! ### turning -/
def turn (k : Nat) {α : Type} (l : List α) : List α := l.drop k ++ l.take k
theorem turn_back {α : Type} (l : List α) {a b : Nat} (ha : a ≤ l.length) (hb : b ≤ l.length) (h : a + b = l.length ∨ (a = 0 ∧ b = 0)) : turn b (turn a l) = l := by
  unfold turn
  rcases h with h | ⟨rfl, rfl⟩
  · have e : b = (l.drop a).length := by rw [List.length_drop]; omega
    rw [e, List.drop_left, List.take_left, List.take_append_drop]
  · simp
theorem mod_back {t : Int} {n : Nat} (hn : 0 < n) : (t % (n : Int)).toNat + ((-t) % (n : Int)).toNat = n ∨ ((t % (n : Int)).toNat = 0 ∧ ((-t) % (n : Int)).toNat = 0) := by
  have h1 : 0 ≤ t % (n : Int) := Int.emod_nonneg _ (by omega)
  have h2 : t % (n : Int) < n := Int.emod_lt_of_pos _ (by omega)
  have h3 : 0 ≤ (-t) % (n : Int) := Int.emod_nonneg _ (by omega)
  have h4 : (-t) % (n : Int) < n := Int.emod_lt_of_pos _ (by omega)
  have h5 : (t + -t) % (n : Int) = 0 := by rw [Int.add_right_neg]; rfl
  rw [Int.add_emod] at h5
  have h6 : t % (n : Int) + (-t) % (n : Int) = 0 ∨ t % (n : Int) + (-t) % (n : Int) = n := by
    have d : (n : Int) ∣ (t % (n : Int) + (-t) % (n : Int)) := Int.dvd_of_emod_eq_zero h5
    obtain ⟨k, hk⟩ := d
    have k0 : 0 ≤ k := by
      rcases Int.lt_or_le k 0 with q | q
      · have : (n : Int) * k < 0 := Int.mul_neg_of_pos_of_neg (by omega) q
        omega
      · exact q
    have k2 : k < 2 := by
      rcases Int.lt_or_le k 2 with q | q
      · exact q
      · have : (n : Int) * 2 ≤ n * k := Int.mul_le_mul_of_nonneg_left q (by omega)
        omega
    have k3 : k = 0 ∨ k = 1 := by omega
    rcases k3 with rfl | rfl
    · left; omega
    · right; omega
  omega
end KM

set_option Elab.async false
set_option linter.all false
set_option maxRecDepth 100000
set_option maxHeartbeats 4000000
/-! # The text by places -/
namespace KP
open PySem PySem.Spec PyProof.Rows L2 KR
def top (i : Nat) : Stmt := PySem.Challenge.pw_turndues_k04_whole_charts_put_together.main.body.getD i (.Pass ⟨0, 0, 0, 0⟩)
abbrev sEScale : Stmt := inClass (top 6) 0
abbrev sEMany : Stmt := inClass (top 7) 0
abbrev sECount : Stmt := inClass (top 10) 0
abbrev sEOther : Stmt := inClass (top 11) 0
abbrev sIsInt : Stmt := top 14
abbrev sIsBet : Stmt := top 15
abbrev sIsName : Stmt := top 16
abbrev sGcd : Stmt := top 17
abbrev sRoster : Stmt := top 18
abbrev sFault : Stmt := top 19
abbrev sMult : Stmt := top 20
abbrev sInit : Stmt := inClass (top 21) 4
abbrev sAdd : Stmt := inClass (top 21) 12
abbrev sMul : Stmt := inClass (top 21) 13
abbrev sRmul : Stmt := inClass (top 21) 14
abbrev sLsh : Stmt := inClass (top 21) 15
abbrev sRsh : Stmt := inClass (top 21) 16
abbrev sInv : Stmt := inClass (top 21) 17
abbrev sMixed : Stmt := top 23
abbrev sFolded : Stmt := top 24
abbrev sDraw : Stmt := top 25
abbrev sBegun : Stmt := top 26
abbrev sBig : Stmt := top 27
abbrev sNames : Stmt := top 28
abbrev sScale : Stmt := top 29
abbrev sShares : Stmt := top 30
abbrev sTable : Stmt := top 31
abbrev sInts : Stmt := top 32
abbrev sInt : Stmt := top 33
abbrev sTexts : Stmt := top 34
abbrev sIsChart : Stmt := top 35
abbrev sDivisor : Stmt := top 36
abbrev sTimes : Stmt := top 37
abbrev sSum : Stmt := top 38
abbrev sProduct : Stmt := top 39
abbrev sSums : Stmt := top 40
abbrev sProducts : Stmt := top 41
abbrev sTurned : Stmt := top 42
abbrev sLaw : Stmt := top 43
end KP

set_option Elab.async false
set_option linter.all false
set_option maxRecDepth 100000
set_option maxHeartbeats 4000000
/-! # What stands in the heap: names, rows, tables, a chart, the generator's state -/
namespace KP
open PySem PySem.Spec PyProof.Rows L2 KR KM

/-! ### heaps that grow -/
theorem up_new {H : Hp} {p : Addr} {o : HO} (h : H p = none) : Same H (upd H p o) := fun b x e => by
  rw [upd_ne (ne_of_none e h)]
  exact e
theorem up_old {H0 H : Hp} {p : Addr} {o : HO} (s : Same H0 H) (h : H0 p = none) : Same H0 (upd H p o) := fun b x e => by
  rw [upd_ne (ne_of_none e h)]
  exact s b x e
/-- the heap without the generator's dict and its list of great numbers -/
def Rest (d g : Addr) (H : Hp) : Hp := fun b => if b = d ∨ b = g then none else H b
theorem rest_ne {d g b : Addr} {H : Hp} (h1 : b ≠ d) (h2 : b ≠ g) : Rest d g H b = H b := if_neg (fun z => z.elim h1 h2)
theorem rest_in {d g b : Addr} {H : Hp} {o : HO} (h : Rest d g H b = some o) : b ≠ d ∧ b ≠ g ∧ H b = some o := by
  unfold Rest at h
  by_cases q : b = d ∨ b = g
  · rw [if_pos q] at h
    cases h
  · rw [if_neg q] at h
    exact ⟨fun z => q (.inl z), fun z => q (.inr z), h⟩
theorem rest_sub (d g : Addr) (H : Hp) : Same (Rest d g H) H := fun b o e => (rest_in e).2.2
theorem rest_same {d g : Addr} {H H' : Hp} (s : Same H H') : Same (Rest d g H) (Rest d g H') := fun b o e => by
  obtain ⟨h1, h2, h3⟩ := rest_in e
  rw [rest_ne h1 h2]
  exact s b o h3
theorem rest_set {d g p : Addr} {H : Hp} {o : HO} (h : p = d ∨ p = g) : Same (Rest d g H) (Rest d g (upd H p o)) := fun b x e => by
  obtain ⟨h1, h2, h3⟩ := rest_in e
  have nb : b ≠ p := fun z => by
    rcases h with h | h
    · exact h1 (z.trans h)
    · exact h2 (z.trans h)
  rw [rest_ne h1 h2, upd_ne nb]
  exact h3
theorem rest_at {d g p : Addr} {H H' : Hp} {o : HO} (s : Same (Rest d g H) (Rest d g H')) (h1 : p ≠ d) (h2 : p ≠ g) (e : H p = some o) : H' p = some o :=
  (rest_in (s p o (by rw [rest_ne h1 h2]; exact e))).2.2
/-- from a heap H0 on, with a list of its own at l that is stored into -/
theorem rest_up {d g p : Addr} {H0 H : Hp} {o : HO} (s : Same (Rest d g H0) (Rest d g H)) (h : Rest d g H0 p = none) : Same (Rest d g H0) (Rest d g (upd H p o)) := fun b x e => by
  have nb := ne_of_none e h
  obtain ⟨h1, h2, h3⟩ := rest_in (s b x e)
  rw [rest_ne h1 h2, upd_ne nb]
  exact h3
theorem rest_none {d g p : Addr} {H : Hp} (h : H p = none) : Rest d g H p = none := by
  unfold Rest
  split
  · rfl
  · exact h

/-! ### lists and tuples -/
section
variable {K : PySem.W.Frag} {H H' : Hp} {a : Addr} {xs : List V}
theorem tyT (h : SqT K H a xs) : TyX K H (.ref a) (.type "tuple") := by
  rcases h with (h | ⟨o, h⟩) | ⟨o, its, n, h1, h2, _⟩
  · exact .base (.tup h)
  · exact .fTuple h
  · exact .kTuple h1 h2
theorem tyL (h : SqL K H a xs) : TyX K H (.ref a) (.type "list") := by
  rcases h with (h | ⟨o, h⟩) | ⟨o, its, n, h1, h2, _⟩
  · exact .base (.lst h)
  · exact .base (.frz h)
  · exact .kList h1 h2
theorem sameSl {C dx : Addr} {vs : List (Option V)} (s : Same H H') (h : SlX.Slt H a C dx vs) : SlX.Slt H' a C dx vs := by
  rcases h with ⟨h, e⟩ | ⟨h, e⟩
  · exact .inl ⟨s _ _ h, e⟩
  · exact .inr ⟨s _ _ h, s _ _ e⟩
end
/-- a table at a, its rows (and itself) so that S says how -/
def TbG (S : Hp → Addr → List V → Prop) (H : Hp) (a : Addr) (R : List Rnd) : Prop :=
  ∃ as : List Addr, S H a (as.map V.ref) ∧ as.length = R.length ∧ ∀ (i : Nat) (p : Addr) (r : Rnd), as[i]? = some p → R[i]? = some r → S H p (r.map V.int)
section
variable {K : PySem.W.Frag} {H H' : Hp} {a : Addr}
theorem TbG.mono {S S' : Hp → Addr → List V → Prop} {R : List Rnd} (h : TbG S H a R) (m : ∀ b xs, S H b xs → S' H' b xs) : TbG S' H' a R := by
  obtain ⟨as, h1, h2, h3⟩ := h
  exact ⟨as, m _ _ h1, h2, fun i p r e1 e2 => m _ _ (h3 i p r e1 e2)⟩
abbrev TbL (K : PySem.W.Frag) : Hp → Addr → List Rnd → Prop := TbG (SqL K)
abbrev TbT (K : PySem.W.Frag) : Hp → Addr → List Rnd → Prop := TbG (SqT K)
abbrev TbA (K : PySem.W.Frag) : Hp → Addr → List Rnd → Prop := TbG (SqA K)
theorem tb_same {R : List Rnd} (s : Same H H') (h : TbL K H a R) : TbL K H' a R := h.mono fun _ _ => s.seq
theorem tt_same {R : List Rnd} (s : Same H H') (h : TbT K H a R) : TbT K H' a R := h.mono fun _ _ => sameT s
theorem ta_same {R : List Rnd} (s : Same H H') (h : TbA K H a R) : TbA K H' a R := h.mono fun _ _ => sameA s
theorem ta_of_l {R : List Rnd} (h : TbL K H a R) : TbA K H a R := h.mono fun _ _ => .inl
theorem ta_of_t {R : List Rnd} (h : TbT K H a R) : TbA K H a R := h.mono fun _ _ => .inr
/-- a Chart -/
def ChAt (K : PySem.W.Frag) (C : Addr) (H : Hp) (a : Addr) (ns : List Str) (S : Int) (R : List Rnd) : Prop :=
  ∃ dx p q, SlX.Slt H a C dx [some (.ref p), some (.ref q), some (.int S)] ∧ SqT K H p (ns.map V.str) ∧ TbT K H q R
theorem ch_same {C : Addr} {ns : List Str} {S : Int} {R : List Rnd} (s : Same H H') (h : ChAt K C H a ns S R) : ChAt K C H' a ns S R := by
  obtain ⟨dx, p, q, h1, h2, h3⟩ := h
  exact ⟨dx, p, q, sameSl s h1, sameT s h2, tt_same s h3⟩
end
/-! ### the generator's state -/
def mdict (c g : Addr) (n : Int) : List (Key × V) := [(Sum.inr "cells", .ref c), (Sum.inr "great", .ref g), (Sum.inr "spot", .int n)]
structure MAt (d c g : Addr) (H : Hp) (B : Int) : Prop where
  dd : ∃ n : Int, 0 ≤ n ∧ n ≤ B ∧ H d = some (.dK (mdict c g n))
  cc : ∃ ns : List Int, ns.length = 64 ∧ H c = some (.lst (ns.map V.int))
  gg : ∃ gs : List Int, H g = some (.lst (gs.map V.int))
  cg : c ≠ g
theorem MAt.mono {d c g : Addr} {H H' : Hp} {B B' : Int} (m : MAt d c g H B) (s : Same H H') (h : B ≤ B') : MAt d c g H' B' := by
  obtain ⟨⟨n, h0, h1, h2⟩, ⟨ns, h3, h4⟩, ⟨gs, h5⟩, h6⟩ := m
  exact ⟨⟨n, h0, by omega, s _ _ h2⟩, ⟨ns, h3, s _ _ h4⟩, ⟨gs, s _ _ h5⟩, h6⟩
theorem MAt.le {d c g : Addr} {H : Hp} {B B' : Int} (m : MAt d c g H B) (h : B ≤ B') : MAt d c g H B' := m.mono (Same.refl H) h
/-- a list of one's own is stored into -/
theorem MAt.put {d c g p : Addr} {H H0 : Hp} {B : Int} {o : HO} (m : MAt d c g H B) (m0 : MAt d c g H0 B) (h : H0 p = none) : MAt d c g (upd H p o) B := by
  obtain ⟨⟨n, h0, h1, h2⟩, ⟨ns, h3, h4⟩, ⟨gs, h5⟩, h6⟩ := m
  obtain ⟨⟨_, _, _, k2⟩, ⟨_, _, k4⟩, ⟨_, k5⟩, _⟩ := m0
  exact ⟨⟨n, h0, h1, by rw [upd_ne (ne_of_none k2 h)]; exact h2⟩, ⟨ns, h3, by rw [upd_ne (ne_of_none k4 h)]; exact h4⟩, ⟨gs, by rw [upd_ne (ne_of_none k5 h)]; exact h5⟩, h6⟩
theorem MAt.new {d c g p : Addr} {H : Hp} {B : Int} {o : HO} (m : MAt d c g H B) (h : H p = none) : MAt d c g (upd H p o) B := m.mono (up_new h) (Int.le_refl _)
theorem MAt.nd {d c g p : Addr} {H : Hp} {B : Int} (m : MAt d c g H B) (h : H p = none) : p ≠ d := by
  obtain ⟨⟨n, _, _, h2⟩, _, _, _⟩ := m
  exact (ne_of_none h2 h).symm
theorem MAt.ng {d c g p : Addr} {H : Hp} {B : Int} (m : MAt d c g H B) (h : H p = none) : p ≠ g := by
  obtain ⟨_, _, ⟨_, h2⟩, _⟩ := m
  exact (ne_of_none h2 h).symm
theorem MAt.nc {d c g p : Addr} {H : Hp} {B : Int} (m : MAt d c g H B) (h : H p = none) : p ≠ c := by
  obtain ⟨_, ⟨_, _, h2⟩, _, _⟩ := m
  exact (ne_of_none h2 h).symm
theorem kSC : ¬ (("spot" : Str) = "cells") := by decide +kernel
theorem kSG : ¬ (("spot" : Str) = "great") := by decide +kernel
theorem kGC : ¬ (("great" : Str) = "cells") := by decide +kernel

/-! ### data, compared -/
section
variable {K : PySem.W.Frag} {H : Hp} {a : Addr}
theorem dp_strs : ∀ ns : List Str, DpAll K H (ns.map V.str) (ns.map PyData.str)
  | [] => .nil
  | x :: r => .cons (.str x) (dp_strs r)
theorem dp_ints : ∀ ns : List Int, DpAll K H (ns.map V.int) (ns.map PyData.int)
  | [] => .nil
  | x :: r => .cons (.int x) (dp_ints r)
def dRow (r : Rnd) : PyData := .list (r.map PyData.int)
def dRowT (r : Rnd) : PyData := .tuple (r.map PyData.int)
theorem dp_rows : ∀ (as : List Addr) (R : List Rnd), as.length = R.length → (∀ (i : Nat) (p : Addr) (r : Rnd), as[i]? = some p → R[i]? = some r → SqL K H p (r.map V.int)) → DpAll K H (as.map V.ref) (R.map dRow)
  | [], [], _, _ => .nil
  | p :: as, r :: R, hl, h => .cons (.lst (h 0 p r rfl rfl) (dp_ints r)) (dp_rows as R (Nat.succ.inj hl) fun i p' r' e1 e2 => h (i + 1) p' r' e1 e2)
theorem dp_rowsT : ∀ (as : List Addr) (R : List Rnd), as.length = R.length → (∀ (i : Nat) (p : Addr) (r : Rnd), as[i]? = some p → R[i]? = some r → SqT K H p (r.map V.int)) → DpAll K H (as.map V.ref) (R.map dRowT)
  | [], [], _, _ => .nil
  | p :: as, r :: R, hl, h => .cons (.tup (h 0 p r rfl rfl) (dp_ints r)) (dp_rowsT as R (Nat.succ.inj hl) fun i p' r' e1 e2 => h (i + 1) p' r' e1 e2)
theorem dp_table {R : List Rnd} (h : TbL K H a R) : Dp K H (.ref a) (.list (R.map dRow)) := by
  obtain ⟨as, h1, h2, h3⟩ := h
  exact .lst h1 (dp_rows as R h2 h3)
theorem dp_tableT {R : List Rnd} (h : TbT K H a R) : Dp K H (.ref a) (.tuple (R.map dRowT)) := by
  obtain ⟨as, h1, h2, h3⟩ := h
  exact .tup h1 (dp_rowsT as R h2 h3)
end
theorem lay_ints : ∀ r : List Int, PyData.canLayAll0 (r.map PyData.int) = true
  | [] => by simp [PyData.canLayAll0]
  | x :: r => by simp [PyData.canLayAll0, PyData.canLay0, lay_ints r]
theorem dep_ints : ∀ r : List Int, PyData.depthAll (r.map PyData.int) ≤ 1
  | [] => by simp [PyData.depthAll]
  | x :: r => by
    have := dep_ints r
    simp only [List.map_cons, PyData.depthAll, PyData.depth]
    omega
theorem shaped_mk {d : PyData} (h1 : d.canLay0 = true) (h2 : d.depth ≤ 64) : SeqAt.shaped d = true := by
  show (d.canLay0 && decide (d.depth ≤ 64)) = true
  rw [Bool.and_eq_true]
  exact ⟨h1, decide_eq_true h2⟩
theorem shaped_ints (r : List Int) : SeqAt.shaped (.list (r.map PyData.int)) = true := shaped_mk (by simp only [PyData.canLay0]; exact lay_ints r) (by have := dep_ints r; simp only [PyData.depth]; omega)
theorem lay_rows : ∀ R : List Rnd, PyData.canLayAll0 (R.map dRow) = true
  | [] => by simp [PyData.canLayAll0]
  | x :: r => by simp [PyData.canLayAll0, PyData.canLay0, dRow, lay_ints x, lay_rows r]
theorem lay_rowsT : ∀ R : List Rnd, PyData.canLayAll0 (R.map dRowT) = true
  | [] => by simp [PyData.canLayAll0]
  | x :: r => by simp [PyData.canLayAll0, PyData.canLay0, dRowT, lay_ints x, lay_rowsT r]
theorem dep_rows : ∀ R : List Rnd, PyData.depthAll (R.map dRow) ≤ 3
  | [] => by simp [PyData.depthAll]
  | x :: r => by
    have h1 := dep_rows r
    have h2 := dep_ints x
    simp only [List.map_cons, PyData.depthAll, dRow, PyData.depth]
    omega
theorem dep_rowsT : ∀ R : List Rnd, PyData.depthAll (R.map dRowT) ≤ 3
  | [] => by simp [PyData.depthAll]
  | x :: r => by
    have h1 := dep_rowsT r
    have h2 := dep_ints x
    simp only [List.map_cons, PyData.depthAll, dRowT, PyData.depth]
    omega
theorem shaped_rows (R : List Rnd) : SeqAt.shaped (.list (R.map dRow)) = true := shaped_mk (by simp only [PyData.canLay0]; exact lay_rows R) (by have := dep_rows R; simp only [PyData.depth]; omega)
theorem shaped_rowsT (R : List Rnd) : SeqAt.shaped (.tuple (R.map dRowT)) = true := shaped_mk (by simp only [PyData.canLay0]; exact lay_rowsT R) (by have := dep_rowsT R; simp only [PyData.depth]; omega)
theorem shaped_nil : SeqAt.shaped (.list []) = true := by decide +kernel
theorem shaped_nilT : SeqAt.shaped (.tuple []) = true := by decide +kernel
theorem strOk_of {z : Str} (h : NameOk z) : PyData.strOk z = true := by
  show z.cps.all (· < 0x110000) = true
  rw [Array.all_eq_true_iff_forall_mem]
  intro c hc
  have q := (h.az c (Array.mem_toList_iff.mpr hc)).2
  exact decide_eq_true (by omega)
theorem lay_names : ∀ ns : List Str, (∀ z ∈ ns, NameOk z) → PyData.canLayAll0 (ns.map PyData.str) = true
  | [], _ => by simp [PyData.canLayAll0]
  | x :: r, h => by
    have h1 := lay_names r fun z hz => h z (List.mem_cons_of_mem _ hz)
    have h2 := strOk_of (h x List.mem_cons_self)
    simp [PyData.canLayAll0, PyData.canLay0, h1, h2]
theorem dep_names : ∀ ns : List Str, PyData.depthAll (ns.map PyData.str) ≤ 1
  | [] => by simp [PyData.depthAll]
  | x :: r => by
    have := dep_names r
    simp only [List.map_cons, PyData.depthAll, PyData.depth]
    omega
theorem shaped_names {ns : List Str} (h : ∀ z ∈ ns, NameOk z) : SeqAt.shaped (.tuple (ns.map PyData.str)) = true := shaped_mk (by simp only [PyData.canLay0]; exact lay_names ns h) (by have := dep_names ns; simp only [PyData.depth]; omega)
theorem eqv_strs : ∀ ns ms : List Str, PyData.eqvAll (ns.map PyData.str) (ms.map PyData.str) = decide (ns = ms)
  | [], [] => by simp [PyData.eqvAll]
  | [], _ :: _ => by simp [PyData.eqvAll]
  | _ :: _, [] => by simp [PyData.eqvAll]
  | x :: r, y :: q => by
    simp only [List.map_cons, PyData.eqvAll, PyData.eqv, eqv_strs r q]
    by_cases h1 : x = y
    · subst h1
      by_cases h2 : r = q <;> simp [h2]
    · simp [h1]
theorem eqv_names (ns ms : List Str) : PyData.eqv (.tuple (ns.map PyData.str)) (.tuple (ms.map PyData.str)) = decide (ns = ms) := by
  simp only [PyData.eqv]
  exact eqv_strs ns ms
theorem eqv_nil {α : Type} (f : α → PyData) : ∀ R : List α, PyData.eqv (.list (R.map f)) (.list []) = decide (R = [])
  | [] => by simp [PyData.eqv, PyData.eqvAll]
  | _ :: _ => by simp [PyData.eqv, PyData.eqvAll]
theorem eqv_nilT {α : Type} (f : α → PyData) : ∀ R : List α, PyData.eqv (.tuple (R.map f)) (.tuple []) = decide (R = [])
  | [] => by simp [PyData.eqv, PyData.eqvAll]
  | _ :: _ => by simp [PyData.eqv, PyData.eqvAll]
end KP

set_option Elab.async false
set_option linter.all false
set_option maxRecDepth 100000
set_option maxHeartbeats 4000000
/-! # The small helpers of the charts -/
namespace KP
open PySem PySem.Spec PyProof.Rows L2 KR KM

theorem line12 {n : Nat} (h : n ≤ 1000) : n ≤ sizeLine := Nat.le_of_lt (small1000 h)
/-- a comprehension without a test, its one variable in slot j -/
theorem lc_one {J : It} {n : Nat} {G : Hp → Prop} {Y : Nat → Hp → V → Hp → Prop} (w : Walk J n G Y) {j : Nat} {te : TE} {vs : List Nat} {σ : L2.St} {H1 : Hp} {D : Addr} {Qd : Hp → Prop} (Pv : Nat → Hp → Prop) (h0 : Pv 0 (upd H1 D (.lst []))) (hG : ∀ i H, i ≤ n → Pv i H → G H)
    (hs : ∀ i x H H', i < n → Pv i H → Y i H x H' → wipe ((wipe σ vs).set j (some x)) vs = wipe σ vs ∧ te ((wipe σ vs).set j (some x)) H' fun y H4 => ∃ acc, H4 D = some (.lst acc) ∧ acc.length < sizeLine ∧ Pv (i + 1) (upd H4 D (.lst (acc ++ [y]))))
    (hd : ∀ H, Pv n H → Qd H) :
    ∃ W : Nat → Nat → Hp → Prop, (∃ m, W 0 m (upd H1 D (.lst []))) ∧ ∀ i m H, W i m H →
      (J.stop i H ∧ Qd H) ∨ (J.go i H ∧ ∃ Nx : Hp → Prop, (∀ H', Nx H' → ∃ m', m' < m ∧ W (i + 1) m' H') ∧ ∀ x H', J.yld i H x H' → gName j x (wipe σ vs) H' fun σ2 H2 => wipe σ2 vs = wipe σ vs ∧ tYes σ2 H2 fun b H3 =>
        if b = true then te σ2 H3 fun y H4 => ∃ acc, H4 D = some (.lst acc) ∧ acc.length < sizeLine ∧ Nx (upd H4 D (.lst (acc ++ [y]))) else Nx H3) :=
  lc_it (g := gName j) (tt := tYes) (te := te) w Pv h0 hG (fun i x H H' hi p y => by
    obtain ⟨a, b⟩ := hs i x H H' hi p y
    refine ⟨a, ?_⟩
    exact @iteT _ (Pv (i + 1) H') b) hd
/-- a loop over pairs (enumerate, zip), its two names in slots i, j -/
theorem for_pair {K : PySem.W.Frag} {J : It} {n : Nat} {G : Hp → Prop} {f g : Nat → Option V} (w : Walk J n G (YPair f g)) {i j : Nat} {tb : TS} {D : Ends} {σ : L2.St} {H : Hp} (Pv : Nat → L2.St → Hp → Prop) (h0 : Pv 0 σ H) (hG : ∀ m σ H, m ≤ n → Pv m σ H → G H)
    (hs : ∀ m x y σ H T, m < n → Pv m σ H → f m = some x → g m = some y → H T = none → tb { D with nx := Pv (m + 1), ct := Pv (m + 1), bk := D.nx } ((σ.set i (some x)).set j (some y)) (upd H T (.tup [x, y]))) (hd : ∀ σ H, Pv n σ H → D.nx σ H) :
    ∃ W : Nat → Nat → L2.St → Hp → Prop, (∃ m, W 0 m σ H) ∧ ∀ k m σ H, W k m σ H →
      (J.stop k H ∧ D.nx σ H) ∨ (J.go k H ∧ ∃ N : L2.St → Hp → Prop, (∀ σ' H', N σ' H' → ∃ m', m' < m ∧ W (k + 1) m' σ' H') ∧ ∀ x H', J.yld k H x H' → gTup K 2 (gCons (gName i) (gCons (gName j) gNil)) x σ H' fun σ2 H2 => tb { D with nx := N, ct := N, bk := D.nx } σ2 H2) :=
  for_it w Pv h0 hG (fun m v σ H H' hm p hy => by
    obtain ⟨T, x, y, rfl, nT, rfl, e1, e2⟩ := hy
    exact ⟨T, [x, y], rfl, SqT.of upd_same, rfl, x, [y], rfl, y, [], rfl, rfl, hs m x y σ H T hm p e1 e2 nT⟩) hd
theorem map_get {α β : Type} {f : α → β} {l : List α} {i : Nat} {y : β} (h : (l.map f)[i]? = some y) : ∃ x, l[i]? = some x ∧ y = f x := by
  rw [List.getElem?_map] at h
  cases e : l[i]? with
  | none => rw [e] at h; cases h
  | some x => rw [e] at h; exact ⟨x, rfl, (Option.some.inj h).symm⟩
/-- a tuple is none of the lists that are stored into -/
theorem hideT {K : PySem.W.Frag} {H : Hp} {p D : Addr} {xs ys : List V} (h : SqT K H p xs) (e : H D = some (.lst ys)) : SqT K (Rest D D H) p xs := by
  rcases h with (h | ⟨o, h⟩) | h
  · have n : p ≠ D := ne_of h e (by intro z; cases z)
    exact .inl (.inl (by rw [rest_ne n n]; exact h))
  · have n : p ≠ D := ne_of h e (by intro z; cases z)
    exact .inl (.inr ⟨o, by rw [rest_ne n n]; exact h⟩)
  · exact .inr h
theorem take_snoc {α : Type} {l : List α} {i : Nat} {x : α} (h : l[i]? = some x) : l.take (i + 1) = l.take i ++ [x] := by
  rw [List.take_add_one, h]
  rfl
theorem get_snoc {α : Type} {l : List α} {x y : α} {i : Nat} (h : (l ++ [x])[i]? = some y) : (l[i]? = some y) ∨ (i = l.length ∧ x = y) := by
  by_cases q : i < l.length
  · rw [List.getElem?_append_left q] at h
    exact .inl h
  · rw [List.getElem?_append_right (by omega)] at h
    have e : i - l.length = 0 := by
      have := (List.getElem?_eq_some_iff.mp h).1
      simp only [List.length_singleton] at this
      omega
    rw [e] at h
    exact .inr ⟨by omega, Option.some.inj h⟩
/-! ### tuples: slices, sums, copies, whatever object they give -/
section
variable {K : PySem.W.Frag} {H : Hp} {a b : Addr} {xs ys : List V} {Q : VK}
theorem cutV_all (xs : List V) (lo hi : Option Int) (h : HT.sIx xs.length 0 lo = 0 ∧ HT.sIx xs.length xs.length hi = xs.length) : cutV xs lo hi = xs := by
  unfold cutV
  rw [h.1, h.2, List.drop_zero, Nat.sub_zero, List.take_length]
theorem cutV_to (xs : List V) {i : Nat} (h : i ≤ xs.length) : cutV xs none (some (i : Int)) = xs.take i := by
  unfold cutV
  rw [HT.sIx_none, HT.sIx_nat, List.drop_zero, Nat.sub_zero, Nat.min_eq_left h]
theorem cutV_from (xs : List V) {i : Nat} (h : i ≤ xs.length) : cutV xs (some (i : Int)) none = xs.drop i := by
  unfold cutV
  rw [HT.sIx_none, HT.sIx_nat, Nat.min_eq_left h]
  exact List.take_of_length_le (by rw [List.length_drop]; exact Nat.le_refl _)
theorem slA_of {lo hi : Option Int} (h : SqT K H a xs) (q : ∀ p H', Same H H' → SqT K H' p (cutV xs lo hi) → Q (.ref p) H') : rSlA K (.ref a) lo hi H Q :=
  ⟨a, xs, rfl, h, fun e => q a H (Same.refl H) (by rw [cutV_all xs lo hi e]; exact h), fun _ p np => q p _ (up_new np) (SqT.of upd_same)⟩
theorem catA_of (ha : SqT K H a xs) (hb : SqT K H b ys) (hl : xs.length + ys.length ≤ 1000) (q : ∀ p H', Same H H' → SqT K H' p (xs ++ ys) → Q (.ref p) H') : rCatA K (.ref a) (.ref b) H Q :=
  ⟨a, b, xs, ys, rfl, rfl, ha, hb, line12 hl, fun e => q b H (Same.refl H) (by rw [e]; exact hb), fun _ e => q a H (Same.refl H) (by rw [e, List.append_nil]; exact ha), fun _ _ p np => q p _ (up_new np) (SqT.of upd_same)⟩
theorem times_of {k : Int} (ha : SqT K H a xs) (hn : xs ≠ []) (h0 : 0 ≤ k) (h1 : k ≤ 1000) (hl : xs.length ≤ 1000) (q : ∀ p H', Same H H' → SqT K H' p (List.replicate k.toNat xs).flatten → Q (.ref p) H') : rTimes K (.ref a) (.int k) H Q :=
  ⟨a, k, xs, rfl, rfl, ha, hn, h0, h1, hl, fun e => q a H (Same.refl H) (by subst e; simpa using ha), fun _ p np => q p _ (up_new np) (SqT.of upd_same)⟩
theorem tup_of (h : SqA K H a xs) (q : ∀ p H', Same H H' → SqT K H' p xs → Q (.ref p) H') : ∃ p ys, [V.ref a] = [.ref p] ∧ ((SqL K H p ys ∧ ∀ l, H l = none → Q (.ref l) (upd H l (.tup ys))) ∨ (SqT K H p ys ∧ Q (.ref p) H)) := by
  rcases h with h | h
  · exact ⟨a, xs, rfl, .inl ⟨h, fun l nl => q l _ (up_new nl) (SqT.of upd_same)⟩⟩
  · exact ⟨a, xs, rfl, .inr ⟨h, q a H (Same.refl H) h⟩⟩
end
def rTupA (K : PySem.W.Frag) : List V → Hp → VK → Prop := fun vs H Q => ∃ a xs, vs = [.ref a] ∧ SqA K H a xs ∧ ∀ p H', Same H H' → SqT K H' p xs → Q (.ref p) H'
def rCutA (K : PySem.W.Frag) : V → Option Int → Option Int → Hp → VK → Prop := fun x lo hi H Q => ∃ a xs, x = .ref a ∧ SqT K H a xs ∧ ∀ p H', Same H H' → SqT K H' p (cutV xs lo hi) → Q (.ref p) H'
def rJoinA (K : PySem.W.Frag) : R2 := fun x y H Q => ∃ a b xs ys, x = .ref a ∧ y = .ref b ∧ SqT K H a xs ∧ SqT K H b ys ∧ xs.length + ys.length ≤ 1000 ∧ ∀ p H', Same H H' → SqT K H' p (xs ++ ys) → Q (.ref p) H'
def rManyA (K : PySem.W.Frag) : R2 := fun x y H Q => ∃ (a : Addr) (k : Int) (xs : List V), x = .ref a ∧ y = .int k ∧ SqT K H a xs ∧ xs ≠ [] ∧ 0 ≤ k ∧ k ≤ 1000 ∧ xs.length ≤ 1000 ∧ ∀ p H', Same H H' → SqT K H' p (List.replicate k.toNat xs).flatten → Q (.ref p) H'
section
variable {X : Cx}
theorem call_tupA : CallR X (.type "tuple") (rTupA X.K) := by
  intro pins s σ H xs us Q I r h
  obtain ⟨a, ys, rfl, hs, q⟩ := h
  exact call_tuple_of pins s σ H _ us Q I r (tup_of hs q)
theorem sl_cutA : SlR X (rCutA X.K) := by
  intro pins s σ H x v vl vu lo hi sl Q I rx hs pl pu h
  obtain ⟨a, ys, rfl, ht, q⟩ := h
  exact sl_tupA pins s σ H _ v vl vu lo hi sl Q I rx hs pl pu (slA_of ht q)
theorem op_joinA : OpR X (binaryOp .Add) (rJoinA X.K) := by
  intro pins s σ H x y v u Q I rx ry h
  obtain ⟨a, b, xs, ys, rfl, rfl, ha, hb, hl, q⟩ := h
  exact op_catA pins s σ H _ _ v u Q I rx ry (catA_of ha hb hl q)
theorem op_manyA : OpR X (binaryOp .Mult) (rManyA X.K) := by
  intro pins s σ H x y v u Q I rx ry h
  obtain ⟨a, k, xs, rfl, rfl, ha, hn, h0, h1, hl, q⟩ := h
  exact op_times pins s σ H _ _ v u Q I rx ry (times_of ha hn h0 h1 hl q)
end
/-- what the program takes from the built-ins -/
structure Blt (mg : Str → Option Value) : Prop where
  isi : mg "isinstance" = none
  int : mg "int" = none
  bool : mg "bool" = none
  str : mg "str" = none
  len : mg "len" = none
  all : mg "all" = none
  tuple : mg "tuple" = none
  list : mg "list" = none
  enum : mg "enumerate" = none
  sum : mg "sum" = none
  range : mg "range" = none
  zip : mg "zip" = none
/-- a def of the program that keeps a promise, as a caller sees it -/
def Dfn (P : Program) (w : World) (K : PySem.W.Frag) (mg : Str → Option Value) (base : Heap) (k : Nat) (x : Str) (ps : List Str) (sp : Sp) : Prop :=
  ∃ (f : Addr) (fd : FuncData), FnOk P w K mg base CX0 k f fd ps sp ∧ mg x = some (.ref f) ∧ PySem.W.keepIn K (.ref f) = true ∧ Binds K fd ps []
section
variable {X : Cx} {k j : Nat} {x : Str} {ps : List Str} {sp : Sp} {e : Expr} {es : List Expr} {t : TA} {p pos : Pos}
theorem pe_fn (D : Dfn X.prog X.w X.K X.mg X.base k x ps sp) (hr : Room j X.A) (ha : PA X (e :: es) t) (hk : k ≤ j := by decide) (hg : Gl X x := by rfl) (hdb : (x == ("__debug__" : Str)) = false := by decide)
    (he : starEach (e :: es) X.env = (false, eval e X.env) :: starEach es X.env := by rfl) (hpl : (backTo pos (starEach es X.env)).any (·.1) = false := by rfl) :
    PE X (.Call (.Name x p) (e :: es) [] pos) (tCall sp [] E0 t) := by
  obtain ⟨f, fd, F, m, kp, b⟩ := D
  exact pe_call F (hr.mono hk) hg m kp b .nil pass0 ha hdb he hpl
end
theorem ifT {c : Bool} {A B : Prop} (h : c = true) (a : A) : if c = true then A else B := by
  rw [if_pos h]
  exact a
theorem ifF {c : Bool} {A B : Prop} (h : c = false) (b : B) : if c = true then A else B := by
  rw [h, if_neg Bool.false_ne_true]
  exact b
section
variable {X : Cx}
theorem pe_int_ty {p : Pos} (B : Blt X.mg) (hg : Gl X "int" := by rfl) : PE X (.Name "int" p) (tC (.ty "int")) := pe_bltn (v := .ty "int") hg B.int PyProof.Rows.boot_int rfl
theorem pe_bool_ty {p : Pos} (B : Blt X.mg) (hg : Gl X "bool" := by rfl) : PE X (.Name "bool" p) (tC (.ty "bool")) := pe_bltn (v := .ty "bool") (u := .type "bool") hg B.bool (by decide +kernel) rfl
theorem pe_str_ty {p : Pos} (B : Blt X.mg) (hg : Gl X "str" := by rfl) : PE X (.Name "str" p) (tC (.ty "str")) := pe_bltn (v := .ty "str") (u := .type "str") hg B.str (by decide +kernel) rfl
theorem pe_tuple_ty {p : Pos} (B : Blt X.mg) (hg : Gl X "tuple" := by rfl) : PE X (.Name "tuple" p) (tC (.ty "tuple")) := pe_bltn (v := .ty "tuple") (u := .type "tuple") hg B.tuple (by decide +kernel) rfl
theorem pe_list_ty {p : Pos} (B : Blt X.mg) (hg : Gl X "list" := by rfl) : PE X (.Name "list" p) (tC (.ty "list")) := pe_bltn (v := .ty "list") (u := .type "list") hg B.list (by decide +kernel) rfl
theorem pe_isi {a b : Expr} {p pos : Pos} {ta tb : TE} (B : Blt X.mg) (ha : PE X a ta) (hb : PE X b tb) (hg : Gl X "isinstance" := by rfl) (hs : starEach [b] X.env = [(false, eval b X.env)] := by rfl) (hs2 : starEach [a, b] X.env = (false, eval a X.env) :: starEach [b] X.env := by rfl)
    (hpl : (backTo pos (starEach [b] X.env)).any (·.1) = false := by rfl) :
    PE X (.Call (.Name "isinstance" p) [a, b] [] pos) (tCB (rIsi X.K) (tCons ta (tCons tb tNil))) :=
  pe_callB call_isi hg B.isi (by decide +kernel) (pa_cons ha (pa_cons hb pa_nil hs) hs2) (by decide) (by decide) hs2 hpl
end
section
variable {X : Cx} {a : Expr} {ta : TE} {p pos : Pos}
theorem pe_tupOf (B : Blt X.mg) (ha : PE X a ta) (hg : Gl X "tuple" := by rfl) (hs : starEach [a] X.env = [(false, eval a X.env)] := by rfl) : PE X (.Call (.Name "tuple" p) [a] [] pos) (tCB (rTupA X.K) (tCons ta tNil)) :=
  pe_callTy call_tupA hg B.tuple (by decide +kernel) (pa_cons ha pa_nil hs) (by decide) (by decide) hs (by rfl)
theorem pe_len (B : Blt X.mg) (ha : PE X a ta) (hg : Gl X "len" := by rfl) (hs : starEach [a] X.env = [(false, eval a X.env)] := by rfl) : PE X (.Call (.Name "len" p) [a] [] pos) (tCB (fun xs H Q => ∃ p ys, xs = [.ref p] ∧ (SqL X.K H p ys ∨ SqT X.K H p ys) ∧ Q (.int ys.length) H) (tCons ta tNil)) :=
  pe_callB call_len_seq hg B.len PySem.boot_len (pa_cons ha pa_nil hs) (by decide) (by decide) hs (by rfl)
end
def spIsInt : Sp := fun vs H Q _ => ∃ i : Int, vs = [.int i] ∧ Q (.bl true) H
def spIsBet : Sp := fun vs H Q _ => ∃ i lo hi : Int, vs = [.int i, .int lo, .int hi] ∧ Q (.bl (decide (lo ≤ i ∧ i ≤ hi))) H
def spIsName : Sp := fun vs H Q _ => ∃ z : Str, vs = [.str z] ∧ NameOk z ∧ ∀ H', Same H H' → Q (.bl true) H'
def spGcd : Sp := fun vs H Q _ => ∃ a b : Int, vs = [.int a, .int b] ∧ 0 ≤ a ∧ 0 ≤ b ∧ Q (.int (Nat.gcd a.toNat b.toNat : Nat)) H
def spRoster (K : PySem.W.Frag) : Sp := fun vs H Q _ => ∃ (p : Addr) (ns : List Str), vs = [.ref p] ∧ SqA K H p (ns.map V.str) ∧ NamesOk ns ∧ ∀ q H', Same H H' → SqT K H' q (ns.map V.str) → Q (.ref q) H'
def spFault (K : PySem.W.Frag) : Sp := fun vs H Q _ => ∃ (p : Addr) (m : Nat) (S : Int) (r : Rnd), vs = [.ref p, .int m, .int S] ∧ SqA K H p (r.map V.int) ∧ RowOk m S r ∧ ∀ H', Same H H' → Q .non H'
def spMult (K : PySem.W.Frag) : Sp := fun vs H Q _ => ∃ (q : Addr) (f : Int) (R : List Rnd), vs = [.ref q, .int f] ∧ TbT K H q R ∧ R.length ≤ 1000 ∧ (∀ r ∈ R, r.length ≤ 1000 ∧ ∀ x ∈ r, 0 ≤ x ∧ x ≤ 1000000000000) ∧ ∀ q' H', Same H H' → TbT K H' q' (times R f) → Q (.ref q') H'
section
variable {P : Program} {w : World} {K : PySem.W.Frag} {mg : Str → Option Value} {base : Heap}
theorem scIsInt : FnScope ["value"] ["value"] (defScope sIsInt) := ⟨rfl, rfl, rfl, by decide +kernel, rfl, by decide +kernel, by decide +kernel⟩
theorem ok_isint {f : Addr} {fd : FuncData} (F : Fun K "is_integer" "is_integer" sIsInt f fd) (B : Blt mg) : FnOk P w K mg base CX0 1 f fd ["value"] spIsInt := by
  refine F.ok scIsInt (fun vs H Q E h => ?_) (fun cdv A outer s H vs Q E hr h => ?_)
  · obtain ⟨i, rfl, _⟩ := h
    rfl
  · obtain ⟨i, rfl, q⟩ := h
    refine ⟨_, pss_one (ps_ret (pe_and (pe_isi B (pv 0) (pe_int_ty B)) (pe_one (pe_not (pe_isi B (pv 0) (pe_bool_ty B)))))), ?_⟩
    refine ⟨.int i, rfl, .int i, .ty "int", .type "int", .type "int", true, rfl, .ty _, .base (.int i), kit_ty (by decide +kernel), true, rfl, iteT ?_⟩
    exact ⟨.int i, rfl, .int i, .ty "bool", .type "int", .type "bool", false, rfl, .ty _, .base (.int i), kit_ty (by decide +kernel), false, rfl, q⟩
theorem scIsBet : FnScope ["value", "low", "high"] ["value", "low", "high"] (defScope sIsBet) := ⟨rfl, rfl, rfl, by decide +kernel, rfl, by decide +kernel, by decide +kernel⟩
theorem ok_isbet {f : Addr} {fd : FuncData} (F : Fun K "is_between" "is_between" sIsBet f fd) (D : Dfn P w K mg base 1 "is_integer" ["value"] spIsInt) : FnOk P w K mg base CX0 2 f fd ["value", "low", "high"] spIsBet := by
  refine F.ok scIsBet (fun vs H Q E h => ?_) (fun cdv A outer s H vs Q E hr h => ?_)
  · obtain ⟨i, lo, hi, rfl, _⟩ := h
    rfl
  · obtain ⟨i, lo, hi, rfl, q⟩ := h
    refine ⟨_, pss_one (ps_ret (pe_and (pe_fn D hr (pa_cons (pv 0) pa_nil)) (pe_one (pe_chain op_le op_le (pv 1) (pv 0) (pv 2))))), ?_⟩
    refine ⟨.int i, rfl, i, rfl, true, rfl, iteT ?_⟩
    refine ⟨.int lo, rfl, .int i, rfl, lo, i, rfl, rfl, _, rfl, ?_⟩
    by_cases h1 : lo ≤ i
    · rw [decide_eq_true h1]
      refine iteT ⟨.int hi, rfl, i, hi, rfl, rfl, ?_⟩
      have e : decide (i ≤ hi) = decide (lo ≤ i ∧ i ≤ hi) := by simp [h1]
      rw [← e] at q
      exact q
    · rw [decide_eq_false h1]
      refine iteF ?_
      have e : decide (lo ≤ i ∧ i ≤ hi) = false := by simp [h1]
      rw [e] at q
      exact q
theorem scIsName : FnScope ["value", "letter"] ["value"] (defScope sIsName) := ⟨rfl, rfl, rfl, by decide +kernel, rfl, by decide +kernel, by decide +kernel⟩
theorem az_lo {c : Nat} (h : 97 ≤ c) : (!decide ((⟨#[c]⟩ : Str).cps.toList < ("a" : Str).cps.toList)) = true := by
  have e : ("a" : Str).cps.toList = [97] := by decide +kernel
  rw [e]
  show (!decide ([c] < [97])) = true
  rw [decide_eq_false (by rw [List.cons_lt_cons_iff]; rintro (q | ⟨_, q⟩); exact absurd q (by omega); exact absurd q (List.not_lt_nil _))]
  rfl
theorem az_hi {c : Nat} (h : c ≤ 122) : (!decide (("z" : Str).cps.toList < (⟨#[c]⟩ : Str).cps.toList)) = true := by
  have e : ("z" : Str).cps.toList = [122] := by decide +kernel
  rw [e]
  show (!decide ([122] < [c])) = true
  rw [decide_eq_false (by rw [List.cons_lt_cons_iff]; rintro (q | ⟨_, q⟩); exact absurd q (by omega); exact absurd q (List.not_lt_nil _))]
  rfl
theorem all_true : ∀ n : Nat, (List.replicate n true).all id = true := fun n => by simp
theorem ok_isname {f : Addr} {fd : FuncData} (F : Fun K "is_name" "is_name" sIsName f fd) (B : Blt mg) {t12 : Tok} (m12 : mg "MOST_LETTERS" = some (.int 12 t12)) : FnOk P w K mg base CX0 1 f fd ["value"] spIsName := by
  refine F.ok scIsName (fun vs H Q E h => ?_) (fun cdv A outer s H vs Q E hr h => ?_)
  · obtain ⟨z, rfl, _⟩ := h
    rfl
  · obtain ⟨z, rfl, hz, q⟩ := h
    have h1 := hz.pos
    have h2 := hz.le
    refine ⟨_, pss_cons (ps_if (PW.pt (pw_or (pt_not (pt_val (pe_isi B (pv 0) (pe_str_ty B)))) (pw_or1 (pt_not (pt_chain op_le op_le pe_int (pe_callB call_len_str (by rfl) B.len PySem.boot_len (pa_cons (pv 0) pa_nil)) (pe_glob (v := .int 12) rfl m12 ⟨_, rfl⟩))))))
        (pss_one (ps_ret pe_bl)) pss_nil)
      (pss_one (ps_ret (pe_callB (cr_all rfl) (by rfl) B.all (by decide +kernel) (pa_cons (pe_lc (own := [("letter", 1)]) (g := gName 1) (tt := tYes) rfl scIsName.nd (pi_str (pv 0)) (blkOk_by (own := [("letter", 1)]) (N := ["value", "letter"]) (sc := defScope sIsName) (by decide +kernel))
        (fun _ _ _ _ _ => pg_name (i := 1) scIsName.nd rfl (Or.inl rfl)) (fun _ _ _ _ _ => pts_nil) (fun _ _ _ _ _ => pe_chain op_le_str op_le_str pe_str (pv 1) pe_str)) pa_nil)))), ?_⟩
    refine ⟨.str z, rfl, .str z, .ty "str", .type "str", .type "str", true, rfl, .ty _, .base (.str z), kit_ty (by decide +kernel), true, rfl, iteF ?_⟩
    refine ⟨.str z, rfl, z, rfl, line12 (by omega), 1, _, rfl, rfl, _, rfl, ifT (decide_eq_true (by omega)) ?_⟩
    refine ⟨_, _, rfl, rfl, true, congrArg V.bl (decide_eq_true (by omega)), iteF ?_⟩
    refine ⟨.str z, rfl, z, rfl, fun D nD => ?_⟩
    refine lc_one walk_str (fun i G => Same H G ∧ G D = some (.lst ((List.replicate i true).map V.bl))) ⟨up_new nD, upd_same⟩ (fun _ _ _ _ => True.intro) (fun i x G G' hi hP hy => ?_) (fun G hP => ?_)
    · obtain ⟨rfl, c, hc, rfl⟩ := hy
      obtain ⟨sm, eD⟩ := hP
      have hm : c ∈ z.cps.toList := by
        rw [Array.mem_toList_iff]
        exact Array.mem_of_getElem? hc
      have ha := hz.az c hm
      refine ⟨rfl, ?_⟩
      refine ⟨.str ⟨#[c]⟩, rfl, _, _, rfl, rfl, true, congrArg V.bl (az_lo ha.1), iteT ⟨_, _, rfl, rfl, ?_⟩⟩
      have hi2 : i < z.length := hi
      refine ⟨_, eD, by rw [List.length_map, List.length_replicate]; exact small1000 (by omega), up_old sm nD, ?_⟩
      rw [upd_same, az_hi ha.2, List.replicate_succ', List.map_append]
      rfl
    · obtain ⟨sm, eD⟩ := hP
      refine ⟨D, _, rfl, SqL.of eD, ?_⟩
      rw [all_true]
      exact q _ sm
theorem scGcd : FnScope ["one", "other"] ["one", "other"] (defScope sGcd) := ⟨rfl, rfl, rfl, by decide +kernel, rfl, by decide +kernel, by decide +kernel⟩
def gcdMu : L2.St → Nat
  | [_, some (.int b)] => b.toNat
  | _ => 0
theorem gcdMu_at (x : Option V) (b : Int) : gcdMu [x, some (.int b)] = b.toNat := by
  simp only [gcdMu]
theorem fmod_nn {a b : Int} (ha : 0 ≤ a) (hb : 0 ≤ b) : a.fmod b = ((a.toNat % b.toNat : Nat) : Int) := by
  obtain ⟨n, rfl⟩ := Int.eq_ofNat_of_zero_le ha
  obtain ⟨m, rfl⟩ := Int.eq_ofNat_of_zero_le hb
  rw [Int.fmod_eq_emod_of_nonneg _ (by omega), Int.toNat_natCast, Int.toNat_natCast]
  exact (Int.natCast_emod n m).symm
theorem ok_gcd {f : Addr} {fd : FuncData} (F : Fun K "greatest_divisor" "greatest_divisor" sGcd f fd) : FnOk P w K mg base CX0 1 f fd ["one", "other"] spGcd := by
  refine F.ok scGcd (fun vs H Q E h => ?_) (fun cdv A outer s H vs Q E hr h => ?_)
  · obtain ⟨a, b, rfl, _⟩ := h
    rfl
  · obtain ⟨a, b, rfl, ha, hb, q⟩ := h
    refine ⟨_, pss_cons (ps_while PassesOwn.never (pt_cmpR op_ne (pv 1) pe_int (nomark _)) (pss_one (ps_par (i := 0) (j := 1) rfl scGcd.nd rfl rfl (by decide) rfl rfl (pa_cons (pv 1) (pa_cons (pe_op op_modN (pv 0) (pv 1)) pa_nil)) (by rfl))))
      (pss_one (ps_ret (pv 0))), ?_⟩
    refine while_by (fun σ G => ∃ x y : Nat, σ = [some (.int x), some (.int y)] ∧ Nat.gcd x y = Nat.gcd a.toNat b.toNat ∧ G = H) (fun σ _ => gcdMu σ) ⟨a.toNat, b.toNat, ?_, rfl, rfl⟩ (fun σ G hP => ?_) (fun σ G Q1 Q2 hq h => ?_)
    · rw [Int.toNat_of_nonneg ha, Int.toNat_of_nonneg hb]
      rfl
    · obtain ⟨x, y, rfl, e, rfl⟩ := hP
      refine ⟨_, rfl, rfl, _, rfl, ?_⟩
      rw [dec_int]
      by_cases hy : y = 0
      · subst hy
        refine ifF (by rfl) ⟨_, rfl, ?_⟩
        rw [← e, Nat.gcd_zero_right] at q
        exact q
      · have hyi : (y : Int) ≠ 0 := by omega
        refine ifT (by simpa using hyi) ⟨_, rfl, _, rfl, _, rfl, _, _, rfl, rfl, hyi, _, _, rfl, ⟨y, x % y, ?_, ?_, rfl⟩, ?_⟩
        · show ([some _, some (.int ((x : Int).fmod (y : Int)))] : L2.St) = _
          rw [fmod_nn (by omega) (by omega)]
          rfl
        · rw [← e, Nat.gcd_comm x y, Nat.gcd_rec y x, Nat.gcd_comm]
        · show gcdMu [some _, some (.int ((x : Int).fmod (y : Int)))] < gcdMu [some _, some (.int (y : Int))]
          rw [gcdMu_at, gcdMu_at, fmod_nn (by omega) (by omega)]
          show (((x % y : Nat) : Int)).toNat < ((y : Nat) : Int).toNat
          rw [Int.toNat_natCast, Int.toNat_natCast]
          exact Nat.mod_lt x (Nat.pos_of_ne_zero hy)
    · obtain ⟨v, e1, h1, k, e2, q2⟩ := h
      exact ⟨v, e1, h1, k, e2, hq _ _ q2⟩
theorem scRoster : FnScope ["members", "roster", "at", "member"] ["members"] (defScope sRoster) := ⟨rfl, rfl, rfl, by decide +kernel, rfl, by decide +kernel, by decide +kernel⟩
theorem str_all (l : List Str) : (l.map V.str).all flatV = true := by
  rw [List.all_eq_true]
  intro x hx
  obtain ⟨z, _, rfl⟩ := List.mem_map.mp hx
  rfl
theorem inV_strs (z : Str) (l : List Str) : inV (.str z) (l.map V.str) = decide (z ∈ l) := by
  unfold inV
  rw [List.any_map, Bool.eq_iff_iff, List.any_eq_true, decide_eq_true_iff]
  constructor
  · rintro ⟨x, hx, e⟩
    have e2 : x = z := by simpa [eqV] using e
    exact e2 ▸ hx
  · intro h
    exact ⟨z, h, by simp [eqV]⟩
theorem not_before {l : List Str} (nd : l.Nodup) {i : Nat} {z : Str} (h : l[i]? = some z) : z ∉ l.take i := fun hm => by
  obtain ⟨j, hj⟩ := List.mem_iff_getElem?.mp hm
  have hj1 : j < i := by
    have h1 : j < (l.take i).length := (List.getElem?_eq_some_iff.mp hj).1
    rw [List.length_take] at h1
    omega
  rw [List.getElem?_take_of_lt hj1] at hj
  have hi : i < l.length := (List.getElem?_eq_some_iff.mp h).1
  have e := (List.getElem?_inj (by omega) nd).mp (hj.trans h.symm)
  omega
theorem ok_roster {f : Addr} {fd : FuncData} (F : Fun K "checked_roster" "checked_roster" sRoster f fd) (B : Blt mg) (D : Dfn P w K mg base 1 "is_name" ["value"] spIsName) : FnOk P w K mg base CX0 2 f fd ["members"] (spRoster K) := by
  refine F.ok scRoster (fun vs H Q E h => ?_) (fun cdv A outer s H vs Q E hr h => ?_)
  · obtain ⟨p, ns, rfl, _⟩ := h
    rfl
  · obtain ⟨p, ns, rfl, hS, ok, q⟩ := h
    have h1 := ok.pos
    have h2 := ok.le
    refine ⟨_, pss_cons (ps_set (i := 1) scRoster.nd rfl (Or.inl rfl) (pe_callTy call_tupA (by rfl) B.tuple (by decide +kernel) (pa_cons (pv 0) pa_nil)))
      (pss_cons (ps_if (pt_not (pt_chain op_le op_le pe_int (pe_callB call_len_seq (by rfl) B.len PySem.boot_len (pa_cons (pv 1) pa_nil)) pe_int)) (pss_one ps_never) pss_nil)
      (pss_cons (ps_for PassesOwn.never rfl (pi_enumA (by rfl) B.enum (pa_cons (pv 1) pa_nil)) (pg_tup rfl (pgs_cons (pg_name (i := 2) scRoster.nd rfl (.inl rfl)) (pgs_cons (pg_name (i := 3) scRoster.nd rfl (.inl rfl)) pgs_nil)))
        (pss_cons (ps_if (pt_not (pt_val (pe_fn D hr (pa_cons (pv 3) pa_nil)))) (pss_one ps_never) pss_nil)
        (pss_one (ps_if (pt_cmpR op_in_seq (pv 3) (pe_slice sl_cutA (pv 1) po_none (po_some (pv 2))) (by rfl)) (pss_one ps_never) pss_nil))))
      (pss_one (ps_ret (pv 1))))), ?_⟩
    refine ⟨.ref p, rfl, p, _, rfl, hS, fun t H1 s1 hT => ?_⟩
    refine ⟨.ref t, rfl, t, _, rfl, .inr hT, 1, _, rfl, rfl, true, congrArg V.bl (decide_eq_true (by rw [List.length_map]; omega)), iteT ?_⟩
    refine ⟨_, _, rfl, rfl, true, congrArg V.bl (decide_eq_true (by rw [List.length_map]; omega)), iteF ?_⟩
    refine ⟨.ref t, rfl, t, _, rfl, .inr hT, fun J G hG mono wk => ?_⟩
    refine for_pair (wk.mono (G' := fun H' => Same H1 H' ) (fun H' sm => mono _ _ sm hG) (fun _ _ _ _ _ _ y => y)) (fun i σ H' => (∃ y2 y3, σ = [some (.ref p), some (.ref t), y2, y3]) ∧ Same H1 H') ⟨⟨none, none, rfl⟩, Same.refl _⟩ (fun _ _ _ _ h => h.2)
      (fun i x y σ H2 T hi hP e1 e2 nT => ?_) (fun σ H2 hP => ?_)
    · obtain ⟨⟨y2, y3, rfl⟩, sm⟩ := hP
      have e1' : V.int (i : Nat) = x := Option.some.inj e1
      subst e1'
      obtain ⟨z, ez, rfl⟩ := map_get e2
      have hz : z ∈ ns := List.mem_of_getElem? ez
      refine ⟨.str z, rfl, z, rfl, ok.ok z hz, fun H3 s3 => ?_⟩
      have s4 : Same H1 H3 := (sm.trans (up_new nT)).trans s3
      refine ⟨true, rfl, iteF ?_⟩
      refine ⟨.str z, rfl, .ref t, rfl, .int (i : Nat), rfl, (i : Nat), rfl, t, _, rfl, sameT s4 hT, fun c H5 s5 hc => ?_⟩
      have hi' : i ≤ (ns.map V.str).length := Nat.le_of_lt hi
      rw [cutV_to _ hi', ← List.map_take] at hc
      refine ⟨c, _, rfl, .inr hc, rfl, str_all _, _, rfl, ?_⟩
      refine ifF ?_ ?_
      · show inV (.str z) _ = false
        rw [inV_strs, decide_eq_false (not_before ok.nd ez)]
      · exact ⟨⟨_, _, rfl⟩, s4.trans s5⟩
    · obtain ⟨⟨y2, y3, rfl⟩, sm⟩ := hP
      exact ⟨_, rfl, q t H2 (s1.trans sm) (sameT sm hT)⟩
theorem scFault : FnScope ["shares", "count", "scale", "share"] ["shares", "count", "scale"] (defScope sFault) := ⟨rfl, rfl, rfl, by decide +kernel, rfl, by decide +kernel, by decide +kernel⟩
theorem kitSeq {H : Hp} {a : Addr} {xs : List V} (h : SqA K H a xs) : ∃ t, TyX K H (.ref a) t ∧ PySem.W.kitAny K t [.type "list", .type "tuple"] = some true := by
  rcases h with h | h
  · exact ⟨_, tyL h, kitAny_cons (b := true) (r := true) (kit_ty (by decide +kernel)) (fun z => nomatch z) (fun _ => rfl)⟩
  · exact ⟨_, tyT h, kitAny_cons (b := false) (r := true) (kit_ty (by decide +kernel)) (fun _ => kitAny_cons (b := true) (r := true) (kit_ty (by decide +kernel)) (fun z => nomatch z) (fun _ => rfl)) (fun z => nomatch z)⟩
theorem ok_fault {f : Addr} {fd : FuncData} (F : Fun K "round_fault" "round_fault" sFault f fd) (B : Blt mg) (D : Dfn P w K mg base 2 "is_between" ["value", "low", "high"] spIsBet) : FnOk P w K mg base CX0 3 f fd ["shares", "count", "scale"] (spFault K) := by
  refine F.ok scFault (fun vs H Q E h => ?_) (fun cdv A outer s H vs Q E hr h => ?_)
  · obtain ⟨p, m, S, r, rfl, _⟩ := h
    rfl
  · obtain ⟨p, m, S, r, rfl, hS, ok, q⟩ := h
    refine ⟨_, pss_cons (ps_if (PW.pt (pw_or (pt_not (pt_val (pe_callB call_isiT (by rfl) B.isi (by decide +kernel) (pa_cons (pv 0) (pa_cons (pe_tup (pa_cons (pe_list_ty B) (pa_cons (pe_tuple_ty B) pa_nil))) pa_nil)))))
        (pw_or1 (pt_cmpR op_ne (pe_callB call_len_seq (by rfl) B.len PySem.boot_len (pa_cons (pv 0) pa_nil)) (pv 1) (nomark _))))) (pss_one (ps_ret pe_str)) pss_nil)
      (pss_cons (ps_for PassesOwn.never rfl (pi_seqA (pv 0)) (pg_name (i := 3) scFault.nd rfl (.inl rfl))
        (pss_one (ps_if (pt_not (pt_val (pe_fn D hr (pa_cons (pv 3) (pa_cons pe_int (pa_cons (pv 2) pa_nil)))))) (pss_one (ps_ret pe_str)) pss_nil)))
      (pss_one (ps_ret (pe_ifExp (pt_cmpR op_eq (pe_callB (cr_sumA rfl) (by rfl) B.sum (by decide +kernel) (pa_cons (pv 0) pa_nil)) (pv 2) (nomark _)) pe_non pe_str)))), ?_⟩
    refine ⟨.ref p, rfl, by show 2 ≤ sizeLine; decide, fun T nT => ?_⟩
    have s1 : Same H (upd H T (.tup [.ty "list", .ty "tuple"])) := up_new nT
    obtain ⟨t, ty, kt⟩ := kitSeq (sameA s1 hS)
    refine ⟨.ref p, T, _, t, _, true, rfl, upd_same, .cons (.ty _) (.cons (.ty _) .nil), ty, kt, true, rfl, iteF ?_⟩
    refine ⟨.ref p, rfl, p, _, rfl, sameA s1 hS, .int (m : Nat), rfl, rfl, _, rfl, ifF ?_ ?_⟩
    · rw [List.length_map, ok.len]
      simp
    refine ⟨.ref p, rfl, p, _, rfl, sameA s1 hS, fun J G hG mono wk => ?_⟩
    refine for_it (wk.mono (G' := fun H' => Same (upd H T (.tup [.ty "list", .ty "tuple"])) H') (fun H' sm => mono _ _ sm hG) (fun _ _ _ _ _ _ y => y)) (fun i σ H' => (∃ y3, σ = [some (.ref p), some (.int (m : Nat)), some (.int S), y3]) ∧ Same (upd H T (.tup [.ty "list", .ty "tuple"])) H') ⟨⟨none, rfl⟩, Same.refl _⟩ (fun _ _ _ _ h => h.2)
      (fun i x σ H2 H3 hi hP hy => ?_) (fun σ H2 hP => ?_)
    · obtain ⟨⟨y3, rfl⟩, sm⟩ := hP
      obtain ⟨rfl, hx⟩ := hy
      obtain ⟨z, ez, rfl⟩ := map_get hx
      have hz : z ∈ r := List.mem_of_getElem? ez
      refine ⟨.int z, rfl, .int S, rfl, z, 0, S, rfl, _, rfl, ?_⟩
      refine ifF (by rw [decide_eq_true ⟨ok.lo z hz, ok.hi z hz⟩]; rfl) ?_
      exact ⟨⟨_, rfl⟩, sm⟩
    · obtain ⟨⟨y3, rfl⟩, sm⟩ := hP
      refine ⟨.ref p, rfl, p, r, rfl, sameA (s1.trans sm) hS, .int S, rfl, rfl, _, rfl, ifT (by rw [ok.sum]; simp) ?_⟩
      exact q _ (s1.trans sm)
theorem scMult : FnScope ["rounds", "factor", "shares", "share"] ["rounds", "factor"] (defScope sMult) := ⟨rfl, rfl, rfl, by decide +kernel, rfl, by decide +kernel, by decide +kernel⟩
theorem ok_mult {f : Addr} {fd : FuncData} (F : Fun K "multiplied" "multiplied" sMult f fd) (B : Blt mg) : FnOk P w K mg base CX0 1 f fd ["rounds", "factor"] (spMult K) := by
  refine F.ok scMult (fun vs H Q E h => ?_) (fun cdv A outer s H vs Q E hr h => ?_)
  · obtain ⟨q, m, R, rfl, _⟩ := h
    rfl
  · obtain ⟨t, m, R, rfl, hT, hn, hR, q⟩ := h
    refine ⟨_, pss_one (ps_ret (pe_tupOf B (pe_lc (own := [("shares", 2)]) (g := gName 2) (tt := tYes) (te := tCB (rTupA K) (tCons (tLc (iSeqA K (tVar 2)) (gName 3) tYes (tOp (rI CMul fun i j => .int (i * j)) (tVar 3) (tVar 1)) [3]) tNil)) rfl scMult.nd (pi_seqA (pv 0)) (blkOk_by (own := [("shares", 2)]) (N := ["rounds", "factor", "shares", "share"]) (sc := defScope sMult) (by decide +kernel))
        (fun _ _ _ _ _ => pg_name (i := 2) scMult.nd rfl (Or.inl rfl)) (fun _ _ _ _ _ => pts_nil)
        (fun _ _ _ _ _ => pe_tupOf B (pe_lc (own := [("share", 3)]) (g := gName 3) (tt := tYes) rfl scMult.nd (pi_seqA (pv 2)) (blkOk_by (own := [("share", 3)]) (N := ["rounds", "factor", "shares", "share"]) (sc := { kind := .function, names := [(".0", .local), ("shares", .local), ("tuple", .globalImplicit), ("factor", .cell)], isGenerator := false, isCoroutine := false }) (by decide +kernel))
          (fun _ _ _ _ _ => pg_name (i := 3) scMult.nd rfl (Or.inl rfl)) (fun _ _ _ _ _ => pts_nil) (fun _ _ _ _ _ => pe_op op_mul (pv 3) (pv 1))))))), ?_⟩
    obtain ⟨as, ha, hl, hrow⟩ := hT
    refine ⟨.ref t, rfl, t, as.map V.ref, rfl, .inr ha, fun J G hG mono wk D nD => ?_⟩
    refine lc_one (wk.mono (G' := fun H' => Same H H') (fun H' sm => mono _ _ sm hG) (fun _ _ _ _ _ _ y => y))
      (fun i G => Same H G ∧ ∃ qs : List Addr, G D = some (.lst (qs.map V.ref)) ∧ qs.length = i ∧ ∀ (j : Nat) (p : Addr) (r : Rnd), qs[j]? = some p → (times R m)[j]? = some r → SqT K (Rest D D G) p (r.map V.int))
      ⟨up_new nD, [], upd_same, rfl, fun j p r e _ => by simp at e⟩ (fun _ _ _ h => h.1) (fun i x G1 G2 hi hP hy => ?_) (fun G1 hP => ?_)
    · obtain ⟨rfl, hx⟩ := hy
      obtain ⟨sm, qs, eD, eL, hq⟩ := hP
      obtain ⟨b, eb, rfl⟩ := map_get hx
      have hi2 : i < as.length := (List.getElem?_eq_some_iff.mp eb).1
      obtain ⟨r, er⟩ : ∃ r, R[i]? = some r := ⟨R[i]'(by omega), List.getElem?_eq_getElem (by omega)⟩
      have hb := sameT sm (hrow i b r eb er)
      have hr := hR r (List.mem_of_getElem? er)
      refine ⟨rfl, ?_⟩
      refine ⟨.ref b, rfl, b, _, rfl, .inr hb, fun J2 G3 hG3 mono3 wk3 D2 nD2 => ?_⟩
      refine lc_one (wk3.mono (G' := fun H' => Same G2 H') (fun H' sm => mono3 _ _ sm hG3) (fun _ _ _ _ _ _ y => y))
        (fun j G => Same G2 G ∧ G D2 = some (.lst (((r.map (· * m)).take j).map V.int))) ⟨up_new nD2, upd_same⟩ (fun _ _ _ h => h.1) (fun j x G4 G5 hj hP2 hy2 => ?_) (fun G4 hP2 => ?_)
      · obtain ⟨rfl, hx2⟩ := hy2
        obtain ⟨sm2, e2⟩ := hP2
        obtain ⟨z, ez, rfl⟩ := map_get hx2
        have hz := hr.2 z (List.mem_of_getElem? ez)
        refine ⟨rfl, .int z, rfl, .int m, rfl, z, m, rfl, rfl, .inl ⟨by omega, by omega⟩, _, e2, ?_, up_old sm2 nD2, ?_⟩
        · have := List.length_take_le j (r.map (· * m))
          rw [List.length_map]
          rw [List.length_map] at hj
          exact small1000 (by omega)
        · have ej : (r.map (· * m))[j]? = some (z * m) := by rw [List.getElem?_map, ez]; rfl
          rw [upd_same, take_snoc ej, List.map_append]
          rfl
      · obtain ⟨sm2, e2⟩ := hP2
        have e3 : (r.map (· * m)).take (r.map V.int).length = r.map (· * m) := List.take_of_length_le (by rw [List.length_map, List.length_map]; exact Nat.le_refl _)
        rw [e3] at e2
        refine ⟨D2, _, rfl, .inl (SqL.of e2), fun p H5 s5 hp => ?_⟩
        have s6 : Same G2 H5 := sm2.trans s5
        have eD5 := s6 _ _ eD
        refine ⟨_, eD5, by rw [List.length_map]; exact small1000 (by omega), up_old (sm.trans s6) nD, qs ++ [p], by rw [upd_same, List.map_append]; rfl, by rw [List.length_append, eL]; rfl, fun j p' r' e4 e5 => ?_⟩
        have q1 : ∀ {c : Addr} {ys : List V}, SqT K (Rest D D H5) c ys → SqT K (Rest D D (upd H5 D (.lst (qs.map V.ref ++ [.ref p])))) c ys := fun h => sameT (rest_set (.inl rfl)) h
        rcases get_snoc e4 with e6 | ⟨e6, rfl⟩
        · exact q1 (sameT (rest_same s6) (hq j p' r' e6 e5))
        · rw [e6, eL] at e5
          have e7 : r' = r.map (· * m) := by
            have : (times R m)[i]? = some (r.map (· * m)) := by
              show (R.map _)[i]? = _
              rw [List.getElem?_map, er]
              rfl
            exact Option.some.inj (e5.symm.trans this)
          rw [e7]
          exact q1 (hideT hp eD5)
    · obtain ⟨sm, qs, eD, eL, hq⟩ := hP
      refine ⟨D, _, rfl, .inl (SqL.of eD), fun p H5 s5 hp => ?_⟩
      refine q p H5 (sm.trans s5) ⟨qs, hp, ?_, fun j p' r' e4 e5 => sameT ((rest_sub D D G1).trans s5) (hq j p' r' e4 e5)⟩
      show qs.length = (R.map _).length
      rw [eL, List.length_map, List.length_map]
      exact hl
end
end KP

set_option Elab.async false
set_option linter.all false
set_option maxRecDepth 100000
set_option maxHeartbeats 4000000
/-! # The errors, and how a Chart is made -/
namespace KP
open PySem PySem.Spec PyProof.Rows L2 KR KM

/-! ### the errors -/
def spErr (C : Addr) (fld : Str) : Sp := fun vs H Q _ => ∃ (a : Addr) (v : V), vs = [.ref a, v] ∧ H a = some (exo a C none) ∧ ∀ d, H d = none → d ≠ a → Q .non (upd (upd H d (exd d [(fld, v)])) a (exo a C (some d)))
/-- an error class of the program with one field of its own -/
structure ErrC (P : Program) (w : World) (K : PySem.W.Frag) (mg : Str → Option Value) (base : Heap) (x fld : Str) (C : Addr) : Prop where
  oex : OexC K C
  xf : XfC K C
  no : PySem.W.findIn K (.ref C) fld = some none
  mgx : mg x = some (.ref C)
  ini : ∃ (f : Addr) (fd : FuncData) (p : Str), FnOk P w K mg base CX0 1 f fd ["self", p] (spErr C fld) ∧ PySem.W.findIn K (.ref C) "__init__" = some (some (.ref f)) ∧ PySem.W.typeIn K (.ref f) = some (.type "function") ∧ Binds K fd ["self", p] []
/-- the base TurnError, whose __init__ is ValueError's -/
structure BaseE (K : PySem.W.Frag) (mg : Str → Option Value) : Prop where
  ex : ∃ (B : Addr) (mc : Value), mg "TurnError" = some (.ref B) ∧ ClX.CRead K B mc ∧ PySem.W.findCls K (.ref B) mc "__init__" = some (.val (.builtin "ValueError.__init__"))
section
variable {P : Program} {w : World} {K : PySem.W.Frag} {mg : Str → Option Value} {base : Heap}
theorem scEScale : FnScope ["self", "value"] ["self", "value"] (defScope sEScale) := ⟨rfl, rfl, rfl, by decide +kernel, rfl, by decide +kernel, by decide +kernel⟩
theorem scEMany : FnScope ["self", "count"] ["self", "count"] (defScope sEMany) := ⟨rfl, rfl, rfl, by decide +kernel, rfl, by decide +kernel, by decide +kernel⟩
theorem scECount : FnScope ["self", "value"] ["self", "value"] (defScope sECount) := ⟨rfl, rfl, rfl, by decide +kernel, rfl, by decide +kernel, by decide +kernel⟩
theorem scEOther : FnScope ["self", "members"] ["self", "members"] (defScope sEOther) := ⟨rfl, rfl, rfl, by decide +kernel, rfl, by decide +kernel, by decide +kernel⟩
theorem ok_escale {f C : Addr} {fd : FuncData} (F : Fun K "__init__" "InvalidScale.__init__" sEScale f fd) (B : BaseE K mg) (T : OexC K C) (no : PySem.W.findIn K (.ref C) "value" = some none) : FnOk P w K mg base CX0 1 f fd ["self", "value"] (spErr C "value") := by
  refine F.ok scEScale (fun vs H Q E h => ?_) (fun cdv A outer s H vs Q E hr h => ?_)
  · obtain ⟨a, v, rfl, _⟩ := h
    rfl
  · obtain ⟨a, v, rfl, ha, q⟩ := h
    obtain ⟨TB, mc, hm, hrd, hv⟩ := B.ex
    refine ⟨_, pss_cons (ps_expr (pe_binit rfl hm hrd hv (pa_cons (pv 0) (pa_cons pe_str pa_nil)))) (pss_one (ps_ost (pv 0) (pv 1))), ?_⟩
    exact ⟨_, rfl, a, C, [_], rfl, by show 1 ≤ 1000; decide, T, ha, v, rfl, _, rfl, a, C, rfl, T, no, .inl ⟨ha, q⟩⟩
theorem ok_emany {f C : Addr} {fd : FuncData} (F : Fun K "__init__" "TooManyRounds.__init__" sEMany f fd) (B : BaseE K mg) (T : OexC K C) (no : PySem.W.findIn K (.ref C) "count" = some none) : FnOk P w K mg base CX0 1 f fd ["self", "count"] (spErr C "count") := by
  refine F.ok scEMany (fun vs H Q E h => ?_) (fun cdv A outer s H vs Q E hr h => ?_)
  · obtain ⟨a, v, rfl, _⟩ := h
    rfl
  · obtain ⟨a, v, rfl, ha, q⟩ := h
    obtain ⟨TB, mc, hm, hrd, hv⟩ := B.ex
    refine ⟨_, pss_cons (ps_expr (pe_binit rfl hm hrd hv (pa_cons (pv 0) (pa_cons pe_str pa_nil)))) (pss_one (ps_ost (pv 0) (pv 1))), ?_⟩
    exact ⟨_, rfl, a, C, [_], rfl, by show 1 ≤ 1000; decide, T, ha, v, rfl, _, rfl, a, C, rfl, T, no, .inl ⟨ha, q⟩⟩
theorem ok_ecount {f C : Addr} {fd : FuncData} (F : Fun K "__init__" "InvalidCount.__init__" sECount f fd) (B : BaseE K mg) (T : OexC K C) (no : PySem.W.findIn K (.ref C) "value" = some none) : FnOk P w K mg base CX0 1 f fd ["self", "value"] (spErr C "value") := by
  refine F.ok scECount (fun vs H Q E h => ?_) (fun cdv A outer s H vs Q E hr h => ?_)
  · obtain ⟨a, v, rfl, _⟩ := h
    rfl
  · obtain ⟨a, v, rfl, ha, q⟩ := h
    obtain ⟨TB, mc, hm, hrd, hv⟩ := B.ex
    refine ⟨_, pss_cons (ps_expr (pe_binit rfl hm hrd hv (pa_cons (pv 0) (pa_cons pe_str pa_nil)))) (pss_one (ps_ost (pv 0) (pv 1))), ?_⟩
    exact ⟨_, rfl, a, C, [_], rfl, by show 1 ≤ 1000; decide, T, ha, v, rfl, _, rfl, a, C, rfl, T, no, .inl ⟨ha, q⟩⟩
theorem ok_eother {f C : Addr} {fd : FuncData} (F : Fun K "__init__" "OtherMembers.__init__" sEOther f fd) (B : BaseE K mg) (T : OexC K C) (no : PySem.W.findIn K (.ref C) "members" = some none) : FnOk P w K mg base CX0 1 f fd ["self", "members"] (spErr C "members") := by
  refine F.ok scEOther (fun vs H Q E h => ?_) (fun cdv A outer s H vs Q E hr h => ?_)
  · obtain ⟨a, v, rfl, _⟩ := h
    rfl
  · obtain ⟨a, v, rfl, ha, q⟩ := h
    obtain ⟨TB, mc, hm, hrd, hv⟩ := B.ex
    refine ⟨_, pss_cons (ps_expr (pe_binit rfl hm hrd hv (pa_cons (pv 0) (pa_cons pe_str pa_nil)))) (pss_one (ps_ost (pv 0) (pv 1))), ?_⟩
    exact ⟨_, rfl, a, C, [_], rfl, by show 1 ≤ 1000; decide, T, ha, v, rfl, _, rfl, a, C, rfl, T, no, .inl ⟨ha, q⟩⟩
end
/-- what raise X(v) asks: the wish at any greater heap where the error's dict stands -/
theorem err_post {C : Addr} {fld : Str} {v : V} {H1 : Hp} {Q : XK} (q : ∀ d H2, Same H1 H2 → H2 d = some (.xd [(fld, v)]) → Q (.ref C) (some d) H2) : [v].length ≤ 1000 ∧ ∀ a, H1 a = none → spErr C fld (.ref a :: ([v] ++ [])) (upd H1 a (exo a C none))
    (fun v H2 => v = .non ∧ ∃ (d : Addr) (fs : List (Str × V)), H2 a = some (exo a C (some d)) ∧ H2 d = some (exd d fs) ∧ H1 d = none ∧ Q (.ref C) (some d) (upd (del H2 a) d (.xd fs))) (fun _ _ _ => False) := by
  refine ⟨by show 1 ≤ 1000; decide, fun a ha => ⟨a, v, rfl, upd_same, fun d nd ne => ?_⟩⟩
  rw [upd_ne ne] at nd
  refine ⟨rfl, d, [(fld, v)], upd_same, by rw [upd_ne ne, upd_same], nd, q d _ (fun b o e => ?_) upd_same⟩
  have h1 : b ≠ a := ne_of_none e ha
  have h2 : b ≠ d := ne_of_none e nd
  rw [upd_ne h2, del_ne h1, upd_ne h1, upd_ne h2, upd_ne h1]
  exact e
section
variable {X : Cx} {x fld : Str} {C : Addr} {e : Expr} {ta : TA} {p pos : Pos} {j : Nat}
theorem pmk_err (D : ErrC X.prog X.w X.K X.mg X.base x fld C) (hr : Room j X.A) (ha : PA X [e] ta) (hj : 2 ≤ j := by decide) (hg : Gl X x := by rfl) (hdb : (x == ("__debug__" : Str)) = false := by decide)
    (he : starEach [e] X.env = [(false, eval e X.env)] := by rfl) : PMk X (.Call (.Name x p) [e] [] pos) (tMkO C (spErr C fld) [] ta) := by
  obtain ⟨f, fd, pn, F, iC, tI, b⟩ := D.ini
  exact pmk_oex (CX := CX0) (pos := pos) (p := p) D.oex iC tI F (hr.mono hj) b .nil pass0 hg D.mgx ha hdb he (by rfl)
end
/-! ### Chart.__init__ -/
/-- what the text gives of the class Chart -/
structure ChC (K : PySem.W.Frag) (mg : Str → Option Value) (C : Addr) : Prop where
  mgC : mg "Chart" = some (.ref C)
  sc : SlX.SCls K C
  sM : ∃ p, SlX.Slot1 K C "members" p 0
  sR : ∃ p, SlX.Slot1 K C "rounds" p 1
  sS : ∃ p, SlX.Slot1 K C "scale" p 2
  rd : ∃ mc, ClX.CRead K C mc ∧ (∃ t, ClX.CVal K C mc "MAX_ROUNDS" (.int 240) (.int 240 t)) ∧ ∃ t, ClX.CVal K C mc "MAX_SCALE" (.int 1000000000000) (.int 1000000000000 t)
def spInit (K : PySem.W.Frag) (C : Addr) : Sp := fun vs H Q _ => ∃ (a dx p : Addr) (S : Int) (q : Addr) (ns : List Str) (R : List Rnd), vs = [.ref a, .ref p, .int S, .ref q] ∧ H a = some (.ins C dx []) ∧ H dx = some (.own a) ∧ dx ≠ a ∧
  SqA K (Rest a dx H) p (ns.map V.str) ∧ TbA K (Rest a dx H) q R ∧ ChartOk ns S R ∧ ∀ H', Same (Rest a dx H) (Rest a dx H') → ChAt K C H' a ns S R → Q .non H'
section
variable {K : PySem.W.Frag}
/-- tuple([tuple(x) for x in q]) -/
abbrev tRows (K : PySem.W.Frag) (tq : TE) (j : Nat) : TE := tCB (rTupA K) (tCons (tLc (iSeqA K tq) (gName j) tYes (tCB (rTupA K) (tCons (tVar j) tNil)) [j]) tNil)
theorem rows_of {j : Nat} {σ : L2.St} {H : Hp} {q : Addr} {R : List Rnd} {Q : VK} {tq : TE} (hq : ∀ Q', Q' (.ref q) H → tq σ H Q') (hw : ∀ x, wipe ((wipe σ [j]).set j (some x)) [j] = wipe σ [j]) (hg : ∀ x, ((wipe σ [j]).set j (some x))[j]? = some (some x)) (hT : TbA K H q R) (hn : R.length ≤ 1000) (k : ∀ p H', Same H H' → TbT K H' p R → Q (.ref p) H') : tRows K tq j σ H Q := by
  obtain ⟨as, ha, hl, hrow⟩ := hT
  refine hq _ ⟨q, as.map V.ref, rfl, ha, fun J G hG mono wk D nD => ?_⟩
  refine lc_one (wk.mono (G' := fun H' => Same H H') (fun H' sm => mono _ _ sm hG) (fun _ _ _ _ _ _ y => y))
    (fun i G => Same H G ∧ ∃ qs : List Addr, G D = some (.lst (qs.map V.ref)) ∧ qs.length = i ∧ ∀ (j : Nat) (p : Addr) (r : Rnd), qs[j]? = some p → R[j]? = some r → SqT K (Rest D D G) p (r.map V.int))
    ⟨up_new nD, [], upd_same, rfl, fun j p r e _ => by simp at e⟩ (fun _ _ _ h => h.1) (fun i x G1 G2 hi hP hy => ?_) (fun G1 hP => ?_)
  · obtain ⟨rfl, hx⟩ := hy
    obtain ⟨sm, qs, eD, eL, hq⟩ := hP
    obtain ⟨b, eb, rfl⟩ := map_get hx
    have hi2 : i < as.length := (List.getElem?_eq_some_iff.mp eb).1
    obtain ⟨r, er⟩ : ∃ r, R[i]? = some r := ⟨R[i]'(by omega), List.getElem?_eq_getElem (by omega)⟩
    have hb := sameA sm (hrow i b r eb er)
    refine ⟨hw _, .ref b, hg _, b, _, rfl, hb, fun p H5 s5 hp => ?_⟩
    have eD5 := s5 _ _ eD
    refine ⟨_, eD5, by rw [List.length_map]; exact small1000 (by omega), up_old (sm.trans s5) nD, qs ++ [p], by rw [upd_same, List.map_append]; rfl, by rw [List.length_append, eL]; rfl, fun j p' r' e4 e5 => ?_⟩
    have q1 : ∀ {c : Addr} {ys : List V}, SqT K (Rest D D H5) c ys → SqT K (Rest D D (upd H5 D (.lst (qs.map V.ref ++ [.ref p])))) c ys := fun h => sameT (rest_set (.inl rfl)) h
    rcases get_snoc e4 with e6 | ⟨e6, rfl⟩
    · exact q1 (sameT (rest_same s5) (hq j p' r' e6 e5))
    · rw [e6, eL] at e5
      have e7 : r' = r := Option.some.inj (e5.symm.trans er)
      rw [e7]
      exact q1 (hideT hp eD5)
  · obtain ⟨sm, qs, eD, eL, hq⟩ := hP
    refine ⟨D, _, rfl, .inl (SqL.of eD), fun p H5 s5 hp => ?_⟩
    refine k p H5 (sm.trans s5) ⟨qs, hp, ?_, fun j p' r' e4 e5 => sameT ((rest_sub D D G1).trans s5) (hq j p' r' e4 e5)⟩
    rw [eL, List.length_map]
    exact hl
end
theorem hide2 {K : PySem.W.Frag} {H : Hp} {p a b : Addr} {xs : List V} {o u : HO} (h : SqT K H p xs) (e : H a = some o) (e2 : H b = some u) (h1 : ∀ ys, o ≠ .tup ys) (h2 : ∀ z ys, o ≠ .frz z (.tup ys)) (h3 : ∀ ys, u ≠ .tup ys) (h4 : ∀ z ys, u ≠ .frz z (.tup ys)) : SqT K (Rest a b H) p xs := by
  rcases h with (h | ⟨ob, h⟩) | h
  · exact .inl (.inl (by rw [rest_ne (ne_of h e (h1 _).symm) (ne_of h e2 (h3 _).symm)]; exact h))
  · exact .inl (.inr ⟨ob, by rw [rest_ne (ne_of h e (h2 _ _).symm) (ne_of h e2 (h4 _ _).symm)]; exact h⟩)
  · exact .inr h
section
variable {P : Program} {w : World} {K : PySem.W.Frag} {mg : Str → Option Value} {base : Heap} {C : Addr}
theorem scInit : FnScope ["self", "members", "scale", "rounds", "roster", "at", "shares", "fault"] ["self", "members", "scale", "rounds"] (defScope sInit) := ⟨rfl, rfl, rfl, by decide +kernel, rfl, by decide +kernel, by decide +kernel⟩
theorem ins_tup {C dx : Addr} {fs : List (Str × V)} (ys : List V) : HO.ins C dx fs ≠ .tup ys := fun z => by cases z
theorem ins_frz {C dx : Addr} {fs : List (Str × V)} (o : Obj) (ys : List V) : HO.ins C dx fs ≠ .frz o (.tup ys) := fun z => by cases z
theorem own_tup {x : Addr} (ys : List V) : HO.own x ≠ .tup ys := fun z => by cases z
theorem own_frz {x : Addr} (o : Obj) (ys : List V) : HO.own x ≠ .frz o (.tup ys) := fun z => by cases z
theorem slo_tup {a C dx : Addr} {vs : List (Option V)} (ys : List V) : SlX.SlO a C dx vs ≠ .tup ys := fun z => by
  unfold SlX.SlO at z
  cases z
theorem slo_frz {a C dx : Addr} {vs : List (Option V)} (o : Obj) (ys : List V) : SlX.SlO a C dx vs ≠ .frz o (.tup ys) := fun z => by
  unfold SlX.SlO at z
  cases z
theorem xd_tup {fs : List (Str × V)} (ys : List V) : HO.xd fs ≠ .tup ys := fun z => by cases z
theorem xd_frz {fs : List (Str × V)} (o : Obj) (ys : List V) : HO.xd fs ≠ .frz o (.tup ys) := fun z => by cases z
theorem rest_slH {a dx C : Addr} {H : Hp} {vs : List (Option V)} : Same (Rest a dx H) (Rest a dx (SlX.slH H a C dx vs)) := fun b o e => by
  obtain ⟨h1, h2, h3⟩ := rest_in e
  rw [rest_ne h1 h2, SlX.slH_ne h1 h2]
  exact h3
theorem ok_init {f : Addr} {fd : FuncData} (F : Fun K "__init__" "Chart.__init__" sInit f fd) (B : Blt mg) (T : ChC K mg C) (DR : Dfn P w K mg base 2 "checked_roster" ["members"] (spRoster K)) (DB : Dfn P w K mg base 2 "is_between" ["value", "low", "high"] spIsBet)
    (DF : Dfn P w K mg base 3 "round_fault" ["shares", "count", "scale"] (spFault K)) : FnOk P w K mg base CX0 4 f fd ["self", "members", "scale", "rounds"] (spInit K C) := by
  refine F.ok scInit (fun vs H Q E h => ?_) (fun cdv A outer s H vs Q E hr h => ?_)
  · obtain ⟨a, dx, p, S, q, ns, R, rfl, _⟩ := h
    rfl
  · obtain ⟨a, dx, p, S, q, ns, R, rfl, ha, hdx, ne, hM, hT, ok, k⟩ := h
    obtain ⟨mc, hrd, ⟨t1, hcR⟩, ⟨t2, hcS⟩⟩ := T.rd
    obtain ⟨pM, sM⟩ := T.sM
    obtain ⟨pR, sR⟩ := T.sR
    obtain ⟨pS, sS⟩ := T.sS
    refine ⟨_, pss_cons (ps_set (i := 4) scInit.nd rfl (Or.inl rfl) (pe_fn DR hr (pa_cons (pv 1) pa_nil)))
      (pss_cons (ps_if (pt_not (pt_val (pe_fn DB hr (pa_cons (pv 2) (pa_cons pe_int (pa_cons (ClX.pe_cval (pe_glob (v := .ref C) rfl T.mgC rfl)) pa_nil)))))) (pss_one ps_never) pss_nil)
      (pss_cons (ps_if (pt_cmpR op_gt (pe_len B (pv 3)) (ClX.pe_cval (pe_glob (v := .ref C) rfl T.mgC rfl)) (nomark _)) (pss_one ps_never) pss_nil)
      (pss_cons (ps_for PassesOwn.never rfl (pi_enumA (by rfl) B.enum (pa_cons (pv 3) pa_nil)) (pg_tup rfl (pgs_cons (pg_name (i := 5) scInit.nd rfl (.inl rfl)) (pgs_cons (pg_name (i := 6) scInit.nd rfl (.inl rfl)) pgs_nil)))
        (pss_one (ps_ifW (ptw_cmp op_notN (pew_named (i := 7) scInit.nd rfl (.inl rfl) (pew_of (pe_fn DF hr (pa_cons (pv 6) (pa_cons (pe_len B (pv 4)) (pa_cons (pv 2) pa_nil)))))) pe_non (nomark _)) (pss_one ps_never) pss_nil)))
      (pss_cons (SlX.ps_sl (pv 0) (pv 4))
      (pss_cons (SlX.ps_sl (pv 0) (pv 2))
      (pss_one (SlX.ps_sl (pv 0) (pe_tupOf B (pe_lc (own := [("shares", 6)]) (g := gName 6) (tt := tYes) (te := tCB (rTupA K) (tCons (tVar 6) tNil)) rfl scInit.nd (pi_seqA (pv 3)) (blkOk_by (own := [("shares", 6)]) (N := ["self", "members", "scale", "rounds", "roster", "at", "shares", "fault"]) (sc := defScope sInit) (by decide +kernel))
        (fun _ _ _ _ _ => pg_name (i := 6) scInit.nd rfl (Or.inl rfl)) (fun _ _ _ _ _ => pts_nil) (fun _ _ _ _ _ => pe_tupOf B (pv 6))))))))))), ?_⟩
    have hM0 := sameA (rest_sub a dx H) hM
    have hT0 := ta_same (rest_sub a dx H) hT
    refine ⟨.ref p, rfl, p, ns, rfl, hM0, ok.nm, fun ro H1 s1 hro => ?_⟩
    refine ⟨.int S, rfl, C, mc, .int 1000000000000, _, rfl, hrd, hcS, S, 1, 1000000000000, rfl, _, rfl, ifF (by rw [decide_eq_true ⟨ok.lo, ok.hi⟩]; rfl) ?_⟩
    obtain ⟨as, hA, hl, hrow⟩ := hT0
    have hA1 := sameA s1 hA
    have fw := ok.few
    refine ⟨.ref q, rfl, q, _, rfl, hA1, C, mc, .int 240, _, rfl, hrd, hcR, _, _, rfl, rfl, _, rfl, ifF (decide_eq_false (by rw [List.length_map]; omega)) ?_⟩
    refine ⟨.ref q, rfl, q, _, rfl, hA1, fun J G hG mono wk => ?_⟩
    refine for_pair (wk.mono (G' := fun H' => Same H1 H') (fun H' sm => mono _ _ sm hG) (fun _ _ _ _ _ _ y => y)) (fun i σ H' => (∃ y5 y6 y7, σ = [some (.ref a), some (.ref p), some (.int S), some (.ref q), some (.ref ro), y5, y6, y7]) ∧ Same H1 H') ⟨⟨none, none, none, rfl⟩, Same.refl _⟩ (fun _ _ _ _ h => h.2)
      (fun i x y σ H2 Tp hi hP e1 e2 nT => ?_) (fun σ H2 hP => ?_)
    · obtain ⟨⟨y5, y6, y7, rfl⟩, sm⟩ := hP
      have e1' : V.int (i : Nat) = x := Option.some.inj e1
      subst e1'
      obtain ⟨b, eb, rfl⟩ := map_get e2
      have hi2 : i < as.length := (List.getElem?_eq_some_iff.mp eb).1
      obtain ⟨r, er⟩ : ∃ r, R[i]? = some r := ⟨R[i]'(by omega), List.getElem?_eq_getElem (by omega)⟩
      have s3 : Same H1 (upd H2 Tp (.tup [.int (i : Nat), .ref b])) := sm.trans (up_new nT)
      have hb := sameA (s1.trans s3) (hrow i b r eb er)
      refine ⟨.ref b, rfl, .ref ro, rfl, ro, _, rfl, .inr (sameT s3 hro), .int S, rfl, b, (ns.map V.str).length, S, r, rfl, hb, by rw [List.length_map]; exact ok.rows r (List.mem_of_getElem? er), fun H5 s5 => ?_⟩
      refine ⟨rfl, false, rfl, ifF rfl ?_⟩
      exact ⟨⟨_, _, _, rfl⟩, s3.trans s5⟩
    · obtain ⟨⟨y5, y6, y7, rfl⟩, sm⟩ := hP
      have s2 : Same H H2 := s1.trans sm
      have z1 := s2 _ _ ha
      have z2 := s2 _ _ hdx
      have z3 : SlX.Slt H2 a C dx [] := .inl ⟨z1, rfl⟩
      refine ⟨.ref ro, rfl, .ref a, rfl, a, C, dx, pM, [], 0, rfl, z3, T.sc, sM, ?_⟩
      refine ⟨.int S, rfl, .ref a, rfl, a, C, dx, pS, _, 2, rfl, SlX.slH_slt ne, T.sc, sS, ?_⟩
      have t0 : Same (Rest a dx H) (Rest a dx H2) := rest_same s2
      have e4 : ∀ {vs vs' : List (Option V)}, SlX.slH (SlX.slH H2 a C dx vs) a C dx vs' = SlX.slH H2 a C dx vs' := SlX.slH_twice ne
      rw [e4]
      have t1 : Same (Rest a dx H2) (Rest a dx (SlX.slH H2 a C dx (SlX.putS 2 (.int S) (SlX.putS 0 (.ref ro) [])))) := rest_slH
      have hro2 : SqT K (Rest a dx H2) ro (ns.map V.str) := hide2 (sameT sm hro) z1 z2 ins_tup ins_frz own_tup own_frz
      refine rows_of (K := K) (tq := tVar 3) (j := 6) (fun Q' hq => ⟨.ref q, rfl, hq⟩) (fun _ => rfl) (fun _ => rfl) (ta_same ((t0.trans t1).trans (rest_sub _ _ _)) hT) (by omega) (fun ro2 H5 s5 h5 => ?_)
      have z4 : SlX.Slt H5 a C dx (SlX.putS 2 (.int S) (SlX.putS 0 (.ref ro) [])) := sameSl s5 (SlX.slH_slt ne)
      refine ⟨.ref a, rfl, a, C, dx, pR, _, 1, rfl, z4, T.sc, sR, ?_⟩
      have t5 : Same (Rest a dx H) (Rest a dx H5) := (t0.trans t1).trans (rest_same s5)
      have t6 : Same (Rest a dx H5) (Rest a dx (SlX.slH H5 a C dx (SlX.putS 1 (.ref ro2) (SlX.putS 2 (.int S) (SlX.putS 0 (.ref ro) []))))) := rest_slH
      have z5 : H5 a = some (SlX.SlO a C dx (SlX.putS 2 (.int S) (SlX.putS 0 (.ref ro) []))) := s5 _ _ upd_same
      have z6 : H5 dx = some (.xd []) := s5 _ _ (by unfold SlX.slH; rw [upd_ne ne, upd_same])
      refine k _ (t5.trans t6) ⟨dx, ro, ro2, SlX.slH_slt ne, sameT (((t1.trans (rest_same s5)).trans t6).trans (rest_sub _ _ _)) hro2, ?_⟩
      obtain ⟨qs, h6, h7, h8⟩ := h5
      have hid : ∀ {c : Addr} {ys : List V}, SqT K H5 c ys → SqT K (SlX.slH H5 a C dx (SlX.putS 1 (.ref ro2) (SlX.putS 2 (.int S) (SlX.putS 0 (.ref ro) [])))) c ys := fun h =>
        sameT (t6.trans (rest_sub _ _ _)) (hide2 h z5 z6 slo_tup slo_frz xd_tup xd_frz)
      exact ⟨qs, hid h6, h7, fun i p' r' e5 e6 => hid (h8 i p' r' e5 e6)⟩
end
end KP

set_option Elab.async false
set_option linter.all false
set_option maxRecDepth 100000
set_option maxHeartbeats 4000000
/-! # The signs of a Chart: + * << >> ~ -/
namespace KP
open PySem PySem.Spec PyProof.Rows L2 KR KM

def ChMk (P : Program) (w : World) (K : PySem.W.Frag) (mg : Str → Option Value) (base : Heap) (C : Addr) : Prop :=
  ∃ (f : Addr) (fd : FuncData), Mk K C f ∧ FnOk P w K mg base CX0 4 f fd ["self", "members", "scale", "rounds"] (spInit K C) ∧ Binds K fd ["self", "members", "scale", "rounds"] []
section
variable {X : Cx} {C : Addr} {e1 e2 e3 : Expr} {ta : TA} {p pos : Pos} {j : Nat}
theorem pe_chart (T : ChC X.K X.mg C) (M : ChMk X.prog X.w X.K X.mg X.base C) (hr : Room j X.A) (ha : PA X [e1, e2, e3] ta) (hj : 5 ≤ j := by decide) (hg : Gl X "Chart" := by rfl)
    (he : starEach [e1, e2, e3] X.env = (false, eval e1 X.env) :: starEach [e2, e3] X.env := by rfl) (hpl : (backTo pos (starEach [e2, e3] X.env)).any (·.1) = false := by rfl) : PE X (.Call (.Name "Chart" p) [e1, e2, e3] [] pos) (tMake C (spInit X.K C) [] E0 ta) := by
  obtain ⟨f, fd, m, F, b⟩ := M
  exact pe_make (CX := CX0) m F (hr.mono hj) hg T.mgC b .nil pass0 ha (by decide) he hpl
end
theorem chart_post {K : PySem.W.Frag} {C p q : Addr} {H1 : Hp} {Q : VK} {E : XK} {ns : List Str} {S : Int} {R : List Rnd} (hM : SqA K H1 p (ns.map V.str)) (hT : TbA K H1 q R) (ok : ChartOk ns S R) (k : ∀ x H', Same H1 H' → ChAt K C H' x ns S R → Q (.ref x) H') :
    ∀ x dx, H1 x = none → H1 dx = none → dx ≠ x → spInit K C (.ref x :: ([.ref p, .int S, .ref q] ++ [])) (upd (upd H1 dx (.own x)) x (.ins C dx [])) (fun v H2 => v = .non ∧ Q (.ref x) H2) E := by
  intro x dx nx nd ne
  have nx' : upd H1 dx (.own x) x = none := by rw [upd_ne (fun z => ne z.symm)]; exact nx
  have s1 : Same H1 (Rest x dx (upd (upd H1 dx (.own x)) x (.ins C dx []))) := fun b o e => by
    have h1 : b ≠ x := ne_of_none e nx
    have h2 : b ≠ dx := ne_of_none e nd
    rw [rest_ne h1 h2, upd_ne h1, upd_ne h2]
    exact e
  refine ⟨x, dx, p, S, q, ns, R, rfl, upd_same, by rw [upd_ne ne, upd_same], ne, sameA s1 hM, ta_same s1 hT, ok, fun H' sm hC => ⟨rfl, k x H' ((s1.trans sm).trans (rest_sub _ _ _)) hC⟩⟩
/-- the common scale -/
def com (S T : Int) : Int := S / (Nat.gcd S.toNat T.toNat : Nat) * T
theorem crow_ok {ns : List Str} {S : Int} {R : List Rnd} (ok : ChartOk ns S R) : ∀ r ∈ R, r.length ≤ 1000 ∧ ∀ x ∈ r, 0 ≤ x ∧ x ≤ 1000000000000 := fun r hr => by
  have h := ok.rows r hr
  have h1 := ok.nm.le
  have h2 := ok.hi
  exact ⟨by rw [h.len]; omega, fun x hx => ⟨h.lo x hx, Int.le_trans (h.hi x hx) h2⟩⟩
theorem times_rows {m : Nat} {S f : Int} {R : List Rnd} (h : ∀ r ∈ R, RowOk m S r) (hf : 0 ≤ f) : ∀ r ∈ times R f, RowOk m (S * f) r := fun r hr => by
  obtain ⟨q, hq, rfl⟩ := List.mem_map.mp hr
  exact (h q hq).mul hf
theorem com_ok {ns : List Str} {S T : Int} {R U : List Rnd} (h1 : ChartOk ns S R) (h2 : ChartOk ns T U) (hn : R.length + U.length ≤ 240) (hc : com S T ≤ 1000000000000) : ChartOk ns (com S T) (times R (com S T / S) ++ times U (com S T / T)) := by
  obtain ⟨p, e1, e2⟩ := lcm_left (show 0 < S from by have := h1.lo; omega) (show 0 < T from by have := h2.lo; omega)
  have l1 := h1.lo
  have l2 := h2.lo
  have p' : 0 < com S T := p
  refine ⟨h1.nm, by omega, hc, ?_, fun r hr => ?_⟩
  · rw [List.length_append]
    show (R.map _).length + (U.map _).length ≤ 240
    rw [List.length_map, List.length_map]
    exact hn
  · rcases List.mem_append.mp hr with q | q
    · have z := times_rows h1.rows (Int.ediv_nonneg (by omega) (by omega)) r q
      rwa [show S * (com S T / S) = com S T from e1] at z
    · have z := times_rows h2.rows (Int.ediv_nonneg (by omega) (by omega)) r q
      rwa [show T * (com S T / T) = com S T from e2] at z
theorem times_len (R : List Rnd) (f : Int) : (times R f).length = R.length := List.length_map _
theorem tb_app {S : Hp → Addr → List V → Prop} {H : Hp} {a b c : Addr} {R U : List Rnd} (ha : TbG S H a R) (hb : TbG S H b U) (hc : ∀ as bs : List Addr, S H a (as.map V.ref) → S H b (bs.map V.ref) → as.length = R.length → bs.length = U.length → S H c ((as ++ bs).map V.ref)) : TbG S H c (R ++ U) := by
  obtain ⟨as, h1, h2, h3⟩ := ha
  obtain ⟨bs, g1, g2, g3⟩ := hb
  refine ⟨as ++ bs, hc as bs h1 g1 h2 g2, by rw [List.length_append, List.length_append, h2, g2], fun i p r e1 e2 => ?_⟩
  by_cases q : i < as.length
  · rw [List.getElem?_append_left q] at e1
    rw [List.getElem?_append_left (by omega)] at e2
    exact h3 i p r e1 e2
  · rw [List.getElem?_append_right (by omega)] at e1
    rw [List.getElem?_append_right (by omega), ← h2] at e2
    exact g3 _ p r e1 e2
theorem kit_self {K : PySem.W.Frag} {u : Value} (h : (u == u) = true) : PySem.W.kitOne K u u = some true := by
  unfold PySem.W.kitOne
  rw [if_pos h]
def spAdd (K : PySem.W.Frag) (C CO CM CS : Addr) : Sp := fun vs H Q E => ∃ (a b : Addr) (ns ms : List Str) (S T : Int) (R U : List Rnd), vs = [.ref a, .ref b] ∧ ChAt K C H a ns S R ∧ ChartOk ns S R ∧ ChAt K C H b ms T U ∧ ChartOk ms T U ∧
  (ns ≠ ms → ∀ d H2 q, Same H H2 → H2 d = some (.xd [("members", .ref q)]) → SqT K H2 q (ms.map V.str) → E (.ref CO) (some d) H2) ∧
  (ns = ms → 240 < R.length + U.length → ∀ d H2, Same H H2 → H2 d = some (.xd [("count", .int ((R.length : Int) + (U.length : Int)))]) → E (.ref CM) (some d) H2) ∧
  (ns = ms → R.length + U.length ≤ 240 → 1000000000000 < com S T → ∀ d H2, Same H H2 → H2 d = some (.xd [("value", .int (com S T))]) → E (.ref CS) (some d) H2) ∧
  (ns = ms → R.length + U.length ≤ 240 → com S T ≤ 1000000000000 → ∀ x H2, Same H H2 → ChAt K C H2 x ns (com S T) (times R (com S T / S) ++ times U (com S T / T)) → Q (.ref x) H2)
section
variable {P : Program} {w : World} {K : PySem.W.Frag} {mg : Str → Option Value} {base : Heap} {C CO CM CS : Addr}
theorem scAdd : FnScope ["self", "other", "count", "scale", "first"] ["self", "other"] (defScope sAdd) := ⟨rfl, rfl, rfl, by decide +kernel, rfl, by decide +kernel, by decide +kernel⟩
theorem pe_isiCh {X : Cx} {a b : Expr} {p pos : Pos} {ta tb : TE} (B : Blt X.mg) (ha : PE X a ta) (hb : PE X b tb) (hg : Gl X "isinstance" := by rfl) (hs : starEach [b] X.env = [(false, eval b X.env)] := by rfl) (hs2 : starEach [a, b] X.env = (false, eval a X.env) :: starEach [b] X.env := by rfl)
    (hpl : (backTo pos (starEach [b] X.env)).any (·.1) = false := by rfl) :
    PE X (.Call (.Name "isinstance" p) [a, b] [] pos) (tCB (SlX.rIsiSl X.K (.ref C)) (tCons ta (tCons tb tNil))) :=
  pe_callB (SlX.call_isiSl (.ref C)) hg B.isi (by decide +kernel) (pa_cons ha (pa_cons hb pa_nil hs) hs2) (by decide) (by decide) hs2 hpl
theorem ok_add {f : Addr} {fd : FuncData} (F : Fun K "__add__" "Chart.__add__" sAdd f fd) (B : Blt mg) (T : ChC K mg C) (I : SlX.SIsi K C) (M : ChMk P w K mg base C)
    (DO : ErrC P w K mg base "OtherMembers" "members" CO) (DM : ErrC P w K mg base "TooManyRounds" "count" CM) (DS : ErrC P w K mg base "InvalidScale" "value" CS)
    (DG : Dfn P w K mg base 1 "greatest_divisor" ["one", "other"] spGcd) (DU : Dfn P w K mg base 1 "multiplied" ["rounds", "factor"] (spMult K)) : FnOk P w K mg base (L2.CX P w) 6 f fd ["self", "other"] (spAdd K C CO CM CS) := by
  refine F.okX scAdd (fun vs H Q E h => ?_) (fun cdv A outer s H vs Q E hr h => ?_)
  · obtain ⟨a, b, ns, ms, S, T, R, U, rfl, _⟩ := h
    rfl
  · obtain ⟨a, b, ns, ms, S, S2, R, U, rfl, hA, oA, hB, oB, kO, kM, kS, kQ⟩ := h
    obtain ⟨mc, hrd, ⟨t1, hcR⟩, ⟨t2, hcS⟩⟩ := T.rd
    obtain ⟨pM, sM⟩ := T.sM
    obtain ⟨pR, sR⟩ := T.sR
    obtain ⟨pS, sS⟩ := T.sS
    refine ⟨_, pss_cons (ps_if (pt_not (pt_val (pe_isiCh (C := C) B (pv 1) (pe_glob (v := .ref C) rfl T.mgC rfl)))) (pss_one ps_never) pss_nil)
      (pss_cons (ps_if (pt_cmpR (op_neD hr.units) (SlX.pe_sl (pv 0)) (SlX.pe_sl (pv 1)) (nomark _)) (pss_one (ps_raise rfl (takes_of rfl rfl rfl rfl) (pmk_err DO hr (pa_cons (SlX.pe_sl (pv 1)) pa_nil)))) pss_nil)
      (pss_cons (ps_set (i := 2) scAdd.nd rfl (Or.inl rfl) (pe_op op_add (pe_len B (SlX.pe_sl (pv 0))) (pe_len B (SlX.pe_sl (pv 1)))))
      (pss_cons (ps_if (pt_cmpR op_gt (pv 2) (ClX.pe_cval (pe_glob (v := .ref C) rfl T.mgC rfl)) (nomark _)) (pss_one (ps_raise rfl (takes_of rfl rfl rfl rfl) (pmk_err DM hr (pa_cons (pv 2) pa_nil)))) pss_nil)
      (pss_cons (ps_set (i := 3) scAdd.nd rfl (Or.inl rfl) (pe_op op_mul (pe_op op_fdivW (SlX.pe_sl (pv 0)) (pe_fn DG hr (pa_cons (SlX.pe_sl (pv 0)) (pa_cons (SlX.pe_sl (pv 1)) pa_nil)))) (SlX.pe_sl (pv 1))))
      (pss_cons (ps_if (pt_cmpR op_gt (pv 3) (ClX.pe_cval (pe_glob (v := .ref C) rfl T.mgC rfl)) (nomark _)) (pss_one (ps_raise rfl (takes_of rfl rfl rfl rfl) (pmk_err DS hr (pa_cons (pv 3) pa_nil)))) pss_nil)
      (pss_cons (ps_set (i := 4) scAdd.nd rfl (Or.inl rfl) (pe_fn DU hr (pa_cons (SlX.pe_sl (pv 0)) (pa_cons (pe_op op_fdivW (pv 3) (SlX.pe_sl (pv 0))) pa_nil))))
      (pss_one (ps_ret (pe_chart T M hr (pa_cons (SlX.pe_sl (pv 0)) (pa_cons (pv 3) (pa_cons (pe_op op_joinA (pv 4) (pe_fn DU hr (pa_cons (SlX.pe_sl (pv 1)) (pa_cons (pe_op op_fdivW (pv 3) (SlX.pe_sl (pv 1))) pa_nil)))) pa_nil)))))))))))), ?_⟩
    obtain ⟨dx, pa, qa, hs, hp, hq⟩ := hA
    obtain ⟨dy, pb, qb, gs, gp, gq⟩ := hB
    refine ⟨.ref b, rfl, b, C, dy, _, .ref C, true, rfl, rfl, fun _ r => r, gs, T.sc, I, kit_self (by simp), true, rfl, iteF ?_⟩
    refine ⟨.ref a, rfl, a, C, dx, pM, _, 0, _, rfl, hs, T.sc, sM, rfl, .ref b, rfl, b, C, dy, pM, _, 0, _, rfl, gs, T.sc, sM, rfl, _, _, .tup hp (dp_strs ns), .tup gp (dp_strs ms), shaped_names oA.nm.ok, shaped_names oB.nm.ok, _, rfl, ?_⟩
    rw [eqv_names]
    by_cases en : ns = ms
    · subst en
      refine ifF (by simp) ?_
      obtain ⟨as, a1, a2, a3⟩ := id hq
      obtain ⟨bs, b1, b2, b3⟩ := id gq
      have e1 : R.length = (as.map V.ref).length := by rw [List.length_map]; exact a2.symm
      have e2 : U.length = (bs.map V.ref).length := by rw [List.length_map]; exact b2.symm
      have l1 := oA.lo
      have l2 := oB.lo
      have u1 := oA.hi
      have u2 := oB.hi
      refine ⟨.ref a, rfl, a, C, dx, pR, _, 1, _, rfl, hs, T.sc, sR, rfl, qa, _, rfl, .inr a1, .ref b, rfl, b, C, dy, pR, _, 1, _, rfl, gs, T.sc, sR, rfl, qb, _, rfl, .inr b1, _, _, rfl, rfl, ?_⟩
      by_cases c1 : 240 < R.length + U.length
      · refine ⟨_, rfl, C, mc, .int 240, _, rfl, hrd, hcR, _, _, rfl, rfl, _, rfl, ifT (decide_eq_true (by omega)) ?_⟩
        have k1 := kM rfl c1
        rw [e1, e2] at k1
        exact ⟨_, rfl, err_post fun d H2 sm e3 => k1 d H2 sm e3⟩
      · refine ⟨_, rfl, C, mc, .int 240, _, rfl, hrd, hcR, _, _, rfl, rfl, _, rfl, ifF (decide_eq_false (by omega)) ?_⟩
        have hn : R.length + U.length ≤ 240 := by omega
        have g0 : 0 < Nat.gcd S.toNat S2.toNat := Nat.gcd_pos_of_pos_left _ (by omega)
        have g1 : Nat.gcd S.toNat S2.toNat ≤ S.toNat := Nat.gcd_le_left _ (by omega)
        have d0 : 0 ≤ S / (Nat.gcd S.toNat S2.toNat : Nat) := Int.ediv_nonneg (by omega) (by omega)
        have d1 : S / (Nat.gcd S.toNat S2.toNat : Nat) ≤ S := Int.ediv_le_self _ (by omega)
        refine ⟨.ref a, rfl, a, C, dx, pS, _, 2, _, rfl, hs, T.sc, sS, rfl, .ref a, rfl, a, C, dx, pS, _, 2, _, rfl, hs, T.sc, sS, rfl, .ref b, rfl, b, C, dy, pS, _, 2, _, rfl, gs, T.sc, sS, rfl, S, S2, rfl, by omega, by omega, _, _, rfl, rfl,
          wide_div (b := 64) (by omega) (by omega) (by decide) (by decide), .ref b, rfl, b, C, dy, pS, _, 2, _, rfl, gs, T.sc, sS, rfl, _, _, rfl, rfl, .inl ⟨by show _ < S / _; omega, by show S / _ < _; omega⟩, ?_⟩
        by_cases c2 : 1000000000000 < com S S2
        · refine ⟨_, rfl, C, mc, .int 1000000000000, _, rfl, hrd, hcS, _, _, rfl, rfl, _, rfl, ifT (decide_eq_true c2) ?_⟩
          exact ⟨_, rfl, err_post fun d H2 sm e3 => kS rfl hn c2 d H2 sm e3⟩
        · refine ⟨_, rfl, C, mc, .int 1000000000000, _, rfl, hrd, hcS, _, _, rfl, rfl, _, rfl, ifF (decide_eq_false c2) ?_⟩
          have wd : ∀ {i : Int}, CDivW i S := wide_div (b := 64) (by omega) (by omega) (by decide) (by decide)
          have wd2 : ∀ {i : Int}, CDivW i S2 := wide_div (b := 64) (by omega) (by omega) (by decide) (by decide)
          have c3 : com S S2 ≤ 1000000000000 := by omega
          refine ⟨.ref a, rfl, a, C, dx, pR, _, 1, _, rfl, hs, T.sc, sR, rfl, .int (com S S2), rfl, .ref a, rfl, a, C, dx, pS, _, 2, _, rfl, hs, T.sc, sS, rfl, com S S2, S, rfl, rfl, wd, qa, com S S2 / S, R, rfl, hq, by omega, crow_ok oA, fun q1 H1 s1 h1 => ?_⟩
          have hs1 := sameSl s1 hs
          have gs1 := sameSl s1 gs
          refine ⟨.ref a, rfl, a, C, dx, pM, _, 0, _, rfl, hs1, T.sc, sM, rfl, .int (com S S2), rfl, .ref q1, rfl, .ref b, rfl, b, C, dy, pR, _, 1, _, rfl, gs1, T.sc, sR, rfl, .int (com S S2), rfl, .ref b, rfl, b, C, dy, pS, _, 2, _, rfl, gs1, T.sc, sS, rfl, com S S2, S2, rfl, rfl, wd2, qb, com S S2 / S2, U, rfl, tt_same s1 gq, by omega, crow_ok oB, fun q2 H2 s2 h2 => ?_⟩
          have h1' := tt_same s2 h1
          obtain ⟨cs, f1, f2, f3⟩ := id h1'
          obtain ⟨ds, g4, g5, g6⟩ := id h2
          rw [times_len] at f2 g5
          refine ⟨q1, q2, _, _, rfl, rfl, f1, g4, by rw [List.length_map, List.length_map]; omega, fun q3 H3 s3 h3 => ?_⟩
          have s03 : Same H H3 := (s1.trans s2).trans s3
          refine chart_post (.inr (sameT s03 hp)) (ta_of_t ?_) (com_ok oA oB hn c3) (fun x H4 s4 h4 => kQ rfl hn c3 x H4 (s03.trans s4) h4)
          rw [← List.map_append] at h3
          refine ⟨cs ++ ds, h3, ?_, fun i p r e5 e6 => sameT s3 ?_⟩
          · rw [List.length_append, List.length_append, times_len, times_len, f2, g5]
          · by_cases c4 : i < cs.length
            · rw [List.getElem?_append_left c4] at e5
              rw [List.getElem?_append_left (by rw [times_len]; omega)] at e6
              exact f3 i p r e5 e6
            · rw [List.getElem?_append_right (by omega)] at e5
              rw [List.getElem?_append_right (by rw [times_len]; omega), times_len, ← f2] at e6
              exact g6 _ p r e5 e6
    · refine ifT (by simp [en]) ?_
      exact ⟨.ref b, rfl, b, C, dy, pM, _, 0, _, rfl, gs, T.sc, sM, rfl, err_post fun d H2 sm e3 => kO en d H2 _ sm e3 (sameT sm gp)⟩
end
end KP

set_option Elab.async false
set_option linter.all false
set_option maxRecDepth 100000
set_option maxHeartbeats 4000000
/-! # The signs of a Chart, on: * << >> ~ -/
namespace KP
open PySem PySem.Spec PyProof.Rows L2 KR KM

/-! ### addresses and rows, side by side -/
def Al (P : Addr → Rnd → Prop) (as : List Addr) (R : List Rnd) : Prop := as.length = R.length ∧ ∀ (i : Nat) (p : Addr) (r : Rnd), as[i]? = some p → R[i]? = some r → P p r
section
variable {P : Addr → Rnd → Prop} {as bs : List Addr} {R U : List Rnd}
theorem Al.nil : Al P [] [] := ⟨rfl, fun i p r e _ => by simp at e⟩
theorem Al.app (h : Al P as R) (g : Al P bs U) : Al P (as ++ bs) (R ++ U) := by
  refine ⟨by rw [List.length_append, List.length_append, h.1, g.1], fun i p r e1 e2 => ?_⟩
  have hl := h.1
  by_cases q : i < as.length
  · rw [List.getElem?_append_left q] at e1
    rw [List.getElem?_append_left (by omega)] at e2
    exact h.2 i p r e1 e2
  · rw [List.getElem?_append_right (by omega)] at e1
    rw [List.getElem?_append_right (by omega), ← hl] at e2
    exact g.2 _ p r e1 e2
theorem Al.rep (h : Al P as R) : ∀ k : Nat, Al P (List.replicate k as).flatten (List.replicate k R).flatten
  | 0 => .nil
  | k + 1 => by
    rw [List.replicate_succ, List.replicate_succ, List.flatten_cons, List.flatten_cons]
    exact h.app (h.rep k)
theorem Al.drop (h : Al P as R) (k : Nat) : Al P (as.drop k) (R.drop k) := by
  refine ⟨by rw [List.length_drop, List.length_drop, h.1], fun i p r e1 e2 => ?_⟩
  rw [List.getElem?_drop] at e1 e2
  exact h.2 _ p r e1 e2
theorem Al.take (h : Al P as R) (k : Nat) : Al P (as.take k) (R.take k) := by
  refine ⟨by rw [List.length_take, List.length_take, h.1], fun i p r e1 e2 => ?_⟩
  have hk : i < k := by
    have := (List.getElem?_eq_some_iff.mp e1).1
    rw [List.length_take] at this
    omega
  rw [List.getElem?_take_of_lt hk] at e1 e2
  exact h.2 _ p r e1 e2
theorem Al.rev (h : Al P as R) : Al P as.reverse R.reverse := by
  refine ⟨by rw [List.length_reverse, List.length_reverse, h.1], fun i p r e1 e2 => ?_⟩
  have hk : i < as.length := by
    have := (List.getElem?_eq_some_iff.mp e1).1
    rwa [List.length_reverse] at this
  have hl := h.1
  rw [List.getElem?_reverse hk] at e1
  rw [List.getElem?_reverse (by omega), ← hl] at e2
  exact h.2 _ p r e1 e2
theorem Al.imp {P' : Addr → Rnd → Prop} (h : Al P as R) (m : ∀ p r, P p r → P' p r) : Al P' as R := ⟨h.1, fun i p r e1 e2 => m p r (h.2 i p r e1 e2)⟩
end
theorem tb_of {S : Hp → Addr → List V → Prop} {H : Hp} {a : Addr} {as : List Addr} {R : List Rnd} (h : S H a (as.map V.ref)) (g : Al (fun p r => S H p (r.map V.int)) as R) : TbG S H a R := ⟨as, h, g.1, g.2⟩
theorem tb_al {S : Hp → Addr → List V → Prop} {H : Hp} {a : Addr} {R : List Rnd} (h : TbG S H a R) : ∃ as : List Addr, S H a (as.map V.ref) ∧ Al (fun p r => S H p (r.map V.int)) as R := by
  obtain ⟨as, h1, h2, h3⟩ := h
  exact ⟨as, h1, h2, h3⟩
theorem map_rep {α β : Type} (f : α → β) (l : List α) (k : Nat) : (List.replicate k l).flatten.map f = (List.replicate k (l.map f)).flatten := by
  rw [List.map_flatten, List.map_replicate]
def rep (k : Int) (R : List Rnd) : List Rnd := (List.replicate k.toNat R).flatten
theorem rep_mem {k : Int} {R : List Rnd} {r : Rnd} (h : r ∈ rep k R) : r ∈ R := by
  unfold rep at h
  obtain ⟨l, hl, hr⟩ := List.mem_flatten.mp h
  rw [(List.mem_replicate.mp hl).2] at hr
  exact hr
theorem rep_len (k : Int) (R : List Rnd) : (rep k R).length = k.toNat * R.length := by
  unfold rep
  rw [List.length_flatten, List.map_replicate, List.sum_replicate_nat]
theorem chart_sub {ns : List Str} {S : Int} {R U : List Rnd} (ok : ChartOk ns S R) (hl : U.length ≤ 240) (h : ∀ r ∈ U, r ∈ R) : ChartOk ns S U := ⟨ok.nm, ok.lo, ok.hi, hl, fun r hr => ok.rows r (h r hr)⟩
theorem rep_ok {ns : List Str} {S : Int} {R : List Rnd} {k : Int} (ok : ChartOk ns S R) (hk : 0 ≤ k) (h : (R.length : Int) * k ≤ 240) : ChartOk ns S (rep k R) := by
  refine chart_sub ok ?_ fun r hr => rep_mem hr
  rw [rep_len]
  obtain ⟨m, rfl⟩ := Int.eq_ofNat_of_zero_le hk
  rw [Int.toNat_natCast, Nat.mul_comm]
  exact_mod_cast h
theorem turn_mem {k : Nat} {R : List Rnd} {r : Rnd} (h : r ∈ turn k R) : r ∈ R := by
  unfold turn at h
  rcases List.mem_append.mp h with q | q
  · exact List.mem_of_mem_drop q
  · exact List.mem_of_mem_take q
theorem turn_len (k : Nat) (R : List Rnd) : (turn k R).length = R.length := by
  unfold turn
  rw [List.length_append, List.length_drop, List.length_take]
  omega
theorem turn_ok {ns : List Str} {S : Int} {R : List Rnd} (ok : ChartOk ns S R) (k : Nat) : ChartOk ns S (turn k R) := chart_sub ok (by rw [turn_len]; exact ok.few) fun r hr => turn_mem hr
theorem rev_ok {ns : List Str} {S : Int} {R : List Rnd} (ok : ChartOk ns S R) : ChartOk ns S R.reverse := chart_sub ok (by rw [List.length_reverse]; exact ok.few) fun r hr => List.mem_reverse.mp hr
def tAt (t : Int) (n : Nat) : Nat := (t % (n : Int)).toNat
def spMul (K : PySem.W.Frag) (C CC CM : Addr) : Sp := fun vs H Q E => ∃ (a : Addr) (k : Int) (ns : List Str) (S : Int) (R : List Rnd), vs = [.ref a, .int k] ∧ ChAt K C H a ns S R ∧ ChartOk ns S R ∧
  (k < 0 → ∀ d H2, Same H H2 → H2 d = some (.xd [("value", .int k)]) → E (.ref CC) (some d) H2) ∧
  (0 ≤ k → 240 < (R.length : Int) * k → ∀ d H2, Same H H2 → H2 d = some (.xd [("count", .int ((R.length : Int) * k))]) → E (.ref CM) (some d) H2) ∧
  (0 ≤ k → (R.length : Int) * k ≤ 240 → ∀ x H2, Same H H2 → ChAt K C H2 x ns S (rep k R) → Q (.ref x) H2)
def spLsh (K : PySem.W.Frag) (C : Addr) : Sp := fun vs H Q _ => ∃ (a : Addr) (t : Int) (ns : List Str) (S : Int) (R : List Rnd), vs = [.ref a, .int t] ∧ ChAt K C H a ns S R ∧ ChartOk ns S R ∧
  ∀ x H2, Same H H2 → ChAt K C H2 x ns S (turn (tAt t R.length) R) → Q (.ref x) H2
def spRsh (K : PySem.W.Frag) (C : Addr) : Sp := fun vs H Q _ => ∃ (a : Addr) (t : Int) (ns : List Str) (S : Int) (R : List Rnd), vs = [.ref a, .int t] ∧ ChAt K C H a ns S R ∧ ChartOk ns S R ∧
  ∀ x H2, Same H H2 → ChAt K C H2 x ns S (turn (tAt (-t) R.length) R) → Q (.ref x) H2
def spInv (K : PySem.W.Frag) (C : Addr) : Sp := fun vs H Q _ => ∃ (a : Addr) (ns : List Str) (S : Int) (R : List Rnd), vs = [.ref a] ∧ ChAt K C H a ns S R ∧ ChartOk ns S R ∧
  ∀ x H2, Same H H2 → ChAt K C H2 x ns S R.reverse → Q (.ref x) H2
theorem ch_slt {K : PySem.W.Frag} {C a : Addr} {H : Hp} {ns : List Str} {S : Int} {R : List Rnd} (h : ChAt K C H a ns S R) : ∃ dx vs, SlX.Slt H a C dx vs := by
  obtain ⟨dx, p, q, hs, _⟩ := h
  exact ⟨dx, _, hs⟩
section
variable {P : Program} {w : World} {K : PySem.W.Frag} {mg : Str → Option Value} {base : Heap} {C CC CM : Addr}
theorem scMul : FnScope ["self", "count"] ["self", "count"] (defScope sMul) := ⟨rfl, rfl, rfl, by decide +kernel, rfl, by decide +kernel, by decide +kernel⟩
theorem ok_mul {f : Addr} {fd : FuncData} (F : Fun K "__mul__" "Chart.__mul__" sMul f fd) (B : Blt mg) (T : ChC K mg C) (M : ChMk P w K mg base C)
    (DC : ErrC P w K mg base "InvalidCount" "value" CC) (DM : ErrC P w K mg base "TooManyRounds" "count" CM)
    (DI : Dfn P w K mg base 1 "is_integer" ["value"] spIsInt) : FnOk P w K mg base (L2.CX P w) 6 f fd ["self", "count"] (spMul K C CC CM) := by
  refine F.okX scMul (fun vs H Q E h => ?_) (fun cdv A outer s H vs Q E hr h => ?_)
  · obtain ⟨a, k, ns, S, R, rfl, _⟩ := h
    rfl
  · obtain ⟨a, k, ns, S, R, rfl, hA, ok, kC, kM, kQ⟩ := h
    obtain ⟨mc, hrd, ⟨t1, hcR⟩, ⟨t2, hcS⟩⟩ := T.rd
    obtain ⟨pM, sM⟩ := T.sM
    obtain ⟨pR, sR⟩ := T.sR
    obtain ⟨pS, sS⟩ := T.sS
    refine ⟨_, pss_cons (ps_if (pt_not (pt_val (pe_fn DI hr (pa_cons (pv 1) pa_nil)))) (pss_one ps_never) pss_nil)
      (pss_cons (ps_if (pt_cmpR op_lt (pv 1) pe_int (nomark _)) (pss_one (ps_raise rfl (takes_of rfl rfl rfl rfl) (pmk_err DC hr (pa_cons (pv 1) pa_nil)))) pss_nil)
      (pss_cons (ps_if (pt_cmpR op_gt (pe_op op_mul (pe_len B (SlX.pe_sl (pv 0))) (pv 1)) (ClX.pe_cval (pe_glob (v := .ref C) rfl T.mgC rfl)) (nomark _)) (pss_one (ps_raise rfl (takes_of rfl rfl rfl rfl) (pmk_err DM hr (pa_cons (pe_op op_mul (pe_len B (SlX.pe_sl (pv 0))) (pv 1)) pa_nil)))) pss_nil)
      (pss_one (ps_ret (pe_chart T M hr (pa_cons (SlX.pe_sl (pv 0)) (pa_cons (SlX.pe_sl (pv 0)) (pa_cons (pe_ifExp (pt_cmpR (op_neD hr.units) (SlX.pe_sl (pv 0)) (pe_tup pa_nil) (nomark _)) (pe_op op_manyA (SlX.pe_sl (pv 0)) (pv 1)) (pe_tup pa_nil)) pa_nil)))))))), ?_⟩
    obtain ⟨dx, pa, qa, hs, hp, hq⟩ := hA
    obtain ⟨as, a1, a2⟩ := tb_al hq
    have e1 : R.length = (as.map V.ref).length := by rw [List.length_map]; exact a2.1.symm
    have fw := ok.few
    refine ⟨.int k, rfl, k, rfl, true, rfl, iteF ?_⟩
    by_cases c0 : k < 0
    · refine ⟨_, rfl, _, _, rfl, rfl, _, rfl, ifT (decide_eq_true c0) ?_⟩
      exact ⟨_, rfl, err_post fun d H2 sm e3 => kC c0 d H2 sm e3⟩
    · refine ⟨_, rfl, _, _, rfl, rfl, _, rfl, ifF (decide_eq_false c0) ?_⟩
      have k0 : 0 ≤ k := by omega
      have hm : CMul ((as.map V.ref).length : Int) k := .inl ⟨by omega, by omega⟩
      by_cases c1 : 240 < (R.length : Int) * k
      · have k1 := kM k0 c1
        rw [e1] at k1 c1
        refine ⟨.ref a, rfl, a, C, dx, pR, _, 1, _, rfl, hs, T.sc, sR, rfl, qa, _, rfl, .inr a1, .int k, rfl, _, _, rfl, rfl, hm, C, mc, .int 240, _, rfl, hrd, hcR, _, _, rfl, rfl, _, rfl, ifT (decide_eq_true c1) ?_⟩
        exact ⟨.ref a, rfl, a, C, dx, pR, _, 1, _, rfl, hs, T.sc, sR, rfl, qa, _, rfl, .inr a1, .int k, rfl, _, _, rfl, rfl, hm, err_post fun d H2 sm e3 => k1 d H2 sm e3⟩
      · have c2 : (R.length : Int) * k ≤ 240 := by omega
        have k2 := kQ k0 c2
        have c3 := c2
        rw [e1] at c1
        refine ⟨.ref a, rfl, a, C, dx, pR, _, 1, _, rfl, hs, T.sc, sR, rfl, qa, _, rfl, .inr a1, .int k, rfl, _, _, rfl, rfl, hm, C, mc, .int 240, _, rfl, hrd, hcR, _, _, rfl, rfl, _, rfl, ifF (decide_eq_false c1) ?_⟩
        refine ⟨.ref a, rfl, a, C, dx, pM, _, 0, _, rfl, hs, T.sc, sM, rfl, .ref a, rfl, a, C, dx, pS, _, 2, _, rfl, hs, T.sc, sS, rfl, .ref a, rfl, a, C, dx, pR, _, 1, _, rfl, hs, T.sc, sR, rfl, by show 0 ≤ sizeLine; exact Nat.zero_le _, fun t nt => ?_⟩
        have s1 : Same H (upd H t (.tup [])) := up_new nt
        refine ⟨_, _, dp_tableT (tt_same s1 hq), .tup (SqT.of upd_same) .nil, shaped_rowsT R, shaped_nilT, _, rfl, ?_⟩
        rw [eqv_nilT]
        by_cases c4 : R = []
        · refine ifF (by simp [c4]) ?_
          refine ⟨Nat.zero_le _, fun t2 nt2 => ?_⟩
          have s2 := s1.trans (up_new (o := .tup []) nt2)
          have e2 : rep k R = [] := by
            rw [c4]
            unfold rep
            simp
          rw [e2] at k2
          exact chart_post (.inr (sameT s2 hp)) ⟨[], .inr (SqT.of upd_same), rfl, fun i p r e _ => by simp at e⟩ (chart_sub ok (Nat.zero_le _) fun r hr => absurd hr List.not_mem_nil) fun x H' sm hC => k2 x H' (s2.trans sm) hC
        · refine ifT (by simp [c4]) ?_
          have hR : 0 < R.length := List.length_pos_iff.mpr c4
          have k240 : k ≤ 240 := by
            have q : 1 * k ≤ (R.length : Int) * k := Int.mul_le_mul_of_nonneg_right (by omega) k0
            omega
          have hs1 := sameSl s1 hs
          refine ⟨.ref a, rfl, a, C, dx, pR, _, 1, _, rfl, hs1, T.sc, sR, rfl, .int k, rfl, qa, k, _, rfl, rfl, sameT s1 a1, fun z => ?_, k0, by omega, by omega, fun p H3 s3 h3 => ?_⟩
          · rw [z] at e1
            simp at e1
            exact c4 e1
          · rw [← map_rep] at h3
            have s2 := s1.trans s3
            exact chart_post (.inr (sameT s2 hp)) (ta_of_t (tb_of h3 ((a2.imp fun p r => sameT s2).rep k.toNat))) (rep_ok ok k0 c2) fun x H' sm hC => k2 x H' (s2.trans sm) hC
theorem scRmul : FnScope ["self", "count"] ["self", "count"] (defScope sRmul) := ⟨rfl, rfl, rfl, by decide +kernel, rfl, by decide +kernel, by decide +kernel⟩
theorem ok_rmul {f fM : Addr} {fd fdM : FuncData} (F : Fun K "__rmul__" "Chart.__rmul__" sRmul f fd) (DI : Dfn P w K mg base 1 "is_integer" ["value"] spIsInt)
    (FM : FnOk P w K mg base (L2.CX P w) 6 fM fdM ["self", "count"] (spMul K C CC CM)) (bM : Binds K fdM ["self", "count"] []) (OT : OpTxt K C fM "mul") (OI : OpInt K C "mul") : FnOk P w K mg base (L2.CX P w) 7 f fd ["self", "count"] (spMul K C CC CM) := by
  refine F.okX scRmul (fun vs H Q E h => ?_) (fun cdv A outer s H vs Q E hr h => ?_)
  · obtain ⟨a, k, ns, S, R, rfl, _⟩ := h
    rfl
  · obtain ⟨a, k, ns, S, R, rfl, hA, ok, q⟩ := h
    refine ⟨_, pss_cons (ps_if (pt_not (pt_val (pe_fn DI hr (pa_cons (pv 1) pa_nil)))) (pss_one ps_never) pss_nil)
      (pss_one (ps_ret (pe_ownOp (E := WE (fun cls d _ H => E cls d H)) OT OI FM hr bM (fun σ => passAt (takes_of rfl rfl rfl rfl) σ) (pv 0) (pv 1)))), ?_⟩
    obtain ⟨dx, ws, hs⟩ := ch_slt hA
    refine ⟨.int k, rfl, k, rfl, true, rfl, iteF ?_⟩
    exact ⟨.ref a, rfl, .int k, rfl, a, dx, ws, rfl, hs, .inr ⟨k, rfl⟩, a, k, ns, S, R, rfl, hA, ok, q⟩
theorem scLsh : FnScope ["self", "count", "at"] ["self", "count"] (defScope sLsh) := ⟨rfl, rfl, rfl, by decide +kernel, rfl, by decide +kernel, by decide +kernel⟩
theorem ok_lsh {f : Addr} {fd : FuncData} (F : Fun K "__lshift__" "Chart.__lshift__" sLsh f fd) (B : Blt mg) (T : ChC K mg C) (M : ChMk P w K mg base C) (DI : Dfn P w K mg base 1 "is_integer" ["value"] spIsInt) : FnOk P w K mg base CX0 6 f fd ["self", "count"] (spLsh K C) := by
  refine F.ok scLsh (fun vs H Q E h => ?_) (fun cdv A outer s H vs Q E hr h => ?_)
  · obtain ⟨a, k, ns, S, R, rfl, _⟩ := h
    rfl
  · obtain ⟨a, k, ns, S, R, rfl, hA, ok, kQ⟩ := h
    obtain ⟨pM, sM⟩ := T.sM
    obtain ⟨pR, sR⟩ := T.sR
    obtain ⟨pS, sS⟩ := T.sS
    refine ⟨_, pss_cons (ps_if (pt_not (pt_val (pe_fn DI hr (pa_cons (pv 1) pa_nil)))) (pss_one ps_never) pss_nil)
      (pss_cons (ps_set (i := 2) scLsh.nd rfl (Or.inl rfl) (pe_ifExp (pt_cmpR (op_neD hr.units) (SlX.pe_sl (pv 0)) (pe_tup pa_nil) (nomark _)) (pe_op op_modN (pv 1) (pe_len B (SlX.pe_sl (pv 0)))) pe_int))
      (pss_one (ps_ret (pe_chart T M hr (pa_cons (SlX.pe_sl (pv 0)) (pa_cons (SlX.pe_sl (pv 0)) (pa_cons (pe_op op_joinA (pe_slice sl_cutA (SlX.pe_sl (pv 0)) (po_some (pv 2)) po_none) (pe_slice sl_cutA (SlX.pe_sl (pv 0)) po_none (po_some (pv 2)))) pa_nil))))))), ?_⟩
    obtain ⟨dx, pa, qa, hs, hp, hq⟩ := hA
    obtain ⟨as, a1, a2⟩ := tb_al hq
    have fw := ok.few
    have e1 : (as.map V.ref).length = R.length := by rw [List.length_map]; exact a2.1
    refine ⟨.int k, rfl, k, rfl, true, rfl, iteF ?_⟩
    refine ⟨.ref a, rfl, a, C, dx, pR, _, 1, _, rfl, hs, T.sc, sR, rfl, by show 0 ≤ sizeLine; exact Nat.zero_le _, fun t nt => ?_⟩
    have s1 : Same H (upd H t (.tup [])) := up_new nt
    have hs1 := sameSl s1 hs
    have a1' := sameT s1 a1
    refine ⟨_, _, dp_tableT (tt_same s1 hq), .tup (SqT.of upd_same) .nil, shaped_rowsT R, shaped_nilT, _, rfl, ?_⟩
    rw [eqv_nilT]
    have fin : ∀ (j : Nat) (h4 h5 h6 : Hp) (q1 q2 q3 : Addr), Same H h4 → Same h4 h5 → Same h5 h6 → SqT K h4 q1 ((as.map V.ref).drop j) → SqT K h5 q2 ((as.map V.ref).take j) → SqT K h6 q3 ((as.map V.ref).drop j ++ (as.map V.ref).take j) → turn j R = turn (tAt k R.length) R →
        TbA K h6 q3 (turn (tAt k R.length) R) := fun j h4 h5 h6 q1 q2 q3 t1 t2 t3 g1 g2 g3 e => by
      rw [← e]
      have e3 : (as.map V.ref).drop j ++ (as.map V.ref).take j = (as.drop j ++ as.take j).map V.ref := by rw [List.map_append, List.map_drop, List.map_take]
      rw [e3] at g3
      have a3 := a2.imp fun p r => sameT (xs := r.map V.int) (a := p) ((t1.trans t2).trans t3)
      exact ta_of_t (tb_of g3 ((a3.drop j).app (a3.take j)))
    by_cases c4 : R = []
    · refine ifF (by simp [c4]) ?_
      have eN : as.map V.ref = [] := List.length_eq_zero_iff.mp (by rw [e1, c4]; rfl)
      have et : turn 0 R = turn (tAt k R.length) R := by rw [c4]; unfold turn; simp
      refine ⟨.ref a, rfl, a, C, dx, pM, _, 0, _, rfl, hs1, T.sc, sM, rfl, .ref a, rfl, a, C, dx, pS, _, 2, _, rfl, hs1, T.sc, sS, rfl, .ref a, rfl, a, C, dx, pR, _, 1, _, rfl, hs1, T.sc, sR, rfl, .int 0, rfl, 0, rfl, qa, _, rfl, a1', fun q1 h4 t4 g4 => ?_⟩
      have hs4 := sameSl t4 hs1
      refine ⟨.ref a, rfl, a, C, dx, pR, _, 1, _, rfl, hs4, T.sc, sR, rfl, .int 0, rfl, 0, rfl, qa, _, rfl, sameT t4 a1', fun q2 h5 t5 g5 => ?_⟩
      have g4' := g4
      rw [show cutV (as.map V.ref) (some 0) none = (as.map V.ref).drop 0 from cutV_from _ (Nat.zero_le _)] at g4
      rw [show cutV (as.map V.ref) none (some 0) = (as.map V.ref).take 0 from cutV_to _ (Nat.zero_le _)] at g5
      refine ⟨q1, q2, _, _, rfl, rfl, sameT t5 g4, g5, by rw [List.length_drop, List.length_take]; omega, fun q3 h6 t6 g6 => ?_⟩
      have t := ((s1.trans t4).trans t5).trans t6
      exact chart_post (.inr (sameT t hp)) (fin 0 h4 h5 h6 q1 q2 q3 (s1.trans t4) t5 t6 g4 g5 g6 et) (turn_ok ok _) fun x H' sm hC => kQ x H' (t.trans sm) hC
    · refine ifT (by simp [c4]) ?_
      have hR : 0 < R.length := List.length_pos_iff.mpr c4
      refine ⟨.int k, rfl, .ref a, rfl, a, C, dx, pR, _, 1, _, rfl, hs1, T.sc, sR, rfl, qa, _, rfl, .inr a1', _, _, rfl, rfl, by omega, ?_⟩
      have ef : k.fmod ((as.map V.ref).length : Int) = ((tAt k R.length : Nat) : Int) := by
        rw [e1, Int.fmod_eq_emod_of_nonneg _ (by omega)]
        unfold tAt
        rw [Int.toNat_of_nonneg (Int.emod_nonneg _ (by omega))]
      have el : tAt k R.length ≤ (as.map V.ref).length := by
        have h1 : k % (R.length : Int) < (R.length : Int) := Int.emod_lt_of_pos _ (by omega)
        have h0 : 0 ≤ k % (R.length : Int) := Int.emod_nonneg _ (by omega)
        unfold tAt
        omega
      refine ⟨.ref a, rfl, a, C, dx, pM, _, 0, _, rfl, hs1, T.sc, sM, rfl, .ref a, rfl, a, C, dx, pS, _, 2, _, rfl, hs1, T.sc, sS, rfl, .ref a, rfl, a, C, dx, pR, _, 1, _, rfl, hs1, T.sc, sR, rfl, .int ((tAt k R.length : Nat) : Int), congrArg (fun z => some (some (V.int z))) ef, _, rfl, qa, _, rfl, a1', fun q1 h4 t4 g4 => ?_⟩
      have hs4 := sameSl t4 hs1
      refine ⟨.ref a, rfl, a, C, dx, pR, _, 1, _, rfl, hs4, T.sc, sR, rfl, .int ((tAt k R.length : Nat) : Int), congrArg (fun z => some (some (V.int z))) ef, _, rfl, qa, _, rfl, sameT t4 a1', fun q2 h5 t5 g5 => ?_⟩
      rw [cutV_from _ el] at g4
      rw [cutV_to _ el] at g5
      refine ⟨q1, q2, _, _, rfl, rfl, sameT t5 g4, g5, by rw [List.length_drop, List.length_take]; omega, fun q3 h6 t6 g6 => ?_⟩
      have t := ((s1.trans t4).trans t5).trans t6
      exact chart_post (.inr (sameT t hp)) (fin _ h4 h5 h6 q1 q2 q3 (s1.trans t4) t5 t6 g4 g5 g6 rfl) (turn_ok ok _) fun x H' sm hC => kQ x H' (t.trans sm) hC
theorem scRsh : FnScope ["self", "count"] ["self", "count"] (defScope sRsh) := ⟨rfl, rfl, rfl, by decide +kernel, rfl, by decide +kernel, by decide +kernel⟩
theorem ok_rsh {f fL : Addr} {fd fdL : FuncData} (F : Fun K "__rshift__" "Chart.__rshift__" sRsh f fd) (DI : Dfn P w K mg base 1 "is_integer" ["value"] spIsInt)
    (FL : FnOk P w K mg base CX0 6 fL fdL ["self", "count"] (spLsh K C)) (bL : Binds K fdL ["self", "count"] []) (OT : OpTxt K C fL "lshift") (OI : OpInt K C "lshift") : FnOk P w K mg base CX0 7 f fd ["self", "count"] (spRsh K C) := by
  refine F.ok scRsh (fun vs H Q E h => ?_) (fun cdv A outer s H vs Q E hr h => ?_)
  · obtain ⟨a, k, ns, S, R, rfl, _⟩ := h
    rfl
  · obtain ⟨a, k, ns, S, R, rfl, hA, ok, q⟩ := h
    refine ⟨_, pss_cons (ps_if (pt_not (pt_val (pe_fn DI hr (pa_cons (pv 1) pa_nil)))) (pss_one ps_never) pss_nil)
      (pss_one (ps_ret (pe_ownOp (CX := CX0) (E := fun _ => E0) OT OI FL hr bL (fun σ => fun _ _ _ _ _ _ h => h.elim) (pv 0) (pe_un un_neg (pv 1))))), ?_⟩
    obtain ⟨dx, ws, hs⟩ := ch_slt hA
    refine ⟨.int k, rfl, k, rfl, true, rfl, iteF ?_⟩
    exact ⟨.ref a, rfl, .int k, rfl, k, rfl, a, dx, ws, rfl, hs, .inr ⟨-k, rfl⟩, a, -k, ns, S, R, rfl, hA, ok, q⟩
theorem scInv : FnScope ["self"] ["self"] (defScope sInv) := ⟨rfl, rfl, rfl, by decide +kernel, rfl, by decide +kernel, by decide +kernel⟩
theorem ok_inv {f : Addr} {fd : FuncData} (F : Fun K "__invert__" "Chart.__invert__" sInv f fd) (T : ChC K mg C) (M : ChMk P w K mg base C) : FnOk P w K mg base CX0 6 f fd ["self"] (spInv K C) := by
  refine F.ok scInv (fun vs H Q E h => ?_) (fun cdv A outer s H vs Q E hr h => ?_)
  · obtain ⟨a, ns, S, R, rfl, _⟩ := h
    rfl
  · obtain ⟨a, ns, S, R, rfl, hA, ok, kQ⟩ := h
    obtain ⟨pM, sM⟩ := T.sM
    obtain ⟨pR, sR⟩ := T.sR
    obtain ⟨pS, sS⟩ := T.sS
    refine ⟨_, pss_one (ps_ret (pe_chart T M hr (pa_cons (SlX.pe_sl (pv 0)) (pa_cons (SlX.pe_sl (pv 0)) (pa_cons (pe_backT (SlX.pe_sl (pv 0))) pa_nil))))), ?_⟩
    obtain ⟨dx, pa, qa, hs, hp, hq⟩ := hA
    obtain ⟨as, a1, a2⟩ := tb_al hq
    refine ⟨.ref a, rfl, a, C, dx, pM, _, 0, _, rfl, hs, T.sc, sM, rfl, .ref a, rfl, a, C, dx, pS, _, 2, _, rfl, hs, T.sc, sS, rfl, .ref a, rfl, a, C, dx, pR, _, 1, _, rfl, hs, T.sc, sR, rfl, qa, _, rfl, a1, fun p np => ?_⟩
    have s1 : Same H (upd H p (.tup (as.map V.ref).reverse)) := up_new np
    have h1 : SqT K (upd H p (.tup (as.map V.ref).reverse)) p (as.reverse.map V.ref) := by
      rw [List.map_reverse]
      exact SqT.of upd_same
    exact chart_post (.inr (sameT s1 hp)) (ta_of_t (tb_of h1 ((a2.imp fun p r => sameT s1).rev))) (rev_ok ok) fun x H' sm hC => kQ x H' (s1.trans sm) hC
end
end KP

set_option Elab.async false
set_option linter.all false
set_option maxRecDepth 100000
set_option maxHeartbeats 4000000
/-! # What the law draws from its script -/
namespace KP
open PySem PySem.Spec PyProof.Rows L2 KR KM

abbrev TbD : Hp → Addr → List Rnd → Prop := TbG (fun H a xs => H a = some (.lst xs))
theorem td_same {H H' : Hp} {a : Addr} {R : List Rnd} (s : Same H H') (h : TbD H a R) : TbD H' a R := h.mono fun _ _ => s _ _
theorem td_l {K : PySem.W.Frag} {H : Hp} {a : Addr} {R : List Rnd} (h : TbD H a R) : TbL K H a R := h.mono fun _ _ => SqL.of
section
variable {X : Cx} {a : Expr} {ta : TE} {p pos : Pos}
theorem pe_intOf (B : Blt X.mg) (ha : PE X a ta) (hg : Gl X "int" := by rfl) (hs : starEach [a] X.env = [(false, eval a X.env)] := by rfl) : PE X (.Call (.Name "int" p) [a] [] pos) (tCB (fun xs H Q => (∃ i, xs = [.int i] ∧ Q (.int i) H) ∨ ∃ k, xs = [.bl k] ∧ Q (.int (if k then 1 else 0)) H) (tCons ta tNil)) :=
  pe_callTy call_int1 hg B.int (by decide +kernel) (pa_cons ha pa_nil hs) (by decide) (by decide) hs (by rfl)
end
/-! ### the state's dict -/
theorem inr_ne {x y : Str} (h : ¬ x = y) : ¬ (Sum.inr x : Key) = Sum.inr y := fun z => h (Sum.inr.inj z)
theorem nCS : ¬ (("cells" : Str) = "spot") := by decide +kernel
theorem nGS : ¬ (("great" : Str) = "spot") := by decide +kernel
theorem nCG : ¬ (("cells" : Str) = "great") := by decide +kernel
theorem nSG : ¬ (("spot" : Str) = "great") := by decide +kernel
theorem mv_spot (c g : Addr) (n : Int) : valV (mdict c g n) (Sum.inr "spot") = some (.int n) := by
  unfold mdict
  rw [valV_neg (inr_ne nCS), valV_neg (inr_ne nGS), valV_pos rfl]
theorem mv_great (c g : Addr) (n : Int) : valV (mdict c g n) (Sum.inr "great") = some (.ref g) := by
  unfold mdict
  rw [valV_neg (inr_ne nCG), valV_pos rfl]
theorem mv_cells (c g : Addr) (n : Int) : valV (mdict c g n) (Sum.inr "cells") = some (.ref c) := by
  unfold mdict
  rw [valV_pos rfl]
theorem mp_spot (c g : Addr) (n i : Int) : putK (mdict c g n) (Sum.inr "spot") (.int i) = mdict c g i := by
  unfold putK
  rw [valV_any, mv_spot, if_pos (by rfl)]
  unfold mdict
  simp only [List.map_cons, List.map_nil, if_neg (inr_ne nCS), if_neg (inr_ne nGS), if_pos]
theorem mp_great (c g g' : Addr) (n : Int) : putK (mdict c g n) (Sum.inr "great") (.ref g') = mdict c g' n := by
  unfold putK
  rw [valV_any, mv_great, if_pos (by rfl)]
  unfold mdict
  simp only [List.map_cons, List.map_nil, if_neg (inr_ne nCG), if_neg (inr_ne nSG), if_pos]
theorem mget {H : Hp} {d : Addr} {kvs : List (Key × V)} {k : Str} {v : V} (h : H d = some (.dK kvs)) (e : valV kvs (Sum.inr k) = some v) : DGet H d (.str k) (some v) := by
  have := DGet.k (k := Sum.inr k) h
  rw [e] at this
  exact this

theorem mput_spot {H : Hp} {d c g : Addr} {n : Int} (i : Int) (h : H d = some (.dK (mdict c g n))) : DPut H d (.str "spot") (.int i) (upd H d (.dK (mdict c g i))) := by
  have := DPut.k (k := Sum.inr "spot") (v := .int i) h (by show 3 < sizeLine; decide)
  rw [mp_spot] at this
  exact this
theorem mput_great {H : Hp} {d c g g' : Addr} {n : Int} (h : H d = some (.dK (mdict c g n))) : DPut H d (.str "great") (.ref g') (upd H d (.dK (mdict c g' n))) := by
  have := DPut.k (k := Sum.inr "great") (v := .ref g') h (by show 3 < sizeLine; decide)
  rw [mp_great] at this
  exact this
theorem ix_nat {n j : Nat} (hj : j < n) : ixN n (j : Int) = some j := by
  unfold ixN
  rw [if_pos (Int.natCast_nonneg j), if_pos (by omega), Int.toNat_natCast]
theorem at_mod {ns : List Int} {n : Int} {k : Int} (h : ns.length = k) (hk : 0 < k) : ∃ (j : Nat) (z : Int), j < ns.length ∧ n % k = (j : Int) ∧ ns[j]? = some z ∧ atI (ns.map V.int) (n % k) = some (.int z) ∧ ixN (ns.map V.int).length (n % k) = some j := by
  have h0 : 0 ≤ n % k := Int.emod_nonneg _ (by omega)
  have h1 : n % k < k := Int.emod_lt_of_pos _ hk
  obtain ⟨j, e⟩ := Int.eq_ofNat_of_zero_le h0
  rw [e] at h1 ⊢
  have hj : j < ns.length := by omega
  obtain ⟨z, g⟩ : ∃ z, ns[j]? = some z := ⟨_, List.getElem?_eq_getElem hj⟩
  exact ⟨j, z, hj, rfl, g, atI_nat (by rw [List.getElem?_map, g]; rfl), ix_nat (by rw [List.length_map]; exact hj)⟩
def spMixed : Sp := fun vs H Q _ => ∃ x n : Int, vs = [.int x, .int n] ∧ 0 ≤ n ∧ n ≤ 1000000000 ∧ ∀ v : Int, Q (.int v) H
def spDraw : Sp := fun vs H Q _ => ∃ (d c g : Addr) (lim B : Int), vs = [.ref d, .int lim] ∧ MAt d c g H B ∧ 0 ≤ B ∧ B ≤ 1000000 ∧ 0 < lim ∧ lim ≤ 1000000000000 ∧
  ∀ (v : Int) (H' : Hp), 0 ≤ v → v < lim → MAt d c g H' (B + 1) → Same (Rest d g H) (Rest d g H') → Q (.int v) H'
def spBig : Sp := fun vs H Q _ => ∃ (d c g : Addr) (lim B : Int), vs = [.ref d, .int lim] ∧ MAt d c g H B ∧ 0 ≤ B ∧ B ≤ 900000 ∧ 0 < lim ∧
  ∀ (v : Int) (H' : Hp), 0 ≤ v → v < lim → MAt d c g H' (B + 2) → Same (Rest d g H) (Rest d g H') → Q (.int v) H'
section
variable {P : Program} {w : World} {K : PySem.W.Frag} {mg : Str → Option Value} {base : Heap}
theorem scMixed : FnScope ["_law_cell", "_law_n", "_law_turned_here"] ["_law_cell", "_law_n"] (defScope sMixed) := ⟨rfl, rfl, rfl, by decide +kernel, rfl, by decide +kernel, by decide +kernel⟩
theorem ok_mixed {f : Addr} {fd : FuncData} (F : Fun K "_law_mixed" "_law_mixed" sMixed f fd) (B : Blt mg) : FnOk P w K mg base CX0 1 f fd ["_law_cell", "_law_n"] spMixed := by
  refine F.ok scMixed (fun vs H Q E h => ?_) (fun cdv A outer s H vs Q E hr h => ?_)
  · obtain ⟨x, n, rfl, _⟩ := h
    rfl
  · obtain ⟨x, n, rfl, n0, n1, q⟩ := h
    refine ⟨_, pss_cons (ps_set (i := 2) scMixed.nd rfl (Or.inl rfl) (pe_op op_add (pe_op op_add (pe_op op_mod (pe_intOf B (pe_op op_mul (pe_op op_mul (pv 0) (pe_op op_add pe_int (pe_op op_mul pe_int (pv 1)))) pe_int)) pe_int) (pe_op op_mul (pe_op op_mul pe_int (pv 1)) (pv 1))) (pe_op op_mul pe_int (pv 1))))
      (pss_one (ps_ret (pe_op op_fdiv (pe_op op_mod (pe_intOf B (pe_op op_mul (pv 2) pe_int)) pe_int) pe_int))), ?_⟩
    refine ⟨.int x, rfl, .int n, rfl, 2, n, rfl, rfl, .inl ⟨by decide, by decide⟩, 1, _, rfl, rfl, x, _, rfl, rfl, .inr ⟨by show _ < 1 + 2 * n; omega, by show 1 + 2 * n < _; omega⟩, _, _, rfl, rfl, .inr ⟨by decide, by decide⟩, .inl ⟨_, rfl, _, _, rfl, rfl, by show (0 : Int) < 2147483647; decide,
      .int n, rfl, 7919, n, rfl, rfl, .inl ⟨by decide, by decide⟩, .int n, rfl, _, n, rfl, rfl, .inr ⟨by omega, by omega⟩, _, _, rfl, rfl, .int n, rfl, _, n, rfl, rfl, .inl ⟨by decide, by decide⟩, _, _, rfl, rfl, ?_⟩⟩
    exact ⟨_, rfl, _, _, rfl, rfl, .inr ⟨by decide, by decide⟩, .inl ⟨_, rfl, _, _, rfl, rfl, by show (0 : Int) < 2147483629; decide, _, _, rfl, rfl, ⟨by decide, by decide⟩, q _⟩⟩
theorem scDraw : FnScope ["_law_m", "_law_limit", "_law_n", "_law_lot", "_law_here", "_law_cell"] ["_law_m", "_law_limit"] (defScope sDraw) := ⟨rfl, rfl, rfl, by decide +kernel, rfl, by decide +kernel, by decide +kernel⟩
theorem ok_draw {f : Addr} {fd : FuncData} (F : Fun K "_law_draw" "_law_draw" sDraw f fd) (B : Blt mg) (DM : Dfn P w K mg base 1 "_law_mixed" ["_law_cell", "_law_n"] spMixed) : FnOk P w K mg base CX0 2 f fd ["_law_m", "_law_limit"] spDraw := by
  refine F.ok scDraw (fun vs H Q E h => ?_) (fun cdv A outer s H vs Q E hr h => ?_)
  · obtain ⟨d, c, g, lim, b, rfl, _⟩ := h
    rfl
  · obtain ⟨d, c, g, lim, b, rfl, m, b0, b1, l0, l1, q⟩ := h
    have hu := hu_of hr
    refine ⟨_, pss_cons (ps_set (i := 2) scDraw.nd rfl (Or.inl rfl) (pe_dget hu (pv 0) pe_str (fun _ _ => rfl)))
      (pss_cons (ps_dput hu (pv 0) pe_str (pe_op op_add (pv 2) pe_int) rfl)
      (pss_cons (ps_if (pt_cmpR (op_neD hr.units) (pe_dget hu (pv 0) pe_str (fun _ _ => rfl)) (pe_lst pa_nil) (nomark _))
        (pss_cons (ps_set (i := 3) scDraw.nd rfl (Or.inl rfl) (pe_dget hu (pv 0) pe_str (fun _ _ => rfl)))
        (pss_cons (ps_set (i := 4) scDraw.nd rfl (Or.inl rfl) (pe_op op_mod (pe_intOf B (pv 2)) (pe_len B (pv 3))))
        (pss_cons (ps_set (i := 5) scDraw.nd rfl (Or.inl rfl) (pe_ix ix_list (pv 3) (pv 4) (fun _ _ => rfl)))
        (pss_one (ps_if (pt_cmpR op_gt (pv 5) pe_int (nomark _))
          (pss_cons (ps_asg (pe_op op_fdivW (pv 5) (pv 1)) (pg_sub (pv 3) (pv 4) set_list))
          (pss_one (ps_ret (pe_op op_mod (pe_intOf B (pv 5)) (pv 1))))) pss_nil))))) pss_nil)
      (pss_cons (ps_set (i := 3) scDraw.nd rfl (Or.inl rfl) (pe_dget hu (pv 0) pe_str (fun _ _ => rfl)))
      (pss_one (ps_ret (pe_op op_mod (pe_intOf B (pe_fn DM hr (pa_cons (pe_fn DM hr (pa_cons (pe_op op_add (pe_ix ix_list (pv 3) (pe_op op_mod (pe_intOf B (pv 2)) pe_int) (fun _ _ => rfl)) (pe_op op_mul pe_int (pe_op op_fdiv (pv 2) pe_int))) (pa_cons (pv 2) pa_nil))) (pa_cons (pe_op op_add (pv 2) pe_int) pa_nil)))) (pv 1))))))), ?_⟩
    obtain ⟨⟨n, n0, n1, hd⟩, ⟨cs, cl, hc⟩, ⟨gs, hg⟩, cg⟩ := id m
    have dc : c ≠ d := (ne_of hd hc (by intro z; cases z)).symm
    have dg : g ≠ d := (ne_of hd hg (by intro z; cases z)).symm
    have hd1 : upd H d (.dK (mdict c g (n + 1))) d = some (.dK (mdict c g (n + 1))) := upd_same
    have hc1 : upd H d (.dK (mdict c g (n + 1))) c = some (.lst (cs.map V.int)) := by rw [upd_ne dc]; exact hc
    have hg1 : upd H d (.dK (mdict c g (n + 1))) g = some (.lst (gs.map V.int)) := by rw [upd_ne dg]; exact hg
    have m1 : MAt d c g (upd H d (.dK (mdict c g (n + 1)))) (b + 1) := ⟨⟨n + 1, by omega, by omega, hd1⟩, ⟨cs, cl, hc1⟩, ⟨gs, hg1⟩, cg⟩
    have s1 : Same (Rest d g H) (Rest d g (upd H d (.dK (mdict c g (n + 1))))) := rest_set (.inl rfl)
    refine ⟨.ref d, rfl, d, .int n, rfl, mget hd (mv_spot c g n), ?_⟩
    refine ⟨.int n, rfl, n, 1, rfl, rfl, .ref d, rfl, d, _, rfl, mput_spot (n + 1) hd, ?_⟩
    generalize eH : upd H d (.dK (mdict c g (n + 1))) = H1 at *
    refine ⟨.ref d, rfl, d, .ref g, rfl, mget hd1 (mv_great _ _ _), Nat.zero_le _, fun t nt => ?_⟩
    have s2 : Same H1 (upd H1 t (.lst [])) := up_new nt
    have m2 := m1.mono s2 (Int.le_refl _)
    have hd2 := s2 _ _ hd1
    have hc2 := s2 _ _ hc1
    have hg2 := s2 _ _ hg1
    have t2 : Same (Rest d g H) (Rest d g (upd H1 t (.lst []))) := s1.trans (rest_same s2)
    refine ⟨_, _, .lst (SqL.of hg2) (dp_ints gs), .lst (SqL.of upd_same) .nil, shaped_ints gs, shaped_nil, _, rfl, ?_⟩
    rw [eqv_nil]
    generalize eH2 : upd H1 t (.lst []) = H2 at *
    obtain ⟨j, z, hj, ej, gj, aj, _⟩ := at_mod (n := n) (k := 64) (ns := cs) (by omega) (by decide)
    by_cases e0 : gs = []
    · refine ifF (by simp [e0]) ?_
      exact ⟨.ref d, rfl, d, .ref c, rfl, mget hd2 (mv_cells _ _ _), .ref c, rfl, .int n, rfl, .inl ⟨n, rfl, n, 64, rfl, rfl, by show (0 : Int) < 64; decide, c, _, n % 64, .int z, rfl, rfl, SqL.of hc2, aj, .int n, rfl, n, 64, rfl, rfl, ⟨by decide, by decide⟩, 31, n / 64, rfl, rfl, .inl ⟨by decide, by decide⟩,
        z, _, rfl, rfl, .int n, rfl, _, n, rfl, n0, by omega, fun v1 => ⟨.int n, rfl, n, 7, rfl, rfl, v1, n + 7, rfl, by omega, by omega, fun v2 => .inl ⟨v2, rfl, .int lim, rfl, v2, lim, rfl, rfl, l0, q _ H2 (Int.emod_nonneg _ (by omega)) (Int.emod_lt_of_pos _ l0) m2 t2⟩⟩⟩⟩
    · refine ifT (by simp [e0]) ?_
      have gl : 0 < gs.length := List.length_pos_iff.mpr e0
      obtain ⟨j2, z2, hj2, ej2, gj2, aj2, ij2⟩ := at_mod (n := n) (k := ((gs.map V.int).length : Nat)) (ns := gs) (by rw [List.length_map]) (by rw [List.length_map]; omega)
      refine ⟨.ref d, rfl, d, .ref g, rfl, mget hd2 (mv_great _ _ _), .int n, rfl, .inl ⟨n, rfl, .ref g, rfl, g, _, rfl, .inl (SqL.of hg2), n, _, rfl, rfl, by show (0 : Int) < ((gs.map V.int).length : Nat); rw [List.length_map]; omega, ?_⟩⟩
      refine ⟨.ref g, rfl, .int _, rfl, g, _, _, .int z2, rfl, rfl, SqL.of hg2, aj2, ?_⟩
      refine ⟨.int z2, rfl, _, _, rfl, rfl, _, rfl, ?_⟩
      by_cases c0 : 0 < z2
      · refine ifT (decide_eq_true c0) ?_
        refine ⟨.int z2, rfl, .int lim, rfl, z2, lim, rfl, rfl, wide_div (b := 64) l0 (by omega) (by decide) (by decide), .ref g, rfl, .int _, rfl, g, _, _, j2, rfl, rfl, hg2, ij2, ?_⟩
        refine ⟨.int z2, rfl, .inl ⟨z2, rfl, .int lim, rfl, z2, lim, rfl, rfl, l0, q _ _ (Int.emod_nonneg _ (by omega)) (Int.emod_lt_of_pos _ l0) ?_ (t2.trans (rest_set (.inr rfl)))⟩⟩
        refine ⟨⟨n + 1, by omega, by omega, by rw [upd_ne dg.symm]; exact hd2⟩, ⟨cs, cl, by rw [upd_ne cg]; exact hc2⟩, ⟨gs.set j2 (z2 / lim), by rw [upd_same, List.map_set]⟩, cg⟩
      · refine ifF (decide_eq_false c0) ?_
        exact ⟨.ref d, rfl, d, .ref c, rfl, mget hd2 (mv_cells _ _ _), .ref c, rfl, .int n, rfl, .inl ⟨n, rfl, n, 64, rfl, rfl, by show (0 : Int) < 64; decide, c, _, n % 64, .int z, rfl, rfl, SqL.of hc2, aj, .int n, rfl, n, 64, rfl, rfl, ⟨by decide, by decide⟩, 31, n / 64, rfl, rfl, .inl ⟨by decide, by decide⟩,
          z, _, rfl, rfl, .int n, rfl, _, n, rfl, n0, by omega, fun v1 => ⟨.int n, rfl, n, 7, rfl, rfl, v1, n + 7, rfl, by omega, by omega, fun v2 => .inl ⟨v2, rfl, .int lim, rfl, v2, lim, rfl, rfl, l0, q _ H2 (Int.emod_nonneg _ (by omega)) (Int.emod_lt_of_pos _ l0) m2 t2⟩⟩⟩⟩
theorem scBig : FnScope ["_law_m", "_law_limit"] ["_law_m", "_law_limit"] (defScope sBig) := ⟨rfl, rfl, rfl, by decide +kernel, rfl, by decide +kernel, by decide +kernel⟩
theorem ok_big {f : Addr} {fd : FuncData} (F : Fun K "_law_big" "_law_big" sBig f fd) (B : Blt mg) (DD : Dfn P w K mg base 2 "_law_draw" ["_law_m", "_law_limit"] spDraw) : FnOk P w K mg base CX0 3 f fd ["_law_m", "_law_limit"] spBig := by
  refine F.ok scBig (fun vs H Q E h => ?_) (fun cdv A outer s H vs Q E hr h => ?_)
  · obtain ⟨d, c, g, lim, b, rfl, _⟩ := h
    rfl
  · obtain ⟨d, c, g, lim, b, rfl, m, b0, b1, l0, q⟩ := h
    refine ⟨_, pss_one (ps_ret (pe_op op_mod (pe_intOf B (pe_op op_add (pe_op op_mul (pe_fn DD hr (pa_cons (pv 0) (pa_cons pe_int pa_nil))) pe_int) (pe_fn DD hr (pa_cons (pv 0) (pa_cons pe_int pa_nil))))) (pv 1))), ?_⟩
    refine ⟨.ref d, rfl, d, c, g, 1000000, b, rfl, m, b0, by omega, by decide, by decide, fun v1 H1 v0 vl m1 s1 => ⟨v1, 1000000, rfl, rfl, .inr ⟨by decide, by decide⟩, .ref d, rfl, d, c, g, 1000000, b + 1, rfl, m1, by omega, by omega, by decide, by decide, fun v2 H2 w0 wl m2 s2 => ⟨_, v2, rfl, rfl, .inl ⟨_, rfl, .int lim, rfl, _, lim, rfl, rfl, l0, ?_⟩⟩⟩⟩
    exact q _ H2 (Int.emod_nonneg _ (by omega)) (Int.emod_lt_of_pos _ l0) (m2.le (by omega)) (s1.trans s2)
end
end KP

set_option Elab.async false
set_option linter.all false
set_option maxRecDepth 100000
set_option maxHeartbeats 4000000
/-! # What the law draws from its script, on: the state's beginning -/
namespace KP
open PySem PySem.Spec PyProof.Rows L2 KR KM

/-- a list of one's own, of n numbers -/
def Own (H0 H : Hp) (D : Addr) (n : Nat) : Prop := Same H0 H ∧ ∃ xs : List Int, H D = some (.lst (xs.map V.int)) ∧ xs.length = n
theorem Own.put {H0 H : Hp} {D : Addr} {n j : Nat} {z : Int} {xs : List Int} (h : Same H0 H) (e : xs.length = n) (hD : H0 D = none) : Own H0 (upd H D (.lst ((xs.map V.int).set j (.int z)))) D n :=
  ⟨up_old h hD, xs.set j z, by rw [upd_same, List.map_set], by rw [List.length_set]; exact e⟩
def spFolded (K : PySem.W.Frag) : Sp := fun vs H Q _ => ∃ (a : Addr) (xs : List Int), vs = [.ref a] ∧ SqL K H a (xs.map V.int) ∧ xs.length ≤ 1000 ∧ ∀ D H', H D = none → Own H H' D 64 → Q (.ref D) H'
def spBegun (K : PySem.W.Frag) : Sp := fun vs H Q _ => ∃ (a : Addr) (xs : List Int), vs = [.ref a] ∧ SqL K H a (xs.map V.int) ∧ xs.length ≤ 1000 ∧ ∀ d c g H', MAt d c g H' 0 → Q (.ref d) H'
section
variable {P : Program} {w : World} {K : PySem.W.Frag} {mg : Str → Option Value} {base : Heap}
theorem scFolded : FnScope ["_law_script", "_law_n", "_law_found", "_law_cell"] ["_law_script"] (defScope sFolded) := ⟨rfl, rfl, rfl, by decide +kernel, rfl, by decide +kernel, by decide +kernel⟩
theorem ok_folded {f : Addr} {fd : FuncData} (F : Fun K "_law_folded" "_law_folded" sFolded f fd) (B : Blt mg) : FnOk P w K mg base CX0 1 f fd ["_law_script"] (spFolded K) := by
  refine F.ok scFolded (fun vs H Q E h => ?_) (fun cdv A outer s H vs Q E hr h => ?_)
  · obtain ⟨a, xs, rfl, _⟩ := h
    rfl
  · obtain ⟨a, xs, rfl, hS, hl, q⟩ := h
    refine ⟨_, pss_cons (ps_setLc (i := 2) (own := [("_law_n", 1)]) (g := gName 1) (tt := tYes) rfl scFolded.nd rfl rfl (sw_true rfl rfl rfl (by decide +kernel)) (pi_range1 (by rfl) B.range (pa_cons pe_int pa_nil)) (blkOk_by (own := [("_law_n", 1)]) (N := ["_law_script", "_law_n", "_law_found", "_law_cell"]) (sc := defScope sFolded) (by decide +kernel))
        (fun _ _ _ _ _ => pg_name (i := 1) scFolded.nd rfl (Or.inl rfl)) (fun _ _ _ _ _ => pts_nil) (fun _ _ _ _ _ => pe_op op_add pe_int (pv 1)))
      (pss_cons (ps_for PassesOwn.never rfl (pi_enum (by rfl) B.enum (pa_cons (pv 0) pa_nil)) (pg_tup rfl (pgs_cons (pg_name (i := 1) scFolded.nd rfl (.inl rfl)) (pgs_cons (pg_name (i := 3) scFolded.nd rfl (.inl rfl)) pgs_nil)))
        (pss_one (ps_asg (pe_op op_mod (pe_intOf B (pe_op op_add (pe_op op_mul (pe_ix ix_list (pv 2) (pe_op op_mod (pe_intOf B (pv 1)) pe_int) (fun _ _ => rfl)) pe_int) (pv 3))) pe_int) (pg_sub (pv 2) (pe_op op_mod (pe_intOf B (pv 1)) pe_int) set_list))))
      (pss_cons (ps_for PassesOwn.never rfl (pi_range2 (by rfl) B.range (pa_cons pe_int (pa_cons pe_int pa_nil))) (pg_name (i := 1) scFolded.nd rfl (.inl rfl))
        (pss_one (ps_asg (pe_op op_mod (pe_intOf B (pe_op op_add (pe_ix ix_list (pv 2) (pv 1) (fun _ _ => rfl)) (pe_op op_mul (pe_ix ix_list (pv 2) (pe_op op_sub (pv 1) pe_int) (fun _ _ => rfl)) pe_int))) pe_int) (pg_sub (pv 2) (pv 1) set_list))))
      (pss_one (ps_ret (pv 2))))), ?_⟩
    refine ⟨64, rfl, by decide, by decide, fun D nD => ?_⟩
    refine lc_one (walk_range (lo := 0) (n := 64)) (fun i G => Own H G D i) ⟨up_new nD, [], upd_same, rfl⟩ (fun _ _ _ _ => True.intro) (fun i x G G' hi hP hy => ?_) (fun G hP => ?_)
    · obtain ⟨rfl, rfl⟩ := hy
      obtain ⟨sm, ys, eD, el⟩ := hP
      exact ⟨rfl, .int _, rfl, 17, _, rfl, rfl, _, eD, by rw [List.length_map]; exact small1000 (by omega), up_old sm nD, ys ++ [17 + (0 + (i : Int))], by rw [upd_same, List.map_append]; rfl, by rw [List.length_append, el]; rfl⟩
    · obtain ⟨sm0, ys0, eD0, el0⟩ := hP
      refine ⟨.ref a, rfl, a, _, rfl, sm0.seq hS, ?_⟩
      refine for_pair (walk_enum (K := K) (a := a) (xs := xs.map V.int)) (fun i σ H' => (∃ y1 y3, σ = [some (.ref a), y1, some (.ref D), y3]) ∧ Own H H' D 64) ⟨⟨none, none, rfl⟩, sm0, ys0, eD0, el0⟩ (fun _ _ _ _ h => h.2.1.seq hS)
        (fun i x y σ H2 T hi hP e1 e2 nT => ?_) (fun σ H2 hP => ?_)
      · obtain ⟨⟨y1, y3, rfl⟩, sm, ys, eD, el⟩ := hP
        have e1' : V.int (i : Nat) = x := Option.some.inj e1
        subst e1'
        obtain ⟨z, ez, rfl⟩ := map_get e2
        obtain ⟨j, v, hj, ej, gj, aj, ij⟩ := at_mod (n := ((i : Nat) : Int)) (k := 64) (ns := ys) (by omega) (by decide)
        have sT : Same H2 (upd H2 T (.tup [.int (i : Nat), .int z])) := up_new nT
        have eT := sT _ _ eD
        refine ⟨.ref D, rfl, .int (i : Nat), rfl, .inl ⟨(i : Nat), rfl, (i : Nat), 64, rfl, rfl, by show (0 : Int) < 64; decide, D, _, _, .int v, rfl, rfl, SqL.of eT, aj, v, 48271, rfl, rfl, .inr ⟨by decide, by decide⟩, .int z, rfl, _, z, rfl, rfl, .inl ⟨_, rfl, _, _, rfl, rfl, by show (0 : Int) < 2147483647; decide,
          .ref D, rfl, .int (i : Nat), rfl, .inl ⟨(i : Nat), rfl, (i : Nat), 64, rfl, rfl, by show (0 : Int) < 64; decide, D, _, _, j, rfl, rfl, eT, ij, ⟨_, _, rfl⟩, Own.put (sm.trans sT) el nD⟩⟩⟩⟩
      · obtain ⟨⟨y1, y3, rfl⟩, sm, ys, eD, el⟩ := hP
        refine ⟨1, 64, rfl, by decide, ?_⟩
        refine for_range (lo := 1) (n := 63) (fun i σ H' => (∃ y1 y3, σ = [some (.ref a), y1, some (.ref D), y3]) ∧ Own H H' D 64) ⟨⟨y1, y3, rfl⟩, sm, ys, eD, el⟩ (fun i σ H2 hi hP => ?_) (fun σ H2 hP => ?_)
        · obtain ⟨⟨y1, y3, rfl⟩, sm, ys, eD, el⟩ := hP
          obtain ⟨v, ev⟩ : ∃ v, ys[i + 1]? = some v := ⟨_, List.getElem?_eq_getElem (by omega)⟩
          obtain ⟨u, eu⟩ : ∃ u, ys[i]? = some u := ⟨_, List.getElem?_eq_getElem (by omega)⟩
          have n1 : (1 : Int) + (i : Nat) = ((i + 1 : Nat) : Int) := by omega
          have n2 : (1 : Int) + (i : Nat) - 1 = ((i : Nat) : Int) := by omega
          have a1 : atI (ys.map V.int) (1 + (i : Nat)) = some (.int v) := by
            rw [n1]
            exact atI_nat (by rw [List.getElem?_map, ev]; rfl)
          have a2 : atI (ys.map V.int) (1 + (i : Nat) - 1) = some (.int u) := by
            rw [n2]
            exact atI_nat (by rw [List.getElem?_map, eu]; rfl)
          have a3 : ixN (ys.map V.int).length (1 + (i : Nat)) = some (i + 1) := by
            rw [n1]
            exact ix_nat (by rw [List.length_map]; omega)
          exact ⟨.ref D, rfl, .int _, rfl, D, _, _, .int v, rfl, rfl, SqL.of eD, a1, .ref D, rfl, .int _, rfl, _, 1, rfl, rfl, D, _, _, .int u, rfl, rfl, SqL.of eD, a2, u, 16807, rfl, rfl, .inr ⟨by decide, by decide⟩, v, _, rfl, rfl, .inl ⟨_, rfl, _, _, rfl, rfl, by show (0 : Int) < 2147483647; decide,
            .ref D, rfl, .int _, rfl, D, _, _, i + 1, rfl, rfl, eD, a3, ⟨_, _, rfl⟩, Own.put sm el nD⟩⟩
        · obtain ⟨⟨y1, y3, rfl⟩, own⟩ := hP
          exact ⟨.ref D, rfl, q D H2 nD own⟩
theorem merge_m (c g : Addr) (n : Int) : mergeK [] (mdict c g n) = mdict c g n := by
  have e1 : putK ([] : List (Key × V)) (Sum.inr "cells") (.ref c) = ([(Sum.inr "cells", V.ref c)] : List (Key × V)) := putK_new _ valV_nil
  have e2 : putK ([(Sum.inr "cells", .ref c)] : List (Key × V)) (Sum.inr "great") (.ref g) = ([(Sum.inr "cells", V.ref c), (Sum.inr "great", V.ref g)] : List (Key × V)) := putK_new _ (by rw [valV_neg (inr_ne nCG), valV_nil])
  have e3 : putK ([(Sum.inr "cells", .ref c), (Sum.inr "great", .ref g)] : List (Key × V)) (Sum.inr "spot") (.int n) = mdict c g n := putK_new _ (by rw [valV_neg (inr_ne nCS), valV_neg (inr_ne nGS), valV_nil])
  show putK (putK (putK ([] : List (Key × V)) (Sum.inr "cells") (.ref c)) (Sum.inr "great") (.ref g)) (Sum.inr "spot") (.int n) = mdict c g n
  rw [e1, e2, e3]
theorem scBegun : FnScope ["_law_script", "_law_m", "_law_cell"] ["_law_script"] (defScope sBegun) := ⟨rfl, rfl, rfl, by decide +kernel, rfl, by decide +kernel, by decide +kernel⟩
theorem ok_begun {f : Addr} {fd : FuncData} (F : Fun K "_law_begun" "_law_begun" sBegun f fd) (DF : Dfn P w K mg base 1 "_law_folded" ["_law_script"] (spFolded K)) : FnOk P w K mg base CX0 2 f fd ["_law_script"] (spBegun K) := by
  refine F.ok scBegun (fun vs H Q E h => ?_) (fun cdv A outer s H vs Q E hr h => ?_)
  · obtain ⟨a, xs, rfl, _⟩ := h
    rfl
  · obtain ⟨a, xs, rfl, hS, hl, q⟩ := h
    have hu := hu_of hr
    refine ⟨_, pss_cons (ps_set (i := 1) scBegun.nd rfl (Or.inl rfl) (pe_disp (pps_cons pe_str (pe_fn DF hr (pa_cons (pv 0) pa_nil)) (pps_cons pe_str (pe_lst pa_nil) (pps_cons pe_str pe_int pps_nil))) (by rfl) (by rfl) (fun z => by cases z) (by decide)))
      (pss_cons (ps_dput hu (pv 1) pe_str (pe_lc (own := [("_law_cell", 2)]) (g := gName 2) (tt := tYes) rfl scBegun.nd (pi_list (pv 0)) (blkOk_by (own := [("_law_cell", 2)]) (N := ["_law_script", "_law_m", "_law_cell"]) (sc := defScope sBegun) (by decide +kernel))
        (fun _ _ _ _ _ => pg_name (i := 2) scBegun.nd rfl (Or.inl rfl)) (fun _ _ _ _ _ => pts_nil) (fun _ _ _ _ _ => pe_ifExp (pt_cmpR op_ge (pv 2) (pe_op op_pow pe_int pe_int) (nomark _)) (pv 2) pe_int)) rfl)
      (pss_one (ps_ret (pv 1)))), ?_⟩
    refine fun d nd => ?_
    have s1 : Same H (upd H d (.dK [])) := up_new nd
    refine ⟨.ref a, rfl, a, xs, rfl, s1.seq hS, hl, fun D H1 nD own1 => ?_⟩
    obtain ⟨s2, cs, eD, el⟩ := own1
    refine ⟨Nat.zero_le _, fun g0 ng0 => ?_⟩
    have s3 : Same H1 (upd H1 g0 (.lst [])) := up_new ng0
    have ed : upd H1 g0 (.lst []) d = some (.dK []) := s3 _ _ (s2 _ _ upd_same)
    have dD : d ≠ D := ne_of_none (show upd H d (.dK []) d = some (.dK []) from upd_same) nD
    have eD3 := s3 _ _ eD
    refine ⟨ed, mdict D g0 0, rfl, by show 3 ≤ 15; decide, ?_⟩
    rw [merge_m]
    have sH : Same H (upd (upd H1 g0 (.lst [])) d (.dK (mdict D g0 0))) := up_old ((s1.trans s2).trans s3) nd
    have eD4 : upd (upd H1 g0 (.lst [])) d (.dK (mdict D g0 0)) D = some (.lst (cs.map V.int)) := by rw [upd_ne dD.symm]; exact eD3
    have ed4 : upd (upd H1 g0 (.lst [])) d (.dK (mdict D g0 0)) d = some (.dK (mdict D g0 0)) := upd_same
    generalize eH : upd (upd H1 g0 (.lst [])) d (.dK (mdict D g0 0)) = H4 at *
    refine ⟨.ref a, rfl, a, rfl, ⟨_, sH.seq hS⟩, fun G nG => ?_⟩
    refine lc_one (walk_list (K := K) (a := a) (xs := xs.map V.int)) (fun i G' => Own H4 G' G i) ⟨up_new nG, [], upd_same, rfl⟩ (fun _ _ _ h => (sH.trans h.1).seq hS) (fun i x G' G2 hi hP hy => ?_) (fun G' hP => ?_)
    · obtain ⟨rfl, hx⟩ := hy
      obtain ⟨sm, ys, eG, eL⟩ := hP
      obtain ⟨z, ez, rfl⟩ := map_get hx
      have hi2 : i < xs.length := (List.getElem?_eq_some_iff.mp ez).1
      have fin : ∀ u : Int, ∃ acc, G2 G = some (.lst acc) ∧ acc.length < sizeLine ∧ Own H4 (upd G2 G (.lst (acc ++ [.int u]))) G (i + 1) := fun u =>
        ⟨_, eG, by rw [List.length_map]; exact small1000 (by omega), up_old sm nG, ys ++ [u], by rw [upd_same, List.map_append]; rfl, by rw [List.length_append, eL]; rfl⟩
      refine ⟨rfl, .int z, rfl, 10, 18, rfl, rfl, ⟨by decide, by decide, by decide⟩, _, _, rfl, rfl, _, rfl, ?_⟩
      refine ite2 (fun _ => ⟨.int z, rfl, fin z⟩) (fun _ => fin 0)
    · obtain ⟨sm, ys, eG, eL⟩ := hP
      refine ⟨.ref d, rfl, d, _, rfl, mput_great (sm _ _ ed4), .ref d, rfl, ?_⟩
      have dG : G ≠ d := (ne_of_none ed4 nG).symm
      have DG : D ≠ G := ne_of_none eD4 nG
      exact q d D G _ ⟨⟨0, by decide, by decide, upd_same⟩, ⟨cs, el, by rw [upd_ne dD.symm]; exact sm _ _ eD4⟩, ⟨ys, by rw [upd_ne dG]; exact eG⟩, DG⟩
end
end KP

set_option Elab.async false
set_option linter.all false
set_option maxRecDepth 100000
set_option maxHeartbeats 4000000
/-! # What the law draws: names, scales, shares, tables -/
namespace KP
open PySem PySem.Spec PyProof.Rows L2 KR KM

/-! ### to weaken the end -/
def tPostE (t : TE) : TE := fun σ H Q => ∃ N : VK, t σ H N ∧ ∀ v H', N v H' → Q v H'
def tPost (t : TS) : TS := fun D σ H => ∃ N : L2.St → Hp → Prop, t { nx := N, rt := fun _ _ => False } σ H ∧ ∀ σ' H', N σ' H' → D.nx σ' H'
section
variable {X : Cx}
theorem pe_post {e : Expr} {t : TE} (h : PE X e t) : PE X e (tPostE t) := ⟨fun pins s σ H Q I ⟨N, hN, k⟩ => thn (h.run pins s σ H N I hN) fun v s1 ⟨x, H1, I1, r1, q⟩ => ⟨x, H1, I1, r1, k _ _ q⟩⟩
theorem ps_post {st : Stmt} {t : TS} (h : PS X st t) : PS X st (tPost t) := ⟨fun pins s σ H D I ⟨N, hN, k⟩ => thn (h.run pins s σ H { nx := N, rt := fun _ _ => False } I hN) fun f s1 q => by
  cases f with
  | next => obtain ⟨a, b, c, n⟩ := q; exact ⟨a, b, c, k _ _ n⟩
  | brk => obtain ⟨_, _, _, n⟩ := q; exact n.elim
  | cont => obtain ⟨_, _, _, n⟩ := q; exact n.elim
  | ret u => obtain ⟨_, _, _, _, _, n⟩ := q; exact n.elim⟩
end
/-! ### names -/
theorem atI_two {x y : V} {i : Int} (h0 : 0 ≤ i) (h1 : i < 2) : (i = 0 ∧ atI [x, y] i = some x) ∨ (i = 1 ∧ atI [x, y] i = some y) := by
  have h : i = 0 ∨ i = 1 := by omega
  rcases h with rfl | rfl
  · exact .inl ⟨rfl, rfl⟩
  · exact .inr ⟨rfl, rfl⟩
def abS : Str := "ab"
def azS : Str := "abcdefghijklmnopqrstuvwxyz"
structure Lets (z : Str) : Prop where
  pos : 1 ≤ z.length
  le : z.length ≤ 26
  az : ∀ c ∈ z.cps.toList, 97 ≤ c ∧ c ≤ 122
theorem lets_ab : Lets "ab" := ⟨by decide, by decide, by decide⟩
theorem lets_az : Lets "abcdefghijklmnopqrstuvwxyz" := ⟨by decide, by decide, by decide⟩
theorem at_str {z : Str} {i : Int} (h0 : 0 ≤ i) (h1 : i < z.length) : ∃ c, atI z.cps.toList i = some c ∧ c ∈ z.cps.toList := by
  obtain ⟨j, rfl⟩ := Int.eq_ofNat_of_zero_le h0
  have hj : j < z.cps.toList.length := by rw [codes_len]; omega
  exact ⟨z.cps.toList[j], atI_nat (List.getElem?_eq_getElem hj), List.getElem_mem hj⟩
theorem str_snoc (z : Str) (c : Nat) : (z ++ (⟨#[c]⟩ : Str)).cps.toList = z.cps.toList ++ [c] := codes_app _ _
theorem len_snoc (z : Str) (c : Nat) : (z ++ (⟨#[c]⟩ : Str)).length = z.length + 1 := by
  rw [← codes_len, str_snoc, List.length_append, codes_len]
  rfl
theorem emp_codes : ("" : Str).cps.toList = [] := by decide +kernel
theorem z_cz : ("z" : Str) = cz := by decide +kernel
def spNames : Sp := fun vs H Q _ => ∃ (d c g : Addr) (many : Int) (B : Int), vs = [.ref d, .int many] ∧ MAt d c g H B ∧ 0 ≤ B ∧ B ≤ 10000 ∧ 1 ≤ many ∧ many ≤ 6 ∧
  ∀ (l : Addr) (ns : List Str) (H' : Hp), H l = none → (ns.length : Int) = many → ns.Nodup → (∀ z ∈ ns, Gen z) → H' l = some (.lst (ns.map V.str)) → MAt d c g H' (B + 100) → Same (Rest d g H) (Rest d g H') → Q (.ref l) H'
section
variable {P : Program} {w : World} {K : PySem.W.Frag} {mg : Str → Option Value} {base : Heap}
theorem scNames : FnScope ["_law_m", "_law_many", "_law_found", "_law_n", "_law_letters", "_law_word", "_law_again"] ["_law_m", "_law_many"] (defScope sNames) := ⟨rfl, rfl, rfl, by decide +kernel, rfl, by decide +kernel, by decide +kernel⟩
theorem ok_names {f : Addr} {fd : FuncData} (F : Fun K "_law_names" "_law_names" sNames f fd) (B : Blt mg) (DD : Dfn P w K mg base 2 "_law_draw" ["_law_m", "_law_limit"] spDraw) : FnOk P w K mg base CX0 3 f fd ["_law_m", "_law_many"] spNames := by
  refine F.ok scNames (fun vs H Q E h => ?_) (fun cdv A outer s H vs Q E hr h => ?_)
  · obtain ⟨d, c, g, lim, b, rfl, _⟩ := h
    rfl
  · obtain ⟨d, c, g, many, b, rfl, m, b0, b1, k1, k6, q⟩ := h
    refine ⟨_, pss_cons (ps_set (i := 2) scNames.nd rfl (Or.inl rfl) (pe_lst pa_nil))
      (pss_cons (ps_for PassesOwn.never rfl (pi_range1 (by rfl) B.range (pa_cons (pv 1) pa_nil)) (pg_name (i := 3) scNames.nd rfl (.inl rfl))
        (pss_cons (ps_set (i := 4) scNames.nd rfl (Or.inl rfl) (pe_ix ix_list (pe_lst (pa_cons pe_str (pa_cons pe_str pa_nil))) (pe_fn DD hr (pa_cons (pv 0) (pa_cons pe_int pa_nil))) (fun _ _ => rfl)))
        (pss_cons (ps_set (i := 5) scNames.nd rfl (Or.inl rfl) pe_str)
        (pss_cons (ps_for PassesOwn.never rfl (pi_range1 (by rfl) B.range (pa_cons (pe_op op_add pe_int (pe_fn DD hr (pa_cons (pv 0) (pa_cons pe_int pa_nil)))) pa_nil)) (pg_name (i := 6) scNames.nd rfl (.inl rfl))
          (pss_one (ps_set (i := 5) scNames.nd rfl (Or.inl rfl) (pe_op op_add_str (pv 5) (pe_ix ix_str (pv 4) (pe_fn DD hr (pa_cons (pv 0) (pa_cons (pe_callB call_len_str (by rfl) B.len PySem.boot_len (pa_cons (pv 4) pa_nil)) pa_nil))) (fun _ _ => rfl))))))
        (pss_cons (ps_for PassesOwn.never rfl (pi_range1 (by rfl) B.range (pa_cons pe_int pa_nil)) (pg_name (i := 6) scNames.nd rfl (.inl rfl))
          (pss_one (ps_if (pt_cmpR op_in_seq (pv 5) (pv 2) (by rfl)) (pss_one (ps_set (i := 5) scNames.nd rfl (Or.inl rfl) (pe_op op_add_str (pv 5) pe_str))) pss_nil)))
        (pss_one (ps_expr (pe_bm PySem.F.plainAttrs_list PySem.F.slot_list_append PySem.F.type_list_append mt_append (pv 2) (pa_cons (pv 5) pa_nil)))))))))
      (pss_one (ps_ret (pv 2)))), ?_⟩
    refine ⟨Nat.zero_le _, fun l nl => ?_⟩
    have ld := m.nd nl
    have lg := m.ng nl
    have mL : MAt d c g (upd H l (.lst [])) b := m.new nl
    have sL : Same (Rest d g H) (Rest d g (upd H l (.lst []))) := rest_same (up_new nl)
    refine ⟨.int many, rfl, many, rfl, by omega, by omega, ?_⟩
    refine for_range (lo := 0) (n := many.toNat) (fun i σ G => (∃ y3 y4 y5 y6, σ = [some (.ref d), some (.int many), some (.ref l), y3, y4, y5, y6]) ∧ MAt d c g G (b + 7 * (i : Int)) ∧ Same (Rest d g H) (Rest d g G) ∧ ∃ ns : List Str, ns.length = i ∧ ns.Nodup ∧ (∀ z ∈ ns, Gen z) ∧ G l = some (.lst (ns.map V.str)))
      ⟨⟨none, none, none, none, rfl⟩, mL.le (by omega), sL, [], rfl, List.nodup_nil, fun z hz => absurd hz List.not_mem_nil, upd_same⟩ (fun i σ G hi hP => ?_) (fun σ G hP => ?_)
    · obtain ⟨⟨y3, y4, y5, y6, rfl⟩, mG, sG, ns, nl1, nd, gen, eL⟩ := hP
      -- the letters
      refine ⟨by show 2 ≤ sizeLine; decide, fun t nt => ?_⟩
      have td := mG.nd nt
      have tg := mG.ng nt
      refine ⟨.ref d, rfl, d, c, g, 2, b + 7 * (i : Int), rfl, mG.new nt, by omega, by omega, by decide, by decide, fun v G2 v0 v1 m2 s2 => ?_⟩
      have sG2 : Same (Rest d g H) (Rest d g G2) := (sG.trans (rest_same (up_new nt))).trans s2
      have et := rest_at s2 td tg upd_same
      have eL2 : G2 l = some (.lst (ns.map V.str)) := rest_at s2 ld lg (by rw [upd_ne (ne_of_none eL nt)]; exact eL)
      obtain ⟨z, az, lets⟩ : ∃ z : Str, atI [V.str "ab", V.str "abcdefghijklmnopqrstuvwxyz"] v = some (.str z) ∧ Lets z := by
        rcases atI_two (x := V.str "ab") (y := V.str "abcdefghijklmnopqrstuvwxyz") v0 v1 with ⟨_, e⟩ | ⟨_, e⟩
        · exact ⟨_, e, lets_ab⟩
        · exact ⟨_, e, lets_az⟩
      refine ⟨t, _, v, .str z, rfl, rfl, SqL.of et, az, ?_⟩
      have z1 := lets.pos
      have z2 := lets.le
      -- the letters one by one
      refine ⟨.ref d, rfl, d, c, g, 5, b + 7 * (i : Int) + 1, rfl, m2, by omega, by omega, by decide, by decide, fun u G3 u0 u1 m3 s3 => ?_⟩
      have sG3 := sG2.trans s3
      have eL3 := rest_at s3 ld lg eL2
      refine ⟨1, u, rfl, rfl, 1 + u, rfl, by omega, by omega, ?_⟩
      refine for_range (lo := 0) (n := (1 + u).toNat) (fun j σ G => (∃ wd y6, σ = [some (.ref d), some (.int many), some (.ref l), some (.int (0 + (i : Nat))), some (.str z), some (.str wd), y6] ∧ wd.length = j ∧ ∀ ch ∈ wd.cps.toList, 97 ≤ ch ∧ ch ≤ 122) ∧ MAt d c g G (b + 7 * (i : Int) + 2 + (j : Int)) ∧ Same (Rest d g H) (Rest d g G) ∧ G l = some (.lst (ns.map V.str)))
        ⟨⟨"", y6, rfl, rfl, fun ch hc => by rw [emp_codes] at hc; exact absurd hc List.not_mem_nil⟩, m3.le (by omega), sG3, eL3⟩ (fun j σ G4 hj hP => ?_) (fun σ G4 hP => ?_)
      · obtain ⟨⟨wd, y6, rfl, wl, wa⟩, m4, s4, e4⟩ := hP
        refine ⟨.str wd, rfl, .str z, rfl, .ref d, rfl, .str z, rfl, z, rfl, line12 (by omega), d, c, g, (z.length : Int), b + 7 * (i : Int) + 2 + (j : Int), rfl, m4, by omega, by omega, by omega, by omega, fun x G5 x0 x1 m5 s5 => ?_⟩
        obtain ⟨ch, ea, hm⟩ := at_str x0 x1
        have hz := lets.az ch hm
        refine ⟨z, x, ch, rfl, rfl, line12 (by omega), ea, wd, ⟨#[ch]⟩, rfl, rfl, line12 (by show wd.length + 1 ≤ 1000; omega), ?_⟩
        refine ⟨⟨wd ++ ⟨#[ch]⟩, _, rfl, by rw [len_snoc, wl], fun ch' hc' => ?_⟩, m5.le (by omega), s4.trans s5, rest_at s5 ld lg e4⟩
        rw [str_snoc] at hc'
        rcases List.mem_append.mp hc' with h | h
        · exact wa ch' h
        · rw [List.mem_singleton.mp h]
          exact hz
      · obtain ⟨⟨wd, y6, rfl, wl, wa⟩, m4, s4, e4⟩ := hP
        -- the eight turns
        refine ⟨8, rfl, by decide, by decide, ?_⟩
        refine for_range (lo := 0) (n := 8) (fun j σ G => (∃ k y6, σ = [some (.ref d), some (.int many), some (.ref l), some (.int (0 + (i : Nat))), some (.str z), some (.str (zs wd k)), y6] ∧ ZTurn wd ns j k) ∧ G = G4)
          ⟨⟨0, y6, rfl, ZTurn.start wd ns⟩, rfl⟩ (fun j σ G5 hj hP => ?_) (fun σ G5 hP => ?_)
        · obtain ⟨⟨k, y6, rfl, zt⟩, rfl⟩ := hP
          have kl := zt.le
          refine ⟨.str (zs wd k), rfl, .ref l, rfl, l, _, rfl, .inl (SqL.of e4), rfl, str_all _, _, rfl, ?_⟩
          by_cases hk : zs wd k ∈ ns
          · refine ifT ?_ ?_
            · show inV (.str (zs wd k)) _ = true
              rw [inV_strs, decide_eq_true hk]
            · refine ⟨.str (zs wd k), rfl, zs wd k, "z", rfl, rfl, line12 (by rw [zs_len]; show wd.length + k + 1 ≤ 1000; omega), ⟨k + 1, some (.int (0 + (j : Nat))), by rw [z_cz]; rfl, zt.yes hk⟩, rfl⟩
          · refine ifF ?_ ?_
            · show inV (.str (zs wd k)) _ = false
              rw [inV_strs, decide_eq_false hk]
            · exact ⟨⟨k, _, rfl, zt.no hk⟩, rfl⟩
        · obtain ⟨⟨k, y6, rfl, zt⟩, rfl⟩ := hP
          obtain ⟨k5, kn⟩ := zt.done (by omega)
          refine ⟨.ref l, rfl, .inl ⟨rfl, _, SqL.of e4⟩, .str (zs wd k), rfl, l, _, _, rfl, rfl, e4, by rw [List.length_map]; exact small1000 (by omega), ?_⟩
          refine ⟨⟨_, _, _, _, rfl⟩, (m4.put (m.le (by omega)) nl).le (by omega), rest_up s4 (rest_none nl), ns ++ [zs wd k], by rw [List.length_append, nl1]; rfl, names_snoc nd kn, fun z' hz' => ?_, by rw [upd_same, List.map_append]; rfl⟩
          rcases List.mem_append.mp hz' with h | h
          · exact gen z' h
          · rw [List.mem_singleton.mp h]
            exact gen_zs (by omega) (by omega) wa k5
    · obtain ⟨⟨y3, y4, y5, y6, rfl⟩, mG, sG, ns, nl1, nd, gen, eL⟩ := hP
      exact ⟨.ref l, rfl, q l ns G nl (by omega) nd gen eL (mG.le (by omega)) sG⟩
theorem scScale : FnScope ["_law_m", "_law_kind"] ["_law_m"] (defScope sScale) := ⟨rfl, rfl, rfl, by decide +kernel, rfl, by decide +kernel, by decide +kernel⟩
def spScale : Sp := fun vs H Q _ => ∃ (d c g : Addr) (B : Int), vs = [.ref d] ∧ MAt d c g H B ∧ 0 ≤ B ∧ B ≤ 10000 ∧
  ∀ (v : Int) (H' : Hp), 1 ≤ v → v ≤ 1000000000000 → MAt d c g H' (B + 3) → Same (Rest d g H) (Rest d g H') → Q (.int v) H'
theorem ok_scale {f : Addr} {fd : FuncData} (F : Fun K "_law_scale" "_law_scale" sScale f fd) (DD : Dfn P w K mg base 2 "_law_draw" ["_law_m", "_law_limit"] spDraw) (DB : Dfn P w K mg base 3 "_law_big" ["_law_m", "_law_limit"] spBig) : FnOk P w K mg base CX0 4 f fd ["_law_m"] spScale := by
  refine F.ok scScale (fun vs H Q E h => ?_) (fun cdv A outer s H vs Q E hr h => ?_)
  · obtain ⟨d, c, g, b, rfl, _⟩ := h
    rfl
  · obtain ⟨d, c, g, b, rfl, m, b0, b1, q⟩ := h
    refine ⟨_, pss_cons (ps_set (i := 1) scScale.nd rfl (Or.inl rfl) (pe_fn DD hr (pa_cons (pv 0) (pa_cons pe_int pa_nil))))
      (pss_cons (ps_if (pt_cmpR op_eq (pv 1) pe_int (nomark _)) (pss_one (ps_ret (pe_op op_add pe_int (pe_fn DB hr (pa_cons (pv 0) (pa_cons (pe_op op_pow pe_int pe_int) pa_nil)))))) pss_nil)
      (pss_one (ps_ret (pe_op op_add pe_int (pe_fn DD hr (pa_cons (pv 0) (pa_cons (pe_ix ix_list (pe_lst (pa_cons pe_int (pa_cons pe_int (pa_cons pe_int pa_nil)))) (pv 1) (fun _ _ => rfl)) pa_nil))))))), ?_⟩
    refine ⟨.ref d, rfl, d, c, g, 4, b, rfl, m, b0, by omega, by decide, by decide, fun v G v0 v4 mG sG => ?_⟩
    refine ⟨.int v, rfl, rfl, _, rfl, ?_⟩
    rw [dec_int]
    by_cases h3 : v = 3
    · refine ifT (by simpa using h3) ?_
      refine ⟨.ref d, rfl, 10, 12, rfl, rfl, ⟨by decide, by decide, by decide⟩, d, c, g, 10 ^ 12, b + 1, rfl, mG, by omega, by omega, by decide, fun u G2 u0 u1 m2 s2 => ?_⟩
      exact ⟨1, u, rfl, rfl, q _ G2 (by omega) (by have : (10 : Int) ^ 12 = 1000000000000 := by decide
                                                   omega) (m2.le (by omega)) (sG.trans s2)⟩
    · refine ifF (by simpa using h3) ?_
      refine ⟨.ref d, rfl, by show 3 ≤ sizeLine; decide, fun t nt => ?_⟩
      obtain ⟨k, k1, k2, ek⟩ : ∃ k : Int, 1 ≤ k ∧ k ≤ 1000 ∧ atI [V.int 6, V.int 30, V.int 1000] v = some (.int k) := by
        have h : v = 0 ∨ v = 1 ∨ v = 2 := by omega
        rcases h with rfl | rfl | rfl
        · exact ⟨6, by decide, by decide, rfl⟩
        · exact ⟨30, by decide, by decide, rfl⟩
        · exact ⟨1000, by decide, by decide, rfl⟩
      refine ⟨.int v, rfl, t, _, v, .int k, rfl, rfl, SqL.of upd_same, ek, d, c, g, k, b + 1, rfl, mG.new nt, by omega, by omega, by omega, by omega, fun u G2 u0 u1 m2 s2 => ?_⟩
      exact ⟨1, u, rfl, rfl, q _ G2 (by omega) (by omega) (m2.le (by omega)) ((sG.trans (rest_same (up_new nt))).trans s2)⟩
end
end KP

set_option Elab.async false
set_option linter.all false
set_option maxRecDepth 100000
set_option maxHeartbeats 4000000
/-! # What the law draws: the shares of a round, the rounds of a table -/
namespace KP
open PySem PySem.Spec PyProof.Rows L2 KR KM

def spShares : Sp := fun vs H Q _ => ∃ (d c g : Addr) (k : Nat) (top : Int) (B : Int), vs = [.ref d, .int ((k : Int) + 1), .int top] ∧ MAt d c g H B ∧ 0 ≤ B ∧ B ≤ 10000 ∧ k ≤ 5 ∧ 0 ≤ top ∧ top ≤ 1000000000000 ∧
  ∀ (l : Addr) (r : Rnd) (H' : Hp), H l = none → RowOk (k + 1) top r → H' l = some (.lst (r.map V.int)) → MAt d c g H' (B + 20) → Same (Rest d g H) (Rest d g H') → Q (.ref l) H'
theorem rep_ints (k : Nat) (x : Int) : (List.replicate k [V.int x]).flatten = (List.replicate k x).map V.int := by
  rw [List.flatten_replicate_singleton, List.map_replicate]
theorem mod_at {f : Rnd} {k b i : Nat} {v z : Int} (hl : f.length = k + 1) (hv : v = (b : Int)) (hz : z = ((b + i : Nat) : Int)) : ixN (f.map V.int).length (z % ((k : Int) + 1)) = some ((b + i) % (k + 1)) := by
  have e : z % ((k : Int) + 1) = (((b + i) % (k + 1) : Nat) : Int) := by
    rw [hz, Int.natCast_emod]
    rfl
  rw [e]
  exact ix_nat (by rw [List.length_map, hl]; exact Nat.mod_lt _ (by omega))
section
variable {P : Program} {w : World} {K : PySem.W.Frag} {mg : Str → Option Value} {base : Heap}
theorem scShares : FnScope ["_law_m", "_law_many", "_law_top", "_law_found", "_law_left", "_law_begin", "_law_n", "_law_kind", "_law_part"] ["_law_m", "_law_many", "_law_top"] (defScope sShares) := ⟨rfl, rfl, rfl, by decide +kernel, rfl, by decide +kernel, by decide +kernel⟩
theorem ok_shares {f : Addr} {fd : FuncData} (F : Fun K "_law_shares" "_law_shares" sShares f fd) (B : Blt mg) (DD : Dfn P w K mg base 2 "_law_draw" ["_law_m", "_law_limit"] spDraw) (DB : Dfn P w K mg base 3 "_law_big" ["_law_m", "_law_limit"] spBig) : FnOk P w K mg base CX0 4 f fd ["_law_m", "_law_many", "_law_top"] spShares := by
  refine F.ok scShares (fun vs H Q E h => ?_) (fun cdv A outer s H vs Q E hr h => ?_)
  · obtain ⟨d, c, g, k, top, b, rfl, _⟩ := h
    rfl
  · obtain ⟨d, c, g, k, top, b, rfl, m, b0, b1, k5, t0, t1, q⟩ := h
    refine ⟨_, pss_cons (ps_par (i := 3) (j := 4) rfl scShares.nd rfl rfl (by decide) rfl rfl (pa_cons (pe_op op_rep (pe_lst (pa_cons pe_int pa_nil)) (pv 1)) (pa_cons (pv 2) pa_nil)) (by rfl))
      (pss_cons (ps_set (i := 5) scShares.nd rfl (Or.inl rfl) (pe_fn DD hr (pa_cons (pv 0) (pa_cons (pv 1) pa_nil))))
      (pss_cons (ps_for PassesOwn.never rfl (pi_range1 (by rfl) B.range (pa_cons (pe_op op_sub (pv 1) pe_int) pa_nil)) (pg_name (i := 6) scShares.nd rfl (.inl rfl))
        (pss_cons (ps_par (i := 7) (j := 8) rfl scShares.nd rfl rfl (by decide) rfl rfl (pa_cons (pe_fn DD hr (pa_cons (pv 0) (pa_cons pe_int pa_nil))) (pa_cons (pe_fn DB hr (pa_cons (pv 0) (pa_cons (pe_op op_add (pv 4) pe_int) pa_nil))) pa_nil)) (by rfl))
        (pss_cons (ps_post (ps_if (pt_cmpR op_eq (pv 7) pe_int (nomark _)) (pss_one (ps_set (i := 8) scShares.nd rfl (Or.inl rfl) pe_int)) pss_nil))
        (pss_cons (ps_post (ps_if (pt_cmpR op_eq (pv 7) pe_int (nomark _)) (pss_one (ps_set (i := 8) scShares.nd rfl (Or.inl rfl) (pe_op op_fdivW (pv 4) (pe_op op_sub (pv 1) (pv 6))))) pss_nil))
        (pss_cons (ps_post (ps_if (pt_cmpR op_eq (pv 7) pe_int (nomark _)) (pss_one (ps_set (i := 8) scShares.nd rfl (Or.inl rfl) (pv 4))) pss_nil))
        (pss_cons (ps_asg (pv 8) (pg_sub (pv 3) (pe_op op_mod (pe_intOf B (pe_op op_add (pv 5) (pv 6))) (pv 1)) set_list))
        (pss_one (ps_set (i := 4) scShares.nd rfl (Or.inl rfl) (pe_op op_sub (pv 4) (pv 8))))))))))
      (pss_cons (ps_asg (pv 4) (pg_sub (pv 3) (pe_op op_mod (pe_intOf B (pe_op op_sub (pe_op op_add (pv 5) (pv 1)) pe_int)) (pv 1)) set_list))
      (pss_one (ps_ret (pv 3)))))), ?_⟩
    refine ⟨by show 1 ≤ sizeLine; decide, fun t nt => ⟨.int ((k : Int) + 1), rfl, t, (k : Int) + 1, _, rfl, rfl, upd_same, by omega, by omega, line12 (by show 1 * _ ≤ 1000; omega), fun l nl => ?_⟩⟩
    have n1 : ((k : Int) + 1).toNat = k + 1 := by omega
    rw [rep_ints, n1]
    have s1 : Same H (upd H t (.lst [.int 0])) := up_new nt
    have nl0 : H l = none := s1.free nl
    have ld := m.nd nl0
    have lg := m.ng nl0
    have mL : MAt d c g (upd (upd H t (.lst [.int 0])) l (.lst ((List.replicate (k + 1) 0).map V.int))) b := (m.new nt).new nl
    have sL : Same (Rest d g H) (Rest d g (upd (upd H t (.lst [.int 0])) l (.lst ((List.replicate (k + 1) 0).map V.int)))) := rest_same (s1.trans (up_new nl))
    have eL : upd (upd H t (.lst [.int 0])) l (.lst ((List.replicate (k + 1) 0).map V.int)) l = some (.lst ((List.replicate (k + 1) 0).map V.int)) := upd_same
    generalize upd (upd H t (.lst [.int 0])) l (.lst ((List.replicate (k + 1) 0).map V.int)) = HL at mL sL eL ⊢
    refine ⟨.int top, rfl, _, _, rfl, ?_⟩
    refine ⟨.ref d, rfl, .int ((k : Int) + 1), rfl, d, c, g, (k : Int) + 1, b, rfl, mL, b0, by omega, by omega, by omega, fun v G1 v0 v1 m1 s1 => ?_⟩
    obtain ⟨bg, rfl⟩ := Int.eq_ofNat_of_zero_le v0
    have e1 := rest_at s1 ld lg eL
    refine ⟨.int ((k : Int) + 1), rfl, _, 1, rfl, rfl, (k : Int) + 1 - 1, rfl, by omega, by omega, ?_⟩
    refine for_range (lo := 0) (n := ((k : Int) + 1 - 1).toNat) (fun i σ G => (∃ y6 y7 y8 left f, σ = [some (.ref d), some (.int ((k : Int) + 1)), some (.int top), some (.ref l), some (.int left), some (.int (bg : Int)), y6, y7, y8] ∧ Part (k + 1) bg top i f left ∧ left ≤ top ∧ G l = some (.lst (f.map V.int))) ∧ MAt d c g G (b + 1 + 3 * (i : Int)) ∧ Same (Rest d g H) (Rest d g G))
      ⟨⟨none, none, none, top, _, rfl, Part.start t0, Int.le_refl _, e1⟩, m1.le (by omega), sL.trans s1⟩ (fun i σ G hi hP => ?_) (fun σ G hP => ?_)
    · obtain ⟨⟨y6, y7, y8, left, fr, rfl, pt, lt, eG⟩, mG, sG⟩ := hP
      have l0 := pt.nn
      refine ⟨.ref d, rfl, d, c, g, 5, b + 1 + 3 * (i : Int), rfl, mG, by omega, by omega, by decide, by decide, fun kd G2 kd0 kd1 m2 s2 => ?_⟩
      refine ⟨.ref d, rfl, .int left, rfl, left, 1, rfl, rfl, d, c, g, left + 1, b + 1 + 3 * (i : Int) + 1, rfl, m2, by omega, by omega, by omega, fun p0 G3 p00 p01 m3 s3 => ?_⟩
      have e3 := rest_at s3 ld lg (rest_at s2 ld lg eG)
      have s13 := (sG.trans s2).trans s3
      refine ⟨_, _, rfl, ?_⟩
      -- the three ifs
      have look : ∀ p : Int, [some (V.ref d), some (.int ((k : Int) + 1)), some (.int top), some (.ref l), some (.int left), some (.int (bg : Int)), some (.int (0 + (i : Nat))), some (.int kd), some (.int p)][7]? = some (some (.int kd)) := fun _ => rfl
      refine ⟨fun σ' H' => ∃ p : Int, (0 ≤ p ∧ p ≤ left) ∧ σ' = [some (.ref d), some (.int ((k : Int) + 1)), some (.int top), some (.ref l), some (.int left), some (.int (bg : Int)), some (.int (0 + (i : Nat))), some (.int kd), some (.int p)] ∧ G3 = H',
        ⟨.int kd, rfl, rfl, _, rfl, ite2 (fun _ => ⟨0, ⟨by omega, by omega⟩, rfl, rfl⟩) (fun _ => ⟨p0, ⟨by omega, by omega⟩, rfl, rfl⟩)⟩, fun σ' H' hN => ?_⟩
      obtain ⟨p1, ⟨p10, p11⟩, rfl, rfl⟩ := hN
      have dv0 : 0 ≤ left / ((k : Int) + 1 - (0 + (i : Nat))) := Int.ediv_nonneg (by omega) (by omega)
      have dv1 : left / ((k : Int) + 1 - (0 + (i : Nat))) ≤ left := Int.ediv_le_self _ (by omega)
      refine ⟨fun σ' H' => ∃ p : Int, (0 ≤ p ∧ p ≤ left) ∧ σ' = [some (.ref d), some (.int ((k : Int) + 1)), some (.int top), some (.ref l), some (.int left), some (.int (bg : Int)), some (.int (0 + (i : Nat))), some (.int kd), some (.int p)] ∧ G3 = H',
        ⟨.int kd, rfl, rfl, _, rfl, ite2 (fun _ => ⟨.int left, rfl, .int _, rfl, .int _, rfl, _, _, rfl, rfl, left, _, rfl, rfl, wide_div (b := 64) (by omega) (by omega) (by decide) (by decide), _, ⟨dv0, dv1⟩, rfl, rfl⟩) (fun _ => ⟨p1, ⟨by omega, by omega⟩, rfl, rfl⟩)⟩, fun σ' H' hN => ?_⟩
      obtain ⟨p2, ⟨p20, p21⟩, rfl, rfl⟩ := hN
      refine ⟨fun σ' H' => ∃ p : Int, (0 ≤ p ∧ p ≤ left) ∧ σ' = [some (.ref d), some (.int ((k : Int) + 1)), some (.int top), some (.ref l), some (.int left), some (.int (bg : Int)), some (.int (0 + (i : Nat))), some (.int kd), some (.int p)] ∧ G3 = H',
        ⟨.int kd, rfl, rfl, _, rfl, ite2 (fun _ => ⟨.int left, rfl, left, ⟨by omega, by omega⟩, rfl, rfl⟩) (fun _ => ⟨p2, ⟨by omega, by omega⟩, rfl, rfl⟩)⟩, fun σ' H' hN => ?_⟩
      obtain ⟨p3, ⟨p30, p31⟩, rfl, rfl⟩ := hN
      -- the store
      refine ⟨.int p3, rfl, .ref l, rfl, .int (bg : Int), rfl, .int (0 + (i : Nat)), rfl, _, _, rfl, rfl, .inl ⟨_, rfl, .int ((k : Int) + 1), rfl, _, _, rfl, rfl, by omega, l, _, _, _, rfl, rfl, e3, mod_at (b := bg) (i := i) pt.len rfl (by omega), ?_⟩⟩
      refine ⟨.int left, rfl, .int p3, rfl, _, _, rfl, rfl, ?_⟩
      refine ⟨⟨_, _, _, left - p3, _, rfl, pt.put (by omega) p30 p31, by omega, by rw [upd_same, List.map_set]⟩, (m3.put (m.le (by omega)) nl0).le (by omega), rest_up s13 (rest_none nl0)⟩
    · obtain ⟨⟨y6, y7, y8, left, fr, rfl, pt, lt, eG⟩, mG, sG⟩ := hP
      have nk : ((k : Int) + 1 - 1).toNat = k := by omega
      rw [nk] at pt mG
      refine ⟨.int left, rfl, .ref l, rfl, .int (bg : Int), rfl, .int ((k : Int) + 1), rfl, _, _, rfl, rfl, _, 1, rfl, rfl, .inl ⟨_, rfl, .int ((k : Int) + 1), rfl, _, _, rfl, rfl, by omega, l, _, _, _, rfl, rfl, eG, mod_at (b := bg) (i := k) pt.len rfl (by omega), ?_⟩⟩
      refine ⟨.ref l, rfl, q l _ _ nl0 pt.last (by rw [upd_same, List.map_set]) ((mG.put (m.le (by omega)) nl0).le (by omega)) (rest_up sG (rest_none nl0))⟩
theorem scTable : FnScope ["_law_m", "_law_many", "_law_top", "_law_count", "_law_found", "_law_n", "_law_again", "_law_part"] ["_law_m", "_law_many", "_law_top", "_law_count"] (defScope sTable) := ⟨rfl, rfl, rfl, by decide +kernel, rfl, by decide +kernel, by decide +kernel⟩
def spTable : Sp := fun vs H Q _ => ∃ (d c g : Addr) (k : Nat) (top cnt : Int) (B : Int), vs = [.ref d, .int ((k : Int) + 1), .int top, .int cnt] ∧ MAt d c g H B ∧ 0 ≤ B ∧ B ≤ 5000 ∧ k ≤ 5 ∧ 0 ≤ top ∧ top ≤ 1000000000000 ∧ 0 ≤ cnt ∧ cnt ≤ 9 ∧
  ∀ (l : Addr) (R : List Rnd) (H' : Hp), (R.length : Int) = cnt → (∀ r ∈ R, RowOk (k + 1) top r) → TbD (Rest d g H') l R → MAt d c g H' (B + 200) → Same (Rest d g H) (Rest d g H') → Q (.ref l) H'
/-- the rows of the list at l, none of them at d, g or l -/
def Rows3 (d g l : Addr) (G : Hp) (as : List Addr) (R : List Rnd) : Prop := Al (fun p r => Rest l l (Rest d g G) p = some (.lst (r.map V.int))) as R
theorem rows3_same {d g l : Addr} {G G' : Hp} {as : List Addr} {R : List Rnd} (s : Same (Rest d g G) (Rest d g G')) (h : Rows3 d g l G as R) : Rows3 d g l G' as R := h.imp fun p r e => rest_same s _ _ e
theorem rows3_set {d g l : Addr} {G : Hp} {o : HO} {as : List Addr} {R : List Rnd} (h : Rows3 d g l G as R) : Rows3 d g l (upd G l o) as R := h.imp fun p r e => by
  obtain ⟨h1, h2, h3⟩ := rest_in e
  obtain ⟨h4, h5, h6⟩ := rest_in h3
  rw [rest_ne h1 h2, rest_ne h4 h5, upd_ne h1]
  exact h6
theorem atI_end {as : List Addr} {b : Addr} (h : as.getLast? = some b) : atI (as.map V.ref) (-1) = some (.ref b) := by
  obtain ⟨ys, rfl⟩ := List.getLast?_eq_some_iff.mp h
  rw [List.map_append]
  exact atI_last _ _
theorem call_listA {X : Cx} : CallR X (.type "list") (fun xs H Q => ∃ p ys, xs = [.ref p] ∧ (SqL X.K H p ys ∨ SqT X.K H p ys) ∧ ∀ l, H l = none → Q (.ref l) (upd H l (.lst ys))) := call_list_of
theorem ok_table {f : Addr} {fd : FuncData} (F : Fun K "_law_table" "_law_table" sTable f fd) (B : Blt mg) (DD : Dfn P w K mg base 2 "_law_draw" ["_law_m", "_law_limit"] spDraw) (DS : Dfn P w K mg base 4 "_law_shares" ["_law_m", "_law_many", "_law_top"] spShares) : FnOk P w K mg base CX0 5 f fd ["_law_m", "_law_many", "_law_top", "_law_count"] spTable := by
  refine F.ok scTable (fun vs H Q E h => ?_) (fun cdv A outer s H vs Q E hr h => ?_)
  · obtain ⟨d, c, g, k, top, cnt, b, rfl, _⟩ := h
    rfl
  · obtain ⟨d, c, g, k, top, cnt, b, rfl, m, b0, b1, k5, t0, t1, c0, c9, q⟩ := h
    refine ⟨_, pss_cons (ps_set (i := 4) scTable.nd rfl (Or.inl rfl) (pe_lst pa_nil))
      (pss_cons (ps_for PassesOwn.never rfl (pi_range1 (by rfl) B.range (pa_cons (pv 3) pa_nil)) (pg_name (i := 5) scTable.nd rfl (.inl rfl))
        (pss_cons (ps_set (i := 6) scTable.nd rfl (Or.inl rfl) (pe_cmpR op_eq (pe_fn DD hr (pa_cons (pv 0) (pa_cons pe_int pa_nil))) pe_int (nomark _)))
        (pss_cons (ps_set (i := 7) scTable.nd rfl (Or.inl rfl) (pe_fn DS hr (pa_cons (pv 0) (pa_cons (pv 1) (pa_cons (pv 2) pa_nil)))))
        (pss_one (ps_expr (pe_bm PySem.F.plainAttrs_list PySem.F.slot_list_append PySem.F.type_list_append mt_append (pv 4)
          (pa_cons (pe_post (pe_ifExp (PW.pt (pw_and (pt_val (pv 6)) (pw_and1 (pt_cmpR (op_neD hr.units) (pv 4) (pe_lst pa_nil) (nomark _))))) (pe_callTy call_listA (by rfl) B.list (by decide +kernel) (pa_cons (pe_ix ix_list (pv 4) (pe_un un_neg pe_int) (fun _ _ => rfl)) pa_nil)) (pv 7))) pa_nil)))))))
      (pss_one (ps_ret (pv 4)))), ?_⟩
    refine ⟨Nat.zero_le _, fun l nl => ?_⟩
    have ld := m.nd nl
    have lg := m.ng nl
    have mL : MAt d c g (upd H l (.lst [])) b := m.new nl
    have sL : Same (Rest d g H) (Rest d g (upd H l (.lst []))) := rest_same (up_new nl)
    refine ⟨.int cnt, rfl, cnt, rfl, by omega, by omega, ?_⟩
    refine for_range (lo := 0) (n := cnt.toNat) (fun i σ G => (∃ y5 y6 y7, σ = [some (.ref d), some (.int ((k : Int) + 1)), some (.int top), some (.int cnt), some (.ref l), y5, y6, y7]) ∧ MAt d c g G (b + 21 * (i : Int)) ∧ Same (Rest d g H) (Rest d g G) ∧ ∃ (as : List Addr) (R : List Rnd), G l = some (.lst (as.map V.ref)) ∧ R.length = i ∧ (∀ r ∈ R, RowOk (k + 1) top r) ∧ Rows3 d g l G as R)
      ⟨⟨none, none, none, rfl⟩, mL.le (by omega), sL, [], [], upd_same, rfl, fun r hr => absurd hr List.not_mem_nil, Al.nil⟩ (fun i σ G hi hP => ?_) (fun σ G hP => ?_)
    · obtain ⟨⟨y5, y6, y7, rfl⟩, mG, sG, as, R, eG, eR, okR, rows⟩ := hP
      refine ⟨.ref d, rfl, d, c, g, 4, b + 21 * (i : Int), rfl, mG, by omega, by omega, by decide, by decide, fun v G1 v0 v1 m1 s1 => ?_⟩
      refine ⟨rfl, ?_⟩
      refine ⟨.ref d, rfl, .int ((k : Int) + 1), rfl, .int top, rfl, d, c, g, k, top, b + 21 * (i : Int) + 1, rfl, m1, by omega, by omega, k5, t0, t1, fun p r G2 np okr ep m2 s2 => ?_⟩
      have e1 := rest_at s1 ld lg eG
      have e2 := rest_at s2 ld lg e1
      have r2 := rows3_same (s1.trans s2) rows
      have lp : p ≠ l := (ne_of_none e1 np).symm
      have pd := m1.nd np
      have pg := m1.ng np
      have s02 := (sG.trans s1).trans s2
      refine ⟨.ref l, rfl, .inl ⟨rfl, _, SqL.of e2⟩, fun x G3 => ∃ p' r', x = .ref p' ∧ Same G2 G3 ∧ G3 p' = some (.lst (r'.map V.int)) ∧ RowOk (k + 1) top r' ∧ p' ≠ l ∧ p' ≠ d ∧ p' ≠ g, ?_, fun x G3 hN => ?_⟩
      · refine ⟨_, rfl, _, rfl, ite2 (fun _ => ?_) (fun _ => ?_)⟩
        · refine ⟨.ref l, rfl, Nat.zero_le _, fun t nt => ?_⟩
          have st : Same G2 (upd G2 t (.lst [])) := up_new nt
          have et := st _ _ e2
          have tb : TbL K (upd G2 t (.lst [])) l R := tb_of (SqL.of et) (r2.imp fun p r e => SqL.of (st _ _ (rest_sub _ _ _ _ _ (rest_sub _ _ _ _ _ e))))
          refine ⟨_, _, dp_table tb, .lst (SqL.of upd_same) .nil, shaped_rows R, shaped_nil, _, rfl, ?_⟩
          rw [eqv_nil]
          by_cases e0 : R = []
          · exact ifF (by simp [e0]) ⟨.ref p, rfl, p, r, rfl, st, st _ _ ep, okr, lp, pd, pg⟩
          · refine ifT (by simp [e0]) ?_
            have la : as.length = R.length := rows.1
            have lR : 0 < R.length := List.length_pos_iff.mpr e0
            have hne : as ≠ [] := fun z => by rw [z] at la; simp at la; omega
            have er : R[as.dropLast.length]? = some (R.getLast e0) := by
              rw [List.getLast_eq_getElem, List.length_dropLast, la]
              exact List.getElem?_eq_getElem (by omega)
            have ea : as[as.dropLast.length]? = some (as.getLast hne) := by
              rw [List.getLast_eq_getElem, List.length_dropLast]
              exact List.getElem?_eq_getElem (by omega)
            have ero := r2.2 _ _ _ ea er
            have al : atI (as.map V.ref) (-1) = some (.ref (as.getLast hne)) := atI_end (List.getLast?_eq_getLast hne)
            refine ⟨.ref l, rfl, 1, rfl, l, _, -1, .ref (as.getLast hne), rfl, rfl, SqL.of et, al, as.getLast hne, _, rfl, .inl (SqL.of (st _ _ (rest_sub _ _ _ _ _ (rest_sub _ _ _ _ _ ero)))), fun u nu => ?_⟩
            have m3 := m2.mono st (Int.le_refl _)
            refine ⟨u, R.getLast e0, rfl, st.trans (up_new nu), upd_same, okR _ (List.getLast_mem e0), (ne_of_none et nu).symm, m3.nd nu, m3.ng nu⟩
        · exact ⟨.ref p, rfl, p, r, rfl, Same.refl _, ep, okr, lp, pd, pg⟩
      · obtain ⟨p', r', rfl, s3, ep', okr', lp', pd', pg'⟩ := hN
        have e3 := s3 _ _ e2
        have r3 := rows3_same (rest_same s3) r2
        have m3 := m2.mono s3 (Int.le_refl _)
        have la : as.length = i := rows.1.trans eR
        refine ⟨l, _, _, rfl, rfl, e3, by rw [List.length_map]; exact small1000 (by omega), ?_⟩
        refine ⟨⟨_, _, _, rfl⟩, (m3.put (m.le (by omega)) nl).le (by omega), rest_up (s02.trans (rest_same s3)) (rest_none nl), as ++ [p'], R ++ [r'], by rw [upd_same, List.map_append]; rfl, by rw [List.length_append, eR]; rfl, fun r4 hr4 => ?_, ?_⟩
        · rcases List.mem_append.mp hr4 with h | h
          · exact okR r4 h
          · rw [List.mem_singleton.mp h]
            exact okr'
        · refine Al.app (rows3_set r3) ⟨rfl, fun j p5 r5 e5 e6 => ?_⟩
          have hj : j = 0 := by
            have := (List.getElem?_eq_some_iff.mp e5).1
            simp only [List.length_singleton] at this
            omega
          subst hj
          cases Option.some.inj e5
          cases Option.some.inj e6
          show Rest l l (Rest d g (upd G3 l _)) p' = _
          rw [rest_ne lp' lp', rest_ne pd' pg', upd_ne lp']
          exact ep'
    · obtain ⟨⟨y5, y6, y7, rfl⟩, mG, sG, as, R, eG, eR, okR, rows⟩ := hP
      exact ⟨.ref l, rfl, q l R G (by omega) okR (tb_of (S := fun H a xs => H a = some (.lst xs)) (by rw [rest_ne ld lg]; exact eG) (rows.imp fun p r e => rest_sub _ _ _ _ _ e)) (mG.le (by omega)) sG⟩
end
end KP

set_option Elab.async false
set_option linter.all false
set_option maxRecDepth 100000
set_option maxHeartbeats 4000000
/-! # The law's own checks -/
namespace KP
open PySem PySem.Spec PyProof.Rows L2 KR KM

def spInts (K : PySem.W.Frag) : Sp := fun vs H Q _ => ∃ (p l : Addr) (r : Rnd), vs = [.ref p, .ref l] ∧ SqT K H p (r.map V.int) ∧ SqL K H l (r.map V.int) ∧ ∀ H', Same H H' → Q (.bl true) H'
def spInt : Sp := fun vs H Q _ => ∃ i : Int, vs = [.int i, .int i] ∧ Q (.bl true) H
def spTexts (K : PySem.W.Frag) : Sp := fun vs H Q _ => ∃ (p l : Addr) (ns : List Str), vs = [.ref p, .ref l] ∧ SqT K H p (ns.map V.str) ∧ SqL K H l (ns.map V.str) ∧ ∀ H', Same H H' → Q (.bl true) H'
def spIsChart (K : PySem.W.Frag) (C : Addr) : Sp := fun vs H Q _ => ∃ (a n : Addr) (S : Int) (t : Addr) (ns : List Str) (R : List Rnd), vs = [.ref a, .ref n, .int S, .ref t] ∧ ChAt K C H a ns S R ∧ SqL K H n (ns.map V.str) ∧ TbL K H t R ∧ ∀ H', Same H H' → Q (.bl true) H'
def spDivisor : Sp := fun vs H Q _ => ∃ a b : Int, vs = [.int a, .int b] ∧ 0 ≤ a ∧ 0 ≤ b ∧ b ≤ 1000000000000 ∧ Q (.int (Nat.gcd a.toNat b.toNat : Nat)) H
def spTimes (K : PySem.W.Frag) : Sp := fun vs H Q _ => ∃ (t : Addr) (f : Int) (R : List Rnd), vs = [.ref t, .int f] ∧ TbL K H t R ∧ R.length ≤ 1000 ∧ (∀ r ∈ R, r.length ≤ 1000 ∧ ∀ x ∈ r, 0 ≤ x ∧ x ≤ 1000000000000) ∧ ∀ t' H', Same H H' → TbD H' t' (times R f) → Q (.ref t') H'
section
variable {P : Program} {w : World} {K : PySem.W.Frag} {mg : Str → Option Value} {base : Heap}
theorem pe_isiT {X : Cx} {a : Expr} {p p2 pos : Pos} {ta : TE} (B : Blt X.mg) (ha : PE X a ta) (hg : Gl X "isinstance" := by rfl) (hg2 : Gl X "tuple" := by rfl) (hs : starEach [(.Name "tuple" p2 : Expr)] X.env = [(false, eval (.Name "tuple" p2) X.env)] := by rfl) (hs2 : starEach [a, (.Name "tuple" p2 : Expr)] X.env = (false, eval a X.env) :: starEach [(.Name "tuple" p2 : Expr)] X.env := by rfl) :
    PE X (.Call (.Name "isinstance" p) [a, .Name "tuple" p2] [] pos) (tCB (rIsi X.K) (tCons ta (tCons (tC (.ty "tuple")) tNil))) := pe_isi B ha (pe_tuple_ty B hg2) hg hs hs2
theorem scInts : FnScope ["_law_told", "_law_due", "_law_one", "_law_two"] ["_law_told", "_law_due"] (defScope sInts) := ⟨rfl, rfl, rfl, by decide +kernel, rfl, by decide +kernel, by decide +kernel⟩
theorem ok_ints {f : Addr} {fd : FuncData} (F : Fun K "_law_ints" "_law_ints" sInts f fd) (B : Blt mg) : FnOk P w K mg base CX0 1 f fd ["_law_told", "_law_due"] (spInts K) := by
  refine F.ok scInts (fun vs H Q E h => ?_) (fun cdv A outer s H vs Q E hr h => ?_)
  · obtain ⟨p, l, r, rfl, _⟩ := h
    rfl
  · obtain ⟨p, l, r, rfl, hT, hL, q⟩ := h
    refine ⟨_, pss_cons (ps_if (PW.pt (pw_or (pt_not (pt_val (pe_isiT B (pv 0)))) (pw_or1 (pt_cmpR op_ne (pe_len B (pv 0)) (pe_len B (pv 1)) (nomark _))))) (pss_one (ps_ret pe_bl)) pss_nil)
      (pss_cons (ps_for PassesOwn.never rfl (pi_zipM (by rfl) B.zip (pa_cons (pv 0) (pa_cons (pv 1) pa_nil))) (pg_tup rfl (pgs_cons (pg_name (i := 2) scInts.nd rfl (.inl rfl)) (pgs_cons (pg_name (i := 3) scInts.nd rfl (.inl rfl)) pgs_nil)))
        (pss_one (ps_if (PW.pt (pw_or (pt_not (pt_val (pe_isi B (pv 2) (pe_int_ty B)))) (pw_or (pt_val (pe_isi B (pv 2) (pe_bool_ty B))) (pw_or1 (pt_cmpR op_ne (pv 2) (pv 3) (nomark _)))))) (pss_one (ps_ret pe_bl)) pss_nil)))
      (pss_one (ps_ret pe_bl))), ?_⟩
    refine ⟨.ref p, rfl, .ref p, .ty "tuple", .type "tuple", .type "tuple", true, rfl, .ty _, tyT hT, kit_ty (by decide +kernel), true, rfl, iteF ?_⟩
    refine ⟨.ref p, rfl, p, _, rfl, .inr hT, .ref l, rfl, l, _, rfl, .inl hL, rfl, _, rfl, ifF (by simp) ?_⟩
    refine ⟨.ref p, rfl, .ref l, rfl, p, l, _, _, rfl, hT, hL, rfl, fun J G hG mono wk => ?_⟩
    refine for_pair (wk.mono (G' := fun H' => Same H H') (fun H' sm => mono _ _ sm hG) (fun _ _ _ _ _ _ y => y)) (fun i σ H' => (∃ y2 y3, σ = [some (.ref p), some (.ref l), y2, y3]) ∧ Same H H') ⟨⟨none, none, rfl⟩, Same.refl _⟩ (fun _ _ _ _ h => h.2)
      (fun i x y σ H2 Tp hi hP e1 e2 nT => ?_) (fun σ H2 hP => ?_)
    · obtain ⟨⟨y2, y3, rfl⟩, sm⟩ := hP
      obtain ⟨z, ez, rfl⟩ := map_get e1
      obtain ⟨z2, ez2, rfl⟩ := map_get e2
      cases Option.some.inj (ez.symm.trans ez2)
      refine ⟨.int z, rfl, .int z, .ty "int", .type "int", .type "int", true, rfl, .ty _, .base (.int z), kit_ty (by decide +kernel), true, rfl, iteF ?_⟩
      refine ⟨.int z, rfl, .int z, .ty "bool", .type "int", .type "bool", false, rfl, .ty _, .base (.int z), kit_ty (by decide +kernel), false, rfl, iteF ?_⟩
      exact ⟨.int z, rfl, .int z, rfl, rfl, _, rfl, ifF (by simp) ⟨⟨_, _, rfl⟩, sm.trans (up_new nT)⟩⟩
    · obtain ⟨⟨y2, y3, rfl⟩, sm⟩ := hP
      exact q H2 sm
theorem scInt : FnScope ["_law_told", "_law_due"] ["_law_told", "_law_due"] (defScope sInt) := ⟨rfl, rfl, rfl, by decide +kernel, rfl, by decide +kernel, by decide +kernel⟩
theorem ok_int {f : Addr} {fd : FuncData} (F : Fun K "_law_int" "_law_int" sInt f fd) (B : Blt mg) : FnOk P w K mg base CX0 1 f fd ["_law_told", "_law_due"] spInt := by
  refine F.ok scInt (fun vs H Q E h => ?_) (fun cdv A outer s H vs Q E hr h => ?_)
  · obtain ⟨i, rfl, _⟩ := h
    rfl
  · obtain ⟨i, rfl, q⟩ := h
    refine ⟨_, pss_one (ps_ret (pe_and (pe_isi B (pv 0) (pe_int_ty B)) (pe_and (pe_not (pe_isi B (pv 0) (pe_bool_ty B))) (pe_one (pe_cmpR op_eq (pv 0) (pv 1) (nomark _)))))), ?_⟩
    refine ⟨.int i, rfl, .int i, .ty "int", .type "int", .type "int", true, rfl, .ty _, .base (.int i), kit_ty (by decide +kernel), true, rfl, iteT ?_⟩
    refine ⟨.int i, rfl, .int i, .ty "bool", .type "int", .type "bool", false, rfl, .ty _, .base (.int i), kit_ty (by decide +kernel), false, rfl, true, rfl, iteT ?_⟩
    refine ⟨.int i, rfl, .int i, rfl, rfl, ?_⟩
    rw [decide_eq_true rfl]
    exact q
theorem scTexts : FnScope ["_law_told", "_law_due", "_law_one", "_law_two"] ["_law_told", "_law_due"] (defScope sTexts) := ⟨rfl, rfl, rfl, by decide +kernel, rfl, by decide +kernel, by decide +kernel⟩
theorem ok_texts {f : Addr} {fd : FuncData} (F : Fun K "_law_texts" "_law_texts" sTexts f fd) (B : Blt mg) : FnOk P w K mg base CX0 1 f fd ["_law_told", "_law_due"] (spTexts K) := by
  refine F.ok scTexts (fun vs H Q E h => ?_) (fun cdv A outer s H vs Q E hr h => ?_)
  · obtain ⟨p, l, r, rfl, _⟩ := h
    rfl
  · obtain ⟨p, l, r, rfl, hT, hL, q⟩ := h
    refine ⟨_, pss_cons (ps_if (PW.pt (pw_or (pt_not (pt_val (pe_isiT B (pv 0)))) (pw_or1 (pt_cmpR op_ne (pe_len B (pv 0)) (pe_len B (pv 1)) (nomark _))))) (pss_one (ps_ret pe_bl)) pss_nil)
      (pss_cons (ps_for PassesOwn.never rfl (pi_zipM (by rfl) B.zip (pa_cons (pv 0) (pa_cons (pv 1) pa_nil))) (pg_tup rfl (pgs_cons (pg_name (i := 2) scTexts.nd rfl (.inl rfl)) (pgs_cons (pg_name (i := 3) scTexts.nd rfl (.inl rfl)) pgs_nil)))
        (pss_one (ps_if (PW.pt (pw_or (pt_not (pt_val (pe_isi B (pv 2) (pe_str_ty B)))) (pw_or1 (pt_cmpR op_ne (pv 2) (pv 3) (nomark _))))) (pss_one (ps_ret pe_bl)) pss_nil)))
      (pss_one (ps_ret pe_bl))), ?_⟩
    refine ⟨.ref p, rfl, .ref p, .ty "tuple", .type "tuple", .type "tuple", true, rfl, .ty _, tyT hT, kit_ty (by decide +kernel), true, rfl, iteF ?_⟩
    refine ⟨.ref p, rfl, p, _, rfl, .inr hT, .ref l, rfl, l, _, rfl, .inl hL, rfl, _, rfl, ifF (by simp) ?_⟩
    refine ⟨.ref p, rfl, .ref l, rfl, p, l, _, _, rfl, hT, hL, rfl, fun J G hG mono wk => ?_⟩
    refine for_pair (wk.mono (G' := fun H' => Same H H') (fun H' sm => mono _ _ sm hG) (fun _ _ _ _ _ _ y => y)) (fun i σ H' => (∃ y2 y3, σ = [some (.ref p), some (.ref l), y2, y3]) ∧ Same H H') ⟨⟨none, none, rfl⟩, Same.refl _⟩ (fun _ _ _ _ h => h.2)
      (fun i x y σ H2 Tp hi hP e1 e2 nT => ?_) (fun σ H2 hP => ?_)
    · obtain ⟨⟨y2, y3, rfl⟩, sm⟩ := hP
      obtain ⟨z, ez, rfl⟩ := map_get e1
      obtain ⟨z2, ez2, rfl⟩ := map_get e2
      cases Option.some.inj (ez.symm.trans ez2)
      refine ⟨.str z, rfl, .str z, .ty "str", .type "str", .type "str", true, rfl, .ty _, .base (.str z), kit_ty (by decide +kernel), true, rfl, iteF ?_⟩
      exact ⟨.str z, rfl, .str z, rfl, rfl, _, rfl, ifF (by simp) ⟨⟨_, _, rfl⟩, sm.trans (up_new nT)⟩⟩
    · obtain ⟨⟨y2, y3, rfl⟩, sm⟩ := hP
      exact q H2 sm
theorem scIsChart : FnScope ["_law_told", "_law_names_here", "_law_top", "_law_table_here", "_law_part", "_law_due"] ["_law_told", "_law_names_here", "_law_top", "_law_table_here"] (defScope sIsChart) := ⟨rfl, rfl, rfl, by decide +kernel, rfl, by decide +kernel, by decide +kernel⟩
theorem ok_ischart {f C : Addr} {fd : FuncData} (F : Fun K "_law_is_chart" "_law_is_chart" sIsChart f fd) (B : Blt mg) (T : ChC K mg C) (I : SlX.SIsi K C) (D1 : Dfn P w K mg base 1 "_law_ints" ["_law_told", "_law_due"] (spInts K)) (D2 : Dfn P w K mg base 1 "_law_int" ["_law_told", "_law_due"] spInt) (D3 : Dfn P w K mg base 1 "_law_texts" ["_law_told", "_law_due"] (spTexts K)) :
    FnOk P w K mg base CX0 2 f fd ["_law_told", "_law_names_here", "_law_top", "_law_table_here"] (spIsChart K C) := by
  refine F.ok scIsChart (fun vs H Q E h => ?_) (fun cdv A outer s H vs Q E hr h => ?_)
  · obtain ⟨a, n, S, t, ns, R, rfl, _⟩ := h
    rfl
  · obtain ⟨a, n, S, t, ns, R, rfl, hA, hN, hT, q⟩ := h
    obtain ⟨pM, sM⟩ := T.sM
    obtain ⟨pR, sR⟩ := T.sR
    obtain ⟨pS, sS⟩ := T.sS
    refine ⟨_, pss_cons (ps_if (PW.pt (pw_or (pt_not (pt_val (pe_isiCh (C := C) B (pv 0) (pe_glob (v := .ref C) rfl T.mgC rfl)))) (pw_or (pt_not (pt_val (pe_fn D3 hr (pa_cons (SlX.pe_sl (pv 0)) (pa_cons (pv 1) pa_nil))))) (pw_or1 (pt_not (pt_val (pe_fn D2 hr (pa_cons (SlX.pe_sl (pv 0)) (pa_cons (pv 2) pa_nil)))))))) ) (pss_one (ps_ret pe_bl)) pss_nil)
      (pss_cons (ps_if (PW.pt (pw_or (pt_not (pt_val (pe_isiT B (SlX.pe_sl (pv 0))))) (pw_or1 (pt_cmpR op_ne (pe_len B (SlX.pe_sl (pv 0))) (pe_len B (pv 3)) (nomark _))))) (pss_one (ps_ret pe_bl)) pss_nil)
      (pss_cons (ps_for PassesOwn.never rfl (pi_zipM (by rfl) B.zip (pa_cons (SlX.pe_sl (pv 0)) (pa_cons (pv 3) pa_nil))) (pg_tup rfl (pgs_cons (pg_name (i := 4) scIsChart.nd rfl (.inl rfl)) (pgs_cons (pg_name (i := 5) scIsChart.nd rfl (.inl rfl)) pgs_nil)))
        (pss_one (ps_if (pt_not (pt_val (pe_fn D1 hr (pa_cons (pv 4) (pa_cons (pv 5) pa_nil))))) (pss_one (ps_ret pe_bl)) pss_nil)))
      (pss_one (ps_ret pe_bl)))), ?_⟩
    obtain ⟨dx, pa, qa, hs, hp, hq⟩ := hA
    refine ⟨.ref a, rfl, a, C, dx, _, .ref C, true, rfl, rfl, fun _ r => r, hs, T.sc, I, kit_self (by simp), true, rfl, iteF ?_⟩
    refine ⟨.ref a, rfl, a, C, dx, pM, _, 0, _, rfl, hs, T.sc, sM, rfl, .ref n, rfl, pa, n, ns, rfl, hp, hN, fun H1 s1 => ⟨true, rfl, iteF ?_⟩⟩
    have hs1 := sameSl s1 hs
    refine ⟨.ref a, rfl, a, C, dx, pS, _, 2, _, rfl, hs1, T.sc, sS, rfl, .int S, rfl, S, rfl, true, rfl, iteF ?_⟩
    obtain ⟨as, a1, a2⟩ := tb_al (tt_same s1 hq)
    obtain ⟨bs, b1, b2⟩ := tb_al (tb_same s1 hT)
    refine ⟨.ref a, rfl, a, C, dx, pR, _, 1, _, rfl, hs1, T.sc, sR, rfl, .ref qa, .ty "tuple", .type "tuple", .type "tuple", true, rfl, .ty _, tyT a1, kit_ty (by decide +kernel), true, rfl, iteF ?_⟩
    refine ⟨.ref a, rfl, a, C, dx, pR, _, 1, _, rfl, hs1, T.sc, sR, rfl, qa, _, rfl, .inr a1, .ref t, rfl, t, _, rfl, .inl b1, rfl, _, rfl, ifF (by rw [List.length_map, List.length_map, a2.1, b2.1]; simp) ?_⟩
    refine ⟨.ref a, rfl, a, C, dx, pR, _, 1, _, rfl, hs1, T.sc, sR, rfl, .ref t, rfl, qa, t, _, _, rfl, a1, b1, by rw [List.length_map, List.length_map, a2.1, b2.1], fun J G hG mono wk => ?_⟩
    refine for_pair (wk.mono (G' := fun H' => Same H1 H') (fun H' sm => mono _ _ sm hG) (fun _ _ _ _ _ _ y => y)) (fun i σ H' => (∃ y4 y5, σ = [some (.ref a), some (.ref n), some (.int S), some (.ref t), y4, y5]) ∧ Same H1 H') ⟨⟨none, none, rfl⟩, Same.refl _⟩ (fun _ _ _ _ h => h.2)
      (fun i x y σ H2 Tp hi hP e1 e2 nT => ?_) (fun σ H2 hP => ?_)
    · obtain ⟨⟨y2, y3, rfl⟩, sm⟩ := hP
      obtain ⟨z, ez, rfl⟩ := map_get e1
      obtain ⟨z2, ez2, rfl⟩ := map_get e2
      have hl : i < as.length := (List.getElem?_eq_some_iff.mp ez).1
      obtain ⟨r, er⟩ : ∃ r, R[i]? = some r := ⟨_, List.getElem?_eq_getElem (by have := a2.1; omega)⟩
      have s3 := sm.trans (up_new (o := .tup [.ref z, .ref z2]) nT)
      refine ⟨.ref z, rfl, .ref z2, rfl, z, z2, r, rfl, sameT s3 (a2.2 i z r ez er), s3.seq (b2.2 i z2 r ez2 er), fun H4 s4 => ⟨true, rfl, iteF ?_⟩⟩
      exact ⟨⟨_, _, rfl⟩, s3.trans s4⟩
    · obtain ⟨⟨y2, y3, rfl⟩, sm⟩ := hP
      exact q H2 (s1.trans sm)
theorem scDivisor : FnScope ["_law_one", "_law_two", "_law_again"] ["_law_one", "_law_two"] (defScope sDivisor) := ⟨rfl, rfl, rfl, by decide +kernel, rfl, by decide +kernel, by decide +kernel⟩
theorem ok_divisor {f : Addr} {fd : FuncData} (F : Fun K "_law_divisor" "_law_divisor" sDivisor f fd) (B : Blt mg) : FnOk P w K mg base CX0 1 f fd ["_law_one", "_law_two"] spDivisor := by
  refine F.ok scDivisor (fun vs H Q E h => ?_) (fun cdv A outer s H vs Q E hr h => ?_)
  · obtain ⟨a, b, rfl, _⟩ := h
    rfl
  · obtain ⟨a, b, rfl, ha, hb, hb1, q⟩ := h
    refine ⟨_, pss_cons (ps_for PassesOwn.never rfl (pi_range1 (by rfl) B.range (pa_cons pe_int pa_nil)) (pg_name (i := 2) scDivisor.nd rfl (.inl rfl))
        (pss_one (ps_if (pt_cmpR op_ne (pv 1) pe_int (nomark _)) (pss_one (ps_par (i := 0) (j := 1) rfl scDivisor.nd rfl rfl (by decide) rfl rfl (pa_cons (pv 1) (pa_cons (pe_op op_mod (pe_intOf B (pv 0)) (pv 1)) pa_nil)) (by rfl))) pss_nil)))
      (pss_one (ps_ret (pv 0))), ?_⟩
    refine ⟨64, rfl, by decide, by decide, ?_⟩
    refine for_range (lo := 0) (n := 64) (fun i σ G => (∃ y2, σ = [some (.int ((runG i (a.toNat, b.toNat)).1 : Int)), some (.int ((runG i (a.toNat, b.toNat)).2 : Int)), y2]) ∧ H = G) ⟨⟨none, ?_⟩, rfl⟩ (fun i σ G hi hP => ?_) (fun σ G hP => ?_)
    · show ([some (.int a), some (.int b), none] : L2.St) = [some (.int ((a.toNat : Nat) : Int)), some (.int ((b.toNat : Nat) : Int)), none]
      rw [Int.toNat_of_nonneg ha, Int.toNat_of_nonneg hb]
    · obtain ⟨⟨y2, rfl⟩, rfl⟩ := hP
      rw [runG_succ]
      generalize runG i (a.toNat, b.toNat) = xy
      obtain ⟨x, y⟩ := xy
      refine ⟨_, rfl, rfl, _, rfl, ?_⟩
      rw [dec_int]
      by_cases hy : y = 0
      · subst hy
        exact ifF (by rfl) ⟨⟨_, rfl⟩, rfl⟩
      · have hyi : (y : Int) ≠ 0 := by omega
        refine ifT (by simpa using hyi) ⟨_, rfl, _, rfl, .inl ⟨_, rfl, _, rfl, _, _, rfl, rfl, by show (0 : Int) < (y : Int); omega, _, _, rfl, ⟨some (.int (0 + (i : Nat))), ?_⟩, rfl⟩⟩
        unfold stepG
        rw [if_neg hy]
        show ([some (.int (y : Int)), some (.int ((x : Int) % (y : Int))), _] : L2.St) = [some (.int (y : Int)), some (.int ((x % y : Nat) : Int)), _]
        rw [Int.natCast_emod]
    · obtain ⟨⟨y2, rfl⟩, rfl⟩ := hP
      refine ⟨_, rfl, ?_⟩
      rw [← runG_64 (a := a.toNat) (b := b.toNat) (by omega)] at q
      exact q
theorem scTimes : FnScope ["_law_table_here", "_law_factor", "_law_part", "_law_share"] ["_law_table_here", "_law_factor"] (defScope sTimes) := ⟨rfl, rfl, rfl, by decide +kernel, rfl, by decide +kernel, by decide +kernel⟩
theorem ok_times {f : Addr} {fd : FuncData} (F : Fun K "_law_times" "_law_times" sTimes f fd) : FnOk P w K mg base CX0 1 f fd ["_law_table_here", "_law_factor"] (spTimes K) := by
  refine F.ok scTimes (fun vs H Q E h => ?_) (fun cdv A outer s H vs Q E hr h => ?_)
  · obtain ⟨q, m, R, rfl, _⟩ := h
    rfl
  · obtain ⟨t, m, R, rfl, hT, hn, hR, q⟩ := h
    refine ⟨_, pss_one (ps_ret (pe_lc (own := [("_law_part", 2)]) (g := gName 2) (tt := tYes) (te := tLc (iSeqA K (tVar 2)) (gName 3) tYes (tOp (rI CMul fun i j => .int (i * j)) (tVar 3) (tVar 1)) [3]) rfl scTimes.nd (pi_seqA (pv 0)) (blkOk_by (own := [("_law_part", 2)]) (N := ["_law_table_here", "_law_factor", "_law_part", "_law_share"]) (sc := defScope sTimes) (by decide +kernel))
        (fun _ _ _ _ _ => pg_name (i := 2) scTimes.nd rfl (Or.inl rfl)) (fun _ _ _ _ _ => pts_nil)
        (fun _ _ _ _ _ => pe_lc (own := [("_law_share", 3)]) (g := gName 3) (tt := tYes) rfl scTimes.nd (pi_seqA (pv 2)) (blkOk_by (own := [("_law_share", 3)]) (N := ["_law_table_here", "_law_factor", "_law_part", "_law_share"]) (sc := { kind := .function, names := [(".0", .local), ("_law_part", .local), ("_law_factor", .cell)], isGenerator := false, isCoroutine := false }) (by decide +kernel))
          (fun _ _ _ _ _ => pg_name (i := 3) scTimes.nd rfl (Or.inl rfl)) (fun _ _ _ _ _ => pts_nil) (fun _ _ _ _ _ => pe_op op_mul (pv 3) (pv 1))))), ?_⟩
    obtain ⟨as, ha, al⟩ := tb_al hT
    refine ⟨.ref t, rfl, t, as.map V.ref, rfl, .inl ha, fun J G hG mono wk D nD => ?_⟩
    refine lc_one (wk.mono (G' := fun H' => Same H H') (fun H' sm => mono _ _ sm hG) (fun _ _ _ _ _ _ y => y))
      (fun i G => Same H G ∧ ∃ qs : List Addr, G D = some (.lst (qs.map V.ref)) ∧ qs.length = i ∧ Al (fun p r => Rest D D G p = some (.lst (r.map V.int))) qs ((times R m).take i))
      ⟨up_new nD, [], upd_same, rfl, Al.nil⟩ (fun _ _ _ h => h.1) (fun i x G1 G2 hi hP hy => ?_) (fun G1 hP => ?_)
    · obtain ⟨rfl, hx⟩ := hy
      obtain ⟨sm, qs, eD, eL, hq⟩ := hP
      obtain ⟨b, eb, rfl⟩ := map_get hx
      have hi2 : i < as.length := (List.getElem?_eq_some_iff.mp eb).1
      have la := al.1
      obtain ⟨r, er⟩ : ∃ r, R[i]? = some r := ⟨_, List.getElem?_eq_getElem (by omega)⟩
      have hb := sm.seq (al.2 i b r eb er)
      have hr := hR r (List.mem_of_getElem? er)
      have et : (times R m)[i]? = some (r.map (· * m)) := by
        show (R.map _)[i]? = _
        rw [List.getElem?_map, er]
        rfl
      refine ⟨rfl, ?_⟩
      refine ⟨.ref b, rfl, b, _, rfl, .inl hb, fun J2 G3 hG3 mono3 wk3 D2 nD2 => ?_⟩
      refine lc_one (wk3.mono (G' := fun H' => Same G2 H') (fun H' sm => mono3 _ _ sm hG3) (fun _ _ _ _ _ _ y => y))
        (fun j G => Same G2 G ∧ G D2 = some (.lst (((r.map (· * m)).take j).map V.int))) ⟨up_new nD2, upd_same⟩ (fun _ _ _ h => h.1) (fun j x G4 G5 hj hP2 hy2 => ?_) (fun G4 hP2 => ?_)
      · obtain ⟨rfl, hx2⟩ := hy2
        obtain ⟨sm2, e2⟩ := hP2
        obtain ⟨z, ez, rfl⟩ := map_get hx2
        have hz := hr.2 z (List.mem_of_getElem? ez)
        refine ⟨rfl, .int z, rfl, .int m, rfl, z, m, rfl, rfl, .inl ⟨by omega, by omega⟩, _, e2, ?_, up_old sm2 nD2, ?_⟩
        · have := List.length_take_le j (r.map (· * m))
          rw [List.length_map]
          rw [List.length_map] at hj
          exact small1000 (by omega)
        · have ej : (r.map (· * m))[j]? = some (z * m) := by rw [List.getElem?_map, ez]; rfl
          rw [upd_same, take_snoc ej, List.map_append]
          rfl
      · obtain ⟨sm2, e2⟩ := hP2
        have e3 : (r.map (· * m)).take (r.map V.int).length = r.map (· * m) := List.take_of_length_le (by rw [List.length_map, List.length_map]; exact Nat.le_refl _)
        rw [e3] at e2
        have eD5 := sm2 _ _ eD
        have nDD : D2 ≠ D := (ne_of_none eD nD2).symm
        refine ⟨_, eD5, by rw [List.length_map]; exact small1000 (by omega), up_old (sm.trans sm2) nD, qs ++ [D2], by rw [upd_same, List.map_append]; rfl, by rw [List.length_append, eL]; rfl, ?_⟩
        rw [take_snoc et]
        refine (hq.imp fun p r e => rest_set (.inl rfl) _ _ (rest_same sm2 _ _ e)).app ⟨rfl, fun j p5 r5 e5 e6 => ?_⟩
        have hj : j = 0 := by
          have := (List.getElem?_eq_some_iff.mp e5).1
          simp only [List.length_singleton] at this
          omega
        subst hj
        cases Option.some.inj e5
        cases Option.some.inj e6
        show Rest D D (upd G4 D _) D2 = _
        rw [rest_ne nDD nDD, upd_ne nDD]
        exact e2
    · obtain ⟨sm, qs, eD, eL, hq⟩ := hP
      have e3 : (times R m).take (as.map V.ref).length = times R m := List.take_of_length_le (by rw [times_len, List.length_map, al.1]; exact Nat.le_refl _)
      rw [e3] at hq
      exact q D G1 sm (tb_of (S := fun H a xs => H a = some (.lst xs)) eD (hq.imp fun p r e => rest_sub _ _ _ _ _ e))
end
end KP

set_option Elab.async false
set_option linter.all false
set_option maxRecDepth 100000
set_option maxHeartbeats 4000000
/-! # A sum and a product, tried -/
namespace KP
open PySem PySem.Spec PyProof.Rows L2 KR KM

theorem exm_two {K : PySem.W.Frag} {D S : Addr} {b : Bool} (h1 : PySem.W.subIn K (.ref S) (.type "BaseException") = some true) (h2 : PySem.W.isClsIn K S = true) (h3 : PySem.W.typeIn K (.ref S) = some (.type "type")) (h4 : PySem.W.subIn K (.ref D) (.ref S) = some b) :
    PySem.W.exmOne K (.ref D) (.ref S) = some b := by
  have g1 : (PySem.W.subIn K (.ref S) (.type "BaseException") == some true) = true := by
    rw [h1]
    rfl
  have g2 : ((PySem.W.clsIn K S).isSome && PySem.W.typeIn K (.ref S) == some (.type "type")) = true := by
    have q : (PySem.W.clsIn K S).isSome = true := h2
    rw [q, h3]
    rfl
  unfold PySem.W.exmOne
  rw [if_pos g1]
  show (if ((PySem.W.clsIn K S).isSome && PySem.W.typeIn K (.ref S) == some (.type "type")) = true then PySem.W.subIn K (.ref D) (.ref S) else none) = some b
  rw [if_pos g2]
  exact h4
/-- what _law_sum tells -/
def spSum (K : PySem.W.Frag) (C : Addr) : Sp := fun vs H Q _ => ∃ (a b : Addr) (ns ms : List Str) (S T : Int) (R U : List Rnd), vs = [.ref a, .ref b] ∧ ChAt K C H a ns S R ∧ ChartOk ns S R ∧ ChAt K C H b ms T U ∧ ChartOk ms T U ∧
  (ns ≠ ms → ∀ p t q H2, Same H H2 → H2 p = some (.tup [.ref t, .non]) → H2 t = some (.tup [.str "other", .ref q]) → SqT K H2 q (ms.map V.str) → Q (.ref p) H2) ∧
  (ns = ms → 240 < R.length + U.length → ∀ p t H2, Same H H2 → H2 p = some (.tup [.ref t, .non]) → H2 t = some (.tup [.str "rounds", .int ((R.length : Int) + (U.length : Int))]) → Q (.ref p) H2) ∧
  (ns = ms → R.length + U.length ≤ 240 → 1000000000000 < com S T → ∀ p t H2, Same H H2 → H2 p = some (.tup [.ref t, .non]) → H2 t = some (.tup [.str "scale", .int (com S T)]) → Q (.ref p) H2) ∧
  (ns = ms → R.length + U.length ≤ 240 → com S T ≤ 1000000000000 → ∀ p x H2, Same H H2 → H2 p = some (.tup [.non, .ref x]) → ChAt K C H2 x ns (com S T) (times R (com S T / S) ++ times U (com S T / T)) → Q (.ref p) H2)
/-- which error is which -/
structure Exm (K : PySem.W.Frag) (CO CM CS CC : Addr) : Prop where
  oo : PySem.W.exmOne K (.ref CO) (.ref CO) = some true
  mo : PySem.W.exmOne K (.ref CM) (.ref CO) = some false
  mm : PySem.W.exmOne K (.ref CM) (.ref CM) = some true
  so : PySem.W.exmOne K (.ref CS) (.ref CO) = some false
  sm : PySem.W.exmOne K (.ref CS) (.ref CM) = some false
  ss : PySem.W.exmOne K (.ref CS) (.ref CS) = some true
  cc : PySem.W.exmOne K (.ref CC) (.ref CC) = some true
  mc : PySem.W.exmOne K (.ref CM) (.ref CC) = some false
/-- the suite  found = ('name', e.field) -/
abbrev tCaught (C : Addr) (nm fld : Str) (i j : Nat) (a : Addr) (cls : Value) (d : Option Addr) : TS := tAsg (tTup (tCons (tC (.str nm)) (tCons (tXf a cls d C fld (tVar i)) tNil))) (gName j)
section
variable {P : Program} {w : World} {K : PySem.W.Frag} {mg : Str → Option Value} {base : Heap} {C CO CM CS CC : Addr}
theorem scSum : FnScope ["_law_one", "_law_two", "_law_found", "_law_told", "e"] ["_law_one", "_law_two"] (defScope sSum) := ⟨rfl, rfl, rfl, by decide +kernel, rfl, by decide +kernel, by decide +kernel⟩
theorem ok_sum {f fA : Addr} {fd fdA : FuncData} (F : Fun K "_law_sum" "_law_sum" sSum f fd) (FA : FnOk P w K mg base (L2.CX P w) 6 fA fdA ["self", "other"] (spAdd K C CO CM CS)) (bA : Binds K fdA ["self", "other"] []) (OT : OpTxt K C fA "add") (OI : OpInt K C "add")
    (DO : ErrC P w K mg base "OtherMembers" "members" CO) (DM : ErrC P w K mg base "TooManyRounds" "count" CM) (DS : ErrC P w K mg base "InvalidScale" "value" CS) (X : Exm K CO CM CS CC) : FnOk P w K mg base CX0 7 f fd ["_law_one", "_law_two"] (spSum K C) := by
  refine F.ok scSum (fun vs H Q E h => ?_) (fun cdv A outer s H vs Q E hr h => ?_)
  · obtain ⟨a, b, ns, ms, S, T, R, U, rfl, _⟩ := h
    rfl
  · obtain ⟨a, b, ns, ms, S, S2, R, U, rfl, hA, oA, hB, oB, kO, kM, kS, kQ⟩ := h
    refine ⟨_, pss_cons (ps_asg (pe_tup (pa_cons pe_non (pa_cons pe_non pa_nil))) (pg_tup rfl (pgs_cons (pg_name (i := 2) scSum.nd rfl (.inl rfl)) (pgs_cons (pg_name (i := 3) scSum.nd rfl (.inl rfl)) pgs_nil))))
      (pss_cons (ps_try_clauses (i := 4) (tb := fun W => tAsg (tOwnOp C (spAdd K C CO CM CS) (WE W) (tVar 0) (tVar 1)) (gName 3)) (Wout := fun _ _ _ _ => False)
          (l := [(.ref CO, tCaught CO "other" "members" 4 2), (.ref CM, tCaught CM "rounds" "count" 4 2), (.ref CS, tCaught CS "scale" "value" 4 2)]) rfl rfl scSum.nd rfl rfl takes0
        (fun W pn xe tk _ => pss_one (ps_set (i := 3) scSum.nd rfl (Or.inl rfl) (by exact (pe_ownOp (E := WE W) OT OI FA hr bA (fun σ => passAt tk σ) (pv 0) (pv 1)))))
        (.more ⟨rfl, by decide, .inl DO.mgx⟩ (fun a oe cls d pn hz hf => pss_one (ps_set (i := 2) scSum.nd rfl (Or.inl rfl) (pe_tup (pa_cons pe_str (pa_cons (pe_xf DO.xf DO.no hz hf (pv 4)) pa_nil)))))
        (.more ⟨rfl, by decide, .inl DM.mgx⟩ (fun a oe cls d pn hz hf => pss_one (ps_set (i := 2) scSum.nd rfl (Or.inl rfl) (pe_tup (pa_cons pe_str (pa_cons (pe_xf DM.xf DM.no hz hf (pv 4)) pa_nil)))))
        (.more ⟨rfl, by decide, .inl DS.mgx⟩ (fun a oe cls d pn hz hf => pss_one (ps_set (i := 2) scSum.nd rfl (Or.inl rfl) (pe_tup (pa_cons pe_str (pa_cons (pe_xf DS.xf DS.no hz hf (pv 4)) pa_nil))))) .none))))
      (pss_one (ps_ret (pe_tup (pa_cons (pv 2) (pa_cons (pv 3) pa_nil)))))), ?_⟩
    refine ⟨by show 2 ≤ sizeLine; decide, fun u nu => ⟨u, _, rfl, SqT.of upd_same, rfl, .non, _, rfl, .non, _, rfl, rfl, ?_⟩⟩
    have s0 : Same H (upd H u (.tup [.non, .non])) := up_new nu
    replace hA := ch_same s0 hA
    replace hB := ch_same s0 hB
    obtain ⟨dx, vs, hs⟩ := ch_slt hA
    obtain ⟨dy, ws, gs⟩ := ch_slt hB
    refine ⟨.ref a, rfl, .ref b, rfl, a, dx, vs, rfl, hs, .inl ⟨b, dy, ws, rfl, gs⟩, a, b, ns, ms, S, S2, R, U, rfl, hA, oA, hB, oB, fun e d H2 q sm e2 hq => ?_, fun e l d H2 sm e2 => ?_, fun e l c d H2 sm e2 => ?_, fun e l c x H2 sm hx => ?_⟩
    · refine ⟨true, X.oo, fun _ z nz => ?_, fun z => Bool.noConfusion z⟩
      refine ⟨.ref z, rfl, rfl, rfl, d, _, .ref q, rfl, e2, rfl, by show 2 ≤ sizeLine; decide, fun t nt => ?_⟩
      refine ⟨.ref t, rfl, .non, rfl, by show 2 ≤ sizeLine; decide, fun p np => ?_⟩
      have s3 : Same H2 (upd H2 t (.tup [.str "other", .ref q])) := up_new nt
      have s4 := up_new (o := .tup [.ref t, .non]) np
      exact kO e p t q _ (((s0.trans sm).trans s3).trans s4) upd_same (s4 _ _ upd_same) (sameT (s3.trans s4) hq)
    · refine ⟨false, X.mo, fun z => Bool.noConfusion z, fun _ => ⟨true, X.mm, fun _ z nz => ?_, fun z => Bool.noConfusion z⟩⟩
      refine ⟨.ref z, rfl, rfl, rfl, d, _, .int _, rfl, e2, rfl, by show 2 ≤ sizeLine; decide, fun t nt => ?_⟩
      refine ⟨.ref t, rfl, .non, rfl, by show 2 ≤ sizeLine; decide, fun p np => ?_⟩
      have s3 : Same H2 (upd H2 t (.tup [.str "rounds", .int ((R.length : Int) + (U.length : Int))])) := up_new nt
      have s4 := up_new (o := .tup [.ref t, .non]) np
      exact kM e l p t _ (((s0.trans sm).trans s3).trans s4) upd_same (s4 _ _ upd_same)
    · refine ⟨false, X.so, fun z => Bool.noConfusion z, fun _ => ⟨false, X.sm, fun z => Bool.noConfusion z, fun _ => ⟨true, X.ss, fun _ z nz => ?_, fun z => Bool.noConfusion z⟩⟩⟩
      refine ⟨.ref z, rfl, rfl, rfl, d, _, .int _, rfl, e2, rfl, by show 2 ≤ sizeLine; decide, fun t nt => ?_⟩
      refine ⟨.ref t, rfl, .non, rfl, by show 2 ≤ sizeLine; decide, fun p np => ?_⟩
      have s3 : Same H2 (upd H2 t (.tup [.str "scale", .int (com S S2)])) := up_new nt
      have s4 := up_new (o := .tup [.ref t, .non]) np
      exact kS e l c p t _ (((s0.trans sm).trans s3).trans s4) upd_same (s4 _ _ upd_same)
    · refine ⟨.non, rfl, .ref x, rfl, by show 2 ≤ sizeLine; decide, fun p np => ?_⟩
      have s4 := up_new (o := .tup [.non, .ref x]) np
      exact kQ e l c p x _ ((s0.trans sm).trans s4) upd_same (ch_same s4 hx)
/-- what _law_product tells -/
def spProduct (K : PySem.W.Frag) (C : Addr) : Sp := fun vs H Q _ => ∃ (a : Addr) (k : Int) (h : Bool) (ns : List Str) (S : Int) (R : List Rnd), vs = [.ref a, .int k, .bl h] ∧ ChAt K C H a ns S R ∧ ChartOk ns S R ∧
  (k < 0 → ∀ p t H2, Same H H2 → H2 p = some (.tup [.ref t, .non]) → H2 t = some (.tup [.str "count", .int k]) → Q (.ref p) H2) ∧
  (0 ≤ k → 240 < (R.length : Int) * k → ∀ p t H2, Same H H2 → H2 p = some (.tup [.ref t, .non]) → H2 t = some (.tup [.str "rounds", .int ((R.length : Int) * k)]) → Q (.ref p) H2) ∧
  (0 ≤ k → (R.length : Int) * k ≤ 240 → ∀ p x H2, Same H H2 → H2 p = some (.tup [.non, .ref x]) → ChAt K C H2 x ns S (rep k R) → Q (.ref p) H2)
theorem scProduct : FnScope ["_law_one", "_law_factor", "_law_ahead", "_law_found", "_law_told", "e"] ["_law_one", "_law_factor", "_law_ahead"] (defScope sProduct) := ⟨rfl, rfl, rfl, by decide +kernel, rfl, by decide +kernel, by decide +kernel⟩
theorem ok_product {f fM fR : Addr} {fd fdM fdR : FuncData} (F : Fun K "_law_product" "_law_product" sProduct f fd) (FM : FnOk P w K mg base (L2.CX P w) 6 fM fdM ["self", "count"] (spMul K C CC CM)) (bM : Binds K fdM ["self", "count"] []) (OT : OpTxt K C fM "mul") (OI : OpInt K C "mul")
    (FR : FnOk P w K mg base (L2.CX P w) 7 fR fdR ["self", "count"] (spMul K C CC CM)) (bR : Binds K fdR ["self", "count"] []) (RT : ReflTxt K C fM fR)
    (DC : ErrC P w K mg base "InvalidCount" "value" CC) (DM : ErrC P w K mg base "TooManyRounds" "count" CM) (X : Exm K CO CM CS CC) : FnOk P w K mg base CX0 8 f fd ["_law_one", "_law_factor", "_law_ahead"] (spProduct K C) := by
  refine F.ok scProduct (fun vs H Q E h => ?_) (fun cdv A outer s H vs Q E hr h => ?_)
  · obtain ⟨a, k, h, ns, S, R, rfl, _⟩ := h
    rfl
  · obtain ⟨a, k, h, ns, S, R, rfl, hA, oA, kC, kM, kQ⟩ := h
    have hr6 : Room 6 _ := hr.mono (by decide : 6 ≤ 7)
    refine ⟨_, pss_cons (ps_asg (pe_tup (pa_cons pe_non (pa_cons pe_non pa_nil))) (pg_tup rfl (pgs_cons (pg_name (i := 3) scProduct.nd rfl (.inl rfl)) (pgs_cons (pg_name (i := 4) scProduct.nd rfl (.inl rfl)) pgs_nil))))
      (pss_cons (ps_try_clauses (i := 5) (tb := fun W => tAsg (tIf (tB (tVar 2)) (tReflMul C (spMul K C CC CM) (WE W) (tVar 1) (tVar 0)) (tOwnOp C (spMul K C CC CM) (WE W) (tVar 0) (tVar 1))) (gName 4)) (Wout := fun _ _ _ _ => False)
          (l := [(.ref CC, tCaught CC "count" "value" 5 3), (.ref CM, tCaught CM "rounds" "count" 5 3)]) rfl rfl scProduct.nd rfl rfl takes0
        (fun W pn xe tk _ => pss_one (ps_set (i := 4) scProduct.nd rfl (Or.inl rfl) (by exact (pe_ifExp (pt_val (pv 2)) (pe_reflMul (E := WE W) RT FR hr bR (fun σ => passAt tk σ) (pv 1) (pv 0)) (pe_ownOp (E := WE W) OT OI FM hr6 bM (fun σ => passAt tk σ) (pv 0) (pv 1))))))
        (.more ⟨rfl, by decide, .inl DC.mgx⟩ (fun a oe cls d pn hz hf => pss_one (ps_set (i := 3) scProduct.nd rfl (Or.inl rfl) (pe_tup (pa_cons pe_str (pa_cons (pe_xf DC.xf DC.no hz hf (pv 5)) pa_nil)))))
        (.more ⟨rfl, by decide, .inl DM.mgx⟩ (fun a oe cls d pn hz hf => pss_one (ps_set (i := 3) scProduct.nd rfl (Or.inl rfl) (pe_tup (pa_cons pe_str (pa_cons (pe_xf DM.xf DM.no hz hf (pv 5)) pa_nil))))) .none)))
      (pss_one (ps_ret (pe_tup (pa_cons (pv 3) (pa_cons (pv 4) pa_nil)))))), ?_⟩
    refine ⟨by show 2 ≤ sizeLine; decide, fun u nu => ⟨u, _, rfl, SqT.of upd_same, rfl, .non, _, rfl, .non, _, rfl, rfl, ?_⟩⟩
    have s0 : Same H (upd H u (.tup [.non, .non])) := up_new nu
    replace hA := ch_same s0 hA
    obtain ⟨dx, vs, hs⟩ := ch_slt hA
    refine ⟨.bl h, rfl, h, rfl, ?_⟩
    cases h with
    | true =>
      refine iteT ?_
      refine ⟨.int k, rfl, .ref a, rfl, k, a, dx, vs, rfl, rfl, hs, a, k, ns, S, R, rfl, hA, oA, fun e d H2 sm e2 => ?_, fun e l d H2 sm e2 => ?_, fun e l x H2 sm hx => ?_⟩
      · refine ⟨true, X.cc, fun _ z nz => ?_, fun z => Bool.noConfusion z⟩
        refine ⟨.ref z, rfl, rfl, rfl, d, _, .int k, rfl, e2, rfl, by show 2 ≤ sizeLine; decide, fun t nt => ?_⟩
        refine ⟨.ref t, rfl, .non, rfl, by show 2 ≤ sizeLine; decide, fun p np => ?_⟩
        have s3 : Same H2 (upd H2 t (.tup [.str "count", .int k])) := up_new nt
        have s4 := up_new (o := .tup [.ref t, .non]) np
        exact kC e p t _ (((s0.trans sm).trans s3).trans s4) upd_same (s4 _ _ upd_same)
      · refine ⟨false, X.mc, fun z => Bool.noConfusion z, fun _ => ⟨true, X.mm, fun _ z nz => ?_, fun z => Bool.noConfusion z⟩⟩
        refine ⟨.ref z, rfl, rfl, rfl, d, _, .int _, rfl, e2, rfl, by show 2 ≤ sizeLine; decide, fun t nt => ?_⟩
        refine ⟨.ref t, rfl, .non, rfl, by show 2 ≤ sizeLine; decide, fun p np => ?_⟩
        have s3 : Same H2 (upd H2 t (.tup [.str "rounds", .int ((R.length : Int) * k)])) := up_new nt
        have s4 := up_new (o := .tup [.ref t, .non]) np
        exact kM e l p t _ (((s0.trans sm).trans s3).trans s4) upd_same (s4 _ _ upd_same)
      · refine ⟨.non, rfl, .ref x, rfl, by show 2 ≤ sizeLine; decide, fun p np => ?_⟩
        have s4 := up_new (o := .tup [.non, .ref x]) np
        exact kQ e l p x _ ((s0.trans sm).trans s4) upd_same (ch_same s4 hx)
    | false =>
      refine iteF ?_
      refine ⟨.ref a, rfl, .int k, rfl, a, dx, vs, rfl, hs, .inr ⟨k, rfl⟩, a, k, ns, S, R, rfl, hA, oA, fun e d H2 sm e2 => ?_, fun e l d H2 sm e2 => ?_, fun e l x H2 sm hx => ?_⟩
      · refine ⟨true, X.cc, fun _ z nz => ?_, fun z => Bool.noConfusion z⟩
        refine ⟨.ref z, rfl, rfl, rfl, d, _, .int k, rfl, e2, rfl, by show 2 ≤ sizeLine; decide, fun t nt => ?_⟩
        refine ⟨.ref t, rfl, .non, rfl, by show 2 ≤ sizeLine; decide, fun p np => ?_⟩
        have s3 : Same H2 (upd H2 t (.tup [.str "count", .int k])) := up_new nt
        have s4 := up_new (o := .tup [.ref t, .non]) np
        exact kC e p t _ (((s0.trans sm).trans s3).trans s4) upd_same (s4 _ _ upd_same)
      · refine ⟨false, X.mc, fun z => Bool.noConfusion z, fun _ => ⟨true, X.mm, fun _ z nz => ?_, fun z => Bool.noConfusion z⟩⟩
        refine ⟨.ref z, rfl, rfl, rfl, d, _, .int _, rfl, e2, rfl, by show 2 ≤ sizeLine; decide, fun t nt => ?_⟩
        refine ⟨.ref t, rfl, .non, rfl, by show 2 ≤ sizeLine; decide, fun p np => ?_⟩
        have s3 : Same H2 (upd H2 t (.tup [.str "rounds", .int ((R.length : Int) * k)])) := up_new nt
        have s4 := up_new (o := .tup [.ref t, .non]) np
        exact kM e l p t _ (((s0.trans sm).trans s3).trans s4) upd_same (s4 _ _ upd_same)
      · refine ⟨.non, rfl, .ref x, rfl, by show 2 ≤ sizeLine; decide, fun p np => ?_⟩
        have s4 := up_new (o := .tup [.non, .ref x]) np
        exact kQ e l p x _ ((s0.trans sm).trans s4) upd_same (ch_same s4 hx)
end
end KP

set_option Elab.async false
set_option linter.all false
set_option maxRecDepth 100000
set_option maxHeartbeats 4000000
/-! # The sums and the products of the law -/
namespace KP
open PySem PySem.Spec PyProof.Rows L2 KR KM

def tPostA (t : TA) : TA := fun σ H Q => ∃ N : List V → Hp → Prop, t σ H N ∧ ∀ vs H', N vs H' → Q vs H'
theorem pa_post {X : Cx} {es : List Expr} {t : TA} (h : PA X es t) : PA X es (tPostA t) := ⟨fun pos pins s σ H Q I ⟨N, hN, k⟩ => thn (h.run pos pins s σ H N I hN) fun us s1 ⟨vs, H1, I1, r1, q⟩ => ⟨vs, H1, I1, r1, k _ _ q⟩⟩
/-- Chart(e1, e2, e3), all of it good -/
def tChart (K : PySem.W.Frag) (C : Addr) (ta : TA) : TE := fun σ H Q => ta σ H fun vs H1 => ∃ (p : Addr) (S : Int) (q : Addr) (ns : List Str) (R : List Rnd), vs = [.ref p, .int S, .ref q] ∧ SqA K H1 p (ns.map V.str) ∧ TbA K H1 q R ∧ ChartOk ns S R ∧ ∀ x H', Same H1 H' → ChAt K C H' x ns S R → Q (.ref x) H'
theorem pe_good {X : Cx} {C : Addr} {e1 e2 e3 : Expr} {ta : TA} {p pos : Pos} {j : Nat} (T : ChC X.K X.mg C) (M : ChMk X.prog X.w X.K X.mg X.base C) (hr : Room j X.A) (ha : PA X [e1, e2, e3] ta) (hj : 5 ≤ j := by decide) (hg : Gl X "Chart" := by rfl)
    (he : starEach [e1, e2, e3] X.env = (false, eval e1 X.env) :: starEach [e2, e3] X.env := by rfl) (hpl : (backTo pos (starEach [e2, e3] X.env)).any (·.1) = false := by rfl) : PE X (.Call (.Name "Chart" p) [e1, e2, e3] [] pos) (tChart X.K C ta) :=
  ⟨fun pins s σ H Q I h => (pe_chart T M hr (pa_post ha) hj hg he hpl).run pins s σ H Q I ⟨_, h, fun vs H1 h1 => by
    obtain ⟨p, S, q, ns, R, rfl, hM, hT, ok, k⟩ := h1
    exact chart_post hM hT ok k⟩⟩
theorem shaped_pair (z : Str) (n : Int) (h : PyData.strOk z = true) : SeqAt.shaped (.tuple [.str z, .int n]) = true := by
  refine shaped_mk ?_ ?_
  · simp only [PyData.canLay0, PyData.canLayAll0, h, Bool.and_true]
  · simp only [PyData.depth, PyData.depthAll]
    decide
theorem eqv_pair (z : Str) (n m : Int) : PyData.eqv (.tuple [.str z, .int n]) (.tuple [.str z, .int m]) = decide (n = m) := by
  simp only [PyData.eqv, PyData.eqvAll, Bool.and_true, beq_self_eq_true, Bool.true_and]
  by_cases h : n = m
  · subst h
    simp
  · simp [h]
theorem dp_pair {K : PySem.W.Frag} {H : Hp} {t : Addr} {z : Str} {n : Int} (h : H t = some (.tup [.str z, .int n])) : Dp K H (.ref t) (.tuple [.str z, .int n]) := .tup (SqT.of h) (.cons (.str z) (.cons (.int n) .nil))
theorem str_rounds : PyData.strOk "rounds" = true := by decide +kernel
theorem str_scale : PyData.strOk "scale" = true := by decide +kernel
theorem str_count : PyData.strOk "count" = true := by decide +kernel
theorem p12 : (10 : Int) ^ (12 : Int).toNat = 1000000000000 := by decide
def spSums (K : PySem.W.Frag) : Sp := fun vs H Q _ => ∃ (n p1 p2 t1 t2 : Addr) (ns : List Str) (S T : Int) (R U : List Rnd), vs = [.ref n, .ref p1, .ref p2] ∧ SqL K H n (ns.map V.str) ∧ SqT K H p1 [.int S, .ref t1] ∧ SqT K H p2 [.int T, .ref t2] ∧ TbD H t1 R ∧ TbD H t2 U ∧
  ChartOk ns S R ∧ ChartOk ns T U ∧ ∀ H', Same H H' → Q (.bl true) H'
section
variable {P : Program} {w : World} {K : PySem.W.Frag} {mg : Str → Option Value} {base : Heap} {C : Addr}
theorem scSums : FnScope ["_law_names_here", "_law_one", "_law_two", "_law_chart", "_law_other", "_law_scale_here", "_law_found", "_law_told", "_law_due"] ["_law_names_here", "_law_one", "_law_two"] (defScope sSums) := ⟨rfl, rfl, rfl, by decide +kernel, rfl, by decide +kernel, by decide +kernel⟩
theorem ok_sums {f : Addr} {fd : FuncData} (F : Fun K "_law_sums" "_law_sums" sSums f fd) (B : Blt mg) (T : ChC K mg C) (M : ChMk P w K mg base C)
    (DV : Dfn P w K mg base 1 "_law_divisor" ["_law_one", "_law_two"] spDivisor) (DS : Dfn P w K mg base 7 "_law_sum" ["_law_one", "_law_two"] (spSum K C)) (DT : Dfn P w K mg base 1 "_law_times" ["_law_table_here", "_law_factor"] (spTimes K))
    (DC : Dfn P w K mg base 2 "_law_is_chart" ["_law_told", "_law_names_here", "_law_top", "_law_table_here"] (spIsChart K C)) : FnOk P w K mg base CX0 8 f fd ["_law_names_here", "_law_one", "_law_two"] (spSums K) := by
  refine F.ok scSums (fun vs H Q E h => ?_) (fun cdv A outer s H vs Q E hr h => ?_)
  · obtain ⟨n, p1, p2, t1, t2, ns, S, T, R, U, rfl, _⟩ := h
    rfl
  · obtain ⟨n, p1, p2, t1, t2, ns, S, S2, R, U, rfl, hn, h1, h2, g1, g2, o1, o2, q⟩ := h
    refine ⟨_, pss_cons (ps_par (i := 3) (j := 4) rfl scSums.nd rfl rfl (by decide) rfl rfl (pa_cons (pe_good T M hr (pa_cons (pv 0) (pa_cons (pe_ix ix_tup (pv 1) pe_int (fun _ _ => rfl)) (pa_cons (pe_ix ix_tup (pv 1) pe_int (fun _ _ => rfl)) pa_nil))))
        (pa_cons (pe_good T M hr (pa_cons (pv 0) (pa_cons (pe_ix ix_tup (pv 2) pe_int (fun _ _ => rfl)) (pa_cons (pe_ix ix_tup (pv 2) pe_int (fun _ _ => rfl)) pa_nil)))) pa_nil)) (by rfl))
      (pss_cons (ps_set (i := 5) scSums.nd rfl (Or.inl rfl) (pe_op op_mul (pe_op op_fdivW (pe_ix ix_tup (pv 1) pe_int (fun _ _ => rfl)) (pe_fn DV hr (pa_cons (pe_ix ix_tup (pv 1) pe_int (fun _ _ => rfl)) (pa_cons (pe_ix ix_tup (pv 2) pe_int (fun _ _ => rfl)) pa_nil)))) (pe_ix ix_tup (pv 2) pe_int (fun _ _ => rfl))))
      (pss_cons (ps_asg (pe_fn DS hr (pa_cons (pv 3) (pa_cons (pv 4) pa_nil))) (pg_tup rfl (pgs_cons (pg_name (i := 6) scSums.nd rfl (.inl rfl)) (pgs_cons (pg_name (i := 7) scSums.nd rfl (.inl rfl)) pgs_nil))))
      (pss_cons (ps_if (pt_cmpR op_gt (pe_op op_add (pe_len B (pe_ix ix_tup (pv 1) pe_int (fun _ _ => rfl))) (pe_len B (pe_ix ix_tup (pv 2) pe_int (fun _ _ => rfl)))) pe_int (nomark _))
        (pss_one (ps_ret (pe_cmpR (op_eqD hr.units) (pv 6) (pe_tup (pa_cons pe_str (pa_cons (pe_op op_add (pe_len B (pe_ix ix_tup (pv 1) pe_int (fun _ _ => rfl))) (pe_len B (pe_ix ix_tup (pv 2) pe_int (fun _ _ => rfl)))) pa_nil))) (nomark _)))) pss_nil)
      (pss_cons (ps_if (pt_cmpR op_gt (pv 5) (pe_op op_pow pe_int pe_int) (nomark _)) (pss_one (ps_ret (pe_cmpR (op_eqD hr.units) (pv 6) (pe_tup (pa_cons pe_str (pa_cons (pv 5) pa_nil))) (nomark _)))) pss_nil)
      (pss_cons (ps_set (i := 8) scSums.nd rfl (Or.inl rfl) (pe_op op_cat (pe_fn DT hr (pa_cons (pe_ix ix_tup (pv 1) pe_int (fun _ _ => rfl)) (pa_cons (pe_op op_fdivW (pv 5) (pe_ix ix_tup (pv 1) pe_int (fun _ _ => rfl))) pa_nil))) (pe_fn DT hr (pa_cons (pe_ix ix_tup (pv 2) pe_int (fun _ _ => rfl)) (pa_cons (pe_op op_fdivW (pv 5) (pe_ix ix_tup (pv 2) pe_int (fun _ _ => rfl))) pa_nil)))))
      (pss_cons (ps_if (PW.pt (pw_or (pt_cmpR op_notN (pv 6) pe_non (nomark _)) (pw_or1 (pt_not (pt_val (pe_fn DC hr (pa_cons (pv 7) (pa_cons (pv 0) (pa_cons (pv 5) (pa_cons (pv 8) pa_nil)))))))))) (pss_one (ps_ret pe_bl)) pss_nil)
      (pss_one (ps_ret (pe_and (pe_fn DC hr (pa_cons (pv 3) (pa_cons (pv 0) (pa_cons (pe_ix ix_tup (pv 1) pe_int (fun _ _ => rfl)) (pa_cons (pe_ix ix_tup (pv 1) pe_int (fun _ _ => rfl)) pa_nil))))) (pe_one (pe_fn DC hr (pa_cons (pv 4) (pa_cons (pv 0) (pa_cons (pe_ix ix_tup (pv 2) pe_int (fun _ _ => rfl)) (pa_cons (pe_ix ix_tup (pv 2) pe_int (fun _ _ => rfl)) pa_nil))))))))))))))), ?_⟩
    have l1 := o1.lo
    have l2 := o2.lo
    have u1 := o1.hi
    have u2 := o2.hi
    have f1 := o1.few
    have f2 := o2.few
    refine ⟨.ref n, rfl, .ref p1, rfl, p1, _, 0, .int S, rfl, rfl, h1, rfl, .ref p1, rfl, p1, _, 1, .ref t1, rfl, rfl, h1, rfl, n, S, t1, ns, R, rfl, .inl hn, ta_of_l (td_l g1), o1, fun c1 H1 s1 k1 => ?_⟩
    refine ⟨.ref n, rfl, .ref p2, rfl, p2, _, 0, .int S2, rfl, rfl, sameT s1 h2, rfl, .ref p2, rfl, p2, _, 1, .ref t2, rfl, rfl, sameT s1 h2, rfl, n, S2, t2, ns, U, rfl, .inl (s1.seq hn), ta_of_l (td_l (td_same s1 g2)), o2, fun c2 H2 s2 k2 => ⟨_, _, rfl, ?_⟩⟩
    have s12 := s1.trans s2
    replace k1 := ch_same s2 k1
    replace hn := s12.seq hn
    replace h1 := sameT s12 h1
    replace h2 := sameT s12 h2
    replace g1 := td_same s12 g1
    replace g2 := td_same s12 g2
    have g0 : 0 < Nat.gcd S.toNat S2.toNat := Nat.gcd_pos_of_pos_left _ (by omega)
    have gl : Nat.gcd S.toNat S2.toNat ≤ S.toNat := Nat.gcd_le_left _ (by omega)
    have d0 : 0 ≤ S / (Nat.gcd S.toNat S2.toNat : Nat) := Int.ediv_nonneg (by omega) (by omega)
    have d1 : S / (Nat.gcd S.toNat S2.toNat : Nat) ≤ S := Int.ediv_le_self _ (by omega)
    refine ⟨.ref p1, rfl, p1, _, 0, .int S, rfl, rfl, h1, rfl, .ref p1, rfl, p1, _, 0, .int S, rfl, rfl, h1, rfl, .ref p2, rfl, p2, _, 0, .int S2, rfl, rfl, h2, rfl, S, S2, rfl, by omega, by omega, by omega, _, _, rfl, rfl,
      wide_div (b := 64) (by omega) (by omega) (by decide) (by decide), .ref p2, rfl, p2, _, 0, .int S2, rfl, rfl, h2, rfl, _, _, rfl, rfl, .inl ⟨by show _ < S / _; omega, by show S / _ < _; omega⟩, ?_⟩
    refine ⟨.ref c1, rfl, .ref c2, rfl, c1, c2, ns, ns, S, S2, R, U, rfl, k1, o1, k2, o2, fun e => absurd rfl e, fun _ lt p t H3 s3 e1 e2 => ?_, fun _ le ct p t H3 s3 e1 e2 => ?_, fun _ le cl p x H3 s3 e1 hx => ?_⟩
    · refine ⟨p, _, rfl, SqT.of e1, rfl, .ref t, _, rfl, .non, _, rfl, rfl, ?_⟩
      replace h1 := sameT s3 h1
      replace h2 := sameT s3 h2
      obtain ⟨as, ga, al⟩ := tb_al (td_same s3 g1)
      obtain ⟨bs, gb, bl⟩ := tb_al (td_same s3 g2)
      have eR : (as.map V.ref).length = R.length := by rw [List.length_map]; exact al.1
      have eU : (bs.map V.ref).length = U.length := by rw [List.length_map]; exact bl.1
      refine ⟨.ref p1, rfl, p1, _, 1, .ref t1, rfl, rfl, h1, rfl, t1, _, rfl, .inl (SqL.of ga), .ref p2, rfl, p2, _, 1, .ref t2, rfl, rfl, h2, rfl, t2, _, rfl, .inl (SqL.of gb), _, _, rfl, rfl, _, _, rfl, rfl, _, rfl, ifT (decide_eq_true (by omega)) ?_⟩
      refine ⟨.ref t, rfl, .ref p1, rfl, p1, _, 1, .ref t1, rfl, rfl, h1, rfl, t1, _, rfl, .inl (SqL.of ga), .ref p2, rfl, p2, _, 1, .ref t2, rfl, rfl, h2, rfl, t2, _, rfl, .inl (SqL.of gb), _, _, rfl, rfl, by show 2 ≤ sizeLine; decide, fun z nz => ?_⟩
      refine ⟨_, _, dp_pair (up_new nz _ _ e2), dp_pair upd_same, shaped_pair _ _ str_rounds, shaped_pair _ _ str_rounds, ?_⟩
      rw [eqv_pair, decide_eq_true (by rw [eR, eU])]
      exact q _ ((s12.trans s3).trans (up_new nz))
    · refine ⟨p, _, rfl, SqT.of e1, rfl, .ref t, _, rfl, .non, _, rfl, rfl, ?_⟩
      replace h1 := sameT s3 h1
      replace h2 := sameT s3 h2
      obtain ⟨as, ga, al⟩ := tb_al (td_same s3 g1)
      obtain ⟨bs, gb, bl⟩ := tb_al (td_same s3 g2)
      have eR : (as.map V.ref).length = R.length := by rw [List.length_map]; exact al.1
      have eU : (bs.map V.ref).length = U.length := by rw [List.length_map]; exact bl.1
      refine ⟨.ref p1, rfl, p1, _, 1, .ref t1, rfl, rfl, h1, rfl, t1, _, rfl, .inl (SqL.of ga), .ref p2, rfl, p2, _, 1, .ref t2, rfl, rfl, h2, rfl, t2, _, rfl, .inl (SqL.of gb), _, _, rfl, rfl, _, _, rfl, rfl, _, rfl, ifF (decide_eq_false (by omega)) ?_⟩
      refine ⟨.int (com S S2), rfl, 10, 12, rfl, rfl, ⟨by decide, by decide, by decide⟩, _, _, rfl, rfl, _, rfl, ifT (decide_eq_true (by rw [p12]; exact ct)) ?_⟩
      refine ⟨.ref t, rfl, .int (com S S2), rfl, by show 2 ≤ sizeLine; decide, fun z nz => ?_⟩
      refine ⟨_, _, dp_pair (up_new nz _ _ e2), dp_pair upd_same, shaped_pair _ _ str_scale, shaped_pair _ _ str_scale, ?_⟩
      rw [eqv_pair, decide_eq_true rfl]
      exact q _ ((s12.trans s3).trans (up_new nz))
    · refine ⟨p, _, rfl, SqT.of e1, rfl, .non, _, rfl, .ref x, _, rfl, rfl, ?_⟩
      replace h1 := sameT s3 h1
      replace h2 := sameT s3 h2
      replace hn := s3.seq hn
      replace k1 := ch_same s3 k1
      replace k2 := ch_same s3 k2
      have g1' := td_same s3 g1
      have g2' := td_same s3 g2
      obtain ⟨as, ga, al⟩ := tb_al g1'
      obtain ⟨bs, gb, bl⟩ := tb_al g2'
      have eR : (as.map V.ref).length = R.length := by rw [List.length_map]; exact al.1
      have eU : (bs.map V.ref).length = U.length := by rw [List.length_map]; exact bl.1
      refine ⟨.ref p1, rfl, p1, _, 1, .ref t1, rfl, rfl, h1, rfl, t1, _, rfl, .inl (SqL.of ga), .ref p2, rfl, p2, _, 1, .ref t2, rfl, rfl, h2, rfl, t2, _, rfl, .inl (SqL.of gb), _, _, rfl, rfl, _, _, rfl, rfl, _, rfl, ifF (decide_eq_false (by omega)) ?_⟩
      refine ⟨.int (com S S2), rfl, 10, 12, rfl, rfl, ⟨by decide, by decide, by decide⟩, _, _, rfl, rfl, _, rfl, ifF (decide_eq_false (by rw [p12]; omega)) ?_⟩
      have wd : ∀ {i : Int}, CDivW i S := wide_div (b := 64) (by omega) (by omega) (by decide) (by decide)
      have wd2 : ∀ {i : Int}, CDivW i S2 := wide_div (b := 64) (by omega) (by omega) (by decide) (by decide)
      refine ⟨.ref p1, rfl, p1, _, 1, .ref t1, rfl, rfl, h1, rfl, .int (com S S2), rfl, .ref p1, rfl, p1, _, 0, .int S, rfl, rfl, h1, rfl, com S S2, S, rfl, rfl, wd, t1, com S S2 / S, R, rfl, td_l g1', by omega, crow_ok o1, fun e1' H4 s4 k4 => ?_⟩
      refine ⟨.ref p2, rfl, p2, _, 1, .ref t2, rfl, rfl, sameT s4 h2, rfl, .int (com S S2), rfl, .ref p2, rfl, p2, _, 0, .int S2, rfl, rfl, sameT s4 h2, rfl, com S S2, S2, rfl, rfl, wd2, t2, com S S2 / S2, U, rfl, td_l (td_same s4 g2'), by omega, crow_ok o2, fun e2' H5 s5 k5 => ?_⟩
      obtain ⟨cs, c5, cl5⟩ := tb_al (td_same s5 k4)
      obtain ⟨ds, d5, dl5⟩ := tb_al k5
      have lc := cl5.1
      have ld := dl5.1
      rw [times_len] at lc ld
      refine ⟨e1', e2', _, _, rfl, rfl, c5, d5, line12 (by rw [List.length_map, List.length_map]; omega), fun d3 n3 => ?_⟩
      have s6 := up_new (o := .lst (cs.map V.ref ++ ds.map V.ref)) n3
      have due : TbD (upd H5 d3 (.lst (cs.map V.ref ++ ds.map V.ref))) d3 (times R (com S S2 / S) ++ times U (com S S2 / S2)) :=
        tb_of (S := fun H a xs => H a = some (.lst xs)) (as := cs ++ ds) (by rw [upd_same, List.map_append]) ((cl5.imp fun p r e => s6 _ _ e).app (dl5.imp fun p r e => s6 _ _ e))
      have s46 := (s4.trans s5).trans s6
      refine ⟨.non, rfl, rfl, _, rfl, ifF (by rfl) ?_⟩
      refine ⟨.ref x, rfl, .ref n, rfl, .int (com S S2), rfl, .ref d3, rfl, x, n, com S S2, d3, ns, _, rfl, ch_same s46 hx, s46.seq hn, td_l due, fun H7 s7 => ⟨true, rfl, iteF ?_⟩⟩
      have s37 := s46.trans s7
      have h1' := sameT s37 h1
      refine ⟨.ref c1, rfl, .ref n, rfl, .ref p1, rfl, p1, _, 0, .int S, rfl, rfl, h1', rfl, .ref p1, rfl, p1, _, 1, .ref t1, rfl, rfl, h1', rfl, c1, n, S, t1, ns, R, rfl, ch_same s37 k1, s37.seq hn, td_l (td_same s37 g1'), fun H8 s8 => ⟨true, rfl, iteT ?_⟩⟩
      have s38 := s37.trans s8
      have h2' := sameT s38 h2
      refine ⟨.ref c2, rfl, .ref n, rfl, .ref p2, rfl, p2, _, 0, .int S2, rfl, rfl, h2', rfl, .ref p2, rfl, p2, _, 1, .ref t2, rfl, rfl, h2', rfl, c2, n, S2, t2, ns, U, rfl, ch_same s38 k2, s38.seq hn, td_l (td_same s38 g2'), fun H9 s9 => ?_⟩
      exact q _ ((s12.trans s3).trans (s38.trans s9))
end
end KP

set_option Elab.async false
set_option linter.all false
set_option maxRecDepth 100000
set_option maxHeartbeats 4000000
/-! # The products and the turns of the law -/
namespace KP
open PySem PySem.Spec PyProof.Rows L2 KR KM

def spProducts (K : PySem.W.Frag) : Sp := fun vs H Q _ => ∃ (n : Addr) (S : Int) (t : Addr) (k : Int) (ns : List Str) (R : List Rnd), vs = [.ref n, .int S, .ref t, .int k] ∧ SqL K H n (ns.map V.str) ∧ TbD H t R ∧ ChartOk ns S R ∧ ∀ H', Same H H' → Q (.bl true) H'
section
variable {P : Program} {w : World} {K : PySem.W.Frag} {mg : Str → Option Value} {base : Heap} {C : Addr}
theorem scProducts : FnScope ["_law_names_here", "_law_top", "_law_table_here", "_law_factor", "_law_chart", "_law_ahead", "_law_found", "_law_told", "_law_due"] ["_law_names_here", "_law_top", "_law_table_here", "_law_factor"] (defScope sProducts) := ⟨rfl, rfl, rfl, by decide +kernel, rfl, by decide +kernel, by decide +kernel⟩
theorem ok_products {f : Addr} {fd : FuncData} (F : Fun K "_law_products" "_law_products" sProducts f fd) (B : Blt mg) (T : ChC K mg C) (M : ChMk P w K mg base C) (DP : Dfn P w K mg base 8 "_law_product" ["_law_one", "_law_factor", "_law_ahead"] (spProduct K C))
    (DC : Dfn P w K mg base 2 "_law_is_chart" ["_law_told", "_law_names_here", "_law_top", "_law_table_here"] (spIsChart K C)) : FnOk P w K mg base CX0 9 f fd ["_law_names_here", "_law_top", "_law_table_here", "_law_factor"] (spProducts K) := by
  refine F.ok scProducts (fun vs H Q E h => ?_) (fun cdv A outer s H vs Q E hr h => ?_)
  · obtain ⟨n, S, t, k, ns, R, rfl, _⟩ := h
    rfl
  · obtain ⟨n, S, t, k, ns, R, rfl, hn, hT, ok, q⟩ := h
    refine ⟨_, pss_cons (ps_set (i := 4) scProducts.nd rfl (Or.inl rfl) (pe_good T M hr (pa_cons (pv 0) (pa_cons (pv 1) (pa_cons (pv 2) pa_nil)))))
      (pss_cons (ps_for PassesOwn.never rfl (pi_seqA (pe_tup (pa_cons pe_bl (pa_cons pe_bl pa_nil)))) (pg_name (i := 5) scProducts.nd rfl (.inl rfl))
        (pss_cons (ps_asg (pe_fn DP hr (pa_cons (pv 4) (pa_cons (pv 3) (pa_cons (pv 5) pa_nil)))) (pg_tup rfl (pgs_cons (pg_name (i := 6) scProducts.nd rfl (.inl rfl)) (pgs_cons (pg_name (i := 7) scProducts.nd rfl (.inl rfl)) pgs_nil))))
        (pss_one (ps_if (pt_cmpR op_lt (pv 3) pe_int (nomark _))
          (pss_one (ps_if (pt_cmpR (op_neD hr.units) (pv 6) (pe_tup (pa_cons pe_str (pa_cons (pv 3) pa_nil))) (nomark _)) (pss_one (ps_ret pe_bl)) pss_nil))
          (pss_one (ps_if (pt_cmpR op_gt (pe_op op_mul (pe_len B (pv 2)) (pv 3)) pe_int (nomark _))
            (pss_one (ps_if (pt_cmpR (op_neD hr.units) (pv 6) (pe_tup (pa_cons pe_str (pa_cons (pe_op op_mul (pe_len B (pv 2)) (pv 3)) pa_nil))) (nomark _)) (pss_one (ps_ret pe_bl)) pss_nil))
            (pss_cons (ps_set (i := 8) scProducts.nd rfl (Or.inl rfl) (pe_post (pe_ifExp (pt_cmpR (op_neD hr.units) (pv 2) (pe_lst pa_nil) (nomark _)) (pe_op op_rep (pv 2) (pv 3)) (pe_lst pa_nil))))
            (pss_one (ps_if (PW.pt (pw_or (pt_cmpR op_notN (pv 6) pe_non (nomark _)) (pw_or1 (pt_not (pt_val (pe_fn DC hr (pa_cons (pv 7) (pa_cons (pv 0) (pa_cons (pv 1) (pa_cons (pv 8) pa_nil)))))))))) (pss_one (ps_ret pe_bl)) pss_nil)))))))))
      (pss_one (ps_ret (pe_fn DC hr (pa_cons (pv 4) (pa_cons (pv 0) (pa_cons (pv 1) (pa_cons (pv 2) pa_nil)))))))), ?_⟩
    have fw := ok.few
    refine ⟨.ref n, rfl, .int S, rfl, .ref t, rfl, n, S, t, ns, R, rfl, .inl hn, ta_of_l (td_l hT), ok, fun c H1 s1 hc => ?_⟩
    replace hn := s1.seq hn
    replace hT := td_same s1 hT
    refine ⟨by show 2 ≤ sizeLine; decide, fun u nu => ⟨u, _, rfl, .inr (SqT.of upd_same), fun J G hG mono wk => ?_⟩⟩
    have su : Same H1 (upd H1 u (.tup [.bl true, .bl false])) := up_new nu
    refine for_it (wk.mono (G' := fun H' => Same (upd H1 u (.tup [.bl true, .bl false])) H') (fun H' sm => mono _ _ sm hG) (fun _ _ _ _ _ _ y => y)) (fun i σ H' => (∃ y5 y6 y7 y8, σ = [some (.ref n), some (.int S), some (.ref t), some (.int k), some (.ref c), y5, y6, y7, y8]) ∧ Same (upd H1 u (.tup [.bl true, .bl false])) H') ⟨⟨none, none, none, none, rfl⟩, Same.refl _⟩ (fun _ _ _ _ h => h.2)
      (fun i x σ H2 H3 hi hP hy => ?_) (fun σ H2 hP => ?_)
    · obtain ⟨⟨y5, y6, y7, y8, rfl⟩, sm⟩ := hP
      obtain ⟨rfl, hx⟩ := hy
      obtain ⟨h, rfl⟩ : ∃ h : Bool, x = .bl h := by
        have hi2 : i = 0 ∨ i = 1 := by
          have hi3 : i < 2 := hi
          omega
        rcases hi2 with rfl | rfl
        · exact ⟨true, (Option.some.inj hx).symm⟩
        · exact ⟨false, (Option.some.inj hx).symm⟩
      have s12 := su.trans sm
      have hn2 := s12.seq hn
      have hT2 := td_same s12 hT
      refine ⟨.ref c, rfl, .int k, rfl, .bl h, rfl, c, k, h, ns, S, R, rfl, ch_same s12 hc, ok, fun k0 p e H4 s4 e1 e2 => ?_, fun k0 kl p e H4 s4 e1 e2 => ?_, fun k0 kl p x H4 s4 e1 hx => ?_⟩
      · refine ⟨p, _, rfl, SqT.of e1, rfl, .ref e, _, rfl, .non, _, rfl, rfl, ?_⟩
        refine ⟨.int k, rfl, _, _, rfl, rfl, _, rfl, ifT (decide_eq_true k0) ?_⟩
        refine ⟨.ref e, rfl, .int k, rfl, by show 2 ≤ sizeLine; decide, fun z nz => ?_⟩
        refine ⟨_, _, dp_pair (up_new nz _ _ e2), dp_pair upd_same, shaped_pair _ _ str_count, shaped_pair _ _ str_count, _, rfl, ifF (by rw [eqv_pair]; simp) ?_⟩
        exact ⟨⟨_, _, _, _, rfl⟩, (sm.trans s4).trans (up_new nz)⟩
      · obtain ⟨as, ga, al⟩ := tb_al (td_same s4 hT2)
        have eR : (as.map V.ref).length = R.length := by rw [List.length_map]; exact al.1
        rw [← eR] at kl e2
        have cm : CMul ((as.map V.ref).length : Int) k := .inl ⟨by omega, by omega⟩
        refine ⟨p, _, rfl, SqT.of e1, rfl, .ref e, _, rfl, .non, _, rfl, rfl, ?_⟩
        refine ⟨.int k, rfl, _, _, rfl, rfl, _, rfl, ifF (decide_eq_false (by omega)) ?_⟩
        refine ⟨.ref t, rfl, t, _, rfl, .inl (SqL.of ga), .int k, rfl, _, _, rfl, rfl, cm, _, _, rfl, rfl, _, rfl, ifT (decide_eq_true kl) ?_⟩
        refine ⟨.ref e, rfl, .ref t, rfl, t, _, rfl, .inl (SqL.of ga), .int k, rfl, _, _, rfl, rfl, cm, by show 2 ≤ sizeLine; decide, fun z nz => ?_⟩
        refine ⟨_, _, dp_pair (up_new nz _ _ e2), dp_pair upd_same, shaped_pair _ _ str_rounds, shaped_pair _ _ str_rounds, _, rfl, ifF (by rw [eqv_pair]; simp) ?_⟩
        exact ⟨⟨_, _, _, _, rfl⟩, (sm.trans s4).trans (up_new nz)⟩
      · have hT4 := td_same s4 hT2
        obtain ⟨as, ga, al⟩ := tb_al hT4
        have eR : (as.map V.ref).length = R.length := by rw [List.length_map]; exact al.1
        have kl2 := kl
        rw [← eR] at kl2
        have cm : CMul ((as.map V.ref).length : Int) k := .inl ⟨by omega, by omega⟩
        refine ⟨p, _, rfl, SqT.of e1, rfl, .non, _, rfl, .ref x, _, rfl, rfl, ?_⟩
        refine ⟨.int k, rfl, _, _, rfl, rfl, _, rfl, ifF (decide_eq_false (by omega)) ?_⟩
        refine ⟨.ref t, rfl, t, _, rfl, .inl (SqL.of ga), .int k, rfl, _, _, rfl, rfl, cm, _, _, rfl, rfl, _, rfl, ifF (decide_eq_false (by omega)) ?_⟩
        refine ⟨fun v H5 => ∃ d, v = .ref d ∧ Same H4 H5 ∧ TbD H5 d (rep k R), ⟨.ref t, rfl, Nat.zero_le _, fun z nz => ?_⟩, fun v H5 hN => ?_⟩
        · have sz : Same H4 (upd H4 z (.lst [])) := up_new nz
          refine ⟨_, _, dp_table (K := K) (td_l (td_same sz hT4)), .lst (SqL.of upd_same) .nil, shaped_rows R, shaped_nil, _, rfl, ?_⟩
          rw [eqv_nil]
          by_cases e0 : R = []
          · refine ifF (by simp [e0]) ⟨Nat.zero_le _, fun d nd => ⟨d, rfl, sz.trans (up_new nd), ?_⟩⟩
            have e3 : rep k R = [] := by
              rw [e0]
              unfold rep
              simp
            rw [e3]
            exact ⟨[], upd_same, rfl, fun i p r e _ => by simp at e⟩
          · have lR : 0 < R.length := List.length_pos_iff.mpr e0
            have k240 : k ≤ 240 := by
              have z : 1 * k ≤ (R.length : Int) * k := Int.mul_le_mul_of_nonneg_right (by omega) k0
              omega
            have lt : (as.map V.ref).length * k.toNat ≤ 240 := by
              obtain ⟨m, rfl⟩ := Int.eq_ofNat_of_zero_le k0
              rw [Int.toNat_natCast]
              exact_mod_cast kl2
            refine ifT (by simp [e0]) ⟨.ref t, rfl, .int k, rfl, t, k, _, rfl, rfl, sz _ _ ga, by omega, by omega, line12 (by omega), fun d nd => ⟨d, rfl, sz.trans (up_new nd), ?_⟩⟩
            have sd := sz.trans (up_new (o := .lst (List.replicate k.toNat (as.map V.ref)).flatten) nd)
            exact tb_of (S := fun H a xs => H a = some (.lst xs)) (as := (List.replicate k.toNat as).flatten) (by rw [upd_same, map_rep]) ((al.imp fun p r e => sd _ _ e).rep k.toNat)
        · obtain ⟨d, rfl, s5, due⟩ := hN
          have s45 := s4.trans s5
          refine ⟨.non, rfl, rfl, _, rfl, ifF (by rfl) ?_⟩
          refine ⟨.ref x, rfl, .ref n, rfl, .int S, rfl, .ref d, rfl, x, n, S, d, ns, _, rfl, ch_same s5 hx, s45.seq hn2, td_l due, fun H6 s6 => ⟨true, rfl, iteF ?_⟩⟩
          exact ⟨⟨_, _, _, _, rfl⟩, (sm.trans s45).trans s6⟩
    · obtain ⟨⟨y5, y6, y7, y8, rfl⟩, sm⟩ := hP
      have s12 := su.trans sm
      refine ⟨.ref c, rfl, .ref n, rfl, .int S, rfl, .ref t, rfl, c, n, S, t, ns, R, rfl, ch_same s12 hc, s12.seq hn, td_l (td_same s12 hT), fun H3 s3 => q H3 ((s1.trans s12).trans s3)⟩
def spTurned (K : PySem.W.Frag) : Sp := fun vs H Q _ => ∃ (n : Addr) (S : Int) (t : Addr) (k : Int) (ns : List Str) (R : List Rnd), vs = [.ref n, .int S, .ref t, .int k] ∧ SqL K H n (ns.map V.str) ∧ TbD H t R ∧ ChartOk ns S R ∧ ∀ H', Same H H' → Q (.bl true) H'
def tAt0 (k : Int) (R : List Rnd) : Nat := if R = [] then 0 else tAt k R.length
theorem turn0 (k : Int) (R : List Rnd) : turn (tAt0 k R) R = turn (tAt k R.length) R := by
  unfold tAt0
  by_cases h : R = []
  · rw [h]
    unfold turn
    simp
  · rw [if_neg h]
theorem tAt_le {k : Int} {R : List Rnd} (h : R ≠ []) : tAt k R.length ≤ R.length := by
  have lR : 0 < R.length := List.length_pos_iff.mpr h
  have h1 : k % (R.length : Int) < (R.length : Int) := Int.emod_lt_of_pos _ (by omega)
  have h0 : 0 ≤ k % (R.length : Int) := Int.emod_nonneg _ (by omega)
  unfold tAt
  omega
theorem tAt0_le (k : Int) (R : List Rnd) : tAt0 k R ≤ R.length := by
  unfold tAt0
  by_cases h : R = []
  · rw [if_pos h]
    exact Nat.zero_le _
  · rw [if_neg h]
    exact tAt_le h
theorem there_back (k : Int) (R : List Rnd) : turn (tAt (-k) (turn (tAt k R.length) R).length) (turn (tAt k R.length) R) = R := by
  rw [turn_len]
  by_cases h : R = []
  · rw [h]
    unfold turn
    simp
  · exact turn_back R (tAt_le h) (tAt_le h) (mod_back (List.length_pos_iff.mpr h))
theorem turn_tb {H4 H6 : Hp} {as : List Addr} {R : List Rnd} {d : Addr} {j : Nat} (al : Al (fun p r => H4 p = some (.lst (r.map V.int))) as R) (s : Same H4 H6) (e : H6 d = some (.lst ((as.map V.ref).drop j ++ (as.map V.ref).take j))) : TbD H6 d (turn j R) := by
  refine tb_of (S := fun H a xs => H a = some (.lst xs)) (as := as.drop j ++ as.take j) ?_ ((al.imp fun p r e => s _ _ e).drop j |>.app ((al.imp fun p r e => s _ _ e).take j))
  rw [List.map_append, List.map_drop, List.map_take]
  exact e
def rLenA (K : PySem.W.Frag) : List V → Hp → VK → Prop := fun xs H Q => ∃ p ys, xs = [.ref p] ∧ (SqL K H p ys ∨ SqT K H p ys) ∧ Q (.int ys.length) H
theorem scTurned : FnScope ["_law_names_here", "_law_top", "_law_table_here", "_law_turn", "_law_chart", "_law_at", "_law_back", "_law_n"] ["_law_names_here", "_law_top", "_law_table_here", "_law_turn"] (defScope sTurned) := ⟨rfl, rfl, rfl, by decide +kernel, rfl, by decide +kernel, by decide +kernel⟩
theorem ok_turned {f fL fR fI : Addr} {fd fdL fdR fdI : FuncData} (F : Fun K "_law_turned" "_law_turned" sTurned f fd) (B : Blt mg) (T : ChC K mg C) (M : ChMk P w K mg base C)
    (FL : FnOk P w K mg base CX0 6 fL fdL ["self", "count"] (spLsh K C)) (bL : Binds K fdL ["self", "count"] []) (TL : OpTxt K C fL "lshift") (IL : OpInt K C "lshift")
    (FR : FnOk P w K mg base CX0 7 fR fdR ["self", "count"] (spRsh K C)) (bR : Binds K fdR ["self", "count"] []) (TR : OpTxt K C fR "rshift") (IR : OpInt K C "rshift")
    (FI : FnOk P w K mg base CX0 6 fI fdI ["self"] (spInv K C)) (bI : Binds K fdI ["self"] []) (aI : PySem.W.findIn K (.ref C) "__invert__" = some (some (.ref fI))) (iI : PySem.W.isFn K (.ref fI) = true)
    (DC : Dfn P w K mg base 2 "_law_is_chart" ["_law_told", "_law_names_here", "_law_top", "_law_table_here"] (spIsChart K C)) : FnOk P w K mg base CX0 9 f fd ["_law_names_here", "_law_top", "_law_table_here", "_law_turn"] (spTurned K) := by
  refine F.ok scTurned (fun vs H Q E h => ?_) (fun cdv A outer s H vs Q E hr h => ?_)
  · obtain ⟨n, S, t, k, ns, R, rfl, _⟩ := h
    rfl
  · obtain ⟨n, S, t, k, ns, R, rfl, hn, hT, ok, q⟩ := h
    have hr6 : Room 6 _ := hr.mono (by decide : 6 ≤ 8)
    have hr7 : Room 7 _ := hr.mono (by decide : 7 ≤ 8)
    refine ⟨_, pss_cons (ps_set (i := 4) scTurned.nd rfl (Or.inl rfl) (pe_good T M hr (pa_cons (pv 0) (pa_cons (pv 1) (pa_cons (pv 2) pa_nil)))))
      (pss_cons (ps_set (i := 5) scTurned.nd rfl (Or.inl rfl) (pe_post (pe_ifExp (pt_cmpR (op_neD hr.units) (pv 2) (pe_lst pa_nil) (nomark _)) (pe_op op_mod (pe_intOf B (pv 3)) (pe_len B (pv 2))) pe_int)))
      (pss_cons (ps_set (i := 6) scTurned.nd rfl (Or.inl rfl) (pe_post (pe_ifExp (pt_cmpR (op_neD hr.units) (pv 2) (pe_lst pa_nil) (nomark _)) (pe_op op_mod (pe_intOf B (pe_un un_neg (pv 3))) (pe_len B (pv 2))) pe_int)))
      (pss_cons (ps_if (pt_not (pt_val (pe_fn DC hr (pa_cons (pe_ownOp (CX := CX0) (E := fun _ => E0) TL IL FL hr6 bL (fun σ => fun _ _ _ _ _ _ h => h.elim) (pv 4) (pv 3)) (pa_cons (pv 0) (pa_cons (pv 1) (pa_cons (pe_op op_cat (pe_slice sl_list (pv 2) (po_some (pv 5)) po_none) (pe_slice sl_list (pv 2) po_none (po_some (pv 5)))) pa_nil))))))) (pss_one (ps_ret pe_bl)) pss_nil)
      (pss_cons (ps_if (pt_not (pt_val (pe_fn DC hr (pa_cons (pe_ownOp (CX := CX0) (E := fun _ => E0) TR IR FR hr7 bR (fun σ => fun _ _ _ _ _ _ h => h.elim) (pv 4) (pv 3)) (pa_cons (pv 0) (pa_cons (pv 1) (pa_cons (pe_op op_cat (pe_slice sl_list (pv 2) (po_some (pv 6)) po_none) (pe_slice sl_list (pv 2) po_none (po_some (pv 6)))) pa_nil))))))) (pss_one (ps_ret pe_bl)) pss_nil)
      (pss_cons (ps_if (pt_not (pt_val (pe_fn DC hr (pa_cons (pe_ownOp (CX := CX0) (E := fun _ => E0) TR IR FR hr7 bR (fun σ => fun _ _ _ _ _ _ h => h.elim) (pe_ownOp (CX := CX0) (E := fun _ => E0) TL IL FL hr6 bL (fun σ => fun _ _ _ _ _ _ h => h.elim) (pv 4) (pv 3)) (pv 3)) (pa_cons (pv 0) (pa_cons (pv 1) (pa_cons (pv 2) pa_nil))))))) (pss_one (ps_ret pe_bl)) pss_nil)
      (pss_cons (ps_if (pt_not (pt_val (pe_fn DC hr (pa_cons (pe_ownInv (CX := CX0) (E := fun _ => E0) aI iI FI hr6 bI (fun σ => fun _ _ _ _ _ _ h => h.elim) (pv 4)) (pa_cons (pv 0) (pa_cons (pv 1) (pa_cons (pe_lc (own := [("_law_n", 7)]) (g := gName 7) (tt := tYes) (te := tOp (rIxL K) (tVar 2) (tOp (rI0 fun i j => .int (i - j)) (tOp (rI0 fun i j => .int (i - j)) (tCB (rLenA K) (tCons (tVar 2) tNil)) (tC (.int 1))) (tVar 7))) rfl scTurned.nd (pi_range1 (by rfl) B.range (pa_cons (pe_len B (pv 2)) pa_nil)) (blkOk_by (own := [("_law_n", 7)]) (N := ["_law_names_here", "_law_top", "_law_table_here", "_law_turn", "_law_chart", "_law_at", "_law_back", "_law_n"]) (sc := defScope sTurned) (by decide +kernel))
          (fun _ _ _ _ _ => pg_name (i := 7) scTurned.nd rfl (Or.inl rfl)) (fun _ _ _ _ _ => pts_nil) (fun _ _ _ _ _ => pe_ix ix_list (pv 2) (pe_op op_sub (pe_op op_sub (pe_len B (pv 2)) pe_int) (pv 7)) (fun _ _ => rfl))) pa_nil))))))) (pss_one (ps_ret pe_bl)) pss_nil)
      (pss_one (ps_ret (pe_fn DC hr (pa_cons (pv 4) (pa_cons (pv 0) (pa_cons (pv 1) (pa_cons (pv 2) pa_nil))))))))))))), ?_⟩
    have fw := ok.few
    refine ⟨.ref n, rfl, .int S, rfl, .ref t, rfl, n, S, t, ns, R, rfl, .inl hn, ta_of_l (td_l hT), ok, fun c H1 s1 hc => ?_⟩
    replace hn := s1.seq hn
    replace hT := td_same s1 hT
    obtain ⟨as, ga, al⟩ := tb_al hT
    have eR : (as.map V.ref).length = R.length := by rw [List.length_map]; exact al.1
    have modlen : ∀ k : Int, R ≠ [] → k % ((as.map V.ref).length : Int) = ((tAt0 k R : Nat) : Int) := fun k h => by
      have lR : 0 < R.length := List.length_pos_iff.mpr h
      unfold tAt0 tAt
      rw [if_neg h, eR, Int.toNat_of_nonneg (Int.emod_nonneg _ (by omega))]
    -- at
    refine ⟨fun v H' => v = .int ((tAt0 k R : Nat) : Int) ∧ Same H1 H', ⟨.ref t, rfl, Nat.zero_le _, fun z nz => ?_⟩, fun v H2 hN => ?_⟩
    · have sz : Same H1 (upd H1 z (.lst [])) := up_new nz
      refine ⟨_, _, dp_table (K := K) (td_l (td_same sz hT)), .lst (SqL.of upd_same) .nil, shaped_rows R, shaped_nil, _, rfl, ?_⟩
      rw [eqv_nil]
      by_cases e0 : R = []
      · exact ifF (by simp [e0]) ⟨by unfold tAt0; rw [if_pos e0]; rfl, sz⟩
      · have lR : 0 < R.length := List.length_pos_iff.mpr e0
        exact ifT (by simp [e0]) ⟨.int k, rfl, .inl ⟨k, rfl, .ref t, rfl, t, _, rfl, .inl (SqL.of (sz _ _ ga)), k, _, rfl, rfl, by show (0 : Int) < ((as.map V.ref).length : Int); omega, congrArg V.int (modlen k e0), sz⟩⟩
    obtain ⟨rfl, s2⟩ := hN
    -- back
    refine ⟨fun v H' => v = .int ((tAt0 (-k) R : Nat) : Int) ∧ Same H1 H', ⟨.ref t, rfl, Nat.zero_le _, fun z nz => ?_⟩, fun v H3 hN => ?_⟩
    · have sz : Same H1 (upd H2 z (.lst [])) := s2.trans (up_new nz)
      refine ⟨_, _, dp_table (K := K) (td_l (td_same sz hT)), .lst (SqL.of upd_same) .nil, shaped_rows R, shaped_nil, _, rfl, ?_⟩
      rw [eqv_nil]
      by_cases e0 : R = []
      · exact ifF (by simp [e0]) ⟨by unfold tAt0; rw [if_pos e0]; rfl, sz⟩
      · have lR : 0 < R.length := List.length_pos_iff.mpr e0
        exact ifT (by simp [e0]) ⟨.int k, rfl, k, rfl, .inl ⟨-k, rfl, .ref t, rfl, t, _, rfl, .inl (SqL.of (sz _ _ ga)), -k, _, rfl, rfl, by show (0 : Int) < ((as.map V.ref).length : Int); omega, congrArg V.int (modlen (-k) e0), sz⟩⟩
    obtain ⟨rfl, s3⟩ := hN
    -- table[j:] + table[:j]
    have key : ∀ (j m : Nat) (σ' : L2.St) (H5 : Hp) (Qc : VK), Same H1 H5 → j ≤ R.length → σ'[2]? = some (some (.ref t)) → σ'[m]? = some (some (.int (j : Int))) → (∀ d H8, Same H5 H8 → TbD H8 d (turn j R) → Qc (.ref d) H8) →
        tOp rCat (tSl (rSlL K) (tVar 2) (tPart (tVar m)) tNoPart) (tSl (rSlL K) (tVar 2) tNoPart (tPart (tVar m))) σ' H5 Qc := fun j m σ' H5 Qc s5 hj e2 em kq => by
      have hj' : j ≤ (as.map V.ref).length := by omega
      refine ⟨.ref t, e2, .int (j : Int), em, (j : Int), rfl, t, _, rfl, SqL.of (s5 _ _ ga), fun d1 n1 => ?_⟩
      have s6 := up_new (o := .lst (cutV (as.map V.ref) (some (j : Int)) none)) n1
      refine ⟨.ref t, e2, .int (j : Int), em, (j : Int), rfl, t, _, rfl, SqL.of (s6 _ _ (s5 _ _ ga)), fun d2 n2 => ?_⟩
      have s7 := up_new (o := .lst (cutV (as.map V.ref) none (some (j : Int)))) n2
      refine ⟨d1, d2, _, _, rfl, rfl, s7 _ _ upd_same, upd_same, ?_, fun d3 n3 => ?_⟩
      · rw [cutV_from _ hj', cutV_to _ hj', List.length_drop, List.length_take]
        exact line12 (by omega)
      · have s8 := up_new (o := .lst (cutV (as.map V.ref) (some (j : Int)) none ++ cutV (as.map V.ref) none (some (j : Int)))) n3
        refine kq d3 _ ((s6.trans s7).trans s8) (turn_tb al (((s5.trans s6).trans s7).trans s8) ?_)
        rw [upd_same, cutV_from _ hj', cutV_to _ hj']
    -- <<
    obtain ⟨dx, vs, hs⟩ := ch_slt (ch_same s3 hc)
    refine ⟨.ref c, rfl, .int k, rfl, c, dx, vs, rfl, hs, .inr ⟨k, rfl⟩, c, k, ns, S, R, rfl, ch_same s3 hc, ok, fun x H4 s4 hx => ?_⟩
    refine ⟨.ref n, rfl, .int S, rfl, key (tAt0 k R) 5 _ H4 _ (s3.trans s4) (tAt0_le k R) rfl rfl fun d H5 s5 hd => ?_⟩
    rw [turn0] at hd
    have s15 := (s3.trans s4).trans s5
    refine ⟨x, n, S, d, ns, _, rfl, ch_same s5 hx, s15.seq hn, td_l hd, fun H6 s6 => ⟨true, rfl, iteF ?_⟩⟩
    have s16 := s15.trans s6
    -- >>
    obtain ⟨dx, vs, hs⟩ := ch_slt (ch_same s16 hc)
    refine ⟨.ref c, rfl, .int k, rfl, c, dx, vs, rfl, hs, .inr ⟨k, rfl⟩, c, k, ns, S, R, rfl, ch_same s16 hc, ok, fun x2 H7 s7 hx2 => ?_⟩
    refine ⟨.ref n, rfl, .int S, rfl, key (tAt0 (-k) R) 6 _ H7 _ (s16.trans s7) (tAt0_le (-k) R) rfl rfl fun d2 H8 s8 hd2 => ?_⟩
    rw [turn0] at hd2
    have s18 := (s16.trans s7).trans s8
    refine ⟨x2, n, S, d2, ns, _, rfl, ch_same s8 hx2, s18.seq hn, td_l hd2, fun H9 s9 => ⟨true, rfl, iteF ?_⟩⟩
    have s19 := s18.trans s9
    -- << >>
    obtain ⟨dx, vs, hs⟩ := ch_slt (ch_same s19 hc)
    refine ⟨.ref c, rfl, .int k, rfl, c, dx, vs, rfl, hs, .inr ⟨k, rfl⟩, c, k, ns, S, R, rfl, ch_same s19 hc, ok, fun x3 H10 s10 hx3 => ?_⟩
    obtain ⟨dx, vs, hs⟩ := ch_slt hx3
    refine ⟨.int k, rfl, x3, dx, vs, rfl, hs, .inr ⟨k, rfl⟩, x3, k, ns, S, _, rfl, hx3, turn_ok ok _, fun x4 H11 s11 hx4 => ?_⟩
    rw [there_back] at hx4
    have s1b := (s19.trans s10).trans s11
    refine ⟨.ref n, rfl, .int S, rfl, .ref t, rfl, x4, n, S, t, ns, R, rfl, hx4, s1b.seq hn, td_l (td_same s1b hT), fun H12 s12 => ⟨true, rfl, iteF ?_⟩⟩
    have s1c := s1b.trans s12
    -- ~
    obtain ⟨dx, vs, hs⟩ := ch_slt (ch_same s1c hc)
    refine ⟨.ref c, rfl, c, dx, vs, rfl, hs, c, ns, S, R, rfl, ch_same s1c hc, ok, fun x5 H13 s13 hx5 => ?_⟩
    have s1d := s1c.trans s13
    refine ⟨.ref n, rfl, .int S, rfl, .ref t, rfl, t, _, rfl, .inl (SqL.of (s1d _ _ ga)), ((as.map V.ref).length : Int), rfl, by omega, by omega, fun D nD => ?_⟩
    refine lc_one (walk_range (lo := 0) (n := ((as.map V.ref).length : Int).toNat)) (fun i G => Same H13 G ∧ G D = some (.lst ((as.map V.ref).reverse.take i))) ⟨up_new nD, upd_same⟩ (fun _ _ _ _ => True.intro) (fun i x G G' hi hP hy => ?_) (fun G hP => ?_)
    · obtain ⟨rfl, rfl⟩ := hy
      obtain ⟨sm, eD⟩ := hP
      have hi2 : i < (as.map V.ref).length := by omega
      have gt := sm _ _ (s1d _ _ ga)
      obtain ⟨b, eb⟩ : ∃ b, (as.map V.ref)[(as.map V.ref).length - 1 - i]? = some b := ⟨_, List.getElem?_eq_getElem (by omega)⟩
      have er : (as.map V.ref).reverse[i]? = some b := by
        rw [List.getElem?_reverse hi2]
        exact eb
      have ei : ((as.map V.ref).length : Int) - 1 - (0 + (i : Nat)) = (((as.map V.ref).length - 1 - i : Nat) : Int) := by omega
      refine ⟨rfl, .ref t, rfl, .ref t, rfl, t, _, rfl, .inl (SqL.of gt), _, 1, rfl, rfl, .int (0 + (i : Nat)), rfl, _, _, rfl, rfl, t, _, _, b, rfl, rfl, SqL.of gt, by rw [ei]; exact atI_nat eb, _, eD, ?_, up_old sm nD, ?_⟩
      · have := List.length_take_le i (as.map V.ref).reverse
        exact small1000 (by omega)
      · rw [upd_same, take_snoc er]
    · obtain ⟨sm, eD⟩ := hP
      have e3 : (as.map V.ref).reverse.take ((as.map V.ref).length : Int).toNat = as.reverse.map V.ref := by
        rw [Int.toNat_natCast, List.take_of_length_le (by rw [List.length_reverse]; exact Nat.le_refl _), List.map_reverse]
      rw [e3] at eD
      have s1e := s1d.trans sm
      have due : TbD G D R.reverse := tb_of (S := fun H a xs => H a = some (.lst xs)) eD (al.imp fun p r e => s1e _ _ e).rev
      refine ⟨x5, n, S, D, ns, _, rfl, ch_same sm hx5, s1e.seq hn, td_l due, fun H14 s14 => ⟨true, rfl, iteF ?_⟩⟩
      have s1f := s1e.trans s14
      exact ⟨.ref c, rfl, .ref n, rfl, .int S, rfl, .ref t, rfl, c, n, S, t, ns, R, rfl, ch_same s1f hc, s1f.seq hn, td_l (td_same s1f hT), fun H15 s15 => q H15 ((s1.trans s1f).trans s15)⟩
end
end KP

set_option Elab.async false
set_option linter.all false
set_option maxRecDepth 100000
set_option maxHeartbeats 4000000
/-! # The law -/
namespace KP
open PySem PySem.Spec PyProof.Rows L2 KR KM

theorem big_line {n : Nat} (h : n ≤ 100000) : n ≤ sizeLine := by
  rw [sizeLine_eq]
  omega
theorem cutV_pre (xs : List V) (i : Nat) : cutV xs none (some (i : Int)) = xs.take i := by
  by_cases h : i ≤ xs.length
  · exact cutV_to xs h
  · unfold cutV
    rw [HT.sIx_none, HT.sIx_nat, List.drop_zero, Nat.sub_zero, Nat.min_eq_right (by omega), List.take_length, List.take_of_length_le (by omega)]
theorem at_ints {ns : List Int} {i : Int} (h0 : 0 ≤ i) (h1 : i < ns.length) : ∃ z, atI (ns.map V.int) i = some (.int z) := by
  obtain ⟨j, rfl⟩ := Int.eq_ofNat_of_zero_le h0
  obtain ⟨z, g⟩ : ∃ z, ns[j]? = some z := ⟨_, List.getElem?_eq_getElem (by omega)⟩
  exact ⟨z, atI_nat (by rw [List.getElem?_map, g]; rfl)⟩
theorem q_qs : ("qqqqqqq" : Str) = qs := by decide +kernel
def spLaw (K : PySem.W.Frag) : Sp := fun vs H Q _ => ∃ (a : Addr) (ns : List Int), vs = [.ref a] ∧ SqL K H a (ns.map V.int) ∧ ns.length ≤ 63 ∧ ∀ H', Q (.bl true) H'
/-- a list of names that stands by the generator -/
def NmAt (d g : Addr) (H : Hp) (l : Addr) (ns : List Str) : Prop := Rest d g H l = some (.lst (ns.map V.str))
theorem NmAt.at' {d g l : Addr} {H : Hp} {ns : List Str} (h : NmAt d g H l ns) : H l = some (.lst (ns.map V.str)) := rest_sub _ _ _ _ _ h
section
variable {P : Program} {w : World} {K : PySem.W.Frag} {mg : Str → Option Value} {base : Heap} {C : Addr}
theorem scLaw : FnScope ["_law_script", "_law_m", "_law_many", "_law_names_here", "_law_top", "_law_more", "_law_table_here", "_law_other", "_law_factor", "_law_turn", "_law_strangers", "_law_share", "_law_found"] ["_law_script"] (defScope sLaw) := ⟨rfl, rfl, rfl, by decide +kernel, rfl, by decide +kernel, by decide +kernel⟩
theorem ok_law {f : Addr} {fd : FuncData} (F : Fun K "law" "law" sLaw f fd) (B : Blt mg) (T : ChC K mg C) (M : ChMk P w K mg base C)
    (DBe : Dfn P w K mg base 2 "_law_begun" ["_law_script"] (spBegun K)) (DD : Dfn P w K mg base 2 "_law_draw" ["_law_m", "_law_limit"] spDraw) (DBi : Dfn P w K mg base 3 "_law_big" ["_law_m", "_law_limit"] spBig) (DN : Dfn P w K mg base 3 "_law_names" ["_law_m", "_law_many"] spNames)
    (DSc : Dfn P w K mg base 4 "_law_scale" ["_law_m"] spScale) (DTa : Dfn P w K mg base 5 "_law_table" ["_law_m", "_law_many", "_law_top", "_law_count"] spTable) (DSu : Dfn P w K mg base 8 "_law_sums" ["_law_names_here", "_law_one", "_law_two"] (spSums K))
    (DPr : Dfn P w K mg base 9 "_law_products" ["_law_names_here", "_law_top", "_law_table_here", "_law_factor"] (spProducts K)) (DTu : Dfn P w K mg base 9 "_law_turned" ["_law_names_here", "_law_top", "_law_table_here", "_law_turn"] (spTurned K))
    (DSm : Dfn P w K mg base 7 "_law_sum" ["_law_one", "_law_two"] (spSum K C)) (DTx : Dfn P w K mg base 1 "_law_texts" ["_law_told", "_law_due"] (spTexts K)) : FnOk P w K mg base CX0 10 f fd ["_law_script"] (spLaw K) := by
  refine F.ok scLaw (fun vs H Q E h => ?_) (fun cdv A outer s H vs Q E hr h => ?_)
  · obtain ⟨a, ns, rfl, _⟩ := h
    rfl
  · obtain ⟨a, xs, rfl, hS, hl, q⟩ := h
    refine ⟨_, pss_cons (ps_set (i := 1) scLaw.nd rfl (Or.inl rfl) (pe_fn DBe hr (pa_cons (pv 0) pa_nil)))
      (pss_cons (ps_set (i := 2) scLaw.nd rfl (Or.inl rfl) (pe_post (pe_op op_add pe_int (pe_fn DD hr (pa_cons (pv 1) (pa_cons pe_int pa_nil))))))
      (pss_cons (ps_par3 (i := 3) (j := 4) (l := 5) rfl scLaw.nd rfl rfl rfl (by decide) (by decide) (by decide) rfl rfl rfl (pa_cons (pe_fn DN hr (pa_cons (pv 1) (pa_cons (pv 2) pa_nil))) (pa_cons (pe_fn DSc hr (pa_cons (pv 1) pa_nil)) (pa_cons (pe_fn DSc hr (pa_cons (pv 1) pa_nil)) pa_nil))) (by rfl))
      (pss_cons (ps_set (i := 6) scLaw.nd rfl (Or.inl rfl) (pe_fn DTa hr (pa_cons (pv 1) (pa_cons (pv 2) (pa_cons (pv 4) (pa_cons (pe_fn DD hr (pa_cons (pv 1) (pa_cons pe_int pa_nil))) pa_nil))))))
      (pss_cons (ps_set (i := 7) scLaw.nd rfl (Or.inl rfl) (pe_fn DTa hr (pa_cons (pv 1) (pa_cons (pv 2) (pa_cons (pv 5) (pa_cons (pe_fn DD hr (pa_cons (pv 1) (pa_cons pe_int pa_nil))) pa_nil))))))
      (pss_cons (ps_post (ps_if (pt_cmpR op_eq (pe_fn DD hr (pa_cons (pv 1) (pa_cons pe_int pa_nil))) pe_int (nomark _)) (pss_one (ps_set (i := 6) scLaw.nd rfl (Or.inl rfl) (pe_slice sl_list (pe_op op_rep (pv 6) pe_int) po_none (po_some (pe_op op_add pe_int (pe_fn DD hr (pa_cons (pv 1) (pa_cons pe_int pa_nil)))))))) pss_nil))
      (pss_cons (ps_if (pt_not (pt_val (pe_fn DSu hr (pa_cons (pv 3) (pa_cons (pe_tup (pa_cons (pv 4) (pa_cons (pv 6) pa_nil))) (pa_cons (pe_tup (pa_cons (pv 5) (pa_cons (pv 7) pa_nil))) pa_nil)))))) (pss_one (ps_ret pe_bl)) pss_nil)
      (pss_cons (ps_set (i := 8) scLaw.nd rfl (Or.inl rfl) (pe_post (pe_ix ix_list (pe_lst (pa_cons (pe_un un_neg pe_int) (pa_cons pe_int (pa_cons pe_int (pa_cons pe_int (pa_cons pe_int (pa_cons pe_int (pa_cons pe_int (pa_cons pe_int (pa_cons pe_int (pa_cons (pe_op op_pow pe_int pe_int) (pa_cons (pe_un un_neg (pe_op op_pow pe_int pe_int)) pa_nil)))))))))))) (pe_fn DD hr (pa_cons (pv 1) (pa_cons pe_int pa_nil))) (fun _ _ => rfl))))
      (pss_cons (ps_if (pt_not (pt_val (pe_fn DPr hr (pa_cons (pv 3) (pa_cons (pv 4) (pa_cons (pe_post (pe_ifExp (pt_cmpR op_eq (pv 5) (pv 4) (nomark _)) (pv 7) (pv 6))) (pa_cons (pv 8) pa_nil))))))) (pss_one (ps_ret pe_bl)) pss_nil)
      (pss_cons (ps_set (i := 9) scLaw.nd rfl (Or.inl rfl) (pe_post (pe_ifExp (pt_cmpR op_eq (pe_fn DD hr (pa_cons (pv 1) (pa_cons pe_int pa_nil))) pe_int (nomark _)) (pe_op op_sub (pe_fn DBi hr (pa_cons (pv 1) (pa_cons (pe_op op_pow pe_int pe_int) pa_nil))) (pe_op op_mul pe_int (pe_op op_pow pe_int pe_int))) (pe_op op_sub (pe_fn DD hr (pa_cons (pv 1) (pa_cons pe_int pa_nil))) pe_int))))
      (pss_cons (ps_if (pt_not (pt_val (pe_fn DTu hr (pa_cons (pv 3) (pa_cons (pv 4) (pa_cons (pv 6) (pa_cons (pv 9) pa_nil))))))) (pss_one (ps_ret pe_bl)) pss_nil)
      (pss_cons (ps_set (i := 10) scLaw.nd rfl (Or.inl rfl) (pe_post (pe_ifExp (PW.pt (pw_and (pt_cmpR op_gt (pv 2) pe_int (nomark _)) (pw_and1 (pt_cmpR op_eq (pe_fn DD hr (pa_cons (pv 1) (pa_cons pe_int pa_nil))) pe_int (nomark _))))) (pe_op op_cat (pe_slice sl_list (pv 3) (po_some pe_int) po_none) (pe_slice sl_list (pv 3) po_none (po_some pe_int))) (pe_op op_cat (pv 3) (pe_lst (pa_cons pe_str pa_nil))))))
      (pss_cons (ps_set (i := 11) scLaw.nd rfl (Or.inl rfl) (pe_op op_cat (pe_lst (pa_cons (pv 5) pa_nil)) (pe_op op_rep (pe_lst (pa_cons pe_int pa_nil)) (pe_op op_sub (pe_len B (pv 10)) pe_int))))
      (pss_cons (ps_set (i := 12) scLaw.nd rfl (Or.inl rfl) (pe_fn DSm hr (pa_cons (pe_good T M hr (pa_cons (pv 3) (pa_cons (pv 4) (pa_cons (pv 6) pa_nil)))) (pa_cons (pe_good T M hr (pa_cons (pv 10) (pa_cons (pv 5) (pa_cons (pe_op op_rep (pe_lst (pa_cons (pv 11) pa_nil)) pe_int) pa_nil)))) pa_nil))))
      (pss_one (ps_ret (pe_and (pe_cmpR op_notN (pe_ix ix_tup (pv 12) pe_int (fun _ _ => rfl)) pe_non (nomark _)) (pe_and (pe_cmpR op_eq (pe_ix ix_tup (pe_ix ix_tup (pv 12) pe_int (fun _ _ => rfl)) pe_int (fun _ _ => rfl)) pe_str (nomark _)) (pe_and (pe_fn DTx hr (pa_cons (pe_ix ix_tup (pe_ix ix_tup (pv 12) pe_int (fun _ _ => rfl)) pe_int (fun _ _ => rfl)) (pa_cons (pv 10) pa_nil))) (pe_one (pe_cmpR op_isN (pe_ix ix_tup (pv 12) pe_int (fun _ _ => rfl)) pe_non (nomark _))))))))))))))))))))), ?_⟩
    refine ⟨.ref a, rfl, a, xs, rfl, hS, by omega, fun d c g H0 m0 => ?_⟩
    -- many
    refine ⟨fun v H' => ∃ k : Nat, v = .int ((k : Int) + 1) ∧ k ≤ 5 ∧ MAt d c g H' 1, ⟨.ref d, rfl, d, c, g, 6, 0, rfl, m0, by decide, by decide, by decide, by decide, fun v H1 v0 v6 m1 s1 => ⟨1, v, rfl, rfl, v.toNat, congrArg V.int (by omega), by omega, m1⟩⟩, fun v H1 hN => ?_⟩
    obtain ⟨k, rfl, k5, m1⟩ := hN
    -- names, two scales
    refine ⟨.ref d, rfl, .int ((k : Int) + 1), rfl, d, c, g, (k : Int) + 1, 1, rfl, m1, by decide, by decide, by omega, by omega, fun l ns H2 nl el nd gen eL m2 s2 => ?_⟩
    have nm2 : NmAt d g H2 l ns := by
      unfold NmAt
      rw [rest_ne (m1.nd nl) (m1.ng nl)]
      exact eL
    have nok : NamesOk ns := names_gen (by omega) (by omega) nd gen
    refine ⟨.ref d, rfl, d, c, g, 1 + 100, rfl, m2, by decide, by decide, fun top H3 t0 t1 m3 s3 => ?_⟩
    refine ⟨.ref d, rfl, d, c, g, 1 + 100 + 3, rfl, m3, by decide, by decide, fun more H4 r0 r1 m4 s4 => ⟨_, _, _, rfl, ?_⟩⟩
    -- the tables
    refine ⟨.ref d, rfl, .int ((k : Int) + 1), rfl, .int top, rfl, .ref d, rfl, d, c, g, 10, 1 + 100 + 3 + 3, rfl, m4, by decide, by decide, by decide, by decide, fun cn H5 c0 c1 m5 s5 => ?_⟩
    refine ⟨d, c, g, k, top, cn, 1 + 100 + 3 + 3 + 1, rfl, m5, by decide, by decide, k5, by omega, t1, c0, by omega, fun t R H6 lR okR tbR m6 s6 => ?_⟩
    refine ⟨.ref d, rfl, .int ((k : Int) + 1), rfl, .int more, rfl, .ref d, rfl, d, c, g, 10, 1 + 100 + 3 + 3 + 1 + 200, rfl, m6, by decide, by decide, by decide, by decide, fun cu H7 u0 u1 m7 s7 => ?_⟩
    refine ⟨d, c, g, k, more, cu, 1 + 100 + 3 + 3 + 1 + 200 + 1, rfl, m7, by decide, by decide, k5, by omega, r1, u0, by omega, fun t2 U H8 lU okU tbU m8 s8 => ?_⟩
    have nm8 : NmAt d g H8 l ns := s8 _ _ (s7 _ _ (s6 _ _ (s5 _ _ (s4 _ _ (s3 _ _ nm2)))))
    have tb8 := td_same (s7.trans s8) tbR
    replace m8 := m8.le (B' := 600) (by decide)
    have ek : ns.length = k + 1 := by omega
    have okU' : ChartOk ns more U := ⟨nok, r0, r1, by omega, fun r hr => ek ▸ okU r hr⟩
    clear s2 s3 s4 s5 s6 s7 s8 m2 m3 m4 m5 m6 m7 tbR
    -- 232 to 240 rounds
    refine ⟨fun σ' H' => ∃ t' R', σ' = [some (.ref a), some (.ref d), some (.int ((k : Int) + 1)), some (.ref l), some (.int top), some (.int more), some (.ref t'), some (.ref t2), none, none, none, none, none] ∧ TbD (Rest d g H') t' R' ∧ (∀ r ∈ R', RowOk (k + 1) top r) ∧ R'.length ≤ 240 ∧ MAt d c g H' 602 ∧ Same (Rest d g H8) (Rest d g H'), ?_, fun σ' H' hN => ?_⟩
    · refine ⟨.ref d, rfl, d, c, g, 4, 600, rfl, m8, by decide, by decide, by decide, by decide, fun v H9 v0 v1 m9 s9 => ⟨rfl, _, rfl, ite2 (fun _ => ?_) (fun _ => ?_)⟩⟩
      · obtain ⟨as, ga, al⟩ := tb_al (td_same s9 tb8)
        have la := al.1
        refine ⟨.ref t, rfl, t, 120, _, rfl, rfl, rest_sub _ _ _ _ _ ga, by decide, by decide, big_line (by rw [List.length_map]; show as.length * 120 ≤ 100000; omega), fun p np => ?_⟩
        have s10 := rest_same (d := d) (g := g) (up_new (o := .lst (List.replicate (120 : Int).toNat (as.map V.ref)).flatten) np)
        refine ⟨.ref d, rfl, d, c, g, 9, 601, rfl, m9.new np, by decide, by decide, by decide, by decide, fun u H11 u0 u1 m11 s11 => ⟨232, u, rfl, rfl, 232 + u, rfl, p, _, rfl, SqL.of (rest_at s11 (m9.nd np) (m9.ng np) upd_same), fun p2 np2 => ?_⟩⟩
        obtain ⟨u', rfl⟩ := Int.eq_ofNat_of_zero_le u0
        have s12 := rest_same (d := d) (g := g) (up_new (o := .lst (cutV (List.replicate (120 : Int).toNat (as.map V.ref)).flatten none (some (232 + (u' : Int))))) np2)
        have s912 := (s10.trans s11).trans s12
        refine ⟨p2, ((List.replicate 120 R).flatten).take (232 + u'), rfl, ?_, fun r hr => ?_, ?_, m11.new np2, s9.trans s912⟩
        · refine tb_of (S := fun H a xs => H a = some (.lst xs)) (as := ((List.replicate 120 as).flatten).take (232 + u')) ?_ (((al.imp fun p r e => s912 _ _ e).rep 120).take _)
          rw [rest_ne (m11.nd np2) (m11.ng np2), upd_same]
          have e : (232 : Int) + (u' : Int) = ((232 + u' : Nat) : Int) := by omega
          rw [e, cutV_pre]
          show some (HO.lst (List.take (232 + u') (List.replicate 120 (as.map V.ref)).flatten)) = _
          rw [List.map_take, map_rep]
        · have h1 := List.mem_of_mem_take hr
          obtain ⟨w, hw, hr2⟩ := List.mem_flatten.mp h1
          rw [(List.mem_replicate.mp hw).2] at hr2
          exact okR r hr2
        · rw [List.length_take]
          omega
      · exact ⟨t, R, rfl, td_same s9 tb8, okR, by omega, m9.le (by decide), s9⟩
    obtain ⟨t', R', rfl, tb, okR', lR', m9, s9⟩ := hN
    have ok' : ChartOk ns top R' := ⟨nok, t0, t1, lR', fun r hr => ek ▸ okR' r hr⟩
    have nm9 : NmAt d g H' l ns := s9 _ _ nm8
    have tu9 := td_same s9 tbU
    clear tb8 nm8 m8 s9
    -- the sums
    refine ⟨.ref l, rfl, .int top, rfl, .ref t', rfl, by show 2 ≤ sizeLine; decide, fun q1 n1 => ?_⟩
    have w1 := up_new (o := .tup [.int top, .ref t']) n1
    refine ⟨.int more, rfl, .ref t2, rfl, by show 2 ≤ sizeLine; decide, fun q2 n2 => ?_⟩
    have w2 := up_new (o := .tup [.int more, .ref t2]) n2
    have w12 := w1.trans w2
    refine ⟨l, q1, q2, t', t2, ns, top, more, R', U, rfl, SqL.of (w12 _ _ nm9.at'), SqT.of (w2 _ _ upd_same), SqT.of upd_same, td_same ((rest_sub d g H').trans w12) tb, td_same ((rest_sub d g H').trans w12) tu9, ok', okU', fun H10 s10 => ⟨true, rfl, iteF ?_⟩⟩
    have r10 := rest_same (d := d) (g := g) (w12.trans s10)
    have m10 := m9.mono (w12.trans s10) (Int.le_refl _)
    replace nm9 : NmAt d g H10 l ns := r10 _ _ nm9
    replace tb := td_same r10 tb
    replace tu9 := td_same r10 tu9
    -- the factor
    refine ⟨fun v H'' => ∃ z : Int, v = .int z ∧ MAt d c g H'' 603 ∧ Same (Rest d g H10) (Rest d g H''), ?_, fun v H11 hN => ?_⟩
    · refine ⟨1, rfl, 10, 20, rfl, rfl, ⟨by decide, by decide, by decide⟩, 10, 20, rfl, rfl, ⟨by decide, by decide, by decide⟩, _, rfl, by show 11 ≤ sizeLine; decide, fun z nz => ?_⟩
      refine ⟨.ref d, rfl, d, c, g, 11, 602, rfl, m10.new nz, by decide, by decide, by decide, by decide, fun v H12 v0 v1 m12 s12 => ?_⟩
      obtain ⟨y, ey⟩ := at_ints (ns := [-1, 0, 1, 2, 3, 24, 30, 80, 90, (10 : Int) ^ (20 : Int).toNat, -((10 : Int) ^ (20 : Int).toNat)]) v0 v1
      exact ⟨z, _, v, .int y, rfl, rfl, SqL.of (rest_at s12 (m10.nd nz) (m10.ng nz) upd_same), ey, y, rfl, m12, (rest_same (up_new nz)).trans s12⟩
    obtain ⟨kf, rfl, m11, s11⟩ := hN
    replace nm9 : NmAt d g H11 l ns := s11 _ _ nm9
    replace tb := td_same s11 tb
    replace tu9 := td_same s11 tu9
    -- the products
    refine ⟨.ref l, rfl, .int top, rfl, fun v H'' => ∃ t3 R3, v = .ref t3 ∧ H11 = H'' ∧ TbD (Rest d g H'') t3 R3 ∧ ChartOk ns top R3, ?_, fun v H12 hN => ?_⟩
    · refine ⟨.int more, rfl, .int top, rfl, rfl, _, rfl, ite2 (fun e => ?_) (fun _ => ⟨.ref t', rfl, t', R', rfl, rfl, tb, ok'⟩)⟩
      have e2 : more = top := V.int.inj (of_decide_eq_true e)
      exact ⟨.ref t2, rfl, t2, U, rfl, rfl, tu9, e2 ▸ okU'⟩
    obtain ⟨t3, R3, rfl, rfl, tb3, ok3⟩ := hN
    refine ⟨.int kf, rfl, l, top, t3, kf, ns, R3, rfl, SqL.of nm9.at', td_same (rest_sub d g H11) tb3, ok3, fun H12 s12 => ⟨true, rfl, iteF ?_⟩⟩
    have r12 := rest_same (d := d) (g := g) s12
    have m12 := m11.mono s12 (Int.le_refl _)
    replace nm9 : NmAt d g H12 l ns := r12 _ _ nm9
    replace tb := td_same r12 tb
    -- the turn
    refine ⟨fun v H'' => ∃ z : Int, v = .int z ∧ MAt d c g H'' 620 ∧ Same (Rest d g H12) (Rest d g H''), ?_, fun v H13 hN => ?_⟩
    · refine ⟨.ref d, rfl, d, c, g, 2, 603, rfl, m12, by decide, by decide, by decide, by decide, fun v H14 v0 v1 m14 s14 => ⟨rfl, _, rfl, ite2 (fun _ => ?_) (fun _ => ?_)⟩⟩
      · refine ⟨.ref d, rfl, 10, 12, rfl, rfl, ⟨by decide, by decide, by decide⟩, d, c, g, _, 604, rfl, m14, by decide, by decide, by rw [p12]; decide, fun u H15 u0 u1 m15 s15 => ?_⟩
        exact ⟨10, 11, rfl, rfl, ⟨by decide, by decide, by decide⟩, 5, _, rfl, rfl, .inl ⟨by decide, by decide⟩, u, _, rfl, rfl, _, rfl, m15.le (by decide), s14.trans s15⟩
      · refine ⟨.ref d, rfl, d, c, g, 20, 604, rfl, m14, by decide, by decide, by decide, by decide, fun u H15 u0 u1 m15 s15 => ?_⟩
        exact ⟨u, 9, rfl, rfl, _, rfl, m15.le (by decide), s14.trans s15⟩
    obtain ⟨kt, rfl, m13, s13⟩ := hN
    replace nm9 : NmAt d g H13 l ns := s13 _ _ nm9
    replace tb := td_same s13 tb
    refine ⟨.ref l, rfl, .int top, rfl, .ref t', rfl, .int kt, rfl, l, top, t', kt, ns, R', rfl, SqL.of nm9.at', td_same (rest_sub d g H13) tb, ok', fun H14 s14 => ⟨true, rfl, iteF ?_⟩⟩
    have r14 := rest_same (d := d) (g := g) s14
    have m14 := m13.mono s14 (Int.le_refl _)
    replace nm9 : NmAt d g H14 l ns := r14 _ _ nm9
    replace tb := td_same r14 tb
    -- the strangers
    have lns : (ns.map V.str).length = k + 1 := by rw [List.length_map]; exact ek
    have more1 : ∀ (G : Hp), Rest d g G l = some (.lst (ns.map V.str)) → MAt d c g G 621 → Same (Rest d g H14) (Rest d g G) → ∀ (p : Addr), G p = none → ∀ p2 : Addr, upd G p (.lst [.str "qqqqqqq"]) p2 = none →
        ∃ l2 ms, V.ref p2 = .ref l2 ∧ NmAt d g (upd (upd G p (.lst [.str "qqqqqqq"])) p2 (.lst (ns.map V.str ++ [.str "qqqqqqq"]))) l2 ms ∧ NamesOk ms ∧ ns ≠ ms ∧ MAt d c g (upd (upd G p (.lst [.str "qqqqqqq"])) p2 (.lst (ns.map V.str ++ [.str "qqqqqqq"]))) 621 ∧
          Same (Rest d g H14) (Rest d g (upd (upd G p (.lst [.str "qqqqqqq"])) p2 (.lst (ns.map V.str ++ [.str "qqqqqqq"])))) := fun G nG mG sG p np p2 np2 => by
      obtain ⟨mok, mne⟩ := names_more (by omega) (by omega) nd gen
      have w1 := up_new (o := .lst [.str "qqqqqqq"]) np
      have w2 := up_new (o := .lst (ns.map V.str ++ [.str "qqqqqqq"])) np2
      have mG1 := mG.new (o := .lst [.str "qqqqqqq"]) np
      refine ⟨p2, ns ++ [qs], rfl, ?_, mok, mne, mG1.new np2, sG.trans (rest_same (w1.trans w2))⟩
      unfold NmAt
      rw [rest_ne (mG1.nd np2) (mG1.ng np2), upd_same, List.map_append, ← q_qs]
      rfl
    refine ⟨fun v H'' => ∃ l2 ms, v = .ref l2 ∧ NmAt d g H'' l2 ms ∧ NamesOk ms ∧ ns ≠ ms ∧ MAt d c g H'' 621 ∧ Same (Rest d g H14) (Rest d g H''), ?_, fun v H15 hN => ?_⟩
    · refine ⟨.int ((k : Int) + 1), rfl, _, _, rfl, rfl, _, rfl, ?_⟩
      by_cases hk : 1 < (k : Int) + 1
      · refine ifT (decide_eq_true hk) ?_
        refine ⟨.ref d, rfl, d, c, g, 2, 620, rfl, m14, by decide, by decide, by decide, by decide, fun v G v0 v1 mG sG => ⟨rfl, _, rfl, ite2 (fun _ => ?_) (fun _ => ?_)⟩⟩
        · have nG : NmAt d g G l ns := sG _ _ nm9
          obtain ⟨mok, mne⟩ := names_round (by omega) (by omega) nd gen
          refine ⟨.ref l, rfl, 1, rfl, l, _, rfl, SqL.of nG.at', fun p1 n1 => ?_⟩
          have w1 := up_new (o := .lst (cutV (ns.map V.str) (some 1) none)) n1
          refine ⟨.ref l, rfl, 1, rfl, l, _, rfl, SqL.of (w1 _ _ nG.at'), fun p2 n2 => ?_⟩
          have w2 := up_new (o := .lst (cutV (ns.map V.str) none (some 1))) n2
          have c1 : cutV (ns.map V.str) (some 1) none = (ns.drop 1).map V.str := by
            rw [show cutV (ns.map V.str) (some 1) none = (ns.map V.str).drop 1 from cutV_from (i := 1) _ (by omega), List.map_drop]
          have c2 : cutV (ns.map V.str) none (some 1) = (ns.take 1).map V.str := by
            rw [show cutV (ns.map V.str) none (some 1) = (ns.map V.str).take 1 from cutV_to (i := 1) _ (by omega), List.map_take]
          refine ⟨p1, p2, _, _, rfl, rfl, w2 _ _ upd_same, upd_same, line12 (by rw [c1, c2, List.length_map, List.length_map, List.length_drop, List.length_take]; omega), fun p3 n3 => ?_⟩
          have w3 := up_new (o := .lst (cutV (ns.map V.str) (some 1) none ++ cutV (ns.map V.str) none (some 1))) n3
          have m2 := (mG.new (o := .lst (cutV (ns.map V.str) (some 1) none)) n1).new (o := .lst (cutV (ns.map V.str) none (some 1))) n2
          refine ⟨p3, _, rfl, ?_, mok, mne, m2.new n3, sG.trans (rest_same ((w1.trans w2).trans w3))⟩
          unfold NmAt
          rw [rest_ne (m2.nd n3) (m2.ng n3), upd_same, c1, c2, List.map_append]
        · have nG : NmAt d g G l ns := sG _ _ nm9
          refine ⟨.ref l, rfl, by show 1 ≤ sizeLine; decide, fun p np => ⟨l, p, _, _, rfl, rfl, up_new np _ _ nG.at', upd_same, line12 (by rw [lns]; show k + 1 + 1 ≤ 1000; omega), fun p2 np2 => more1 G nG mG sG p np p2 np2⟩⟩
      · refine ifF (decide_eq_false hk) ?_
        refine ⟨.ref l, rfl, by show 1 ≤ sizeLine; decide, fun p np => ⟨l, p, _, _, rfl, rfl, up_new np _ _ nm9.at', upd_same, line12 (by rw [lns]; show k + 1 + 1 ≤ 1000; omega), fun p2 np2 => more1 H14 nm9 (m14.le (by decide)) (Same.refl _) p np p2 np2⟩⟩
    obtain ⟨l2, ms, rfl, nms, mok, mne, m15, s15⟩ := hN
    replace nm9 : NmAt d g H15 l ns := s15 _ _ nm9
    replace tb := td_same s15 tb
    -- from here on nothing is drawn
    have hL : H15 l = some (.lst (ns.map V.str)) := nm9.at'
    have hM : H15 l2 = some (.lst (ms.map V.str)) := nms.at'
    have hT := td_same (rest_sub d g H15) tb
    have p0 := mok.pos
    have p8 := mok.le
    refine ⟨.int more, rfl, by show 1 ≤ sizeLine; decide, fun a1 e1 => ?_⟩
    have v1 := up_new (o := .lst [.int more]) e1
    refine ⟨by show 1 ≤ sizeLine; decide, fun a2 e2 => ?_⟩
    have v2 := up_new (o := .lst [.int 0]) e2
    have lms : (ms.map V.str).length = ms.length := List.length_map _
    refine ⟨.ref l2, rfl, l2, _, rfl, .inl (SqL.of (v2 _ _ (v1 _ _ hM))), _, 1, rfl, rfl, a2, _, _, rfl, rfl, upd_same, by rw [lms]; omega, by rw [lms]; omega, line12 (by rw [lms]; show 1 * _ ≤ 1000; omega), fun a3 e3 => ?_⟩
    obtain ⟨j, ej⟩ : ∃ j : Nat, ms.length = j + 1 := ⟨ms.length - 1, by omega⟩
    have nj : (((ms.map V.str).length : Int) - 1).toNat = j := by rw [lms]; omega
    rw [nj, rep_ints]
    have v3 := up_new (o := .lst ((List.replicate j 0).map V.int)) e3
    refine ⟨a1, a3, _, _, rfl, rfl, v3 _ _ (v2 _ _ upd_same), upd_same, line12 (by rw [List.length_map, List.length_replicate]; show 1 + j ≤ 1000; omega), fun a4 e4 => ?_⟩
    have v4 := up_new (o := .lst ([.int more] ++ (List.replicate j 0).map V.int)) e4
    have v14 := ((v1.trans v2).trans v3).trans v4
    have rowA : upd (upd (upd (upd H15 a1 (.lst [.int more])) a2 (.lst [.int 0])) a3 (.lst ((List.replicate j 0).map V.int))) a4 (.lst ([.int more] ++ (List.replicate j 0).map V.int)) a4 = some (.lst ((more :: List.replicate j 0).map V.int)) := upd_same
    generalize upd (upd (upd (upd H15 a1 (.lst [.int more])) a2 (.lst [.int 0])) a3 (.lst ((List.replicate j 0).map V.int))) a4 (.lst ([.int more] ++ (List.replicate j 0).map V.int)) = H16 at v14 rowA ⊢
    refine ⟨.ref l, rfl, .int top, rfl, .ref t', rfl, l, top, t', ns, R', rfl, .inl (SqL.of (v14 _ _ hL)), ta_of_l (td_l (td_same v14 hT)), ok', fun c1 H17 s17 k1 => ?_⟩
    refine ⟨.ref l2, rfl, .int more, rfl, .ref a4, rfl, by show 1 ≤ sizeLine; decide, fun b1 f1 => ⟨b1, 9, _, rfl, rfl, upd_same, by decide, by decide, line12 (by show 1 * 9 ≤ 1000; decide), fun b2 f2 => ?_⟩⟩
    have x1 := up_new (o := .lst [.ref a4]) f1
    have x2 := up_new (o := .lst (List.replicate (9 : Int).toNat [V.ref a4]).flatten) f2
    have x12 := x1.trans x2
    have rowB := x12 _ _ (s17 _ _ rowA)
    have al1 : Al (fun p r => upd (upd H17 b1 (.lst [.ref a4])) b2 (.lst (List.replicate (9 : Int).toNat [V.ref a4]).flatten) p = some (.lst (r.map V.int))) [a4] [more :: List.replicate j 0] := by
      refine ⟨rfl, fun i p r z1 z2 => ?_⟩
      have hi : i = 0 := by
        have := (List.getElem?_eq_some_iff.mp z1).1
        simp only [List.length_singleton] at this
        omega
      subst hi
      cases Option.some.inj z1
      cases Option.some.inj z2
      exact rowB
    have tb9 : TbD (upd (upd H17 b1 (.lst [.ref a4])) b2 (.lst (List.replicate (9 : Int).toNat [V.ref a4]).flatten)) b2 (List.replicate 9 [more :: List.replicate j 0]).flatten := by
      refine tb_of (S := fun H a xs => H a = some (.lst xs)) (as := (List.replicate 9 [a4]).flatten) ?_ (al1.rep 9)
      rw [upd_same, map_rep]
      rfl
    have ok9 : ChartOk ms more (List.replicate 9 [more :: List.replicate j 0]).flatten := by
      refine ⟨mok, r0, r1, by show (9 : Nat) ≤ 240; decide, fun r hr => ?_⟩
      obtain ⟨w, hw, hr2⟩ := List.mem_flatten.mp hr
      rw [(List.mem_replicate.mp hw).2] at hr2
      rw [List.mem_singleton.mp hr2, ej]
      exact row_one (by omega)
    refine ⟨l2, more, b2, ms, _, rfl, .inl (SqL.of (x12 _ _ (s17 _ _ (v14 _ _ hM)))), ta_of_l (td_l tb9), ok9, fun c2 H18 s18 k2 => ?_⟩
    refine ⟨c1, c2, ns, ms, top, more, R', _, rfl, ch_same (x12.trans s18) k1, ok', k2, ok9, fun _ p tt qq H19 s19 g1 g2 g3 => ?_, fun e => absurd e mne, fun e => absurd e mne, fun e => absurd e mne⟩
    refine ⟨.ref p, rfl, p, _, 0, .ref tt, rfl, rfl, SqT.of g1, rfl, rfl, _, rfl, ifT (by rfl) ?_⟩
    refine ⟨.ref p, rfl, p, _, 0, .ref tt, rfl, rfl, SqT.of g1, rfl, tt, _, 0, .str "other", rfl, rfl, SqT.of g2, rfl, rfl, _, rfl, ifT (decide_eq_true rfl) ?_⟩
    have hM19 := s19 _ _ (s18 _ _ (x12 _ _ (s17 _ _ (v14 _ _ hM))))
    refine ⟨.ref p, rfl, p, _, 0, .ref tt, rfl, rfl, SqT.of g1, rfl, tt, _, 1, .ref qq, rfl, rfl, SqT.of g2, rfl, .ref l2, rfl, qq, l2, ms, rfl, g3, SqL.of hM19, fun H20 s20 => ⟨true, rfl, iteT ?_⟩⟩
    refine ⟨.ref p, rfl, p, _, 1, .non, rfl, rfl, SqT.of (s20 _ _ g1), rfl, rfl, ?_⟩
    rw [decide_eq_true rfl]
    exact q _
end
end KP

set_option Elab.async false
set_option linter.all false
set_option maxRecDepth 100000
set_option maxHeartbeats 0
/-! # What the top has written, gathered -/
namespace KP
open PySem PySem.Spec PyProof.Rows L2 KR KM

theorem dn_add : PySem.dunder "add" = ("__add__" : Str) := by decide +kernel
theorem dr_add : PySem.dunderR "add" = ("__radd__" : Str) := by decide +kernel
theorem dn_mul : PySem.dunder "mul" = ("__mul__" : Str) := by decide +kernel
theorem dr_mul : PySem.dunderR "mul" = ("__rmul__" : Str) := by decide +kernel
theorem dn_lshift : PySem.dunder "lshift" = ("__lshift__" : Str) := by decide +kernel
theorem dr_lshift : PySem.dunderR "lshift" = ("__rlshift__" : Str) := by decide +kernel
theorem dn_rshift : PySem.dunder "rshift" = ("__rshift__" : Str) := by decide +kernel
theorem dr_rshift : PySem.dunderR "rshift" = ("__rrshift__" : Str) := by decide +kernel
theorem all_mk {l : PySem.W.OpenLaw} {w : World} {K : PySem.W.Frag} {h : Heap} {mg : Str → Option Value} {fa C CB CO CM CS CC : Addr} (X : K.In h) (G : h.Ns mainGlobals mg) (hfa : mg "law" = some (.ref fa))
    {fm0 : Addr} {odm0 anm0 : Option Addr} {slm0 : Array (Option Value)} {ocm0 kVm0 dcm0 pmm0 cdm0 ctm0 : Value}
    {fm1 : Addr} {odm1 anm1 : Option Addr} {slm1 : Array (Option Value)} {ocm1 kVm1 dcm1 pmm1 cdm1 ctm1 : Value}
    {fm2 : Addr} {odm2 anm2 : Option Addr} {slm2 : Array (Option Value)} {ocm2 kVm2 dcm2 pmm2 cdm2 ctm2 : Value}
    {fm3 : Addr} {odm3 anm3 : Option Addr} {slm3 : Array (Option Value)} {ocm3 kVm3 dcm3 pmm3 cdm3 ctm3 : Value}
    {fm4 : Addr} {odm4 anm4 : Option Addr} {slm4 : Array (Option Value)} {ocm4 kVm4 dcm4 pmm4 cdm4 ctm4 : Value}
    {fm5 : Addr} {odm5 anm5 : Option Addr} {slm5 : Array (Option Value)} {ocm5 kVm5 dcm5 pmm5 cdm5 ctm5 : Value}
    {fm6 : Addr} {odm6 anm6 : Option Addr} {slm6 : Array (Option Value)} {ocm6 kVm6 dcm6 pmm6 cdm6 ctm6 : Value}
    {fm7 : Addr} {odm7 anm7 : Option Addr} {slm7 : Array (Option Value)} {ocm7 kVm7 dcm7 pmm7 cdm7 ctm7 : Value}
    {fm8 : Addr} {odm8 anm8 : Option Addr} {slm8 : Array (Option Value)} {ocm8 kVm8 dcm8 pmm8 cdm8 ctm8 : Value}
    {fm9 : Addr} {odm9 anm9 : Option Addr} {slm9 : Array (Option Value)} {ocm9 kVm9 dcm9 pmm9 cdm9 ctm9 : Value}
    {fm10 : Addr} {odm10 anm10 : Option Addr} {slm10 : Array (Option Value)} {ocm10 kVm10 dcm10 pmm10 cdm10 ctm10 : Value}
    {fm11 : Addr} {odm11 anm11 : Option Addr} {slm11 : Array (Option Value)} {ocm11 kVm11 dcm11 pmm11 cdm11 ctm11 : Value}
    {fm12 : Addr} {odm12 anm12 : Option Addr} {slm12 : Array (Option Value)} {ocm12 kVm12 dcm12 pmm12 cdm12 ctm12 : Value}
    {fm13 : Addr} {odm13 anm13 : Option Addr} {slm13 : Array (Option Value)} {ocm13 kVm13 dcm13 pmm13 cdm13 ctm13 : Value}
    {fm14 : Addr} {odm14 anm14 : Option Addr} {slm14 : Array (Option Value)} {ocm14 kVm14 dcm14 pmm14 cdm14 ctm14 : Value}
    {fm15 : Addr} {odm15 anm15 : Option Addr} {slm15 : Array (Option Value)} {ocm15 kVm15 dcm15 pmm15 cdm15 ctm15 : Value}
    {fm16 : Addr} {odm16 anm16 : Option Addr} {slm16 : Array (Option Value)} {ocm16 kVm16 dcm16 pmm16 cdm16 ctm16 : Value}
    {fm17 : Addr} {odm17 anm17 : Option Addr} {slm17 : Array (Option Value)} {ocm17 kVm17 dcm17 pmm17 cdm17 ctm17 : Value}
    {fm18 : Addr} {odm18 anm18 : Option Addr} {slm18 : Array (Option Value)} {ocm18 kVm18 dcm18 pmm18 cdm18 ctm18 : Value}
    {fm19 : Addr} {odm19 anm19 : Option Addr} {slm19 : Array (Option Value)} {ocm19 kVm19 dcm19 pmm19 cdm19 ctm19 : Value}
    {fm20 : Addr} {odm20 anm20 : Option Addr} {slm20 : Array (Option Value)} {ocm20 kVm20 dcm20 pmm20 cdm20 ctm20 : Value}
    {fm21 : Addr} {odm21 anm21 : Option Addr} {slm21 : Array (Option Value)} {ocm21 kVm21 dcm21 pmm21 cdm21 ctm21 : Value}
    {fm22 : Addr} {odm22 anm22 : Option Addr} {slm22 : Array (Option Value)} {ocm22 kVm22 dcm22 pmm22 cdm22 ctm22 : Value}
    {fm23 : Addr} {odm23 anm23 : Option Addr} {slm23 : Array (Option Value)} {ocm23 kVm23 dcm23 pmm23 cdm23 ctm23 : Value}
    {fm24 : Addr} {odm24 anm24 : Option Addr} {slm24 : Array (Option Value)} {ocm24 kVm24 dcm24 pmm24 cdm24 ctm24 : Value}
    {fm25 : Addr} {odm25 anm25 : Option Addr} {slm25 : Array (Option Value)} {ocm25 kVm25 dcm25 pmm25 cdm25 ctm25 : Value}
    {fm26 : Addr} {odm26 anm26 : Option Addr} {slm26 : Array (Option Value)} {ocm26 kVm26 dcm26 pmm26 cdm26 ctm26 : Value}
    {fm27 : Addr} {odm27 anm27 : Option Addr} {slm27 : Array (Option Value)} {ocm27 kVm27 dcm27 pmm27 cdm27 ctm27 : Value}
    {fc0 : Addr} {odc0 anc0 : Option Addr} {slc0 : Array (Option Value)} {occ0 kVc0 dcc0 pmc0 cdc0 ctc0 : Value}
    {fc1 : Addr} {odc1 anc1 : Option Addr} {slc1 : Array (Option Value)} {occ1 kVc1 dcc1 pmc1 cdc1 ctc1 : Value}
    {fc2 : Addr} {odc2 anc2 : Option Addr} {slc2 : Array (Option Value)} {occ2 kVc2 dcc2 pmc2 cdc2 ctc2 : Value}
    {fc3 : Addr} {odc3 anc3 : Option Addr} {slc3 : Array (Option Value)} {occ3 kVc3 dcc3 pmc3 cdc3 ctc3 : Value}
    {fc4 : Addr} {odc4 anc4 : Option Addr} {slc4 : Array (Option Value)} {occ4 kVc4 dcc4 pmc4 cdc4 ctc4 : Value}
    {fc5 : Addr} {odc5 anc5 : Option Addr} {slc5 : Array (Option Value)} {occ5 kVc5 dcc5 pmc5 cdc5 ctc5 : Value}
    {fc6 : Addr} {odc6 anc6 : Option Addr} {slc6 : Array (Option Value)} {occ6 kVc6 dcc6 pmc6 cdc6 ctc6 : Value}
    {nme0 qe0 : Str} {Ne0 : Addr} {bse0 : List Value} {sne0 : List Str} {sube0 : List Value} {abe0 : Bool} {cole0 : Option Bool} {dde0 : Option Addr} {m0e0 m1e0 m2e0 m3e0 m5e0 : Option Value}
    {fe0 : Addr} {ode0 ane0 : Option Addr} {sle0 : Array (Option Value)} {oce0 kVe0 dce0 pme0 cde0 cte0 : Value}
    {nme1 qe1 : Str} {Ne1 : Addr} {bse1 : List Value} {sne1 : List Str} {sube1 : List Value} {abe1 : Bool} {cole1 : Option Bool} {dde1 : Option Addr} {m0e1 m1e1 m2e1 m3e1 m5e1 : Option Value}
    {fe1 : Addr} {ode1 ane1 : Option Addr} {sle1 : Array (Option Value)} {oce1 kVe1 dce1 pme1 cde1 cte1 : Value}
    {nme2 qe2 : Str} {Ne2 : Addr} {bse2 : List Value} {sne2 : List Str} {sube2 : List Value} {abe2 : Bool} {cole2 : Option Bool} {dde2 : Option Addr} {m0e2 m1e2 m2e2 m3e2 m5e2 : Option Value}
    {fe2 : Addr} {ode2 ane2 : Option Addr} {sle2 : Array (Option Value)} {oce2 kVe2 dce2 pme2 cde2 cte2 : Value}
    {nme3 qe3 : Str} {Ne3 : Addr} {bse3 : List Value} {sne3 : List Str} {sube3 : List Value} {abe3 : Bool} {cole3 : Option Bool} {dde3 : Option Addr} {m0e3 m1e3 m2e3 m3e3 m5e3 : Option Value}
    {fe3 : Addr} {ode3 ane3 : Option Addr} {sle3 : Array (Option Value)} {oce3 kVe3 dce3 pme3 cde3 cte3 : Value}
    {pM : Addr}
    {pR : Addr}
    {pS : Addr}
    {tR tS t12 : Tok}
    {foadd roadd : Option Value}
    {fomul romul : Option Value}
    {folshift rolshift : Option Value}
    {forshift rorshift : Option Value}
    (aC : PySem.W.nsIn K mainGlobals "Chart" = some (some (.ref C)))
    (am0 : PySem.W.nsIn K mainGlobals "is_integer" = some (some (.ref fm0)))
    (lm0 : K.lookup fm0 = some ⟨ocm0, odm0, .func (PySem.W.fnOf "is_integer" "is_integer" (defArgs sIsInt) (defBody sIsInt) (defScope sIsInt) .none kVm0 dcm0 pmm0 anm0 cdm0 ctm0), slm0⟩)
    (cm0 : PySem.W.codeIn K cdm0 "is_integer" = true)
    (km0 : PySem.W.keepIn K (.ref fm0) = true)
    (am1 : PySem.W.nsIn K mainGlobals "is_between" = some (some (.ref fm1)))
    (lm1 : K.lookup fm1 = some ⟨ocm1, odm1, .func (PySem.W.fnOf "is_between" "is_between" (defArgs sIsBet) (defBody sIsBet) (defScope sIsBet) .none kVm1 dcm1 pmm1 anm1 cdm1 ctm1), slm1⟩)
    (cm1 : PySem.W.codeIn K cdm1 "is_between" = true)
    (km1 : PySem.W.keepIn K (.ref fm1) = true)
    (am2 : PySem.W.nsIn K mainGlobals "is_name" = some (some (.ref fm2)))
    (lm2 : K.lookup fm2 = some ⟨ocm2, odm2, .func (PySem.W.fnOf "is_name" "is_name" (defArgs sIsName) (defBody sIsName) (defScope sIsName) .none kVm2 dcm2 pmm2 anm2 cdm2 ctm2), slm2⟩)
    (cm2 : PySem.W.codeIn K cdm2 "is_name" = true)
    (km2 : PySem.W.keepIn K (.ref fm2) = true)
    (am3 : PySem.W.nsIn K mainGlobals "greatest_divisor" = some (some (.ref fm3)))
    (lm3 : K.lookup fm3 = some ⟨ocm3, odm3, .func (PySem.W.fnOf "greatest_divisor" "greatest_divisor" (defArgs sGcd) (defBody sGcd) (defScope sGcd) .none kVm3 dcm3 pmm3 anm3 cdm3 ctm3), slm3⟩)
    (cm3 : PySem.W.codeIn K cdm3 "greatest_divisor" = true)
    (km3 : PySem.W.keepIn K (.ref fm3) = true)
    (am4 : PySem.W.nsIn K mainGlobals "checked_roster" = some (some (.ref fm4)))
    (lm4 : K.lookup fm4 = some ⟨ocm4, odm4, .func (PySem.W.fnOf "checked_roster" "checked_roster" (defArgs sRoster) (defBody sRoster) (defScope sRoster) .none kVm4 dcm4 pmm4 anm4 cdm4 ctm4), slm4⟩)
    (cm4 : PySem.W.codeIn K cdm4 "checked_roster" = true)
    (km4 : PySem.W.keepIn K (.ref fm4) = true)
    (am5 : PySem.W.nsIn K mainGlobals "round_fault" = some (some (.ref fm5)))
    (lm5 : K.lookup fm5 = some ⟨ocm5, odm5, .func (PySem.W.fnOf "round_fault" "round_fault" (defArgs sFault) (defBody sFault) (defScope sFault) .none kVm5 dcm5 pmm5 anm5 cdm5 ctm5), slm5⟩)
    (cm5 : PySem.W.codeIn K cdm5 "round_fault" = true)
    (km5 : PySem.W.keepIn K (.ref fm5) = true)
    (am6 : PySem.W.nsIn K mainGlobals "multiplied" = some (some (.ref fm6)))
    (lm6 : K.lookup fm6 = some ⟨ocm6, odm6, .func (PySem.W.fnOf "multiplied" "multiplied" (defArgs sMult) (defBody sMult) (defScope sMult) .none kVm6 dcm6 pmm6 anm6 cdm6 ctm6), slm6⟩)
    (cm6 : PySem.W.codeIn K cdm6 "multiplied" = true)
    (km6 : PySem.W.keepIn K (.ref fm6) = true)
    (am7 : PySem.W.nsIn K mainGlobals "_law_mixed" = some (some (.ref fm7)))
    (lm7 : K.lookup fm7 = some ⟨ocm7, odm7, .func (PySem.W.fnOf "_law_mixed" "_law_mixed" (defArgs sMixed) (defBody sMixed) (defScope sMixed) .none kVm7 dcm7 pmm7 anm7 cdm7 ctm7), slm7⟩)
    (cm7 : PySem.W.codeIn K cdm7 "_law_mixed" = true)
    (km7 : PySem.W.keepIn K (.ref fm7) = true)
    (am8 : PySem.W.nsIn K mainGlobals "_law_folded" = some (some (.ref fm8)))
    (lm8 : K.lookup fm8 = some ⟨ocm8, odm8, .func (PySem.W.fnOf "_law_folded" "_law_folded" (defArgs sFolded) (defBody sFolded) (defScope sFolded) .none kVm8 dcm8 pmm8 anm8 cdm8 ctm8), slm8⟩)
    (cm8 : PySem.W.codeIn K cdm8 "_law_folded" = true)
    (km8 : PySem.W.keepIn K (.ref fm8) = true)
    (am9 : PySem.W.nsIn K mainGlobals "_law_draw" = some (some (.ref fm9)))
    (lm9 : K.lookup fm9 = some ⟨ocm9, odm9, .func (PySem.W.fnOf "_law_draw" "_law_draw" (defArgs sDraw) (defBody sDraw) (defScope sDraw) .none kVm9 dcm9 pmm9 anm9 cdm9 ctm9), slm9⟩)
    (cm9 : PySem.W.codeIn K cdm9 "_law_draw" = true)
    (km9 : PySem.W.keepIn K (.ref fm9) = true)
    (am10 : PySem.W.nsIn K mainGlobals "_law_begun" = some (some (.ref fm10)))
    (lm10 : K.lookup fm10 = some ⟨ocm10, odm10, .func (PySem.W.fnOf "_law_begun" "_law_begun" (defArgs sBegun) (defBody sBegun) (defScope sBegun) .none kVm10 dcm10 pmm10 anm10 cdm10 ctm10), slm10⟩)
    (cm10 : PySem.W.codeIn K cdm10 "_law_begun" = true)
    (km10 : PySem.W.keepIn K (.ref fm10) = true)
    (am11 : PySem.W.nsIn K mainGlobals "_law_big" = some (some (.ref fm11)))
    (lm11 : K.lookup fm11 = some ⟨ocm11, odm11, .func (PySem.W.fnOf "_law_big" "_law_big" (defArgs sBig) (defBody sBig) (defScope sBig) .none kVm11 dcm11 pmm11 anm11 cdm11 ctm11), slm11⟩)
    (cm11 : PySem.W.codeIn K cdm11 "_law_big" = true)
    (km11 : PySem.W.keepIn K (.ref fm11) = true)
    (am12 : PySem.W.nsIn K mainGlobals "_law_names" = some (some (.ref fm12)))
    (lm12 : K.lookup fm12 = some ⟨ocm12, odm12, .func (PySem.W.fnOf "_law_names" "_law_names" (defArgs sNames) (defBody sNames) (defScope sNames) .none kVm12 dcm12 pmm12 anm12 cdm12 ctm12), slm12⟩)
    (cm12 : PySem.W.codeIn K cdm12 "_law_names" = true)
    (km12 : PySem.W.keepIn K (.ref fm12) = true)
    (am13 : PySem.W.nsIn K mainGlobals "_law_scale" = some (some (.ref fm13)))
    (lm13 : K.lookup fm13 = some ⟨ocm13, odm13, .func (PySem.W.fnOf "_law_scale" "_law_scale" (defArgs sScale) (defBody sScale) (defScope sScale) .none kVm13 dcm13 pmm13 anm13 cdm13 ctm13), slm13⟩)
    (cm13 : PySem.W.codeIn K cdm13 "_law_scale" = true)
    (km13 : PySem.W.keepIn K (.ref fm13) = true)
    (am14 : PySem.W.nsIn K mainGlobals "_law_shares" = some (some (.ref fm14)))
    (lm14 : K.lookup fm14 = some ⟨ocm14, odm14, .func (PySem.W.fnOf "_law_shares" "_law_shares" (defArgs sShares) (defBody sShares) (defScope sShares) .none kVm14 dcm14 pmm14 anm14 cdm14 ctm14), slm14⟩)
    (cm14 : PySem.W.codeIn K cdm14 "_law_shares" = true)
    (km14 : PySem.W.keepIn K (.ref fm14) = true)
    (am15 : PySem.W.nsIn K mainGlobals "_law_table" = some (some (.ref fm15)))
    (lm15 : K.lookup fm15 = some ⟨ocm15, odm15, .func (PySem.W.fnOf "_law_table" "_law_table" (defArgs sTable) (defBody sTable) (defScope sTable) .none kVm15 dcm15 pmm15 anm15 cdm15 ctm15), slm15⟩)
    (cm15 : PySem.W.codeIn K cdm15 "_law_table" = true)
    (km15 : PySem.W.keepIn K (.ref fm15) = true)
    (am16 : PySem.W.nsIn K mainGlobals "_law_ints" = some (some (.ref fm16)))
    (lm16 : K.lookup fm16 = some ⟨ocm16, odm16, .func (PySem.W.fnOf "_law_ints" "_law_ints" (defArgs sInts) (defBody sInts) (defScope sInts) .none kVm16 dcm16 pmm16 anm16 cdm16 ctm16), slm16⟩)
    (cm16 : PySem.W.codeIn K cdm16 "_law_ints" = true)
    (km16 : PySem.W.keepIn K (.ref fm16) = true)
    (am17 : PySem.W.nsIn K mainGlobals "_law_int" = some (some (.ref fm17)))
    (lm17 : K.lookup fm17 = some ⟨ocm17, odm17, .func (PySem.W.fnOf "_law_int" "_law_int" (defArgs sInt) (defBody sInt) (defScope sInt) .none kVm17 dcm17 pmm17 anm17 cdm17 ctm17), slm17⟩)
    (cm17 : PySem.W.codeIn K cdm17 "_law_int" = true)
    (km17 : PySem.W.keepIn K (.ref fm17) = true)
    (am18 : PySem.W.nsIn K mainGlobals "_law_texts" = some (some (.ref fm18)))
    (lm18 : K.lookup fm18 = some ⟨ocm18, odm18, .func (PySem.W.fnOf "_law_texts" "_law_texts" (defArgs sTexts) (defBody sTexts) (defScope sTexts) .none kVm18 dcm18 pmm18 anm18 cdm18 ctm18), slm18⟩)
    (cm18 : PySem.W.codeIn K cdm18 "_law_texts" = true)
    (km18 : PySem.W.keepIn K (.ref fm18) = true)
    (am19 : PySem.W.nsIn K mainGlobals "_law_is_chart" = some (some (.ref fm19)))
    (lm19 : K.lookup fm19 = some ⟨ocm19, odm19, .func (PySem.W.fnOf "_law_is_chart" "_law_is_chart" (defArgs sIsChart) (defBody sIsChart) (defScope sIsChart) .none kVm19 dcm19 pmm19 anm19 cdm19 ctm19), slm19⟩)
    (cm19 : PySem.W.codeIn K cdm19 "_law_is_chart" = true)
    (km19 : PySem.W.keepIn K (.ref fm19) = true)
    (am20 : PySem.W.nsIn K mainGlobals "_law_divisor" = some (some (.ref fm20)))
    (lm20 : K.lookup fm20 = some ⟨ocm20, odm20, .func (PySem.W.fnOf "_law_divisor" "_law_divisor" (defArgs sDivisor) (defBody sDivisor) (defScope sDivisor) .none kVm20 dcm20 pmm20 anm20 cdm20 ctm20), slm20⟩)
    (cm20 : PySem.W.codeIn K cdm20 "_law_divisor" = true)
    (km20 : PySem.W.keepIn K (.ref fm20) = true)
    (am21 : PySem.W.nsIn K mainGlobals "_law_times" = some (some (.ref fm21)))
    (lm21 : K.lookup fm21 = some ⟨ocm21, odm21, .func (PySem.W.fnOf "_law_times" "_law_times" (defArgs sTimes) (defBody sTimes) (defScope sTimes) .none kVm21 dcm21 pmm21 anm21 cdm21 ctm21), slm21⟩)
    (cm21 : PySem.W.codeIn K cdm21 "_law_times" = true)
    (km21 : PySem.W.keepIn K (.ref fm21) = true)
    (am22 : PySem.W.nsIn K mainGlobals "_law_sum" = some (some (.ref fm22)))
    (lm22 : K.lookup fm22 = some ⟨ocm22, odm22, .func (PySem.W.fnOf "_law_sum" "_law_sum" (defArgs sSum) (defBody sSum) (defScope sSum) .none kVm22 dcm22 pmm22 anm22 cdm22 ctm22), slm22⟩)
    (cm22 : PySem.W.codeIn K cdm22 "_law_sum" = true)
    (km22 : PySem.W.keepIn K (.ref fm22) = true)
    (am23 : PySem.W.nsIn K mainGlobals "_law_product" = some (some (.ref fm23)))
    (lm23 : K.lookup fm23 = some ⟨ocm23, odm23, .func (PySem.W.fnOf "_law_product" "_law_product" (defArgs sProduct) (defBody sProduct) (defScope sProduct) .none kVm23 dcm23 pmm23 anm23 cdm23 ctm23), slm23⟩)
    (cm23 : PySem.W.codeIn K cdm23 "_law_product" = true)
    (km23 : PySem.W.keepIn K (.ref fm23) = true)
    (am24 : PySem.W.nsIn K mainGlobals "_law_sums" = some (some (.ref fm24)))
    (lm24 : K.lookup fm24 = some ⟨ocm24, odm24, .func (PySem.W.fnOf "_law_sums" "_law_sums" (defArgs sSums) (defBody sSums) (defScope sSums) .none kVm24 dcm24 pmm24 anm24 cdm24 ctm24), slm24⟩)
    (cm24 : PySem.W.codeIn K cdm24 "_law_sums" = true)
    (km24 : PySem.W.keepIn K (.ref fm24) = true)
    (am25 : PySem.W.nsIn K mainGlobals "_law_products" = some (some (.ref fm25)))
    (lm25 : K.lookup fm25 = some ⟨ocm25, odm25, .func (PySem.W.fnOf "_law_products" "_law_products" (defArgs sProducts) (defBody sProducts) (defScope sProducts) .none kVm25 dcm25 pmm25 anm25 cdm25 ctm25), slm25⟩)
    (cm25 : PySem.W.codeIn K cdm25 "_law_products" = true)
    (km25 : PySem.W.keepIn K (.ref fm25) = true)
    (am26 : PySem.W.nsIn K mainGlobals "_law_turned" = some (some (.ref fm26)))
    (lm26 : K.lookup fm26 = some ⟨ocm26, odm26, .func (PySem.W.fnOf "_law_turned" "_law_turned" (defArgs sTurned) (defBody sTurned) (defScope sTurned) .none kVm26 dcm26 pmm26 anm26 cdm26 ctm26), slm26⟩)
    (cm26 : PySem.W.codeIn K cdm26 "_law_turned" = true)
    (km26 : PySem.W.keepIn K (.ref fm26) = true)
    (am27 : PySem.W.nsIn K mainGlobals "law" = some (some (.ref fm27)))
    (lm27 : K.lookup fm27 = some ⟨ocm27, odm27, .func (PySem.W.fnOf "law" "law" (defArgs sLaw) (defBody sLaw) (defScope sLaw) .none kVm27 dcm27 pmm27 anm27 cdm27 ctm27), slm27⟩)
    (cm27 : PySem.W.codeIn K cdm27 "law" = true)
    (km27 : PySem.W.keepIn K (.ref fm27) = true)
    (ac0 : PySem.W.findIn K (.ref C) "__init__" = some (some (.ref fc0)))
    (lc0 : K.lookup fc0 = some ⟨occ0, odc0, .func (PySem.W.fnOf "__init__" "Chart.__init__" (defArgs sInit) (defBody sInit) (defScope sInit) .none kVc0 dcc0 pmc0 anc0 cdc0 ctc0), slc0⟩)
    (cc0 : PySem.W.codeIn K cdc0 "Chart.__init__" = true)
    (kc0 : PySem.W.keepIn K (.ref fc0) = true)
    (ic0 : PySem.W.isFn K (.ref fc0) = true)
    (ac1 : PySem.W.findIn K (.ref C) "__add__" = some (some (.ref fc1)))
    (lc1 : K.lookup fc1 = some ⟨occ1, odc1, .func (PySem.W.fnOf "__add__" "Chart.__add__" (defArgs sAdd) (defBody sAdd) (defScope sAdd) .none kVc1 dcc1 pmc1 anc1 cdc1 ctc1), slc1⟩)
    (cc1 : PySem.W.codeIn K cdc1 "Chart.__add__" = true)
    (kc1 : PySem.W.keepIn K (.ref fc1) = true)
    (ic1 : PySem.W.isFn K (.ref fc1) = true)
    (ac2 : PySem.W.findIn K (.ref C) "__mul__" = some (some (.ref fc2)))
    (lc2 : K.lookup fc2 = some ⟨occ2, odc2, .func (PySem.W.fnOf "__mul__" "Chart.__mul__" (defArgs sMul) (defBody sMul) (defScope sMul) .none kVc2 dcc2 pmc2 anc2 cdc2 ctc2), slc2⟩)
    (cc2 : PySem.W.codeIn K cdc2 "Chart.__mul__" = true)
    (kc2 : PySem.W.keepIn K (.ref fc2) = true)
    (ic2 : PySem.W.isFn K (.ref fc2) = true)
    (ac3 : PySem.W.findIn K (.ref C) "__rmul__" = some (some (.ref fc3)))
    (lc3 : K.lookup fc3 = some ⟨occ3, odc3, .func (PySem.W.fnOf "__rmul__" "Chart.__rmul__" (defArgs sRmul) (defBody sRmul) (defScope sRmul) .none kVc3 dcc3 pmc3 anc3 cdc3 ctc3), slc3⟩)
    (cc3 : PySem.W.codeIn K cdc3 "Chart.__rmul__" = true)
    (kc3 : PySem.W.keepIn K (.ref fc3) = true)
    (ic3 : PySem.W.isFn K (.ref fc3) = true)
    (ac4 : PySem.W.findIn K (.ref C) "__lshift__" = some (some (.ref fc4)))
    (lc4 : K.lookup fc4 = some ⟨occ4, odc4, .func (PySem.W.fnOf "__lshift__" "Chart.__lshift__" (defArgs sLsh) (defBody sLsh) (defScope sLsh) .none kVc4 dcc4 pmc4 anc4 cdc4 ctc4), slc4⟩)
    (cc4 : PySem.W.codeIn K cdc4 "Chart.__lshift__" = true)
    (kc4 : PySem.W.keepIn K (.ref fc4) = true)
    (ic4 : PySem.W.isFn K (.ref fc4) = true)
    (ac5 : PySem.W.findIn K (.ref C) "__rshift__" = some (some (.ref fc5)))
    (lc5 : K.lookup fc5 = some ⟨occ5, odc5, .func (PySem.W.fnOf "__rshift__" "Chart.__rshift__" (defArgs sRsh) (defBody sRsh) (defScope sRsh) .none kVc5 dcc5 pmc5 anc5 cdc5 ctc5), slc5⟩)
    (cc5 : PySem.W.codeIn K cdc5 "Chart.__rshift__" = true)
    (kc5 : PySem.W.keepIn K (.ref fc5) = true)
    (ic5 : PySem.W.isFn K (.ref fc5) = true)
    (ac6 : PySem.W.findIn K (.ref C) "__invert__" = some (some (.ref fc6)))
    (lc6 : K.lookup fc6 = some ⟨occ6, odc6, .func (PySem.W.fnOf "__invert__" "Chart.__invert__" (defArgs sInv) (defBody sInv) (defScope sInv) .none kVc6 dcc6 pmc6 anc6 cdc6 ctc6), slc6⟩)
    (cc6 : PySem.W.codeIn K cdc6 "Chart.__invert__" = true)
    (kc6 : PySem.W.keepIn K (.ref fc6) = true)
    (ic6 : PySem.W.isFn K (.ref fc6) = true)
    (ge0 : PySem.W.nsIn K mainGlobals "InvalidScale" = some (some (.ref CS)))
    (xe0 : K.lookup CS = some (excClassObj nme0 qe0 CS Ne0 bse0 [.ref CB, .type "ValueError", .type "Exception", .type "BaseException", .type "object"] true sne0 sube0 abe0 cole0 dde0 m0e0 m1e0 m2e0 m3e0 m5e0 "ValueError.__new__"))
    (sae0 : PySem.W.findIn K (.ref CS) "__setattr__" = some (some (.builtin "object.__setattr__")))
    (gae0 : PySem.W.findIn K (.ref CS) "__getattribute__" = some (some (.builtin "BaseException.__getattribute__")))
    (gge0 : PySem.W.findIn K (.ref CS) "__getattr__" = some none)
    (noe0 : PySem.W.findIn K (.ref CS) "value" = some none)
    (exe0 : PySem.W.subIn K (.ref CS) (.type "BaseException") = some true)
    (tye0 : PySem.W.typeIn K (.ref CS) = some (.type "type"))
    (kpe0 : PySem.W.keepIn K (.ref CS) = true)
    (hde0 : PySem.W.hasDictIn K CS = true)
    (ice0 : PySem.W.isClsIn K CS = true)
    (ae0 : PySem.W.findIn K (.ref CS) "__init__" = some (some (.ref fe0)))
    (le0 : K.lookup fe0 = some ⟨oce0, ode0, .func (PySem.W.fnOf "__init__" "InvalidScale.__init__" (defArgs sEScale) (defBody sEScale) (defScope sEScale) .none kVe0 dce0 pme0 ane0 cde0 cte0), sle0⟩)
    (ce0 : PySem.W.codeIn K cde0 "InvalidScale.__init__" = true)
    (ke0 : PySem.W.keepIn K (.ref fe0) = true)
    (tfe0 : PySem.W.typeIn K (.ref fe0) = some (.type "function"))
    (ge1 : PySem.W.nsIn K mainGlobals "TooManyRounds" = some (some (.ref CM)))
    (xe1 : K.lookup CM = some (excClassObj nme1 qe1 CM Ne1 bse1 [.ref CB, .type "ValueError", .type "Exception", .type "BaseException", .type "object"] true sne1 sube1 abe1 cole1 dde1 m0e1 m1e1 m2e1 m3e1 m5e1 "ValueError.__new__"))
    (sae1 : PySem.W.findIn K (.ref CM) "__setattr__" = some (some (.builtin "object.__setattr__")))
    (gae1 : PySem.W.findIn K (.ref CM) "__getattribute__" = some (some (.builtin "BaseException.__getattribute__")))
    (gge1 : PySem.W.findIn K (.ref CM) "__getattr__" = some none)
    (noe1 : PySem.W.findIn K (.ref CM) "count" = some none)
    (exe1 : PySem.W.subIn K (.ref CM) (.type "BaseException") = some true)
    (tye1 : PySem.W.typeIn K (.ref CM) = some (.type "type"))
    (kpe1 : PySem.W.keepIn K (.ref CM) = true)
    (hde1 : PySem.W.hasDictIn K CM = true)
    (ice1 : PySem.W.isClsIn K CM = true)
    (ae1 : PySem.W.findIn K (.ref CM) "__init__" = some (some (.ref fe1)))
    (le1 : K.lookup fe1 = some ⟨oce1, ode1, .func (PySem.W.fnOf "__init__" "TooManyRounds.__init__" (defArgs sEMany) (defBody sEMany) (defScope sEMany) .none kVe1 dce1 pme1 ane1 cde1 cte1), sle1⟩)
    (ce1 : PySem.W.codeIn K cde1 "TooManyRounds.__init__" = true)
    (ke1 : PySem.W.keepIn K (.ref fe1) = true)
    (tfe1 : PySem.W.typeIn K (.ref fe1) = some (.type "function"))
    (ge2 : PySem.W.nsIn K mainGlobals "InvalidCount" = some (some (.ref CC)))
    (xe2 : K.lookup CC = some (excClassObj nme2 qe2 CC Ne2 bse2 [.ref CB, .type "ValueError", .type "Exception", .type "BaseException", .type "object"] true sne2 sube2 abe2 cole2 dde2 m0e2 m1e2 m2e2 m3e2 m5e2 "ValueError.__new__"))
    (sae2 : PySem.W.findIn K (.ref CC) "__setattr__" = some (some (.builtin "object.__setattr__")))
    (gae2 : PySem.W.findIn K (.ref CC) "__getattribute__" = some (some (.builtin "BaseException.__getattribute__")))
    (gge2 : PySem.W.findIn K (.ref CC) "__getattr__" = some none)
    (noe2 : PySem.W.findIn K (.ref CC) "value" = some none)
    (exe2 : PySem.W.subIn K (.ref CC) (.type "BaseException") = some true)
    (tye2 : PySem.W.typeIn K (.ref CC) = some (.type "type"))
    (kpe2 : PySem.W.keepIn K (.ref CC) = true)
    (hde2 : PySem.W.hasDictIn K CC = true)
    (ice2 : PySem.W.isClsIn K CC = true)
    (ae2 : PySem.W.findIn K (.ref CC) "__init__" = some (some (.ref fe2)))
    (le2 : K.lookup fe2 = some ⟨oce2, ode2, .func (PySem.W.fnOf "__init__" "InvalidCount.__init__" (defArgs sECount) (defBody sECount) (defScope sECount) .none kVe2 dce2 pme2 ane2 cde2 cte2), sle2⟩)
    (ce2 : PySem.W.codeIn K cde2 "InvalidCount.__init__" = true)
    (ke2 : PySem.W.keepIn K (.ref fe2) = true)
    (tfe2 : PySem.W.typeIn K (.ref fe2) = some (.type "function"))
    (ge3 : PySem.W.nsIn K mainGlobals "OtherMembers" = some (some (.ref CO)))
    (xe3 : K.lookup CO = some (excClassObj nme3 qe3 CO Ne3 bse3 [.ref CB, .type "ValueError", .type "Exception", .type "BaseException", .type "object"] true sne3 sube3 abe3 cole3 dde3 m0e3 m1e3 m2e3 m3e3 m5e3 "ValueError.__new__"))
    (sae3 : PySem.W.findIn K (.ref CO) "__setattr__" = some (some (.builtin "object.__setattr__")))
    (gae3 : PySem.W.findIn K (.ref CO) "__getattribute__" = some (some (.builtin "BaseException.__getattribute__")))
    (gge3 : PySem.W.findIn K (.ref CO) "__getattr__" = some none)
    (noe3 : PySem.W.findIn K (.ref CO) "members" = some none)
    (exe3 : PySem.W.subIn K (.ref CO) (.type "BaseException") = some true)
    (tye3 : PySem.W.typeIn K (.ref CO) = some (.type "type"))
    (kpe3 : PySem.W.keepIn K (.ref CO) = true)
    (hde3 : PySem.W.hasDictIn K CO = true)
    (ice3 : PySem.W.isClsIn K CO = true)
    (ae3 : PySem.W.findIn K (.ref CO) "__init__" = some (some (.ref fe3)))
    (le3 : K.lookup fe3 = some ⟨oce3, ode3, .func (PySem.W.fnOf "__init__" "OtherMembers.__init__" (defArgs sEOther) (defBody sEOther) (defScope sEOther) .none kVe3 dce3 pme3 ane3 cde3 cte3), sle3⟩)
    (ce3 : PySem.W.codeIn K cde3 "OtherMembers.__init__" = true)
    (ke3 : PySem.W.keepIn K (.ref fe3) = true)
    (tfe3 : PySem.W.typeIn K (.ref fe3) = some (.type "function"))
    (zoo : PySem.W.subIn K (.ref CO) (.ref CO) = some true)
    (zmo : PySem.W.subIn K (.ref CM) (.ref CO) = some false)
    (zmm : PySem.W.subIn K (.ref CM) (.ref CM) = some true)
    (zso : PySem.W.subIn K (.ref CS) (.ref CO) = some false)
    (zsm : PySem.W.subIn K (.ref CS) (.ref CM) = some false)
    (zss : PySem.W.subIn K (.ref CS) (.ref CS) = some true)
    (zcc : PySem.W.subIn K (.ref CC) (.ref CC) = some true)
    (zmc : PySem.W.subIn K (.ref CM) (.ref CC) = some false)
    (gB : PySem.W.nsIn K mainGlobals "TurnError" = some (some (.ref CB)))
    (rB : PySem.W.readsIn K CB (.type "type") = true)
    (sB : PySem.W.specialIn K (.ref CB) "__getattribute__" = some (some (.builtin "type.__getattribute__")))
    (vB : PySem.W.findCls K (.ref CB) (.type "type") "__init__" = some (.val (.builtin "ValueError.__init__")))
    (pg : PySem.W.plainGet K C Str.empty = true)
    (icC : PySem.W.isClsIn K C = true)
    (po : PySem.W.plainOver K C = true)
    (saC : PySem.W.findIn K (.ref C) "__setattr__" = some (some (.builtin "object.__setattr__")))
    (atM : PySem.W.findIn K (.ref C) "members" = some (some (.ref pM)))
    (gtM : PySem.W.specialIn K (.ref pM) "__get__" = some (some (.builtin "member_descriptor.__get__")))
    (tkM : PySem.W.takesIn K (.ref pM) = some true)
    (tyM : PySem.W.typeIn K (.ref pM) = some (.type "member_descriptor"))
    (ixM : PySem.W.slotIn K pM C = some 0)
    (atR : PySem.W.findIn K (.ref C) "rounds" = some (some (.ref pR)))
    (gtR : PySem.W.specialIn K (.ref pR) "__get__" = some (some (.builtin "member_descriptor.__get__")))
    (tkR : PySem.W.takesIn K (.ref pR) = some true)
    (tyR : PySem.W.typeIn K (.ref pR) = some (.type "member_descriptor"))
    (ixR : PySem.W.slotIn K pR C = some 1)
    (atS : PySem.W.findIn K (.ref C) "scale" = some (some (.ref pS)))
    (gtS : PySem.W.specialIn K (.ref pS) "__get__" = some (some (.builtin "member_descriptor.__get__")))
    (tkS : PySem.W.takesIn K (.ref pS) = some true)
    (tyS : PySem.W.typeIn K (.ref pS) = some (.type "member_descriptor"))
    (ixS : PySem.W.slotIn K pS C = some 2)
    (rC : PySem.W.readsIn K C (.type "type") = true)
    (sC : PySem.W.specialIn K (.ref C) "__getattribute__" = some (some (.builtin "type.__getattribute__")))
    (vR : PySem.W.findCls K (.ref C) (.type "type") "MAX_ROUNDS" = some (.val (.int 240 tR)))
    (vS : PySem.W.findCls K (.ref C) (.type "type") "MAX_SCALE" = some (.val (.int 1000000000000 tS)))
    (mk : PySem.W.makesIn K C = true)
    (kC : PySem.W.keepIn K (.ref C) = true)
    (sf : PySem.W.selfFirst K C = true)
    (ca : PySem.W.findIn K (.ref C) "__class__" = some (some (.builtin "object.__class__")))
    (cn : PySem.W.specialIn K (.builtin "object.__class__") "__get__" = some (some (.builtin "getset_descriptor.__get__")))
    (ct : PySem.W.takesIn K (.builtin "object.__class__") = some true)
    (cm : PySem.W.mroIn K C (.type "object") = some true)
    (s1 : PySem.W.subIn K (.type "int") (.ref C) = some false)
    (s2 : PySem.W.subIn K (.ref C) (.type "int") = some false)
    (rfadd : PySem.W.findIn K (.ref C) "__radd__" = some none)
    (rflshift : PySem.W.findIn K (.ref C) "__rlshift__" = some none)
    (rfrshift : PySem.W.findIn K (.ref C) "__rrshift__" = some none)
    (iladd : PySem.W.findIn K (.type "int") "__add__" = some foadd)
    (iradd : PySem.W.findIn K (.type "int") "__radd__" = some roadd)
    (ilmul : PySem.W.findIn K (.type "int") "__mul__" = some fomul)
    (irmul : PySem.W.findIn K (.type "int") "__rmul__" = some romul)
    (illshift : PySem.W.findIn K (.type "int") "__lshift__" = some folshift)
    (irlshift : PySem.W.findIn K (.type "int") "__rlshift__" = some rolshift)
    (ilrshift : PySem.W.findIn K (.type "int") "__rshift__" = some forshift)
    (irrshift : PySem.W.findIn K (.type "int") "__rrshift__" = some rorshift)
    (mL : PySem.W.nsIn K mainGlobals "MOST_LETTERS" = some (some (.int 12 t12)))
    (nisi : PySem.W.nsIn K mainGlobals "isinstance" = some none)
    (nint : PySem.W.nsIn K mainGlobals "int" = some none)
    (nbool : PySem.W.nsIn K mainGlobals "bool" = some none)
    (nstr : PySem.W.nsIn K mainGlobals "str" = some none)
    (nlen : PySem.W.nsIn K mainGlobals "len" = some none)
    (nall : PySem.W.nsIn K mainGlobals "all" = some none)
    (ntuple : PySem.W.nsIn K mainGlobals "tuple" = some none)
    (nlist : PySem.W.nsIn K mainGlobals "list" = some none)
    (nenum : PySem.W.nsIn K mainGlobals "enumerate" = some none)
    (nsum : PySem.W.nsIn K mainGlobals "sum" = some none)
    (nrange : PySem.W.nsIn K mainGlobals "range" = some none)
    (nzip : PySem.W.nsIn K mainGlobals "zip" = some none) :
    ∃ fd : FuncData, (∀ (s : Shared) (v : Value), BindsTo s fd ⟨[v], []⟩ [("_law_script", v)]) ∧ ∀ base : Heap, K.In base → base.Ns mainGlobals mg → FnOk l.prog w K mg base CX0 10 fa fd ["_law_script"] (spLaw K) := by
  have e := hfa.symm.trans (PySem.W.mg_of X G am27)
  cases e
  have Fm0 := fun_mk (st := sIsInt) lm0 cm0 km0
  have bm0 := Fm0.binds (ps := ["value"]) fun _ _ _ _ _ _ us hl => match us, hl with | [_], _ => rfl
  have Fm1 := fun_mk (st := sIsBet) lm1 cm1 km1
  have bm1 := Fm1.binds (ps := ["value", "low", "high"]) fun _ _ _ _ _ _ us hl => match us, hl with | [_, _, _], _ => rfl
  have Fm2 := fun_mk (st := sIsName) lm2 cm2 km2
  have bm2 := Fm2.binds (ps := ["value"]) fun _ _ _ _ _ _ us hl => match us, hl with | [_], _ => rfl
  have Fm3 := fun_mk (st := sGcd) lm3 cm3 km3
  have bm3 := Fm3.binds (ps := ["one", "other"]) fun _ _ _ _ _ _ us hl => match us, hl with | [_, _], _ => rfl
  have Fm4 := fun_mk (st := sRoster) lm4 cm4 km4
  have bm4 := Fm4.binds (ps := ["members"]) fun _ _ _ _ _ _ us hl => match us, hl with | [_], _ => rfl
  have Fm5 := fun_mk (st := sFault) lm5 cm5 km5
  have bm5 := Fm5.binds (ps := ["shares", "count", "scale"]) fun _ _ _ _ _ _ us hl => match us, hl with | [_, _, _], _ => rfl
  have Fm6 := fun_mk (st := sMult) lm6 cm6 km6
  have bm6 := Fm6.binds (ps := ["rounds", "factor"]) fun _ _ _ _ _ _ us hl => match us, hl with | [_, _], _ => rfl
  have Fm7 := fun_mk (st := sMixed) lm7 cm7 km7
  have bm7 := Fm7.binds (ps := ["_law_cell", "_law_n"]) fun _ _ _ _ _ _ us hl => match us, hl with | [_, _], _ => rfl
  have Fm8 := fun_mk (st := sFolded) lm8 cm8 km8
  have bm8 := Fm8.binds (ps := ["_law_script"]) fun _ _ _ _ _ _ us hl => match us, hl with | [_], _ => rfl
  have Fm9 := fun_mk (st := sDraw) lm9 cm9 km9
  have bm9 := Fm9.binds (ps := ["_law_m", "_law_limit"]) fun _ _ _ _ _ _ us hl => match us, hl with | [_, _], _ => rfl
  have Fm10 := fun_mk (st := sBegun) lm10 cm10 km10
  have bm10 := Fm10.binds (ps := ["_law_script"]) fun _ _ _ _ _ _ us hl => match us, hl with | [_], _ => rfl
  have Fm11 := fun_mk (st := sBig) lm11 cm11 km11
  have bm11 := Fm11.binds (ps := ["_law_m", "_law_limit"]) fun _ _ _ _ _ _ us hl => match us, hl with | [_, _], _ => rfl
  have Fm12 := fun_mk (st := sNames) lm12 cm12 km12
  have bm12 := Fm12.binds (ps := ["_law_m", "_law_many"]) fun _ _ _ _ _ _ us hl => match us, hl with | [_, _], _ => rfl
  have Fm13 := fun_mk (st := sScale) lm13 cm13 km13
  have bm13 := Fm13.binds (ps := ["_law_m"]) fun _ _ _ _ _ _ us hl => match us, hl with | [_], _ => rfl
  have Fm14 := fun_mk (st := sShares) lm14 cm14 km14
  have bm14 := Fm14.binds (ps := ["_law_m", "_law_many", "_law_top"]) fun _ _ _ _ _ _ us hl => match us, hl with | [_, _, _], _ => rfl
  have Fm15 := fun_mk (st := sTable) lm15 cm15 km15
  have bm15 := Fm15.binds (ps := ["_law_m", "_law_many", "_law_top", "_law_count"]) fun _ _ _ _ _ _ us hl => match us, hl with | [_, _, _, _], _ => rfl
  have Fm16 := fun_mk (st := sInts) lm16 cm16 km16
  have bm16 := Fm16.binds (ps := ["_law_told", "_law_due"]) fun _ _ _ _ _ _ us hl => match us, hl with | [_, _], _ => rfl
  have Fm17 := fun_mk (st := sInt) lm17 cm17 km17
  have bm17 := Fm17.binds (ps := ["_law_told", "_law_due"]) fun _ _ _ _ _ _ us hl => match us, hl with | [_, _], _ => rfl
  have Fm18 := fun_mk (st := sTexts) lm18 cm18 km18
  have bm18 := Fm18.binds (ps := ["_law_told", "_law_due"]) fun _ _ _ _ _ _ us hl => match us, hl with | [_, _], _ => rfl
  have Fm19 := fun_mk (st := sIsChart) lm19 cm19 km19
  have bm19 := Fm19.binds (ps := ["_law_told", "_law_names_here", "_law_top", "_law_table_here"]) fun _ _ _ _ _ _ us hl => match us, hl with | [_, _, _, _], _ => rfl
  have Fm20 := fun_mk (st := sDivisor) lm20 cm20 km20
  have bm20 := Fm20.binds (ps := ["_law_one", "_law_two"]) fun _ _ _ _ _ _ us hl => match us, hl with | [_, _], _ => rfl
  have Fm21 := fun_mk (st := sTimes) lm21 cm21 km21
  have bm21 := Fm21.binds (ps := ["_law_table_here", "_law_factor"]) fun _ _ _ _ _ _ us hl => match us, hl with | [_, _], _ => rfl
  have Fm22 := fun_mk (st := sSum) lm22 cm22 km22
  have bm22 := Fm22.binds (ps := ["_law_one", "_law_two"]) fun _ _ _ _ _ _ us hl => match us, hl with | [_, _], _ => rfl
  have Fm23 := fun_mk (st := sProduct) lm23 cm23 km23
  have bm23 := Fm23.binds (ps := ["_law_one", "_law_factor", "_law_ahead"]) fun _ _ _ _ _ _ us hl => match us, hl with | [_, _, _], _ => rfl
  have Fm24 := fun_mk (st := sSums) lm24 cm24 km24
  have bm24 := Fm24.binds (ps := ["_law_names_here", "_law_one", "_law_two"]) fun _ _ _ _ _ _ us hl => match us, hl with | [_, _, _], _ => rfl
  have Fm25 := fun_mk (st := sProducts) lm25 cm25 km25
  have bm25 := Fm25.binds (ps := ["_law_names_here", "_law_top", "_law_table_here", "_law_factor"]) fun _ _ _ _ _ _ us hl => match us, hl with | [_, _, _, _], _ => rfl
  have Fm26 := fun_mk (st := sTurned) lm26 cm26 km26
  have bm26 := Fm26.binds (ps := ["_law_names_here", "_law_top", "_law_table_here", "_law_turn"]) fun _ _ _ _ _ _ us hl => match us, hl with | [_, _, _, _], _ => rfl
  have Fm27 := fun_mk (st := sLaw) lm27 cm27 km27
  have bm27 := Fm27.binds (ps := ["_law_script"]) fun _ _ _ _ _ _ us hl => match us, hl with | [_], _ => rfl
  have Fc0 := fun_mk (st := sInit) lc0 cc0 kc0
  have bc0 := Fc0.binds (ps := ["self", "members", "scale", "rounds"]) fun _ _ _ _ _ _ us hl => match us, hl with | [_, _, _, _], _ => rfl
  have Fc1 := fun_mk (st := sAdd) lc1 cc1 kc1
  have bc1 := Fc1.binds (ps := ["self", "other"]) fun _ _ _ _ _ _ us hl => match us, hl with | [_, _], _ => rfl
  have Fc2 := fun_mk (st := sMul) lc2 cc2 kc2
  have bc2 := Fc2.binds (ps := ["self", "count"]) fun _ _ _ _ _ _ us hl => match us, hl with | [_, _], _ => rfl
  have Fc3 := fun_mk (st := sRmul) lc3 cc3 kc3
  have bc3 := Fc3.binds (ps := ["self", "count"]) fun _ _ _ _ _ _ us hl => match us, hl with | [_, _], _ => rfl
  have Fc4 := fun_mk (st := sLsh) lc4 cc4 kc4
  have bc4 := Fc4.binds (ps := ["self", "count"]) fun _ _ _ _ _ _ us hl => match us, hl with | [_, _], _ => rfl
  have Fc5 := fun_mk (st := sRsh) lc5 cc5 kc5
  have bc5 := Fc5.binds (ps := ["self", "count"]) fun _ _ _ _ _ _ us hl => match us, hl with | [_, _], _ => rfl
  have Fc6 := fun_mk (st := sInv) lc6 cc6 kc6
  have bc6 := Fc6.binds (ps := ["self"]) fun _ _ _ _ _ _ us hl => match us, hl with | [_], _ => rfl
  have Fe0 := fun_mk (st := sEScale) le0 ce0 ke0
  have be0 := Fe0.binds (ps := ["self", "value"]) fun _ _ _ _ _ _ us hl => match us, hl with | [_, _], _ => rfl
  have Fe1 := fun_mk (st := sEMany) le1 ce1 ke1
  have be1 := Fe1.binds (ps := ["self", "count"]) fun _ _ _ _ _ _ us hl => match us, hl with | [_, _], _ => rfl
  have Fe2 := fun_mk (st := sECount) le2 ce2 ke2
  have be2 := Fe2.binds (ps := ["self", "value"]) fun _ _ _ _ _ _ us hl => match us, hl with | [_, _], _ => rfl
  have Fe3 := fun_mk (st := sEOther) le3 ce3 ke3
  have be3 := Fe3.binds (ps := ["self", "members"]) fun _ _ _ _ _ _ us hl => match us, hl with | [_, _], _ => rfl
  have B : Blt mg := ⟨PySem.W.mg_none_of X G nisi, PySem.W.mg_none_of X G nint, PySem.W.mg_none_of X G nbool, PySem.W.mg_none_of X G nstr, PySem.W.mg_none_of X G nlen, PySem.W.mg_none_of X G nall, PySem.W.mg_none_of X G ntuple, PySem.W.mg_none_of X G nlist, PySem.W.mg_none_of X G nenum, PySem.W.mg_none_of X G nsum, PySem.W.mg_none_of X G nrange, PySem.W.mg_none_of X G nzip⟩
  have BE : BaseE K mg := ⟨CB, .type "type", PySem.W.mg_of X G gB, ⟨rB, sB⟩, vB⟩
  have T : ChC K mg C := ⟨PySem.W.mg_of X G aC, ⟨pg, icC, po, saC⟩, ⟨pM, atM, gtM, tkM, tyM, ixM, by decide⟩, ⟨pR, atR, gtR, tkR, tyR, ixR, by decide⟩, ⟨pS, atS, gtS, tkS, tyS, ixS, by decide⟩, .type "type", ⟨rC, sC⟩, ⟨tR, vR, ⟨_, rfl⟩⟩, ⟨tS, vS, ⟨_, rfl⟩⟩⟩
  have I : SlX.SIsi K C := ⟨ca, cn, ct, cm⟩
  have OTadd : OpTxt K C fc1 "add" := ⟨sf, by rw [dn_add]; exact ac1, ic1⟩
  have OIadd : OpInt K C "add" := ⟨⟨none, by rw [dr_add]; exact rfadd, .inl rfl⟩, ⟨_, by rw [dn_add]; exact iladd⟩, ⟨_, by rw [dr_add]; exact iradd⟩, s1⟩
  have OTmul : OpTxt K C fc2 "mul" := ⟨sf, by rw [dn_mul]; exact ac2, ic2⟩
  have OImul : OpInt K C "mul" := ⟨⟨some (.ref fc3), by rw [dr_mul]; exact ac3, .inr ⟨_, rfl⟩⟩, ⟨_, by rw [dn_mul]; exact ilmul⟩, ⟨_, by rw [dr_mul]; exact irmul⟩, s1⟩
  have OTlshift : OpTxt K C fc4 "lshift" := ⟨sf, by rw [dn_lshift]; exact ac4, ic4⟩
  have OIlshift : OpInt K C "lshift" := ⟨⟨none, by rw [dr_lshift]; exact rflshift, .inl rfl⟩, ⟨_, by rw [dn_lshift]; exact illshift⟩, ⟨_, by rw [dr_lshift]; exact irlshift⟩, s1⟩
  have OTrshift : OpTxt K C fc5 "rshift" := ⟨sf, by rw [dn_rshift]; exact ac5, ic5⟩
  have OIrshift : OpInt K C "rshift" := ⟨⟨none, by rw [dr_rshift]; exact rfrshift, .inl rfl⟩, ⟨_, by rw [dn_rshift]; exact ilrshift⟩, ⟨_, by rw [dr_rshift]; exact irrshift⟩, s1⟩
  have RT : ReflTxt K C fc2 fc3 := ⟨sf, by rw [dn_mul]; exact ac2, by rw [dr_mul]; exact ac3, ic3, s2⟩
  have Oe0 : OexC K CS := ⟨⟨nme0, qe0, Ne0, bse0, _, sne0, sube0, abe0, cole0, dde0, m0e0, m1e0, m2e0, m3e0, m5e0, xe0, by rfl⟩, sae0, exe0, tye0, kpe0⟩
  have Oe1 : OexC K CM := ⟨⟨nme1, qe1, Ne1, bse1, _, sne1, sube1, abe1, cole1, dde1, m0e1, m1e1, m2e1, m3e1, m5e1, xe1, by rfl⟩, sae1, exe1, tye1, kpe1⟩
  have Oe2 : OexC K CC := ⟨⟨nme2, qe2, Ne2, bse2, _, sne2, sube2, abe2, cole2, dde2, m0e2, m1e2, m2e2, m3e2, m5e2, xe2, by rfl⟩, sae2, exe2, tye2, kpe2⟩
  have Oe3 : OexC K CO := ⟨⟨nme3, qe3, Ne3, bse3, _, sne3, sube3, abe3, cole3, dde3, m0e3, m1e3, m2e3, m3e3, m5e3, xe3, by rfl⟩, sae3, exe3, tye3, kpe3⟩
  have XM : Exm K CO CM CS CC := ⟨exm_two exe3 ice3 tye3 zoo, exm_two exe3 ice3 tye3 zmo, exm_two exe1 ice1 tye1 zmm, exm_two exe3 ice3 tye3 zso, exm_two exe1 ice1 tye1 zsm, exm_two exe0 ice0 tye0 zss, exm_two exe2 ice2 tye2 zcc, exm_two exe2 ice2 tye2 zmc⟩
  refine ⟨PySem.W.fnOf "law" "law" (defArgs sLaw) (defBody sLaw) (defScope sLaw) .none kVm27 dcm27 pmm27 anm27 cdm27 ctm27, fun s v => .of_eq rfl, fun base _ _ => ?_⟩
  have De0 := (⟨Oe0, ⟨gae0, gge0, exe0, hde0⟩, noe0, PySem.W.mg_of X G ge0, fe0, _, _, ok_escale Fe0 BE Oe0 noe0, ae0, tfe0, be0⟩ : ErrC l.prog w K mg base "InvalidScale" "value" CS)
  have De1 := (⟨Oe1, ⟨gae1, gge1, exe1, hde1⟩, noe1, PySem.W.mg_of X G ge1, fe1, _, _, ok_emany Fe1 BE Oe1 noe1, ae1, tfe1, be1⟩ : ErrC l.prog w K mg base "TooManyRounds" "count" CM)
  have De2 := (⟨Oe2, ⟨gae2, gge2, exe2, hde2⟩, noe2, PySem.W.mg_of X G ge2, fe2, _, _, ok_ecount Fe2 BE Oe2 noe2, ae2, tfe2, be2⟩ : ErrC l.prog w K mg base "InvalidCount" "value" CC)
  have De3 := (⟨Oe3, ⟨gae3, gge3, exe3, hde3⟩, noe3, PySem.W.mg_of X G ge3, fe3, _, _, ok_eother Fe3 BE Oe3 noe3, ae3, tfe3, be3⟩ : ErrC l.prog w K mg base "OtherMembers" "members" CO)
  have Dm0 := (⟨fm0, _, ok_isint Fm0 B, PySem.W.mg_of X G am0, km0, bm0⟩ : Dfn l.prog w K mg base 1 "is_integer" ["value"] spIsInt)
  have Dm1 := (⟨fm1, _, ok_isbet Fm1 Dm0, PySem.W.mg_of X G am1, km1, bm1⟩ : Dfn l.prog w K mg base 2 "is_between" ["value", "low", "high"] spIsBet)
  have Dm2 := (⟨fm2, _, ok_isname Fm2 B (PySem.W.mg_of X G mL), PySem.W.mg_of X G am2, km2, bm2⟩ : Dfn l.prog w K mg base 1 "is_name" ["value"] spIsName)
  have Dm3 := (⟨fm3, _, ok_gcd Fm3, PySem.W.mg_of X G am3, km3, bm3⟩ : Dfn l.prog w K mg base 1 "greatest_divisor" ["one", "other"] spGcd)
  have Dm4 := (⟨fm4, _, ok_roster Fm4 B Dm2, PySem.W.mg_of X G am4, km4, bm4⟩ : Dfn l.prog w K mg base 2 "checked_roster" ["members"] (spRoster K))
  have Dm5 := (⟨fm5, _, ok_fault Fm5 B Dm1, PySem.W.mg_of X G am5, km5, bm5⟩ : Dfn l.prog w K mg base 3 "round_fault" ["shares", "count", "scale"] (spFault K))
  have Dm6 := (⟨fm6, _, ok_mult Fm6 B, PySem.W.mg_of X G am6, km6, bm6⟩ : Dfn l.prog w K mg base 1 "multiplied" ["rounds", "factor"] (spMult K))
  have M : ChMk l.prog w K mg base C := ⟨fc0, _, ⟨mk, ac0, ic0, kC⟩, ok_init Fc0 B T Dm4 Dm1 Dm5, bc0⟩
  have Oadd := ok_add Fc1 B T I M De3 De1 De0 Dm3 Dm6
  have Omul := ok_mul Fc2 B T M De2 De1 Dm0
  have Ormul := ok_rmul Fc3 Dm0 Omul bc2 OTmul OImul
  have Olsh := ok_lsh Fc4 B T M Dm0
  have Orsh := ok_rsh Fc5 Dm0 Olsh bc4 OTlshift OIlshift
  have Oinv := ok_inv Fc6 T M
  have Dm7 := (⟨fm7, _, ok_mixed Fm7 B, PySem.W.mg_of X G am7, km7, bm7⟩ : Dfn l.prog w K mg base 1 "_law_mixed" ["_law_cell", "_law_n"] spMixed)
  have Dm8 := (⟨fm8, _, ok_folded Fm8 B, PySem.W.mg_of X G am8, km8, bm8⟩ : Dfn l.prog w K mg base 1 "_law_folded" ["_law_script"] (spFolded K))
  have Dm9 := (⟨fm9, _, ok_draw Fm9 B Dm7, PySem.W.mg_of X G am9, km9, bm9⟩ : Dfn l.prog w K mg base 2 "_law_draw" ["_law_m", "_law_limit"] spDraw)
  have Dm10 := (⟨fm10, _, ok_begun Fm10 Dm8, PySem.W.mg_of X G am10, km10, bm10⟩ : Dfn l.prog w K mg base 2 "_law_begun" ["_law_script"] (spBegun K))
  have Dm11 := (⟨fm11, _, ok_big Fm11 B Dm9, PySem.W.mg_of X G am11, km11, bm11⟩ : Dfn l.prog w K mg base 3 "_law_big" ["_law_m", "_law_limit"] spBig)
  have Dm12 := (⟨fm12, _, ok_names Fm12 B Dm9, PySem.W.mg_of X G am12, km12, bm12⟩ : Dfn l.prog w K mg base 3 "_law_names" ["_law_m", "_law_many"] spNames)
  have Dm13 := (⟨fm13, _, ok_scale Fm13 Dm9 Dm11, PySem.W.mg_of X G am13, km13, bm13⟩ : Dfn l.prog w K mg base 4 "_law_scale" ["_law_m"] spScale)
  have Dm14 := (⟨fm14, _, ok_shares Fm14 B Dm9 Dm11, PySem.W.mg_of X G am14, km14, bm14⟩ : Dfn l.prog w K mg base 4 "_law_shares" ["_law_m", "_law_many", "_law_top"] spShares)
  have Dm15 := (⟨fm15, _, ok_table Fm15 B Dm9 Dm14, PySem.W.mg_of X G am15, km15, bm15⟩ : Dfn l.prog w K mg base 5 "_law_table" ["_law_m", "_law_many", "_law_top", "_law_count"] spTable)
  have Dm16 := (⟨fm16, _, ok_ints Fm16 B, PySem.W.mg_of X G am16, km16, bm16⟩ : Dfn l.prog w K mg base 1 "_law_ints" ["_law_told", "_law_due"] (spInts K))
  have Dm17 := (⟨fm17, _, ok_int Fm17 B, PySem.W.mg_of X G am17, km17, bm17⟩ : Dfn l.prog w K mg base 1 "_law_int" ["_law_told", "_law_due"] spInt)
  have Dm18 := (⟨fm18, _, ok_texts Fm18 B, PySem.W.mg_of X G am18, km18, bm18⟩ : Dfn l.prog w K mg base 1 "_law_texts" ["_law_told", "_law_due"] (spTexts K))
  have Dm19 := (⟨fm19, _, ok_ischart Fm19 B T I Dm16 Dm17 Dm18, PySem.W.mg_of X G am19, km19, bm19⟩ : Dfn l.prog w K mg base 2 "_law_is_chart" ["_law_told", "_law_names_here", "_law_top", "_law_table_here"] (spIsChart K C))
  have Dm20 := (⟨fm20, _, ok_divisor Fm20 B, PySem.W.mg_of X G am20, km20, bm20⟩ : Dfn l.prog w K mg base 1 "_law_divisor" ["_law_one", "_law_two"] spDivisor)
  have Dm21 := (⟨fm21, _, ok_times Fm21, PySem.W.mg_of X G am21, km21, bm21⟩ : Dfn l.prog w K mg base 1 "_law_times" ["_law_table_here", "_law_factor"] (spTimes K))
  have Dm22 := (⟨fm22, _, ok_sum (CC := CC) Fm22 Oadd bc1 OTadd OIadd De3 De1 De0 XM, PySem.W.mg_of X G am22, km22, bm22⟩ : Dfn l.prog w K mg base 7 "_law_sum" ["_law_one", "_law_two"] (spSum K C))
  have Dm23 := (⟨fm23, _, ok_product (CO := CO) (CS := CS) Fm23 Omul bc2 OTmul OImul Ormul bc3 RT De2 De1 XM, PySem.W.mg_of X G am23, km23, bm23⟩ : Dfn l.prog w K mg base 8 "_law_product" ["_law_one", "_law_factor", "_law_ahead"] (spProduct K C))
  have Dm24 := (⟨fm24, _, ok_sums Fm24 B T M Dm20 Dm22 Dm21 Dm19, PySem.W.mg_of X G am24, km24, bm24⟩ : Dfn l.prog w K mg base 8 "_law_sums" ["_law_names_here", "_law_one", "_law_two"] (spSums K))
  have Dm25 := (⟨fm25, _, ok_products Fm25 B T M Dm23 Dm19, PySem.W.mg_of X G am25, km25, bm25⟩ : Dfn l.prog w K mg base 9 "_law_products" ["_law_names_here", "_law_top", "_law_table_here", "_law_factor"] (spProducts K))
  have Dm26 := (⟨fm26, _, ok_turned Fm26 B T M Olsh bc4 OTlshift OIlshift Orsh bc5 OTrshift OIrshift Oinv bc6 ac6 ic6 Dm19, PySem.W.mg_of X G am26, km26, bm26⟩ : Dfn l.prog w K mg base 9 "_law_turned" ["_law_names_here", "_law_top", "_law_table_here", "_law_turn"] (spTurned K))
  exact ok_law Fm27 B T M Dm10 Dm9 Dm11 Dm12 Dm13 Dm15 Dm24 Dm25 Dm26 Dm22 Dm18
end KP

set_option Elab.async false
set_option linter.all false
set_option maxRecDepth 100000
set_option maxHeartbeats 0
open PySem PySem.W PyProof.Rows
set_option maxRecDepth 100000 in
set_option maxHeartbeats 0 in
theorem PySem.Challenge.cw_turndues_k04_whole_charts_put_together_holds : PySem.Challenge.rw_turndues_k04_whole_charts_put_together.Holds := by
  w_on; o_law; k_head; (case hw => w_witness2)
  k_fill
  refine L2.walk_of (l := PySem.Challenge.rw_turndues_k04_whole_charts_put_together) (n := 63) (k := 10) (x := "_law_script") (CX := fun _ => L2.CX0) (sp := fun w => KP.spLaw _) rfl (by decide) rfl ⟨rfl, by decide, by decide⟩ (fun w h Y => PySem.W.kIn_of Y) ?F (fun _ _ a ns hl _ hS => ⟨a, ns, rfl, hS, hl, fun _ => rfl⟩) (fun _ _ _ _ _ h => h)
  case F =>
    intro w mg fa h KX G hmg
    refine' KP.all_mk KX G hmg ?aC ?am0 ?lm0 ?cm0 ?km0 ?am1 ?lm1 ?cm1 ?km1 ?am2 ?lm2 ?cm2 ?km2 ?am3 ?lm3 ?cm3 ?km3 ?am4 ?lm4 ?cm4 ?km4 ?am5 ?lm5 ?cm5 ?km5 ?am6 ?lm6 ?cm6 ?km6 ?am7 ?lm7 ?cm7 ?km7 ?am8 ?lm8 ?cm8 ?km8 ?am9 ?lm9 ?cm9 ?km9 ?am10 ?lm10 ?cm10 ?km10 ?am11 ?lm11 ?cm11 ?km11 ?am12 ?lm12 ?cm12 ?km12 ?am13 ?lm13 ?cm13 ?km13 ?am14 ?lm14 ?cm14 ?km14 ?am15 ?lm15 ?cm15 ?km15 ?am16 ?lm16 ?cm16 ?km16 ?am17 ?lm17 ?cm17 ?km17 ?am18 ?lm18 ?cm18 ?km18 ?am19 ?lm19 ?cm19 ?km19 ?am20 ?lm20 ?cm20 ?km20 ?am21 ?lm21 ?cm21 ?km21 ?am22 ?lm22 ?cm22 ?km22 ?am23 ?lm23 ?cm23 ?km23 ?am24 ?lm24 ?cm24 ?km24 ?am25 ?lm25 ?cm25 ?km25 ?am26 ?lm26 ?cm26 ?km26 ?am27 ?lm27 ?cm27 ?km27 ?ac0 ?lc0 ?cc0 ?kc0 ?ic0 ?ac1 ?lc1 ?cc1 ?kc1 ?ic1 ?ac2 ?lc2 ?cc2 ?kc2 ?ic2 ?ac3 ?lc3 ?cc3 ?kc3 ?ic3 ?ac4 ?lc4 ?cc4 ?kc4 ?ic4 ?ac5 ?lc5 ?cc5 ?kc5 ?ic5 ?ac6 ?lc6 ?cc6 ?kc6 ?ic6 ?ge0 ?xe0 ?sae0 ?gae0 ?gge0 ?noe0 ?exe0 ?tye0 ?kpe0 ?hde0 ?ice0 ?ae0 ?le0 ?ce0 ?ke0 ?tfe0 ?ge1 ?xe1 ?sae1 ?gae1 ?gge1 ?noe1 ?exe1 ?tye1 ?kpe1 ?hde1 ?ice1 ?ae1 ?le1 ?ce1 ?ke1 ?tfe1 ?ge2 ?xe2 ?sae2 ?gae2 ?gge2 ?noe2 ?exe2 ?tye2 ?kpe2 ?hde2 ?ice2 ?ae2 ?le2 ?ce2 ?ke2 ?tfe2 ?ge3 ?xe3 ?sae3 ?gae3 ?gge3 ?noe3 ?exe3 ?tye3 ?kpe3 ?hde3 ?ice3 ?ae3 ?le3 ?ce3 ?ke3 ?tfe3 ?zoo ?zmo ?zmm ?zso ?zsm ?zss ?zcc ?zmc ?gB ?rB ?sB ?vB ?pg ?icC ?po ?saC ?atM ?gtM ?tkM ?tyM ?ixM ?atR ?gtR ?tkR ?tyR ?ixR ?atS ?gtS ?tkS ?tyS ?ixS ?rC ?sC ?vR ?vS ?mk ?kC ?sf ?ca ?cn ?ct ?cm ?s1 ?s2 ?rfadd ?rflshift ?rfrshift ?iladd ?iradd ?ilmul ?irmul ?illshift ?irlshift ?ilrshift ?irrshift ?mL ?nisi ?nint ?nbool ?nstr ?nlen ?nall ?ntuple ?nlist ?nenum ?nsum ?nrange ?nzip
    (case aC => k_is); (case am0 => k_is); (case lm0 => k_is); (case cm0 => k_is); (case km0 => k_is); (case am1 => k_is)
    (case lm1 => k_is); (case cm1 => k_is); (case km1 => k_is); (case am2 => k_is); (case lm2 => k_is); (case cm2 => k_is)
    (case km2 => k_is); (case am3 => k_is); (case lm3 => k_is); (case cm3 => k_is); (case km3 => k_is); (case am4 => k_is)
    (case lm4 => k_is); (case cm4 => k_is); (case km4 => k_is); (case am5 => k_is); (case lm5 => k_is); (case cm5 => k_is)
    (case km5 => k_is); (case am6 => k_is); (case lm6 => k_is); (case cm6 => k_is); (case km6 => k_is); (case am7 => k_is)
    (case lm7 => k_is); (case cm7 => k_is); (case km7 => k_is); (case am8 => k_is); (case lm8 => k_is); (case cm8 => k_is)
    (case km8 => k_is); (case am9 => k_is); (case lm9 => k_is); (case cm9 => k_is); (case km9 => k_is); (case am10 => k_is)
    (case lm10 => k_is); (case cm10 => k_is); (case km10 => k_is); (case am11 => k_is); (case lm11 => k_is); (case cm11 => k_is)
    (case km11 => k_is); (case am12 => k_is); (case lm12 => k_is); (case cm12 => k_is); (case km12 => k_is); (case am13 => k_is)
    (case lm13 => k_is); (case cm13 => k_is); (case km13 => k_is); (case am14 => k_is); (case lm14 => k_is); (case cm14 => k_is)
    (case km14 => k_is); (case am15 => k_is); (case lm15 => k_is); (case cm15 => k_is); (case km15 => k_is); (case am16 => k_is)
    (case lm16 => k_is); (case cm16 => k_is); (case km16 => k_is); (case am17 => k_is); (case lm17 => k_is); (case cm17 => k_is)
    (case km17 => k_is); (case am18 => k_is); (case lm18 => k_is); (case cm18 => k_is); (case km18 => k_is); (case am19 => k_is)
    (case lm19 => k_is); (case cm19 => k_is); (case km19 => k_is); (case am20 => k_is); (case lm20 => k_is); (case cm20 => k_is)
    (case km20 => k_is); (case am21 => k_is); (case lm21 => k_is); (case cm21 => k_is); (case km21 => k_is); (case am22 => k_is)
    (case lm22 => k_is); (case cm22 => k_is); (case km22 => k_is); (case am23 => k_is); (case lm23 => k_is); (case cm23 => k_is)
    (case km23 => k_is); (case am24 => k_is); (case lm24 => k_is); (case cm24 => k_is); (case km24 => k_is); (case am25 => k_is)
    (case lm25 => k_is); (case cm25 => k_is); (case km25 => k_is); (case am26 => k_is); (case lm26 => k_is); (case cm26 => k_is)
    (case km26 => k_is); (case am27 => k_is); (case lm27 => k_is); (case cm27 => k_is); (case km27 => k_is); (case ac0 => k_is)
    (case lc0 => k_is); (case cc0 => k_is); (case kc0 => k_is); (case ic0 => k_is); (case ac1 => k_is); (case lc1 => k_is)
    (case cc1 => k_is); (case kc1 => k_is); (case ic1 => k_is); (case ac2 => k_is); (case lc2 => k_is); (case cc2 => k_is)
    (case kc2 => k_is); (case ic2 => k_is); (case ac3 => k_is); (case lc3 => k_is); (case cc3 => k_is); (case kc3 => k_is)
    (case ic3 => k_is); (case ac4 => k_is); (case lc4 => k_is); (case cc4 => k_is); (case kc4 => k_is); (case ic4 => k_is)
    (case ac5 => k_is); (case lc5 => k_is); (case cc5 => k_is); (case kc5 => k_is); (case ic5 => k_is); (case ac6 => k_is)
    (case lc6 => k_is); (case cc6 => k_is); (case kc6 => k_is); (case ic6 => k_is); (case ge0 => k_is); (case xe0 => k_is)
    (case sae0 => k_is); (case gae0 => k_is); (case gge0 => k_is); (case noe0 => k_is); (case exe0 => k_is); (case tye0 => k_is)
    (case kpe0 => k_is); (case hde0 => k_is); (case ice0 => k_is); (case ae0 => k_is); (case le0 => k_is); (case ce0 => k_is)
    (case ke0 => k_is); (case tfe0 => k_is); (case ge1 => k_is); (case xe1 => k_is); (case sae1 => k_is); (case gae1 => k_is)
    (case gge1 => k_is); (case noe1 => k_is); (case exe1 => k_is); (case tye1 => k_is); (case kpe1 => k_is); (case hde1 => k_is)
    (case ice1 => k_is); (case ae1 => k_is); (case le1 => k_is); (case ce1 => k_is); (case ke1 => k_is); (case tfe1 => k_is)
    (case ge2 => k_is); (case xe2 => k_is); (case sae2 => k_is); (case gae2 => k_is); (case gge2 => k_is); (case noe2 => k_is)
    (case exe2 => k_is); (case tye2 => k_is); (case kpe2 => k_is); (case hde2 => k_is); (case ice2 => k_is); (case ae2 => k_is)
    (case le2 => k_is); (case ce2 => k_is); (case ke2 => k_is); (case tfe2 => k_is); (case ge3 => k_is); (case xe3 => k_is)
    (case sae3 => k_is); (case gae3 => k_is); (case gge3 => k_is); (case noe3 => k_is); (case exe3 => k_is); (case tye3 => k_is)
    (case kpe3 => k_is); (case hde3 => k_is); (case ice3 => k_is); (case ae3 => k_is); (case le3 => k_is); (case ce3 => k_is)
    (case ke3 => k_is); (case tfe3 => k_is); (case zoo => k_is); (case zmo => k_is); (case zmm => k_is); (case zso => k_is)
    (case zsm => k_is); (case zss => k_is); (case zcc => k_is); (case zmc => k_is); (case gB => k_is); (case rB => k_is)
    (case sB => k_is); (case vB => k_is); (case pg => k_is); (case icC => k_is); (case po => k_is); (case saC => k_is)
    (case atM => k_is); (case gtM => k_is); (case tkM => k_is); (case tyM => k_is); (case ixM => k_is); (case atR => k_is)
    (case gtR => k_is); (case tkR => k_is); (case tyR => k_is); (case ixR => k_is); (case atS => k_is); (case gtS => k_is)
    (case tkS => k_is); (case tyS => k_is); (case ixS => k_is); (case rC => k_is); (case sC => k_is); (case vR => k_is)
    (case vS => k_is); (case mk => k_is); (case kC => k_is); (case sf => k_is); (case ca => k_is); (case cn => k_is)
    (case ct => k_is); (case cm => k_is); (case s1 => k_is); (case s2 => k_is); (case rfadd => k_is); (case rflshift => k_is)
    (case rfrshift => k_is); (case iladd => k_is); (case iradd => k_is); (case ilmul => k_is); (case irmul => k_is); (case illshift => k_is)
    (case irlshift => k_is); (case ilrshift => k_is); (case irrshift => k_is); (case mL => k_is); (case nisi => k_is); (case nint => k_is)
    (case nbool => k_is); (case nstr => k_is); (case nlen => k_is); (case nall => k_is); (case ntuple => k_is); (case nlist => k_is)
    (case nenum => k_is); (case nsum => k_is); (case nrange => k_is); (case nzip => k_is)

