import PyProof.Rows.All
import Wide.All
import OpenK.AllK
import Wide.FinOn
import HandS.ForMost
import HandS.ForExc
import HandS.IsInst
import HandS.Flow
import HandS.TryOnly
import HandS.TryMany
import HandS.ExcInit
import HandS.ExcField
import HandS.Defaults
import HandS.Head2
import HandS.HeadEnd
import HandS.HeadHook4
import HandS.WrittenGet
import HandS.Evl
import HandS.Deep
import HandS.NoneIn
import KE.DataEq
import HandS.HeadWalk
import HandS.SlotsOwn
import KE.GoesEnum
import KE.GoesMore
import HandS.Walk
import HandS.Property
import HandS.TupAny
import HandS.Nested
import HandS.NestedK
import HandS.Small
import HandS.TupLe
import HandS.Conv
import HandS.DictComp
import HandS.More
import HandS.HotCalls
import HandS.ExcIs
import KE.KExcIs
import KE.KDictCopyH
import PyProof.Rows.TupTab
import KE.SortKeyHeap
import HandS.SortKw
import PySem.Challenge.RW_twiceonce_k19_whole_mirrored_chains
set_option Elab.async false
set_option linter.all false
set_option maxRecDepth 100000
set_option maxHeartbeats 4000000
namespace TB
open PySem PySem.Spec PyProof.Rows L2
/-! ### defs of the text, by contract -/
/-- the module's name x is a def that keeps sp -/
structure Cal (P : Program) (w : World) (K : PySem.W.Frag) (mg : Str → Option Value) (base : Heap) (k : Nat) (x : Str) (ps : List Str) (sp : Sp) : Prop where
  ex : ∃ (f : Addr) (fd : FuncData), FnOk P w K mg base (L2.CX P w) k f fd ps sp ∧ mg x = some (.ref f) ∧ PySem.W.keepIn K (.ref f) = true ∧ Binds K fd ps []
section
variable {X : Cx} {k j : Nat} {x : Str} {ps : List Str} {sp : Sp} {p pos : Pos} {e : Expr} {es : List Expr} {t : TA}
/-- a call that lets nothing out -/
theorem pe_cal (c : Cal X.prog X.w X.K X.mg X.base k x ps sp) (hr : Room j X.A) (hk : k ≤ j) (hg : Gl X x) (ha : PA X (e :: es) t)
    (hdb : (x == ("__debug__" : Str)) = false := by decide) (he : starEach (e :: es) X.env = (false, eval e X.env) :: starEach es X.env := by rfl) (hpl : (backTo pos (starEach es X.env)).any (·.1) = false := by rfl) :
    PE X (.Call (.Name x p) (e :: es) [] pos) (tCall sp [] E0 t) := by
  obtain ⟨f, fd, F, hm, kp, hb⟩ := c.ex
  exact pe_call F (hr.mono hk) hg hm kp hb .nil passL ha hdb he hpl
theorem pe_calN (c : Cal X.prog X.w X.K X.mg X.base k x ps sp) (hr : Room j X.A) (hk : k ≤ j) (hg : Gl X x) (hdb : (x == ("__debug__" : Str)) = false := by decide) :
    PE X (.Call (.Name x p) [] [] pos) (tCall sp [] E0 tNil) := by
  obtain ⟨f, fd, F, hm, kp, hb⟩ := c.ex
  exact pe_call0 F (hr.mono hk) hg hm kp hb .nil passL hdb
/-- a call whose exceptions are wished for, whatever the slots are -/
theorem pe_calX {E : XK} {W : WX} (c : Cal X.prog X.w X.K X.mg X.base k x ps sp) (hr : Room j X.A) (hk : k ≤ j) (hg : Gl X x) (tk : Takes X W) (hW : ∀ cls d σ H, E cls d H → W cls d σ H) (ha : PA X (e :: es) t)
    (hdb : (x == ("__debug__" : Str)) = false := by decide) (he : starEach (e :: es) X.env = (false, eval e X.env) :: starEach es X.env := by rfl) (hpl : (backTo pos (starEach es X.env)).any (·.1) = false := by rfl) :
    PE X (.Call (.Name x p) (e :: es) [] pos) (tCall sp [] E t) := by
  obtain ⟨f, fd, F, hm, kp, hb⟩ := c.ex
  exact pe_call F (hr.mono hk) hg hm kp hb .nil (passes_call tk hW) ha hdb he hpl
/-- .. at the slots as they stand (within a try) -/
theorem pe_calS {W : WX} (c : Cal X.prog X.w X.K X.mg X.base k x ps sp) (hr : Room j X.A) (hk : k ≤ j) (hg : Gl X x) (tk : Takes X W) (ha : PA X (e :: es) t)
    (hdb : (x == ("__debug__" : Str)) = false := by decide) (he : starEach (e :: es) X.env = (false, eval e X.env) :: starEach es X.env := by rfl) (hpl : (backTo pos (starEach es X.env)).any (·.1) = false := by rfl) :
    PE X (.Call (.Name x p) (e :: es) [] pos) (tCallS sp (WE W) t) := by
  obtain ⟨f, fd, F, hm, kp, hb⟩ := c.ex
  exact pe_callS F (hr.mono hk) hg hm kp hb (fun σ => passAt tk σ) ha hdb he hpl
end
theorem Cal.mono {P : Program} {w : World} {K : PySem.W.Frag} {mg : Str → Option Value} {base : Heap} {k j : Nat} {x : Str} {ps : List Str} {sp : Sp} (c : Cal P w K mg base k x ps sp) (h : k ≤ j) : Cal P w K mg base j x ps sp := by
  obtain ⟨f, fd, F, hm, kp, hb⟩ := c.ex
  exact ⟨f, fd, F.mono h, hm, kp, hb⟩
theorem Cal.imp {P : Program} {w : World} {K : PySem.W.Frag} {mg : Str → Option Value} {base : Heap} {k : Nat} {x : Str} {ps : List Str} {sp sp' : Sp} (c : Cal P w K mg base k x ps sp) (h : ∀ vs H Q E, sp' vs H Q E → sp vs H Q E) : Cal P w K mg base k x ps sp' := by
  obtain ⟨f, fd, F, hm, kp, hb⟩ := c.ex
  exact ⟨f, fd, F.imp h, hm, kp, hb⟩
/-- a def as the top has left it -/
def FnP (K : PySem.W.Frag) (mg : Str → Option Value) (x : Str) (st : Stmt) : Prop := mg x = some (.ref (He.ga K x)) ∧ ∃ fd, FunD K x x (defArgs st) (defBody st) (defScope st) [] [] (He.ga K x) fd
theorem cal_of {P : Program} {w : World} {K : PySem.W.Frag} {mg : Str → Option Value} {base : Heap} {k : Nat} {x : Str} {st : Stmt} {N ps : List Str} {sp : Sp} (F : FnP K mg x st) (S : FnScope N ps (defScope st)) (len : ∀ vs H Q E, sp vs H Q E → vs.length = ps.length)
    (hb : ∀ (kV doc pm : Value) (an : Option Addr) (cdv ct : Value) (us : List Value), us.length = ps.length → bindArgs (PySem.W.fnOf x x (defArgs st) (defBody st) (defScope st) .none kV doc pm an cdv ct) ⟨us, []⟩ = pure (ps.zip us))
    (hbody : ∀ (f : Addr) (cdv : Value) (A : Around) (outer : List Env) (s : Shared) (H : Hp) (vs : List V) (Q : VK) (E : XK), Room k (A.deeper (envOfC x (defScope st) s.heap.objs.size f cdv)) → sp vs H Q E →
      ∃ t, PSs (cxOf (L2.CX P w) P w K mg base N x (defScope st) f cdv A outer s H E) (defBody st) t ∧ t { nx := fun _ H' => Q .non H', rt := Q } (start N vs) H) : Cal P w K mg base (k + 1) x ps sp := by
  obtain ⟨hm, fd, F⟩ := F
  exact ⟨_, fd, F.ok S len (fun cdv A outer s H vs Q E hr h => hbody _ cdv A outer s H vs Q E hr h), hm, F.kp, F.bindsN hb⟩
/-! ### readings, step by step -/
section
variable {σ : L2.St} {H : Hp} {Q : VK} {ta tb te : TE} {t u : TT} {D : Ends} {A B : Prop}
theorem w_var {i : Nat} {v : V} (h : σ[i]? = some (some v)) (q : Q v H) : tVar i σ H Q := ⟨v, h, q⟩
theorem w_c {v : V} (q : Q v H) : tC v σ H Q := q
theorem w_op {r : R2} (h : ta σ H fun x H1 => tb σ H1 fun y H2 => r x y H2 Q) : tOp r ta tb σ H Q := h
theorem w_un {r : V → Hp → VK → Prop} (h : ta σ H fun x H1 => r x H1 Q) : tUn r ta σ H Q := h
theorem w_I0 {g : Int → Int → V} {i j : Int} (q : Q (g i j) H) : rI0 g (.int i) (.int j) H Q := ⟨i, j, rfl, rfl, q⟩
theorem w_I {C : Int → Int → Prop} {g : Int → Int → V} {i j : Int} (c : C i j) (q : Q (g i j) H) : rI C g (.int i) (.int j) H Q := ⟨i, j, rfl, rfl, c, q⟩
theorem w_U {g : Int → V} {i : Int} (q : Q (g i) H) : rU g (.int i) H Q := ⟨i, rfl, q⟩
theorem w_eq {x y : V} (s : scal x y = true) (q : Q (.bl (decide (x = y))) H) : rEq x y H Q := ⟨s, q⟩
theorem w_ne {x y : V} (s : scal x y = true) (q : Q (.bl (!decide (x = y))) H) : rNe x y H Q := ⟨s, q⟩
theorem w_test {Q : Bool → Hp → Prop} (h : te σ H fun x H' => ∃ k, x = .bl k ∧ Q k H') : tTest te σ H Q := h
theorem w_tB {Q : Bool → Hp → Prop} (h : te σ H fun x H' => ∃ k, x = .bl k ∧ Q k H') : tB te σ H Q := h
theorem w_bl {b : Bool} {Q : Bool → Hp → Prop} (q : Q b H) : ∃ k, V.bl b = .bl k ∧ Q k H := ⟨b, rfl, q⟩
theorem w_and {Q : Bool → Hp → Prop} (h : t σ H fun c H1 => if c = true then u σ H1 Q else Q false H1) : tAnd t u σ H Q := h
theorem w_or {Q : Bool → Hp → Prop} (h : t σ H fun c H1 => if c = true then Q true H1 else u σ H1 Q) : tOr t u σ H Q := h
theorem w_not {Q : Bool → Hp → Prop} (h : t σ H fun c H1 => Q (!c) H1) : tNot t σ H Q := h
theorem w_andV (h : ta σ H fun x H1 => ∃ c, x = .bl c ∧ if c = true then tb σ H1 Q else Q (.bl false) H1) : tAndV ta tb σ H Q := h
theorem w_orV (h : ta σ H fun x H1 => ∃ c, x = .bl c ∧ if c = true then Q (.bl true) H1 else tb σ H1 Q) : tOrV ta tb σ H Q := h
theorem w_notV (h : ta σ H fun x H1 => ∃ c, x = .bl c ∧ Q (.bl (!c)) H1) : tNotV ta σ H Q := h
theorem w_blA {b : Bool} {P : Bool → Prop} (q : P b) : ∃ c, V.bl b = .bl c ∧ P c := ⟨b, rfl, q⟩
theorem w_if (h : t σ H fun c H1 => if c = true then ta σ H1 Q else tb σ H1 Q) : tIf t ta tb σ H Q := h
theorem w_ifS {tt tu : TS} (h : t σ H fun b H1 => if b = true then tt D σ H1 else tu D σ H1) : tIfS t tt tu D σ H := h
theorem w_T (h : A) : if true = true then A else B := by rw [if_pos rfl]; exact h
theorem w_F (h : B) : if false = true then A else B := by rw [if_neg Bool.false_ne_true]; exact h
theorem w_dT {p : Prop} [Decidable p] (hp : p) (h : A) : if decide p = true then A else B := by rw [if_pos (decide_eq_true hp)]; exact h
theorem w_dF {p : Prop} [Decidable p] (hp : ¬ p) (h : B) : if decide p = true then A else B := by rw [decide_eq_false hp, if_neg Bool.false_ne_true]; exact h
theorem w_nT {p : Prop} [Decidable p] (hp : ¬ p) (h : A) : if (!decide p) = true then A else B := by rw [decide_eq_false hp]; exact w_T h
theorem w_nF {p : Prop} [Decidable p] (hp : p) (h : B) : if (!decide p) = true then A else B := by rw [decide_eq_true hp]; exact w_F h
theorem w_d2 {p : Prop} [Decidable p] (h1 : p → A) (h2 : ¬ p → B) : if decide p = true then A else B := by
  by_cases hp : p
  · exact w_dT hp (h1 hp)
  · exact w_dF hp (h2 hp)
theorem w_n2 {p : Prop} [Decidable p] (h1 : ¬ p → A) (h2 : p → B) : if (!decide p) = true then A else B := by
  by_cases hp : p
  · exact w_nF hp (h2 hp)
  · exact w_nT hp (h1 hp)
theorem w_b2 {b : Bool} (h1 : b = true → A) (h2 : b = false → B) : if b = true then A else B := by
  cases b
  · exact w_F (h2 rfl)
  · exact w_T (h1 rfl)
theorem w_seq {t u : TS} (h : t { D with nx := u D } σ H) : tSeq t u D σ H := h
theorem w_asg {g : TG} (h : te σ H fun x H1 => g x σ H1 D.nx) : tAsg te g D σ H := h
theorem w_gname {i : Nat} {v : V} {Q : L2.St → Hp → Prop} (q : Q (σ.set i (some v)) H) : gName i v σ H Q := q
theorem w_ret (h : te σ H D.rt) : tRet te D σ H := h
theorem w_retN (h : D.rt .non H) : tRetN D σ H := h
theorem w_drop (h : te σ H fun _ H1 => D.nx σ H1) : tDrop te D σ H := h
theorem w_next (h : D.nx σ H) : tNext D σ H := h
theorem w_nil {Q : List V → Hp → Prop} (q : Q [] H) : tNil σ H Q := q
theorem w_cons {tr : TA} {Q : List V → Hp → Prop} (h : te σ H fun x H1 => tr σ H1 fun xs H2 => Q (x :: xs) H2) : tCons te tr σ H Q := h
theorem w_cb {r : List V → Hp → VK → Prop} {ts : TA} (h : ts σ H fun vs H1 => r vs H1 Q) : tCB r ts σ H Q := h
theorem w_call {sp : Sp} {E : XK} {ts : TA} (h : ts σ H fun vs H1 => sp vs H1 Q E) : tCall sp [] E ts σ H Q := by
  have e : (fun (vs : List V) H1 => sp (vs ++ []) H1 Q E) = fun vs H1 => sp vs H1 Q E := by funext vs H1; rw [List.append_nil]
  show ts σ H fun vs H1 => sp (vs ++ []) H1 Q E
  rw [e]; exact h
theorem w_callS {sp : Sp} {E : L2.St → XK} {ts : TA} (h : ts σ H fun vs H1 => sp vs H1 Q (E σ)) : tCallS sp E ts σ H Q := h
theorem Same.new {H : Hp} {p : Addr} {o : HO} (h : H p = none) : Same H (upd H p o) := fun a u e => by rw [upd_ne (ne_of_none e h)]; exact e
/-- a new object: from here on the heap is some H2 -/
theorem w_new {P : Addr → Hp → Prop} {o : HO} (h : ∀ p H2, H p = none → Same H H2 → H2 p = some o → P p H2) : ∀ p, H p = none → P p (upd H p o) := fun p hp => h p _ hp (Same.new hp) upd_same
theorem w_tup {ts : TA} (h : ts σ H fun xs H1 => xs.length ≤ sizeLine ∧ ∀ p, H1 p = none → Q (.ref p) (upd H1 p (.tup xs))) : tTup ts σ H Q := h
theorem w_lst {ts : TA} (h : ts σ H fun xs H1 => xs.length ≤ sizeLine ∧ ∀ p, H1 p = none → Q (.ref p) (upd H1 p (.lst xs))) : tLst ts σ H Q := h
theorem w_chain {r r' : R2} {tc : TE} (h : ta σ H fun x H1 => tb σ H1 fun y H2 => r x y H2 fun z H3 => ∃ k, z = .bl k ∧ (if k = true then tc σ H3 fun w' H4 => r' y w' H4 Q else Q (.bl false) H3)) : tChain r r' ta tb tc σ H Q := h
end
local macro_rules | `(tactic| walk_at "w1") => `(tactic| first
  | ((with_reducible refine' w_var ?hv ?_); (case hv => exact rfl))
  | with_reducible refine' w_c ?_
  | with_reducible refine' w_op ?_
  | with_reducible refine' w_seq ?_
  | with_reducible refine' w_asg ?_
  | with_reducible refine' w_gname ?_
  | with_reducible refine' w_ret ?_
  | with_reducible refine' w_retN ?_
  | with_reducible refine' w_drop ?_
  | with_reducible refine' w_next ?_
  | with_reducible refine' w_nil ?_
  | with_reducible refine' w_cons ?_
  | with_reducible refine' w_cb ?_
  | with_reducible refine' w_call ?_
  | with_reducible refine' w_callS ?_
  | with_reducible refine' w_un ?_
  | with_reducible refine' w_I0 ?_
  | with_reducible refine' w_U ?_
  | ((with_reducible refine' w_eq ?hv ?_); (case hv => exact rfl))
  | ((with_reducible refine' w_ne ?hv ?_); (case hv => exact rfl))
  | with_reducible refine' w_test ?_
  | with_reducible refine' w_tB ?_
  | with_reducible refine' w_bl ?_
  | with_reducible refine' w_blA ?_
  | with_reducible refine' w_and ?_
  | with_reducible refine' w_or ?_
  | with_reducible refine' w_not ?_
  | with_reducible refine' w_andV ?_
  | with_reducible refine' w_orV ?_
  | with_reducible refine' w_notV ?_
  | with_reducible refine' w_if ?_
  | with_reducible refine' w_ifS ?_
  | with_reducible refine' w_T ?_
  | with_reducible refine' w_F ?_
  | with_reducible refine' w_tup ?_
  | with_reducible refine' w_lst ?_
  | with_reducible refine' w_chain ?_)
local macro_rules | `(tactic| walk_at "w") => `(tactic| repeat' walk_at "w1")
/-! ### test -/
def isNum : V → Bool
  | .int _ => true
  | _ => false
def spIsNumber (K : PySem.W.Frag) : Sp := fun vs H Q _ => ∃ x, vs = [x] ∧ (∃ t, TyX K H x t ∧ PySem.W.kitOne K t (.type "int") = some (isNum x || decide (∃ b, x = V.bl b)) ) ∧ Q (.bl (isNum x)) H
def isSmall (x : V) (m : Int) : Bool := match x with
  | .int i => decide (-m ≤ i) && decide (i ≤ m)
  | _ => false
def flatTy : V → Prop
  | .non => True
  | .bl _ => True
  | .int _ => True
  | .str _ => True
  | _ => False
def spNum : Sp := fun vs H Q _ => ∃ x, vs = [x] ∧ flatTy x ∧ Q (.bl (isNum x)) H
def spSmall : Sp := fun vs H Q _ => ∃ x m, vs = [x, .int m] ∧ flatTy x ∧ Q (.bl (isSmall x m)) H
end TB

set_option maxHeartbeats 4000000
namespace TB
open PySem PySem.Spec PyProof.Rows L2
/-! ### what own classes define for operators -/
section
variable {X : Cx} {CX : CXT} {pins : List (Addr × Obj)} {σ : L2.St} {H : Hp} {s : Shared} {a C dx f : Addr} {fs : List (Str × V)} {n : Nat} {sp : Sp} {E : XK} {fd : FuncData} {ps : List Str}
/-- the callee runs below the running body -/
theorem run_fnA {A : Around} {Q : VK} {us : List Value} {ws : List V} (F : FnOk X.prog X.w X.K X.mg X.base CX n f fd ps sp) (hb : Binds X.K fd ps []) (hr : Room n A) (e0 : Env0 X.prog X.w X.K X.mg X.base A X.stack s H) (hx : Passes CX X E) (I : Inv X pins σ H s) (r : Vals ws us) (h : sp ws H Q E) :
    codeAny (model X.prog X.w) A (.call (.ref f) ⟨us, []⟩) (fun r s' => match r with | .ok (.ret v) => EP X pins σ Q v s' | .ok _ => False | .error e => X.xe e s') s := by
  have hl : us.length = ps.length := by rw [← r.length]; exact F.len _ _ _ _ h
  have b := hb s us I.kIn (by rw [List.append_nil]; exact hl)
  rw [List.append_nil] at b
  refine codeAny_mono (F.run A X.stack s H ⟨us, []⟩ us ws Q E hr e0 b r h) fun r s' hq => ?_
  cases r with
  | error e => exact hx pins σ H s e s' I hq
  | ok fl =>
    cases fl with
    | ret u => exact I.after hq
    | next => exact False.elim hq
    | brk => exact False.elim hq
    | cont => exact False.elim hq
/-- what the written part says of a method m at C -/
structure Op (P : Program) (w : World) (K : PySem.W.Frag) (mg : Str → Option Value) (base : Heap) (k : Nat) (C : Addr) (m : Str) (ps : List Str) (sp : Sp) : Prop where
  ex : ∃ (f : Addr) (fd : FuncData), FnOk P w K mg base (L2.CX P w) k f fd ps sp ∧ PySem.W.findIn K (.ref C) m = some (some (.ref f)) ∧ PySem.W.isFn K (.ref f) = true ∧ PySem.W.keepIn K (.ref f) = true ∧ Binds K fd ps []
  cl : Cls K C
theorem Op.meth {P : Program} {w : World} {K : PySem.W.Frag} {mg : Str → Option Value} {base : Heap} {k : Nat} {C : Addr} {m : Str} {ps : List Str} {sp : Sp} (o : Op P w K mg base k C m ps sp) : ∃ (f : Addr) (fd : FuncData), FnOk P w K mg base (L2.CX P w) k f fd ps sp ∧ Meth K C m f ∧ Binds K fd ps [] := by
  obtain ⟨f, fd, F, h1, h2, h3, hb⟩ := o.ex
  exact ⟨f, fd, F, ⟨h1, h2, h3⟩, hb⟩
theorem Op.mono {P : Program} {w : World} {K : PySem.W.Frag} {mg : Str → Option Value} {base : Heap} {k j : Nat} {C : Addr} {m : Str} {ps : List Str} {sp : Sp} (o : Op P w K mg base k C m ps sp) (h : k ≤ j) : Op P w K mg base j C m ps sp := by
  obtain ⟨⟨f, fd, F, r⟩, c⟩ := o
  exact ⟨⟨f, fd, F.mono h, r⟩, c⟩
/-- x == y of two instances -/
def rInsOp (C : Addr) (sp : Sp) (E : XK) : R2 := fun x y H Q => ∃ a dx fs b dy gs, x = .ref a ∧ y = .ref b ∧ H a = some (.ins C dx fs) ∧ H b = some (.ins C dy gs) ∧ sp [x, y] H Q E
theorem op_insEq {k : Nat} (o : Op X.prog X.w X.K X.mg X.base k C "__eq__" ps sp) (hn : PySem.W.notFirst X.K C (.ref C) = true) (hr : Room n X.A) (hk : k ≤ n) (hx : Passes (L2.CX X.prog X.w) X E) : OpR X (compareOp .Eq) (rInsOp C sp E) := by
  obtain ⟨f, fd, F, hs, hf, kp, hb⟩ := o.ex
  intro pins s σ H x y v u Q I rx ry h
  obtain ⟨a, dx, fs, b, dy, gs, rfl, rfl, ha, hb', q⟩ := h
  cases (show v = Value.ref a from rx)
  cases (show u = Value.ref b from ry)
  obtain ⟨mA, O, _⟩ := ins_get I.hok ha
  obtain ⟨od, J, _⟩ := O.look
  obtain ⟨mB, O', _⟩ := ins_get I.hok hb'
  obtain ⟨od', J', _⟩ := O'.look
  obtain ⟨m, hF⟩ := I.fr
  refine PySem.W.cmp_K (op := .Eq) (tb := .ref C) hr.units0 hF I.ok.mod.kin J J'.type hn hs hf ?_
  refine wpAny_mono (wpAny_call (run_fnA (us := [.ref a, .ref b]) (ws := [.ref a, .ref b]) F hb (hr.mono hk) I.env0 hx I (.cons rfl (.cons rfl .nil)) q)) (fun w s' z => ?_) fun _ _ x => x
  obtain ⟨z', H', I', rz, qz⟩ := z
  exact SlX.cmpback rz ⟨z', H', I', rz, qz⟩
/-- x + y of two instances -/
theorem op_insAdd {k : Nat} (o : Op X.prog X.w X.K X.mg X.base k C "__add__" ps sp) (hn : PySem.W.selfFirst X.K C = true) (hr : Room n X.A) (hk : k ≤ n) (hx : Passes (L2.CX X.prog X.w) X E) : OpR X (binaryOp .Add) (rInsOp C sp E) := by
  obtain ⟨f, fd, F, hs, hf, kp, hb⟩ := o.ex
  intro pins s σ H x y v u Q I rx ry h
  obtain ⟨a, dx, fs, b, dy, gs, rfl, rfl, ha, hb', q⟩ := h
  cases (show v = Value.ref a from rx)
  cases (show u = Value.ref b from ry)
  obtain ⟨mA, O, _⟩ := ins_get I.hok ha
  obtain ⟨od, J, _⟩ := O.look
  obtain ⟨mB, O', _⟩ := ins_get I.hok hb'
  obtain ⟨od', J', _⟩ := O'.look
  obtain ⟨m, hF⟩ := I.fr
  refine PySem.W.binop_K (op := .Add) hF I.ok.mod.kin J J'.type hn hs hf ?_
  refine wpAny_mono (wpAny_call (run_fnA (us := [.ref a, .ref b]) (ws := [.ref a, .ref b]) F hb (hr.mono hk) I.env0 hx I (.cons rfl (.cons rfl .nil)) q)) (fun w s' z => ?_) fun _ _ x => x
  obtain ⟨z', H', I', rz, qz⟩ := z
  exact SlX.cmpback rz ⟨z', H', I', rz, qz⟩
/-- len(x) of an instance -/
def rInsLen (C : Addr) (sp : Sp) (E : XK) : List V → Hp → VK → Prop := fun xs H Q => ∃ a dx fs, xs = [.ref a] ∧ H a = some (.ins C dx fs) ∧ sp [.ref a] H (fun z H' => ∃ i : Int, z = .int i ∧ 0 ≤ i ∧ i < 2 ^ 63 ∧ Q z H') E
theorem call_insLen {k : Nat} (o : Op X.prog X.w X.K X.mg X.base k C "__len__" ps sp) (hr : Room n X.A) (hk : k + 1 ≤ n) (hx : Passes (L2.CX X.prog X.w) X E) : CallR X (.builtin "len") (rInsLen C sp E) := by
  obtain ⟨f, fd, F, hs, hf, kp, hb⟩ := o.ex
  intro pins s σ H xs us Q I r h
  obtain ⟨a, dx, fs, rfl, ha, q⟩ := h
  obtain ⟨u, rfl, ru⟩ := vals1 r
  cases (show u = Value.ref a from ru)
  obtain ⟨mA, O, _⟩ := ins_get I.hok ha
  obtain ⟨od, J, _⟩ := O.look
  obtain ⟨m, hF⟩ := I.fr
  refine PySem.W.len_K hF I.ok.mod.kin J hs hf ?_
  refine wpAny_mono (wpAny_call (run_fnA (us := [.ref a]) (ws := [.ref a]) F hb (hr.mono hk).in1 I.env0.in1 hx I (.cons rfl .nil) q)) (fun w s' z => ?_) fun _ _ x => x
  obtain ⟨z', H', I', rz, i, rfl, h0, h1, qz⟩ := z
  obtain ⟨t, rfl⟩ := (show ∃ t, w = Value.int i t from rz)
  exact ⟨⟨h0, h1⟩, .int i, H', I'.tok _, ⟨_, rfl⟩, qz⟩
/-- x[i] of an instance -/
theorem pe_insIx {k : Nat} {e b : Expr} {te tb : TE} {pos : Pos} (o : Op X.prog X.w X.K X.mg X.base k C "__getitem__" ps sp) (hfn : ∀ f, PySem.W.findIn X.K (.ref C) "__getitem__" = some (some (.ref f)) → PySem.W.fnIn X.K f = true) (hr : Room n X.A) (hk : k + 1 ≤ n) (hx : Passes (L2.CX X.prog X.w) X E) (he : PE X e te) (hb : PE X b tb)
    (hsl : ∀ x i, subscripted b true (.ref x) i = runValue (.builtin "lifetime.subscript" ⟨[.ref x, i], []⟩) := by intro _ _; with_unfolding_all rfl) :
    PE X (.Subscript e b pos) (tOp (fun x y H Q => ∃ a dx fs, x = .ref a ∧ H a = some (.ins C dx fs) ∧ sp [x, y] H Q E) te tb) := by
  obtain ⟨f, fd, F, hs, hf, kp, hb'⟩ := o.ex
  refine ⟨fun pins s σ H Q I h => ?_⟩
  refine Subscript_ (binT he hb I h fun v u s2 x y H2 I2 rx ry q => ?_)
  obtain ⟨a, dx, fs, rfl, ha, q⟩ := q
  cases (show v = Value.ref a from rx)
  obtain ⟨mA, O, _⟩ := ins_get I2.hok ha
  obtain ⟨od, J, _⟩ := O.look
  obtain ⟨m, hF⟩ := I2.fr
  refine PySem.W.sub_K hF I2.ok.mod.kin J hs (hfn f hs) hf ?_ (hsl _ _)
  exact wpAny_call (run_fnA (us := [.ref a, u]) (ws := [.ref a, y]) F hb' (hr.mono hk).in1 I2.env0.in1 hx I2 (.cons rfl (.cons ry .nil)) q)
end
/-! ### own exceptions without arguments -/
section
variable {X : Cx} {C : Addr} {bmB : List Value} {B newId initId : String}
theorem pmk_own0 {x : Str} {p pos : Pos} (F : ExcBaseFacts B newId initId bmB) (q : PySem.W.excIn X.K C bmB newId = true) (gC : X.mg x = some (.ref C)) (kC : PySem.W.keepIn X.K (.ref C) = true) (r : Raises X (.ref C)) (hg : Gl X x)
    (hdb : (x == ("__debug__" : Str)) = false := by decide) : PMk X (.Call (.Name x p) [] [] pos) (fun _ H Q => Q (.ref C) none H) := by
  intro pins s σ H Q I h
  refine wpAny_Call_Name_kw (ld_glob I hg gC ?_ hdb)
  refine PySem.W.callWith_K0 I.kIn kC ?_
  show wpAny _ _ (call (.ref C) []) _ _ _
  obtain ⟨bm, N, nm, qn, bs, hdct, sn, sub, ab, col, dd, k0, k1, k2, k3, k5, mN, hC, hN, hni, T⟩ := exc_obj I.kIn q
  refine wpAny_call_exc_subT F T hC hN hni (fun h' e hm => ?_) (by show 0 ≤ sizeLine; exact Nat.zero_le _)
  exact mk_of I hm r h (I.hok.gone hm.new)
end
end TB

set_option maxHeartbeats 4000000
namespace TB
open PySem PySem.Spec PyProof.Rows L2
/-! ### zip of lists, tuples and texts in any mix -/
/-- what is walked: a list, a tuple, a text -/
inductive SK where
  | l | t | s
def signs (x : Str) : List V := x.cps.toList.map fun c => V.str ⟨#[c]⟩
def SrcV (K : PySem.W.Frag) (H : Hp) : SK → V → List V → Prop
  | .l, .ref a, xs => SqL K H a xs
  | .t, .ref a, xs => SqT K H a xs
  | .s, .str x, xs => xs = signs x
  | _, _, _ => False
def srcAt : Value → List Addr
  | .ref a => [a]
  | _ => []
/-- the iterator at it over u, at turn i -/
def SrcIt (h : Heap) : SK → Value → Addr → Nat → Prop
  | .l, .ref a, it, i => h.IsListIter it a i
  | .t, .ref a, it, i => h.IsTupleIter it a i
  | .s, .str x t, it, i => h.IsStrIter it (strIterType x) x t i
  | _, _, _, _ => False
theorem SrcIt.rec {h : Heap} {k : SK} {u : Value} {it : Addr} {i : Nat} (st : SrcIt h k u it i) : ∃ o vs, h.get? it = some o ∧ o.data = .fields vs := by
  cases k <;> cases u <;> first | exact st.elim | skip
  · obtain ⟨o, e, _, d⟩ := st; exact ⟨o, _, e, d⟩
  · obtain ⟨o, e, _, d⟩ := st; exact ⟨o, _, e, d⟩
  · obtain ⟨o, e, _, d⟩ := st; exact ⟨o, _, e, d⟩
theorem SrcIt.at {h h' : Heap} {k : SK} {u : Value} {it : Addr} {i : Nat} (st : SrcIt h k u it i) (hk : ∀ o, h.get? it = some o → h'.get? it = some o) : SrcIt h' k u it i := by
  cases k <;> cases u <;> first | exact st.elim | skip
  · obtain ⟨o, e, c, d⟩ := st; exact ⟨o, hk o e, c, d⟩
  · obtain ⟨o, e, c, d⟩ := st; exact ⟨o, hk o e, c, d⟩
  · obtain ⟨o, e, c, d⟩ := st; exact ⟨o, hk o e, c, d⟩
section
variable {X : Cx} {pins : List (Addr × Obj)} {σ : L2.St} {H : Hp} {s : Shared}
theorem SrcV.inj {k : SK} {v : V} {xs ys : List V} (I : Inv X pins σ H s) (a : SrcV X.K H k v xs) (b : SrcV X.K H k v ys) : xs = ys := by
  cases k <;> cases v <;> first | exact a.elim | skip
  · exact I.list_inj a b
  · exact I.tuple_inj a b
  · exact Eq.trans a (Eq.symm b)
/-- what such an iterator draws, from the heap as it stands -/
theorem src_draws {A : Around} {k : SK} {v : V} {u : Value} {xs : List V} {it : Addr} (hh : A.handled = none) (I : Inv X pins σ H s) (hv : SrcV X.K H k v xs) (r : RelV v u) (hne : it ∉ srcAt u) :
    ∃ (P : Nat → Value → Prop) (St : Nat → Heap → Prop), Draws X.prog X.w A it (it :: srcAt u) xs.length P St ∧ (∀ i, SrcIt s.heap k u it i → St i s.heap) ∧ (∀ i h, St i h → SrcIt h k u it i) ∧ ∀ i z, P i z → ∃ y, xs[i]? = some y ∧ RelV y z := by
  cases k <;> cases v <;> first | exact hv.elim | skip
  · rename_i a
    cases (show u = Value.ref a from r)
    obtain ⟨its, rv, p, _⟩ := I.list hv
    have e : its.toArray.size = xs.length := by rw [rv.length]; simp
    have D := Draws.list (prog := X.prog) (w := X.w) (A := A) hh it a (fun z => hne (by rw [z]; exact List.mem_cons_self ..)) its.toArray
    rw [e] at D
    refine ⟨_, _, D, fun i st => ⟨st, p.isList⟩, fun i h st => st.1, fun i z hz => ?_⟩
    have hz' : its[i]? = some z := by simpa using hz
    have hi : i < xs.length := by rw [rv.length]; exact (List.getElem?_eq_some_iff.mp hz').1
    obtain ⟨u, hu, ru⟩ := rv.get (List.getElem?_eq_getElem hi)
    rw [hz'] at hu
    cases hu
    exact ⟨_, List.getElem?_eq_getElem hi, ru⟩
  · rename_i a
    cases (show u = Value.ref a from r)
    obtain ⟨its, rv, p, _⟩ := I.tuple hv
    have e : its.toArray.size = xs.length := by rw [rv.length]; simp
    have D := Draws.tuple (prog := X.prog) (w := X.w) (A := A) hh it a (fun z => hne (by rw [z]; exact List.mem_cons_self ..)) its.toArray
    rw [e] at D
    refine ⟨_, _, D, fun i st => ⟨st, p⟩, fun i h st => st.1, fun i z hz => ?_⟩
    have hz' : its[i]? = some z := by simpa using hz
    have hi : i < xs.length := by rw [rv.length]; exact (List.getElem?_eq_some_iff.mp hz').1
    obtain ⟨u, hu, ru⟩ := rv.get (List.getElem?_eq_getElem hi)
    rw [hz'] at hu
    cases hu
    exact ⟨_, List.getElem?_eq_getElem hi, ru⟩
  · rename_i x
    obtain ⟨t, rfl⟩ := (show ∃ t, u = Value.str x t from r)
    have e : x.cps.size = xs.length := by rw [show xs = signs x from hv]; unfold signs; simp
    have D := Draws.text (prog := X.prog) (w := X.w) (A := A) hh it x t
    rw [e] at D
    refine ⟨_, _, D, fun i st => st, fun i h st => st, fun i z hz => ?_⟩
    obtain ⟨c, t', hc, rfl⟩ := hz
    refine ⟨.str ⟨#[c]⟩, ?_, ⟨t', rfl⟩⟩
    rw [show xs = signs x from hv]
    unfold signs
    rw [List.getElem?_map]
    have hc' : x.cps.toList[i]? = some c := by simpa using hc
    rw [hc'] <;> rfl
/-- how such a thing begins -/
theorem src_begins {k : SK} {v : V} {u : Value} {xs : List V} (I : Inv X pins σ H s) (hv : SrcV X.K H k v xs) (r : RelV v u) :
    ∃ (o : Obj) (Hh : Heap → Prop), Begins u o Hh ∧ Hh s.heap ∧ (∀ (h : Heap) (it : Addr), h.get? it = some o → SrcIt h k u it 0) ∧ ∀ b ∈ srcAt u, b < s.heap.objs.size := by
  cases k <;> cases v <;> first | exact hv.elim | skip
  · rename_i a
    cases (show u = Value.ref a from r)
    obtain ⟨its, rv, p, _⟩ := I.list hv
    exact ⟨_, _, begins_list a its.toArray, p.isList, fun h it e => ⟨_, e, rfl, rfl⟩, fun b hb => by
      have e : b = a := by simpa [srcAt] using hb
      rw [e]; exact p.lt⟩
  · rename_i a
    cases (show u = Value.ref a from r)
    obtain ⟨its, rv, p, _⟩ := I.tuple hv
    exact ⟨_, _, begins_tuple a its.toArray, p, fun h it e => ⟨_, e, rfl, rfl⟩, fun b hb => by
      have e : b = a := by simpa [srcAt] using hb
      rw [e]; exact p.lt⟩
  · rename_i x
    obtain ⟨t, rfl⟩ := (show ∃ t, u = Value.str x t from r)
    exact ⟨_, _, begins_text x t, True.intro, fun h it e => ⟨_, e, rfl, rfl⟩, fun b hb => by simp [srcAt] at hb⟩
end
/-- the turns of zip(v1, v2) -/
def ItzS (K : PySem.W.Frag) (k1 k2 : SK) (v1 v2 : V) : It :=
  ⟨fun i H => ∃ (xs ys : List V) (x y : V), SrcV K H k1 v1 xs ∧ SrcV K H k2 v2 ys ∧ xs[i]? = some x ∧ ys[i]? = some y,
    fun i H v H' => ∃ T x y, v = .ref T ∧ H T = none ∧ H' = upd H T (.tup [x, y]) ∧ (∀ xs, SrcV K H k1 v1 xs → xs[i]? = some x) ∧ ∀ ys, SrcV K H k2 v2 ys → ys[i]? = some y,
    fun i H => ∃ xs ys : List V, SrcV K H k1 v1 xs ∧ SrcV K H k2 v2 ys ∧ i ≤ xs.length ∧ i ≤ ys.length ∧ (i = xs.length ∨ i = ys.length)⟩
theorem turn_zipS {P : Program} {w : World} {K : PySem.W.Frag} {elts : List Expr} {kk : Nat} {tpos : Pos} {k1 k2 : SK} {v1 v2 : V} {u1 u2 : Value} {z TI TO i1 i2 : Addr} (r1 : RelV v1 u1) (r2 : RelV v2 u2)
    (D : ZipSep2 z TI TO i1 i2 (i1 :: srcAt u1) (i2 :: srcAt u2)) (d1 : i1 ∉ srcAt u1) (d2 : i2 ∉ srcAt u2) :
    Turn P w K (.Tuple elts kk tpos) (ItzS K k1 k2 v1 v2) [z, TI, TO, i1, i2] z (fun i h => IsZip h z TI TO .none ∧ IsTupOf2 h TI (.ref i1) (.ref i2) ∧ (∃ x y, IsTupOf2 h TO x y) ∧ SrcIt h k1 u1 i1 i ∧ SrcIt h k2 u2 i2 i) where
  mem := by simp
  obj := fun i h st c hc => by
    obtain ⟨hz, hTI, ⟨x, y, hTO⟩, s1, s2⟩ := st
    obtain ⟨o1, vs1, e1, q1⟩ := s1.rec
    obtain ⟨o2, vs2, e2, q2⟩ := s2.rec
    have e' : c = z ∨ c = TI ∨ c = TO ∨ c = i1 ∨ c = i2 := by simpa using hc
    rcases e' with q | q | q | q | q
    · rw [q]; exact ⟨_, hz, fun v q => nomatch q⟩
    · rw [q]; exact ⟨_, hTI, fun v q => nomatch q⟩
    · rw [q]; exact ⟨_, hTO, fun v q => nomatch q⟩
    · rw [q]; exact ⟨o1, e1, fun v q => by rw [q1] at q; cases q⟩
    · rw [q]; exact ⟨o2, e2, fun v q => by rw [q2] at q; cases q⟩
  keep := fun i h h' st k => by
    obtain ⟨hz, hTI, ⟨x, y, hTO⟩, s1, s2⟩ := st
    exact ⟨k z (by simp) _ hz, k TI (by simp) _ hTI, ⟨x, y, k TO (by simp) _ hTO⟩, s1.at fun o q => k i1 (by simp) o q, s2.at fun o q => k i2 (by simp) o q⟩
  item := by
    intro X hP hw hK hc i pins s σ H E I hf st hg
    subst hP hw hK
    obtain ⟨hz, hTI, ⟨x0, y0, hTO⟩, s1, s2⟩ := st
    obtain ⟨xs, ys, x, y, hqx, hqy, hx, hy⟩ := hg
    obtain ⟨P1, St1, D1, a1, b1, c1⟩ := src_draws (A := X.A.in1) (I.ok.hd hc) I hqx r1 d1
    obtain ⟨P2, St2, D2, a2, b2, c2⟩ := src_draws (A := X.A.in1) (I.ok.hd hc) I hqy r2 d2
    have hl1 : i < xs.length := (List.getElem?_eq_some_iff.mp hx).1
    have hl2 : i < ys.length := (List.getElem?_eq_some_iff.mp hy).1
    have hzl : z < s.heap.objs.size := Heap.lt_size hz
    refine wpAny_pyNext_zipD2_item D D1 D2 hz hTI hTO (a1 _ s1) (a2 _ s2) hl1 hl2 fun x1 x2 h' tk p1 p2 z' TO' st1 st2 hT hsz hk => ?_
    obtain ⟨y1, g1, ru1⟩ := c1 _ _ p1
    obtain ⟨y2, g2, ru2⟩ := c2 _ _ p2
    rw [hx] at g1; cases g1
    rw [hy] at g2; cases g2
    refine ⟨_, rfl, wpAny_letOwnedTupleGo_zip (s := { s with heap := h', toks := tk }) z' fun h'' z'' sb => ?_⟩
    have hT2 : h''.get? s.heap.objs.size = some { cls := .type "tuple", data := .seq #[x1, x2] } := (sb.2 _ (Nat.ne_of_gt hzl)).trans hT
    have new : ObjOk X.prog X.w (upd H s.heap.objs.size (.tup [x, y])) h'' s.heap.objs.size (.tup [x, y]) :=
      ⟨by show 2 ≤ sizeLine; decide, [x1, x2], .cons ru1 (.cons ru2 .nil), ⟨_, hT2, rfl, _, rfl⟩⟩
    have I1 : Inv X pins σ (upd H s.heap.objs.size (.tup [x, y])) { s with heap := h'', toks := tk } :=
      I.turnedNew (t' := tk) (ch := [z, TI, TO, i1, i2]) (fun c o hb q => (sb.2 c (fun q' => hb (by simp [q']))).trans (hk c o (fun q' => hb (by simp [q'])) (fun q' => hb (by simp [q'])) (fun q' => hb (by simp [q'])) (fun q' => hb (by simp [q'])) q)) hf (Nat.le_refl _) new
    refine ⟨.ref s.heap.objs.size, _, I1, rfl, ⟨_, x, y, rfl, I.hok.fresh (Nat.le_refl _), rfl, fun l hl => by rw [SrcV.inj I hl hqx]; exact hx, fun l hl => by rw [SrcV.inj I hl hqy]; exact hy⟩, ⟨z'', ?_, ⟨x1, x2, ?_⟩, ?_, ?_⟩, fun c hcm => ?_⟩
    · exact (sb.2 _ D.TIz).trans (hk _ _ D.TIz D.TITO D.TIi1 D.TIi2 hTI)
    · exact (sb.2 _ D.TOz).trans TO'
    · exact (b1 _ _ st1).at fun o q => (sb.2 _ (Ne.symm D.zi1)).trans q
    · exact (b2 _ _ st2).at fun o q => (sb.2 _ (Ne.symm D.zi2)).trans q
    · have hlt : c < s.heap.objs.size := by
        have e' : c = z ∨ c = TI ∨ c = TO ∨ c = i1 ∨ c = i2 := by simpa using hcm
        rcases e' with q | q | q | q | q
        · rw [q]; exact hzl
        · rw [q]; exact Heap.lt_size hTI
        · rw [q]; exact Heap.lt_size hTO
        · rw [q]; obtain ⟨_, _, e1, _⟩ := s1.rec; exact Heap.lt_size e1
        · rw [q]; obtain ⟨_, _, e2, _⟩ := s2.rec; exact Heap.lt_size e2
      rw [upd_ne (Nat.ne_of_lt hlt)]
      exact (hf c hcm).1
  done := by
    intro X hP hw hK hc i pins s σ H E I hf st hg
    subst hP hw hK
    obtain ⟨hz, hTI, ⟨x0, y0, hTO⟩, s1, s2⟩ := st
    obtain ⟨xs, ys, hqx, hqy, l1, l2, hend⟩ := hg
    obtain ⟨P1, St1, D1, a1, b1, c1⟩ := src_draws (A := X.A.in1) (I.ok.hd hc) I hqx r1 d1
    obtain ⟨P2, St2, D2, a2, b2, c2⟩ := src_draws (A := X.A.in1) (I.ok.hd hc) I hqy r2 d2
    exact wpAny_pyNext_zipD2_end D D1 D2 hz hTI hTO (a1 _ s1) (a2 _ s2) l1 l2 hend fun h' tk hk => ⟨rfl, I.turnedL (t' := tk) (ch := [z, TI, TO, i1, i2]) (fun c o hb q =>
      hk c o (fun q' => hb (by simp [q'])) (fun q' => hb (by simp [q'])) (fun q' => hb (by simp [q'])) (fun q' => hb (by simp [q'])) q) hf⟩
  self := fun A i s Q E st h => wpAny_pyIter_zip st.1 h
def iZipS (K : PySem.W.Frag) (k1 k2 : SK) (ta : TA) : TI := fun σ H R => ta σ H fun vs H1 => ∃ v1 v2 xs ys, vs = [v1, v2] ∧ SrcV K H1 k1 v1 xs ∧ SrcV K H1 k2 v2 ys ∧ R (ItzS K k1 k2 v1 v2) H1
theorem pi_zipS (k1 k2 : SK) {X : Cx} {e e2 : Expr} {ta : TA} {p pos tpos : Pos} {elts : List Expr} {kk : Nat} (hg : Gl X "zip") (hm : X.mg "zip" = none) (ha : PA X [e, e2] ta)
    (hs : starEach [e, e2] X.env = (false, eval e X.env) :: starEach [e2] X.env := by rfl) (hpl : (backTo pos (starEach [e2] X.env)).any (·.1) = false := by rfl) :
    PI X (.Tuple elts kk tpos) (.Call (.Name "zip" p) [e, e2] [] pos) (iZipS X.K k1 k2 ta) := by
  refine ⟨fun pins s σ H R I h => ?_⟩
  refine Call_ (ld_blt I hg hm PyProof.Rows.boot_zip (PyProof.Rows.callWith_type1 (thn (ha.run pos pins s σ H _ I h) fun us s1 ⟨vs, H1, I1, r1, q1⟩ => ?_) hs hpl))
  obtain ⟨v1, v2, xs, ys, ex, hqx, hqy, q⟩ := q1
  subst ex
  obtain ⟨u1, u2, rfl, ru1, ru2⟩ := vals2 r1
  obtain ⟨o1, H1h, B1, b1, i1, l1⟩ := src_begins I1 hqx ru1
  obtain ⟨o2, H2h, B2, b2, i2, l2⟩ := src_begins I1 hqy ru2
  refine zip_begins2 B1 B2 b1 b2 fun h' hz hTI hTO g1 g2 hsz hk => wpAny_pyIter_zip hz ?_
  have I2 : Inv X pins σ H1 { s1 with heap := h' } := I1.kept (t' := s1.toks) hk
  refine ⟨s1.heap.objs.size + 4, [s1.heap.objs.size + 4, s1.heap.objs.size + 2, s1.heap.objs.size + 3, s1.heap.objs.size, s1.heap.objs.size + 1], _, _, H1, rfl, I2,
    turn_zipS ru1 ru2 (zip_sep2 l1 l2) (fun hm => absurd (l1 _ hm) (Nat.lt_irrefl _)) (fun hm => absurd (l2 _ hm) (Nat.not_lt.mpr (Nat.le_succ _))), ⟨hz, hTI, ⟨_, _, hTO⟩, i1 _ _ g1, i2 _ _ g2⟩, fun c hcm => ?_, q⟩
  have e' : c = s1.heap.objs.size + 4 ∨ c = s1.heap.objs.size + 2 ∨ c = s1.heap.objs.size + 3 ∨ c = s1.heap.objs.size ∨ c = s1.heap.objs.size + 1 := by simpa using hcm
  have hle : s1.heap.objs.size ≤ c := by
    rcases e' with z | z | z | z | z
    · rw [z]; exact Nat.le_add_right _ _
    · rw [z]; exact Nat.le_add_right _ _
    · rw [z]; exact Nat.le_add_right _ _
    · rw [z]; exact Nat.le_refl _
    · rw [z]; exact Nat.le_add_right _ _
  exact I1.fpOk hle (I1.hok.fresh hle)
end TB

set_option maxHeartbeats 4000000
namespace TB
open PySem PySem.Spec PyProof.Rows L2
/-! ### facts of the written part -/
theorem ba {a b : Bool} (h : (a && b) = true) : a = true ∧ b = true := Bool.and_eq_true_iff.mp h
/-- an own exception class with an __init__ -/
def oexB (K : PySem.W.Frag) (C : Addr) (f : Str) : Bool :=
  (match K.lookup C with
    | some ⟨.type c, _, .cls cd, sl⟩ => decide (c = "type") && (match cd.mro, sl.toList with
      | .ref C' :: bm, [_, _, _, _, some (.builtin n), _] => decide (C' = C) && (decide (n = "ValueError.__new__") && (!cd.hasDel && (cd.hasDict && PySem.HandSPX.refsVE bm)))
      | _, _ => false)
    | _ => false) && (decide (PySem.W.findIn K (.ref C) "__setattr__" = some (some (.builtin "object.__setattr__"))) && (decide (PySem.W.subIn K (.ref C) (.type "BaseException") = some true) && (decide (PySem.W.typeIn K (.ref C) = some (.type "type")) &&
      (PySem.W.keepIn K (.ref C) && (decide (PySem.W.findIn K (.ref C) f = some none) && (decide (PySem.W.findIn K (.ref C) "__init__" = some (some (.ref (He.ma K C "__init__")))) && (decide (PySem.W.typeIn K (.ref (He.ma K C "__init__")) = some (.type "function")) && xfB K C)))))))
structure OexAt (K : PySem.W.Frag) (C : Addr) (f : Str) : Prop where
  o : OexC K C
  no : PySem.W.findIn K (.ref C) f = some none
  iC : PySem.W.findIn K (.ref C) "__init__" = some (some (.ref (He.ma K C "__init__")))
  tI : PySem.W.typeIn K (.ref (He.ma K C "__init__")) = some (.type "function")
  xf : XfC K C
theorem oexB_ok {K : PySem.W.Frag} {C : Addr} {f : Str} (h : oexB K C f = true) : OexAt K C f := by
  obtain ⟨h0, h⟩ := ba h
  obtain ⟨h1, h⟩ := ba h
  obtain ⟨h2, h⟩ := ba h
  obtain ⟨h3, h⟩ := ba h
  obtain ⟨h4, h⟩ := ba h
  obtain ⟨h5, h⟩ := ba h
  obtain ⟨h6, h⟩ := ba h
  obtain ⟨h7, h8⟩ := ba h
  refine ⟨⟨?_, of_decide_eq_true h1, of_decide_eq_true h2, of_decide_eq_true h3, h4⟩, of_decide_eq_true h5, of_decide_eq_true h6, of_decide_eq_true h7, xfB_ok h8⟩
  split at h0
  · rename_i c dd cd sl ho
    obtain ⟨hc, h0'⟩ := ba h0
    split at h0'
    · rename_i C' bm k0 k1 k2 k3 n k5 hm hs
      obtain ⟨g1, q1⟩ := ba h0'
      obtain ⟨g2, q2⟩ := ba q1
      obtain ⟨g3, q3⟩ := ba q2
      obtain ⟨g4, g5⟩ := ba q3
      have ec : c = "type" := of_decide_eq_true hc
      have e1 : C' = C := of_decide_eq_true g1
      have e2 : n = "ValueError.__new__" := of_decide_eq_true g2
      obtain ⟨nm, bs, mro, ns, qn, hd, sn, sub, ab, col, del⟩ := cd
      have e3 : del = false := by simpa using g3
      have e4 : hd = true := g4
      have e5 : mro = .ref C' :: bm := hm
      have hsl : sl = #[k0, k1, k2, k3, some (.builtin n), k5] := by
        obtain ⟨l⟩ := sl
        simp only at hs
        rw [hs]
      exact ⟨nm, qn, ns, bs, bm, sn, sub, ab, col, dd, k0, k1, k2, k3, k5, by rw [ho, ec, e5, e1, e3, e4, hsl, e2], g5⟩
    · cases h0'
  · cases h0
/-- a table of texts by texts -/
def tabB (K : PySem.W.Frag) (a : Addr) (kvs : List (Str × Str)) : Bool := match K.lookup a with
  | some ⟨_, _, .dict es _, _⟩ => decide (es.toList.map (fun e => match e.key, e.val with | .str x _, .str y _ => some (x, y) | _, _ => none) = kvs.map some)
  | _ => false
structure Table (K : PySem.W.Frag) (w : World) (a : Addr) (kvs : List (Str × Str)) : Prop where
  kd : ∃ es n, KDict K w a es n
  yes : ∀ z y, kvs.lookup z = some y → KDct K w a z (.str y)
  no : ∀ z, kvs.lookup z = none → PySem.W.nsIn K a z = some none
theorem find_tab {z : Str} : ∀ {l : List DictEntry} {kvs : List (Str × Str)}, l.map (fun e => match e.key, e.val with | .str x _, .str y _ => some (x, y) | _, _ => none) = kvs.map some →
    (∀ y, kvs.lookup z = some y → ∃ e t, l.find? (fun e => e.key.isStr z) = some e ∧ e.val = .str y t) ∧ (kvs.lookup z = none → l.find? (fun e => e.key.isStr z) = none ∧ l.any (·.refKey) = false)
  | [], [], _ => ⟨fun y h => by simp at h, fun _ => ⟨rfl, rfl⟩⟩
  | [], _ :: _, h => by simp at h
  | _ :: _, [], h => by simp at h
  | e :: l, (x, y) :: kvs, h => by
    simp only [List.map_cons, List.cons.injEq] at h
    obtain ⟨h1, h2⟩ := h
    obtain ⟨i1, i2⟩ := find_tab (z := z) h2
    have hk : ∃ t u, e.key = .str x t ∧ e.val = .str y u := by
      split at h1
      · rename_i x' t y' u hk hv
        cases h1
        exact ⟨t, u, hk, hv⟩
      · cases h1
    obtain ⟨t, u, hk, hv⟩ := hk
    have hi : e.key.isStr z = decide (x = z) := by
      rw [hk]
      show (Value.str x t).isStr z = decide (x = z)
      unfold Value.isStr
      first | exact Bool.beq_eq_decide_eq _ _ | (rw [Bool.beq_eq_decide_eq]) | rfl
    have hr : e.refKey = false := by
      unfold DictEntry.refKey
      rw [hk] <;> rfl
    by_cases e1 : x = z
    · subst e1
      refine ⟨fun y' hy => ?_, fun hn => ?_⟩
      · have q : y = y' := by simpa [List.lookup] using hy
        subst q
        exact ⟨e, u, by rw [List.find?_cons, hi, decide_eq_true rfl], hv⟩
      · simp [List.lookup] at hn
    · have e2 : (z == x) = false := by simpa using fun q => e1 q.symm
      refine ⟨fun y' hy => ?_, fun hn => ?_⟩
      · rw [List.lookup, e2] at hy
        obtain ⟨e', t', g1, g2⟩ := i1 y' hy
        exact ⟨e', t', by rw [List.find?_cons, hi, decide_eq_false e1]; exact g1, g2⟩
      · rw [List.lookup, e2] at hn
        obtain ⟨g1, g2⟩ := i2 hn
        exact ⟨by rw [List.find?_cons, hi, decide_eq_false e1]; exact g1, by rw [List.any_cons, hr, g2] <;> rfl⟩
theorem table_ok {K : PySem.W.Frag} {w : World} {a : Addr} {kvs : List (Str × Str)} (kd : ∃ es n, KDict K w a es n) (h : tabB K a kvs = true) : Table K w a kvs := by
  obtain ⟨es, n, D⟩ := kd
  have h1 : decide (es.toList.map (fun e => match e.key, e.val with | .str x _, .str y _ => some (x, y) | _, _ => none) = kvs.map some) = true := by
    unfold tabB at h
    rw [D.at_] at h
    exact h
  have h2 := of_decide_eq_true h1
  refine ⟨⟨es, n, D⟩, fun z y hz => ?_, fun z hz => ?_⟩
  · obtain ⟨e, t, g1, g2⟩ := (find_tab (z := z) h2).1 y hz
    refine ⟨es, n, .str y t, D.at_, D.lit, ?_, ⟨t, rfl⟩⟩
    unfold PySem.W.nsIn
    rw [D.at_]
    dsimp only
    rw [g1]
    show some (some e.val) = _
    rw [g2]
  · obtain ⟨g1, g2⟩ := (find_tab (z := z) h2).2 hz
    unfold PySem.W.nsIn
    rw [D.at_]
    dsimp only
    rw [g1, g2] <;> rfl
/-- z in the table -/
def rTab (K : PySem.W.Frag) (a : Addr) (kvs : List (Str × Str)) (neg : Bool) : R2 := fun x y H Q => ∃ z, x = .str z ∧ y = .ref a ∧ Q (.bl (if neg then !(kvs.lookup z).isSome else (kvs.lookup z).isSome)) H
theorem Table.ns {K : PySem.W.Frag} {w : World} {a : Addr} {kvs : List (Str × Str)} (T : Table K w a kvs) (z : Str) : ∃ r, PySem.W.nsIn K a z = some r ∧ r.isSome = (kvs.lookup z).isSome := by
  cases e : kvs.lookup z with
  | none => exact ⟨none, T.no z e, rfl⟩
  | some y =>
    obtain ⟨es, n, u, _, _, h, _⟩ := T.yes z y e
    exact ⟨some u, h, rfl⟩
theorem op_in_tab {X : Cx} {a : Addr} {kvs : List (Str × Str)} (T : Table X.K X.w a kvs) : OpR X (compareOp .In) (rTab X.K a kvs false) := by
  obtain ⟨es, n, D⟩ := T.kd
  intro pins s σ H x y v u Q I rx ry h
  obtain ⟨z, rfl, rfl, q⟩ := h
  obtain ⟨r, h1, h2⟩ := T.ns z
  exact op_in_kd D pins s σ H _ _ v u Q I rx ry ⟨z, r, rfl, rfl, h1, by rw [h2]; exact q⟩
theorem op_notIn_tab {X : Cx} {a : Addr} {kvs : List (Str × Str)} (T : Table X.K X.w a kvs) : OpR X (compareOp .NotIn) (rTab X.K a kvs true) := by
  obtain ⟨es, n, D⟩ := T.kd
  intro pins s σ H x y v u Q I rx ry h
  obtain ⟨z, rfl, rfl, q⟩ := h
  obtain ⟨r, h1, h2⟩ := T.ns z
  exact op_notIn_kd D pins s σ H _ _ v u Q I rx ry ⟨z, r, rfl, rfl, h1, by rw [h2]; exact q⟩
/-- an instance's class for isinstance -/
structure IsC (K : PySem.W.Frag) (C : Addr) : Prop where
  ha : PySem.W.findIn K (.ref C) "__class__" = some (some (.builtin "object.__class__"))
  hn : PySem.W.specialIn K (.builtin "object.__class__") "__get__" = some (some (.builtin "getset_descriptor.__get__"))
  htk : PySem.W.takesIn K (.builtin "object.__class__") = some true
  hm : PySem.W.mroIn K C (.type "object") = some true
  me : PySem.W.kitOne K (.ref C) (.ref C) = some true
def isCB (K : PySem.W.Frag) (C : Addr) : Bool := decide (PySem.W.findIn K (.ref C) "__class__" = some (some (.builtin "object.__class__"))) && (decide (PySem.W.specialIn K (.builtin "object.__class__") "__get__" = some (some (.builtin "getset_descriptor.__get__"))) &&
  (decide (PySem.W.takesIn K (.builtin "object.__class__") = some true) && (decide (PySem.W.mroIn K C (.type "object") = some true) && decide (PySem.W.kitOne K (.ref C) (.ref C) = some true))))
theorem isCB_ok {K : PySem.W.Frag} {C : Addr} (h : isCB K C = true) : IsC K C := by
  obtain ⟨h1, h⟩ := ba h
  obtain ⟨h2, h⟩ := ba h
  obtain ⟨h3, h⟩ := ba h
  obtain ⟨h4, h5⟩ := ba h
  exact ⟨of_decide_eq_true h1, of_decide_eq_true h2, of_decide_eq_true h3, of_decide_eq_true h4, of_decide_eq_true h5⟩
theorem exs_at {exs : List (PySem.W.Frag → Bool)} {K : PySem.W.Frag} (h : (exs.all fun f => f K) = true) (i : Nat) {f : PySem.W.Frag → Bool} (hf : exs[i]? = some f := by rfl) : f K = true := List.all_eq_true.mp h f (List.mem_of_getElem? hf)
/-! ### walks -/
theorem walk_zipS {K : PySem.W.Frag} {k1 k2 : SK} {v1 v2 : V} {xs ys : List V} {n : Nat} (hn : n = min xs.length ys.length) :
    Walk (ItzS K k1 k2 v1 v2) n (fun H => SrcV K H k1 v1 xs ∧ SrcV K H k2 v2 ys) (YPair (fun i => xs[i]?) (fun i => ys[i]?)) := by
  subst hn
  refine ⟨fun i _ hi q => ?_, fun _ q => ⟨xs, ys, q.1, q.2, by omega, by omega, by omega⟩, fun i H v H' _ q y => ?_⟩
  · have h1 : i < xs.length := by omega
    have h2 : i < ys.length := by omega
    exact ⟨xs, ys, xs[i], ys[i], q.1, q.2, by simp [h1], by simp [h2]⟩
  · obtain ⟨T, x, z, h1, h2, h3, h4, h5⟩ := y
    exact ⟨T, x, z, h1, h2, h3, h4 xs q.1, h5 ys q.2⟩
end TB

set_option maxHeartbeats 4000000
namespace TB
open PySem PySem.Spec PyProof.Rows L2
/-! ### enumerate of a list, a tuple, a text -/
theorem meets_enum1 {v : Value} {o : Obj} {H : Heap → Prop} (B : Begins v o H) :
    Meets (Builtin.«enumerate.__new__» ⟨[.type "enumerate", v], []⟩) (fun _ R s => H s.heap ∧
      R (.ok (.ret (.ref (s.heap.push o).objs.size))) { s with heap := (s.heap.push o).push { cls := .type "enumerate", data := .fields #[.none, .bool false, .ref s.heap.objs.size, rawInt 0, .none, .none] } }) :=
  .of_wp fun prog w A R s h => by
    obtain ⟨hp, g, d, tk, os⟩ := s; obtain ⟨h1, h⟩ := h
    have hsub := sub_enumerate
    have q1 : ∀ {A' : Around} {E : Value → Shared → Prop} {Q : Value → Shared → Prop}, Q (.ref hp.objs.size) ⟨hp.push o, g, d, tk, os⟩ → wpAny (model prog w) A' (pyIter v) Q E ⟨hp, g, d, tk, os⟩ :=
      fun q => B.iter prog w _ _ ⟨hp, g, d, tk, os⟩ _ h1 q
    wp_walk using q1
    refine wpAny_stack_any fun st => wpAny_pure ?_
    split
    · rename_i c _ _ _ _ _
      cases (c == Value.type "enumerate")
      · wp_walk using q1
        exact ⟨_, rfl, h⟩
      · wp_walk using q1
        exact ⟨_, rfl, h⟩
    · wp_walk using q1
      exact ⟨_, rfl, h⟩
theorem enum1_begins {prog : Program} {w : World} {A : Around} {E : Value → Shared → Prop} {s : Shared} {v : Value} {o : Obj} {H : Heap → Prop} {Q : Value → Shared → Prop} (B : Begins v o H) (h1 : H s.heap)
    (h : ∀ h', IsEnum h' (s.heap.objs.size + 1) s.heap.objs.size 0 .none → h'.get? s.heap.objs.size = some o → h'.objs.size = s.heap.objs.size + 2 →
      (∀ b o, s.heap.get? b = some o → h'.get? b = some o) → Q (.ref (s.heap.objs.size + 1)) { s with heap := h' }) :
    wpAny (model prog w) A (call (.type "enumerate") [v]) Q E s := by
  refine callType_new F.called_enumerate (by decide) (F.typeCall_enumerate_1 _) (F.newCall_enumerate_1 _) (fun obj => F.args_object_init_2 obj _) F.entry_enumerate_new
    (meets_enum1 B) ⟨h1, ?_⟩
  have hz : (s.heap.push o).objs.size = s.heap.objs.size + 1 := Heap.size_push ..
  show _ ∧ _
  rw [hz]
  have he : IsEnum ((s.heap.push o).push { cls := .type "enumerate", data := .fields #[.none, .bool false, .ref s.heap.objs.size, rawInt 0, .none, .none] }) (s.heap.objs.size + 1) s.heap.objs.size 0 .none := by
    have := Heap.get?_push_size (s.heap.push o) (o := { cls := .type "enumerate", data := .fields #[.none, .bool false, .ref s.heap.objs.size, rawInt 0, .none, .none] }) rfl
    rw [hz] at this; exact this
  refine ⟨⟨_, he, rfl⟩, h _ he (Heap.get?_push_of_some _ (Heap.get?_push_size _ B.free)) (by rw [Heap.size_push, hz]) fun b o x => Heap.get?_push_of_some _ (Heap.get?_push_of_some _ x)⟩
def IteS (K : PySem.W.Frag) (k : SK) (v : V) : It :=
  ⟨fun i H => ∃ (xs : List V) (x : V), SrcV K H k v xs ∧ xs[i]? = some x, fun i H u H' => ∃ T x, u = .ref T ∧ H T = none ∧ H' = upd H T (.tup [.int (i : Nat), x]) ∧ ∀ xs, SrcV K H k v xs → xs[i]? = some x, fun i H => ∃ xs : List V, SrcV K H k v xs ∧ i = xs.length⟩
theorem turn_enumS {P : Program} {w : World} {K : PySem.W.Frag} {elts : List Expr} {kk : Nat} {tpos : Pos} {k : SK} {v : V} {u : Value} {e it : Addr} (r : RelV v u) (hne : e ≠ it) (hef : e ∉ srcAt u) (d : it ∉ srcAt u) :
    Turn P w K (.Tuple elts kk tpos) (IteS K k v) [e, it] e (fun i h => (∃ old, IsEnum h e it ((i : Nat) : Int) old) ∧ SrcIt h k u it i) where
  mem := by simp
  obj := fun i h st b hb => by
    obtain ⟨⟨old, he⟩, s1⟩ := st
    obtain ⟨o, vs, ho, hd⟩ := s1.rec
    have e' : b = e ∨ b = it := by simpa using hb
    rcases e' with z | z
    · rw [z]; exact ⟨_, he, fun v q => nomatch q⟩
    · rw [z]; exact ⟨o, ho, fun v q => by rw [hd] at q; cases q⟩
  keep := fun i h h' st k => let ⟨⟨old, he⟩, hi⟩ := st; ⟨⟨old, k e (by simp) _ he⟩, hi.at fun o q => k it (by simp) o q⟩
  item := by
    intro X hP hw hK hc i pins s σ H E I hf st hg
    subst hP hw hK
    obtain ⟨⟨old, he⟩, hit⟩ := st
    obtain ⟨xs, x, hq, hx⟩ := hg
    obtain ⟨P1, St1, D1, a1, b1, c1⟩ := src_draws (A := X.A.in1) (I.ok.hd hc) I hq r d
    have hl1 : i < xs.length := (List.getElem?_eq_some_iff.mp hx).1
    have hel : e < s.heap.objs.size := Heap.lt_size he
    have hil : it < s.heap.objs.size := by obtain ⟨_, _, q, _⟩ := hit.rec; exact Heap.lt_size q
    have hef2 : e ∉ it :: srcAt u := fun hm => by
      rcases List.mem_cons.mp hm with z | z
      · exact hne z
      · exact hef z
    refine wpAny_pyNext_enum_itemD D1 he (a1 _ hit) hl1 hne hef2 fun x1 h' tk p1 ho st1 hT hsz hk => ?_
    obtain ⟨y1, g1, ru⟩ := c1 _ _ p1
    rw [hx] at g1; cases g1
    refine ⟨_, rfl, wpAny_letOwnedTupleGo_enum (s := { s with heap := h', toks := tk + 1 }) ho fun h'' he' sb => ?_⟩
    have hT2 : h''.get? s.heap.objs.size = some { cls := .type "tuple", data := .seq #[.int i tk, x1] } := (sb.2 _ (Nat.ne_of_gt hel)).trans hT
    have new : ObjOk X.prog X.w (upd H s.heap.objs.size (.tup [.int (i : Nat), x])) h'' s.heap.objs.size (.tup [.int (i : Nat), x]) :=
      ⟨by show 2 ≤ sizeLine; decide, [.int i tk, x1], .cons ⟨_, rfl⟩ (.cons ru .nil), ⟨_, hT2, rfl, _, rfl⟩⟩
    have I1 : Inv X pins σ (upd H s.heap.objs.size (.tup [.int (i : Nat), x])) { s with heap := h'', toks := tk + 1 } :=
      I.turnedNew (t' := tk + 1) (ch := [e, it]) (fun b ob hb q => (sb.2 b (fun z => hb (by simp [z]))).trans (hk b ob (fun z => hb (by simp [z])) (fun z => hb (by simp [z])) q)) hf (Nat.le_refl _) new
    refine ⟨.ref s.heap.objs.size, _, I1, rfl, ⟨_, x, rfl, I.hok.fresh (Nat.le_refl _), rfl, fun ys hy => by rw [SrcV.inj I hy hq]; exact hx⟩, ⟨⟨x1, ?_⟩, (b1 _ _ st1).at fun o q => (sb.2 it (Ne.symm hne)).trans q⟩, fun b hb => ?_⟩
    · have e1 : ((i + 1 : Nat) : Int) = (i : Int) + 1 := by omega
      rw [e1]; exact he'
    · have hb' : b < s.heap.objs.size := by
        have e' : b = e ∨ b = it := by simpa using hb
        rcases e' with z | z
        · rw [z]; exact hel
        · rw [z]; exact hil
      rw [upd_ne (Nat.ne_of_lt hb')]
      exact (hf b hb).1
  done := by
    intro X hP hw hK hc i pins s σ H E I hf st hg
    subst hP hw hK
    obtain ⟨⟨old, he⟩, hit⟩ := st
    obtain ⟨xs, hq, hx⟩ := hg
    subst hx
    obtain ⟨P1, St1, D1, a1, b1, c1⟩ := src_draws (A := X.A.in1) (I.ok.hd hc) I hq r d
    obtain ⟨f0, f1, f2, f3, f4, f5⟩ := hf it (by simp)
    exact wpAny_pyNext_enum_endD D1 he (a1 _ hit) fun h' eb => ⟨rfl, I.turned (t' := s.toks) (fun b o hb q => eb b o hb q) f0 f1 f3 f4 f5⟩
  self := fun A i s Q E st h => let ⟨⟨_, he⟩, _⟩ := st; wpAny_pyIter_enum he h
def iEnumS (K : PySem.W.Frag) (ta : TA) : TI := fun σ H R => ta σ H fun vs H1 => ∃ k v xs, vs = [v] ∧ SrcV K H1 k v xs ∧ R (IteS K k v) H1
theorem pi_enumS {X : Cx} {e : Expr} {ta : TA} {p pos tpos : Pos} {elts : List Expr} {kk : Nat} (hg : Gl X "enumerate") (hm : X.mg "enumerate" = none) (ha : PA X [e] ta) (hs : starEach [e] X.env = [(false, eval e X.env)] := by rfl) :
    PI X (.Tuple elts kk tpos) (.Call (.Name "enumerate" p) [e] [] pos) (iEnumS X.K ta) := by
  refine ⟨fun pins s σ H R I h => ?_⟩
  refine Call_ (ld_blt I hg hm boot_enumerate (PyProof.Rows.callWith_type1 (thn (ha.run pos pins s σ H _ I h) fun us s1 ⟨vs, H1, I1, r1, q1⟩ => ?_) hs rfl))
  obtain ⟨k, v, xs, ex, hq, q⟩ := q1
  subst ex
  obtain ⟨u, rfl, ru⟩ := vals1 r1
  obtain ⟨o1, H1h, B1, b1, i1, l1⟩ := src_begins I1 hq ru
  refine enum1_begins B1 b1 fun h' he hit hsz hk => wpAny_pyIter_enum he ?_
  have I2 : Inv X pins σ H1 { s1 with heap := h' } := I1.kept (t' := s1.toks) hk
  refine ⟨s1.heap.objs.size + 1, [s1.heap.objs.size + 1, s1.heap.objs.size], _, _, H1, rfl, I2, turn_enumS ru (Nat.succ_ne_self _) (fun hm => absurd (l1 _ hm) (Nat.not_lt.mpr (Nat.le_succ _))) (fun hm => absurd (l1 _ hm) (Nat.lt_irrefl _)), ⟨⟨.none, he⟩, i1 _ _ hit⟩, fun b hb => ?_, q⟩
  have e' : b = s1.heap.objs.size + 1 ∨ b = s1.heap.objs.size := by simpa using hb
  have hle : s1.heap.objs.size ≤ b := by
    rcases e' with z | z
    · rw [z]; exact Nat.le_add_right _ _
    · rw [z]; exact Nat.le_refl _
  exact I1.fpOk hle (I1.hok.fresh hle)
theorem walk_enumS {K : PySem.W.Frag} {k : SK} {v : V} {xs : List V} :
    Walk (IteS K k v) xs.length (fun H => SrcV K H k v xs) (YPair (fun i => some (.int (i : Nat))) (fun i => xs[i]?)) := by
  refine ⟨fun i _ hi q => ⟨xs, xs[i], q, by simp [hi]⟩, fun _ q => ⟨xs, q, rfl⟩, fun i H v H' _ q y => ?_⟩
  obtain ⟨T, x, h1, h2, h3, h4⟩ := y
  exact ⟨T, .int (i : Nat), x, h1, h2, h3, rfl, h4 xs q⟩
end TB

set_option maxHeartbeats 4000000
namespace TB
open PySem PySem.Spec PyProof.Rows L2
/-! ### promises -/
/-- the value v comes back, nothing that was tracked has changed -/
def Ret (v : V) (H : Hp) (Q : VK) : Prop := ∀ H', Same H H' → Q v H'
theorem Ret.of {v : V} {H H' : Hp} {Q : VK} (k : Ret v H Q) (s : Same H H') : Q v H' := k H' s
/-! ### classes -/
/-- the class called x makes instances by a def that keeps sp -/
structure Mak (P : Program) (w : World) (K : PySem.W.Frag) (mg : Str → Option Value) (base : Heap) (k : Nat) (x : Str) (ps : List Str) (sp : Sp) : Prop where
  ex : ∃ (f : Addr) (fd : FuncData), FnOk P w K mg base (L2.CX P w) k f fd ps sp ∧ Mk K (He.ga K x) f ∧ mg x = some (.ref (He.ga K x)) ∧ Binds K fd ps []
section
variable {X : Cx} {k j : Nat} {x : Str} {ps : List Str} {sp : Sp} {p pos : Pos} {e : Expr} {es : List Expr} {t : TA} {E : XK} {W : WX}
theorem pe_mak (c : Mak X.prog X.w X.K X.mg X.base k x ps sp) (hr : Room j X.A) (hk : k + 1 ≤ j) (hg : Gl X x) (ha : PA X (e :: es) t)
    (hdb : (x == ("__debug__" : Str)) = false := by decide) (he : starEach (e :: es) X.env = (false, eval e X.env) :: starEach es X.env := by rfl) (hpl : (backTo pos (starEach es X.env)).any (·.1) = false := by rfl) :
    PE X (.Call (.Name x p) (e :: es) [] pos) (tMake (He.ga X.K x) sp [] E0 t) := by
  obtain ⟨f, fd, F, M, hm, hb⟩ := c.ex
  exact pe_make M F (hr.mono hk) hg hm hb .nil passL ha hdb he hpl
theorem pe_makX (c : Mak X.prog X.w X.K X.mg X.base k x ps sp) (hr : Room j X.A) (hk : k + 1 ≤ j) (hg : Gl X x) (tk : Takes X W) (hW : ∀ cls d σ H, E cls d H → W cls d σ H) (ha : PA X (e :: es) t)
    (hdb : (x == ("__debug__" : Str)) = false := by decide) (he : starEach (e :: es) X.env = (false, eval e X.env) :: starEach es X.env := by rfl) (hpl : (backTo pos (starEach es X.env)).any (·.1) = false := by rfl) :
    PE X (.Call (.Name x p) (e :: es) [] pos) (tMake (He.ga X.K x) sp [] E t) := by
  obtain ⟨f, fd, F, M, hm, hb⟩ := c.ex
  exact pe_make M F (hr.mono hk) hg hm hb .nil (passes_call tk hW) ha hdb he hpl
/-- .. at the slots as they stand (within a try) -/
def tMakeS (C : Addr) (sp : Sp) (E : L2.St → XK) (t : TA) : TE := fun σ H Q => t σ H fun vs H1 => ∀ x dx, H1 x = none → H1 dx = none → dx ≠ x →
  sp (.ref x :: vs) (upd (upd H1 dx (.own x)) x (.ins C dx [])) (fun v H2 => v = .non ∧ Q (.ref x) H2) (E σ)
theorem pe_makS (C : Addr) (c : Mak X.prog X.w X.K X.mg X.base k x ps sp) (hr : Room j X.A) (hk : k + 1 ≤ j) (hC : He.ga X.K x = C) (hg : Gl X x) (tk : Takes X W) (ha : PA X (e :: es) t)
    (hdb : (x == ("__debug__" : Str)) = false := by decide) (he : starEach (e :: es) X.env = (false, eval e X.env) :: starEach es X.env := by rfl) (hpl : (backTo pos (starEach es X.env)).any (·.1) = false := by rfl) :
    PE X (.Call (.Name x p) (e :: es) [] pos) (tMakeS C sp (WE W) t) := by
  subst hC
  obtain ⟨f, fd, F, M, hm, hb⟩ := c.ex
  refine ⟨fun pins s σ H Q I h => ?_⟩
  refine wpAny_Call_Name_kw (ld_glob I hg hm ?_ hdb)
  refine PySem.W.callWith_K (h₀ := X.base) I.ok.mod.kin M.kp (thn (ha.run pos pins s σ H _ I h) fun us s1 ⟨vs, H1, I1, r, q⟩ => ⟨I1.kIn, ?_⟩) he hpl
  have hq := q (s1.heap.objs.size + 1) s1.heap.objs.size (I1.hok.fresh (Nat.le_succ _)) (I1.hok.fresh (Nat.le_refl _)) (Nat.ne_of_lt (Nat.lt_succ_self _))
  have I2 := Inv.made (C := He.ga X.K x) I1
  have r2 : Vals (V.ref (s1.heap.objs.size + 1) :: vs) (Value.ref (s1.heap.objs.size + 1) :: us) := .cons rfl r
  have hl : (Value.ref (s1.heap.objs.size + 1) :: us).length = ps.length := by
    have e := r2.length
    rw [F.len _ _ _ _ hq] at e
    exact e.symm
  have b := hb _ (Value.ref (s1.heap.objs.size + 1) :: us) I2.kIn (by rw [List.append_nil]; exact hl)
  rw [List.append_nil] at b
  refine wpAny_call (make_map (f := f) I1.kIn M.makes M.init (beq_iff_eq.mp M.fn) (codeAny_mono (F.run _ X.stack _ _ ⟨Value.ref (s1.heap.objs.size + 1) :: us, []⟩ (Value.ref (s1.heap.objs.size + 1) :: us) _ _ (WE W σ) ((hr.mono hk).make (He.ga X.K x) us [])
    (I2.env0.make (He.ga X.K x) us []) b r2 hq) fun r s' hq' => ?_))
  cases r with
  | error e => exact passAt tk σ pins _ _ e s' I2 hq'
  | ok fl =>
    cases fl with
    | ret u =>
      obtain ⟨v, H', I3, rv, ev, q3⟩ := I2.after hq'
      subst ev
      exact ⟨rv, ⟨V.ref (s1.heap.objs.size + 1), H', I3, rfl, q3⟩⟩
    | next => exact False.elim hq'
    | brk => exact False.elim hq'
    | cont => exact False.elim hq'
end
/-! ### exceptions with one field -/
def spExc (C : Addr) (f : Str) : Sp := fun vs H Q _ => ∃ a y, vs = [.ref a, y] ∧ H a = some (exo a C none) ∧ ∀ dx, H dx = none → dx ≠ a → Q .non (upd (upd H dx (exd dx [(f, y)])) a (exo a C (some dx)))
structure Exc (P : Program) (w : World) (K : PySem.W.Frag) (mg : Str → Option Value) (base : Heap) (x f : Str) (ps : List Str) : Prop where
  at_ : OexAt K (He.ga K x) f
  g : mg x = some (.ref (He.ga K x))
  ex : ∃ fd, FnOk P w K mg base (L2.CX P w) 1 (He.ma K (He.ga K x) "__init__") fd ps (spExc (He.ga K x) f) ∧ Binds K fd ps []
section
variable {X : Cx} {j : Nat} {x f : Str} {ps : List Str} {p pos : Pos} {e : Expr} {ta : TA}
theorem upd_fold {H : Hp} {a d : Addr} {o1 o2 o3 u : HO} (ha : H a = none) (hd : H d = none) (hne : d ≠ a) : upd (del (upd (upd (upd H a o1) d o2) a o3) a) d u = upd H d u := by
  funext b
  by_cases hb : b = d
  · subst hb; rw [upd_same, upd_same]
  · rw [upd_ne hb, upd_ne hb]
    by_cases ha' : b = a
    · subst ha'; rw [del_same, ha]
    · rw [del_ne ha', upd_ne ha', upd_ne hb, upd_ne ha']
theorem pmk_exc1 (T : Exc X.prog X.w X.K X.mg X.base x f ps) (hr : Room j X.A) (hj : 2 ≤ j) (hg : Gl X x) (ha : PA X [e] ta)
    (hdb : (x == ("__debug__" : Str)) = false := by decide) (he : starEach (e :: []) X.env = (false, eval e X.env) :: starEach [] X.env := by rfl) (hpl : (backTo pos (starEach [] X.env)).any (·.1) = false := by rfl) :
    PMk X (.Call (.Name x p) [e] [] pos) (tMkO (He.ga X.K x) (spExc (He.ga X.K x) f) [] ta) := by
  obtain ⟨fd, F, hb⟩ := T.ex
  exact pmk_oex T.at_.o T.at_.iC T.at_.tI F (hr.mono hj) hb .nil passL hg T.g ha hdb he hpl
/-- a new exception with one field is at hand -/
def rMk (C : Addr) (f : Str) (vs : List V) (H1 : Hp) (Q : XK) : Prop := vs.length ≤ 1000 ∧ ∀ a, H1 a = none → spExc C f (.ref a :: (vs ++ [])) (upd H1 a (exo a C none))
    (fun v H2 => v = .non ∧ ∃ (d : Addr) (fs : List (Str × V)), H2 a = some (exo a C (some d)) ∧ H2 d = some (exd d fs) ∧ H1 d = none ∧ Q (.ref C) (some d) (upd (del H2 a) d (.xd fs))) (fun _ _ _ => False)
theorem w_mkO {C : Addr} {f : Str} {σ : L2.St} {H : Hp} {Q : XK} {ts : TA} (h : ts σ H fun vs H1 => rMk C f vs H1 Q) : tMkO C (spExc C f) [] ts σ H Q := h
theorem w_exc1 {C : Addr} {f : Str} {H1 : Hp} {y : V} {Q : XK} (h : ∀ d, H1 d = none → Q (.ref C) (some d) (upd H1 d (.xd [(f, y)]))) : rMk C f [y] H1 Q := by
  refine ⟨by show 1 ≤ 1000; decide, fun a ha => ⟨a, y, rfl, upd_same, fun dx hd hne => ?_⟩⟩
  have hd' : H1 dx = none := by rw [upd_ne hne] at hd; exact hd
  refine ⟨rfl, dx, [(f, y)], upd_same, by rw [upd_ne hne, upd_same], hd', ?_⟩
  rw [upd_fold ha hd' hne]
  exact h dx hd'
end
theorem w_ost {K : PySem.W.Frag} {f : Str} {C a : Addr} {y : V} {H : Hp} {D : Ends} {σ : L2.St} (T : OexC K C) (hn : PySem.W.findIn K (.ref C) f = some none) (ha : H a = some (exo a C none)) (h : ∀ dx, H dx = none → dx ≠ a → D.nx σ (upd (upd H dx (exd dx [(f, y)])) a (exo a C (some dx)))) :
    ∃ a' C' : Addr, V.ref a = .ref a' ∧ OexC K C' ∧ PySem.W.findIn K (.ref C') f = some none ∧
  ((H a' = some (exo a' C' none) ∧ ∀ dx, H dx = none → dx ≠ a' → D.nx σ (upd (upd H dx (exd dx [(f, y)])) a' (exo a' C' (some dx)))) ∨
    ∃ (dx : Addr) (fs : List (Str × V)), H a' = some (exo a' C' (some dx)) ∧ H dx = some (exd dx fs) ∧ fs.length ≤ 900 ∧ D.nx σ (upd H dx (exd dx ((f, y) :: fs)))) := ⟨a, C, rfl, T, hn, .inl ⟨ha, h⟩⟩
/-! ### names -/
theorem pe_gint {X : Cx} {x : Str} {i : Int} {pos : Pos} (hg : Gl X x) (h : ∃ t, X.mg x = some (.int i t)) (hd : (x == ("__debug__" : Str)) = false := by decide) : PE X (.Name x pos) (tC (.int i)) := by
  obtain ⟨t, h⟩ := h
  exact pe_glob hg h ⟨t, rfl⟩ hd
theorem pe_gstr {X : Cx} {x z : Str} {pos : Pos} (hg : Gl X x) (h : ∃ t, X.mg x = some (.str z t)) (hd : (x == ("__debug__" : Str)) = false := by decide) : PE X (.Name x pos) (tC (.str z)) := by
  obtain ⟨t, h⟩ := h
  exact pe_glob hg h ⟨t, rfl⟩ hd
theorem pe_gref {X : Cx} {x : Str} {a : Addr} {pos : Pos} (hg : Gl X x) (h : X.mg x = some (.ref a)) (hd : (x == ("__debug__" : Str)) = false := by decide) : PE X (.Name x pos) (tC (.ref a)) := pe_glob hg h rfl hd
theorem pe_bty {X : Cx} {x : Str} {T : String} {pos : Pos} (hg : Gl X x) (hm : X.mg x = none) (hv : bootBuiltins x = some (.type T)) (hn : x ≠ "__name__" := by decide) (hd : (x == ("__debug__" : Str)) = false := by decide) : PE X (.Name x pos) (tC (.ty T)) := pe_bltn hg hm hv rfl hn hd
/-! ### types -/
theorem ty_tup {K : PySem.W.Frag} {H : Hp} {a : Addr} {xs : List V} (h : SqT K H a xs) : TyX K H (.ref a) (.type "tuple") := by
  rcases h with (h | ⟨o, h⟩) | ⟨o, its, n, h, c, _⟩
  · exact .base (.tup h)
  · exact .fTuple h
  · exact .kTuple h c
theorem ty_lst {K : PySem.W.Frag} {H : Hp} {a : Addr} {xs : List V} (h : SqL K H a xs) : TyX K H (.ref a) (.type "list") := by
  rcases h with (h | ⟨o, h⟩) | ⟨o, its, n, h, c, _⟩
  · exact .base (.lst h)
  · exact .base (.frz h)
  · exact .kList h c
/-- the type of a flat value -/
def tyF : V → String
  | .non => "NoneType"
  | .bl _ => "bool"
  | .int _ => "int"
  | .str _ => "str"
  | _ => "object"
theorem ty_flat {K : PySem.W.Frag} {H : Hp} {x : V} (h : flatV x = true) : TyX K H x (.type (tyF x)) := by
  cases x <;> first | cases h | skip
  · exact .base .non
  · exact .base (.bl _)
  · exact .base (.int _)
  · exact .base (.str _)
/-- isinstance of a flat value and a built-in class -/
def isB : V → String → Bool
  | .bl _, T => T == "bool" || T == "int"
  | .int _, T => T == "int"
  | .str _, T => T == "str"
  | _, _ => false
theorem kit_flat {K : PySem.W.Frag} {x : V} {T : String} (h : flatV x = true) (hT : T = "int" ∨ T = "bool" ∨ T = "str" ∨ T = "tuple" ∨ T = "list") : PySem.W.kitOne K (.type (tyF x)) (.type T) = some (isB x T) := by
  cases x <;> first | cases h | skip
  all_goals rcases hT with rfl | rfl | rfl | rfl | rfl <;> exact kit_ty (by kernel_rfl)
theorem w_isiF {K : PySem.W.Frag} {H : Hp} {Q : VK} {x : V} {T : String} (h : flatV x = true) (hT : T = "int" ∨ T = "bool" ∨ T = "str" ∨ T = "tuple" ∨ T = "list") (q : Q (.bl (isB x T)) H) : rIsi K [x, .ty T] H Q := ⟨x, .ty T, _, _, _, rfl, .ty T, ty_flat h, kit_flat h hT, q⟩
theorem w_isiT {K : PySem.W.Frag} {H : Hp} {Q : VK} {a : Addr} {xs : List V} {T : String} {b : Bool} (h : SqT K H a xs) (hT : PySem.W.kitOne K (.type "tuple") (.type T) = some b) (q : Q (.bl b) H) : rIsi K [.ref a, .ty T] H Q := ⟨_, .ty T, _, _, _, rfl, .ty T, ty_tup h, hT, q⟩
theorem w_isiL {K : PySem.W.Frag} {H : Hp} {Q : VK} {a : Addr} {xs : List V} {T : String} {b : Bool} (h : SqL K H a xs) (hT : PySem.W.kitOne K (.type "list") (.type T) = some b) (q : Q (.bl b) H) : rIsi K [.ref a, .ty T] H Q := ⟨_, .ty T, _, _, _, rfl, .ty T, ty_lst h, hT, q⟩
theorem Same.tup {K : PySem.W.Frag} {H H' : Hp} {a : Addr} {xs : List V} (e : Same H H') (h : SqT K H a xs) : SqT K H' a xs := by
  rcases h with (h | ⟨o, h⟩) | h
  · exact .inl (.inl (e _ _ h))
  · exact .inl (.inr ⟨o, e _ _ h⟩)
  · exact .inr h
end TB

set_option maxHeartbeats 4000000
namespace TB
open PySem PySem.Spec PyProof.Rows L2
/-! ### more steps -/
theorem atI_nat {α : Type} {xs : List α} {i : Nat} (h : i < xs.length) : atI xs (i : Int) = some xs[i] := by
  unfold atI ixN
  rw [if_pos (Int.natCast_nonneg i)]
  simp [h]
theorem atI_0 {α : Type} {x : α} {xs : List α} : atI (x :: xs) 0 = some x := atI_nat (i := 0) (xs := x :: xs) (Nat.succ_pos _)
theorem atI_1 {α : Type} {x y : α} {xs : List α} : atI (x :: y :: xs) 1 = some y := atI_nat (i := 1) (xs := x :: y :: xs) (by simp)
theorem atI_2 {α : Type} {x y z : α} {xs : List α} : atI (x :: y :: z :: xs) 2 = some z := atI_nat (i := 2) (xs := x :: y :: z :: xs) (by simp)
section
variable {K : PySem.W.Frag} {σ : L2.St} {H H1 H2 : Hp} {Q : VK} {ta tb te : TE} {ts : TA} {A : Prop} {a p : Addr} {o : HO} {x v u : V} {xs : List V}
theorem w_szn {n : Nat} {P : Addr → Prop} (hn : n ≤ sizeLine) (h : ∀ p, H p = none → P p) : n ≤ sizeLine ∧ ∀ p, H p = none → P p := ⟨hn, h⟩
theorem Same.get (s : Same H H2) (h : H a = some o) : H2 a = some o := s _ _ h
theorem w_NT {B : Prop} (h : B) : if (!true) = true then A else B := by rw [if_neg (by decide)]; exact h
theorem w_NF {B : Prop} (h : A) : if (!false) = true then A else B := by rw [if_pos (by decide)]; exact h
theorem Same.lst (e : Same H H2) (h : SqL K H a xs) : SqL K H2 a xs := by
  rcases h with (h | ⟨o, h⟩) | h
  · exact .inl (.inl (e _ _ h))
  · exact .inl (.inr ⟨o, e _ _ h⟩)
  · exact .inr h
theorem w_rfl {α : Sort _} {a : α} (h : A) : a = a ∧ A := ⟨rfl, h⟩
theorem tupAt (h : H a = some (.tup xs)) : SqT K H a xs := .inl (.inl h)
theorem lstAt (h : H a = some (.lst xs)) : SqL K H a xs := .inl (.inl h)
theorem w_inT (h : SqT K H p xs) (fx : flatV x = true) (fs : xs.all flatV = true) (q : Q (.bl (inV x xs)) H) : rIn K false x (.ref p) H Q := ⟨p, xs, rfl, .inr h, fx, fs, q⟩
theorem w_notInT (h : SqT K H p xs) (fx : flatV x = true) (fs : xs.all flatV = true) (q : Q (.bl (!inV x xs)) H) : rIn K true x (.ref p) H Q := ⟨p, xs, rfl, .inr h, fx, fs, q⟩
theorem w_inL (h : SqL K H p xs) (fx : flatV x = true) (fs : xs.all flatV = true) (q : Q (.bl (inV x xs)) H) : rIn K false x (.ref p) H Q := ⟨p, xs, rfl, .inl h, fx, fs, q⟩
theorem w_notInL (h : SqL K H p xs) (fx : flatV x = true) (fs : xs.all flatV = true) (q : Q (.bl (!inV x xs)) H) : rIn K true x (.ref p) H Q := ⟨p, xs, rfl, .inl h, fx, fs, q⟩
theorem Ret.eq (k : Ret v H Q) (s : Same H H2) (e : u = v) : Q u H2 := e ▸ k H2 s
theorem w_isN {R : VK} (q : R (.bl (decide (x = .non))) H) : (fun x y H (Q : VK) => y = V.non ∧ Q (V.bl (decide (x = V.non))) H) x .non H R := ⟨rfl, q⟩
end
end TB

set_option maxHeartbeats 4000000
namespace TB
open PySem PySem.Spec PyProof.Rows L2
/-! ### more steps -/
def rZip (K : PySem.W.Frag) (k1 k2 : SK) (vs : List V) (H : Hp) (R : It → Hp → Prop) : Prop := ∃ v1 v2 xs ys, vs = [v1, v2] ∧ SrcV K H k1 v1 xs ∧ SrcV K H k2 v2 ys ∧ R (ItzS K k1 k2 v1 v2) H
def rEnum (K : PySem.W.Frag) (vs : List V) (H : Hp) (R : It → Hp → Prop) : Prop := ∃ k v xs, vs = [v] ∧ SrcV K H k v xs ∧ R (IteS K k v) H
def rIL (K : PySem.W.Frag) (x : V) (H : Hp) (R : It → Hp → Prop) : Prop := ∃ a, x = .ref a ∧ (∃ xs, SqL K H a xs) ∧ R (Itl K a) H
def rIT (K : PySem.W.Frag) (x : V) (H : Hp) (R : It → Hp → Prop) : Prop := ∃ a, x = .ref a ∧ (∃ xs, SqT K H a xs) ∧ R (Itt K a) H
def rR1 (vs : List V) (H : Hp) (R : It → Hp → Prop) : Prop := ∃ j : Int, vs = [.int j] ∧ -(2 ^ 62) ≤ j ∧ j < 2 ^ 62 ∧ R (Itr 0 j.toNat) H
def rR2 (vs : List V) (H : Hp) (R : It → Hp → Prop) : Prop := ∃ i j : Int, vs = [.int i, .int j] ∧ (-(2 ^ 62) ≤ i ∧ i < 2 ^ 62 ∧ -(2 ^ 62) ≤ j ∧ j < 2 ^ 62) ∧ R (Itr i (j - i).toNat) H
def rLc (D0 : Hp) (J : It) (g : TG) (tt : TT) (te : TE) (vs : List Nat) (σ : L2.St) (Q : VK) : Prop := ∀ D, D0 D = none → ∃ W : Nat → Nat → Hp → Prop, (∃ m, W 0 m (upd D0 D (.lst []))) ∧ ∀ i m H, W i m H →
  (J.stop i H ∧ Q (.ref D) H) ∨ (J.go i H ∧ ∃ Nx : Hp → Prop, (∀ H', Nx H' → ∃ m', m' < m ∧ W (i + 1) m' H') ∧ ∀ x H', J.yld i H x H' → g x (wipe σ vs) H' fun σ2 H2 => wipe σ2 vs = wipe σ vs ∧ tt σ2 H2 fun b H3 =>
    if b = true then te σ2 H3 fun y H4 => ∃ acc, H4 D = some (.lst acc) ∧ acc.length < sizeLine ∧ Nx (upd H4 D (.lst (acc ++ [y]))) else Nx H3)
def rFor (H1 : Hp) (J : It) (g : TG) (tb : TS) (D : Ends) (σ : L2.St) : Prop := ∃ W : Nat → Nat → L2.St → Hp → Prop, (∃ m, W 0 m σ H1) ∧ ∀ i m σ H, W i m σ H →
  (J.stop i H ∧ D.nx σ H) ∨ (J.go i H ∧ ∃ N : L2.St → Hp → Prop, (∀ σ' H', N σ' H' → ∃ m', m' < m ∧ W (i + 1) m' σ' H') ∧ ∀ x H', J.yld i H x H' → g x σ H' fun σ2 H2 => tb { D with nx := N, ct := N, bk := D.nx } σ2 H2)
/-- raise -/
def tRs (W : WX) (t : L2.St → Hp → XK → Prop) : TS := fun _ σ H => t σ H fun cls d H' => W cls d σ H'
theorem ps_rs {X : Cx} {W : WX} {e : Expr} {t : L2.St → Hp → XK → Prop} {pos : Pos} (hc : X.calm = true) (tk : Takes X W) (he : PMk X e t) : PS X (.Raise (some e) none pos) (tRs W t) := ps_raise hc tk he
theorem w_rs {W : WX} {t : L2.St → Hp → XK → Prop} {D : Ends} {σ : L2.St} {H : Hp} (h : t σ H fun cls d H' => W cls d σ H') : tRs W t D σ H := h
/-- making -/
def rMake (C : Addr) (sp : Sp) (E : XK) (vs : List V) (H1 : Hp) (Q : VK) : Prop := ∀ x dx, H1 x = none → H1 dx = none → dx ≠ x → sp (.ref x :: vs) (upd (upd H1 dx (.own x)) x (.ins C dx [])) (fun v H2 => v = .non ∧ Q (.ref x) H2) E
theorem w_make {C : Addr} {sp : Sp} {E : XK} {ts : TA} {σ : L2.St} {H : Hp} {Q : VK} (h : ts σ H fun vs H1 => rMake C sp E vs H1 Q) : tMake C sp [] E ts σ H Q := by
  have e : (fun (vs : List V) H1 => rMake C sp E vs H1 Q) = fun vs H1 => ∀ x dx, H1 x = none → H1 dx = none → dx ≠ x → sp (.ref x :: (vs ++ [])) (upd (upd H1 dx (.own x)) x (.ins C dx [])) (fun v H2 => v = .non ∧ Q (.ref x) H2) E := by
    funext vs H1; rw [List.append_nil] <;> rfl
  rw [e] at h
  exact h
theorem w_makeS {C : Addr} {sp : Sp} {E : L2.St → XK} {ts : TA} {σ : L2.St} {H : Hp} {Q : VK} (h : ts σ H fun vs H1 => rMake C sp (E σ) vs H1 Q) : tMakeS C sp E ts σ H Q := h
/-- fields -/
def rFld (K : PySem.W.Frag) (f : Str) (x : V) (H1 : Hp) (Q : VK) : Prop := ∃ a C dx fs v, x = .ref a ∧ H1 a = some (.ins C dx fs) ∧ Cls K C ∧ NoAttr K C f ∧ fs.lookup f = some v ∧ Q v H1
theorem w_fldG {K : PySem.W.Frag} {f : Str} {ta : TE} {σ : L2.St} {H : Hp} {Q : VK} (h : ta σ H fun x H1 => rFld K f x H1 Q) : tFld K ta f σ H Q := h
theorem w_fld {K : PySem.W.Frag} {f : Str} {a C dx : Addr} {fs : List (Str × V)} {v : V} {H : Hp} {Q : VK} (h : H a = some (.ins C dx fs)) (c : Cls K C) (n : NoAttr K C f) (l : fs.lookup f = some v) (q : Q v H) : rFld K f (.ref a) H Q := ⟨a, C, dx, fs, v, rfl, h, c, n, l, q⟩
def rSetF (K : PySem.W.Frag) (f : Str) (x y : V) (H2 : Hp) (σ : L2.St) (Q : L2.St → Hp → Prop) : Prop := ∃ a C dx fs, x = .ref a ∧ H2 a = some (.ins C dx fs) ∧ Cls K C ∧ NoAttr K C f ∧ fs.length < 1000 ∧ Q σ (upd H2 a (.ins C dx (putF f y fs)))
theorem w_setF {K : PySem.W.Frag} {f : Str} {ta tv : TE} {D : Ends} {σ : L2.St} {H : Hp} (h : tv σ H fun y H1 => ta σ H1 fun x H2 => rSetF K f x y H2 σ D.nx) : sFld K ta tv f D σ H := h
theorem w_put1 {K : PySem.W.Frag} {f : Str} {a C dx : Addr} {fs : List (Str × V)} {y : V} {H : Hp} {σ : L2.St} {Q : L2.St → Hp → Prop} (h : H a = some (.ins C dx fs)) (c : Cls K C) (n : NoAttr K C f) (l : fs.length < 1000) (q : Q σ (upd H a (.ins C dx (putF f y fs)))) : rSetF K f (.ref a) y H σ Q := ⟨a, C, dx, fs, rfl, h, c, n, l, q⟩
/-- tuple(x), list(x) -/
def Sq (K : PySem.W.Frag) (H : Hp) (a : Addr) (xs : List V) : Prop := SqL K H a xs ∨ SqT K H a xs
def rTupOf (K : PySem.W.Frag) : List V → Hp → VK → Prop := fun xs H Q => ∃ p ys, xs = [.ref p] ∧ ((SqL K H p ys ∧ ∀ l, H l = none → Q (.ref l) (upd H l (.tup ys))) ∨ (SqT K H p ys ∧ Q (.ref p) H))
theorem call_tupOf {X : Cx} : CallR X (.type "tuple") (rTupOf X.K) := call_tuple_of
theorem w_tupOfL {K : PySem.W.Frag} {H : Hp} {Q : VK} {a : Addr} {xs : List V} (h : SqL K H a xs) (q : ∀ l, H l = none → Q (.ref l) (upd H l (.tup xs))) : rTupOf K [.ref a] H Q := ⟨a, xs, rfl, .inl ⟨h, q⟩⟩
theorem w_tupOfT {K : PySem.W.Frag} {H : Hp} {Q : VK} {a : Addr} {xs : List V} (h : SqT K H a xs) (q : Q (.ref a) H) : rTupOf K [.ref a] H Q := ⟨a, xs, rfl, .inr ⟨h, q⟩⟩
theorem call_lenR {X : Cx} : CallR X (.builtin "len") (L2.rLen X.K) := call_len
def rTru (K : PySem.W.Frag) (x : V) (H : Hp) (Q : Bool → Hp → Prop) : Prop := ∃ k, TruV K x H k ∧ Q k H
def tTru (K : PySem.W.Frag) (ta : TE) : TT := fun σ H Q => ta σ H fun x H' => rTru K x H' Q
theorem pt_tru {X : Cx} {a : Expr} {ta : TE} (ha : PE X a ta) (he : ∀ whole, isTrue a X.env whole = (do let v ← whole; standAt a.pos; holding [v] (truthy v))) : PT X a (tTru X.K ta) := pt_truth ha he
section
variable {K : PySem.W.Frag} {σ : L2.St} {H H1 H2 : Hp} {Q : VK} {ta tb te : TE} {ts : TA} {A : Prop} {a p : Addr} {o : HO} {x v u : V} {xs : List V}
theorem w_lenT (h : SqT K H a xs) (q : Q (.int (xs.length : Int)) H) : L2.rLen K [.ref a] H Q := ⟨_, xs.length, rfl, .inr ⟨xs, h, rfl⟩, q⟩
theorem w_lenL (h : SqL K H a xs) (q : Q (.int (xs.length : Int)) H) : L2.rLen K [.ref a] H Q := ⟨_, xs.length, rfl, .inl ⟨xs, h, rfl⟩, q⟩
theorem w_lenS {z : Str} (h : z.length ≤ sizeLine) (q : Q (.int (z.length : Int)) H) : L2.rLen K [.str z] H Q := ⟨_, z.length, rfl, ⟨h, rfl⟩, q⟩
theorem w_ixT {i : Int} (h : SqT K H a xs) (e : atI xs i = some v) (q : Q v H) : rIxT K (.ref a) (.int i) H Q := ⟨a, xs, i, v, rfl, rfl, h, e, q⟩
theorem w_ixL {i : Int} (h : SqL K H a xs) (e : atI xs i = some v) (q : Q v H) : rIxL K (.ref a) (.int i) H Q := ⟨a, xs, i, v, rfl, rfl, h, e, q⟩
theorem w_ixTab {w : World} {kvs : List (Str × Str)} {z y : Str} (T : Table K w a kvs) (e : kvs.lookup z = some y) (q : Q (.str y) H) : rIxD K w (.ref a) (.str z) H Q := ⟨a, z, .str y, rfl, rfl, T.yes z y e, q⟩
theorem w_inTab {kvs : List (Str × Str)} {z : Str} (q : Q (.bl (kvs.lookup z).isSome) H) : rTab K a kvs false (.str z) (.ref a) H Q := ⟨z, rfl, rfl, q⟩
theorem w_notInTab {kvs : List (Str × Str)} {z : Str} (q : Q (.bl (!(kvs.lookup z).isSome)) H) : rTab K a kvs true (.str z) (.ref a) H Q := ⟨z, rfl, rfl, q⟩
theorem w_trT {Q : Bool → Hp → Prop} (h : SqT K H a xs) (q : Q (!xs.isEmpty) H) : rTru K (.ref a) H Q := ⟨_, .inr (.inl ⟨xs, h, rfl⟩), q⟩
theorem w_trL {Q : Bool → Hp → Prop} (h : SqL K H a xs) (q : Q (!xs.isEmpty) H) : rTru K (.ref a) H Q := ⟨_, .inl ⟨xs, h, rfl⟩, q⟩
theorem w_tru {Q : Bool → Hp → Prop} (h : te σ H fun x H' => rTru K x H' Q) : tTru K te σ H Q := h
theorem w_trTc {Q : Bool → Hp → Prop} {y : V} (h : SqT K H a (y :: xs)) (q : Q true H) : rTru K (.ref a) H Q := ⟨_, .inr (.inl ⟨_, h, rfl⟩), q⟩
theorem w_trTn {Q : Bool → Hp → Prop} (h : SqT K H a []) (q : Q false H) : rTru K (.ref a) H Q := ⟨_, .inr (.inl ⟨_, h, rfl⟩), q⟩
theorem w_trLc {Q : Bool → Hp → Prop} {y : V} (h : SqL K H a (y :: xs)) (q : Q true H) : rTru K (.ref a) H Q := ⟨_, .inl ⟨_, h, rfl⟩, q⟩
theorem w_trLn {Q : Bool → Hp → Prop} (h : SqL K H a []) (q : Q false H) : rTru K (.ref a) H Q := ⟨_, .inl ⟨_, h, rfl⟩, q⟩
theorem cut_tail {y : V} : cutV (y :: xs) (some 1) none = xs := by
  unfold cutV
  have e1 : HT.sIx (y :: xs).length 0 (some 1) = 1 := by
    show (if (1 : Int) < 0 then ((1 : Int) + ((y :: xs).length : Int)).toNat else min (1 : Int).toNat (y :: xs).length) = 1
    rw [if_neg (by decide)]
    show min 1 (xs.length + 1) = 1
    omega
  have e2 : HT.sIx (y :: xs).length (y :: xs).length none = xs.length + 1 := rfl
  rw [e1, e2]
  show List.take (xs.length + 1 - 1) xs = xs
  rw [Nat.add_sub_cancel, List.take_length]
/-- value[1:] -/
theorem w_slT1 {y : V} (h : SqT K H a (y :: xs)) (q : ∀ p, H p = none → Q (.ref p) (upd H p (.tup xs))) : rSlT K (.ref a) (some 1) none H Q := by
  refine ⟨a, _, rfl, h, fun e => ?_, fun p hp => by rw [cut_tail]; exact q p hp⟩
  have e1 := e.1
  have e2 : HT.sIx (y :: xs).length 0 (some 1) = 1 := by
    show (if (1 : Int) < 0 then ((1 : Int) + ((y :: xs).length : Int)).toNat else min (1 : Int).toNat (y :: xs).length) = 1
    rw [if_neg (by decide)]
    show min 1 (xs.length + 1) = 1
    omega
  rw [e2] at e1
  cases e1
theorem w_zipS {k1 k2 : SK} {v1 v2 : V} {xs ys : List V} {R : It → Hp → Prop} (h1 : SrcV K H k1 v1 xs) (h2 : SrcV K H k2 v2 ys) (q : R (ItzS K k1 k2 v1 v2) H) : rZip K k1 k2 [v1, v2] H R := ⟨v1, v2, xs, ys, rfl, h1, h2, q⟩
theorem w_enumS {k : SK} {xs : List V} {R : It → Hp → Prop} (h1 : SrcV K H k v xs) (q : R (IteS K k v) H) : rEnum K [v] H R := ⟨k, v, xs, rfl, h1, q⟩
theorem w_gtup {n : Nat} {t : TGs} {R : L2.St → Hp → Prop} (h : SqT K H a xs) (hl : xs.length = n) (q : t xs σ H R) : gTup K n t (.ref a) σ H R := ⟨a, xs, rfl, h, hl, q⟩
theorem w_gtupH {n : Nat} {t : TGs} {R : L2.St → Hp → Prop} (h : H a = some (.tup xs)) (hl : xs.length = n) (q : t xs σ H R) : gTup K n t (.ref a) σ H R := ⟨a, xs, rfl, tupAt h, hl, q⟩
theorem w_wipe {B : Prop} {σ' : L2.St} (h : σ = σ') (b : B) : σ = σ' ∧ B := ⟨h, b⟩
theorem w_gcons {t : TG} {u : TGs} {R : L2.St → Hp → Prop} {r : List V} (q : t v σ H fun σ' H' => u r σ' H' R) : gCons t u (v :: r) σ H R := ⟨v, r, rfl, q⟩
theorem w_gnil {R : L2.St → Hp → Prop} (q : R σ H) : gNil [] σ H R := ⟨rfl, q⟩
theorem w_trI {Q : Bool → Hp → Prop} {i : Int} (q : Q (i != 0) H) : rTru K (.int i) H Q := ⟨_, rfl, q⟩
theorem w_yes {Q : Bool → Hp → Prop} (q : Q true H) : tYes σ H Q := q
theorem w_slice {r : V → Option Int → Option Int → Hp → VK → Prop} {tl th : TO} (h : te σ H fun x H1 => tl σ H1 fun l H2 => th σ H2 fun u H3 => r x l u H3 Q) : L2.tSl r te tl th σ H Q := h
theorem w_nopart {Q : Option Int → Hp → Prop} (q : Q none H) : tNoPart σ H Q := q
theorem w_part {Q : Option Int → Hp → Prop} (h : te σ H fun x H1 => ∃ i, x = .int i ∧ Q (some i) H1) : tPart te σ H Q := h
theorem w_partI {i : Int} {B : Int → Prop} (q : B i) : ∃ j, V.int i = .int j ∧ B j := ⟨i, rfl, q⟩
theorem w_lc {wi : TI} {g : TG} {tt : TT} {vs : List Nat} (h : wi σ H fun J H1 => rLc H1 J g tt te vs σ Q) : tLc wi g tt te vs σ H Q := h
theorem w_for {wi : TI} {g : TG} {tb : TS} {D : Ends} (h : wi σ H fun J H1 => rFor H1 J g tb D σ) : tFor wi g tb D σ H := h
theorem w_iZip {k1 k2 : SK} {R : It → Hp → Prop} (h : ts σ H fun vs H1 => rZip K k1 k2 vs H1 R) : iZipS K k1 k2 ts σ H R := h
theorem w_iEnum {R : It → Hp → Prop} (h : ts σ H fun vs H1 => rEnum K vs H1 R) : iEnumS K ts σ H R := h
theorem w_iList {R : It → Hp → Prop} (h : te σ H fun x H1 => rIL K x H1 R) : iList K te σ H R := h
theorem w_iTup {R : It → Hp → Prop} (h : te σ H fun x H1 => rIT K x H1 R) : iTup K te σ H R := h
theorem w_iLG {R : It → Hp → Prop} (h : SqL K H a xs) (q : R (Itl K a) H) : rIL K (.ref a) H R := ⟨a, rfl, ⟨xs, h⟩, q⟩
theorem w_iTG {R : It → Hp → Prop} (h : SqT K H a xs) (q : R (Itt K a) H) : rIT K (.ref a) H R := ⟨a, rfl, ⟨xs, h⟩, q⟩
theorem w_iR1 {R : It → Hp → Prop} (h : ts σ H fun vs H1 => rR1 vs H1 R) : iRng1 ts σ H R := h
theorem w_iR1G {R : It → Hp → Prop} {i : Int} (h1 : -(2 ^ 62) ≤ i) (h2 : i < 2 ^ 62) (q : R (Itr 0 i.toNat) H) : rR1 [.int i] H R := ⟨i, rfl, h1, h2, q⟩
theorem w_iR2 {R : It → Hp → Prop} (h : ts σ H fun vs H1 => rR2 vs H1 R) : iRng2 ts σ H R := h
theorem w_iR2G {R : It → Hp → Prop} {i j : Int} (h1 : -(2 ^ 62) ≤ i ∧ i < 2 ^ 62 ∧ -(2 ^ 62) ≤ j ∧ j < 2 ^ 62) (q : R (Itr i (j - i).toNat) H) : rR2 [.int i, .int j] H R := ⟨i, j, rfl, h1, q⟩
theorem w_all {bs : List Bool} (h : SqL K H a (bs.map V.bl)) (q : Q (.bl (bs.all id)) H) : rAll K [.ref a] H Q := ⟨a, bs, rfl, h, q⟩
end
/-! ### comprehensions and loops -/
section
variable {J : It} {n : Nat} {G : Hp → Prop} {Y : Nat → Hp → V → Hp → Prop}
theorem w_lcW (w : Walk J n G Y) {g : TG} {tt : TT} {te : TE} {vs : List Nat} {σ : L2.St} {H1 : Hp} {Q : VK} (acc : Nat → List V) (h0 : acc 0 = []) (hG : ∀ H, Same H1 H → G H)
    (hs : ∀ D i x H H', H1 D = none → i < n → Same H1 H → H D = some (.lst (acc i)) → Y i H x H' → g x (wipe σ vs) H' fun σ2 H2 => wipe σ2 vs = wipe σ vs ∧ tt σ2 H2 fun b H3 =>
      if b = true then te σ2 H3 fun y H4 => ∃ a, H4 D = some (.lst a) ∧ a.length < sizeLine ∧ (Same H1 (upd H4 D (.lst (a ++ [y]))) ∧ (upd H4 D (.lst (a ++ [y]))) D = some (.lst (acc (i + 1)))) else Same H1 H3 ∧ H3 D = some (.lst (acc (i + 1))))
    (hd : ∀ D H', H1 D = none → Same H1 H' → H' D = some (.lst (acc n)) → Q (.ref D) H') :
    rLc H1 J g tt te vs σ Q := fun D hD =>
  lc_it w (Qd := fun H => Q (.ref D) H) (fun i H => Same H1 H ∧ H D = some (.lst (acc i))) ⟨Same.new hD, by rw [h0]; exact upd_same⟩ (fun i H _ p => hG H p.1)
    (fun i x H H' hi p y => hs D i x H H' hD hi p.1 p.2 y) fun H p => hd D H hD p.1 p.2
theorem w_put {H1 H H4 : Hp} {D : Addr} {acc : Nat → List V} {i : Nat} {y : V} (hD : H1 D = none) (s : Same H1 H) (hl : H D = some (.lst (acc i))) (s4 : Same H H4) (hb : (acc i).length < sizeLine) (e : acc (i + 1) = acc i ++ [y]) :
    ∃ a, H4 D = some (.lst a) ∧ a.length < sizeLine ∧ (Same H1 (upd H4 D (.lst (a ++ [y]))) ∧ (upd H4 D (.lst (a ++ [y]))) D = some (.lst (acc (i + 1)))) :=
  ⟨acc i, s4 _ _ hl, hb, fun b o h => by rw [upd_ne (ne_of_none h hD)]; exact s4 _ _ (s _ _ h), by rw [e]; exact upd_same⟩
theorem w_forW (w : Walk J n G Y) {g : TG} {tb : TS} {D : Ends} {σ : L2.St} {H : Hp} (Pv : Nat → L2.St → Hp → Prop) (h0 : Pv 0 σ H) (hG : ∀ i σ H, i ≤ n → Pv i σ H → G H)
    (hs : ∀ i x σ H H', i < n → Pv i σ H → Y i H x H' → g x σ H' fun σ2 H2 => tb { D with nx := Pv (i + 1), ct := Pv (i + 1), bk := D.nx } σ2 H2) (hd : ∀ σ H, Pv n σ H → D.nx σ H) : rFor H J g tb D σ := for_it w Pv h0 hG hs hd
/-- a list whose length is small -/
theorem len_lt {m : Nat} (h : m ≤ 100000) : m < sizeLine := Nat.lt_of_le_of_lt h (by decide)
end
theorem take_map_succ {α β : Type} {f : α → β} {l : List α} {i : Nat} {b : α} (h : l[i]? = some b) : (l.take (i + 1)).map f = (l.take i).map f ++ [f b] := by
  rw [List.take_succ, h, List.map_append]; rfl
theorem take_map_all {α β : Type} {f : α → β} {l : List α} {n : Nat} (h : n = l.length) : (l.take n).map f = l.map f := by rw [h, List.take_length]
theorem signs_at {z : Str} {i : Nat} {v : V} (h : (signs z)[i]? = some v) : ∃ c, v = .str ⟨#[c]⟩ := by
  unfold signs at h
  rw [List.getElem?_map] at h
  cases e : z.cps.toList[i]? with
  | none => rw [e] at h; cases h
  | some c => rw [e] at h; exact ⟨c, (Option.some.inj h).symm⟩
theorem signs_len {z : Str} : (signs z).length = z.length := by unfold signs; rw [List.length_map, Array.length_toList]; rfl
end TB

set_option maxHeartbeats 4000000
namespace TB
open PySem PySem.Spec PyProof.Rows L2
/-! ### pure: what the chains' module tells -/
abbrev vstrs (l : List Str) : List V := l.map V.str
abbrev vints (l : List Int) : List V := l.map V.int
def isN : V → Bool
  | .int _ => true
  | _ => false
def isS : V → Bool
  | .str _ => true
  | _ => false
def isSm (x : V) (m : Int) : Bool := match x with
  | .int i => decide (-m ≤ i) && decide (i ≤ m)
  | _ => false
def inW (x : V) (l : List Str) : Bool := match x with
  | .str z => l.any (· == z)
  | _ => false
def inM (x : V) (l : List Int) : Bool := match x with
  | .int z => l.any (· == z)
  | _ => false
def WORDS : List Str := ["a", "b", "c"]
def MODULI : List Int := [2, 3, 4, 5, 6, 10]
def WAYS : List Str := ["down", "up", "near"]
def FORMS : List (Str × Str) := [("clamp", "ab"), ("least", "i"), ("most", "i"), ("round", "mw"), ("shift", "d"), ("fold", "m"), ("mirror", ""), ("turn", ""), ("blank", "ab"), ("refuse", "ab"), ("fill", "f"), ("replace", "vv"), ("void", "k"), ("bar", "n")]
/-- a part of a step has its form -/
def isPart (x : V) (z : Str) : Bool :=
  if inW (.str z) ["a", "b", "i"] = true then isSm x 40
  else if z = "d" then isSm x 20
  else if z = "m" then isN x && inM x MODULI
  else if inW (.str z) ["v", "f"] = true then (decide (x = .non) && decide (z = "v")) || (isSm x 40 || (isS x && inW x WORDS))
  else if isS x = false then false
  else if z = "w" then inW x WAYS
  else inW x ["number", "word"] || (decide (z = "n") && decide (x = .str "none"))
theorem inV_strs {x : V} {l : List Str} (h : flatV x = true) : inV x (vstrs l) = inW x l := by
  unfold inV inW vstrs
  rw [List.any_map]
  cases x with
  | str z => rfl
  | non => exact List.any_eq_false.mpr fun y _ => by show ¬ (eqV (.str y) .non = true); exact Bool.false_ne_true
  | bl b => exact List.any_eq_false.mpr fun y _ => by show ¬ (eqV (.str y) (.bl b) = true); exact Bool.false_ne_true
  | int i => exact List.any_eq_false.mpr fun y _ => by show ¬ (eqV (.str y) (.int i) = true); exact Bool.false_ne_true
  | _ => cases h
theorem inV_ints {x : V} {l : List Int} (h : isN x = true) : inV x (vints l) = inM x l := by
  unfold inV inM vints
  rw [List.any_map]
  cases x with
  | int z => rfl
  | _ => cases h
theorem flat_strs (l : List Str) : (vstrs l).all flatV = true := by
  unfold vstrs; rw [List.all_map]; exact List.all_eq_true.mpr fun _ _ => rfl
theorem flat_ints (l : List Int) : (vints l).all flatV = true := by
  unfold vints; rw [List.all_map]; exact List.all_eq_true.mpr fun _ _ => rfl
/-- the forms of a word -/
def formOf (z : Str) : Option Str := FORMS.lookup z
def strV : V → Str
  | .str z => z
  | _ => ""
def partBs (xs : List V) (form : Str) : List Bool := (xs.zip (signs form)).map fun q => isPart q.1 (strV q.2)
def partsOk (xs : List V) (form : Str) : Bool := (partBs xs form).all id
theorem partBs_len (xs : List V) (f : Str) : (partBs xs f).length = min xs.length (signs f).length := by unfold partBs; rw [List.length_map, List.length_zip]
theorem partBs_at {xs : List V} {f : Str} {i : Nat} {x y : V} (h1 : xs[i]? = some x) (h2 : (signs f)[i]? = some y) : (partBs xs f)[i]? = some (isPart x (strV y)) := by
  unfold partBs
  rw [List.getElem?_map, (List.getElem?_zip_eq_some (z := (x, y))).mpr ⟨h1, h2⟩] <;> rfl
def leV : V → V → Bool
  | .int i, .int j => decide (i ≤ j)
  | _, _ => false
def leXs : List V → Bool
  | x :: y :: _ => leV x y
  | _ => false
def formOk (xs : List V) (f : Str) : Bool := decide (xs.length = f.length) && (partsOk xs f && (if f = "ab" then leXs xs else true))
/-- a tuple of flat things is a step -/
def isStepT : List V → Bool
  | .str z :: xs => (match FORMS.lookup z with
    | none => false
    | some f => formOk xs f)
  | _ => false
theorem isStepT_no {z : Str} {xs : List V} (h : FORMS.lookup z = none) : isStepT (.str z :: xs) = false := by
  show (match FORMS.lookup z with
    | none => false
    | some f => formOk xs f) = false
  rw [h]
theorem isStepT_yes {z f : Str} {xs : List V} (h : FORMS.lookup z = some f) : isStepT (.str z :: xs) = formOk xs f := by
  show (match FORMS.lookup z with
    | none => false
    | some f => formOk xs f) = _
  rw [h]
/-- things that can stand among steps -/
inductive Item where
  | non | tup (xs : List V) | lst (xs : List V)
def Item.ok : Item → Prop
  | .non => True
  | .tup xs => xs.all flatV = true
  | .lst xs => xs.all flatV = true
def ItemAt (K : PySem.W.Frag) (H : Hp) : Item → V → Prop
  | .non, v => v = .non
  | .tup xs, .ref a => SqT K H a xs
  | .lst xs, .ref a => SqL K H a xs
  | _, _ => False
def isStepI : Item → Bool
  | .tup xs => isStepT xs
  | _ => false
/-! ### promises -/
def spIsN : Sp := fun vs H Q _ => ∃ x, vs = [x] ∧ flatV x = true ∧ Q (.bl (isN x)) H
def spIsSm : Sp := fun vs H Q _ => ∃ x m, vs = [x, .int m] ∧ flatV x = true ∧ Q (.bl (isSm x m)) H
def spIsPart : Sp := fun vs H Q _ => ∃ x z, vs = [x, .str z] ∧ flatV x = true ∧ Ret (.bl (isPart x z)) H Q
def spIsStep (K : PySem.W.Frag) : Sp := fun vs H Q _ => ∃ v it, vs = [v] ∧ ItemAt K H it v ∧ it.ok ∧ Ret (.bl (isStepI it)) H Q
theorem Ret.here {v : V} {H : Hp} {Q : VK} (k : Ret v H Q) : Q v H := k H (Same.refl H)
end TB
namespace TB
open PySem PySem.Spec PyProof.Rows L2
section
variable {K : PySem.W.Frag} {H H2 : Hp} {Q : VK} {E : XK} {p a : Addr} {x : V} {l : List Str} {li : List Int}
theorem go_isN (h : flatV x = true) (q : Q (.bl (isN x)) H) : spIsN [x] H Q E := ⟨x, rfl, h, q⟩
theorem go_isSm {m : Int} (h : flatV x = true) (q : Q (.bl (isSm x m)) H) : spIsSm [x, .int m] H Q E := ⟨x, m, rfl, h, q⟩
theorem go_isPart {z : Str} (h : flatV x = true) (q : ∀ H2, Same H H2 → Q (.bl (isPart x z)) H2) : spIsPart [x, .str z] H Q E := ⟨x, z, rfl, h, q⟩
theorem w_inTs (h : SqT K H p (vstrs l)) (fx : flatV x = true) (q : Q (.bl (inW x l)) H) : rIn K false x (.ref p) H Q := w_inT h fx (flat_strs l) (by rw [inV_strs fx]; exact q)
theorem w_inTi (h : SqT K H p (vints li)) (fx : isN x = true) (q : Q (.bl (inM x li)) H) : rIn K false x (.ref p) H Q := w_inT h (by cases x <;> first | rfl | cases fx) (flat_ints li) (by rw [inV_ints fx]; exact q)
end
end TB

set_option maxHeartbeats 4000000
namespace TB
open PySem PySem.Spec PyProof.Rows L2
/-! ### methods as the top has left them -/
def MtP (K : PySem.W.Frag) (C m qual : Str) (st : Stmt) : Prop := ∃ fd, FunD K m qual (defArgs st) (defBody st) (defScope st) [] [] (He.ma K (He.ga K C) m) fd
section
variable {P : Program} {w : World} {K : PySem.W.Frag} {mg : Str → Option Value} {base : Heap} {k : Nat} {C m qual x : Str} {st : Stmt} {N ps : List Str} {sp : Sp}
theorem mt_of (F : MtP K C m qual st) (S : FnScope N ps (defScope st)) (len : ∀ vs H Q E, sp vs H Q E → vs.length = ps.length)
    (hb : ∀ (kV doc pm : Value) (an : Option Addr) (cdv ct : Value) (us : List Value), us.length = ps.length → bindArgs (PySem.W.fnOf m qual (defArgs st) (defBody st) (defScope st) .none kV doc pm an cdv ct) ⟨us, []⟩ = pure (ps.zip us))
    (hbody : ∀ (f : Addr) (cdv : Value) (A : Around) (outer : List Env) (s : Shared) (H : Hp) (vs : List V) (Q : VK) (E : XK), Room k (A.deeper (envOfC qual (defScope st) s.heap.objs.size f cdv)) → sp vs H Q E →
      ∃ t, PSs (cxOf (L2.CX P w) P w K mg base N qual (defScope st) f cdv A outer s H E) (defBody st) t ∧ t { nx := fun _ H' => Q .non H', rt := Q } (start N vs) H) :
    ∃ fd, FnOk P w K mg base (L2.CX P w) (k + 1) (He.ma K (He.ga K C) m) fd ps sp ∧ Binds K fd ps [] ∧ PySem.W.keepIn K (.ref (He.ma K (He.ga K C) m)) = true := by
  obtain ⟨fd, F⟩ := F
  exact ⟨fd, F.ok S len (fun cdv A outer s H vs Q E hr h => hbody _ cdv A outer s H vs Q E hr h), F.bindsN hb, F.kp⟩
theorem fn_fd (S : FnScope N ps (defScope st)) (len : ∀ vs H Q E, sp vs H Q E → vs.length = ps.length)
    (hbody : ∀ (f : Addr) (cdv : Value) (A : Around) (outer : List Env) (s : Shared) (H : Hp) (vs : List V) (Q : VK) (E : XK), Room k (A.deeper (envOfC x (defScope st) s.heap.objs.size f cdv)) → sp vs H Q E →
      ∃ t, PSs (cxOf (L2.CX P w) P w K mg base N x (defScope st) f cdv A outer s H E) (defBody st) t ∧ t { nx := fun _ H' => Q .non H', rt := Q } (start N vs) H) :
    ∀ fd, FunD K x x (defArgs st) (defBody st) (defScope st) [] [] (He.ga K x) fd → FnOk P w K mg base (L2.CX P w) (k + 1) (He.ga K x) fd ps sp := fun fd F =>
  F.ok S len (fun cdv A outer s H vs Q E hr h => hbody _ cdv A outer s H vs Q E hr h)
theorem op_of (M : Meth K (He.ga K C) m (He.ma K (He.ga K C) m)) (c : Cls K (He.ga K C))
    (h : ∃ fd, FnOk P w K mg base (L2.CX P w) k (He.ma K (He.ga K C) m) fd ps sp ∧ Binds K fd ps [] ∧ PySem.W.keepIn K (.ref (He.ma K (He.ga K C) m)) = true) : Op P w K mg base k (He.ga K C) m ps sp := by
  obtain ⟨fd, F, b, kp⟩ := h
  exact ⟨⟨_, fd, F, M.1, M.2, kp, b⟩, c⟩
theorem mak_of (M : Mk K (He.ga K C) (He.ma K (He.ga K C) "__init__")) (g : mg C = some (.ref (He.ga K C)))
    (h : ∃ fd, FnOk P w K mg base (L2.CX P w) k (He.ma K (He.ga K C) "__init__") fd ps sp ∧ Binds K fd ps [] ∧ PySem.W.keepIn K (.ref (He.ma K (He.ga K C) "__init__")) = true) : Mak P w K mg base k C ps sp := by
  obtain ⟨fd, F, b, _⟩ := h
  exact ⟨_, fd, F, M, g, b⟩
/-- an exception with one field: self.f = f -/
theorem exc_of {f : Str} (o : OexAt K (He.ga K C) f) (g : mg C = some (.ref (He.ga K C)))
    (h : ∃ fd, FnOk P w K mg base (L2.CX P w) 1 (He.ma K (He.ga K C) "__init__") fd ps (spExc (He.ga K C) f) ∧ Binds K fd ps [] ∧ PySem.W.keepIn K (.ref (He.ma K (He.ga K C) "__init__")) = true) : Exc P w K mg base C f ps := by
  obtain ⟨fd, F, b, _⟩ := h
  exact ⟨o, g, fd, F, b⟩
end
end TB

set_option maxHeartbeats 4000000
namespace TB
open PySem PySem.Spec PyProof.Rows L2
/-! ### chains as objects -/
abbrev Items (K : PySem.W.Frag) (H : Hp) : List Item → List V → Prop := Paired fun it v => ItemAt K H it v
theorem ItemAt.same {K : PySem.W.Frag} {H H' : Hp} {it : Item} {v : V} (s : Same H H') (h : ItemAt K H it v) : ItemAt K H' it v := by
  cases it <;> cases v <;> first | exact h | exact h.elim | skip
  · exact Same.tup s h
  · exact Same.lst s h
theorem Items.same {K : PySem.W.Frag} {H H' : Hp} {its : List Item} {vs : List V} (s : Same H H') (h : Items K H its vs) : Items K H' its vs := L2.Paired.mapP h fun _ _ q => q.same s
theorem Paired.at_ {α β : Type} {F : α → β → Prop} : ∀ {l₁ : List α} {l₂ : List β} {i : Nat} {b : β}, Paired F l₁ l₂ → l₂[i]? = some b → ∃ a, l₁[i]? = some a ∧ F a b
  | _, _, _, _, .nil, h => by simp at h
  | _, _, 0, _, .cons f _, h => ⟨_, rfl, by simp at h; subst h; exact f⟩
  | _, _, i + 1, _, .cons _ t, h => by
    obtain ⟨a, e, f⟩ := Paired.at_ (i := i) t (by simpa using h)
    exact ⟨a, by simpa using e, f⟩
theorem Paired.at1 {α β : Type} {F : α → β → Prop} : ∀ {l₁ : List α} {l₂ : List β} {i : Nat} {a : α}, Paired F l₁ l₂ → l₁[i]? = some a → ∃ b, l₂[i]? = some b ∧ F a b
  | _, _, _, _, .nil, h => by simp at h
  | _, _, 0, _, .cons f _, h => ⟨_, rfl, by simp at h; subst h; exact f⟩
  | _, _, i + 1, _, .cons _ t, h => by
    obtain ⟨a, e, f⟩ := Paired.at1 (i := i) t (by simpa using h)
    exact ⟨a, by simpa using e, f⟩
def badAt : List Item → Nat → Option Nat
  | [], _ => none
  | it :: r, i => if isStepI it = true then badAt r (i + 1) else some i
/-- the number that BadStep tells, or none -/
def dueI (its : List Item) : Option Int := if 5 < its.length then some 5 else (badAt its 0).map fun i => (i : Int)
def spBadStep (K : PySem.W.Frag) (i : Int) (H : Hp) (E : XK) : Prop := ∀ H' d, Same H H' → H' d = some (.xd [("index", .int i)]) → E (.ref (He.ga K "BadStep")) (some d) H'
def spChain (K : PySem.W.Frag) : Sp := fun vs H Q E => ∃ x l dx its items, vs = [.ref x, .ref l] ∧ H x = some (.ins (He.ga K "Chain") dx []) ∧ Sq K H l items ∧ Items K H its items ∧ (∀ it ∈ its, it.ok) ∧ its.length ≤ 1000 ∧
  match dueI its with
  | none => ∀ H' t, (∀ b o, b ≠ x → H b = some o → H' b = some o) → H' x = some (.ins (He.ga K "Chain") dx [("steps", .ref t)]) → SqT K H' t items → Q .non H'
  | some i => spBadStep K i H E
theorem Sq.same {K : PySem.W.Frag} {H H' : Hp} {l : Addr} {xs : List V} (s : Same H H') (h : Sq K H l xs) : Sq K H' l xs := h.imp (Same.lst s) (Same.tup s)
theorem Sq.src {K : PySem.W.Frag} {H : Hp} {l : Addr} {xs : List V} (h : Sq K H l xs) : ∃ k, SrcV K H k (.ref l) xs ∧ ∀ H', Same H H' → SrcV K H' k (.ref l) xs := by
  rcases h with h | h
  · exact ⟨.l, h, fun _ s => Same.lst s h⟩
  · exact ⟨.t, h, fun _ s => Same.tup s h⟩
theorem w_lenQ {K : PySem.W.Frag} {H : Hp} {Q : VK} {a : Addr} {xs : List V} (h : Sq K H a xs) (q : Q (.int (xs.length : Int)) H) : L2.rLen K [.ref a] H Q := h.elim (fun h => w_lenL h q) fun h => w_lenT h q
/-- what a made chain is -/
structure ChainI (K : PySem.W.Frag) (H : Hp) (a : Addr) (its : List Item) : Prop where
  ex : ∃ dx t items, H a = some (.ins (He.ga K "Chain") dx [("steps", .ref t)]) ∧ SqT K H t items ∧ Items K H its items
end TB
namespace TB
open PySem PySem.Spec PyProof.Rows L2
theorem w_enumSrc {K : PySem.W.Frag} {H : Hp} {k : SK} {v : V} {xs : List V} {R : It → Hp → Prop} (h1 : SrcV K H k v xs) (q : R (IteS K k v) H) : rEnum K [v] H R := ⟨k, v, xs, rfl, h1, q⟩
theorem badAt_step {its : List Item} {i : Nat} {it : Item} (h : its[i]? = some it) : badAt (its.drop i) i = if isStepI it = true then badAt (its.drop (i + 1)) (i + 1) else some i := by
  have hl : i < its.length := (List.getElem?_eq_some_iff.mp h).1
  have e : its[i] = it := (List.getElem?_eq_some_iff.mp h).2
  rw [List.drop_eq_getElem_cons hl, e] <;> rfl
theorem badAt_end {its : List Item} {n : Nat} (h : n = its.length) : badAt (its.drop n) n = none := by rw [h, List.drop_length] <;> rfl
theorem dueI_many {its : List Item} (h : 5 < its.length) : dueI its = some 5 := by unfold dueI; rw [if_pos h]
theorem dueI_bad {its : List Item} {i : Nat} (h : ¬ 5 < its.length) (e : badAt its 0 = some i) : dueI its = some (i : Int) := by unfold dueI; rw [if_neg h, e] <;> rfl
theorem dueI_none {its : List Item} (h : ¬ 5 < its.length) (e : badAt its 0 = none) : dueI its = none := by unfold dueI; rw [if_neg h, e] <;> rfl
theorem go_isStep {K : PySem.W.Frag} {H : Hp} {Q : VK} {E : XK} {v : V} {it : Item} (h : ItemAt K H it v) (o : it.ok) (q : ∀ H2, Same H H2 → Q (.bl (isStepI it)) H2) : spIsStep K [v] H Q E := ⟨v, it, rfl, h, o, q⟩
def tOstR (K : PySem.W.Frag) (f : Str) (x y : V) (H : Hp) (σ : L2.St) (Q : L2.St → Hp → Prop) : Prop := ∃ a C : Addr, x = .ref a ∧ OexC K C ∧ PySem.W.findIn K (.ref C) f = some none ∧
  ((H a = some (exo a C none) ∧ ∀ dx, H dx = none → dx ≠ a → Q σ (upd (upd H dx (exd dx [(f, y)])) a (exo a C (some dx)))) ∨
    ∃ (dx : Addr) (fs : List (Str × V)), H a = some (exo a C (some dx)) ∧ H dx = some (exd dx fs) ∧ fs.length ≤ 900 ∧ Q σ (upd H dx (exd dx ((f, y) :: fs))))
theorem w_ostG {K : PySem.W.Frag} {f : Str} {to te : TE} {D : Ends} {σ : L2.St} {H : Hp} (h : te σ H fun y H1 => to σ H1 fun x H2 => tOstR K f x y H2 σ D.nx) : tOst K f to te D σ H := h
end TB

set_option maxHeartbeats 4000000
namespace TB
open PySem PySem.Spec PyProof.Rows L2
/-! ### drawing -/
abbrev Cells : Type := Addr × List Int
def DrawsAt (H : Hp) (d : Addr) (cells : Cells) : Prop := ∃ (at_ big seed : Int), H d = some (.lst [.ref cells.1, .int at_, .int big, .int seed]) ∧ H cells.1 = some (.lst (vints cells.2)) ∧ cells.1 ≠ d ∧ 0 ≤ at_ ∧ 0 ≤ big
/-- all but d stays -/
def SameX (d : Addr) (H H' : Hp) : Prop := ∀ b o, b ≠ d → H b = some o → H' b = some o
theorem SameX.refl (d : Addr) (H : Hp) : SameX d H H := fun _ _ _ h => h
theorem SameX.trans {d : Addr} {H H1 H2 : Hp} (a : SameX d H H1) (b : SameX d H1 H2) : SameX d H H2 := fun x o n h => b x o n (a x o n h)
theorem SameX.of {d : Addr} {H H' : Hp} (s : Same H H') : SameX d H H' := fun x o _ h => s x o h
theorem SameX.upd {d : Addr} {H : Hp} {o : HO} : SameX d H (upd H d o) := fun b u n h => by rw [upd_ne n]; exact h
theorem SameX.new {d : Addr} {H H1 : Hp} {o : HO} (s : SameX d H H1) {p : Addr} (hp : H1 p = none) : SameX d H (L2.upd H1 p o) := s.trans (.of (Same.new hp))
theorem DrawsAt.same {H H' : Hp} {d : Addr} {cells : Cells} (h : DrawsAt H d cells) (s : Same H H') : DrawsAt H' d cells := by
  obtain ⟨a, b, e, h1, h2, r⟩ := h
  exact ⟨a, b, e, s _ _ h1, s _ _ h2, r⟩
def spDraw : Sp := fun vs H Q _ => ∃ d m, ∃ cells : Cells, vs = [.ref d, .int m] ∧ 0 < m ∧ m < 1073741824 ∧ DrawsAt H d cells ∧ ∀ r H', 0 ≤ r → r < m → SameX d H H' → DrawsAt H' d cells → Q (.int r) H'
theorem go_draw {H : Hp} {Q : VK} {E : XK} {d : Addr} {m : Int} {cells : Cells} (h0 : 0 < m) (h1 : m < 1073741824) (hd : DrawsAt H d cells) (q : ∀ r H', 0 ≤ r → r < m → SameX d H H' → DrawsAt H' d cells → Q (.int r) H') : spDraw [.ref d, .int m] H Q E := ⟨d, m, cells, rfl, h0, h1, hd, q⟩
def spBegin (K : PySem.W.Frag) : Sp := fun vs H Q _ => ∃ a cells, vs = [.ref a] ∧ SqL K H a (vints cells) ∧ ∀ d c H', H d = none → Same H H' → DrawsAt H' d (c, cells) → Q (.ref d) H'
/-! ### more readings -/
def rInt1 : List V → Hp → VK → Prop := fun xs H Q => (∃ i, xs = [.int i] ∧ Q (.int i) H) ∨ ∃ k, xs = [.bl k] ∧ Q (.int (if k then 1 else 0)) H
theorem call_intR {X : Cx} : CallR X (.type "int") rInt1 := call_int1
theorem w_int1 {H : Hp} {Q : VK} {i : Int} (q : Q (.int i) H) : rInt1 [.int i] H Q := .inl ⟨i, rfl, q⟩
def rListOf (K : PySem.W.Frag) : List V → Hp → VK → Prop := fun xs H Q => ∃ p ys, xs = [.ref p] ∧ (SqL K H p ys ∨ SqT K H p ys) ∧ ∀ l, H l = none → Q (.ref l) (upd H l (.lst ys))
theorem call_listOf {X : Cx} : CallR X (.type "list") (rListOf X.K) := call_list_of
theorem w_listOf {K : PySem.W.Frag} {H : Hp} {Q : VK} {a : Addr} {xs : List V} (h : SqL K H a xs ∨ SqT K H a xs) (q : ∀ l, H l = none → Q (.ref l) (upd H l (.lst xs))) : rListOf K [.ref a] H Q := ⟨a, xs, rfl, h, q⟩
theorem w_gsub {to ti : TE} {t : TSet} {v : V} {σ : L2.St} {H : Hp} {Q : L2.St → Hp → Prop} (h : to σ H fun o H1 => ti σ H1 fun i H2 => t o i v H2 fun H3 => Q σ H3) : gSub to ti t v σ H Q := h
theorem w_setL {H : Hp} {p : Addr} {xs : List V} {k : Int} {j : Nat} {v : V} {Q : Hp → Prop} (h : H p = some (.lst xs)) (e : ixN xs.length k = some j) (q : Q (upd H p (.lst (xs.set j v)))) : rSetL (.ref p) (.int k) v H Q := ⟨p, xs, k, j, rfl, rfl, h, e, q⟩
theorem cmul_r {i j : Int} (h1 : -(2 ^ 64) < j) (h2 : j < 2 ^ 64) : CMul i j := .inr ⟨h1, h2⟩
theorem cmul_l {i j : Int} (h1 : -(2 ^ 64) < i) (h2 : i < 2 ^ 64) : CMul i j := .inl ⟨h1, h2⟩
theorem atI_3 {α : Type} {x y z u : α} {xs : List α} : atI (x :: y :: z :: u :: xs) 3 = some u := atI_nat (i := 3) (xs := x :: y :: z :: u :: xs) (by simp)
theorem atI_int {α : Type} {xs : List α} {i : Int} {x : α} (h0 : 0 ≤ i) (h : xs[i.toNat]? = some x) : atI xs i = some x := by
  unfold atI ixN
  have hl := (List.getElem?_eq_some_iff.mp h).1
  rw [if_pos h0, if_pos (by omega)]
  exact h
end TB

/-! The mathematics: values, steps, chains, runs. -/
namespace TW
inductive Val where
  | non | a | b | c | int (i : Int)
  deriving DecidableEq
inductive Way where
  | down | up | near
  deriving DecidableEq
inductive Kd where
  | number | word | none
  deriving DecidableEq
inductive Stp where
  | clamp (a b : Int) | least (a : Int) | most (b : Int) | round (m : Int) (w : Way) | shift (d : Int) | fold (m : Int) | mirror | turn
  | blank (a b : Int) | refuse (a b : Int) | fill (v : Val) | replace (v w : Val) | void (k : Kd) | bar (k : Kd)
  deriving DecidableEq
def Val.kind : Val → Kd
  | .non => .none
  | .int _ => .number
  | _ => .word
def okI (i : Int) : Prop := -40 ≤ i ∧ i ≤ 40
def okM (m : Int) : Prop := m = 2 ∨ m = 3 ∨ m = 4 ∨ m = 5 ∨ m = 6 ∨ m = 10
def okV : Val → Prop
  | .int i => okI i
  | _ => True
/-- a step as point 3 says -/
def Stp.ok : Stp → Prop
  | .clamp a b => okI a ∧ okI b ∧ a ≤ b
  | .least a => okI a
  | .most b => okI b
  | .round m _ => okM m
  | .shift d => -20 ≤ d ∧ d ≤ 20
  | .fold m => okM m
  | .mirror => True
  | .turn => True
  | .blank a b => okI a ∧ okI b ∧ a ≤ b
  | .refuse a b => okI a ∧ okI b ∧ a ≤ b
  | .fill v => v ≠ .non ∧ okV v
  | .replace v w => okV v ∧ okV w
  | .void k => k ≠ .none
  | .bar _ => True
def rounded (n m : Int) : Way → Int
  | .down => n - n % m
  | .up => if n % m = 0 then n else n - n % m + m
  | .near => if n % m = 0 ∨ 2 * (n % m) < m then n - n % m else n - n % m + m
/-- what a step makes of an integer: none, it refuses -/
def ofNum : Stp → Int → Option Val
  | .clamp a b, n => some (.int (min (max n a) b))
  | .least a, n => some (.int (max n a))
  | .most b, n => some (.int (min n b))
  | .round m w, n => some (.int (rounded n m w))
  | .shift d, n => some (.int (n + d))
  | .fold m, n => some (.int (n % m))
  | .mirror, n => some (.int (if n < 0 then -n else n))
  | .turn, n => some (.int (-n))
  | .blank a b, n => some (if a ≤ n ∧ n ≤ b then .int n else .non)
  | .refuse a b, n => if a ≤ n ∧ n ≤ b then some (.int n) else none
  | _, n => some (.int n)
def step1 : Stp → Val → Option Val
  | .fill v, x => some (if x = .non then v else x)
  | .replace v w, x => some (if x = v then w else x)
  | .void k, x => some (if x.kind = k then .non else x)
  | .bar k, x => if x.kind = k then none else some x
  | s, .int n => ofNum s n
  | _, x => some x
/-- a chain's result -/
def run : List Stp → Val → Option Val
  | [], x => some x
  | s :: ss, x => (step1 s x).bind (run ss)
/-- the values behind the steps, until one refuses -/
def trace : List Stp → Val → List Val
  | [], _ => []
  | s :: ss, x => match step1 s x with
    | none => []
    | some y => y :: trace ss y
theorem run_append (ss ts : List Stp) (x : Val) : run (ss ++ ts) x = (run ss x).bind (run ts) := by
  induction ss generalizing x with
  | nil => rfl
  | cons s ss ih =>
    show (step1 s x).bind (run (ss ++ ts)) = ((step1 s x).bind (run ss)).bind (run ts)
    cases step1 s x with
    | none => rfl
    | some y => exact ih y
theorem trace_len (ss : List Stp) (x : Val) : (trace ss x).length ≤ ss.length := by
  induction ss generalizing x with
  | nil => exact Nat.le_refl _
  | cons s ss ih =>
    show (match step1 s x with | none => [] | some y => y :: trace ss y : List Val).length ≤ _
    cases step1 s x with
    | none => exact Nat.zero_le _
    | some y => exact Nat.succ_le_succ (ih y)
theorem trace_cons {s : Stp} {ss : List Stp} {x y : Val} (h : step1 s x = some y) : trace (s :: ss) x = y :: trace ss y := by
  show (match step1 s x with | none => [] | some y => y :: trace ss y : List Val) = _
  rw [h]
theorem trace_stop {s : Stp} {ss : List Stp} {x : Val} (h : step1 s x = none) : trace (s :: ss) x = [] := by
  show (match step1 s x with | none => [] | some y => y :: trace ss y : List Val) = _
  rw [h]
theorem run_cons {s : Stp} {ss : List Stp} {x : Val} : run (s :: ss) x = (step1 s x).bind (run ss) := rfl
/-- a run is refused just where the trace stops early; else its result is the trace's last -/
theorem run_trace (ss : List Stp) (x : Val) : run ss x = if (trace ss x).length < ss.length then none else some ((trace ss x).getLastD x) := by
  induction ss generalizing x with
  | nil => rfl
  | cons s ss ih =>
    cases h : step1 s x with
    | none => rw [run_cons, trace_stop h, h]; simp
    | some y =>
      rw [run_cons, trace_cons h, h]
      show run ss y = _
      rw [ih y, List.getLastD_cons, List.length_cons, List.length_cons]
      by_cases h : (trace ss y).length < ss.length
      · rw [if_pos h, if_pos (Nat.succ_lt_succ h)]
      · rw [if_neg h, if_neg (fun q => h (Nat.lt_of_succ_lt_succ q))]
/-- the law's steps: what the law's drawing can make -/
def lawI (i : Int) : Prop := -4 ≤ i ∧ i ≤ 8
def lawV : Val → Prop
  | .int i => lawI i
  | _ => True
def lawR (a b : Int) : Prop := -10 ≤ a ∧ a ≤ 10 ∧ a ≤ b ∧ b ≤ a + 11
def Stp.law : Stp → Prop
  | .clamp a b => lawR a b
  | .least a => -10 ≤ a ∧ a ≤ 10
  | .most a => -10 ≤ a ∧ a ≤ 10
  | .round m _ => m = 2 ∨ m = 3 ∨ m = 5 ∨ m = 4
  | .shift d => -4 ≤ d ∧ d ≤ 4
  | .fold m => m = 2 ∨ m = 3 ∨ m = 4 ∨ m = 10 ∨ m = 6
  | .mirror => True
  | .turn => True
  | .blank a b => lawR a b
  | .refuse a b => lawR a b
  | .fill v => v = .int 0 ∨ v = .a ∨ v = .int 7 ∨ v = .c ∨ v = .int (-3)
  | .replace v w => lawV v ∧ lawV w
  | .void k => k ≠ .none
  | .bar _ => True
theorem lawV_ok {v : Val} (h : lawV v) : okV v := by
  cases v <;> first | trivial | (simp only [lawV, okV, lawI, okI] at *; omega)
theorem law_ok {s : Stp} (h : s.law) : s.ok := by
  cases s with
  | replace v w => exact ⟨lawV_ok h.1, lawV_ok h.2⟩
  | fill v => rcases h with rfl | rfl | rfl | rfl | rfl <;> simp [Stp.ok, okV, okI]
  | void k => exact h
  | bar k => trivial
  | mirror => trivial
  | turn => trivial
  | _ => simp only [Stp.law, Stp.ok, lawR, okI, okM] at *; omega
end TW

set_option maxHeartbeats 4000000
namespace TB
open PySem PySem.Spec PyProof.Rows L2 TW
/-! ### steps as tuples -/
def vv : Val → V
  | .non => .non
  | .a => .str "a"
  | .b => .str "b"
  | .c => .str "c"
  | .int i => .int i
def wv : Way → Str
  | .down => "down"
  | .up => "up"
  | .near => "near"
def kv : Kd → Str
  | .number => "number"
  | .word => "word"
  | .none => "none"
def parts : Stp → List V
  | .clamp a b => [.str "clamp", .int a, .int b]
  | .least a => [.str "least", .int a]
  | .most b => [.str "most", .int b]
  | .round m w => [.str "round", .int m, .str (wv w)]
  | .shift d => [.str "shift", .int d]
  | .fold m => [.str "fold", .int m]
  | .mirror => [.str "mirror"]
  | .turn => [.str "turn"]
  | .blank a b => [.str "blank", .int a, .int b]
  | .refuse a b => [.str "refuse", .int a, .int b]
  | .fill v => [.str "fill", vv v]
  | .replace v w => [.str "replace", vv v, vv w]
  | .void k => [.str "void", .str (kv k)]
  | .bar k => [.str "bar", .str (kv k)]
theorem vv_flat (v : Val) : flatV (vv v) = true := by cases v <;> rfl
theorem parts_flat (s : Stp) : (parts s).all flatV = true := by
  cases s with
  | fill v => show (true && (flatV (vv v) && true)) = true; rw [vv_flat] <;> rfl
  | replace v w => show (true && (flatV (vv v) && (flatV (vv w) && true))) = true; rw [vv_flat, vv_flat] <;> rfl
  | _ => rfl
theorem isSm_ok {i : Int} (h : okI i) : isSm (.int i) 40 = true := by
  show (decide (-40 ≤ i) && decide (i ≤ 40)) = true
  rw [decide_eq_true h.1, decide_eq_true h.2] <;> rfl
theorem part_a {i : Int} (h : okI i) : isPart (.int i) "a" = true := isSm_ok h
theorem part_b {i : Int} (h : okI i) : isPart (.int i) "b" = true := isSm_ok h
theorem part_i {i : Int} (h : okI i) : isPart (.int i) "i" = true := isSm_ok h
theorem part_m {m : Int} (h : okM m) : isPart (.int m) "m" = true := by rcases h with rfl | rfl | rfl | rfl | rfl | rfl <;> decide +kernel
theorem part_v {v : Val} (h : okV v) : isPart (vv v) "v" = true := by
  cases v with
  | int i =>
    show (decide (V.int i = .non) && true || (isSm (.int i) 40 || (isS (.int i) && inW (.int i) WORDS))) = true
    rw [isSm_ok h, Bool.true_or, Bool.or_true]
  | _ => decide +kernel
theorem part_f {v : Val} (h : okV v) (n : v ≠ .non) : isPart (vv v) "f" = true := by
  cases v with
  | int i =>
    show (decide (V.int i = .non) && false || (isSm (.int i) 40 || (isS (.int i) && inW (.int i) WORDS))) = true
    rw [isSm_ok h, Bool.true_or, Bool.or_true]
  | non => exact absurd rfl n
  | _ => decide +kernel
theorem formOk1 {x : V} {f : Str} {c : Nat} (hf : signs f = [.str ⟨#[c]⟩]) (hl : f.length = 1) (hn : f ≠ "ab") (h : isPart x ⟨#[c]⟩ = true) : formOk [x] f = true := by
  unfold formOk partsOk partBs
  rw [hf, hl, if_neg hn]
  show (decide (1 = 1) && (([isPart x ⟨#[c]⟩].all id) && true)) = true
  rw [h] <;> rfl
theorem formOk2 {x y : V} {f : Str} {c d : Nat} (hf : signs f = [.str ⟨#[c]⟩, .str ⟨#[d]⟩]) (hl : f.length = 2) (h : isPart x ⟨#[c]⟩ = true) (h2 : isPart y ⟨#[d]⟩ = true) (h3 : f = "ab" → leV x y = true) : formOk [x, y] f = true := by
  unfold formOk partsOk partBs
  rw [hf, hl]
  show (decide (2 = 2) && (([isPart x ⟨#[c]⟩, isPart y ⟨#[d]⟩].all id) && (if f = "ab" then leV x y else true))) = true
  rw [h, h2]
  by_cases e : f = "ab"
  · rw [if_pos e, h3 e] <;> rfl
  · rw [if_neg e] <;> rfl
theorem parts_step {s : Stp} (h : s.ok) : isStepT (parts s) = true := by
  cases s with
  | clamp a b => exact (isStepT_yes (f := "ab") (by decide +kernel)).trans (formOk2 (c := 97) (d := 98) rfl rfl (part_a h.1) (part_b h.2.1) fun _ => decide_eq_true h.2.2)
  | blank a b => exact (isStepT_yes (f := "ab") (by decide +kernel)).trans (formOk2 (c := 97) (d := 98) rfl rfl (part_a h.1) (part_b h.2.1) fun _ => decide_eq_true h.2.2)
  | refuse a b => exact (isStepT_yes (f := "ab") (by decide +kernel)).trans (formOk2 (c := 97) (d := 98) rfl rfl (part_a h.1) (part_b h.2.1) fun _ => decide_eq_true h.2.2)
  | least a => exact (isStepT_yes (f := "i") (by decide +kernel)).trans (formOk1 (c := 105) rfl rfl (by decide +kernel) (part_i h))
  | most a => exact (isStepT_yes (f := "i") (by decide +kernel)).trans (formOk1 (c := 105) rfl rfl (by decide +kernel) (part_i h))
  | round m w => exact (isStepT_yes (f := "mw") (by decide +kernel)).trans (formOk2 (c := 109) (d := 119) rfl rfl (part_m h) (by cases w <;> decide +kernel) fun e => absurd e (by decide +kernel))
  | shift d =>
    refine (isStepT_yes (f := "d") (by decide +kernel)).trans (formOk1 (c := 100) rfl rfl (by decide +kernel) ?_)
    show (decide (-20 ≤ d) && decide (d ≤ 20)) = true
    rw [decide_eq_true h.1, decide_eq_true h.2] <;> rfl
  | fold m => exact (isStepT_yes (f := "m") (by decide +kernel)).trans (formOk1 (c := 109) rfl rfl (by decide +kernel) (part_m h))
  | mirror => decide +kernel
  | turn => decide +kernel
  | fill v => exact (isStepT_yes (f := "f") (by decide +kernel)).trans (formOk1 (c := 102) rfl rfl (by decide +kernel) (part_f h.2 h.1))
  | replace v w => exact (isStepT_yes (f := "vv") (by decide +kernel)).trans (formOk2 (c := 118) (d := 118) rfl rfl (part_v h.1) (part_v h.2) fun e => absurd e (by decide +kernel))
  | void k => cases k <;> first | exact absurd rfl h | decide +kernel
  | bar k => cases k <;> decide +kernel
/-! ### what is drawn -/
theorem DrawsAt.ne {H : Hp} {d p : Addr} {cells : Cells} (h : DrawsAt H d cells) (hp : H p = none) : p ≠ d := by
  obtain ⟨a, b, e, h1, _⟩ := h
  exact Ne.symm (ne_of_none h1 hp)
theorem SameX.get {d a : Addr} {H H' : Hp} {o : HO} (s : SameX d H H') (n : a ≠ d) (h : H a = some o) : H' a = some o := s _ _ n h
def spDrawn (good : V → Hp → Prop) : Sp := fun vs H Q _ => ∃ d cells, vs = [.ref d] ∧ DrawsAt H d cells ∧ ∀ v H', good v H' → SameX d H H' → DrawsAt H' d cells → Q v H'
def isAny (v : V) (_ : Hp) : Prop := ∃ x : Val, lawV x ∧ v = vv x
def spAny : Sp := spDrawn isAny
def spRange : Sp := fun vs H Q _ => ∃ d cells, vs = [.ref d] ∧ DrawsAt H d cells ∧ ∀ l lo hi H', lawR lo hi → H' l = some (.lst [.int lo, .int hi]) → H l = none → SameX d H H' → DrawsAt H' d cells → Q (.ref l) H'
def spStep : Sp := fun vs H Q _ => ∃ d cells, vs = [.ref d] ∧ DrawsAt H d cells ∧ ∀ t s H', Stp.law s → H' t = some (.tup (parts s)) → H t = none → SameX d H H' → DrawsAt H' d cells → Q (.ref t) H'
theorem go_any {H : Hp} {Q : VK} {E : XK} {d : Addr} {cells : Cells} (hd : DrawsAt H d cells) (q : ∀ x H', lawV x → SameX d H H' → DrawsAt H' d cells → Q (vv x) H') : spAny [.ref d] H Q E :=
  ⟨d, cells, rfl, hd, fun v H' ⟨x, hx, e⟩ s h => by rw [e]; exact q x H' hx s h⟩
theorem go_range {H : Hp} {Q : VK} {E : XK} {d : Addr} {cells : Cells} (hd : DrawsAt H d cells) (q : ∀ l lo hi H', lawR lo hi → H' l = some (.lst [.int lo, .int hi]) → H l = none → SameX d H H' → DrawsAt H' d cells → Q (.ref l) H') : spRange [.ref d] H Q E := ⟨d, cells, rfl, hd, q⟩
theorem go_step {H : Hp} {Q : VK} {E : XK} {d : Addr} {cells : Cells} (hd : DrawsAt H d cells) (q : ∀ t s H', Stp.law s → H' t = some (.tup (parts s)) → H t = none → SameX d H H' → DrawsAt H' d cells → Q (.ref t) H') : spStep [.ref d] H Q E := ⟨d, cells, rfl, hd, q⟩
theorem SameX.free {d l : Addr} {H H' : Hp} {cells : Cells} (s : SameX d H H') (hd : DrawsAt H' d cells) (h : H' l = none) : H l = none := by
  cases e : H l with
  | none => rfl
  | some o =>
    have n := hd.ne h
    rw [s _ _ n e] at h; cases h
theorem pick {xs : List V} {r : Int} (h0 : 0 ≤ r) (h1 : r < xs.length) : ∃ v, atI xs r = some v ∧ v ∈ xs := by
  have hl : r.toNat < xs.length := by omega
  exact ⟨xs[r.toNat], atI_int h0 (List.getElem?_eq_getElem hl), List.getElem_mem hl⟩
theorem pick_m {v : V} (h : v ∈ [V.int 2, .int 3, .int 5, .int 4]) : ∃ m, v = .int m ∧ (m = 2 ∨ m = 3 ∨ m = 5 ∨ m = 4) := by
  simp only [List.mem_cons, List.not_mem_nil, or_false] at h
  rcases h with rfl | rfl | rfl | rfl
  · exact ⟨2, rfl, .inl rfl⟩
  · exact ⟨3, rfl, .inr (.inl rfl)⟩
  · exact ⟨5, rfl, .inr (.inr (.inl rfl))⟩
  · exact ⟨4, rfl, .inr (.inr (.inr rfl))⟩
theorem pick_f {v : V} (h : v ∈ [V.int 2, .int 3, .int 4, .int 10, .int 6]) : ∃ m, v = .int m ∧ (m = 2 ∨ m = 3 ∨ m = 4 ∨ m = 10 ∨ m = 6) := by
  simp only [List.mem_cons, List.not_mem_nil, or_false] at h
  rcases h with rfl | rfl | rfl | rfl | rfl
  · exact ⟨_, rfl, .inl rfl⟩
  · exact ⟨_, rfl, .inr (.inl rfl)⟩
  · exact ⟨_, rfl, .inr (.inr (.inl rfl))⟩
  · exact ⟨_, rfl, .inr (.inr (.inr (.inl rfl)))⟩
  · exact ⟨_, rfl, .inr (.inr (.inr (.inr rfl)))⟩
theorem pick_w {v : V} (h : v ∈ [V.str "down", .str "up", .str "near"]) : ∃ w, v = .str (wv w) := by
  simp only [List.mem_cons, List.not_mem_nil, or_false] at h
  rcases h with rfl | rfl | rfl
  · exact ⟨.down, rfl⟩
  · exact ⟨.up, rfl⟩
  · exact ⟨.near, rfl⟩
theorem pick_fill {v : V} (h : v ∈ [V.int 0, .str "a", .int 7, .str "c", .int (-3)]) : ∃ x, v = vv x ∧ (Stp.fill x).law := by
  simp only [List.mem_cons, List.not_mem_nil, or_false] at h
  rcases h with rfl | rfl | rfl | rfl | rfl
  · exact ⟨.int 0, rfl, .inl rfl⟩
  · exact ⟨.a, rfl, .inr (.inl rfl)⟩
  · exact ⟨.int 7, rfl, .inr (.inr (.inl rfl))⟩
  · exact ⟨.c, rfl, .inr (.inr (.inr (.inl rfl)))⟩
  · exact ⟨.int (-3), rfl, .inr (.inr (.inr (.inr rfl)))⟩
theorem pick_k2 {v : V} (h : v ∈ [V.str "number", .str "word"]) : ∃ k, v = .str (kv k) ∧ k ≠ .none := by
  simp only [List.mem_cons, List.not_mem_nil, or_false] at h
  rcases h with rfl | rfl
  · exact ⟨.number, rfl, by decide⟩
  · exact ⟨.word, rfl, by decide⟩
theorem pick_k3 {v : V} (h : v ∈ [V.str "number", .str "word", .str "none"]) : ∃ k, v = .str (kv k) := by
  simp only [List.mem_cons, List.not_mem_nil, or_false] at h
  rcases h with rfl | rfl | rfl
  · exact ⟨.number, rfl⟩
  · exact ⟨.word, rfl⟩
  · exact ⟨.none, rfl⟩
theorem pick_br {v : V} {lo hi : Int} (h : v ∈ [V.str "blank", .str "refuse"]) (hl : lawR lo hi) : ∃ s : Stp, s.law ∧ [v, .int lo, .int hi] = parts s := by
  simp only [List.mem_cons, List.not_mem_nil, or_false] at h
  rcases h with rfl | rfl
  · exact ⟨.blank lo hi, hl, rfl⟩
  · exact ⟨.refuse lo hi, hl, rfl⟩
theorem pick_mt {v : V} (h : v ∈ [V.str "mirror", .str "turn"]) : ∃ s : Stp, s.law ∧ [v] = parts s := by
  simp only [List.mem_cons, List.not_mem_nil, or_false] at h
  rcases h with rfl | rfl
  · exact ⟨.mirror, trivial, rfl⟩
  · exact ⟨.turn, trivial, rfl⟩
theorem pick_lm {v : V} {lo : Int} (h : v ∈ [V.str "least", .str "most"]) (h1 : -10 ≤ lo ∧ lo ≤ 10) : ∃ s : Stp, s.law ∧ [v, .int lo] = parts s := by
  simp only [List.mem_cons, List.not_mem_nil, or_false] at h
  rcases h with rfl | rfl
  · exact ⟨.least lo, h1, rfl⟩
  · exact ⟨.most lo, h1, rfl⟩
def rIxSd : R2 := rIxS
theorem w_ixS {H : Hp} {Q : VK} {z : Str} {i : Int} {c : Nat} (hz : z.length ≤ sizeLine) (e : atI z.cps.toList i = some c) (q : Q (.str ⟨#[c]⟩) H) : rIxS (.str z) (.int i) H Q := ⟨z, i, c, rfl, rfl, hz, e, q⟩
theorem lt2 {r : Int} (h0 : 0 ≤ r) (h : r < 2) : r = 0 ∨ r = 1 := by omega
theorem lt3 {r : Int} (h0 : 0 ≤ r) (h : r < 3) : r = 0 ∨ r = 1 ∨ r = 2 := by omega
theorem lt4 {r : Int} (h0 : 0 ≤ r) (h : r < 4) : r = 0 ∨ r = 1 ∨ r = 2 ∨ r = 3 := by omega
theorem lt5 {r : Int} (h0 : 0 ≤ r) (h : r < 5) : r = 0 ∨ r = 1 ∨ r = 2 ∨ r = 3 ∨ r = 4 := by omega
theorem w_gunl {K : PySem.W.Frag} {n : Nat} {t : TGs} {a : Addr} {xs : List V} {σ : L2.St} {H : Hp} {R : L2.St → Hp → Prop} (h : SqL K H a xs) (hl : xs.length = n) (q : t xs σ H R) : gUnl K n t (.ref a) σ H R := ⟨a, xs, rfl, h, hl, q⟩
end TB

set_option maxHeartbeats 4000000
namespace TB
open PySem PySem.Spec PyProof.Rows L2 TW
/-! ### lists of steps -/
def StepAt (H : Hp) (s : Stp) (v : V) : Prop := ∃ t, v = .ref t ∧ H t = some (.tup (parts s))
abbrev StepsAt (H : Hp) : List Stp → List V → Prop := Paired (StepAt H)
theorem DrawsAt.notTup {H : Hp} {d t : Addr} {cells : Cells} {xs : List V} (h : DrawsAt H d cells) (ht : H t = some (.tup xs)) : t ≠ d := by
  rintro rfl
  obtain ⟨a, b, e, h1, _⟩ := h
  rw [h1] at ht; cases ht
theorem StepAt.same {H H' : Hp} {s : Stp} {v : V} (h : StepAt H s v) (sm : Same H H') : StepAt H' s v := by
  obtain ⟨t, e, h⟩ := h
  exact ⟨t, e, sm _ _ h⟩
theorem StepsAt.same {H H' : Hp} {ss : List Stp} {vs : List V} (h : StepsAt H ss vs) (sm : Same H H') : StepsAt H' ss vs := L2.Paired.mapP h fun _ _ q => q.same sm
theorem StepsAt.sameX {H H' : Hp} {ss : List Stp} {vs : List V} {d : Addr} {cells : Cells} (h : StepsAt H ss vs) (hd : DrawsAt H d cells) (sm : SameX d H H') : StepsAt H' ss vs := L2.Paired.mapP h fun _ _ ⟨t, e, ht⟩ => ⟨t, e, sm _ _ (hd.notTup ht) ht⟩
/-- a list D that H1 does not know changes -/
theorem StepsAt.upd {H : Hp} {ss : List Stp} {vs : List V} {D : Addr} {xs : List V} {o : HO} (h : StepsAt H ss vs) (hD : H D = some (.lst xs)) : StepsAt (upd H D o) ss vs := L2.Paired.mapP h fun _ _ ⟨t, e, ht⟩ => ⟨t, e, by
  rw [upd_ne (fun q => by rw [q, hD] at ht; cases ht)]; exact ht⟩
theorem DrawsAt.upd {H : Hp} {d : Addr} {cells : Cells} {D : Addr} {o : HO} (h : DrawsAt H d cells) (n1 : D ≠ d) (n2 : D ≠ cells.1) : DrawsAt (upd H D o) d cells := by
  obtain ⟨a, b, e, h1, h2, r⟩ := h
  exact ⟨a, b, e, by rw [upd_ne (Ne.symm n1)]; exact h1, by rw [upd_ne (Ne.symm n2)]; exact h2, r⟩
theorem DrawsAt.neC {H : Hp} {d p : Addr} {cells : Cells} (h : DrawsAt H d cells) (hp : H p = none) : p ≠ cells.1 := by
  obtain ⟨a, b, e, _, h2, _⟩ := h
  exact Ne.symm (ne_of_none h2 hp)
/-- a list of steps made while drawing -/
structure LstSteps (H0 : Hp) (d : Addr) (cells : Cells) (D : Addr) (n : Nat) (H : Hp) : Prop where
  sx : SameX d H0 H
  dr : DrawsAt H d cells
  ex : ∃ ss items, ss.length = n ∧ (∀ s ∈ ss, Stp.law s) ∧ H D = some (.lst items) ∧ StepsAt H ss items
theorem LstSteps.new {H0 : Hp} {d : Addr} {cells : Cells} {D : Addr} (dr : DrawsAt H0 d cells) (hD : H0 D = none) : LstSteps H0 d cells D 0 (upd H0 D (.lst [])) :=
  ⟨.of (Same.new hD), dr.same (Same.new hD), [], [], rfl, fun _ h => (List.not_mem_nil h).elim, upd_same, .nil⟩
theorem LstSteps.add {H0 H H' : Hp} {d D t : Addr} {cells : Cells} {n : Nat} {s : Stp} (dr0 : DrawsAt H0 d cells) (hD : H0 D = none) (h : LstSteps H0 d cells D n H) (hs : s.law) (ht : H' t = some (.tup (parts s))) (sx : SameX d H H') (dr : DrawsAt H' d cells) (hn : n < 100000) :
    ∃ a, H' D = some (.lst a) ∧ a.length < sizeLine ∧ LstSteps H0 d cells D (n + 1) (upd H' D (.lst (a ++ [.ref t]))) := by
  obtain ⟨sx1, dr1, ss, items, hl, hs1, hi, hp⟩ := h
  have nD := dr0.ne hD
  have e1 : H' D = some (.lst items) := sx _ _ nD hi
  have hlen := hp.length
  refine ⟨items, e1, len_lt (by omega), ?_⟩
  refine ⟨fun b o nb hb => ?_, dr.upd nD (dr0.neC hD), ss ++ [s], items ++ [.ref t], by simp [hl], fun x hx => ?_, upd_same, ?_⟩
  · rw [upd_ne (ne_of_none hb hD)]
    exact sx _ _ nb (sx1 _ _ nb hb)
  · rcases List.mem_append.mp hx with hx | hx
    · exact hs1 x hx
    · rw [List.mem_singleton] at hx; rw [hx]; exact hs
  · refine PySem.Paired.snoc (StepsAt.upd (hp.sameX dr1 sx) e1) ⟨t, rfl, ?_⟩
    rw [upd_ne (fun q => by rw [q, e1] at ht; cases ht)]
    exact ht
def spSteps : Sp := fun vs H Q _ => ∃ d m, ∃ cells : Cells, vs = [.ref d, .int m] ∧ 0 ≤ m ∧ m ≤ 50 ∧ DrawsAt H d cells ∧ ∀ D (n : Nat) H', (n : Int) ≤ m → H D = none → LstSteps H d cells D n H' → Q (.ref D) H'
theorem go_steps {H : Hp} {Q : VK} {E : XK} {d : Addr} {m : Int} {cells : Cells} (h0 : 0 ≤ m) (h1 : m ≤ 50) (hd : DrawsAt H d cells) (q : ∀ D (n : Nat) H', (n : Int) ≤ m → H D = none → LstSteps H d cells D n H' → Q (.ref D) H') : spSteps [.ref d, .int m] H Q E := ⟨d, m, cells, rfl, h0, h1, hd, q⟩
end TB

set_option maxHeartbeats 4000000
namespace TB
open PySem PySem.Spec PyProof.Rows L2 TW
/-! ### the law's own reading of a step -/
def isIn (x : V) (lo hi : Int) : Bool := match x with
  | .int i => decide (lo ≤ i) && decide (i ≤ hi)
  | _ => false
def vGood (x : V) : Bool := decide (x = .non) || (isIn x (-40) 40 || (isS x && inW x ["a", "b", "c"]))
def kindsOf (z : Str) : List Str := if z = "bar" then ["number", "word", "none"] else ["number", "word"]
def twoGood (z : Str) (x : V) : Bool :=
  if inW (.str z) ["least", "most"] = true then isIn x (-40) 40
  else if z = "shift" then isIn x (-20) 20
  else if z = "fold" then isIn x 2 10 && inM x [2, 3, 4, 5, 6, 10]
  else if z = "fill" then (!decide (x = .non)) && vGood x
  else inW (.str z) ["void", "bar"] && (isS x && inW x (kindsOf z))
def threeGood (z : Str) (x y : V) : Bool :=
  if z = "round" then (isIn x 2 10 && inM x [2, 3, 4, 5, 6, 10]) && (isS y && inW y ["down", "up", "near"])
  else if z = "replace" then vGood x && vGood y
  else if inW (.str z) ["clamp", "blank", "refuse"] = false then false
  else isIn x (-40) 40 && (isIn y (-40) 40 && leV x y)
def lgoodT : List V → Bool
  | [.str z] => inW (.str z) ["mirror", "turn"]
  | [.str z, x] => twoGood z x
  | [.str z, x, y] => threeGood z x y
  | _ => false
theorem formOk_len {xs : List V} {f : Str} (h : xs.length ≠ f.length) : formOk xs f = false := by unfold formOk; rw [decide_eq_false h] <;> rfl
theorem formOk_1 {x : V} {f : Str} {c : Nat} (hf : signs f = [.str ⟨#[c]⟩]) (hl : f.length = 1) (hn : f ≠ "ab") : formOk [x] f = isPart x ⟨#[c]⟩ := by
  unfold formOk partsOk partBs
  rw [hf, hl, if_neg hn]
  show (decide (1 = 1) && (([isPart x ⟨#[c]⟩].all id) && true)) = _
  simp
theorem formOk_2 {x y : V} {f : Str} {c d : Nat} (hf : signs f = [.str ⟨#[c]⟩, .str ⟨#[d]⟩]) (hl : f.length = 2) : formOk [x, y] f = (isPart x ⟨#[c]⟩ && (isPart y ⟨#[d]⟩ && (if f = "ab" then leV x y else true))) := by
  unfold formOk partsOk partBs
  rw [hf, hl]
  show (decide (2 = 2) && (([isPart x ⟨#[c]⟩, isPart y ⟨#[d]⟩].all id) && (if f = "ab" then leV x y else true))) = _
  simp [Bool.and_assoc]
theorem isSm_in (x : V) : isSm x 40 = isIn x (-40) 40 := by cases x <;> rfl
theorem isSm_in20 (x : V) : isSm x 20 = isIn x (-20) 20 := by cases x <;> rfl
theorem inM_in (x : V) : (isN x && inM x MODULI) = (isIn x 2 10 && inM x [2, 3, 4, 5, 6, 10]) := by
  cases x <;> first | rfl | skip
  rename_i i
  show inM (.int i) MODULI = (isIn (.int i) 2 10 && inM (.int i) MODULI)
  cases e : inM (.int i) MODULI with
  | false => simp
  | true =>
    have h : i = 2 ∨ i = 3 ∨ i = 4 ∨ i = 5 ∨ i = 6 ∨ i = 10 := by
      have h2 : (MODULI.any (· == i)) = true := e
      simp [MODULI] at h2
      omega
    show true = ((decide (2 ≤ i) && decide (i ≤ 10)) && true)
    rw [decide_eq_true (by omega), decide_eq_true (by omega)] <;> rfl
theorem wordS (x : V) (l : List Str) : (isS x && inW x l) = inW x l := by cases x <;> simp [isS, inW]
theorem part_v_eq (x : V) : isPart x "v" = vGood x := by
  show ((decide (x = .non) && true) || (isSm x 40 || (isS x && inW x WORDS))) = _
  rw [Bool.and_true, isSm_in] <;> rfl
theorem part_f_eq (x : V) : isPart x "f" = ((!decide (x = .non)) && vGood x) := by
  show ((decide (x = .non) && false) || (isSm x 40 || (isS x && inW x WORDS))) = _
  rw [Bool.and_false, Bool.false_or, isSm_in]
  unfold vGood
  cases x <;> first | rfl | (rw [decide_eq_false (by intro e; cases e)]; rfl)
theorem part_w_eq (x : V) : isPart x "w" = (isS x && inW x ["down", "up", "near"]) := by
  show (if isS x = false then false else inW x WAYS) = _
  cases x <;> rfl
theorem part_k_eq (x : V) : isPart x "k" = (isS x && inW x ["number", "word"]) := by
  show (if isS x = false then false else inW x ["number", "word"] || (false && decide (x = .str "none"))) = _
  cases x <;> first | rfl | (simp [isS])
theorem part_n_eq (x : V) : isPart x "n" = (isS x && inW x ["number", "word", "none"]) := by
  show (if isS x = false then false else inW x ["number", "word"] || (true && decide (x = .str "none"))) = _
  cases x <;> first | rfl | skip
  rename_i z
  show (inW (.str z) ["number", "word"] || (true && decide (V.str z = .str "none"))) = inW (.str z) ["number", "word", "none"]
  unfold inW
  simp only [List.any_cons, List.any_nil, Bool.true_and, Bool.or_false]
  rw [show decide (V.str z = .str "none") = (("none" : Str) == z) from by
    by_cases e : z = "none"
    · subst e; decide +kernel
    · rw [decide_eq_false (fun q => e (V.str.inj q))]
      exact (beq_eq_false_iff_ne.mpr (fun q => e q.symm)).symm]
  rw [Bool.or_assoc]
theorem forms_no {z : Str} (h1 : z ≠ "clamp") (h2 : z ≠ "least") (h3 : z ≠ "most") (h4 : z ≠ "round") (h5 : z ≠ "shift") (h6 : z ≠ "fold") (h7 : z ≠ "mirror") (h8 : z ≠ "turn") (h9 : z ≠ "blank") (h10 : z ≠ "refuse") (h11 : z ≠ "fill") (h12 : z ≠ "replace") (h13 : z ≠ "void") (h14 : z ≠ "bar") : FORMS.lookup z = none := by
  unfold FORMS
  simp only [List.lookup]
  have f : ∀ {y : Str}, z ≠ y → (z == y) = false := fun h => beq_eq_false_iff_ne.mpr h
  rw [f h1, f h2, f h3, f h4, f h5, f h6, f h7, f h8, f h9, f h10, f h11, f h12, f h13, f h14]
end TB

set_option maxHeartbeats 4000000

namespace TB
open PySem PySem.Spec PyProof.Rows L2 TW
theorem lg_clamp (xs : List V) : lgoodT (.str "clamp" :: xs) = isStepT (.str "clamp" :: xs) := by
  rw [isStepT_yes (f := "ab") (by decide +kernel)]
  match xs with
  | [] => exact (show lgoodT [.str "clamp"] = false by decide +kernel).trans (formOk_len (by decide)).symm
  | [x] =>
    rw [formOk_len (by simp; decide)]
    show (inW (.str "clamp") ["void", "bar"] && (isS x && inW x (kindsOf "clamp"))) = false
    rw [show inW (.str "clamp") ["void", "bar"] = false by decide +kernel, Bool.false_and]
  | [x, y] =>
    rw [formOk_2 (c := 97) (d := 98) (by decide +kernel) (by decide +kernel)]
    rw [if_pos rfl]
    show (isIn x (-40) 40 && (isIn y (-40) 40 && leV x y)) = (isSm x 40 && (isSm y 40 && leV x y))
    rw [isSm_in, isSm_in]
  | _ :: _ :: _ :: r => exact (show lgoodT (.str "clamp" :: _ :: _ :: _ :: r) = false from rfl).trans (formOk_len (by simp only [List.length_cons]; show r.length + 1 + 1 + 1 ≠ 2; omega)).symm
theorem lg_least (xs : List V) : lgoodT (.str "least" :: xs) = isStepT (.str "least" :: xs) := by
  rw [isStepT_yes (f := "i") (by decide +kernel)]
  match xs with
  | [] => exact (show lgoodT [.str "least"] = false by decide +kernel).trans (formOk_len (by decide)).symm
  | [x] =>
    rw [formOk_1 (c := 105) (by decide +kernel) (by decide +kernel) (by decide +kernel)]
    exact (isSm_in x).symm
  | [x, y] =>
    rw [formOk_len (by simp; decide)]
    rfl
  | _ :: _ :: _ :: r => exact (show lgoodT (.str "least" :: _ :: _ :: _ :: r) = false from rfl).trans (formOk_len (by simp only [List.length_cons]; show r.length + 1 + 1 + 1 ≠ 1; omega)).symm
theorem lg_most (xs : List V) : lgoodT (.str "most" :: xs) = isStepT (.str "most" :: xs) := by
  rw [isStepT_yes (f := "i") (by decide +kernel)]
  match xs with
  | [] => exact (show lgoodT [.str "most"] = false by decide +kernel).trans (formOk_len (by decide)).symm
  | [x] =>
    rw [formOk_1 (c := 105) (by decide +kernel) (by decide +kernel) (by decide +kernel)]
    exact (isSm_in x).symm
  | [x, y] =>
    rw [formOk_len (by simp; decide)]
    rfl
  | _ :: _ :: _ :: r => exact (show lgoodT (.str "most" :: _ :: _ :: _ :: r) = false from rfl).trans (formOk_len (by simp only [List.length_cons]; show r.length + 1 + 1 + 1 ≠ 1; omega)).symm
theorem lg_round (xs : List V) : lgoodT (.str "round" :: xs) = isStepT (.str "round" :: xs) := by
  rw [isStepT_yes (f := "mw") (by decide +kernel)]
  match xs with
  | [] => exact (show lgoodT [.str "round"] = false by decide +kernel).trans (formOk_len (by decide)).symm
  | [x] =>
    rw [formOk_len (by simp; decide)]
    show (inW (.str "round") ["void", "bar"] && (isS x && inW x (kindsOf "round"))) = false
    rw [show inW (.str "round") ["void", "bar"] = false by decide +kernel, Bool.false_and]
  | [x, y] =>
    rw [formOk_2 (c := 109) (d := 119) (by decide +kernel) (by decide +kernel)]
    rw [if_neg (by decide +kernel), Bool.and_true]
    show ((isIn x 2 10 && inM x [2, 3, 4, 5, 6, 10]) && (isS y && inW y ["down", "up", "near"])) = (isPart x "m" && isPart y "w")
    rw [part_w_eq, ← inM_in] <;> rfl
  | _ :: _ :: _ :: r => exact (show lgoodT (.str "round" :: _ :: _ :: _ :: r) = false from rfl).trans (formOk_len (by simp only [List.length_cons]; show r.length + 1 + 1 + 1 ≠ 2; omega)).symm
theorem lg_shift (xs : List V) : lgoodT (.str "shift" :: xs) = isStepT (.str "shift" :: xs) := by
  rw [isStepT_yes (f := "d") (by decide +kernel)]
  match xs with
  | [] => exact (show lgoodT [.str "shift"] = false by decide +kernel).trans (formOk_len (by decide)).symm
  | [x] =>
    rw [formOk_1 (c := 100) (by decide +kernel) (by decide +kernel) (by decide +kernel)]
    exact (isSm_in20 x).symm
  | [x, y] =>
    rw [formOk_len (by simp; decide)]
    rfl
  | _ :: _ :: _ :: r => exact (show lgoodT (.str "shift" :: _ :: _ :: _ :: r) = false from rfl).trans (formOk_len (by simp only [List.length_cons]; show r.length + 1 + 1 + 1 ≠ 1; omega)).symm
theorem lg_fold (xs : List V) : lgoodT (.str "fold" :: xs) = isStepT (.str "fold" :: xs) := by
  rw [isStepT_yes (f := "m") (by decide +kernel)]
  match xs with
  | [] => exact (show lgoodT [.str "fold"] = false by decide +kernel).trans (formOk_len (by decide)).symm
  | [x] =>
    rw [formOk_1 (c := 109) (by decide +kernel) (by decide +kernel) (by decide +kernel)]
    exact (inM_in x).symm
  | [x, y] =>
    rw [formOk_len (by simp; decide)]
    rfl
  | _ :: _ :: _ :: r => exact (show lgoodT (.str "fold" :: _ :: _ :: _ :: r) = false from rfl).trans (formOk_len (by simp only [List.length_cons]; show r.length + 1 + 1 + 1 ≠ 1; omega)).symm
theorem lg_mirror (xs : List V) : lgoodT (.str "mirror" :: xs) = isStepT (.str "mirror" :: xs) := by
  rw [isStepT_yes (f := "") (by decide +kernel)]
  match xs with
  | [] => decide +kernel
  | [x] =>
    rw [formOk_len (by simp; decide)]
    show (inW (.str "mirror") ["void", "bar"] && (isS x && inW x (kindsOf "mirror"))) = false
    rw [show inW (.str "mirror") ["void", "bar"] = false by decide +kernel, Bool.false_and]
  | [x, y] =>
    rw [formOk_len (by simp; decide)]
    rfl
  | _ :: _ :: _ :: r => exact (show lgoodT (.str "mirror" :: _ :: _ :: _ :: r) = false from rfl).trans (formOk_len (by simp only [List.length_cons]; show r.length + 1 + 1 + 1 ≠ 0; omega)).symm
theorem lg_turn (xs : List V) : lgoodT (.str "turn" :: xs) = isStepT (.str "turn" :: xs) := by
  rw [isStepT_yes (f := "") (by decide +kernel)]
  match xs with
  | [] => decide +kernel
  | [x] =>
    rw [formOk_len (by simp; decide)]
    show (inW (.str "turn") ["void", "bar"] && (isS x && inW x (kindsOf "turn"))) = false
    rw [show inW (.str "turn") ["void", "bar"] = false by decide +kernel, Bool.false_and]
  | [x, y] =>
    rw [formOk_len (by simp; decide)]
    rfl
  | _ :: _ :: _ :: r => exact (show lgoodT (.str "turn" :: _ :: _ :: _ :: r) = false from rfl).trans (formOk_len (by simp only [List.length_cons]; show r.length + 1 + 1 + 1 ≠ 0; omega)).symm
theorem lg_blank (xs : List V) : lgoodT (.str "blank" :: xs) = isStepT (.str "blank" :: xs) := by
  rw [isStepT_yes (f := "ab") (by decide +kernel)]
  match xs with
  | [] => exact (show lgoodT [.str "blank"] = false by decide +kernel).trans (formOk_len (by decide)).symm
  | [x] =>
    rw [formOk_len (by simp; decide)]
    show (inW (.str "blank") ["void", "bar"] && (isS x && inW x (kindsOf "blank"))) = false
    rw [show inW (.str "blank") ["void", "bar"] = false by decide +kernel, Bool.false_and]
  | [x, y] =>
    rw [formOk_2 (c := 97) (d := 98) (by decide +kernel) (by decide +kernel)]
    rw [if_pos rfl]
    show (isIn x (-40) 40 && (isIn y (-40) 40 && leV x y)) = (isSm x 40 && (isSm y 40 && leV x y))
    rw [isSm_in, isSm_in]
  | _ :: _ :: _ :: r => exact (show lgoodT (.str "blank" :: _ :: _ :: _ :: r) = false from rfl).trans (formOk_len (by simp only [List.length_cons]; show r.length + 1 + 1 + 1 ≠ 2; omega)).symm
theorem lg_refuse (xs : List V) : lgoodT (.str "refuse" :: xs) = isStepT (.str "refuse" :: xs) := by
  rw [isStepT_yes (f := "ab") (by decide +kernel)]
  match xs with
  | [] => exact (show lgoodT [.str "refuse"] = false by decide +kernel).trans (formOk_len (by decide)).symm
  | [x] =>
    rw [formOk_len (by simp; decide)]
    show (inW (.str "refuse") ["void", "bar"] && (isS x && inW x (kindsOf "refuse"))) = false
    rw [show inW (.str "refuse") ["void", "bar"] = false by decide +kernel, Bool.false_and]
  | [x, y] =>
    rw [formOk_2 (c := 97) (d := 98) (by decide +kernel) (by decide +kernel)]
    rw [if_pos rfl]
    show (isIn x (-40) 40 && (isIn y (-40) 40 && leV x y)) = (isSm x 40 && (isSm y 40 && leV x y))
    rw [isSm_in, isSm_in]
  | _ :: _ :: _ :: r => exact (show lgoodT (.str "refuse" :: _ :: _ :: _ :: r) = false from rfl).trans (formOk_len (by simp only [List.length_cons]; show r.length + 1 + 1 + 1 ≠ 2; omega)).symm
theorem lg_fill (xs : List V) : lgoodT (.str "fill" :: xs) = isStepT (.str "fill" :: xs) := by
  rw [isStepT_yes (f := "f") (by decide +kernel)]
  match xs with
  | [] => exact (show lgoodT [.str "fill"] = false by decide +kernel).trans (formOk_len (by decide)).symm
  | [x] =>
    rw [formOk_1 (c := 102) (by decide +kernel) (by decide +kernel) (by decide +kernel)]
    exact (part_f_eq x).symm
  | [x, y] =>
    rw [formOk_len (by simp; decide)]
    rfl
  | _ :: _ :: _ :: r => exact (show lgoodT (.str "fill" :: _ :: _ :: _ :: r) = false from rfl).trans (formOk_len (by simp only [List.length_cons]; show r.length + 1 + 1 + 1 ≠ 1; omega)).symm
theorem lg_replace (xs : List V) : lgoodT (.str "replace" :: xs) = isStepT (.str "replace" :: xs) := by
  rw [isStepT_yes (f := "vv") (by decide +kernel)]
  match xs with
  | [] => exact (show lgoodT [.str "replace"] = false by decide +kernel).trans (formOk_len (by decide)).symm
  | [x] =>
    rw [formOk_len (by simp; decide)]
    show (inW (.str "replace") ["void", "bar"] && (isS x && inW x (kindsOf "replace"))) = false
    rw [show inW (.str "replace") ["void", "bar"] = false by decide +kernel, Bool.false_and]
  | [x, y] =>
    rw [formOk_2 (c := 118) (d := 118) (by decide +kernel) (by decide +kernel)]
    rw [if_neg (by decide +kernel), Bool.and_true]
    show (vGood x && vGood y) = (isPart x "v" && isPart y "v")
    rw [part_v_eq, part_v_eq]
  | _ :: _ :: _ :: r => exact (show lgoodT (.str "replace" :: _ :: _ :: _ :: r) = false from rfl).trans (formOk_len (by simp only [List.length_cons]; show r.length + 1 + 1 + 1 ≠ 2; omega)).symm
theorem lg_void (xs : List V) : lgoodT (.str "void" :: xs) = isStepT (.str "void" :: xs) := by
  rw [isStepT_yes (f := "k") (by decide +kernel)]
  match xs with
  | [] => exact (show lgoodT [.str "void"] = false by decide +kernel).trans (formOk_len (by decide)).symm
  | [x] =>
    rw [formOk_1 (c := 107) (by decide +kernel) (by decide +kernel) (by decide +kernel)]
    show (inW (.str "void") ["void", "bar"] && (isS x && inW x (kindsOf "void"))) = isPart x "k"
    rw [part_k_eq, show inW (.str "void") ["void", "bar"] = true by decide +kernel, show kindsOf "void" = (["number", "word"] : List Str) by decide +kernel, Bool.true_and]
  | [x, y] =>
    rw [formOk_len (by simp; decide)]
    rfl
  | _ :: _ :: _ :: r => exact (show lgoodT (.str "void" :: _ :: _ :: _ :: r) = false from rfl).trans (formOk_len (by simp only [List.length_cons]; show r.length + 1 + 1 + 1 ≠ 1; omega)).symm
theorem lg_bar (xs : List V) : lgoodT (.str "bar" :: xs) = isStepT (.str "bar" :: xs) := by
  rw [isStepT_yes (f := "n") (by decide +kernel)]
  match xs with
  | [] => exact (show lgoodT [.str "bar"] = false by decide +kernel).trans (formOk_len (by decide)).symm
  | [x] =>
    rw [formOk_1 (c := 110) (by decide +kernel) (by decide +kernel) (by decide +kernel)]
    show (inW (.str "bar") ["void", "bar"] && (isS x && inW x (kindsOf "bar"))) = isPart x "n"
    rw [part_n_eq, show inW (.str "bar") ["void", "bar"] = true by decide +kernel, show kindsOf "bar" = (["number", "word", "none"] : List Str) by decide +kernel, Bool.true_and]
  | [x, y] =>
    rw [formOk_len (by simp; decide)]
    rfl
  | _ :: _ :: _ :: r => exact (show lgoodT (.str "bar" :: _ :: _ :: _ :: r) = false from rfl).trans (formOk_len (by simp only [List.length_cons]; show r.length + 1 + 1 + 1 ≠ 1; omega)).symm
theorem lg_none {z : Str} (xs : List V) (h1 : z ≠ "clamp") (h2 : z ≠ "least") (h3 : z ≠ "most") (h4 : z ≠ "round") (h5 : z ≠ "shift") (h6 : z ≠ "fold") (h7 : z ≠ "mirror") (h8 : z ≠ "turn") (h9 : z ≠ "blank") (h10 : z ≠ "refuse") (h11 : z ≠ "fill") (h12 : z ≠ "replace") (h13 : z ≠ "void") (h14 : z ≠ "bar") : lgoodT (.str z :: xs) = isStepT (.str z :: xs) := by
  rw [isStepT_no (forms_no h1 h2 h3 h4 h5 h6 h7 h8 h9 h10 h11 h12 h13 h14)]
  have inN : ∀ {l : List Str}, (∀ y ∈ l, z ≠ y) → inW (.str z) l = false := fun h => by
    unfold inW
    exact List.any_eq_false.mpr fun y hy => by simp only [beq_iff_eq]; exact fun e => h y hy e.symm
  match xs with
  | [] => exact inN (by simp [h7, h8])
  | [x] =>
    show twoGood z x = false
    unfold twoGood
    rw [inN (l := ["least", "most"]) (by simp [h2, h3]), if_neg Bool.false_ne_true, if_neg h5, if_neg h6, if_neg h11, inN (l := ["void", "bar"]) (by simp [h13, h14]), Bool.false_and]
  | [x, y] =>
    show threeGood z x y = false
    unfold threeGood
    rw [if_neg h4, if_neg h12, inN (l := ["clamp", "blank", "refuse"]) (by simp [h1, h9, h10]), if_pos rfl]
  | _ :: _ :: _ :: _ => rfl
theorem lgood_eq (z : Str) (xs : List V) : lgoodT (.str z :: xs) = isStepT (.str z :: xs) := by
  by_cases h1 : z = "clamp"
  · subst h1; exact lg_clamp xs
  by_cases h2 : z = "least"
  · subst h2; exact lg_least xs
  by_cases h3 : z = "most"
  · subst h3; exact lg_most xs
  by_cases h4 : z = "round"
  · subst h4; exact lg_round xs
  by_cases h5 : z = "shift"
  · subst h5; exact lg_shift xs
  by_cases h6 : z = "fold"
  · subst h6; exact lg_fold xs
  by_cases h7 : z = "mirror"
  · subst h7; exact lg_mirror xs
  by_cases h8 : z = "turn"
  · subst h8; exact lg_turn xs
  by_cases h9 : z = "blank"
  · subst h9; exact lg_blank xs
  by_cases h10 : z = "refuse"
  · subst h10; exact lg_refuse xs
  by_cases h11 : z = "fill"
  · subst h11; exact lg_fill xs
  by_cases h12 : z = "replace"
  · subst h12; exact lg_replace xs
  by_cases h13 : z = "void"
  · subst h13; exact lg_void xs
  by_cases h14 : z = "bar"
  · subst h14; exact lg_bar xs
  exact lg_none xs h1 h2 h3 h4 h5 h6 h7 h8 h9 h10 h11 h12 h13 h14
end TB

set_option maxHeartbeats 4000000
namespace TB
open PySem PySem.Spec PyProof.Rows L2 TW
def spLInt : Sp := fun vs H Q _ => ∃ x lo hi, vs = [x, .int lo, .int hi] ∧ flatV x = true ∧ Q (.bl (isIn x lo hi)) H
def spVGood : Sp := fun vs H Q _ => ∃ x, vs = [x] ∧ flatV x = true ∧ Ret (.bl (vGood x)) H Q
def spTwo (K : PySem.W.Frag) : Sp := fun vs H Q _ => ∃ a z x, vs = [.ref a] ∧ SqT K H a [.str z, x] ∧ flatV x = true ∧ Ret (.bl (twoGood z x)) H Q
theorem go_lint {H : Hp} {Q : VK} {E : XK} {x : V} {lo hi : Int} (h : flatV x = true) (q : Q (.bl (isIn x lo hi)) H) : spLInt [x, .int lo, .int hi] H Q E := ⟨x, lo, hi, rfl, h, q⟩
theorem go_vgood {H : Hp} {Q : VK} {E : XK} {x : V} (h : flatV x = true) (q : ∀ H2, Same H H2 → Q (.bl (vGood x)) H2) : spVGood [x] H Q E := ⟨x, rfl, h, q⟩
theorem go_two {K : PySem.W.Frag} {H : Hp} {Q : VK} {E : XK} {a : Addr} {z : Str} {x : V} (h : SqT K H a [.str z, x]) (hx : flatV x = true) (q : ∀ H2, Same H H2 → Q (.bl (twoGood z x)) H2) : spTwo K [.ref a] H Q E := ⟨a, z, x, rfl, h, hx, q⟩
theorem b_eq {b : Bool} : (b = true) = (b = true) := rfl
theorem isB_int {x : V} (h : flatV x = true) : (isB x "int" && !isB x "bool") = isN x := by cases x <;> first | rfl | cases h | (rename_i b; cases b <;> rfl)
theorem w_inTi' {K : PySem.W.Frag} {H : Hp} {Q : VK} {p : Addr} {x : V} {li : List Int} (h : SqL K H p (vints li)) (fx : isN x = true) (q : Q (.bl (inM x li)) H) : rIn K false x (.ref p) H Q := w_inL h (by cases x <;> first | rfl | cases fx) (flat_ints li) (by rw [inV_ints fx]; exact q)
theorem w_inLs {K : PySem.W.Frag} {H : Hp} {Q : VK} {p : Addr} {x : V} {l : List Str} (h : SqL K H p (vstrs l)) (fx : flatV x = true) (q : Q (.bl (inW x l)) H) : rIn K false x (.ref p) H Q := w_inL h fx (flat_strs l) (by rw [inV_strs fx]; exact q)
theorem w_notInTs {K : PySem.W.Frag} {H : Hp} {Q : VK} {p : Addr} {x : V} {l : List Str} (h : SqT K H p (vstrs l)) (fx : flatV x = true) (q : Q (.bl (!inW x l)) H) : rIn K true x (.ref p) H Q := w_notInT h fx (flat_strs l) (by rw [inV_strs fx]; exact q)
/-- a reading ends: what comes is what is told -/
theorem Ret.fin {u v : V} {H H2 : Hp} {Q : VK} (k : Ret v H Q) (s : Same H H2) (e : v = u) : Q u H2 := e ▸ k H2 s
end TB

set_option maxHeartbeats 4000000
namespace TB
open PySem PySem.Spec PyProof.Rows L2 TW
theorem w_cat {H : Hp} {Q : VK} {l b : Addr} {xs zs : List V} (h1 : H l = some (.lst xs)) (h2 : H b = some (.lst zs)) (hl : xs.length + zs.length ≤ sizeLine) (q : ∀ p, H p = none → Q (.ref p) (upd H p (.lst (xs ++ zs)))) : rCat (.ref l) (.ref b) H Q := ⟨l, b, xs, zs, rfl, rfl, h1, h2, hl, q⟩
/-! ### laying, the heap told by what it holds -/
def rTup (xs : List V) (H : Hp) (Q : VK) : Prop := xs.length ≤ sizeLine ∧ ∀ p, H p = none → Q (.ref p) (upd H p (.tup xs))
def rLst (xs : List V) (H : Hp) (Q : VK) : Prop := xs.length ≤ sizeLine ∧ ∀ p, H p = none → Q (.ref p) (upd H p (.lst xs))
theorem w_tupR {ts : TA} {σ : L2.St} {H : Hp} {Q : VK} (h : ts σ H fun xs H1 => rTup xs H1 Q) : tTup ts σ H Q := h
theorem w_lstR {ts : TA} {σ : L2.St} {H : Hp} {Q : VK} (h : ts σ H fun xs H1 => rLst xs H1 Q) : tLst ts σ H Q := h
theorem w_tupA {xs : List V} {H : Hp} {Q : VK} (hn : xs.length ≤ sizeLine) (q : ∀ p H2, H p = none → Same H H2 → H2 p = some (.tup xs) → Q (.ref p) H2) : rTup xs H Q := ⟨hn, fun p hp => q p _ hp (Same.new hp) upd_same⟩
theorem w_lstA {xs : List V} {H : Hp} {Q : VK} (hn : xs.length ≤ sizeLine) (q : ∀ p H2, H p = none → Same H H2 → H2 p = some (.lst xs) → Q (.ref p) H2) : rLst xs H Q := ⟨hn, fun p hp => q p _ hp (Same.new hp) upd_same⟩
theorem w_catA {H : Hp} {Q : VK} {l b : Addr} {xs zs : List V} (h1 : H l = some (.lst xs)) (h2 : H b = some (.lst zs)) (hl : xs.length + zs.length ≤ sizeLine) (q : ∀ p H2, H p = none → Same H H2 → H2 p = some (.lst (xs ++ zs)) → Q (.ref p) H2) : rCat (.ref l) (.ref b) H Q := ⟨l, b, xs, zs, rfl, rfl, h1, h2, hl, fun p hp => q p _ hp (Same.new hp) upd_same⟩
def dueT (its : List Item) : List V := match dueI its with
  | none => [.str "good"]
  | some i => [.str "step", .int i]
theorem dueT_many {its : List Item} (h : 5 < its.length) : dueT its = [.str "step", .int 5] := by unfold dueT; rw [dueI_many h]
theorem dueT_bad {its : List Item} {i : Nat} (h : ¬ 5 < its.length) (e : badAt its 0 = some i) : dueT its = [.str "step", .int (i : Int)] := by unfold dueT; rw [dueI_bad h e]
theorem dueT_none {its : List Item} (h : ¬ 5 < its.length) (e : badAt its 0 = none) : dueT its = [.str "good"] := by unfold dueT; rw [dueI_none h e]
def spDue (K : PySem.W.Frag) : Sp := fun vs H Q _ => ∃ l its items, vs = [.ref l] ∧ SqL K H l items ∧ Items K H its items ∧ (∀ it ∈ its, it.ok) ∧ its.length ≤ 1000 ∧ ∀ t H', Same H H' → H' t = some (.tup (dueT its)) → Q (.ref t) H'
theorem go_due {K : PySem.W.Frag} {H : Hp} {Q : VK} {E : XK} {l : Addr} {its : List Item} {items : List V} (h : SqL K H l items) (hi : Items K H its items) (ho : ∀ it ∈ its, it.ok) (hl : its.length ≤ 1000) (q : ∀ t H', Same H H' → H' t = some (.tup (dueT its)) → Q (.ref t) H') : spDue K [.ref l] H Q E := ⟨l, its, items, rfl, h, hi, ho, hl, q⟩
/-- a good item: it can be laid as data -/
def pd : V → PyData
  | .non => .none
  | .bl b => .bool b
  | .int i => .int i
  | .str x => .str x
  | _ => .none
def itD : Item → PyData
  | .non => .none
  | .tup xs => .tuple (xs.map pd)
  | .lst xs => .list (xs.map pd)
def Item.lay (it : Item) : Prop := it.ok ∧ (itD it).canLay0 = true ∧ (itD it).depth ≤ 3
def spOdd (K : PySem.W.Frag) : Sp := fun vs H Q _ => ∃ d, ∃ cells : Cells, vs = [.ref d] ∧ DrawsAt H d cells ∧ ∀ v it H', (∀ a, v = .ref a → H a = none) → it.lay → ItemAt K H' it v → SameX d H H' → DrawsAt H' d cells → Q v H'
theorem go_odd {K : PySem.W.Frag} {H : Hp} {Q : VK} {E : XK} {d : Addr} {cells : Cells} (hd : DrawsAt H d cells) (q : ∀ v it H', (∀ a, v = .ref a → H a = none) → it.lay → ItemAt K H' it v → SameX d H H' → DrawsAt H' d cells → Q v H') : spOdd K [.ref d] H Q E := ⟨d, cells, rfl, hd, q⟩
theorem ItemAt.sameX {K : PySem.W.Frag} {H H' : Hp} {d : Addr} {v : V} {it : Item} (hn : ∀ a, v = .ref a → a ≠ d) (s : SameX d H H') (h : ItemAt K H it v) : ItemAt K H' it v := by
  cases it <;> cases v <;> first | exact h | exact h.elim | skip
  · rcases h with (h | ⟨o, h⟩) | h
    · exact .inl (.inl (s _ _ (hn _ rfl) h))
    · exact .inl (.inr ⟨o, s _ _ (hn _ rfl) h⟩)
    · exact .inr h
  · rcases h with (h | ⟨o, h⟩) | h
    · exact .inl (.inl (s _ _ (hn _ rfl) h))
    · exact .inl (.inr ⟨o, s _ _ (hn _ rfl) h⟩)
    · exact .inr h
/-- an odd thing that has been laid beside the draws, after H0 -/
def Odd (K : PySem.W.Frag) (H0 H : Hp) (d : Addr) (v : V) : Prop := (∀ a, v = .ref a → a ≠ d ∧ H0 a = none) ∧ ∃ it : Item, it.lay ∧ ItemAt K H it v
theorem odd_non {K : PySem.W.Frag} {H0 H : Hp} {d : Addr} : Odd K H0 H d .non := ⟨fun _ h => (nomatch h), Item.non, ⟨trivial, rfl, by decide⟩, rfl⟩
theorem odd_tup {K : PySem.W.Frag} {H0 H : Hp} {d p : Addr} {xs : List V} {cells : Cells} (h : H p = some (.tup xs)) (h0 : H0 p = none) (hd : DrawsAt H d cells) (f : xs.all flatV = true) (c : (itD (.tup xs)).canLay0 = true) (e : (itD (.tup xs)).depth ≤ 3) : Odd K H0 H d (.ref p) :=
  ⟨fun a q => by cases q; exact ⟨hd.notTup h, h0⟩, .tup xs, ⟨f, c, e⟩, tupAt h⟩
theorem odd_lst {K : PySem.W.Frag} {H0 H : Hp} {d p : Addr} {xs : List V} (h : H p = some (.lst xs)) (h0 : H0 p = none) (n : p ≠ d) (f : xs.all flatV = true) (c : (itD (.lst xs)).canLay0 = true) (e : (itD (.lst xs)).depth ≤ 3) : Odd K H0 H d (.ref p) :=
  ⟨fun a q => by cases q; exact ⟨n, h0⟩, .lst xs, ⟨f, c, e⟩, lstAt h⟩
end TB

set_option maxHeartbeats 4000000
namespace TB
open PySem PySem.Spec PyProof.Rows L2 TW
/-! ### items as data -/
theorem pd_dp {K : PySem.W.Frag} {H : Hp} {v : V} (h : flatV v = true) : Dp K H v (pd v) := by
  match v, h with
  | .non, _ => exact .non
  | .bl b, _ => exact .bl b
  | .int i, _ => exact .int i
  | .str x, _ => exact .str x
theorem pds_dp {K : PySem.W.Frag} {H : Hp} : ∀ {xs : List V}, xs.all flatV = true → DpAll K H xs (xs.map pd)
  | [], _ => .nil
  | x :: xs, h => by
    rw [List.all_cons] at h
    exact .cons (pd_dp (ba h).1) (pds_dp (ba h).2)
theorem item_dp {K : PySem.W.Frag} {H : Hp} {it : Item} {v : V} (h : ItemAt K H it v) (o : it.ok) : Dp K H v (itD it) := by
  cases it with
  | non => cases h; exact .non
  | tup xs => cases v <;> first | exact h.elim | exact .tup h (pds_dp o)
  | lst xs => cases v <;> first | exact h.elim | exact .lst h (pds_dp o)
theorem items_dp {K : PySem.W.Frag} {H : Hp} : ∀ {its : List Item} {vs : List V}, Items K H its vs → (∀ it ∈ its, it.ok) → DpAll K H vs (its.map itD)
  | _, _, .nil, _ => .nil
  | _, _, .cons h t, o => .cons (item_dp h (o _ List.mem_cons_self)) (items_dp t fun i hi => o i (List.mem_cons_of_mem _ hi))
theorem items_lay : ∀ {its : List Item}, (∀ it ∈ its, it.lay) → PyData.canLayAll0 (its.map itD) = true ∧ PyData.depthAll (its.map itD) ≤ 3
  | [], _ => ⟨by simp [PyData.canLayAll0], by simp [PyData.depthAll]⟩
  | it :: its, h => by
    obtain ⟨h1, h2⟩ := items_lay (its := its) fun i hi => h i (List.mem_cons_of_mem _ hi)
    obtain ⟨_, c, e⟩ := h it List.mem_cons_self
    refine ⟨?_, ?_⟩
    · show PyData.canLayAll0 (itD it :: its.map itD) = true
      simp only [PyData.canLayAll0, c, h1, Bool.and_self]
    · show PyData.depthAll (itD it :: its.map itD) ≤ 3
      simp only [PyData.depthAll]
      omega
theorem shaped_list {ds : List PyData} (h : PyData.canLayAll0 ds = true) (h2 : PyData.depthAll ds ≤ 3) : SeqAt.shaped (.list ds) = true := by
  unfold SeqAt.shaped
  rw [Bool.and_eq_true]
  refine ⟨by simpa [PyData.canLay0] using h, decide_eq_true ?_⟩
  simp only [PyData.depth]; omega
theorem shaped_tup {ds : List PyData} (h : PyData.canLayAll0 ds = true) (h2 : PyData.depthAll ds ≤ 3) : SeqAt.shaped (.tuple ds) = true := by
  unfold SeqAt.shaped
  rw [Bool.and_eq_true]
  refine ⟨by simpa [PyData.canLay0] using h, decide_eq_true ?_⟩
  simp only [PyData.depth]; omega
theorem eqv_self {d : PyData} (h : SeqAt.shaped d = true) : PyData.eqv d d = true := SeqAt.eqv_refl_plain d (PyData.plain_of_canLay0 d (SeqAt.canLay_of_shaped h))
theorem pd_lay {v : V} : (pd v).depth = 0 := by cases v <;> simp [pd, PyData.depth]
/-- parts of a step can be laid -/
theorem part_lay (s : Stp) : (Item.tup (parts s)).lay := by
  have c : ∀ {xs : List V}, (xs.all fun v => (pd v).canLay0) = true → (itD (.tup xs)).canLay0 = true := fun {xs} h => by
    show (PyData.tuple (xs.map pd)).canLay0 = true
    simp only [PyData.canLay0]
    induction xs with
    | nil => simp [PyData.canLayAll0]
    | cons x xs ih =>
      rw [List.all_cons] at h
      show PyData.canLayAll0 (pd x :: xs.map pd) = true
      simp only [PyData.canLayAll0, (ba h).1, ih (ba h).2, Bool.and_self]
  have e : ∀ {xs : List V}, (itD (.tup xs)).depth ≤ 3 := fun {xs} => by
    show (PyData.tuple (xs.map pd)).depth ≤ 3
    simp only [PyData.depth]
    have : PyData.depthAll (xs.map pd) = 0 := by
      induction xs with
      | nil => simp [PyData.depthAll]
      | cons x xs ih =>
        show PyData.depthAll (pd x :: xs.map pd) = 0
        simp only [PyData.depthAll, pd_lay, ih, Nat.max_self]
    omega
  have hi : ∀ i : Int, (pd (.int i)).canLay0 = true := fun i => by simp [pd, PyData.canLay0]
  have h : ∀ v : Val, (pd (vv v)).canLay0 = true := fun v => by cases v <;> first | exact hi _ | decide +kernel
  have hw : ∀ w : Way, (pd (.str (wv w))).canLay0 = true := fun w => by cases w <;> decide +kernel
  have hk : ∀ k : Kd, (pd (.str (kv k))).canLay0 = true := fun k => by cases k <;> decide +kernel
  refine ⟨parts_flat s, c ?_, e⟩
  cases s <;> simp only [parts, List.all_cons, List.all_nil, hi, h, hw, hk, Bool.and_true, Bool.true_and] <;> decide +kernel
end TB

set_option maxHeartbeats 4000000
namespace TB
open PySem PySem.Spec PyProof.Rows L2 TW
theorem Paired.take {α β : Type} {F : α → β → Prop} : ∀ {l₁ : List α} {l₂ : List β} (n : Nat), Paired F l₁ l₂ → Paired F (l₁.take n) (l₂.take n)
  | _, _, _, .nil => by simp; exact .nil
  | _, _, 0, _ => by simp; exact .nil
  | _, _, n + 1, .cons f t => .cons f (Paired.take n t)
theorem Paired.drop {α β : Type} {F : α → β → Prop} : ∀ {l₁ : List α} {l₂ : List β} (n : Nat), Paired F l₁ l₂ → Paired F (l₁.drop n) (l₂.drop n)
  | _, _, _, .nil => by simp; exact .nil
  | _, _, 0, h => by simpa using h
  | _, _, n + 1, .cons f t => Paired.drop n t
theorem Paired.app {α β : Type} {F : α → β → Prop} : ∀ {l₁ m₁ : List α} {l₂ m₂ : List β}, Paired F l₁ l₂ → Paired F m₁ m₂ → Paired F (l₁ ++ m₁) (l₂ ++ m₂)
  | _, _, _, _, .nil, h => h
  | _, _, _, _, .cons f t, h => .cons f (Paired.app t h)
theorem Paired.mapM {α β γ : Type} {F : α → β → Prop} {G : γ → β → Prop} {f : α → γ} (h : ∀ a b, F a b → G (f a) b) : ∀ {l₁ : List α} {l₂ : List β}, Paired F l₁ l₂ → Paired G (l₁.map f) l₂
  | _, _, .nil => .nil
  | _, _, .cons q t => .cons (h _ _ q) (Paired.mapM h t)
/-- a list at D under work, beside the draws at d -/
structure LL (K : PySem.W.Frag) (H : Hp) (d : Addr) (cells : Cells) (D : Addr) (its : List Item) (items : List V) : Prop where
  at_ : H D = some (.lst items)
  it : Items K H its items
  lay : ∀ it ∈ its, it.lay
  dr : DrawsAt H d cells
  nd : D ≠ d
  nc : D ≠ cells.1
  ne : ∀ v ∈ items, ∀ a, v = .ref a → a ≠ d ∧ a ≠ D
theorem LL.of {K : PySem.W.Frag} {H0 H : Hp} {d D : Addr} {cells : Cells} {n : Nat} (h : LstSteps H0 d cells D n H) (dr0 : DrawsAt H0 d cells) (hD : H0 D = none) : ∃ its items, its.length = n ∧ LL K H d cells D its items := by
  obtain ⟨sx, dr, ss, items, hl, hs, hi, hp⟩ := h
  refine ⟨ss.map fun s => .tup (parts s), items, by rw [List.length_map, hl], hi, Paired.mapM (fun s v q => ?_) hp, fun it hit => ?_, dr, dr0.ne hD, dr0.neC hD, fun v hv a e => ?_⟩
  · obtain ⟨t, rfl, ht⟩ := q
    exact tupAt ht
  · obtain ⟨s, _, rfl⟩ := List.mem_map.mp hit
    exact part_lay s
  · obtain ⟨i, hi'⟩ := List.getElem?_of_mem hv
    obtain ⟨s, _, t, e2, ht⟩ := Paired.at_ hp hi'
    rw [e] at e2
    cases e2
    exact ⟨dr.notTup ht, fun q => by rw [q, hi] at ht; cases ht⟩
theorem LL.sameX {K : PySem.W.Frag} {H H' : Hp} {d D : Addr} {cells : Cells} {its : List Item} {items : List V} (h : LL K H d cells D its items) (s : SameX d H H') (dr : DrawsAt H' d cells) : LL K H' d cells D its items := by
  refine ⟨s _ _ h.nd h.at_, ?_, h.lay, dr, h.nd, h.nc, h.ne⟩
  have key : ∀ {its : List Item} {items : List V}, (∀ v ∈ items, ∀ a, v = .ref a → a ≠ d ∧ a ≠ D) → Items K H its items → Items K H' its items := by
    intro its items hne hp
    induction hp with
    | nil => exact .nil
    | cons f t ih => exact .cons (f.sameX (fun a e => (hne _ List.mem_cons_self a e).1) s) (ih fun v hv => hne v (List.mem_cons_of_mem _ hv))
  exact key h.ne h.it
theorem LL.insert {K : PySem.W.Frag} {H H' : Hp} {d D : Addr} {cells : Cells} {its : List Item} {items : List V} {v : V} {it : Item} (h : LL K H d cells D its items) (h' : LL K H' d cells D its items) (n : Nat) (fr : ∀ a, v = .ref a → H a = none) (lay : it.lay) (hat : ItemAt K H' it v) :
    LL K (upd H' D (.lst (items.take n ++ [v] ++ items.drop n))) d cells D (its.take n ++ [it] ++ its.drop n) (items.take n ++ [v] ++ items.drop n) := by
  have hv : ∀ a, v = .ref a → a ≠ d ∧ a ≠ D := fun a e => ⟨h.dr.ne (fr a e), fun q => by rw [← q] at h; have := h.at_; rw [fr a e] at this; cases this⟩
  have up : ∀ {it : Item} {u : V}, (∀ a, u = .ref a → a ≠ d ∧ a ≠ D) → ItemAt K H' it u → ItemAt K (L2.upd H' D (.lst (items.take n ++ [v] ++ items.drop n))) it u := fun hu q => q.sameX (d := D) (fun a e => (hu a e).2) SameX.upd
  have key : ∀ {its : List Item} {items2 : List V}, (∀ v ∈ items2, ∀ a, v = .ref a → a ≠ d ∧ a ≠ D) → Items K H' its items2 → Items K (L2.upd H' D (.lst (items.take n ++ [v] ++ items.drop n))) its items2 := by
    intro its items2 hne hp
    induction hp with
    | nil => exact .nil
    | cons f t ih => exact .cons (up (fun a e => hne _ List.mem_cons_self a e) f) (ih fun v hv => hne v (List.mem_cons_of_mem _ hv))
  refine ⟨upd_same, Paired.app (Paired.app (Paired.take n (key h'.ne h'.it)) (.cons (up hv hat) .nil)) (Paired.drop n (key h'.ne h'.it)), fun i hi => ?_, h'.dr.upd h'.nd h'.nc, h'.nd, h'.nc, fun u hu a e => ?_⟩
  · rcases List.mem_append.mp hi with hi | hi
    · rcases List.mem_append.mp hi with hi | hi
      · exact h.lay _ (List.mem_of_mem_take hi)
      · rw [List.mem_singleton] at hi; rw [hi]; exact lay
    · exact h.lay _ (List.mem_of_mem_drop hi)
  · rcases List.mem_append.mp hu with hu | hu
    · rcases List.mem_append.mp hu with hu | hu
      · exact h.ne _ (List.mem_of_mem_take hu) a e
      · rw [List.mem_singleton] at hu; rw [hu] at e; exact hv a e
    · exact h.ne _ (List.mem_of_mem_drop hu) a e
/-! ### more readings -/
def rInsert : V → List V → Hp → VK → Prop := fun x vs H Q => ∃ (l : Addr) (xs : List V) (i : Int) (y : V), x = .ref l ∧ vs = [.int i, y] ∧ H l = some (.lst xs) ∧ xs.length < sizeLine ∧ 0 ≤ i ∧ i < 2 ^ 63 ∧
    Q .non (upd H l (.lst (xs.take i.toNat ++ [y] ++ xs.drop i.toNat)))
theorem mt_insertR {X : Cx} : MtR X "list.insert" rInsert := mt_insert
theorem w_insert {H : Hp} {Q : VK} {l : Addr} {xs : List V} {i : Int} {y : V} (h : H l = some (.lst xs)) (hl : xs.length < sizeLine) (h0 : 0 ≤ i) (h1 : i < 2 ^ 63) (q : Q .non (upd H l (.lst (xs.take i.toNat ++ [y] ++ xs.drop i.toNat)))) : rInsert (.ref l) [.int i, y] H Q := ⟨l, xs, i, y, rfl, rfl, h, hl, h0, h1, q⟩
theorem w_append {H : Hp} {Q : VK} {l : Addr} {xs : List V} {y : V} (h : H l = some (.lst xs)) (hl : xs.length < sizeLine) (q : Q .non (upd H l (.lst (xs ++ [y])))) : rAppend (.ref l) [y] H Q := ⟨l, xs, y, rfl, rfl, h, hl, q⟩
theorem w_bm {K : PySem.W.Frag} {T : String} {r : V → List V → Hp → VK → Prop} {to : TE} {t : TA} {σ : L2.St} {H : Hp} {Q : VK} (h : to σ H fun x H1 => tyV K T x H1 ∧ t σ H1 fun xs H2 => r x xs H2 Q) : tBM K T r to t σ H Q := h
theorem w_tyL {K : PySem.W.Frag} {H : Hp} {a : Addr} {xs : List V} {A : Prop} (h : SqL K H a xs) (q : A) : tyV K "list" (.ref a) H ∧ A := ⟨.inl ⟨rfl, xs, h⟩, q⟩
/-- try .. except X as n -/
def tTryA (K : PySem.W.Frag) (c : Value) (i : Nat) (ts : Addr → Value → Option Addr → TS) (Wout : WX) (tb : WX → TS) : TS := fun D σ H => tb (wAs K c i ts Wout D) D σ H
theorem ps_tryA {X : Cx} {x n : Str} {c : Value} {i : Nat} {body suite : List Stmt} {b₀ : Stmt} {np pos pos' : Pos} {tb : WX → TS} {ts : Addr → Value → Option Addr → TS} {Wout : WX}
    (hs : X.stack = X.env :: X.outer) (hf : X.env.frame = some X.env.locals) (hN : X.N.Nodup) (hi : X.N[i]? = some n) (hln : X.env.kindOf n = some .local) (hc : Names X x c) (tk : Takes X Wout)
    (hb : ∀ (W : WX) (pn : List (Addr × Obj)) (xe : Value → Shared → Prop), Takes (X.tr pn xe) W → PassesOwn (model X.prog X.w) X.A X.env xe → PSs (X.tr pn xe) body (tb W))
    (hsu : ∀ (a : Addr) (oe : Obj) (cls : Value) (d : Option Addr) (pn : List (Addr × Obj)), Zc cls d oe → (∃ vs, oe.data = .fields vs) → PSs (X.suite a ((a, oe) :: pn)) (b₀ :: suite) (ts a cls d)) :
    PS X (.Try body [.ExceptHandler (some (.Name x np)) (some n) (b₀ :: suite) pos'] [] [] pos) (tTryA X.K c i ts Wout tb) := ps_try_as hs hf hN hi hln hc tk hb hsu
theorem w_tryA {K : PySem.W.Frag} {c : Value} {i : Nat} {ts : Addr → Value → Option Addr → TS} {Wout : WX} {tb : WX → TS} {D : Ends} {σ : L2.St} {H : Hp} (h : tb (wAs K c i ts Wout D) D σ H) : tTryA K c i ts Wout tb D σ H := h
def rXf (a : Addr) (cls : Value) (d : Option Addr) (C : Addr) (f : Str) (x : V) (H1 : Hp) (Q : VK) : Prop := x = .ref a ∧ cls = .ref C ∧ ∃ (dd : Addr) (fs : List (Str × V)) (v : V), d = some dd ∧ H1 dd = some (.xd fs) ∧ fs.lookup f = some v ∧ Q v H1
theorem w_xfG {a : Addr} {cls : Value} {d : Option Addr} {C : Addr} {f : Str} {te : TE} {σ : L2.St} {H : Hp} {Q : VK} (h : te σ H fun x H1 => rXf a cls d C f x H1 Q) : tXf a cls d C f te σ H Q := h
theorem w_xf {a C dd : Addr} {f : Str} {H1 : Hp} {Q : VK} {fs : List (Str × V)} {v : V} (h : H1 dd = some (.xd fs)) (l : fs.lookup f = some v) (q : Q v H1) : rXf a (.ref C) (some dd) C f (.ref a) H1 Q := ⟨rfl, rfl, dd, fs, v, rfl, h, l, q⟩
/-- a made chain, its own steps -/
def ChainX (K : PySem.W.Frag) (H : Hp) (a : Addr) (items : List V) : Prop := ∃ dx t, H a = some (.ins (He.ga K "Chain") dx [("steps", .ref t)]) ∧ SqT K H t items
/-- all but lists stays -/
def NL (H H' : Hp) : Prop := ∀ b o, H b = some o → (∀ xs, o ≠ .lst xs) → H' b = some o
theorem NL.of {H H' : Hp} (s : Same H H') : NL H H' := fun b o h _ => s b o h
theorem NL.trans {H H1 H2 : Hp} (a : NL H H1) (b : NL H1 H2) : NL H H2 := fun x o h n => b x o (a x o h n) n
theorem NL.upd {H : Hp} {p : Addr} {xs : List V} {o : HO} (h : H p = some (.lst xs)) : NL H (L2.upd H p o) := fun b u hb n => by
  rw [upd_ne (fun e => by rw [e, h] at hb; cases hb; exact n xs rfl)]; exact hb
theorem NL.x {H H' : Hp} {d : Addr} {cells : Cells} (s : SameX d H H') (dr : DrawsAt H d cells) : NL H H' := fun b u hb n => s b u (fun e => by
  obtain ⟨a, c, f, h1, _⟩ := dr
  rw [e, h1] at hb; cases hb; exact n _ rfl) hb
theorem ChainX.nl {K : PySem.W.Frag} {H H' : Hp} {a : Addr} {items : List V} (h : ChainX K H a items) (s : NL H H') : ChainX K H' a items := by
  obtain ⟨dx, t, h1, h2⟩ := h
  refine ⟨dx, t, s _ _ h1 (fun xs e => by cases e), ?_⟩
  rcases h2 with (h2 | ⟨o, h2⟩) | h2
  · exact .inl (.inl (s _ _ h2 (fun xs e => by cases e)))
  · exact .inl (.inr ⟨o, s _ _ h2 (fun xs e => by cases e)⟩)
  · exact .inr h2
theorem ChainX.i {K : PySem.W.Frag} {H : Hp} {a : Addr} {items : List V} {its : List Item} (h : ChainX K H a items) (hi : Items K H its items) : ChainI K H a its := by
  obtain ⟨dx, t, h1, h2⟩ := h
  exact ⟨dx, t, items, h1, h2, hi⟩
/-- a chain is made -/
theorem go_Chain {K : PySem.W.Frag} {H : Hp} {Q : VK} {E : XK} {l : Addr} {its : List Item} {items : List V} (hl : Sq K H l items) (hi : Items K H its items) (ho : ∀ it ∈ its, it.ok) (hn : its.length ≤ 1000)
    (q0 : dueI its = none → ∀ a H', H a = none → Same H H' → ChainX K H' a items → Q (.ref a) H') (q1 : ∀ i, dueI its = some i → ∀ H' d, Same H H' → H' d = some (.xd [("index", .int i)]) → E (.ref (He.ga K "BadStep")) (some d) H') : rMake (He.ga K "Chain") (spChain K) E [.ref l] H Q := by
  intro x dx hx hdx hne
  have s1 : Same H (upd (upd H dx (.own x)) x (.ins (He.ga K "Chain") dx [])) := fun b o h => by
    rw [upd_ne (ne_of_none h hx), upd_ne (ne_of_none h hdx)]; exact h
  refine ⟨x, l, dx, its, items, rfl, upd_same, hl.same s1, Items.same s1 hi, ho, hn, ?_⟩
  cases e : dueI its with
  | none =>
    intro H' t h1 h2 h3
    exact ⟨rfl, q0 e x H' hx (fun b o h => h1 b o (ne_of_none h hx) (s1 b o h)) ⟨dx, t, h2, h3⟩⟩
  | some i => exact fun H' d s h => q1 i e H' d (Same.trans s1 s) h
theorem LL.same {K : PySem.W.Frag} {H H' : Hp} {d D : Addr} {cells : Cells} {its : List Item} {items : List V} (h : LL K H d cells D its items) (s : Same H H') : LL K H' d cells D its items :=
  ⟨s _ _ h.at_, Items.same s h.it, h.lay, h.dr.same s, h.nd, h.nc, h.ne⟩
theorem LL.seq {K : PySem.W.Frag} {H : Hp} {d D : Addr} {cells : Cells} {its : List Item} {items : List V} (h : LL K H d cells D its items) : SqL K H D items := lstAt h.at_
theorem LL.ok {K : PySem.W.Frag} {H : Hp} {d D : Addr} {cells : Cells} {its : List Item} {items : List V} (h : LL K H d cells D its items) : ∀ it ∈ its, it.ok := fun i hi => (h.lay i hi).1
theorem dueT_flat (its : List Item) : (dueT its).all flatV = true := by unfold dueT; cases dueI its <;> rfl
def dueD (its : List Item) : PyData := .tuple ((dueT its).map pd)
theorem due_dp {K : PySem.W.Frag} {H : Hp} {t : Addr} {its : List Item} (h : H t = some (.tup (dueT its))) : Dp K H (.ref t) (dueD its) := .tup (tupAt h) (pds_dp (dueT_flat its))
theorem due_shaped (its : List Item) : SeqAt.shaped (dueD its) = true := by
  unfold dueD dueT
  cases dueI its with
  | none => decide +kernel
  | some i =>
    show SeqAt.shaped (.tuple [.str "step", .int i]) = true
    unfold SeqAt.shaped
    rw [Bool.and_eq_true]
    refine ⟨?_, decide_eq_true ?_⟩
    · have h : (PyData.str "step").canLay0 = true := by decide +kernel
      simp only [PyData.canLay0, PyData.canLayAll0, Bool.and_true] at h ⊢
      exact h
    · simp [PyData.depth, PyData.depthAll]
theorem badAt_ok : ∀ {its : List Item} {i : Nat}, (∀ it ∈ its, isStepI it = true) → badAt its i = none
  | [], _, _ => rfl
  | it :: its, i, h => by
    show (if isStepI it = true then badAt its (i + 1) else some i) = none
    rw [if_pos (h _ List.mem_cons_self)]
    exact badAt_ok fun x hx => h x (List.mem_cons_of_mem _ hx)
theorem steps_items {K : PySem.W.Frag} {H : Hp} {ss : List Stp} {items : List V} (h : StepsAt H ss items) : Items K H (ss.map fun s => .tup (parts s)) items := Paired.mapM (fun s v q => by
  obtain ⟨t, rfl, ht⟩ := q
  exact tupAt ht) h
theorem steps_lay {ss : List Stp} : ∀ it ∈ ss.map (fun s => Item.tup (parts s)), it.lay := fun it hit => by
  obtain ⟨s, _, rfl⟩ := List.mem_map.mp hit
  exact part_lay s
/-- steps that a law draws make a chain -/
theorem due_law {ss : List Stp} (h : ∀ s ∈ ss, s.ok) (hl : ss.length ≤ 5) : dueI (ss.map fun s => .tup (parts s)) = none :=
  dueI_none (by rw [List.length_map]; omega) (badAt_ok fun it hit => by
    obtain ⟨s, hs, rfl⟩ := List.mem_map.mp hit
    exact parts_step (h s hs))
end TB

set_option maxHeartbeats 4000000
namespace TB
open PySem PySem.Spec PyProof.Rows L2 TW
/-- a chain whose items can be laid -/
def ChainL (K : PySem.W.Frag) (H : Hp) (a : Addr) (its : List Item) : Prop := ChainI K H a its ∧ (∀ it ∈ its, it.lay) ∧ its.length ≤ 1000
theorem ChainI.same {K : PySem.W.Frag} {H H' : Hp} {a : Addr} {its : List Item} (h : ChainI K H a its) (s : Same H H') : ChainI K H' a its := by
  obtain ⟨dx, t, items, h1, h2, h3⟩ := h.ex
  exact ⟨dx, t, items, s _ _ h1, Same.tup s h2, Items.same s h3⟩
def tupD (its : List Item) : PyData := .tuple (its.map itD)
def lstD (its : List Item) : PyData := .list (its.map itD)
theorem tup_lst (a b : List Item) : PyData.eqv (tupD a) (tupD b) = PyData.eqv (lstD a) (lstD b) := by
  unfold tupD lstD; simp only [PyData.eqv]
theorem shaped_tupD {its : List Item} (h : ∀ it ∈ its, it.lay) : SeqAt.shaped (tupD its) = true := shaped_tup (items_lay h).1 (items_lay h).2
theorem shaped_lstD {its : List Item} (h : ∀ it ∈ its, it.lay) : SeqAt.shaped (lstD its) = true := shaped_list (items_lay h).1 (items_lay h).2
theorem w_eqD {K : PySem.W.Frag} {H : Hp} {Q : VK} {x y : V} {d e : PyData} (h1 : Dp K H x d) (h2 : Dp K H y e) (s1 : SeqAt.shaped d = true) (s2 : SeqAt.shaped e = true) (q : Q (.bl (PyData.eqv d e)) H) : rEqD K x y H Q := ⟨d, e, h1, h2, s1, s2, q⟩
theorem w_neD {K : PySem.W.Frag} {H : Hp} {Q : VK} {x y : V} {d e : PyData} (h1 : Dp K H x d) (h2 : Dp K H y e) (s1 : SeqAt.shaped d = true) (s2 : SeqAt.shaped e = true) (q : Q (.bl (!PyData.eqv d e)) H) : rNeD K x y H Q := ⟨d, e, h1, h2, s1, s2, q⟩
/-- the same data: not different -/
theorem w_neS {K : PySem.W.Frag} {H : Hp} {Q : VK} {x y : V} {d : PyData} (h1 : Dp K H x d) (h2 : Dp K H y d) (s1 : SeqAt.shaped d = true) (q : Q (.bl false) H) : rNeD K x y H Q := ⟨d, d, h1, h2, s1, s1, by rw [eqv_self s1]; exact q⟩
def spEqC (K : PySem.W.Frag) : Sp := fun vs H Q _ => ∃ a b its jts, vs = [.ref a, .ref b] ∧ ChainL K H a its ∧ ChainL K H b jts ∧ Q (.bl (PyData.eqv (tupD its) (tupD jts))) H
def spLenC (K : PySem.W.Frag) : Sp := fun vs H Q _ => ∃ a its, vs = [.ref a] ∧ ChainL K H a its ∧ Q (.int (its.length : Int)) H
theorem w_isiI {K : PySem.W.Frag} {H : Hp} {Q : VK} {a C dx : Addr} {fs : List (Str × V)} (h : H a = some (.ins C dx fs)) (c : Cls K C) (i : IsC K C) (q : Q (.bl true) H) : rIsi K [.ref a, .ref C] H Q :=
  ⟨_, .ref C, .ref C, .ref C, true, rfl, .own C, .base (.ins h c i.ha i.hn i.htk i.hm), i.me, q⟩
def rInsOpR (C : Addr) (sp : Sp) (E : XK) : R2 := rInsOp C sp E
theorem w_insOp {C a b dx dy : Addr} {fs gs : List (Str × V)} {sp : Sp} {E : XK} {H : Hp} {Q : VK} (h1 : H a = some (.ins C dx fs)) (h2 : H b = some (.ins C dy gs)) (q : sp [.ref a, .ref b] H Q E) : rInsOp C sp E (.ref a) (.ref b) H Q := ⟨a, dx, fs, b, dy, gs, rfl, rfl, h1, h2, q⟩
theorem w_insLen {C a dx : Addr} {fs : List (Str × V)} {sp : Sp} {E : XK} {H : Hp} {Q : VK} (h1 : H a = some (.ins C dx fs)) (q : sp [.ref a] H (fun z H' => ∃ i : Int, z = .int i ∧ 0 ≤ i ∧ i < 2 ^ 63 ∧ Q z H') E) : rInsLen C sp E [.ref a] H Q := ⟨a, dx, fs, rfl, h1, q⟩
end TB

set_option maxHeartbeats 4000000
namespace TB
open PySem PySem.Spec PyProof.Rows L2 TW
/-! ### running: promises -/
def optL : Option Val → List V
  | none => []
  | some v => [vv v]
def isNumS : Stp → Prop
  | .fill _ => False
  | .replace _ _ => False
  | .void _ => False
  | .bar _ => False
  | _ => True
def kOf (x : Val) : Str := kv x.kind
def spKind : Sp := fun vs H Q _ => ∃ x, vs = [vv x] ∧ Q (.str (kOf x)) H
def spRounded : Sp := fun vs H Q _ => ∃ n m w, vs = [.int n, .int m, .str (wv w)] ∧ 0 < m ∧ m < 1000 ∧ Q (.int (rounded n m w)) H
/-- a new list comes back -/
def NewL (xs : List V) (H : Hp) (Q : VK) : Prop := ∀ l H', Same H H' → H l = none → H' l = some (.lst xs) → Q (.ref l) H'
def spOfNum (K : PySem.W.Frag) : Sp := fun vs H Q _ => ∃ t s n, vs = [.ref t, .int n] ∧ SqT K H t (parts s) ∧ s.ok ∧ isNumS s ∧ NewL (optL (ofNum s n)) H Q
def spSame : Sp := fun vs H Q _ => ∃ x y : Val, vs = [vv x, vv y] ∧ Q (.bl (decide (x = y))) H
def spStepped (K : PySem.W.Frag) : Sp := fun vs H Q _ => ∃ t s x, vs = [.ref t, vv x] ∧ SqT K H t (parts s) ∧ s.ok ∧ NewL (optL (step1 s x)) H Q
/-- a tuple of steps -/
def StepsT (K : PySem.W.Frag) (H : Hp) (a : Addr) (ss : List Stp) : Prop := ∃ items, SqT K H a items ∧ Paired (fun s v => ∃ t, v = .ref t ∧ SqT K H t (parts s)) ss items
def spFollowed (K : PySem.W.Frag) : Sp := fun vs H Q _ => ∃ a ss x, vs = [.ref a, vv x] ∧ StepsT K H a ss ∧ (∀ s ∈ ss, s.ok) ∧ ss.length ≤ 1000 ∧ NewL ((trace ss x).map vv) H Q
def spResult (K : PySem.W.Frag) : Sp := fun vs H Q _ => ∃ a ss x, vs = [.ref a, vv x] ∧ StepsT K H a ss ∧ (∀ s ∈ ss, s.ok) ∧ ss.length ≤ 1000 ∧ NewL (optL (TW.run ss x)) H Q
theorem vv_inj {x y : Val} (h : vv x = vv y) : x = y := by
  cases x <;> cases y <;> first
    | rfl
    | exact absurd h (by decide +kernel)
    | (cases h; done)
    | (cases h; rfl)
theorem vv_isN (x : Val) : isN (vv x) = decide (x.kind = .number) := by cases x <;> rfl
def rMax2 : List V → Hp → VK → Prop := fun xs H Q => ∃ i j, xs = [.int i, .int j] ∧ Q (.int (if j > i then j else i)) H
def rMin2 : List V → Hp → VK → Prop := fun xs H Q => ∃ i j, xs = [.int i, .int j] ∧ Q (.int (if j < i then j else i)) H
def rAbs : List V → Hp → VK → Prop := fun xs H Q => ∃ i, xs = [.int i] ∧ Q (.int (if i < 0 then -i else i)) H
theorem call_maxR {X : Cx} (hc : X.calm = true) : CallR X (.builtin "max") rMax2 := call_max2 hc
theorem call_minR {X : Cx} (hc : X.calm = true) : CallR X (.builtin "min") rMin2 := call_min2 hc
theorem call_absR {X : Cx} : CallR X (.builtin "abs") rAbs := call_abs
theorem w_max2 {H : Hp} {Q : VK} {i j : Int} (q : Q (.int (max i j)) H) : rMax2 [.int i, .int j] H Q := ⟨i, j, rfl, by
  have e : (if j > i then j else i) = max i j := by split <;> omega
  rw [e]; exact q⟩
theorem w_min2 {H : Hp} {Q : VK} {i j : Int} (q : Q (.int (min i j)) H) : rMin2 [.int i, .int j] H Q := ⟨i, j, rfl, by
  have e : (if j < i then j else i) = min i j := by split <;> omega
  rw [e]; exact q⟩
theorem w_abs {H : Hp} {Q : VK} {i : Int} (q : Q (.int (if i < 0 then -i else i)) H) : rAbs [.int i] H Q := ⟨i, rfl, q⟩
end TB
namespace TB
open PySem PySem.Spec PyProof.Rows L2 TW
theorem w_bT {b : Bool} {A B : Prop} (h : b = true) (a : A) : if b = true then A else B := by rw [if_pos h]; exact a
theorem w_bF {b : Bool} {A B : Prop} (h : b = false) (a : B) : if b = true then A else B := by rw [h, if_neg Bool.false_ne_true]; exact a
theorem go_rounded {H : Hp} {Q : VK} {E : XK} {n m : Int} {w : Way} (h0 : 0 < m) (h1 : m < 1000) (q : Q (.int (rounded n m w)) H) : spRounded [.int n, .int m, .str (wv w)] H Q E := ⟨n, m, w, rfl, h0, h1, q⟩
theorem go_kind {H : Hp} {Q : VK} {E : XK} {x : Val} (q : Q (.str (kOf x)) H) : spKind [vv x] H Q E := ⟨x, rfl, q⟩
theorem go_same {H : Hp} {Q : VK} {E : XK} {x y : Val} (q : Q (.bl (decide (x = y))) H) : spSame [vv x, vv y] H Q E := ⟨x, y, rfl, q⟩
theorem go_ofNum {K : PySem.W.Frag} {H : Hp} {Q : VK} {E : XK} {t : Addr} {s : Stp} {n : Int} (h : SqT K H t (parts s)) (o : s.ok) (i : isNumS s) (q : ∀ l H', Same H H' → H l = none → H' l = some (.lst (optL (ofNum s n))) → Q (.ref l) H') : spOfNum K [.ref t, .int n] H Q E := ⟨t, s, n, rfl, h, o, i, q⟩
theorem go_stepped {K : PySem.W.Frag} {H : Hp} {Q : VK} {E : XK} {t : Addr} {s : Stp} {x : Val} (h : SqT K H t (parts s)) (o : s.ok) (q : ∀ l H', Same H H' → H l = none → H' l = some (.lst (optL (step1 s x))) → Q (.ref l) H') : spStepped K [.ref t, vv x] H Q E := ⟨t, s, x, rfl, h, o, q⟩
theorem NewL.fin {xs ys : List V} {H H' : Hp} {Q : VK} {l : Addr} (k : NewL xs H Q) (s : Same H H') (h : H' l = none) (e : ys = xs) : Q (.ref l) (upd H' l (.lst ys)) := k l _ (Same.trans s (Same.new h)) (Same.free s h) (by rw [e]; exact upd_same)
theorem okM_pos {m : Int} (h : okM m) : 0 < m ∧ m < 1000 := by rcases h with rfl | rfl | rfl | rfl | rfl | rfl <;> decide
end TB
namespace TB
open PySem PySem.Spec PyProof.Rows L2 TW
theorem kv_inj {a b : Kd} (h : kv a = kv b) : a = b := by cases a <;> cases b <;> first | rfl | exact absurd h (by decide +kernel)
theorem ifv {p : Prop} [Decidable p] {x y : Val} : vv (if p then x else y) = if p then vv x else vv y := by split <;> rfl
theorem step1_num {s : Stp} {n : Int} (h : isNumS s) : step1 s (.int n) = ofNum s n := by cases s <;> first | rfl | exact h.elim
theorem step1_word {s : Stp} {x : Val} (h : isNumS s) (hx : isN (vv x) = false) : step1 s x = some x := by
  cases s <;> first | exact h.elim | (cases x <;> first | rfl | cases hx)
theorem num_of {x : Val} (h : isN (vv x) = true) : ∃ n, x = .int n := by cases x <;> first | exact ⟨_, rfl⟩ | cases h
theorem non_iff {x : Val} : (vv x = V.non) = (x = .non) := by
  cases x <;> first | exact propext ⟨fun _ => rfl, fun _ => rfl⟩ | exact propext ⟨fun h => (by cases h), fun h => (by cases h)⟩
end TB
namespace TB
open PySem PySem.Spec PyProof.Rows L2 TW
theorem drop_at {ss : List Stp} {i : Nat} {s : Stp} (h : ss[i]? = some s) : ss.drop i = s :: ss.drop (i + 1) := by
  have hl : i < ss.length := (List.getElem?_eq_some_iff.mp h).1
  have e : ss[i] = s := (List.getElem?_eq_some_iff.mp h).2
  rw [List.drop_eq_getElem_cons hl, e]
theorem StepsT.same {K : PySem.W.Frag} {H H' : Hp} {a : Addr} {ss : List Stp} (h : StepsT K H a ss) (s : Same H H') : StepsT K H' a ss := by
  obtain ⟨items, h1, h2⟩ := h
  exact ⟨items, Same.tup s h1, L2.Paired.mapP h2 fun _ _ ⟨t, e, ht⟩ => ⟨t, e, Same.tup s ht⟩⟩
theorem go_followed {K : PySem.W.Frag} {H : Hp} {Q : VK} {E : XK} {a : Addr} {ss : List Stp} {x : Val} (h : StepsT K H a ss) (o : ∀ s ∈ ss, s.ok) (hl : ss.length ≤ 1000) (q : ∀ l H', Same H H' → H l = none → H' l = some (.lst ((trace ss x).map vv)) → Q (.ref l) H') : spFollowed K [.ref a, vv x] H Q E := ⟨a, ss, x, rfl, h, o, hl, q⟩
theorem go_result {K : PySem.W.Frag} {H : Hp} {Q : VK} {E : XK} {a : Addr} {ss : List Stp} {x : Val} (h : StepsT K H a ss) (o : ∀ s ∈ ss, s.ok) (hl : ss.length ≤ 1000) (q : ∀ l H', Same H H' → H l = none → H' l = some (.lst (optL (TW.run ss x))) → Q (.ref l) H') : spResult K [.ref a, vv x] H Q E := ⟨a, ss, x, rfl, h, o, hl, q⟩
end TB

set_option maxHeartbeats 4000000
namespace TB
open PySem PySem.Spec PyProof.Rows L2 TW
/-! ### values and things that are none -/
inductive NotVal (K : PySem.W.Frag) (H : Hp) : V → Prop where
  | bl (b : Bool) : NotVal K H (.bl b)
  | str {z : Str} (h : inW (.str z) WORDS = false) : NotVal K H (.str z)
  | lst {a : Addr} {xs : List V} (h : SqL K H a xs) : NotVal K H (.ref a)
  | tup {a : Addr} {xs : List V} (h : SqT K H a xs) : NotVal K H (.ref a)
  | dct {a : Addr} {kvs : List (Key × V)} (h : H a = some (.dK kvs)) : NotVal K H (.ref a)
  | dct2 {a : Addr} {kvs : List (List Key × V)} (h : H a = some (.dT kvs)) : NotVal K H (.ref a)
/-- any plain thing's type, with isinstance's answers -/
def Plain (K : PySem.W.Frag) (H : Hp) (v : V) : Prop := (∃ x, v = vv x) ∨ NotVal K H v
theorem Plain.isi {K : PySem.W.Frag} {H : Hp} {v : V} (h : Plain K H v) : ∃ t, TyX K H v t ∧ PySem.W.kitOne K t (.type "int") = some (isB v "int") ∧ PySem.W.kitOne K t (.type "bool") = some (isB v "bool") ∧ PySem.W.kitOne K t (.type "str") = some (isB v "str") := by
  have fl : ∀ {u : V}, flatV u = true → ∃ t, TyX K H u t ∧ PySem.W.kitOne K t (.type "int") = some (isB u "int") ∧ PySem.W.kitOne K t (.type "bool") = some (isB u "bool") ∧ PySem.W.kitOne K t (.type "str") = some (isB u "str") :=
    fun h => ⟨_, ty_flat h, kit_flat h (by decide), kit_flat h (by decide), kit_flat h (by decide)⟩
  rcases h with ⟨x, rfl⟩ | h
  · exact fl (vv_flat x)
  · cases h with
    | bl b => exact fl rfl
    | str h => exact fl rfl
    | lst h => exact ⟨_, ty_lst h, kit_ty (by kernel_rfl), kit_ty (by kernel_rfl), kit_ty (by kernel_rfl)⟩
    | tup h => exact ⟨_, ty_tup h, kit_ty (by kernel_rfl), kit_ty (by kernel_rfl), kit_ty (by kernel_rfl)⟩
    | dct h => exact ⟨_, .base (.dK h), kit_ty (by kernel_rfl), kit_ty (by kernel_rfl), kit_ty (by kernel_rfl)⟩
    | dct2 h => exact ⟨_, .base (.dT h), kit_ty (by kernel_rfl), kit_ty (by kernel_rfl), kit_ty (by kernel_rfl)⟩
theorem w_isiPi {K : PySem.W.Frag} {H : Hp} {Q : VK} {x : V} (h : Plain K H x) (q : Q (.bl (isB x "int")) H) : rIsi K [x, .ty "int"] H Q := by
  obtain ⟨t, ht, k1, k2, k3⟩ := h.isi
  exact ⟨x, .ty "int", _, _, _, rfl, .ty "int", ht, k1, q⟩
theorem w_isiPb {K : PySem.W.Frag} {H : Hp} {Q : VK} {x : V} (h : Plain K H x) (q : Q (.bl (isB x "bool")) H) : rIsi K [x, .ty "bool"] H Q := by
  obtain ⟨t, ht, k1, k2, k3⟩ := h.isi
  exact ⟨x, .ty "bool", _, _, _, rfl, .ty "bool", ht, k2, q⟩
theorem w_isiPs {K : PySem.W.Frag} {H : Hp} {Q : VK} {x : V} (h : Plain K H x) (q : Q (.bl (isB x "str")) H) : rIsi K [x, .ty "str"] H Q := by
  obtain ⟨t, ht, k1, k2, k3⟩ := h.isi
  exact ⟨x, .ty "str", _, _, _, rfl, .ty "str", ht, k3, q⟩
def spIsN2 (K : PySem.W.Frag) : Sp := fun vs H Q _ => ∃ x, vs = [x] ∧ Plain K H x ∧ Q (.bl (isN x)) H
def isVal : V → Bool
  | .non => true
  | .int _ => true
  | .str z => inW (.str z) WORDS
  | _ => false
theorem isVal_vv (x : Val) : isVal (vv x) = true := by cases x <;> first | rfl | decide +kernel
theorem isVal_not {K : PySem.W.Frag} {H : Hp} {v : V} (h : NotVal K H v) : isVal v = false := by cases h <;> first | rfl | assumption
def spIsVal (K : PySem.W.Frag) : Sp := fun vs H Q _ => ∃ x, vs = [x] ∧ Plain K H x ∧ Q (.bl (isVal x)) H
def spCheck (K : PySem.W.Frag) : Sp := fun vs H Q E => ∃ x, vs = [x] ∧ Plain K H x ∧ (isVal x = true → Q .non H) ∧ (isVal x = false → E (.ref (He.ga K "BadValue")) none H)
theorem go_isN2 {K : PySem.W.Frag} {H : Hp} {Q : VK} {E : XK} {x : V} (h : Plain K H x) (q : Q (.bl (isN x)) H) : spIsN2 K [x] H Q E := ⟨x, rfl, h, q⟩
theorem go_isVal {K : PySem.W.Frag} {H : Hp} {Q : VK} {E : XK} {x : V} (h : Plain K H x) (q : Q (.bl (isVal x)) H) : spIsVal K [x] H Q E := ⟨x, rfl, h, q⟩
theorem go_check {K : PySem.W.Frag} {H : Hp} {Q : VK} {E : XK} {x : V} (h : Plain K H x) (q : isVal x = true → Q .non H) (e : isVal x = false → E (.ref (He.ga K "BadValue")) none H) : spCheck K [x] H Q E := ⟨x, rfl, h, q, e⟩
end TB
namespace TB
open PySem PySem.Spec PyProof.Rows L2 TW
/-- a chain of steps -/
def ChainS (K : PySem.W.Frag) (H : Hp) (c : Addr) (ss : List Stp) : Prop := ∃ dx t, H c = some (.ins (He.ga K "Chain") dx [("steps", .ref t)]) ∧ StepsT K H t ss
theorem ChainS.same {K : PySem.W.Frag} {H H' : Hp} {c : Addr} {ss : List Stp} (h : ChainS K H c ss) (s : Same H H') : ChainS K H' c ss := by
  obtain ⟨dx, t, h1, h2⟩ := h
  exact ⟨dx, t, s _ _ h1, h2.same s⟩
def NewT (xs : List V) (H : Hp) (Q : VK) : Prop := ∀ p H', Same H H' → H p = none → H' p = some (.tup xs) → Q (.ref p) H'
theorem NewT.fin {xs ys : List V} {H H' : Hp} {Q : VK} {l : Addr} (k : NewT xs H Q) (s : Same H H') (h : H' l = none) (e : ys = xs) : Q (.ref l) (upd H' l (.tup ys)) := k l _ (Same.trans s (Same.new h)) (Same.free s h) (by rw [e]; exact upd_same)
def outT (ss : List Stp) (x : Val) : List V := if (trace ss x).length < ss.length then [.str "refused", .int ((trace ss x).length : Int)] else [.str "done", vv ((trace ss x).getLastD x)]
def agT (ss : List Stp) : Nat → Nat → Val → List V
  | 0, _, y => [.str "done", vv y]
  | n + 1, i, y => match TW.run ss y with
    | none => [.str "refused", .int (i : Int)]
    | some z => agT ss n (i + 1) z
theorem agT_no {ss : List Stp} {n i : Nat} {y : Val} (h : TW.run ss y = none) : agT ss (n + 1) i y = [.str "refused", .int (i : Int)] := by
  show (match TW.run ss y with | none => [.str "refused", .int (i : Int)] | some z => agT ss n (i + 1) z : List V) = _
  rw [h]
theorem agT_yes {ss : List Stp} {n i : Nat} {y z : Val} (h : TW.run ss y = some z) : agT ss (n + 1) i y = agT ss n (i + 1) z := by
  show (match TW.run ss y with | none => [.str "refused", .int (i : Int)] | some z => agT ss n (i + 1) z : List V) = _
  rw [h]
/-- x is a value with this, or none and BadValue -/
def OrBad (K : PySem.W.Frag) (H : Hp) (v : V) (E : XK) (P : Val → Prop) : Prop := (∃ x, v = vv x ∧ P x) ∨ (NotVal K H v ∧ E (.ref (He.ga K "BadValue")) none H)
def spTrace (K : PySem.W.Frag) : Sp := fun vs H Q E => ∃ c v ss, vs = [.ref c, v] ∧ ChainS K H c ss ∧ (∀ s ∈ ss, s.ok) ∧ ss.length ≤ 1000 ∧ OrBad K H v E fun x => NewL ((trace ss x).map vv) H Q
def spRun (K : PySem.W.Frag) : Sp := fun vs H Q E => ∃ c v ss, vs = [.ref c, v] ∧ ChainS K H c ss ∧ (∀ s ∈ ss, s.ok) ∧ ss.length ≤ 1000 ∧ OrBad K H v E fun x => NewT (outT ss x) H Q
def spAgain (K : PySem.W.Frag) : Sp := fun vs H Q E => ∃ c v ss, ∃ n : Nat, vs = [.ref c, v, .int (n : Int)] ∧ n < 1000000 ∧ ChainS K H c ss ∧ (∀ s ∈ ss, s.ok) ∧ ss.length ≤ 1000 ∧ OrBad K H v E fun x => NewT (agT ss n 0 x) H Q
theorem OrBad.check {K : PySem.W.Frag} {H : Hp} {v : V} {E : XK} {P : Val → Prop} {Q : VK} {E' : XK} (h : OrBad K H v E P) (q : ∀ x, v = vv x → P x → Q .non H) (e : E (.ref (He.ga K "BadValue")) none H → E' (.ref (He.ga K "BadValue")) none H) : spCheck K [v] H Q E' := by
  rcases h with ⟨x, rfl, p⟩ | ⟨n, b⟩
  · exact go_check (.inl ⟨x, rfl⟩) (fun _ => q x rfl p) (fun h => by rw [isVal_vv] at h; cases h)
  · exact go_check (.inr n) (fun h => by rw [isVal_not n] at h; cases h) (fun _ => e b)
theorem last_at {l : List Val} {y x : Val} : atI ((y :: l).map vv) (-1) = some (vv ((y :: l).getLastD x)) := by
  unfold atI ixN
  have e : ((y :: l).map vv).length = l.length + 1 := by simp
  rw [e, if_neg (by decide), if_pos (by omega)]
  show ((y :: l).map vv)[((-1 : Int) + ((l.length + 1 : Nat) : Int)).toNat]? = _
  have e2 : ((-1 : Int) + ((l.length + 1 : Nat) : Int)).toNat = l.length := by omega
  rw [e2, List.getElem?_map, List.getLastD_cons, List.getLastD_eq_getLast?, List.getLast?_eq_getElem?]
  cases l with
  | nil => rfl
  | cons z l => simp
end TB
namespace TB
open PySem PySem.Spec PyProof.Rows L2 TW
def valB : Val → Prop
  | .int i => -10000000 ≤ i ∧ i ≤ 10000000
  | _ => True
def spValue : Sp := fun vs H Q _ => ∃ d, ∃ cells : Cells, vs = [.ref d] ∧ DrawsAt H d cells ∧ ∀ x H', valB x → SameX d H H' → DrawsAt H' d cells → Q (vv x) H'
theorem go_value {H : Hp} {Q : VK} {E : XK} {d : Addr} {cells : Cells} (hd : DrawsAt H d cells) (q : ∀ x H', valB x → SameX d H H' → DrawsAt H' d cells → Q (vv x) H') : spValue [.ref d] H Q E := ⟨d, cells, rfl, hd, q⟩
theorem lawV_valB {x : Val} (h : lawV x) : valB x := by cases x <;> first | trivial | (simp only [lawV, lawI, valB] at *; omega)
end TB
namespace TB
open PySem PySem.Spec PyProof.Rows L2 TW
theorem scal_vv (x y : Val) : scal (vv x) (vv y) = true := by cases x <;> cases y <;> rfl
end TB
namespace TB
open PySem PySem.Spec PyProof.Rows L2 TW
/-- a list of steps -/
def StepsL (K : PySem.W.Frag) (H : Hp) (a : Addr) (ss : List Stp) : Prop := ∃ items, SqL K H a items ∧ Paired (fun s v => ∃ t, v = .ref t ∧ SqT K H t (parts s)) ss items
theorem StepsL.same {K : PySem.W.Frag} {H H' : Hp} {a : Addr} {ss : List Stp} (h : StepsL K H a ss) (s : Same H H') : StepsL K H' a ss := by
  obtain ⟨items, h1, h2⟩ := h
  exact ⟨items, Same.lst s h1, L2.Paired.mapP h2 fun _ _ ⟨t, e, ht⟩ => ⟨t, e, Same.tup s ht⟩⟩
def spLAll (K : PySem.W.Frag) : Sp := fun vs H Q _ => ∃ a ss x, vs = [.ref a, vv x] ∧ StepsL K H a ss ∧ (∀ s ∈ ss, s.ok) ∧ ss.length ≤ 1000 ∧ NewL ((trace ss x).map vv) H Q
def spLDue (K : PySem.W.Frag) : Sp := fun vs H Q _ => ∃ a ss x, vs = [.ref a, vv x] ∧ StepsL K H a ss ∧ (∀ s ∈ ss, s.ok) ∧ ss.length ≤ 1000 ∧ NewT (outT ss x) H Q
theorem go_lall {K : PySem.W.Frag} {H : Hp} {Q : VK} {E : XK} {a : Addr} {ss : List Stp} {x : Val} (h : StepsL K H a ss) (o : ∀ s ∈ ss, s.ok) (hl : ss.length ≤ 1000) (q : ∀ l H', Same H H' → H l = none → H' l = some (.lst ((trace ss x).map vv)) → Q (.ref l) H') : spLAll K [.ref a, vv x] H Q E := ⟨a, ss, x, rfl, h, o, hl, q⟩
end TB
namespace TB
open PySem PySem.Spec PyProof.Rows L2 TW
def spLOut (K : PySem.W.Frag) : Sp := fun vs H Q _ => ∃ a ss x, vs = [.ref a, vv x] ∧ StepsL K H a ss ∧ (∀ s ∈ ss, s.ok) ∧ ss.length ≤ 1000 ∧ NewL (optL (TW.run ss x)) H Q
end TB
namespace TB
open PySem PySem.Spec PyProof.Rows L2 TW
theorem cut_last {l : List Val} {x : Val} : cutV ((x :: l).map vv) (some (-1)) none = [vv (l.getLastD x)] := by
  unfold cutV
  have e0 : ((x :: l).map vv).length = l.length + 1 := by simp
  have e1 : HT.sIx ((x :: l).map vv).length 0 (some (-1)) = l.length := by
    rw [e0]
    show (if (-1 : Int) < 0 then ((-1 : Int) + ((l.length + 1 : Nat) : Int)).toNat else min (-1 : Int).toNat (l.length + 1)) = l.length
    rw [if_pos (by decide)]
    omega
  have e2 : HT.sIx ((x :: l).map vv).length ((x :: l).map vv).length none = l.length + 1 := by rw [e0] <;> rfl
  rw [e1, e2]
  have hl : l.length < ((x :: l).map vv).length := by rw [e0]; omega
  rw [List.drop_eq_getElem_cons hl]
  have e3 : ((x :: l).map vv).drop (l.length + 1) = [] := List.drop_eq_nil_of_le (by rw [e0]; omega)
  rw [e3, show l.length + 1 - l.length = 1 by omega]
  show [((x :: l).map vv)[l.length]] = _
  have h := last_at (l := l) (y := x) (x := x)
  unfold atI ixN at h
  rw [e0, if_neg (by decide), if_pos (by omega)] at h
  have e4 : ((-1 : Int) + ((l.length + 1 : Nat) : Int)).toNat = l.length := by omega
  have h2 : ((x :: l).map vv)[((-1 : Int) + ((l.length + 1 : Nat) : Int)).toNat]? = some (vv ((x :: l).getLastD x)) := h
  rw [e4, List.getElem?_eq_getElem hl, List.getLastD_cons] at h2
  rw [Option.some.inj h2]
end TB
namespace TB
open PySem PySem.Spec PyProof.Rows L2 TW
theorem go_lout {K : PySem.W.Frag} {H : Hp} {Q : VK} {E : XK} {a : Addr} {ss : List Stp} {x : Val} (h : StepsL K H a ss) (o : ∀ s ∈ ss, s.ok) (hl : ss.length ≤ 1000) (q : ∀ l H', Same H H' → H l = none → H' l = some (.lst (optL (TW.run ss x))) → Q (.ref l) H') : spLOut K [.ref a, vv x] H Q E := ⟨a, ss, x, rfl, h, o, hl, q⟩
def spLTimes (K : PySem.W.Frag) : Sp := fun vs H Q _ => ∃ a ss x, ∃ n : Nat, vs = [.ref a, vv x, .int (n : Int)] ∧ n < 1000000 ∧ StepsL K H a ss ∧ (∀ s ∈ ss, s.ok) ∧ ss.length ≤ 1000 ∧ NewT (agT ss n 0 x) H Q
theorem pd_vv_lay (v : Val) : (pd (vv v)).canLay0 = true := by cases v <;> first | (simp [vv, pd, PyData.canLay0]; done) | decide +kernel
theorem optD_shaped (o : Option Val) : SeqAt.shaped (.list ((optL o).map pd)) = true := by
  refine shaped_list ?_ ?_
  · cases o with
    | none => simp [optL, PyData.canLayAll0]
    | some v => simp [optL, PyData.canLayAll0, pd_vv_lay]
  · cases o with
    | none => simp [optL, PyData.depthAll]
    | some v => simp [optL, PyData.depthAll, pd_lay]
theorem optL_flat (o : Option Val) : (optL o).all flatV = true := by
  cases o with
  | none => rfl
  | some v => show (flatV (vv v) && true) = true; rw [vv_flat] <;> rfl
end TB
namespace TB
open PySem PySem.Spec PyProof.Rows L2 TW
/-- a statement that is never reached -/
def tNever : TS := fun _ _ _ => False
theorem ps_never {X : Cx} {st : Stmt} : PS X st tNever := ⟨fun _ _ _ _ _ _ h => h.elim⟩
theorem w_catT {K : PySem.W.Frag} {H : Hp} {Q : VK} {a b : Addr} {xs ys : List V} (h1 : SqT K H a xs) (h2 : SqT K H b ys) (hl : xs.length + ys.length ≤ sizeLine) (q : ∀ p H', Same H H' → SqT K H' p (xs ++ ys) → Q (.ref p) H') : rCatA K (.ref a) (.ref b) H Q := by
  refine ⟨a, b, xs, ys, rfl, rfl, h1, h2, hl, fun e => ?_, fun _ e => ?_, fun _ _ p hp => ?_⟩
  · subst e; exact q b H (Same.refl H) h2
  · subst e; exact q a H (Same.refl H) (by rw [List.append_nil]; exact h1)
  · exact q p _ (Same.new hp) (tupAt upd_same)
end TB

/-! The mathematics of great values: far out a chain is constant or a shift, by side and remainder. -/
namespace TW
def iabs (n : Int) : Int := if n < 0 then -n else n
theorem iabs_cases (n : Int) : (0 ≤ n ∧ iabs n = n) ∨ (n < 0 ∧ iabs n = -n) := by
  unfold iabs
  by_cases h : n < 0
  · exact .inr ⟨h, if_pos h⟩
  · exact .inl ⟨by omega, if_neg h⟩
def Val.size : Val → Int
  | .int i => iabs i
  | _ => 0
def Stp.reach : Stp → Int
  | .clamp a b => iabs a + iabs b
  | .least a => iabs a
  | .most a => iabs a
  | .round m _ => iabs m
  | .shift d => iabs d
  | .fold m => iabs m
  | .blank a b => iabs a + iabs b
  | .refuse a b => iabs a + iabs b
  | .fill v => v.size
  | .replace v w => v.size + w.size
  | _ => 0
def reach : List Stp → Int
  | [] => 0
  | s :: ss => s.reach + reach ss
def Stp.mod : Stp → Int
  | .round m _ => m
  | .fold m => m
  | _ => 1
theorem iabs_nn (n : Int) : 0 ≤ iabs n := by rcases iabs_cases n with h | h <;> omega
theorem size_nn (v : Val) : 0 ≤ v.size := by cases v <;> first | exact iabs_nn _ | exact Int.le_refl _
theorem sreach_nn (s : Stp) : 0 ≤ s.reach := by
  cases s <;> simp only [Stp.reach] <;> first
    | exact Int.add_nonneg (iabs_nn _) (iabs_nn _)
    | exact Int.add_nonneg (size_nn _) (size_nn _)
    | exact iabs_nn _
    | exact size_nn _
    | exact Int.le_refl _
theorem reach_nn : ∀ ss : List Stp, 0 ≤ reach ss
  | [] => Int.le_refl _
  | s :: ss => Int.add_nonneg (sreach_nn s) (reach_nn ss)
theorem reach_app : ∀ ss ts : List Stp, reach (ss ++ ts) = reach ss + reach ts
  | [], ts => by show reach ts = 0 + reach ts; omega
  | s :: ss, ts => by show s.reach + reach (ss ++ ts) = s.reach + reach ss + reach ts; rw [reach_app ss ts]; omega
/-- t goes out on the side of y -/
def Side (y t : Int) : Prop := (0 < y ∧ 0 ≤ t) ∨ (y < 0 ∧ t ≤ 0)
def sg (e : Bool) (t : Int) : Int := if e = true then t else -t
theorem emod_add {n t m : Int} (h : m ∣ t) : (n + t) % m = n % m := by
  obtain ⟨c, rfl⟩ := h
  exact Int.add_mul_emod_self_left n m c
theorem rounded_add {n t m : Int} {w : Way} (h : m ∣ t) : rounded (n + t) m w = rounded n m w + t := by
  unfold rounded
  rw [emod_add h]
  cases w
  · show n + t - n % m = n - n % m + t; omega
  · show (if n % m = 0 then n + t else n + t - n % m + m) = (if n % m = 0 then n else n - n % m + m) + t
    split <;> omega
  · show (if n % m = 0 ∨ 2 * (n % m) < m then n + t - n % m else n + t - n % m + m) = (if n % m = 0 ∨ 2 * (n % m) < m then n - n % m else n - n % m + m) + t
    split <;> omega
theorem okM_pos' {m : Int} (h : okM m) : 0 < m := by rcases h with h | h | h | h | h | h <;> omega
theorem rounded_near {n m : Int} {w : Way} (h : 0 < m) : iabs (rounded n m w - n) ≤ m := by
  have h0 := Int.emod_nonneg n (Int.ne_of_gt h)
  have h1 := Int.emod_lt_of_pos n h
  have hc := iabs_cases (rounded n m w - n)
  cases w
  · have e : rounded n m .down = n - n % m := rfl
    rw [e] at hc ⊢; omega
  · have e : rounded n m .up = if n % m = 0 then n else n - n % m + m := rfl
    rw [e] at hc ⊢
    split at hc <;> simp_all <;> omega
  · have e : rounded n m .near = if n % m = 0 ∨ 2 * (n % m) < m then n - n % m else n - n % m + m := rfl
    rw [e] at hc ⊢
    split at hc <;> rename_i q
    · rw [if_pos q]; omega
    · rw [if_neg q]; omega
/-- one step, far out -/
theorem far1 (s : Stp) (ok : s.ok) (y P : Int) (hP : s.mod ∣ P) (h : s.reach < iabs y) :
    (∃ o, ∀ t, Side y t → P ∣ t → step1 s (.int (y + t)) = o) ∨ (∃ z e, iabs (z - sg e y) ≤ s.reach ∧ ∀ t, Side y t → P ∣ t → step1 s (.int (y + t)) = some (.int (z + sg e t))) := by
  have hy := iabs_cases y
  have lin0 : s.reach ≥ 0 := sreach_nn s
  have lin : (∀ t, Side y t → P ∣ t → step1 s (.int (y + t)) = some (.int (y + t))) → (∃ o, ∀ t, Side y t → P ∣ t → step1 s (.int (y + t)) = o) ∨ (∃ z e, iabs (z - sg e y) ≤ s.reach ∧ ∀ t, Side y t → P ∣ t → step1 s (.int (y + t)) = some (.int (z + sg e t))) := fun q => by
    refine .inr ⟨y, true, ?_, fun t a b => q t a b⟩
    have e : y - sg true y = 0 := by simp [sg]
    rw [e]; exact lin0
  cases s with
  | clamp a b =>
    have ha := iabs_cases a; have hb := iabs_cases b
    simp only [Stp.reach] at h
    have hab : a ≤ b := ok.2.2
    refine .inl ⟨if 0 < y then some (.int b) else some (.int a), fun t st _ => ?_⟩
    show some (Val.int (min (max (y + t) a) b)) = _
    rcases st with ⟨h1, h2⟩ | ⟨h1, h2⟩
    · rw [if_pos h1]; congr 2; omega
    · rw [if_neg (by omega)]; congr 2; omega
  | least a =>
    have ha := iabs_cases a
    simp only [Stp.reach] at h
    by_cases h1 : 0 < y
    · refine lin fun t st _ => ?_
      show some (Val.int (max (y + t) a)) = _
      congr 2; rcases st with st | st <;> omega
    · refine .inl ⟨some (.int a), fun t st _ => ?_⟩
      show some (Val.int (max (y + t) a)) = _
      congr 2; rcases st with st | st <;> omega
  | most a =>
    have ha := iabs_cases a
    simp only [Stp.reach] at h
    by_cases h1 : 0 < y
    · refine .inl ⟨some (.int a), fun t st _ => ?_⟩
      show some (Val.int (min (y + t) a)) = _
      congr 2; rcases st with st | st <;> omega
    · refine lin fun t st _ => ?_
      show some (Val.int (min (y + t) a)) = _
      congr 2; rcases st with st | st <;> omega
  | round m w =>
    refine .inr ⟨rounded y m w, true, ?_, fun t _ d => ?_⟩
    · have hm := okM_pos' ok
      have := rounded_near (n := y) (w := w) hm
      have e : sg true y = y := by simp [sg]
      have hmm := iabs_cases m
      rw [e]; simp only [Stp.reach]; omega
    · show some (Val.int (rounded (y + t) m w)) = some (.int (rounded y m w + sg true t))
      rw [rounded_add (m := m) (Int.dvd_trans (show m ∣ P from hP) d)]; simp [sg]
  | shift d =>
    refine .inr ⟨y + d, true, ?_, fun t _ _ => ?_⟩
    · have e : y + d - sg true y = d := by simp [sg]; omega
      rw [e]; exact Int.le_refl _
    · show some (Val.int (y + t + d)) = some (.int (y + d + sg true t))
      simp [sg]; omega
  | fold m =>
    refine .inl ⟨some (.int (y % m)), fun t _ d => ?_⟩
    show some (Val.int ((y + t) % m)) = _
    rw [emod_add (m := m) (Int.dvd_trans (show m ∣ P from hP) d)]
  | mirror =>
    by_cases h1 : 0 < y
    · refine lin fun t st _ => ?_
      show some (Val.int (if y + t < 0 then -(y + t) else y + t)) = _
      rw [if_neg (by rcases st with st | st <;> omega)]
    · refine .inr ⟨-y, false, ?_, fun t st _ => ?_⟩
      · have e : -y - sg false y = 0 := by simp [sg]
        rw [e]; exact Int.le_refl _
      · show some (Val.int (if y + t < 0 then -(y + t) else y + t)) = some (.int (-y + sg false t))
        simp only [Stp.reach] at h
        rw [if_pos (by rcases st with st | st <;> omega)]
        simp [sg]; omega
  | turn =>
    refine .inr ⟨-y, false, ?_, fun t st _ => ?_⟩
    · have e : -y - sg false y = 0 := by simp [sg]
      rw [e]; exact Int.le_refl _
    · show some (Val.int (-(y + t))) = some (.int (-y + sg false t))
      simp [sg]; omega
  | blank a b =>
    have ha := iabs_cases a; have hb := iabs_cases b
    simp only [Stp.reach] at h
    refine .inl ⟨some .non, fun t st _ => ?_⟩
    show some (if a ≤ y + t ∧ y + t ≤ b then Val.int (y + t) else .non) = _
    rw [if_neg (by rcases st with st | st <;> omega)]
  | refuse a b =>
    have ha := iabs_cases a; have hb := iabs_cases b
    simp only [Stp.reach] at h
    refine .inl ⟨none, fun t st _ => ?_⟩
    show (if a ≤ y + t ∧ y + t ≤ b then some (Val.int (y + t)) else none) = _
    rw [if_neg (by rcases st with st | st <;> omega)]
  | fill v => exact lin fun t _ _ => by show some (if Val.int (y + t) = .non then v else .int (y + t)) = _; rw [if_neg (by simp)]
  | replace v w =>
    refine lin fun t st _ => ?_
    show some (if Val.int (y + t) = v then w else .int (y + t)) = _
    rw [if_neg]
    rintro rfl
    have hv := iabs_cases (y + t)
    have hw := size_nn w
    simp only [Stp.reach, Val.size] at h hw
    rcases st with st | st <;> omega
  | void k =>
    cases k with
    | number => exact .inl ⟨some .non, fun t _ _ => rfl⟩
    | _ => exact lin fun t _ _ => rfl
  | bar k =>
    cases k with
    | number => exact .inl ⟨none, fun t _ _ => rfl⟩
    | _ => exact lin fun t _ _ => rfl
theorem side_sg {y z t : Int} {e : Bool} {r : Int} (h : Side y t) (hz : iabs (z - sg e y) ≤ r) (hr : r < iabs y) : Side z (sg e t) := by
  have hy := iabs_cases y
  have h1 := iabs_cases (z - sg e y)
  unfold Side at *
  cases e <;> simp only [sg] at * <;> simp at * <;> omega
/-- a chain, far out -/
theorem far : ∀ (ss : List Stp) (P : Int), (∀ s ∈ ss, s.ok) → (∀ s ∈ ss, s.mod ∣ P) → ∀ y, reach ss < iabs y →
    (∃ o, ∀ t, Side y t → P ∣ t → run ss (.int (y + t)) = o) ∨ (∃ z e, iabs (z - sg e y) ≤ reach ss ∧ ∀ t, Side y t → P ∣ t → run ss (.int (y + t)) = some (.int (z + sg e t)))
  | [], P, _, _, y, _ => .inr ⟨y, true, by simp [sg, reach, iabs], fun t _ _ => by simp [run, sg]⟩
  | s :: ss, P, ok, hm, y, h => by
    have hr : s.reach < iabs y := by have := reach_nn ss; simp only [reach] at h; omega
    rcases far1 s (ok _ List.mem_cons_self) y P (hm _ List.mem_cons_self) hr with ⟨o, ho⟩ | ⟨z, e, hz, ho⟩
    · exact .inl ⟨o.bind (run ss), fun t a b => by rw [run_cons, ho t a b]⟩
    · have hz2 : reach ss < iabs z := by
        have hy := iabs_cases y; have h1 := iabs_cases (z - sg e y); have h2 := iabs_cases z
        simp only [reach] at h
        cases e <;> simp only [sg] at * <;> simp at * <;> omega
      rcases far ss P (fun s hs => ok s (List.mem_cons_of_mem _ hs)) (fun s hs => hm s (List.mem_cons_of_mem _ hs)) z hz2 with ⟨o, ho2⟩ | ⟨u, f, hu, ho2⟩
      · refine .inl ⟨o, fun t a b => ?_⟩
        rw [run_cons, ho t a b]
        exact ho2 (sg e t) (side_sg a hz hr) (by cases e <;> simp [sg, b])
      · refine .inr ⟨u, e == f, ?_, fun t a b => ?_⟩
        · have h1 := iabs_cases (z - sg e y); have h2 := iabs_cases (u - sg f z); have h3 := iabs_cases (u - sg (e == f) y)
          simp only [reach]
          cases e <;> cases f <;> simp only [sg] at * <;> simp at * <;> omega
        · rw [run_cons, ho t a b]
          show run ss (.int (z + sg e t)) = _
          rw [ho2 (sg e t) (side_sg a hz hr) (by cases e <;> simp [sg, b])]
          cases e <;> cases f <;> simp [sg]
theorem side0 {y : Int} (h : 0 < iabs y) : Side y 0 := by have := iabs_cases y; unfold Side; omega
/-- two chains that agree at two places of a row agree on it -/
theorem far_agree {ss ts : List Stp} {P y q : Int} (o1 : ∀ s ∈ ss, s.ok) (o2 : ∀ s ∈ ts, s.ok) (m1 : ∀ s ∈ ss, s.mod ∣ P) (m2 : ∀ s ∈ ts, s.mod ∣ P) (r1 : reach ss < iabs y) (r2 : reach ts < iabs y) (hq : Side y q) (q0 : q ≠ 0) (hd : P ∣ q)
    (e0 : run ss (.int y) = run ts (.int y)) (e1 : run ss (.int (y + q)) = run ts (.int (y + q))) : ∀ t, Side y t → P ∣ t → run ss (.int (y + t)) = run ts (.int (y + t)) := by
  intro t st dt
  have hy : 0 < iabs y := by have := reach_nn ss; omega
  have s0 := side0 hy
  have d0 : P ∣ (0 : Int) := Int.dvd_zero P
  have z0 : y + 0 = y := by omega
  rcases far ss P o1 m1 y r1 with ⟨o, ho⟩ | ⟨z, e, hz, ho⟩ <;> rcases far ts P o2 m2 y r2 with ⟨o', ho'⟩ | ⟨z', e', hz', ho'⟩
  · have a := ho 0 s0 d0; have b := ho' 0 s0 d0
    rw [z0] at a b
    rw [ho t st dt, ho' t st dt, ← a, ← b, e0]
  · exfalso
    have a := ho 0 s0 d0; have b := ho' 0 s0 d0
    rw [z0] at a b
    have a2 := ho q hq hd; have b2 := ho' q hq hd
    rw [a2, b2, ← a, e0, b] at e1
    cases e' <;> simp [sg] at e1 <;> omega
  · exfalso
    have a := ho 0 s0 d0; have b := ho' 0 s0 d0
    rw [z0] at a b
    have a2 := ho q hq hd; have b2 := ho' q hq hd
    rw [a2, b2, ← b, ← e0, a] at e1
    cases e <;> simp [sg] at e1 <;> omega
  · have a := ho 0 s0 d0; have b := ho' 0 s0 d0
    rw [z0] at a b
    have a2 := ho q hq hd; have b2 := ho' q hq hd
    rw [a, b] at e0
    rw [a2, b2] at e1
    rw [ho t st dt, ho' t st dt]
    cases e <;> cases e' <;> simp [sg] at e0 e1 ⊢ <;> omega
/-- the row of a great value begins near -/
theorem row_of {R P : Int} (hP : 0 < P) (n : Int) (h : R < iabs n) (hR : 0 ≤ R) : ∃ y q, R < iabs y ∧ iabs y ≤ R + P ∧ iabs (y + q) ≤ R + 2 * P ∧ Side y q ∧ q ≠ 0 ∧ P ∣ q ∧ Side y (n - y) ∧ P ∣ (n - y) := by
  have hn := iabs_cases n
  have h0 := Int.emod_nonneg (iabs n - R - 1) (Int.ne_of_gt hP)
  have h1 := Int.emod_lt_of_pos (iabs n - R - 1) hP
  have h2 := Int.mul_ediv_add_emod (iabs n - R - 1) P
  have hd : P ∣ (iabs n - R - 1) - (iabs n - R - 1) % P := ⟨(iabs n - R - 1) / P, by omega⟩
  have hk : 0 ≤ P * ((iabs n - R - 1) / P) := Int.mul_nonneg (by omega) (Int.ediv_nonneg (by omega) (by omega))
  rcases hn with ⟨n0, hn⟩ | ⟨n0, hn⟩
  · refine ⟨R + 1 + (iabs n - R - 1) % P, P, ?_⟩
    have c1 := iabs_cases (R + 1 + (iabs n - R - 1) % P); have c2 := iabs_cases (R + 1 + (iabs n - R - 1) % P + P)
    refine ⟨by omega, by omega, by omega, .inl ⟨by omega, by omega⟩, by omega, Int.dvd_refl P, .inl ⟨by omega, by omega⟩, ?_⟩
    have e : n - (R + 1 + (iabs n - R - 1) % P) = (iabs n - R - 1) - (iabs n - R - 1) % P := by omega
    rw [e]; exact hd
  · refine ⟨-(R + 1 + (iabs n - R - 1) % P), -P, ?_⟩
    have c1 := iabs_cases (-(R + 1 + (iabs n - R - 1) % P)); have c2 := iabs_cases (-(R + 1 + (iabs n - R - 1) % P) + -P)
    refine ⟨by omega, by omega, by omega, .inr ⟨by omega, by omega⟩, by omega, (Int.dvd_neg.mpr (Int.dvd_refl P)), .inr ⟨by omega, by omega⟩, ?_⟩
    have e : n - -(R + 1 + (iabs n - R - 1) % P) = -((iabs n - R - 1) - (iabs n - R - 1) % P) := by omega
    rw [e]; exact Int.dvd_neg.mpr hd
end TW

/-! The mathematics of all values: periods, the values that are looked at, the first of them. -/
namespace TW
def Stp.isMod : Stp → Bool
  | .round _ _ => true
  | .fold _ => true
  | _ => false
def perN : Nat → List Stp → Nat
  | p, [] => p
  | p, s :: ss => perN (if s.isMod = true then Nat.lcm p s.mod.toNat else p) ss
def per (ss : List Stp) : Int := (perN 1 ss : Nat)
theorem smod_pos {s : Stp} (h : s.ok) : 0 < s.mod := by cases s <;> first | exact okM_pos' h | (show (0 : Int) < 1; decide)
theorem smod_le {s : Stp} (h : s.ok) : s.mod ≤ 10 := by
  cases s <;> first | (show (1 : Int) ≤ 10; decide) | (rcases h with h | h | h | h | h | h <;> (simp only [Stp.mod]; omega))
theorem smod_60 {s : Stp} (h : s.ok) : s.mod.toNat ∣ 60 := by
  cases s <;> first | (exact ⟨60, rfl⟩) | (rcases h with h | h | h | h | h | h <;> (simp only [Stp.mod, h]; decide))
theorem smod_one {s : Stp} (h : s.isMod = false) : s.mod = 1 := by cases s <;> first | rfl | cases h
theorem perN_dvd : ∀ (ss : List Stp) (p : Nat), p ∣ perN p ss ∧ ∀ s ∈ ss, s.mod.toNat ∣ perN p ss
  | [], p => ⟨Nat.dvd_refl p, fun _ h => (List.not_mem_nil h).elim⟩
  | s :: ss, p => by
    obtain ⟨h1, h2⟩ := perN_dvd ss (if s.isMod = true then Nat.lcm p s.mod.toNat else p)
    have hp : p ∣ (if s.isMod = true then Nat.lcm p s.mod.toNat else p) := by split; exact Nat.dvd_lcm_left _ _; exact Nat.dvd_refl _
    have hs : s.mod.toNat ∣ (if s.isMod = true then Nat.lcm p s.mod.toNat else p) := by
      by_cases e : s.isMod = true
      · rw [if_pos e]; exact Nat.dvd_lcm_right _ _
      · rw [smod_one (by simpa using e)]; exact ⟨_, (Nat.one_mul _).symm⟩
    refine ⟨Nat.dvd_trans hp h1, fun t ht => ?_⟩
    rcases List.mem_cons.mp ht with rfl | ht
    · exact Nat.dvd_trans hs h1
    · exact h2 t ht
theorem perN_60 : ∀ (ss : List Stp) (p : Nat), (∀ s ∈ ss, s.ok) → p ∣ 60 → perN p ss ∣ 60
  | [], _, _, h => h
  | s :: ss, p, ok, h => by
    refine perN_60 ss _ (fun t ht => ok t (List.mem_cons_of_mem _ ht)) ?_
    split
    · exact Nat.lcm_dvd h (smod_60 (ok s List.mem_cons_self))
    · exact h
theorem perN_app : ∀ (ss ts : List Stp) (p : Nat), perN p (ss ++ ts) = perN (perN p ss) ts
  | [], _, _ => rfl
  | s :: ss, ts, p => perN_app ss ts _
theorem per_dvd {ss : List Stp} (ok : ∀ s ∈ ss, s.ok) {s : Stp} (h : s ∈ ss) : s.mod ∣ per ss := by
  have h1 := (perN_dvd ss 1).2 s h
  have h2 := smod_pos (ok s h)
  have e : s.mod = (s.mod.toNat : Int) := by omega
  rw [e]
  exact Int.ofNat_dvd.mpr h1
theorem per_60 {ss : List Stp} (ok : ∀ s ∈ ss, s.ok) : perN 1 ss ∣ 60 := perN_60 ss 1 ok ⟨60, rfl⟩
theorem per_pos {ss : List Stp} (ok : ∀ s ∈ ss, s.ok) : 0 < per ss := by
  have h := Nat.pos_of_dvd_of_pos (per_60 ok) (by decide)
  show (0 : Int) < (perN 1 ss : Nat)
  omega
theorem per_le {ss : List Stp} (ok : ∀ s ∈ ss, s.ok) : per ss ≤ 60 := by
  have h := Nat.le_of_dvd (by decide) (per_60 ok)
  show ((perN 1 ss : Nat) : Int) ≤ 60
  omega
theorem sreach_le {s : Stp} (h : s.ok) : s.reach ≤ 80 := by
  cases s <;> simp only [Stp.ok, okI, okM] at h <;> simp only [Stp.reach]
  case clamp a b => have := iabs_cases a; have := iabs_cases b; omega
  case least a => have := iabs_cases a; omega
  case most a => have := iabs_cases a; omega
  case round m w => have := iabs_cases m; omega
  case shift d => have := iabs_cases d; omega
  case fold m => have := iabs_cases m; omega
  case blank a b => have := iabs_cases a; have := iabs_cases b; omega
  case refuse a b => have := iabs_cases a; have := iabs_cases b; omega
  case fill v => cases v <;> simp only [Val.size, okV, okI] at * <;> first | omega | (rename_i i; have := iabs_cases i; omega)
  case replace v w =>
    have sz : ∀ {u : Val}, okV u → u.size ≤ 40 := fun {u} hu => by
      cases u <;> simp only [Val.size, okV, okI] at * <;> first | omega | (rename_i i; have := iabs_cases i; omega)
    have := sz h.1; have := sz h.2; omega
  all_goals omega
theorem reach_le : ∀ {ss : List Stp}, (∀ s ∈ ss, s.ok) → reach ss ≤ 80 * (ss.length : Int)
  | [], _ => by simp [reach]
  | s :: ss, h => by
    have h1 := sreach_le (h s List.mem_cons_self)
    have h2 := reach_le (ss := ss) fun t ht => h t (List.mem_cons_of_mem _ ht)
    simp only [reach, List.length_cons]
    omega
/-! ### the values that are looked at -/
def numsTo : Nat → List Int
  | 0 => [0]
  | n + 1 => numsTo n ++ [((n + 1 : Nat) : Int), -((n + 1 : Nat) : Int)]
def vals (n : Nat) : List Val := [.non, .a, .b, .c] ++ (numsTo n).map .int
theorem mem_numsTo {n : Nat} {i : Int} : i ∈ numsTo n ↔ iabs i ≤ n := by
  induction n with
  | zero =>
    have := iabs_cases i
    simp only [numsTo, List.mem_singleton]; omega
  | succ n ih =>
    have := iabs_cases i
    simp only [numsTo, List.mem_append, ih, List.mem_cons, List.not_mem_nil, or_false]; omega
theorem numsTo_len (n : Nat) : (numsTo n).length = 2 * n + 1 := by
  induction n with
  | zero => rfl
  | succ n ih => simp only [numsTo, List.length_append, ih, List.length_cons, List.length_nil]; omega
theorem numsTo_pre (n k : Nat) : ∃ r, numsTo (n + k) = numsTo n ++ r ∧ ∀ i ∈ r, (n : Int) < iabs i := by
  induction k with
  | zero => exact ⟨[], by simp, fun _ h => (List.not_mem_nil h).elim⟩
  | succ k ih =>
    obtain ⟨r, h1, h2⟩ := ih
    refine ⟨r ++ [((n + k + 1 : Nat) : Int), -((n + k + 1 : Nat) : Int)], ?_, fun i hi => ?_⟩
    · show numsTo (n + k) ++ _ = _
      rw [h1, List.append_assoc]; rfl
    · have := iabs_cases i
      rcases List.mem_append.mp hi with hi | hi
      · exact h2 i hi
      · simp only [List.mem_cons, List.not_mem_nil, or_false] at hi; omega
theorem mem_vals {n : Nat} {v : Val} : v ∈ vals n ↔ v.size ≤ n := by
  unfold vals
  cases v <;> simp [Val.size, mem_numsTo]
theorem vals_pre (n k : Nat) : ∃ r, vals (n + k) = vals n ++ r ∧ ∀ v ∈ r, (n : Int) < v.size := by
  obtain ⟨r, h1, h2⟩ := numsTo_pre n k
  refine ⟨r.map .int, by unfold vals; rw [h1, List.map_append, List.append_assoc], fun v hv => ?_⟩
  obtain ⟨i, hi, rfl⟩ := List.mem_map.mp hv
  exact h2 i hi
/-- the first value of size n at most that is wanted -/
def firstV (n : Nat) (D : Val → Bool) : Option Val := (vals n).find? D
theorem firstV_none {n : Nat} {D : Val → Bool} (h : firstV n D = none) {v : Val} (hv : v.size ≤ n) : D v = false := by
  have := List.find?_eq_none.mp h v (mem_vals.mpr hv)
  simpa using this
theorem firstV_some {n : Nat} {D : Val → Bool} {v : Val} (h : firstV n D = some v) : D v = true ∧ v.size ≤ n := ⟨List.find?_some h, mem_vals.mp (List.mem_of_find?_eq_some h)⟩
theorem firstV_le {n k : Nat} {D : Val → Bool} {v : Val} (h : firstV n D = some v) : firstV (n + k) D = some v := by
  obtain ⟨r, h1, _⟩ := vals_pre n k
  unfold firstV at *
  rw [h1, List.find?_append, h] <;> rfl
theorem firstV_gt {n k : Nat} {D : Val → Bool} {v : Val} (h : firstV n D = none) (h2 : firstV (n + k) D = some v) : (n : Int) < v.size := by
  obtain ⟨r, h1, h3⟩ := vals_pre n k
  unfold firstV at *
  rw [h1, List.find?_append, h] at h2
  exact h3 v (List.mem_of_find?_eq_some h2)
/-- the first wanted one, seen from two bounds: the same, or a greater one, or none -/
theorem firstV_two {n m : Nat} {D : Val → Bool} (full : firstV n D = none → ∀ v, D v = false) : (∀ v, firstV m D = some v → firstV n D = some v) ∧ (firstV m D = none → ∀ v, firstV n D = some v → D v = true ∧ (m : Int) < v.size) := by
  constructor
  · intro v h
    rcases Nat.le_total n m with hl | hl
    · obtain ⟨k, rfl⟩ := Nat.exists_eq_add_of_le hl
      cases e : firstV n D with
      | none => have := full e v; rw [(firstV_some h).1] at this; cases this
      | some u => rw [firstV_le e] at h; exact h
    · obtain ⟨k, rfl⟩ := Nat.exists_eq_add_of_le hl
      exact firstV_le h
  · intro h v hv
    refine ⟨(firstV_some hv).1, ?_⟩
    rcases Nat.le_total n m with hl | hl
    · have := firstV_none h (v := v) (by have := (firstV_some hv).2; omega)
      rw [(firstV_some hv).1] at this; cases this
    · obtain ⟨k, rfl⟩ := Nat.exists_eq_add_of_le hl
      exact firstV_gt h hv
/-- how far a list of steps is looked at -/
def look (ss : List Stp) : Nat := (reach ss + 3 * per ss + 5).toNat
theorem look_eq {ss : List Stp} (ok : ∀ s ∈ ss, s.ok) : (look ss : Int) = reach ss + 3 * per ss + 5 := by
  have h1 := reach_nn ss; have h2 := per_pos ok
  unfold look; omega
/-- what holds of no value near holds of none -/
def Rows (R P : Int) (D : Val → Bool) : Prop := ∀ y q : Int, R < iabs y → Side y q → q ≠ 0 → P ∣ q → D (.int y) = false → D (.int (y + q)) = false → ∀ t, Side y t → P ∣ t → D (.int (y + t)) = false
theorem rows_all {ss : List Stp} (ok : ∀ s ∈ ss, s.ok) {D : Val → Bool} (h : Rows (reach ss) (per ss) D) (hf : firstV (look ss) D = none) : ∀ v, D v = false := by
  intro v
  have hl := look_eq ok
  have hp := per_pos ok
  by_cases hv : v.size ≤ (look ss : Int)
  · exact firstV_none hf hv
  · cases v with
    | int n =>
      have hn : (look ss : Int) < iabs n := by simp only [Val.size] at hv; omega
      obtain ⟨y, q, h1, h2, h3, h4, h5, h6, h7, h8⟩ := row_of (R := reach ss) hp n (by omega) (reach_nn ss)
      have e := h y q h1 h4 h5 h6 (firstV_none hf (by simp only [Val.size]; omega)) (firstV_none hf (by simp only [Val.size]; omega)) (n - y) h7 h8
      have e2 : y + (n - y) = n := by omega
      rw [e2] at e; exact e
    | _ => exact absurd (by simp only [Val.size]; omega) hv
/-! ### what is asked of all values -/
def dPart (ss ts : List Stp) (v : Val) : Bool := decide (run ss v ≠ run ts v)
def dRefuse (ss : List Stp) (v : Val) : Bool := decide (run ss v = none)
def dChange (ss : List Stp) (v : Val) : Bool := decide (run ss v ≠ none ∧ run ss v ≠ some v)
def dDrift (ss ts : List Stp) (v : Val) : Bool := decide (run ss v ≠ none ∧ run (ss ++ ts) v ≠ run ss v)
section
variable {ss ts us : List Stp}
theorem mem_ok2 (o1 : ∀ s ∈ ss, s.ok) (o2 : ∀ s ∈ ts, s.ok) : ∀ s ∈ ss ++ ts, s.ok := fun s h => (List.mem_append.mp h).elim (o1 s) (o2 s)
theorem rows_part (o1 : ∀ s ∈ ss, s.ok) (o2 : ∀ s ∈ ts, s.ok) : Rows (reach (ss ++ ts)) (per (ss ++ ts)) (dPart ss ts) := by
  intro y q hy hq q0 hd e0 e1 t st dt
  have o := mem_ok2 o1 o2
  have hr := reach_app ss ts; have n1 := reach_nn ss; have n2 := reach_nn ts
  unfold dPart at *
  simp only [decide_eq_false_iff_not, ne_eq, Decidable.not_not] at *
  exact far_agree o1 o2 (fun s h => per_dvd o (List.mem_append_left _ h)) (fun s h => per_dvd o (List.mem_append_right _ h)) (by omega) (by omega) hq q0 hd e0 e1 t st dt
theorem rows_refuse (o1 : ∀ s ∈ ss, s.ok) : Rows (reach ss) (per ss) (dRefuse ss) := by
  intro y q hy hq q0 hd e0 e1 t st dt
  have hy0 : 0 < iabs y := by have := reach_nn ss; omega
  have z0 : y + 0 = y := by omega
  unfold dRefuse at *
  simp only [decide_eq_false_iff_not] at *
  rcases far ss _ o1 (fun s h => per_dvd o1 h) y hy with ⟨o, ho⟩ | ⟨z, e, hz, ho⟩
  · have a := ho 0 (side0 hy0) (Int.dvd_zero _)
    rw [z0] at a
    rw [ho t st dt, ← a]; exact e0
  · rw [ho t st dt]; simp
/-- a chain that is not refused, and another one -/
theorem rows_two (o1 : ∀ s ∈ ss, s.ok) (o2 : ∀ s ∈ us, s.ok) (R P : Int) (hr1 : reach ss ≤ R) (hr2 : reach us ≤ R) (m1 : ∀ s ∈ ss, s.mod ∣ P) (m2 : ∀ s ∈ us, s.mod ∣ P) : Rows R P fun v => decide (run ss v ≠ none ∧ run us v ≠ run ss v) := by
  intro y q hy hq q0 hd e0 e1 t st dt
  have hy0 : 0 < iabs y := by have := reach_nn ss; omega
  have z0 : y + 0 = y := by omega
  simp only [decide_eq_false_iff_not, ne_eq, not_and, Decidable.not_not] at *
  intro hn
  rcases far ss P o1 m1 y (by omega) with ⟨o, ho⟩ | ⟨z, e, hz, ho⟩
  · have a := ho 0 (side0 hy0) (Int.dvd_zero _)
    rw [z0] at a
    have b := ho q hq hd
    have c := ho t st dt
    rw [c, ← a] at hn
    exact far_agree o2 o1 m2 m1 (by omega) (by omega) hq q0 hd (e0 hn) (e1 (by rw [b, ← a]; exact hn)) t st dt
  · have a := ho 0 (side0 hy0) (Int.dvd_zero _)
    rw [z0] at a
    have b := ho q hq hd
    exact far_agree o2 o1 m2 m1 (by omega) (by omega) hq q0 hd (e0 (by rw [a]; simp)) (e1 (by rw [b]; simp)) t st dt
theorem rows_drift (o1 : ∀ s ∈ ss, s.ok) (o2 : ∀ s ∈ ts, s.ok) : Rows (reach (ss ++ ts)) (per (ss ++ ts)) (dDrift ss ts) := by
  have o := mem_ok2 o1 o2
  have hr := reach_app ss ts; have n1 := reach_nn ss; have n2 := reach_nn ts
  exact rows_two (us := ss ++ ts) o1 o _ _ (by omega) (Int.le_refl _) (fun s h => per_dvd o (List.mem_append_left _ h)) fun s h => per_dvd o h
theorem rows_change (o1 : ∀ s ∈ ss, s.ok) : Rows (reach ss) (per ss) (dChange ss) := by
  have h := rows_two (us := []) o1 (fun _ h => (List.not_mem_nil h).elim) (reach ss) (per ss) (Int.le_refl _) (reach_nn ss) (fun s h => per_dvd o1 h) (fun _ h => (List.not_mem_nil h).elim)
  have e : dChange ss = fun v => decide (run ss v ≠ none ∧ run [] v ≠ run ss v) := by
    funext v
    unfold dChange
    rw [decide_eq_decide]
    exact and_congr Iff.rfl ⟨fun h q => h q.symm, fun h q => h q.symm⟩
  rw [e]; exact h
end
/-- alike chains: the same of all values -/
def parting (ss ts : List Stp) : Option Val := firstV (look (ss ++ ts)) (dPart ss ts)
theorem parting_none {ss ts : List Stp} (o1 : ∀ s ∈ ss, s.ok) (o2 : ∀ s ∈ ts, s.ok) : parting ss ts = none ↔ ∀ v, run ss v = run ts v := by
  constructor
  · intro h v
    have := rows_all (mem_ok2 o1 o2) (rows_part o1 o2) h v
    simpa [dPart] using this
  · intro h
    refine List.find?_eq_none.mpr fun v _ => ?_
    simp [dPart, h v]
def driftV (ss ts : List Stp) : Option Val := firstV (look (ss ++ ts)) (dDrift ss ts)
theorem drift_none {ss ts : List Stp} (o1 : ∀ s ∈ ss, s.ok) (o2 : ∀ s ∈ ts, s.ok) : driftV ss ts = none ↔ ∀ v, run ss v ≠ none → run (ss ++ ts) v = run ss v := by
  constructor
  · intro h v hv
    have := rows_all (mem_ok2 o1 o2) (rows_drift o1 o2) h v
    simp [dDrift] at this
    exact this (by simpa using hv)
  · intro h
    refine List.find?_eq_none.mpr fun v _ => ?_
    simp [dDrift]
    intro hv; exact h v hv
end TW

/-! The mathematics of alike and settled chains. -/
namespace TW
def Alk (ss ts : List Stp) : Prop := ∀ v, run ss v = run ts v
def Stl (ss : List Stp) : Prop := ∀ v, run ss v ≠ none → run (ss ++ ss) v = run ss v
theorem alk_app_r {ss ts us : List Stp} (h : Alk ss ts) : Alk (ss ++ us) (ts ++ us) := fun v => by rw [run_append, run_append, h v]
theorem alk_app_l {ss ts us : List Stp} (h : Alk ss ts) : Alk (us ++ ss) (us ++ ts) := fun v => by
  rw [run_append, run_append]
  cases run us v with
  | none => rfl
  | some x => exact h x
theorem drift_alk {ss ts : List Stp} : (∀ v, run ss v ≠ none → run (ss ++ ts) v = run ss v) ↔ Alk (ss ++ ts) ss := by
  constructor
  · intro h v
    by_cases e : run ss v = none
    · rw [run_append, e] <;> rfl
    · exact h v e
  · intro h v _
    exact h v
theorem alk_symm {ss ts : List Stp} (h : Alk ss ts) : Alk ts ss := fun v => (h v).symm
theorem stl_alk {ss : List Stp} : Stl ss ↔ Alk ss (ss ++ ss) := ⟨fun h => alk_symm (drift_alk.mp h), fun h => drift_alk.mpr (alk_symm h)⟩
theorem stl_sum {ss ts : List Stp} (h1 : Stl ss) (h2 : Stl ts) (h : Alk (ss ++ ts) (ts ++ ss)) : Stl (ss ++ ts) := by
  intro v hv
  cases e1 : run ss v with
  | none => rw [run_append, e1] at hv; exact absurd rfl hv
  | some x =>
    have e2 : run (ss ++ ts) v = run ts x := by rw [run_append, e1] <;> rfl
    rw [e2] at hv
    have a : run (ss ++ ss) v = some x := by rw [h1 v (by rw [e1]; simp), e1]
    have b : run ss x = some x := by rw [run_append, e1] at a; exact a
    have c := h2 x hv
    have d : run (ts ++ ss) x = run ts x := by rw [← h x, run_append, b] <;> rfl
    rw [run_append, e2]
    cases e3 : run ts x with
    | none => exact absurd e3 hv
    | some y =>
      show run (ss ++ ts) y = some y
      rw [run_append, e3] at d
      have d' : run ss y = some y := d
      rw [run_append, e3] at c
      have c' : run ts y = some y := c
      rw [run_append, d']
      exact c'
end TW

set_option maxHeartbeats 4000000
namespace TB
open PySem PySem.Spec PyProof.Rows L2 TW
/-! ### the law's own comparison -/
/-- data that can be compared in n levels -/
def LkOk : Nat → PyData → Prop
  | 0, _ => False
  | _ + 1, .none => True
  | _ + 1, .bool _ => True
  | _ + 1, .int _ => True
  | _ + 1, .str _ => True
  | n + 1, .list ds => ds.length ≤ 100000 ∧ ∀ d ∈ ds, LkOk n d
  | n + 1, .tuple ds => ds.length ≤ 100000 ∧ ∀ d ∈ ds, LkOk n d
  | _, _ => False
def spLike (K : PySem.W.Frag) (n : Nat) : Sp := fun vs H Q _ => ∃ x y d, vs = [x, y] ∧ Dp K H x d ∧ Dp K H y d ∧ LkOk n d ∧ ∀ H', Same H H' → Q (.bl true) H'
theorem go_like {K : PySem.W.Frag} {n : Nat} {H : Hp} {Q : VK} {E : XK} {x y : V} {d : PyData} (h1 : Dp K H x d) (h2 : Dp K H y d) (h3 : LkOk n d) (q : ∀ H', Same H H' → Q (.bl true) H') : spLike K n [x, y] H Q E := ⟨x, y, d, rfl, h1, h2, h3, q⟩
theorem DpAll.len {K : PySem.W.Frag} {H : Hp} : ∀ {vs : List V} {ds : List PyData}, DpAll K H vs ds → vs.length = ds.length
  | _, _, .nil => rfl
  | _, _, .cons _ t => congrArg Nat.succ (DpAll.len t)
theorem DpAll.at_ {K : PySem.W.Frag} {H : Hp} : ∀ {vs : List V} {ds : List PyData} {i : Nat}, DpAll K H vs ds → i < ds.length → ∃ v d, vs[i]? = some v ∧ ds[i]? = some d ∧ Dp K H v d
  | _, _, _, .nil, h => absurd h (Nat.not_lt_zero _)
  | _, _, 0, .cons f _, _ => ⟨_, _, rfl, rfl, f⟩
  | _, _, i + 1, .cons _ t, h => by
    obtain ⟨v, d, h1, h2, h3⟩ := DpAll.at_ (i := i) t (Nat.lt_of_succ_lt_succ h)
    exact ⟨v, d, by simpa using h1, by simpa using h2, h3⟩
mutual
theorem Dp.same {K : PySem.W.Frag} {H H' : Hp} (s : Same H H') : ∀ {v : V} {d : PyData}, Dp K H v d → Dp K H' v d
  | _, _, .non => .non
  | _, _, .bl b => .bl b
  | _, _, .int i => .int i
  | _, _, .str x => .str x
  | _, _, .lst h t => .lst (Same.lst s h) (DpAll.same s t)
  | _, _, .tup h t => .tup (Same.tup s h) (DpAll.same s t)
theorem DpAll.same {K : PySem.W.Frag} {H H' : Hp} (s : Same H H') : ∀ {vs : List V} {ds : List PyData}, DpAll K H vs ds → DpAll K H' vs ds
  | _, _, .nil => .nil
  | _, _, .cons h t => .cons (Dp.same s h) (DpAll.same s t)
end
theorem w_ixSqL {K : PySem.W.Frag} {H : Hp} {Q : VK} {a : Addr} {xs : List V} {i : Nat} {v : V} (h : SqL K H a xs) (e : xs[i]? = some v) (q : Q v H) : rIx K (.ref a) (.int (0 + (i : Int))) H Q :=
  .inl ⟨a, xs, _, v, rfl, rfl, h, atI_int (by omega) (by rw [show (0 + (i : Int)).toNat = i by omega]; exact e), q⟩
theorem w_ixSqT {K : PySem.W.Frag} {H : Hp} {Q : VK} {a : Addr} {xs : List V} {i : Nat} {v : V} (h : SqT K H a xs) (e : xs[i]? = some v) (q : Q v H) : rIx K (.ref a) (.int (0 + (i : Int))) H Q :=
  .inr (.inl ⟨a, xs, _, v, rfl, rfl, h, atI_int (by omega) (by rw [show (0 + (i : Int)).toNat = i by omega]; exact e), q⟩)
theorem w_isiTt {K : PySem.W.Frag} {H : Hp} {Q : VK} {a : Addr} {xs : List V} (h : SqT K H a xs) (q : Q (.bl true) H) : rIsi K [.ref a, .ty "tuple"] H Q := w_isiT h (kit_ty (by kernel_rfl)) q
theorem w_isiTn {K : PySem.W.Frag} {H : Hp} {Q : VK} {a : Addr} {xs : List V} {T : String} (h : SqT K H a xs) (hT : T = "int" ∨ T = "bool" ∨ T = "str" ∨ T = "list") (q : Q (.bl false) H) : rIsi K [.ref a, .ty T] H Q := by
  rcases hT with rfl | rfl | rfl | rfl <;> exact w_isiT h (kit_ty (by kernel_rfl)) q
theorem w_isiLl {K : PySem.W.Frag} {H : Hp} {Q : VK} {a : Addr} {xs : List V} (h : SqL K H a xs) (q : Q (.bl true) H) : rIsi K [.ref a, .ty "list"] H Q := w_isiL h (kit_ty (by kernel_rfl)) q
theorem w_isiLn {K : PySem.W.Frag} {H : Hp} {Q : VK} {a : Addr} {xs : List V} {T : String} (h : SqL K H a xs) (hT : T = "int" ∨ T = "bool" ∨ T = "str" ∨ T = "tuple") (q : Q (.bl false) H) : rIsi K [.ref a, .ty T] H Q := by
  rcases hT with rfl | rfl | rfl | rfl <;> exact w_isiL h (kit_ty (by kernel_rfl)) q
theorem rets_like {K : PySem.W.Frag} {n : Nat} {xs : List V} (h : xs.all flatV = true) : ∀ d ∈ xs.map pd, LkOk (n + 1) d := fun d hd => by
  obtain ⟨v, hv, rfl⟩ := List.mem_map.mp hd
  have hf := List.all_eq_true.mp h v hv
  cases v <;> first | trivial | cases hf
theorem like_lst {K : PySem.W.Frag} {n : Nat} {xs : List V} (h : xs.all flatV = true) (hl : xs.length ≤ 100000) : LkOk (n + 2) (.list (xs.map pd)) := ⟨by rw [List.length_map]; exact hl, rets_like (K := K) h⟩
theorem like_tup {K : PySem.W.Frag} {n : Nat} {xs : List V} (h : xs.all flatV = true) (hl : xs.length ≤ 100000) : LkOk (n + 2) (.tuple (xs.map pd)) := ⟨by rw [List.length_map]; exact hl, rets_like (K := K) h⟩
theorem vvs_flat (l : List Val) : (l.map vv).all flatV = true := by
  rw [List.all_map]; exact List.all_eq_true.mpr fun v _ => vv_flat v
theorem outT_flat (ss : List Stp) (x : Val) : (outT ss x).all flatV = true := by
  unfold outT
  split
  · rfl
  · show (true && (flatV (vv _) && true)) = true
    rw [vv_flat] <;> rfl
theorem outT_len (ss : List Stp) (x : Val) : (outT ss x).length ≤ 100000 := by
  unfold outT
  split <;> (show 2 ≤ 100000; decide)
theorem agT_flat (ss : List Stp) : ∀ (n i : Nat) (x : Val), (agT ss n i x).all flatV = true ∧ (agT ss n i x).length ≤ 100000
  | 0, _, x => ⟨by show (true && (flatV (vv x) && true)) = true; rw [vv_flat] <;> rfl, by show 2 ≤ 100000; decide⟩
  | n + 1, i, x => by
    cases h : TW.run ss x with
    | none => rw [agT_no h]; exact ⟨rfl, by show 2 ≤ 100000; decide⟩
    | some z => rw [agT_yes h]; exact agT_flat ss n (i + 1) z
end TB

set_option maxHeartbeats 4000000
namespace TB
open PySem PySem.Spec PyProof.Rows L2 TW
/-! ### x + y of instances within a try -/
def tInsS (C : Addr) (sp : Sp) (E : L2.St → XK) (ta tb : TE) : TE := fun σ H Q => ta σ H fun x H1 => tb σ H1 fun y H2 => rInsOp C sp (E σ) x y H2 Q
theorem w_insS {C : Addr} {sp : Sp} {E : L2.St → XK} {ta tb : TE} {σ : L2.St} {H : Hp} {Q : VK} (h : ta σ H fun x H1 => tb σ H1 fun y H2 => rInsOp C sp (E σ) x y H2 Q) : tInsS C sp E ta tb σ H Q := h
theorem run_fnAt {X : Cx} {pins : List (Addr × Obj)} {σ : L2.St} {H : Hp} {s : Shared} {f : Addr} {n : Nat} {sp : Sp} {W : WX} {fd : FuncData} {ps : List Str} {Q : VK} {us : List Value} {ws : List V} (F : FnOk X.prog X.w X.K X.mg X.base (L2.CX X.prog X.w) n f fd ps sp) (hb : Binds X.K fd ps []) (hr : Room n X.A) (tk : Takes X W) (I : Inv X pins σ H s) (r : Vals ws us) (h : sp ws H Q (WE W σ)) :
    codeAny (model X.prog X.w) X.A (.call (.ref f) ⟨us, []⟩) (fun r s' => match r with | .ok (.ret v) => EP X pins σ Q v s' | .ok _ => False | .error e => X.xe e s') s := by
  have hl : us.length = ps.length := by rw [← r.length]; exact F.len _ _ _ _ h
  have b := hb s us I.kIn (by rw [List.append_nil]; exact hl)
  rw [List.append_nil] at b
  refine codeAny_mono (F.run X.A X.stack s H ⟨us, []⟩ us ws Q (WE W σ) hr I.env0 b r h) fun r s' hq => ?_
  cases r with
  | error e => exact passAt tk σ pins H s e s' I hq
  | ok fl =>
    cases fl with
    | ret u => exact I.after hq
    | next => exact False.elim hq
    | brk => exact False.elim hq
    | cont => exact False.elim hq
theorem pe_insAddS (C : Addr) {X : Cx} {W : WX} {k n : Nat} {ps : List Str} {sp : Sp} {a b : Expr} {ta tb : TE} {pos : Pos} (o : Op X.prog X.w X.K X.mg X.base k C "__add__" ps sp) (hn : PySem.W.selfFirst X.K C = true) (hr : Room n X.A) (hk : k ≤ n) (tk : Takes X W) (he : PE X a ta) (hb : PE X b tb) :
    PE X (.BinOp a .Add b pos) (tInsS C sp (WE W) ta tb) := by
  obtain ⟨f, fd, F, hs, hf, kp, hbd⟩ := o.ex
  refine ⟨fun pins s σ H Q I h => wpAny_BinOp (binT he hb I h fun v u s2 x y H2 I2 rx ry q => ?_)⟩
  obtain ⟨a, dx, fs, b, dy, gs, rfl, rfl, ha, hb', q⟩ := q
  cases (show v = Value.ref a from rx)
  cases (show u = Value.ref b from ry)
  obtain ⟨mA, O, _⟩ := ins_get I2.hok ha
  obtain ⟨od, J, _⟩ := O.look
  obtain ⟨mB, O', _⟩ := ins_get I2.hok hb'
  obtain ⟨od', J', _⟩ := O'.look
  obtain ⟨m, hF⟩ := I2.fr
  refine PySem.W.binop_K (op := .Add) hF I2.ok.mod.kin J J'.type hn hs hf ?_
  refine wpAny_mono (wpAny_call (run_fnAt (us := [.ref a, .ref b]) (ws := [.ref a, .ref b]) F hbd (hr.mono hk) tk I2 (.cons rfl (.cons rfl .nil)) q)) (fun w s' z => ?_) fun _ _ x => x
  obtain ⟨z', H', I', rz, qz⟩ := z
  exact SlX.cmpback rz ⟨z', H', I', rz, qz⟩
/-! ### try .. except X -/
def tTryO (K : PySem.W.Frag) (c : Value) (ts : Addr → Value → Option Addr → TS) (Wout : WX) (tb : WX → TS) : TS := fun D σ H => tb (wOnly K c ts Wout D) D σ H
theorem ps_tryO {X : Cx} {x : Str} {c : Value} {body suite : List Stmt} {b₀ : Stmt} {np pos pos' : Pos} {tb : WX → TS} {ts : Addr → Value → Option Addr → TS} {Wout : WX} (hs : X.stack = X.env :: X.outer) (hf : X.env.frame = some X.env.locals) (hc : Names X x c) (tk : Takes X Wout)
    (hb : ∀ (W : WX) (pn : List (Addr × Obj)) (xe : Value → Shared → Prop), Takes (X.tr pn xe) W → PassesOwn (model X.prog X.w) X.A X.env xe → PSs (X.tr pn xe) body (tb W))
    (hsu : ∀ (a : Addr) (oe : Obj) (cls : Value) (d : Option Addr) (pn : List (Addr × Obj)), Zc cls d oe → (∃ vs, oe.data = .fields vs) → PSs (X.suite a ((a, oe) :: pn)) (b₀ :: suite) (ts a cls d)) :
    PS X (.Try body [.ExceptHandler (some (.Name x np)) none (b₀ :: suite) pos'] [] [] pos) (tTryO X.K c ts Wout tb) := ps_try_only hs hf hc tk hb hsu
theorem w_tryO {K : PySem.W.Frag} {c : Value} {ts : Addr → Value → Option Addr → TS} {Wout : WX} {tb : WX → TS} {D : Ends} {σ : L2.St} {H : Hp} (h : tb (wOnly K c ts Wout D) D σ H) : tTryO K c ts Wout tb D σ H := h
/-! ### chains of steps -/
theorem NotVal.same {K : PySem.W.Frag} {H H' : Hp} {v : V} (h : NotVal K H v) (s : Same H H') : NotVal K H' v := by
  cases h with
  | bl b => exact .bl b
  | str h => exact .str h
  | lst h => exact .lst (Same.lst s h)
  | tup h => exact .tup (Same.tup s h)
  | dct h => exact .dct (s _ _ h)
  | dct2 h => exact .dct2 (s _ _ h)
abbrev StepsP (K : PySem.W.Frag) (H : Hp) : List Stp → List V → Prop := Paired fun s v => ∃ t, v = .ref t ∧ SqT K H t (parts s)
theorem StepsP.same {K : PySem.W.Frag} {H H' : Hp} {ss : List Stp} {vs : List V} (h : StepsP K H ss vs) (s : Same H H') : StepsP K H' ss vs := L2.Paired.mapP h fun _ _ ⟨t, e, ht⟩ => ⟨t, e, Same.tup s ht⟩
theorem StepsP.items {K : PySem.W.Frag} {H : Hp} {ss : List Stp} {vs : List V} (h : StepsP K H ss vs) : Items K H (ss.map fun s => .tup (parts s)) vs := Paired.mapM (fun s v q => by
  obtain ⟨t, rfl, ht⟩ := q
  exact ht) h
theorem StepsP.of {K : PySem.W.Frag} {H : Hp} {ss : List Stp} {vs : List V} (h : StepsAt H ss vs) : StepsP K H ss vs := L2.Paired.mapP h fun _ _ ⟨t, e, ht⟩ => ⟨t, e, tupAt ht⟩
theorem due_full {ss : List Stp} (h : 5 < ss.length) : dueI (ss.map fun s => .tup (parts s)) = some 5 := dueI_many (by rw [List.length_map]; exact h)
/-- a chain of steps is made -/
theorem go_ChainS {K : PySem.W.Frag} {H : Hp} {Q : VK} {E : XK} {l : Addr} {ss : List Stp} {items : List V} (hl : Sq K H l items) (hi : StepsP K H ss items) (ok : ∀ s ∈ ss, s.ok) (hn : ss.length ≤ 1000)
    (q0 : ss.length ≤ 5 → ∀ a H', H a = none → Same H H' → ChainS K H' a ss → Q (.ref a) H') (q1 : 5 < ss.length → ∀ H' d, Same H H' → H' d = some (.xd [("index", .int 5)]) → E (.ref (He.ga K "BadStep")) (some d) H') : rMake (He.ga K "Chain") (spChain K) E [.ref l] H Q := by
  refine go_Chain hl hi.items (fun it hit => (steps_lay it hit).1) (by rw [List.length_map]; exact hn) (fun e a H' ha s hc => ?_) (fun i e H' d s hx => ?_)
  · have h5 : ss.length ≤ 5 := by
      rcases Nat.lt_or_ge 5 ss.length with h | h
      · rw [due_full h] at e; cases e
      · exact h
    obtain ⟨dx, t, h1, h2⟩ := hc
    exact q0 h5 a H' ha s ⟨dx, t, h1, items, h2, StepsP.same hi s⟩
  · rcases Nat.lt_or_ge 5 ss.length with h | h
    · rw [due_full h] at e
      cases e
      exact q1 h H' d s hx
    · rw [due_law ok h] at e; cases e
theorem Paired.len2 {α β : Type} {F : α → β → Prop} {l : List α} {m : List β} (h : Paired F l m) : l.length = m.length := h.length
def spAdd (K : PySem.W.Frag) : Sp := fun vs H Q E => ∃ a b ss ts, vs = [.ref a, .ref b] ∧ ChainS K H a ss ∧ ChainS K H b ts ∧ (∀ s ∈ ss, s.ok) ∧ (∀ s ∈ ts, s.ok) ∧ ss.length ≤ 100 ∧ ts.length ≤ 100 ∧
  (ss.length + ts.length ≤ 5 → ∀ c H', H c = none → Same H H' → ChainS K H' c (ss ++ ts) → Q (.ref c) H') ∧ (5 < ss.length + ts.length → ∀ H' d, Same H H' → H' d = some (.xd [("index", .int 5)]) → E (.ref (He.ga K "BadStep")) (some d) H')
theorem go_run {K : PySem.W.Frag} {H : Hp} {Q : VK} {E : XK} {c : Addr} {x : Val} {ss : List Stp} (hc : ChainS K H c ss) (ho : ∀ s ∈ ss, s.ok) (hl : ss.length ≤ 1000) (q : ∀ p H', Same H H' → H p = none → H' p = some (.tup (outT ss x)) → Q (.ref p) H') : spRun K [.ref c, vv x] H Q E := ⟨c, _, ss, rfl, hc, ho, hl, .inl ⟨x, rfl, q⟩⟩
theorem go_trace {K : PySem.W.Frag} {H : Hp} {Q : VK} {E : XK} {c : Addr} {x : Val} {ss : List Stp} (hc : ChainS K H c ss) (ho : ∀ s ∈ ss, s.ok) (hl : ss.length ≤ 1000) (q : ∀ p H', Same H H' → H p = none → H' p = some (.lst ((trace ss x).map vv)) → Q (.ref p) H') : spTrace K [.ref c, vv x] H Q E := ⟨c, _, ss, rfl, hc, ho, hl, .inl ⟨x, rfl, q⟩⟩
theorem go_again {K : PySem.W.Frag} {H : Hp} {Q : VK} {E : XK} {c : Addr} {x : Val} {ss : List Stp} {n : Int} (h0 : 0 ≤ n) (h1 : n < 1000000) (hc : ChainS K H c ss) (ho : ∀ s ∈ ss, s.ok) (hl : ss.length ≤ 1000) (q : ∀ p H', Same H H' → H p = none → H' p = some (.tup (agT ss n.toNat 0 x)) → Q (.ref p) H') : spAgain K [.ref c, vv x, .int n] H Q E :=
  ⟨c, _, ss, n.toNat, by rw [show ((n.toNat : Nat) : Int) = n by omega], by omega, hc, ho, hl, .inl ⟨x, rfl, q⟩⟩
theorem go_runN {K : PySem.W.Frag} {H : Hp} {Q : VK} {E : XK} {c : Addr} {v : V} {ss : List Stp} (hc : ChainS K H c ss) (ho : ∀ s ∈ ss, s.ok) (hl : ss.length ≤ 1000) (n : NotVal K H v) (e : E (.ref (He.ga K "BadValue")) none H) : spRun K [.ref c, v] H Q E := ⟨c, v, ss, rfl, hc, ho, hl, .inr ⟨n, e⟩⟩
theorem go_traceN {K : PySem.W.Frag} {H : Hp} {Q : VK} {E : XK} {c : Addr} {v : V} {ss : List Stp} (hc : ChainS K H c ss) (ho : ∀ s ∈ ss, s.ok) (hl : ss.length ≤ 1000) (n : NotVal K H v) (e : E (.ref (He.ga K "BadValue")) none H) : spTrace K [.ref c, v] H Q E := ⟨c, v, ss, rfl, hc, ho, hl, .inr ⟨n, e⟩⟩
theorem go_againN {K : PySem.W.Frag} {H : Hp} {Q : VK} {E : XK} {c : Addr} {v : V} {ss : List Stp} {m : Int} (h0 : 0 ≤ m) (h1 : m < 1000000) (hc : ChainS K H c ss) (ho : ∀ s ∈ ss, s.ok) (hl : ss.length ≤ 1000) (n : NotVal K H v) (e : E (.ref (He.ga K "BadValue")) none H) : spAgain K [.ref c, v, .int m] H Q E :=
  ⟨c, v, ss, m.toNat, by rw [show ((m.toNat : Nat) : Int) = m by omega], by omega, hc, ho, hl, .inr ⟨n, e⟩⟩
def spLRefused (K : PySem.W.Frag) : Sp := fun vs H Q _ => ∃ c v ss, vs = [.ref c, v] ∧ ChainS K H c ss ∧ (∀ s ∈ ss, s.ok) ∧ ss.length ≤ 1000 ∧ NotVal K H v ∧ NewL [.bl true, .bl true, .bl true] H Q
/-- the sum of two chains, or the number that BadStep tells -/
def spLSum (K : PySem.W.Frag) : Sp := fun vs H Q _ => ∃ a b ss ts, vs = [.ref a, .ref b] ∧ ChainS K H a ss ∧ ChainS K H b ts ∧ (∀ s ∈ ss, s.ok) ∧ (∀ s ∈ ts, s.ok) ∧ ss.length ≤ 100 ∧ ts.length ≤ 100 ∧
  (ss.length + ts.length ≤ 5 → ∀ c H', H c = none → Same H H' → ChainS K H' c (ss ++ ts) → Q (.ref c) H') ∧ (5 < ss.length + ts.length → ∀ H', Same H H' → Q (.int 5) H')
end TB

set_option maxHeartbeats 4000000
namespace TB
open PySem PySem.Spec PyProof.Rows L2 TW
/-! ### chains and drawn lists while the law goes on -/
theorem SqT.nl {K : PySem.W.Frag} {H H' : Hp} {a : Addr} {xs : List V} (h : SqT K H a xs) (s : NL H H') : SqT K H' a xs := by
  rcases h with (h | ⟨o, h⟩) | h
  · exact .inl (.inl (s _ _ h (fun xs e => by cases e)))
  · exact .inl (.inr ⟨o, s _ _ h (fun xs e => by cases e)⟩)
  · exact .inr h
theorem StepsP.nl {K : PySem.W.Frag} {H H' : Hp} {ss : List Stp} {vs : List V} (h : StepsP K H ss vs) (s : NL H H') : StepsP K H' ss vs := L2.Paired.mapP h fun _ _ ⟨t, e, ht⟩ => ⟨t, e, SqT.nl ht s⟩
theorem StepsT.nl {K : PySem.W.Frag} {H H' : Hp} {a : Addr} {ss : List Stp} (h : StepsT K H a ss) (s : NL H H') : StepsT K H' a ss := by
  obtain ⟨items, h1, h2⟩ := h
  exact ⟨items, SqT.nl h1 s, StepsP.nl h2 s⟩
theorem ChainS.nl {K : PySem.W.Frag} {H H' : Hp} {c : Addr} {ss : List Stp} (h : ChainS K H c ss) (s : NL H H') : ChainS K H' c ss := by
  obtain ⟨dx, t, h1, h2⟩ := h
  exact ⟨dx, t, s _ _ h1 (fun xs e => by cases e), h2.nl s⟩
/-- a list of steps, not the one that is drawn from -/
def LSt (K : PySem.W.Frag) (H : Hp) (d D : Addr) (ss : List Stp) : Prop := D ≠ d ∧ ∃ items, H D = some (.lst items) ∧ StepsP K H ss items
theorem LSt.same {K : PySem.W.Frag} {H H' : Hp} {d D : Addr} {ss : List Stp} (h : LSt K H d D ss) (s : Same H H') : LSt K H' d D ss := by
  obtain ⟨n, items, h1, h2⟩ := h
  exact ⟨n, items, s _ _ h1, StepsP.same h2 s⟩
theorem LSt.sameX {K : PySem.W.Frag} {H H' : Hp} {d D : Addr} {ss : List Stp} {cells : Cells} (h : LSt K H d D ss) (s : SameX d H H') (dr : DrawsAt H d cells) : LSt K H' d D ss := by
  obtain ⟨n, items, h1, h2⟩ := h
  exact ⟨n, items, s _ _ n h1, StepsP.nl h2 (NL.x s dr)⟩
theorem LSt.l {K : PySem.W.Frag} {H : Hp} {d D : Addr} {ss : List Stp} (h : LSt K H d D ss) : StepsL K H D ss := by
  obtain ⟨n, items, h1, h2⟩ := h
  exact ⟨items, lstAt h1, h2⟩
theorem ChainS.sameX {K : PySem.W.Frag} {H H' : Hp} {d c : Addr} {ss : List Stp} {cells : Cells} (h : ChainS K H c ss) (s : SameX d H H') (dr : DrawsAt H d cells) : ChainS K H' c ss := h.nl (NL.x s dr)
theorem go_stepsL {K : PySem.W.Frag} {H : Hp} {Q : VK} {E : XK} {d : Addr} {m : Int} {cells : Cells} (h0 : 0 ≤ m) (h1 : m ≤ 50) (hd : DrawsAt H d cells)
    (q : ∀ D (ss : List Stp) H', (ss.length : Int) ≤ m → (∀ s ∈ ss, Stp.law s) → H D = none → LSt K H' d D ss → SameX d H H' → DrawsAt H' d cells → Q (.ref D) H') : spSteps [.ref d, .int m] H Q E :=
  go_steps h0 h1 hd fun D n H' hn hD hls => by
    obtain ⟨sx, dr, ss, items, hl, hs, hi, hp⟩ := hls
    exact q D ss H' (by rw [hl]; exact hn) hs hD ⟨hd.ne hD, items, hi, StepsP.of hp⟩ sx dr
theorem laws_ok {ss : List Stp} (h : ∀ s ∈ ss, Stp.law s) : ∀ s ∈ ss, s.ok := fun s hs => law_ok (h s hs)
theorem ChainS.L {K : PySem.W.Frag} {H : Hp} {c : Addr} {ss : List Stp} (h : ChainS K H c ss) (hl : ss.length ≤ 1000) : ChainL K H c (ss.map fun s => .tup (parts s)) := by
  obtain ⟨dx, t, h1, items, h2, h3⟩ := h
  exact ⟨⟨dx, t, items, h1, h2, StepsP.items h3⟩, steps_lay, by rw [List.length_map]; exact hl⟩
/-- c == c', both of the same steps -/
theorem go_eqS {K : PySem.W.Frag} {H : Hp} {Q : VK} {E : XK} {a b : Addr} {ss : List Stp} (h1 : ChainS K H a ss) (h2 : ChainS K H b ss) (hl : ss.length ≤ 1000) (q : Q (.bl true) H) : rInsOp (He.ga K "Chain") (spEqC K) E (.ref a) (.ref b) H Q := by
  obtain ⟨dx, t, g1, g1'⟩ := id h1
  obtain ⟨dy, u, f1, f1'⟩ := id h2
  refine w_insOp g1 f1 ⟨a, b, _, _, rfl, h1.L hl, h2.L hl, ?_⟩
  rw [show PyData.eqv (tupD (ss.map fun s => .tup (parts s))) (tupD (ss.map fun s => .tup (parts s))) = true from eqv_self (shaped_tupD steps_lay)]
  exact q
theorem go_lsum {K : PySem.W.Frag} {H : Hp} {Q : VK} {E : XK} {a b : Addr} {ss ts : List Stp} (h1 : ChainS K H a ss) (h2 : ChainS K H b ts) (o1 : ∀ s ∈ ss, s.ok) (o2 : ∀ s ∈ ts, s.ok) (l1 : ss.length ≤ 100) (l2 : ts.length ≤ 100)
    (k1 : ss.length + ts.length ≤ 5 → ∀ c H', H c = none → Same H H' → ChainS K H' c (ss ++ ts) → Q (.ref c) H') (k2 : 5 < ss.length + ts.length → ∀ H', Same H H' → Q (.int 5) H') : spLSum K [.ref a, .ref b] H Q E := ⟨a, b, ss, ts, rfl, h1, h2, o1, o2, l1, l2, k1, k2⟩
theorem go_lrefused {K : PySem.W.Frag} {H : Hp} {Q : VK} {E : XK} {c : Addr} {v : V} {ss : List Stp} (hc : ChainS K H c ss) (ho : ∀ s ∈ ss, s.ok) (hl : ss.length ≤ 1000) (n : NotVal K H v) (q : ∀ l H', Same H H' → H l = none → H' l = some (.lst [.bl true, .bl true, .bl true]) → Q (.ref l) H') : spLRefused K [.ref c, v] H Q E := ⟨c, v, ss, rfl, hc, ho, hl, n, q⟩
theorem go_ldue {K : PySem.W.Frag} {H : Hp} {Q : VK} {E : XK} {a : Addr} {ss : List Stp} {x : Val} (h : StepsL K H a ss) (o : ∀ s ∈ ss, s.ok) (hl : ss.length ≤ 1000) (q : ∀ p H', Same H H' → H p = none → H' p = some (.tup (outT ss x)) → Q (.ref p) H') : spLDue K [.ref a, vv x] H Q E := ⟨a, ss, x, rfl, h, o, hl, q⟩
theorem go_ltimes {K : PySem.W.Frag} {H : Hp} {Q : VK} {E : XK} {a : Addr} {ss : List Stp} {x : Val} {n : Int} (h0 : 0 ≤ n) (h1 : n < 1000000) (h : StepsL K H a ss) (o : ∀ s ∈ ss, s.ok) (hl : ss.length ≤ 1000) (q : ∀ p H', Same H H' → H p = none → H' p = some (.tup (agT ss n.toNat 0 x)) → Q (.ref p) H') : spLTimes K [.ref a, vv x, .int n] H Q E :=
  ⟨a, ss, x, n.toNat, by rw [show ((n.toNat : Nat) : Int) = n by omega], by omega, h, o, hl, q⟩
def spLaw (K : PySem.W.Frag) : Sp := fun vs H Q _ => ∃ (a : Addr) (ns : List Int), vs = [.ref a] ∧ SqL K H a (ns.map V.int) ∧ ∀ H', Q (.bl true) H'
theorem go_begin {K : PySem.W.Frag} {H : Hp} {Q : VK} {E : XK} {a : Addr} {cells : List Int} (h : SqL K H a (vints cells)) (q : ∀ d c H', H d = none → Same H H' → DrawsAt H' d (c, cells) → Q (.ref d) H') : spBegin K [.ref a] H Q E := ⟨a, cells, rfl, h, q⟩
theorem w_dnew {σ : L2.St} {H : Hp} {Q : VK} (h : ∀ p, H p = none → Q (.ref p) (upd H p (.dK []))) : tDNewK σ H Q := h
/-- two ways that go on alike -/
theorem w_join {A : Prop} (R Pv : L2.St → Hp → Prop) (main : (∀ σ H, Pv σ H → R σ H) → A) (cont : ∀ σ H, Pv σ H → R σ H) : A := main cont
end TB

set_option maxHeartbeats 4000000
namespace TB
open PySem PySem.Spec PyProof.Rows L2 TW LamX NdefX
/-! ### a function made in a def, handed to another def -/
/-- from the state (s0, H0) on, below the frames outer, the function at f keeps spc -/
structure CloAt (P : Program) (w : World) (K : PySem.W.Frag) (mg : Str → Option Value) (base : Heap) (k : Nat) (f : Addr) (outer : List Env) (s0 : Shared) (H0 : Hp) (spc : Sp) : Prop where
  fn : ∀ (s : Shared) (H : Hp), Un (frs outer) [] H0 H s0.heap s.heap → HOk P w H s.heap → ExtN H0 H → PySem.W.FnAt f s.heap
  run : ∀ (A : Around) (out : List Env) (s : Shared) (H : Hp) (us : List Value) (vs : List V) (Q : VK), Room k A → Env0 P w K mg base A out s H → Un (frs outer) [] H0 H s0.heap s.heap → ExtN H0 H → Vals vs us → spc vs H Q E0 →
    codeAny (model P w) A (.call (.ref f) ⟨us, []⟩) (CR (L2.CX P w) out P w H s Q E0) s
theorem cells_un {cl : List (Str × Addr)} {fr : List Str} {ws : List (Option V)} {fs : List Addr} {H0 H : Hp} {h0 h : Heap} (C : CellsAt cl fr ws h0 H0) (un : Un fs [] H0 H h0 h) : CellsAt cl fr ws h H := by
  have kp : ∀ y c, cl.lookup y = some c → ∀ v, h0.IsCell c v → h.IsCell c v := fun y c e v hc => by
    obtain ⟨o, ho, hd⟩ := hc
    obtain ⟨sl, hs⟩ := un.any ho (C.all y c e).1 (by simp)
    exact ⟨_, hs, hd⟩
  refine ⟨C.len, fun y c e => ?_, C.inj, fun i y e => ?_⟩
  · obtain ⟨n, v, z⟩ := C.all y c e
    refine ⟨?_, v, kp y c e v z⟩
    obtain ⟨o, ho, _⟩ := z
    exact un.free c o ho n (by simp)
  · obtain ⟨c, hc, hv⟩ := C.has i y e
    refine ⟨c, hc, fun v ev => ?_⟩
    obtain ⟨u, r, z⟩ := hv v ev
    exact ⟨u, r, kp y c hc _ z⟩
/-- .. a nested def -/
theorem clo_of {X : Cx} {pins : List (Addr × Obj)} {σ : L2.St} {H : Hp} {s : Shared} {k : Nat} {f : Addr} {F : NF} {ps fr : List Str} {js : List Nat} {sp : List (Option V) → Sp} {cl : List (Str × Addr)} (Fn : NOk X.prog X.w X.K X.mg X.base (L2.CX X.prog X.w) k f F ps fr sp) (hcl : F.cl = cl) (cp : X.Ok → Caps X cl fr js)
    (I : Inv X pins σ H s) (hf : H f = some (FnO f F)) (hc : H F.c = some (CodeO F.c F.qual)) : CloAt X.prog X.w X.K X.mg X.base k f X.stack s H (sp (js.map (slotAt σ))) := by
  have C : CellsAt F.cl fr (js.map (slotAt σ)) s.heap H := by rw [hcl]; exact cells_of I (cp I.ok)
  refine ⟨fun s1 H1 un ok e => ?_, fun A out s1 H1 us vs Q hr e0 un e r q => ?_⟩
  · obtain ⟨od, sl, doc, pm, ctv, ho⟩ := fnO_at ok (e _ _ hf fnO_ne)
    exact ⟨_, od, _, sl, ho⟩
  · exact Fn.run A out s1 H1 us vs _ Q E0 hr e0 (e _ _ hf fnO_ne) (e _ _ hc codeO_ne) (cells_un C un) r q
/-- the call, in the def that got it -/
def tClo (i : Nat) (f : Addr) (H0 : Hp) (spc : Sp) (t : TA) : TE := fun σ H Q => ExtN H0 H ∧ σ[i]? = some (some (.ref f)) ∧ t σ H fun vs H1 => ExtN H0 H1 ∧ spc vs H1 Q E0
theorem pe_clo {X : Cx} {k j i : Nat} {f : Addr} {spc : Sp} {x : Str} {p pos : Pos} {e : Expr} {es : List Expr} {t : TA} (C : CloAt X.prog X.w X.K X.mg X.base k f X.outer X.s_0 X.H_0 spc) (hex : X.ex = []) (hr : Room j X.A) (hk : k ≤ j) (hN : X.N[i]? = some x) (hv : Vis X.env.scope x) (ha : PA X (e :: es) t)
    (hd : (x == ("__debug__" : Str)) = false := by decide) (hcd : (x == ("__classdict__" : Str)) = false := by decide)
    (he : starEach (e :: es) X.env = (false, eval e X.env) :: starEach es X.env := by rfl) (hpl : (backTo pos (starEach es X.env)).any (·.1) = false := by rfl) :
    PE X (.Call (.Name x p) (e :: es) [] pos) (tClo i f X.H_0 spc t) := by
  refine ⟨fun pins s σ H Q I h => ?_⟩
  obtain ⟨ext, hs, ht⟩ := h
  refine wpAny_Call_Name_kw (thn ((pe_var (pos := p) hN hv hd hcd).run pins s σ H (fun v H1 => v = .ref f ∧ H1 = H) I ⟨.ref f, hs, rfl, rfl⟩) fun u s1 ⟨v, H1, I1, r1, q1⟩ => ?_)
  obtain ⟨ev, eH⟩ := q1
  subst ev
  rw [eH] at I1
  obtain rfl : u = Value.ref f := r1
  have un1 : ∀ {pins' : List (Addr × Obj)} {σ' : L2.St} {H' : Hp} {s' : Shared}, Inv X pins' σ' H' s' → Un (frs X.outer) [] X.H_0 H' X.s_0.heap s'.heap := fun J => by
    have q := J.base
    rw [hex] at q
    exact q
  refine PySem.W.callWith_F (first := []) (C.fn s1 H (un1 I1) I1.hok ext) (thn (ha.run pos pins s1 σ H _ I1 ht) fun us s2 ⟨vs, H2, I2, r, h1, q⟩ => ⟨C.fn s2 H2 (un1 I2) I2.hok h1, ?_⟩) he hpl
  show wpAny _ _ (call (.ref f) us) _ _ _
  refine wpAny_call (codeAny_mono (C.run X.A X.stack s2 H2 us vs Q (hr.mono hk) I2.env0 (un1 I2) h1 r q) fun r s' hq => ?_)
  cases r with
  | error e => exact passL pins σ H2 s2 e s' I2 hq
  | ok fl =>
    cases fl with
    | ret u => exact I2.after hq
    | next => exact False.elim hq
    | brk => exact False.elim hq
    | cont => exact False.elim hq
/-! ### a def whose promise speaks of the very state -/
def StC : Type := List Env → Shared → Hp → List V → VK → Prop
structure CalC (P : Program) (w : World) (K : PySem.W.Frag) (mg : Str → Option Value) (base : Heap) (k : Nat) (x : Str) (ps : List Str) (SP : StC) : Prop where
  ex : ∃ (f : Addr) (fd : FuncData), mg x = some (.ref f) ∧ PySem.W.keepIn K (.ref f) = true ∧ Binds K fd ps [] ∧ (∀ out s H vs Q, SP out s H vs Q → vs.length = ps.length) ∧
    ∀ (A : Around) (out : List Env) (s : Shared) (H : Hp) (args : Args) (us : List Value) (vs : List V) (Q : VK), Room k A → Env0 P w K mg base A out s H → BindsTo s fd args (ps.zip us) → Vals vs us → SP out s H vs Q →
      codeAny (model P w) A (.call (.ref f) args) (CR (L2.CX P w) out P w H s Q E0) s
theorem calC_of {P : Program} {w : World} {K : PySem.W.Frag} {mg : Str → Option Value} {base : Heap} {k : Nat} {x : Str} {st : Stmt} {N ps : List Str} {SP : StC} (F : FnP K mg x st) (S : FnScope N ps (defScope st)) (len : ∀ out s H vs Q, SP out s H vs Q → vs.length = ps.length)
    (hb : ∀ (kV doc pm : Value) (an : Option Addr) (cdv ct : Value) (us : List Value), us.length = ps.length → bindArgs (PySem.W.fnOf x x (defArgs st) (defBody st) (defScope st) .none kV doc pm an cdv ct) ⟨us, []⟩ = pure (ps.zip us))
    (hbody : ∀ (f : Addr) (cdv : Value) (A : Around) (outer : List Env) (s : Shared) (H : Hp) (vs : List V) (Q : VK), Room k (A.deeper (envOfC x (defScope st) s.heap.objs.size f cdv)) → SP outer s H vs Q →
      ∃ t, PSs (cxOf (L2.CX P w) P w K mg base N x (defScope st) f cdv A outer s H E0) (defBody st) t ∧ t { nx := fun _ H' => Q .non H', rt := Q } (start N vs) H) : CalC P w K mg base (k + 1) x ps SP := by
  obtain ⟨hm, fd, F⟩ := F
  have kp := F.kp
  have bn := F.bindsN hb
  obtain ⟨oc, od, dV, kV, doc, pm, an, cdv, ct, osl, rfl, lk, hcd, _, _⟩ := F.ex
  refine ⟨_, _, hm, kp, bn, len, fun A out s H args us vs Q hr e0 hbd r sp => ?_⟩
  exact run_ofS lk hcd S hr e0 hbd r (len _ _ _ _ _ sp) fun hr' => hbody _ _ A out s H vs Q hr' sp
def tCalC (SPσ : L2.St → List V → Hp → VK → Prop) (t : TA) : TE := fun σ H Q => t σ H fun vs H1 => SPσ σ vs H1 Q
theorem pe_calC {X : Cx} {k j : Nat} {x : Str} {ps : List Str} {SP : StC} {SPσ : L2.St → List V → Hp → VK → Prop} {p pos : Pos} {e : Expr} {es : List Expr} {t : TA} (c : CalC X.prog X.w X.K X.mg X.base k x ps SP) (hr : Room j X.A) (hk : k ≤ j) (hg : Gl X x)
    (link : ∀ pins σ H s vs Q, Inv X pins σ H s → SPσ σ vs H Q → SP X.stack s H vs Q) (ha : PA X (e :: es) t)
    (hdb : (x == ("__debug__" : Str)) = false := by decide) (he : starEach (e :: es) X.env = (false, eval e X.env) :: starEach es X.env := by rfl) (hpl : (backTo pos (starEach es X.env)).any (·.1) = false := by rfl) :
    PE X (.Call (.Name x p) (e :: es) [] pos) (tCalC SPσ t) := by
  obtain ⟨f, fd, hm, kp, hb, len, run⟩ := c.ex
  refine ⟨fun pins s σ H Q I h => ?_⟩
  refine wpAny_Call_Name_kw (ld_glob I hg hm ?_ hdb)
  refine PySem.W.callWith_K (h₀ := X.base) I.ok.mod.kin kp (thn (ha.run pos pins s σ H _ I h) fun us s1 ⟨vs, H1, I1, r, q⟩ => ⟨I1.kIn, ?_⟩) he hpl
  have q' := link pins σ H1 s1 vs Q I1 q
  have hl : us.length = ps.length := by rw [← r.length]; exact len _ _ _ _ _ q'
  have b := hb s1 us I1.kIn (by rw [List.append_nil]; exact hl)
  rw [List.append_nil] at b
  refine wpAny_call (codeAny_mono (run X.A X.stack s1 H1 ⟨us, []⟩ us vs Q (hr.mono hk) I1.env0 b r q') fun r s' hq => ?_)
  cases r with
  | error e => exact passL pins σ H1 s1 e s' I1 hq
  | ok fl =>
    cases fl with
    | ret u => exact I1.after hq
    | next => exact False.elim hq
    | brk => exact False.elim hq
    | cont => exact False.elim hq
end TB

set_option maxHeartbeats 4000000
namespace TB
open PySem PySem.Spec PyProof.Rows L2 TW
/-! ### sizes, values -/
theorem w_aug {i : Nat} {te : TE} {ti : TIp} {D : Ends} {σ : L2.St} {H : Hp} {x : V} (h : σ[i]? = some (some x)) (q : te σ H fun y H1 => ti x y H1 fun z H2 => D.nx (σ.set i (some z)) H2) : tAug i te ti D σ H := ⟨x, h, q⟩
theorem w_par {i j : Nat} {ta : TA} {D : Ends} {σ : L2.St} {H : Hp} (h : ta σ H fun vs H1 => ∃ v w, vs = [v, w] ∧ D.nx ((σ.set i (some v)).set j (some w)) H1) : tPar i j ta D σ H := h
theorem w_parE {v w : V} {B : V → V → Prop} (h : B v w) : ∃ v' w', [v, w] = [v', w'] ∧ B v' w' := ⟨v, w, rfl, h⟩
theorem w_ipI {f : Int → Int → Int} {i j : Int} {H : Hp} {Q : VK} (q : Q (.int (f i j)) H) : ipI f (.int i) (.int j) H Q := ⟨i, j, rfl, rfl, q⟩
theorem w_sum {K : PySem.W.Frag} {H : Hp} {Q : VK} {a : Addr} {ns : List Int} (h : SqL K H a (ns.map V.int)) (q : Q (.int ns.sum) H) : rSum K [.ref a] H Q := ⟨a, ns, rfl, h, q⟩
theorem tru_mono {K : PySem.W.Frag} {i : Nat} : ∀ (σ : L2.St) (H : Hp) (Q Q' : Bool → Hp → Prop), (∀ b H1, Q b H1 → Q' b H1) → tTru K (tVar i) σ H Q → tTru K (tVar i) σ H Q' := fun σ H Q Q' h hq => by
  obtain ⟨v, e, k, t, q⟩ := hq
  exact ⟨v, e, k, t, h _ _ q⟩
theorem call_isiK {X : Cx} (K : PySem.W.Frag) (h : X.K = K) : CallR X (.builtin "isinstance") (rIsi K) := h ▸ call_isi
theorem ix_listK {X : Cx} (K : PySem.W.Frag) (h : X.K = K) : IxR X (rIxL K) := h ▸ ix_list
theorem ix_tupK {X : Cx} (K : PySem.W.Frag) (h : X.K = K) : IxR X (rIxT K) := h ▸ ix_tup
theorem ix_seqK {X : Cx} (K : PySem.W.Frag) (h : X.K = K) : IxR X (rIx K) := h ▸ ix_seq
def spGcd : Sp := fun vs H Q _ => ∃ a b : Nat, vs = [.int a, .int b] ∧ a < 1000000 ∧ b < 1000000 ∧ ∀ H', Same H H' → Q (.int (Nat.gcd a b)) H'
def spPeriod (K : PySem.W.Frag) : Sp := fun vs H Q _ => ∃ a ss, vs = [.ref a] ∧ StepsT K H a ss ∧ (∀ s ∈ ss, s.ok) ∧ ss.length ≤ 1000 ∧ ∀ H', Same H H' → Q (.int (per ss)) H'
def spReach (K : PySem.W.Frag) : Sp := fun vs H Q _ => ∃ a ss, vs = [.ref a] ∧ StepsT K H a ss ∧ (∀ s ∈ ss, s.ok) ∧ ss.length ≤ 1000 ∧ ∀ H', Same H H' → Q (.int (reach ss)) H'
def spNumsTo : Sp := fun vs H Q _ => ∃ n : Nat, vs = [.int n] ∧ n ≤ 40000 ∧ NewL ((numsTo n).map .int) H Q
def spValuesFor (K : PySem.W.Frag) : Sp := fun vs H Q _ => ∃ a ss, vs = [.ref a] ∧ StepsT K H a ss ∧ (∀ s ∈ ss, s.ok) ∧ ss.length ≤ 100 ∧ NewL ((vals (look ss)).map vv) H Q
theorem go_gcd {H : Hp} {Q : VK} {E : XK} {a b : Int} (ha : 0 ≤ a) (ha' : a < 1000000) (hb : 0 ≤ b) (hb' : b < 1000000) (q : ∀ H', Same H H' → Q (.int (Nat.gcd a.toNat b.toNat)) H') : spGcd [.int a, .int b] H Q E := ⟨a.toNat, b.toNat, by rw [show ((a.toNat : Nat) : Int) = a by omega, show ((b.toNat : Nat) : Int) = b by omega], by omega, by omega, q⟩
theorem go_period {K : PySem.W.Frag} {H : Hp} {Q : VK} {E : XK} {a : Addr} {ss : List Stp} (h : StepsT K H a ss) (o : ∀ s ∈ ss, s.ok) (hl : ss.length ≤ 1000) (q : ∀ H', Same H H' → Q (.int (per ss)) H') : spPeriod K [.ref a] H Q E := ⟨a, ss, rfl, h, o, hl, q⟩
theorem go_reach {K : PySem.W.Frag} {H : Hp} {Q : VK} {E : XK} {a : Addr} {ss : List Stp} (h : StepsT K H a ss) (o : ∀ s ∈ ss, s.ok) (hl : ss.length ≤ 1000) (q : ∀ H', Same H H' → Q (.int (reach ss)) H') : spReach K [.ref a] H Q E := ⟨a, ss, rfl, h, o, hl, q⟩
theorem go_numsTo {H : Hp} {Q : VK} {E : XK} {n : Int} (h0 : 0 ≤ n) (h1 : n ≤ 40000) (q : ∀ l H', Same H H' → H l = none → H' l = some (.lst ((numsTo n.toNat).map .int)) → Q (.ref l) H') : spNumsTo [.int n] H Q E := ⟨n.toNat, by rw [show ((n.toNat : Nat) : Int) = n by omega], by omega, q⟩
theorem go_valuesFor {K : PySem.W.Frag} {H : Hp} {Q : VK} {E : XK} {a : Addr} {ss : List Stp} (h : StepsT K H a ss) (o : ∀ s ∈ ss, s.ok) (hl : ss.length ≤ 100) (q : ∀ l H', Same H H' → H l = none → H' l = some (.lst ((vals (look ss)).map vv)) → Q (.ref l) H') : spValuesFor K [.ref a] H Q E := ⟨a, ss, rfl, h, o, hl, q⟩
/-- the numbers among a step's parts, by size -/
def pInts : List V → List Int
  | [] => []
  | .int i :: r => iabs i :: pInts r
  | _ :: r => pInts r
theorem pInts_app (a : List V) (x : V) : pInts (a ++ [x]) = pInts a ++ pInts [x] := by
  induction a with
  | nil => rfl
  | cons y a ih => cases y <;> simp [pInts, ih] <;> rfl
theorem pInts_len (a : List V) : (pInts a).length ≤ a.length := by
  induction a with
  | nil => exact Nat.le_refl _
  | cons y a ih => cases y <;> simp only [pInts, List.length_cons] <;> omega
theorem parts_sum (s : Stp) : (pInts (parts s).tail).sum = s.reach := by
  cases s with
  | fill v => cases v <;> simp [parts, pInts, vv, Stp.reach, Val.size]
  | replace v w => cases v <;> cases w <;> simp [parts, pInts, vv, Stp.reach, Val.size]
  | _ => simp [parts, pInts, Stp.reach]
theorem vv_nobl (v : Val) (b : Bool) : V.bl b ≠ vv v := by cases v <;> (intro e; cases e)
theorem parts_nobl (s : Stp) (b : Bool) : V.bl b ∉ (parts s).tail := by
  cases s <;> simp [parts] <;> first | exact vv_nobl _ b | exact ⟨vv_nobl _ b, vv_nobl _ b⟩
def headS (s : Stp) : Str := match s with
  | .clamp _ _ => "clamp" | .least _ => "least" | .most _ => "most" | .round _ _ => "round" | .shift _ => "shift" | .fold _ => "fold" | .mirror => "mirror" | .turn => "turn"
  | .blank _ _ => "blank" | .refuse _ _ => "refuse" | .fill _ => "fill" | .replace _ _ => "replace" | .void _ => "void" | .bar _ => "bar"
theorem parts_head (s : Stp) : parts s = .str (headS s) :: (parts s).tail := by cases s <;> rfl
theorem head_mod (s : Stp) : inW (.str (headS s)) ["round", "fold"] = s.isMod := by cases s <;> simp only [headS, Stp.isMod] <;> decide +kernel
theorem mod_part {s : Stp} (h : s.isMod = true) : ∃ r, parts s = .str (headS s) :: .int s.mod :: r := by cases s <;> first | exact ⟨_, rfl⟩ | cases h
theorem lcm_div (p m : Nat) : ((p : Int) * (m : Int)) / ((Nat.gcd p m : Nat) : Int) = ((Nat.lcm p m : Nat) : Int) := by
  show _ = (((p * m) / Nat.gcd p m : Nat) : Int)
  rw [Int.natCast_ediv, Int.natCast_mul]
theorem gcd_ok {p : Nat} {m : Int} (h0 : 0 < m) (h1 : m ≤ 10) : (0 : Int) < ((Nat.gcd ((p : Nat) : Int).toNat m.toNat : Nat) : Int) ∧ ((Nat.gcd ((p : Nat) : Int).toNat m.toNat : Nat) : Int) < 1073741824 ∧ ((p : Int) * m) / ((Nat.gcd ((p : Nat) : Int).toNat m.toNat : Nat) : Int) = ((Nat.lcm p m.toNat : Nat) : Int) := by
  have e : m = ((m.toNat : Nat) : Int) := by omega
  have a := Nat.gcd_pos_of_pos_right ((p : Nat) : Int).toNat (show 0 < m.toNat by omega)
  have b := Nat.le_of_dvd (show 0 < m.toNat by omega) (Nat.gcd_dvd_right ((p : Nat) : Int).toNat m.toNat)
  refine ⟨by omega, by omega, ?_⟩
  have h := lcm_div p m.toNat
  rw [← e] at h
  rw [show ((p : Nat) : Int).toNat = p from Int.toNat_natCast p]
  exact h
theorem perN_take {ss : List Stp} {i : Nat} {s : Stp} (h : ss[i]? = some s) (p : Nat) : perN p (ss.take (i + 1)) = (if s.isMod = true then Nat.lcm (perN p (ss.take i)) s.mod.toNat else perN p (ss.take i)) := by
  rw [List.take_succ, h, perN_app]
  rfl
theorem reach_take {ss : List Stp} {i : Nat} {s : Stp} (h : ss[i]? = some s) : reach (ss.take (i + 1)) = reach (ss.take i) + s.reach := by
  rw [List.take_succ, h, reach_app]
  show _ + (s.reach + 0) = _
  omega
theorem look_le {ss : List Stp} (ok : ∀ s ∈ ss, s.ok) (hl : ss.length ≤ 100) : look ss ≤ 10000 := by
  have h1 := look_eq ok; have h2 := reach_le ok; have h3 := per_le ok
  omega
theorem take_ok {ss : List Stp} (ok : ∀ s ∈ ss, s.ok) (i : Nat) : ∀ s ∈ ss.take i, s.ok := fun s hs => ok s (List.mem_of_mem_take hs)
theorem vals_vv (n : Nat) : (vals n).map vv = [.non, .str "a", .str "b", .str "c"] ++ (numsTo n).map .int := by
  unfold vals
  rw [List.map_append, List.map_map]
  rfl
theorem vals_len (n : Nat) : (vals n).length = 2 * n + 5 := by unfold vals; rw [List.length_append, List.length_map, numsTo_len]; simp; omega
end TB

set_option maxHeartbeats 4000000
namespace TB
open PySem PySem.Spec PyProof.Rows L2 TW LamX NdefX
/-! ### defs that make functions -/
theorem cal_ofC {P : Program} {w : World} {K : PySem.W.Frag} {mg : Str → Option Value} {base : Heap} {k : Nat} {x : Str} {st : Stmt} {N ps : List Str} {sp : Sp} (F : FnP K mg x st) (S : FnScope N ps (defScope st)) (len : ∀ vs H Q E, sp vs H Q E → vs.length = ps.length)
    (hb : ∀ (kV doc pm : Value) (an : Option Addr) (cdv ct : Value) (us : List Value), us.length = ps.length → bindArgs (PySem.W.fnOf x x (defArgs st) (defBody st) (defScope st) .none kV doc pm an cdv ct) ⟨us, []⟩ = pure (ps.zip us))
    (hbody : ∀ (f : Addr) (A : Around) (outer : List Env) (s : Shared) (H : Hp) (vs : List V) (Q : VK) (E : XK), Room k (A.deeper (envOfC x (defScope st) s.heap.objs.size f (.ref (He.codeOf K (x, none))))) → sp vs H Q E →
      ∃ t, PSs (cxOf (L2.CX P w) P w K mg base N x (defScope st) f (.ref (He.codeOf K (x, none))) A outer s H E) (defBody st) t ∧ t { nx := fun _ H' => Q .non H', rt := Q } (start N vs) H) : Cal P w K mg base (k + 1) x ps sp := by
  obtain ⟨hm, fd, F⟩ := F
  have kp := F.kp
  have bn := F.bindsN hb
  obtain ⟨oc, od, dV, kV, doc, pm, an, cdv, ct, osl, rfl, lk, hcd, _, _⟩ := F.ex
  obtain ⟨c, rfl⟩ := He.codeIn_ref hcd
  have ec : He.codeOf K (x, none) = c := He.codeOf_eq (p := (x, none)) lk rfl
  subst ec
  exact ⟨_, _, fn_of lk hcd S len fun A outer s H vs Q E hr h => hbody _ A outer s H vs Q E hr h, hm, kp, bn⟩
abbrev tabA (K : PySem.W.Frag) (x : Str) : Addr := (He.cT K (x, none)).2
theorem tab_hu {T : List NTab} {P : Addr} {nm : Nat → Nat → Str} (nd : (T.map (·.1)).Nodup) (h : (P, nm) ∈ T) : ∀ p ∈ T, p.1 = P → p.2 = nm := by
  induction T with
  | nil => cases h
  | cons q T ih =>
    rw [List.map_cons, List.nodup_cons] at nd
    intro p hp e
    rcases List.mem_cons.mp h with h | h <;> rcases List.mem_cons.mp hp with hp | hp
    · rw [hp, ← h]
    · exact absurd (List.mem_map.mpr ⟨p, hp, by rw [e, ← h]⟩) nd.1
    · exact absurd (List.mem_map.mpr ⟨(P, nm), h, by rw [← e, hp]⟩) nd.1
    · exact ih nd.2 h p hp e
theorem tabs_nil {T : List NTab} {H : Hp} (h : ∀ p ∈ T, H p.1 = some (.tbl #[])) : TabsN T H := fun p hp => TabN.nil (h p hp)
def spLawT (K : PySem.W.Frag) (T : List NTab) : Sp := fun vs H Q _ => ∃ (a : Addr) (ns : List Int), vs = [.ref a] ∧ SqL K H a (ns.map V.int) ∧ TabsN T H ∧ ∀ H', Q (.bl true) H'
/-! ### all but the tables stays -/
theorem SqT.ext {K : PySem.W.Frag} {H H' : Hp} {a : Addr} {xs : List V} (h : SqT K H a xs) (s : ExtN H H') : SqT K H' a xs := by
  rcases h with (h | ⟨o, h⟩) | h
  · exact .inl (.inl (s _ _ h (fun ps e => by cases e)))
  · exact .inl (.inr ⟨o, s _ _ h (fun ps e => by cases e)⟩)
  · exact .inr h
theorem StepsP.ext {K : PySem.W.Frag} {H H' : Hp} {ss : List Stp} {vs : List V} (h : StepsP K H ss vs) (s : ExtN H H') : StepsP K H' ss vs := L2.Paired.mapP h fun _ _ ⟨t, e, ht⟩ => ⟨t, e, SqT.ext ht s⟩
theorem StepsT.ext {K : PySem.W.Frag} {H H' : Hp} {a : Addr} {ss : List Stp} (h : StepsT K H a ss) (s : ExtN H H') : StepsT K H' a ss := by
  obtain ⟨items, h1, h2⟩ := h
  exact ⟨items, SqT.ext h1 s, StepsP.ext h2 s⟩
theorem ChainS.ext {K : PySem.W.Frag} {H H' : Hp} {c : Addr} {ss : List Stp} (h : ChainS K H c ss) (s : ExtN H H') : ChainS K H' c ss := by
  obtain ⟨dx, t, h1, h2⟩ := h
  exact ⟨dx, t, s _ _ h1 (fun ps e => by cases e), h2.ext s⟩
theorem LSt.ext {K : PySem.W.Frag} {H H' : Hp} {d D : Addr} {ss : List Stp} (h : LSt K H d D ss) (s : ExtN H H') : LSt K H' d D ss := by
  obtain ⟨n, items, h1, h2⟩ := h
  exact ⟨n, items, s _ _ h1 (fun ps e => by cases e), StepsP.ext h2 s⟩
theorem DrawsAt.ext {H H' : Hp} {d : Addr} {cells : Cells} (h : DrawsAt H d cells) (s : ExtN H H') : DrawsAt H' d cells := by
  obtain ⟨a, b, e, h1, h2, r⟩ := h
  exact ⟨a, b, e, s _ _ h1 (fun ps e => by cases e), s _ _ h2 (fun ps e => by cases e), r⟩
theorem TabsN.sameX {T : List NTab} {H H' : Hp} {d : Addr} {cells : Cells} (t : TabsN T H) (s : SameX d H H') (dr : DrawsAt H d cells) (ext : ∀ p ∈ T, ∀ ps : Array Value, H p.1 = some (.tbl ps) → p.1 ≠ d) : True := trivial
theorem TabN.nl {H H' : Hp} {P : Addr} {nm : Nat → Nat → Str} (t : TabN H P nm) (s : NL H H') : TabN H' P nm := by
  obtain ⟨ps, h1, h2, h3⟩ := t
  refine ⟨ps, s _ _ h1 (fun xs e => by cases e), h2, fun pos cv hc => ?_⟩
  obtain ⟨c, e1, e2⟩ := h3 pos cv hc
  exact ⟨c, e1, s _ _ e2 (fun xs e => by cases e)⟩
theorem TabsN.nl {T : List NTab} {H H' : Hp} (t : TabsN T H) (s : NL H H') : TabsN T H' := fun p hp => TabN.nl (t p hp) s
/-! ### promises -/
/-- what a function that is handed over tells of a value -/
def spWant (D : Val → Bool) : Sp := fun vs H Q _ => ∃ v, vs = [vv v] ∧ ∀ H', Same H H' → Q (.bl (D v)) H'
theorem CloAt.imp {P : Program} {w : World} {K : PySem.W.Frag} {mg : Str → Option Value} {base : Heap} {k : Nat} {f : Addr} {out : List Env} {s0 : Shared} {H0 : Hp} {sp sp' : Sp} (C : CloAt P w K mg base k f out s0 H0 sp) (h : ∀ vs H Q, ExtN H0 H → sp' vs H Q E0 → sp vs H Q E0) : CloAt P w K mg base k f out s0 H0 sp' :=
  ⟨C.fn, fun A o s H us vs Q hr e0 un e r q => C.run A o s H us vs Q hr e0 un e r (h vs H Q e q)⟩
/-- a value in a tuple, or None -/
def OptR (o : Option Val) (H : Hp) (Q : VK) : Prop := match o with
  | none => ∀ H', Same H H' → Q .non H'
  | some v => ∀ p H', Same H H' → H p = none → H' p = some (.tup [vv v]) → Q (.ref p) H'
def OptT (o : Option Val) (T : List NTab) (H : Hp) (Q : VK) : Prop := match o with
  | none => ∀ H', ExtN H H' → TabsN T H' → Q .non H'
  | some v => ∀ p H', ExtN H H' → TabsN T H' → H' p = some (.tup [vv v]) → Q (.ref p) H'
def spFirst (P : Program) (w : World) (K : PySem.W.Frag) (mg : Str → Option Value) (base : Heap) (k : Nat) : StC := fun out s H vs Q => ∃ t f ss D, vs = [.ref t, .ref f] ∧ StepsT K H t ss ∧ (∀ s ∈ ss, s.ok) ∧ ss.length ≤ 100 ∧ CloAt P w K mg base k f out s H (spWant D) ∧ OptR (firstV (look ss) D) H Q
theorem w_clo {i : Nat} {f : Addr} {H0 H : Hp} {spc : Sp} {t : TA} {σ : L2.St} {Q : VK} (e : ExtN H0 H) (h : σ[i]? = some (some (.ref f))) (q : t σ H fun vs H1 => ExtN H0 H1 ∧ spc vs H1 Q E0) : tClo i f H0 spc t σ H Q := ⟨e, h, q⟩
theorem w_calC {SPσ : L2.St → List V → Hp → VK → Prop} {t : TA} {σ : L2.St} {H : Hp} {Q : VK} (h : t σ H fun vs H1 => SPσ σ vs H1 Q) : tCalC SPσ t σ H Q := h
/-- the function made in a chain's question of two chains -/
def spTwo2 (K : PySem.W.Frag) (D : List Stp → List Stp → Val → Bool) (ws : List (Option V)) : Sp := fun vs H Q _ => ∃ a b ss ts v, ws = [some (.ref a), some (.ref b)] ∧ vs = [vv v] ∧ ChainS K H a ss ∧ ChainS K H b ts ∧ (∀ s ∈ ss, s.ok) ∧ (∀ s ∈ ts, s.ok) ∧ ss.length ≤ 100 ∧ ts.length ≤ 100 ∧ ∀ H', Same H H' → Q (.bl (D ss ts v)) H'
def spOne1 (K : PySem.W.Frag) (D : List Stp → Val → Bool) (ws : List (Option V)) : Sp := fun vs H Q _ => ∃ a ss v, ws = [some (.ref a)] ∧ vs = [vv v] ∧ ChainS K H a ss ∧ (∀ s ∈ ss, s.ok) ∧ ss.length ≤ 100 ∧ ∀ H', Same H H' → Q (.bl (D ss v)) H'
/-- what the maker hands over: two chains -/
def spHand2 (K : PySem.W.Frag) (mk : Addr → NF) (D : List Stp → List Stp → Val → Bool) : L2.St → List V → Hp → VK → Prop := fun σ vs H Q => ∃ t f c' a b ss ts, vs = [.ref t, .ref f] ∧ σ[0]? = some (some (.ref a)) ∧ σ[1]? = some (some (.ref b)) ∧ H f = some (FnO f (mk c')) ∧ H (mk c').c = some (CodeO (mk c').c (mk c').qual) ∧
  StepsT K H t (ss ++ ts) ∧ ChainS K H a ss ∧ ChainS K H b ts ∧ (∀ s ∈ ss, s.ok) ∧ (∀ s ∈ ts, s.ok) ∧ ss.length ≤ 50 ∧ ts.length ≤ 50 ∧ OptR (firstV (look (ss ++ ts)) (D ss ts)) H Q
def spHand1 (K : PySem.W.Frag) (mk : Addr → NF) (D : List Stp → Val → Bool) : L2.St → List V → Hp → VK → Prop := fun σ vs H Q => ∃ t f c' a ss, vs = [.ref t, .ref f] ∧ σ[0]? = some (some (.ref a)) ∧ H f = some (FnO f (mk c')) ∧ H (mk c').c = some (CodeO (mk c').c (mk c').qual) ∧
  StepsT K H t ss ∧ ChainS K H a ss ∧ (∀ s ∈ ss, s.ok) ∧ ss.length ≤ 50 ∧ OptR (firstV (look ss) (D ss)) H Q
theorem link2 {X : Cx} {k : Nat} {mk : Addr → NF} {cl : List (Str × Addr)} {ps fr : List Str} {D : List Stp → List Stp → Val → Bool} (Fn : ∀ f c', NOk X.prog X.w X.K X.mg X.base (L2.CX X.prog X.w) k f (mk c') ps fr (spTwo2 X.K D)) (hcl : ∀ c', (mk c').cl = cl) (cp : X.Ok → Caps X cl fr [0, 1]) :
    ∀ pins σ H s vs Q, Inv X pins σ H s → spHand2 X.K mk D σ vs H Q → spFirst X.prog X.w X.K X.mg X.base k X.stack s H vs Q := by
  intro pins σ H s vs Q I h
  obtain ⟨t, f, c', a, b, ss, ts, rfl, s0, s1, hf, hc, hst, ha, hb, o1, o2, l1, l2, q⟩ := h
  refine ⟨t, f, ss ++ ts, D ss ts, rfl, hst, mem_ok2 o1 o2, by rw [List.length_append]; omega, ?_, q⟩
  refine (clo_of (Fn f c') (hcl c') cp I hf hc).imp fun vs' H' Q' e h => ?_
  obtain ⟨v, rfl, q'⟩ := h
  refine ⟨a, b, ss, ts, v, ?_, rfl, ha.ext e, hb.ext e, o1, o2, by omega, by omega, q'⟩
  show [slotAt σ 0, slotAt σ 1] = _
  rw [slotAt_of s0, slotAt_of s1]
theorem link1 {X : Cx} {k : Nat} {mk : Addr → NF} {cl : List (Str × Addr)} {ps fr : List Str} {D : List Stp → Val → Bool} (Fn : ∀ f c', NOk X.prog X.w X.K X.mg X.base (L2.CX X.prog X.w) k f (mk c') ps fr (spOne1 X.K D)) (hcl : ∀ c', (mk c').cl = cl) (cp : X.Ok → Caps X cl fr [0]) :
    ∀ pins σ H s vs Q, Inv X pins σ H s → spHand1 X.K mk D σ vs H Q → spFirst X.prog X.w X.K X.mg X.base k X.stack s H vs Q := by
  intro pins σ H s vs Q I h
  obtain ⟨t, f, c', a, ss, rfl, s0, hf, hc, hst, ha, o1, l1, q⟩ := h
  refine ⟨t, f, ss, D ss, rfl, hst, o1, by omega, ?_, q⟩
  refine (clo_of (Fn f c') (hcl c') cp I hf hc).imp fun vs' H' Q' e h => ?_
  obtain ⟨v, rfl, q'⟩ := h
  refine ⟨a, ss, v, ?_, rfl, ha.ext e, o1, by omega, q'⟩
  show [slotAt σ 0] = _
  rw [slotAt_of s0]
theorem pd_eqv (x y : Val) : PyData.eqv (pd (vv x)) (pd (vv y)) = decide (x = y) := by
  cases x <;> cases y <;> first
    | (simp [vv, pd, PyData.eqv]; done)
    | decide +kernel
    | (rename_i i j
       show (i == j) = decide (Val.int i = .int j)
       by_cases h : i = j
       · subst h; simp
       · rw [decide_eq_false (fun e => h (Val.int.inj e))]; simpa using h)
theorem optD_eqv (a b : Option Val) : PyData.eqv (.list ((optL a).map pd)) (.list ((optL b).map pd)) = decide (a = b) := by
  cases a <;> cases b
  · simp [optL, PyData.eqv, PyData.eqvAll]
  · simp [optL, PyData.eqv, PyData.eqvAll]
  · simp [optL, PyData.eqv, PyData.eqvAll]
  · rename_i x y
    show (PyData.eqv (pd (vv x)) (pd (vv y)) && PyData.eqvAll [] []) = _
    rw [pd_eqv]
    simp [PyData.eqvAll]
theorem opt_dp {K : PySem.W.Frag} {H : Hp} {l : Addr} {o : Option Val} (h : H l = some (.lst (optL o))) : Dp K H (.ref l) (.list ((optL o).map pd)) := .lst (lstAt h) (pds_dp (optL_flat o))
/-- results, compared -/
theorem w_neO {K : PySem.W.Frag} {H : Hp} {Q : VK} {l m : Addr} {a b : Option Val} (h1 : H l = some (.lst (optL a))) (h2 : H m = some (.lst (optL b))) (q : Q (.bl (decide (a ≠ b))) H) : rNeD K (.ref l) (.ref m) H Q :=
  w_neD (opt_dp h1) (opt_dp h2) (optD_shaped a) (optD_shaped b) (by
    rw [optD_eqv]
    have e : (!decide (a = b)) = decide (a ≠ b) := by by_cases h : a = b <;> simp [h]
    rw [e]; exact q)
def rBoolL (K : PySem.W.Frag) : List V → Hp → VK → Prop := fun xs H Q => ∃ (a : Addr) (zs : List V), xs = [.ref a] ∧ SqL K H a zs ∧ Q (.bl (!zs.isEmpty)) H
theorem call_boolR {X : Cx} : CallR X (.type "bool") (rBoolL X.K) := call_boolL
theorem w_boolL {K : PySem.W.Frag} {H : Hp} {Q : VK} {a : Addr} {zs : List V} (h : SqL K H a zs) (q : Q (.bl (!zs.isEmpty)) H) : rBoolL K [.ref a] H Q := ⟨a, zs, rfl, h, q⟩
/-- questions of two chains -/
def spAsk2 (K : PySem.W.Frag) (T : List NTab) (F : List Stp → List Stp → Option Val) : Sp := fun vs H Q _ => ∃ a b ss ts, vs = [.ref a, .ref b] ∧ ChainS K H a ss ∧ ChainS K H b ts ∧ (∀ s ∈ ss, s.ok) ∧ (∀ s ∈ ts, s.ok) ∧ ss.length ≤ 50 ∧ ts.length ≤ 50 ∧ TabsN T H ∧ OptT (F ss ts) T H Q
def spAsk1 (K : PySem.W.Frag) (T : List NTab) (F : List Stp → Option Val) : Sp := fun vs H Q _ => ∃ a ss, vs = [.ref a] ∧ ChainS K H a ss ∧ (∀ s ∈ ss, s.ok) ∧ ss.length ≤ 50 ∧ TabsN T H ∧ OptT (F ss) T H Q
def spYes2 (K : PySem.W.Frag) (T : List NTab) (F : List Stp → List Stp → Bool) : Sp := fun vs H Q _ => ∃ a b ss ts, vs = [.ref a, .ref b] ∧ ChainS K H a ss ∧ ChainS K H b ts ∧ (∀ s ∈ ss, s.ok) ∧ (∀ s ∈ ts, s.ok) ∧ ss.length ≤ 50 ∧ ts.length ≤ 50 ∧ TabsN T H ∧ ∀ H', ExtN H H' → TabsN T H' → Q (.bl (F ss ts)) H'
def spYes1 (K : PySem.W.Frag) (T : List NTab) (F : List Stp → Bool) : Sp := fun vs H Q _ => ∃ a ss, vs = [.ref a] ∧ ChainS K H a ss ∧ (∀ s ∈ ss, s.ok) ∧ ss.length ≤ 50 ∧ TabsN T H ∧ ∀ H', ExtN H H' → TabsN T H' → Q (.bl (F ss)) H'
def alikeB (ss ts : List Stp) : Bool := decide (TW.parting ss ts = none)
def refusingV (ss : List Stp) : Option Val := firstV (look ss) (dRefuse ss)
def changingV (ss : List Stp) : Option Val := firstV (look ss) (dChange ss)
def twiceV (ss : List Stp) : Option Val := driftV ss ss
def settledB (ss : List Stp) : Bool := decide (twiceV ss = none)
/-- a result seen from the outside: the whole heap in between -/
theorem OptR.of {o : Option Val} {T : List NTab} {H H1 : Hp} {Q : VK} (q : OptT o T H Q) (e : ExtN H H1) (_ : ∀ b, H1 b = none → H b = none) (t : TabsN T H1) : OptR o H1 Q := by
  cases o with
  | none => exact fun H' s => q H' (e.trans (.of s)) (t.ext s)
  | some v => exact fun p H' s hp h => q p H' (e.trans (.of s)) (t.ext s) h
theorem go_ask2 {K : PySem.W.Frag} {T : List NTab} {F : List Stp → List Stp → Option Val} {H : Hp} {Q : VK} {E : XK} {a b : Addr} {ss ts : List Stp} (ha : ChainS K H a ss) (hb : ChainS K H b ts) (o1 : ∀ s ∈ ss, s.ok) (o2 : ∀ s ∈ ts, s.ok) (l1 : ss.length ≤ 50) (l2 : ts.length ≤ 50) (ht : TabsN T H) (q : OptT (F ss ts) T H Q) : spAsk2 K T F [.ref a, .ref b] H Q E := ⟨a, b, ss, ts, rfl, ha, hb, o1, o2, l1, l2, ht, q⟩
theorem go_ask1 {K : PySem.W.Frag} {T : List NTab} {F : List Stp → Option Val} {H : Hp} {Q : VK} {E : XK} {a : Addr} {ss : List Stp} (ha : ChainS K H a ss) (o1 : ∀ s ∈ ss, s.ok) (l1 : ss.length ≤ 50) (ht : TabsN T H) (q : OptT (F ss) T H Q) : spAsk1 K T F [.ref a] H Q E := ⟨a, ss, rfl, ha, o1, l1, ht, q⟩
theorem go_yes2 {K : PySem.W.Frag} {T : List NTab} {F : List Stp → List Stp → Bool} {H : Hp} {Q : VK} {E : XK} {a b : Addr} {ss ts : List Stp} (ha : ChainS K H a ss) (hb : ChainS K H b ts) (o1 : ∀ s ∈ ss, s.ok) (o2 : ∀ s ∈ ts, s.ok) (l1 : ss.length ≤ 50) (l2 : ts.length ≤ 50) (ht : TabsN T H) (q : ∀ H', ExtN H H' → TabsN T H' → Q (.bl (F ss ts)) H') : spYes2 K T F [.ref a, .ref b] H Q E := ⟨a, b, ss, ts, rfl, ha, hb, o1, o2, l1, l2, ht, q⟩
theorem go_yes1 {K : PySem.W.Frag} {T : List NTab} {F : List Stp → Bool} {H : Hp} {Q : VK} {E : XK} {a : Addr} {ss : List Stp} (ha : ChainS K H a ss) (o1 : ∀ s ∈ ss, s.ok) (l1 : ss.length ≤ 50) (ht : TabsN T H) (q : ∀ H', ExtN H H' → TabsN T H' → Q (.bl (F ss)) H') : spYes1 K T F [.ref a] H Q E := ⟨a, ss, rfl, ha, o1, l1, ht, q⟩
/-- is it None? -/
theorem OptT.isN {o : Option Val} {T : List NTab} {H : Hp} {R : VK} (k : ∀ H', ExtN H H' → TabsN T H' → R (.bl (decide (o = none))) H') : OptT o T H (fun x H1 => (fun x y H (Q : VK) => y = V.non ∧ Q (V.bl (decide (x = V.non))) H) x .non H1 R) := by
  cases o with
  | none => exact fun H' s' t' => w_isN (k H' s' t')
  | some v => exact fun p H' s' t' hv => w_isN (k H' s' t')
theorem dDrift_one {ss ts : List Stp} {v x : Val} (h : TW.run ss v = some x) : dDrift ss ts v = decide (TW.run ts x ≠ some x) := by
  unfold dDrift
  rw [run_append, h]
  simp
theorem dDrift_no {ss ts : List Stp} {v : Val} (h : TW.run ss v = none) : dDrift ss ts v = false := by
  unfold dDrift
  rw [h]
  simp
theorem dChange_one {ss : List Stp} {v x : Val} (h : TW.run ss v = some x) : dChange ss v = decide (some x ≠ some v) := by
  unfold dChange
  rw [h]
  simp
theorem dChange_no {ss : List Stp} {v : Val} (h : TW.run ss v = none) : dChange ss v = false := by
  unfold dChange
  rw [h]
  simp
/-! ### the mathematics of alike chains -/
theorem alike_iff {ss ts : List Stp} (o1 : ∀ s ∈ ss, s.ok) (o2 : ∀ s ∈ ts, s.ok) : alikeB ss ts = true ↔ ∀ v, TW.run ss v = TW.run ts v := by
  unfold alikeB
  rw [decide_eq_true_iff]
  exact parting_none o1 o2
theorem settled_iff {ss : List Stp} (o1 : ∀ s ∈ ss, s.ok) : settledB ss = true ↔ ∀ v, TW.run ss v ≠ none → TW.run (ss ++ ss) v = TW.run ss v := by
  unfold settledB twiceV
  rw [decide_eq_true_iff]
  exact drift_none o1 o1
theorem go_addS {K : PySem.W.Frag} {H : Hp} {Q : VK} {E : XK} {a b : Addr} {ss ts : List Stp} (ha : ChainS K H a ss) (hb : ChainS K H b ts) (o1 : ∀ s ∈ ss, s.ok) (o2 : ∀ s ∈ ts, s.ok) (hl : ss.length + ts.length ≤ 5) (q : ∀ c H', H c = none → Same H H' → ChainS K H' c (ss ++ ts) → Q (.ref c) H') : rInsOp (He.ga K "Chain") (spAdd K) E (.ref a) (.ref b) H Q := by
  obtain ⟨dx, t, h1, h1'⟩ := id ha
  obtain ⟨dy, u, g1, g1'⟩ := id hb
  exact w_insOp h1 g1 ⟨a, b, ss, ts, rfl, ha, hb, o1, o2, by omega, by omega, fun _ c H' hc s' ch => q c H' hc s' ch, fun h => absurd h (by omega)⟩
theorem OptT.each {o : Option Val} {T : List NTab} {H : Hp} {Q : VK} (k0 : o = none → ∀ H', ExtN H H' → TabsN T H' → Q .non H') (k1 : ∀ v p H', o = some v → ExtN H H' → TabsN T H' → H' p = some (.tup [vv v]) → Q (.ref p) H') : OptT o T H Q := by
  cases o with
  | none => exact k0 rfl
  | some v => exact fun p H' => k1 v p H' rfl
theorem OptT.any {o : Option Val} {T : List NTab} {H : Hp} {Q : VK} (k : ∀ x H', ExtN H H' → TabsN T H' → decide (x = V.non) = decide (o = none) → Q x H') : OptT o T H Q := by
  cases o with
  | none => exact fun H' s t => k _ H' s t (by simp)
  | some v => exact fun p H' s t _ => k _ H' s t (by simp)
end TB

set_option maxHeartbeats 4000000
namespace TB
open PySem PySem.Spec PyProof.Rows L2 TW LamX NdefX
/-! ### a lambda with parameters, handed to another def -/
abbrev lamF (q : Str) (params : Arguments) (scope : Scope) (cl : List (Str × Addr)) (c' : Addr) : NF := ⟨"<lambda>", q, params, [], scope, cl, c'⟩
theorem clo_lam {P : Program} {w : World} {K : PySem.W.Frag} {mg : Str → Option Value} {base : Heap} {out0 : List Env} {H : Hp} {s : Shared} {k : Nat} {f c' : Addr} {q : Str} {params : Arguments} {body : Expr} {scope : Scope} {cl : List (Str × Addr)} {pm ctv : Value} {N ps fr : List Str} {ws : List (Option V)} {spc : Sp}
    (hf : s.heap.get? f = some (PySem.W.kla_obj "<lambda>" q params body scope cl pm c' ctv)) (hfn : H f = none) (hfr : f ∉ frs out0) (hc : H c' = some (CodeO c' q)) (S : NScope N ps fr scope)
    (hb : ∀ us : List Value, us.length = ps.length → bindArgs (PySem.W.kla_fn "<lambda>" q params body scope cl pm (.ref c') ctv) ⟨us, []⟩ = pure (ps.zip us)) (len : ∀ vs H Q E, spc vs H Q E → vs.length = ps.length) (C : CellsAt cl fr ws s.heap H)
    (hbody : ∀ (A : Around) (out : List Env) (s1 : Shared) (H1 : Hp) (vs : List V) (Q : VK), Room k (A.deeper (envF (lamF q params scope cl c') f s1.heap.objs.size)) → spc vs H1 Q E0 →
      ∃ te, PE (ncx (L2.CX P w) P w K mg base N (lamF q params scope cl c') f A out s1 H1 E0) body te ∧ te (startF N vs ws) H1 Q) : CloAt P w K mg base (k + 1) f out0 s H spc := by
  have at1 : ∀ (s1 : Shared) (H1 : Hp), Un (frs out0) [] H H1 s.heap s1.heap → s1.heap.get? f = some (PySem.W.kla_obj "<lambda>" q params body scope cl pm c' ctv) := fun s1 H1 un => un.keep f _ hf hfn hfr (by simp)
  refine ⟨fun s1 H1 un _ _ => ⟨_, _, _, _, at1 s1 H1 un⟩, fun A out s1 H1 us vs Q hr e0 un e r hq => ?_⟩
  have lim : s1.heap.NoLimit := e0.mod.nolimit.keeps fun b o x => (e0.bs b o x).1
  have hl := len _ _ _ _ hq
  refine PySem.W.kla_callFunE hr.depth (at1 s1 H1 un) rfl S.co S.gen rfl (codeO_at e0.hok (e _ _ hc codeO_ne)) ?_
  rw [hb us (by rw [← r.length]; exact hl)]
  refine wpAny_pure (wpAny_newFunctionEnv S.nocell (fun ⟨n, _⟩ hy => S.par n (List.of_mem_zip hy).1) (fun h₁ hns hsb => ⟨lim.fresh _ hsb, ?_⟩) S.kind)
  show codeAny _ _ (.expr body (envF (lamF q params scope cl c') f s1.heap.objs.size)) _ _
  have kp : ∀ b o, s1.heap.get? b = some o → h₁.get? b = some o := fun b o x => hsb.extBut b o (Nat.ne_of_lt (Heap.lt_size x)) (Heap.get?_push_of_some _ x)
  obtain ⟨te, ht, hte⟩ := hbody A out s1 H1 vs Q (hr.deeper _) hq
  have I2 : Inv (ncx (L2.CX P w) P w K mg base N (lamF q params scope cl c') f A out s1 H1 E0) [] (startF N vs ws) H1 { s1 with heap := h₁, toks := s1.toks + (ps.zip us).length } :=
    inv_startN (F := lamF q params scope cl c') S hr.hd e0 hl r (cells_un C un) hns kp
  refine PySem.W.kla_codeExpr (wpAny_mono (ht.run [] _ _ H1 Q I2 hte) (fun v s' z => ?_) fun _ _ z => z)
  obtain ⟨x, H', J, rv, qz⟩ := z
  exact ⟨x, H', J.os, J.bare, J.base, J.hok, rv, qz⟩
/-! ### tables -/
def plainT (T : List NTab) : List (Addr × Str) := T.map fun p => (p.1, p.2 0 0)
def ConstT (T : List NTab) : Prop := ∀ p ∈ T, p.2 = fun _ _ => p.2 0 0
theorem tabs_to {T : List NTab} {H : Hp} (hc : ConstT T) (t : TabsN T H) : Tabs (plainT T) H := fun p hp => by
  obtain ⟨q, hq, rfl⟩ := List.mem_map.mp hp
  have h := t q hq
  rw [hc q hq] at h
  exact TabN.to h
theorem tabs_back {T : List NTab} {H : Hp} (hc : ConstT T) (t : Tabs (plainT T) H) : TabsN T H := fun q hq => by
  have h := TabN.of (t _ (List.mem_map.mpr ⟨q, hq, rfl⟩))
  rw [hc q hq]
  exact h
/-! ### x(e, lambda ..: ..) -/
def tCalL (T : List NTab) (SPσ : L2.St → V → Hp → (V → Hp → Prop) → Prop) (te : TE) : TE := fun σ H Q => te σ H fun x H1 => TabsN T H1 ∧ ∀ H2, ExtN H1 H2 → TabsN T H2 → SPσ σ x H2 Q
theorem pe_calL {X : Cx} {T : List NTab} {k j : Nat} {x : Str} {ps : List Str} {SP : StC} {SPσ : L2.St → V → Hp → VK → Prop} {p pos lpos : Pos} {e : Expr} {te : TE} {params : Arguments} {body : Expr} {scope : Scope} {c Pt : Addr}
    (cc : CalC X.prog X.w X.K X.mg X.base k x ps SP) (hr : Room j X.A) (hk : k ≤ j) (hg : Gl X x) (he : PE X e te) (hcT : ConstT T) (TBd : TabB X.base X.mg c Pt) (hcode : X.env.code = .ref c) (hm : (Pt, fun _ _ => X.env.qual ++ "<lambda>") ∈ T) (hnd : (T.map (·.1)).Nodup)
    (hfree : ∀ y ∈ scope.names, y.2 = .free → X.env.scope.names.lookup y.1 = some .cell ∨ X.env.scope.names.lookup y.1 = some .free) (hdef : defaultsOf params X.env = ([], [])) (hps : ps.length = 2)
    (link : ∀ pins σ H s y f c' pm ctv Q, Inv X pins σ H s → s.heap.get? f = some (PySem.W.kla_obj "<lambda>" (X.env.qual ++ "<lambda>") params body scope (cloFrom X.env.cells scope.names []) pm c' ctv) → H f = none → f ∉ frs X.stack → H c' = some (CodeO c' (X.env.qual ++ "<lambda>")) → SPσ σ y H Q → SP X.stack s H [y, .ref f] Q)
    (hdb : (x == ("__debug__" : Str)) = false := by decide) (hst : starEach [e, .Lambda params body scope lpos] X.env = (false, eval e X.env) :: starEach [.Lambda params body scope lpos] X.env := by rfl)
    (hst2 : starEach [.Lambda params body scope lpos] X.env = [(false, eval (.Lambda params body scope lpos) X.env)] := by rfl) (hpl : (backTo pos (starEach [.Lambda params body scope lpos] X.env)).any (·.1) = false := by rfl) :
    PE X (.Call (.Name x p) [e, .Lambda params body scope lpos] [] pos) (tCalL T SPσ te) := by
  obtain ⟨g, fd, hmg, kp, hb, len, run⟩ := cc.ex
  refine ⟨fun pins s σ H Q I h => ?_⟩
  refine wpAny_Call_Name_kw (ld_glob I hg hmg ?_ hdb)
  refine PySem.W.callWith_K (h₀ := X.base) I.ok.mod.kin kp ?_ hst hpl
  rw [hst]
  show wpAny _ _ (spliced ((false, _) :: backTo pos (starEach [.Lambda params body scope lpos] X.env))) _ _ s
  refine Calls.spliced_cons (thn (he.run pins s σ H _ I h) fun u s1 ⟨y, H1, I1, r1, t1, q1⟩ => ?_)
  rw [hst2]
  show wpAny _ _ (spliced ((false, eval (.Lambda params body scope lpos) X.env) :: backTo pos [])) _ _ s1
  have hu : ∀ q ∈ plainT T, q.1 = Pt → q.2 = X.env.qual ++ "<lambda>" := fun q hq eq => by
    obtain ⟨q', hq', rfl⟩ := List.mem_map.mp hq
    have := tab_hu hnd hm q' hq' eq
    rw [this]
  refine Calls.spliced_cons (lam_make2 I1 TBd hcode (List.mem_map.mpr ⟨_, hm, rfl⟩) hu (tabs_to hcT t1) hdef (fun z hz hk => (hfree z hz hk).elim (fun a => I1.ok.has _ (.inl a)) fun a => I1.ok.has _ (.inr a)) fun f c' pm' ctv H2 s2 I2 eN T2 hf hfn hfr hco => ?_)
  refine Calls.spliced_nil ⟨I2.kIn, ?_⟩
  have sp := link pins σ H2 s2 y f c' pm' ctv Q I2 hf hfn hfr hco (q1 H2 eN (tabs_back hcT T2))
  have b := hb s2 [u, .ref f] I2.kIn (by rw [List.append_nil]; exact hps.symm)
  rw [List.append_nil] at b
  refine wpAny_call (codeAny_mono (run X.A X.stack s2 H2 ⟨[u, .ref f], []⟩ [u, .ref f] [y, .ref f] Q (hr.mono hk) I2.env0 b (.cons r1 (.cons rfl .nil)) sp) fun r s' hq => ?_)
  cases r with
  | error e => exact passL pins σ H2 s2 e s' I2 hq
  | ok fl =>
    cases fl with
    | ret v => exact I2.after hq
    | next => exact False.elim hq
    | brk => exact False.elim hq
    | cont => exact False.elim hq
/-! ### a lambda in a text -/
def lamE : Expr → Expr
  | .Call _ [_, l] _ _ => l
  | e => e
def lamS : Stmt → Expr
  | .Return (some e) _ => lamE e
  | .Assign _ e _ => lamE e
  | _ => .Constant .none 0 ⟨0, 0, 0, 0⟩
def lamP : Expr → Arguments
  | .Lambda p _ _ _ => p
  | _ => { posonlyargs := [], args := [], vararg := none, kwonlyargs := [], kw_defaults := [], kwarg := none, defaults := [] }
def lamB : Expr → Expr
  | .Lambda _ b _ _ => b
  | e => e
def lamSc : Expr → Scope
  | .Lambda _ _ s _ => s
  | _ => { kind := .function, names := [], isGenerator := false, isCoroutine := false }
def spHandL1 (K : PySem.W.Frag) (D : List Stp → Val → Bool) : L2.St → V → Hp → VK → Prop := fun σ y H Q => ∃ t a ss, y = .ref t ∧ σ[0]? = some (some (.ref a)) ∧ StepsT K H t ss ∧ ChainS K H a ss ∧ (∀ s ∈ ss, s.ok) ∧ ss.length ≤ 50 ∧ OptR (firstV (look ss) (D ss)) H Q
theorem linkL1 {X : Cx} {k : Nat} {l : Expr} {N ps fr : List Str} {D : List Stp → Val → Bool} (S : NScope N ps fr (lamSc l)) (hfree : ∀ y ∈ (lamSc l).names, y.2 = .free → X.env.scope.names.lookup y.1 = some .cell ∨ X.env.scope.names.lookup y.1 = some .free) (hfr : ∀ y ∈ fr, (y, NameKind.free) ∈ (lamSc l).names) (hjs : [0].map (fun j => X.N[j]?) = fr.map some) (hps : ps.length = 1)
    (hb : ∀ (q : Str) (cl : List (Str × Addr)) (c' : Addr) (pm ctv : Value) (us : List Value), us.length = ps.length → bindArgs (PySem.W.kla_fn "<lambda>" q (lamP l) (lamB l) (lamSc l) cl pm (.ref c') ctv) ⟨us, []⟩ = pure (ps.zip us))
    (hbody : ∀ (f c' : Addr) (q : Str) (cl : List (Str × Addr)) (A : Around) (out : List Env) (s1 : Shared) (H1 : Hp) (vs : List V) (ws : List (Option V)) (Q : VK), Room k (A.deeper (envF (lamF q (lamP l) (lamSc l) cl c') f s1.heap.objs.size)) → spOne1 X.K D ws vs H1 Q E0 →
      ∃ te, PE (ncx (L2.CX X.prog X.w) X.prog X.w X.K X.mg X.base N (lamF q (lamP l) (lamSc l) cl c') f A out s1 H1 E0) (lamB l) te ∧ te (startF N vs ws) H1 Q) :
    ∀ pins σ H s y f c' pm ctv Q, Inv X pins σ H s → s.heap.get? f = some (PySem.W.kla_obj "<lambda>" (X.env.qual ++ "<lambda>") (lamP l) (lamB l) (lamSc l) (cloFrom X.env.cells (lamSc l).names []) pm c' ctv) → H f = none → f ∉ frs X.stack → H c' = some (CodeO c' (X.env.qual ++ "<lambda>")) → spHandL1 X.K D σ y H Q → spFirst X.prog X.w X.K X.mg X.base (k + 1) X.stack s H [y, .ref f] Q := by
  intro pins σ H s y f c' pm ctv Q I hf hfn hfr' hco h
  obtain ⟨t, a, ss, rfl, s0, hst, ha, o1, l1, q⟩ := h
  have C := cells_of I (Caps.made (scope := lamSc l) I.ok hfree hfr hjs)
  refine ⟨t, f, ss, D ss, rfl, hst, o1, by omega, ?_, q⟩
  refine (clo_lam (spc := spOne1 X.K D ([0].map (slotAt σ))) hf hfn hfr' hco S (hb _ _ _ _ _) (fun vs H Q E h => ?_) C fun A out s1 H1 vs Q hr h => hbody _ _ _ _ A out s1 H1 vs _ Q hr h).imp fun vs' H' Q' e h => ?_
  · obtain ⟨_, _, _, _, rfl, _⟩ := h; exact hps.symm
  · obtain ⟨v, rfl, q'⟩ := h
    refine ⟨a, ss, v, ?_, rfl, ha.ext e, o1, by omega, q'⟩
    show [slotAt σ 0] = _
    rw [slotAt_of s0]
theorem w_notT {K : PySem.W.Frag} {ta : TE} {σ : L2.St} {H : Hp} {Q : VK} (h : ta σ H fun x H1 => ∃ k, TruV K x H1 k ∧ Q (.bl (!k)) H1) : tNotT K ta σ H Q := h
theorem w_truL {K : PySem.W.Frag} {H : Hp} {a : Addr} {xs : List V} {B : Bool → Prop} (h : SqL K H a xs) (q : B (!xs.isEmpty)) : ∃ k, TruV K (.ref a) H k ∧ B k := ⟨_, .inl ⟨xs, h, rfl⟩, q⟩
theorem w_calL {T : List NTab} {SPσ : L2.St → V → Hp → VK → Prop} {te : TE} {σ : L2.St} {H : Hp} {Q : VK} (h : te σ H fun x H1 => TabsN T H1 ∧ ∀ H2, ExtN H1 H2 → TabsN T H2 → SPσ σ x H2 Q) : tCalL T SPσ te σ H Q := h
theorem OptR.ofE {o : Option Val} {T : List NTab} {H H1 : Hp} {Q : VK} (q : OptT o T H Q) (e : ExtN H H1) (t : TabsN T H1) : OptR o H1 Q := by
  cases o with
  | none => exact fun H' s => q H' (e.trans (.of s)) (t.ext s)
  | some v => exact fun p H' s _ h => q p H' (e.trans (.of s)) (t.ext s) h
end TB

set_option maxHeartbeats 4000000
namespace TB
open PySem PySem.Spec PyProof.Rows L2 TW LamX NdefX
/-! ### tuples of numbers, compared -/
def gtI (us vs : List Int) : Bool := Ob.lexAt (fun j => decide (us.getD j 0 = vs.getD j 0)) (fun j => decide (us.getD j 0 > vs.getD j 0)) (decide (us.length > vs.length)) 0 (min us.length vs.length)
def rGtT (K : PySem.W.Frag) : R2 := fun x y H Q => ∃ (p q : Addr) (us vs : List Int), x = .ref p ∧ y = .ref q ∧ SqT K H p (us.map V.int) ∧ SqT K H q (vs.map V.int) ∧ Q (.bl (gtI us vs)) H
theorem int_get {its : List Value} {us : List Int} (h : IntsAre its us) {j : Nat} (hj : j < its.toArray.size) : ∃ t, its.toArray[j] = .int (us.getD j 0) t := by
  have hl := h.length
  have hj' : j < its.length := by simpa using hj
  exact PyProof.Rows.IntsAre.int_at h _ _ (by simp [hl ▸ hj'])
theorem op_gtT {X : Cx} (hu : X.A.units < cLine) : OpR X (compareOp .Gt) (rGtT X.K) := by
  rintro pins s σ H x y v u Q I rx ry ⟨p, q, us, vs, rfl, rfl, hp, hq, k⟩
  cases rx; cases ry
  obtain ⟨a1, r1, p1, _⟩ := I.tuple hp
  obtain ⟨a2, r2, p2, _⟩ := I.tuple hq
  have n1 : IntsAre a1 us := Vals.ints r1
  have n2 : IntsAre a2 vs := Vals.ints r2
  have main := Ob.RcOp.tuples_gt (A := X.A) (s := s) (e := fun j => decide (us.getD j 0 = vs.getD j 0)) (r := fun j => decide (us.getD j 0 > vs.getD j 0)) p1 p2 hu
    (fun j h1 h2 => by
      obtain ⟨t, e1⟩ := int_get n1 h1
      obtain ⟨t', e2⟩ := int_get n2 h2
      rw [e1, e2]
      have hb : decide (us.getD j 0 = vs.getD j 0) = (us.getD j 0 == vs.getD j 0) := by
        by_cases c : us.getD j 0 = vs.getD j 0
        · rw [c]; simp
        · rw [decide_eq_false c]; exact (beq_eq_false_iff_ne.mpr c).symm
      show SeqAt.EqAt _ _ _ _ (decide _)
      rw [hb]
      exact SeqAt.EqAt.int_int _ _ _ _)
    (fun j h1 h2 _ => by
      obtain ⟨t, e1⟩ := int_get n1 h1
      obtain ⟨t', e2⟩ := int_get n2 h2
      rw [e1, e2]
      exact Ob.RcOp.gt_int _ _ _ _)
  rw [List.size_toArray, List.size_toArray, n1.length, n2.length] at main
  exact main X.prog X.w X.xe (EP X pins σ Q) ⟨.bl _, H, I, rfl, k⟩
theorem w_gtT {K : PySem.W.Frag} {H : Hp} {Q : VK} {p q : Addr} {us vs : List Int} (h1 : SqT K H p (us.map V.int)) (h2 : SqT K H q (vs.map V.int)) (k : Q (.bl (gtI us vs)) H) : rGtT K (.ref p) (.ref q) H Q := ⟨p, q, us, vs, rfl, rfl, h1, h2, k⟩
def rankI : Val → List Int
  | .non => [0, 0, 0]
  | .a => [1, 0, 0]
  | .b => [1, 1, 0]
  | .c => [1, 2, 0]
  | .int i => [2, iabs i, if i < 0 then 1 else 0]
theorem rank_gt {v : Val} {n : Int} (h0 : 0 ≤ n) (h : n < v.size) : gtI (rankI v) [2, n, 1] = true := by
  cases v with
  | int i =>
    have h' : n < iabs i := h
    unfold gtI rankI
    show (if decide ((2 : Int) = 2) = true then (if decide (iabs i = n) = true then _ else decide (iabs i > n)) else _) = true
    rw [if_pos (by decide), if_neg (by rw [decide_eq_true_iff]; omega), decide_eq_true (by omega)]
  | _ => simp only [Val.size] at h; omega
/-! ### the law's own first value -/
inductive Way2 where
  | part | refuse | change | again
def w2 : Way2 → Str
  | .part => "part"
  | .refuse => "refuse"
  | .change => "change"
  | .again => "again"
def dWay (u : Way2) (ss ts : List Stp) (v : Val) : Bool := match u with
  | .part => dPart ss ts v
  | .refuse => dRefuse ss v
  | .change => dChange ss v
  | .again => dDrift ss ts v
def spLValues : Sp := fun vs H Q _ => ∃ n : Nat, vs = [.int n] ∧ n ≤ 1000 ∧ NewL ((vals n).map vv) H Q
def spLRankI : Sp := fun vs H Q _ => ∃ i : Int, vs = [.int i] ∧ NewT ((rankI (.int i)).map .int) H Q
def spLBad (K : PySem.W.Frag) : Sp := fun vs H Q _ => ∃ a b u v ss ts, vs = [.ref a, .ref b, .str (w2 u), vv v] ∧ StepsL K H a ss ∧ StepsL K H b ts ∧ (∀ s ∈ ss, s.ok) ∧ (∀ s ∈ ts, s.ok) ∧ ss.length ≤ 100 ∧ ts.length ≤ 100 ∧ ∀ H', Same H H' → Q (.bl (dWay u ss ts v)) H'
def spLFirst (K : PySem.W.Frag) : Sp := fun vs H Q _ => ∃ a b u ss ts, ∃ n : Nat, vs = [.ref a, .ref b, .str (w2 u), .int n] ∧ n ≤ 1000 ∧ StepsL K H a ss ∧ StepsL K H b ts ∧ (∀ s ∈ ss, s.ok) ∧ (∀ s ∈ ts, s.ok) ∧ ss.length ≤ 100 ∧ ts.length ≤ 100 ∧ OptR (firstV n (dWay u ss ts)) H Q
/-- a told value: None or a tuple with it -/
def TolD (K : PySem.W.Frag) (H : Hp) (o : Option Val) (x : V) : Prop := match o with
  | none => x = .non
  | some v => ∃ p, x = .ref p ∧ SqT K H p [vv v]
theorem TolD.same {K : PySem.W.Frag} {H H' : Hp} {o : Option Val} {x : V} (h : TolD K H o x) (s : Same H H') : TolD K H' o x := by
  cases o with
  | none => exact h
  | some v => obtain ⟨p, e, h⟩ := h; exact ⟨p, e, Same.tup s h⟩
theorem TolD.nl {K : PySem.W.Frag} {H H' : Hp} {o : Option Val} {x : V} (h : TolD K H o x) (s : NL H H') : TolD K H' o x := by
  cases o with
  | none => exact h
  | some v => obtain ⟨p, e, h⟩ := h; exact ⟨p, e, SqT.nl h s⟩
theorem TolD.ext {K : PySem.W.Frag} {H H' : Hp} {o : Option Val} {x : V} (h : TolD K H o x) (s : ExtN H H') : TolD K H' o x := by
  cases o with
  | none => exact h
  | some v => obtain ⟨p, e, h⟩ := h; exact ⟨p, e, SqT.ext h s⟩
theorem TolD.isN {K : PySem.W.Frag} {H : Hp} {o : Option Val} {x : V} (h : TolD K H o x) : decide (x = V.non) = decide (o = none) := by
  cases o with
  | none => rw [show x = V.non from h]; simp
  | some v => obtain ⟨p, rfl, _⟩ := h; simp
theorem OptT.told {K : PySem.W.Frag} {o : Option Val} {T : List NTab} {H : Hp} {Q : VK} (k : ∀ x H', ExtN H H' → TabsN T H' → TolD K H' o x → Q x H') : OptT o T H Q := by
  cases o with
  | none => exact fun H' s t => k _ H' s t rfl
  | some v => exact fun p H' s t h => k _ H' s t ⟨p, rfl, tupAt h⟩
theorem OptR.told {K : PySem.W.Frag} {o : Option Val} {H : Hp} {Q : VK} (k : ∀ x H', Same H H' → TolD K H' o x → Q x H') : OptR o H Q := by
  cases o with
  | none => exact fun H' s => k _ H' s rfl
  | some v => exact fun p H' s _ h => k _ H' s ⟨p, rfl, tupAt h⟩
/-- what is told is right, seen from the bound n -/
def Right (D : Val → Bool) (n : Nat) (o : Option Val) : Prop := (∀ v, firstV n D = some v → o = some v) ∧ (firstV n D = none → ∀ v, o = some v → D v = true ∧ (n : Int) < v.size)
def spLLeast (K : PySem.W.Frag) : Sp := fun vs H Q _ => ∃ x a b u ss ts o, ∃ n : Nat, vs = [x, .ref a, .ref b, .str (w2 u), .int n] ∧ n ≤ 1000 ∧ TolD K H o x ∧ StepsL K H a ss ∧ StepsL K H b ts ∧ (∀ s ∈ ss, s.ok) ∧ (∀ s ∈ ts, s.ok) ∧ ss.length ≤ 100 ∧ ts.length ≤ 100 ∧ Right (dWay u ss ts) n o ∧ ∀ H', Same H H' → Q (.bl true) H'
theorem StepsL.nl {K : PySem.W.Frag} {H H' : Hp} {a : Addr} {ss : List Stp} (h : StepsL K H a ss) (s : Same H H') : StepsL K H' a ss := h.same s
theorem go_lvalues {H : Hp} {Q : VK} {E : XK} {n : Int} (h0 : 0 ≤ n) (h1 : n ≤ 1000) (q : ∀ l H', Same H H' → H l = none → H' l = some (.lst ((vals n.toNat).map vv)) → Q (.ref l) H') : spLValues [.int n] H Q E := ⟨n.toNat, by rw [show ((n.toNat : Nat) : Int) = n by omega], by omega, q⟩
theorem go_lrank {H : Hp} {Q : VK} {E : XK} {i : Int} (q : ∀ p H', Same H H' → H p = none → H' p = some (.tup ((rankI (.int i)).map .int)) → Q (.ref p) H') : spLRankI [.int i] H Q E := ⟨i, rfl, q⟩
theorem go_lbad {K : PySem.W.Frag} {H : Hp} {Q : VK} {E : XK} {a b : Addr} {u : Way2} {v : Val} {ss ts : List Stp} (ha : StepsL K H a ss) (hb : StepsL K H b ts) (o1 : ∀ s ∈ ss, s.ok) (o2 : ∀ s ∈ ts, s.ok) (l1 : ss.length ≤ 100) (l2 : ts.length ≤ 100) (q : ∀ H', Same H H' → Q (.bl (dWay u ss ts v)) H') : spLBad K [.ref a, .ref b, .str (w2 u), vv v] H Q E := ⟨a, b, u, v, ss, ts, rfl, ha, hb, o1, o2, l1, l2, q⟩
theorem go_lfirst {K : PySem.W.Frag} {H : Hp} {Q : VK} {E : XK} {a b : Addr} {u : Way2} {n : Nat} {ss ts : List Stp} (hn : n ≤ 1000) (ha : StepsL K H a ss) (hb : StepsL K H b ts) (o1 : ∀ s ∈ ss, s.ok) (o2 : ∀ s ∈ ts, s.ok) (l1 : ss.length ≤ 100) (l2 : ts.length ≤ 100) (q : ∀ x H', Same H H' → TolD K H' (firstV n (dWay u ss ts)) x → Q x H') : spLFirst K [.ref a, .ref b, .str (w2 u), .int n] H Q E := ⟨a, b, u, ss, ts, n, rfl, hn, ha, hb, o1, o2, l1, l2, OptR.told q⟩
theorem go_lleast {K : PySem.W.Frag} {H : Hp} {Q : VK} {E : XK} {x : V} {a b : Addr} {u : Way2} {o : Option Val} {n : Nat} {ss ts : List Stp} (hn : n ≤ 1000) (hx : TolD K H o x) (ha : StepsL K H a ss) (hb : StepsL K H b ts) (o1 : ∀ s ∈ ss, s.ok) (o2 : ∀ s ∈ ts, s.ok) (l1 : ss.length ≤ 100) (l2 : ts.length ≤ 100) (hr : Right (dWay u ss ts) n o) (q : ∀ H', Same H H' → Q (.bl true) H') : spLLeast K [x, .ref a, .ref b, .str (w2 u), .int n] H Q E := ⟨x, a, b, u, ss, ts, o, n, rfl, hn, hx, ha, hb, o1, o2, l1, l2, hr, q⟩
theorem right_of {ss : List Stp} (ok : ∀ s ∈ ss, s.ok) {D : Val → Bool} (h : Rows (reach ss) (per ss) D) (n : Nat) : Right D n (firstV (look ss) D) := firstV_two (rows_all ok h)
theorem w_eqO {K : PySem.W.Frag} {H : Hp} {Q : VK} {l m : Addr} {a b : Option Val} (h1 : H l = some (.lst (optL a))) (h2 : H m = some (.lst (optL b))) (q : Q (.bl (decide (a = b))) H) : rEqD K (.ref l) (.ref m) H Q :=
  w_eqD (opt_dp h1) (opt_dp h2) (optD_shaped a) (optD_shaped b) (by rw [optD_eqv]; exact q)
theorem tol_dp {K : PySem.W.Frag} {H : Hp} {o : Option Val} {x : V} (h : TolD K H o x) : ∃ d, Dp K H x d ∧ SeqAt.shaped d = true ∧ (∀ y, TolD K H o y → Dp K H y d) := by
  cases o with
  | none => cases (show x = V.non from h); exact ⟨.none, .non, by decide +kernel, fun y hy => by cases (show y = V.non from hy); exact .non⟩
  | some v =>
    obtain ⟨p, rfl, hp⟩ := h
    refine ⟨.tuple ([vv v].map pd), .tup hp (pds_dp (by show (flatV (vv v) && true) = true; rw [vv_flat] <;> rfl)), shaped_tup (by simp [PyData.canLayAll0, pd_vv_lay]) (by simp [PyData.depthAll, pd_lay]), fun y hy => ?_⟩
    obtain ⟨q, rfl, hq⟩ := hy
    exact .tup hq (pds_dp (by show (flatV (vv v) && true) = true; rw [vv_flat] <;> rfl))
/-- two told values, both right -/
theorem w_eqTol {K : PySem.W.Frag} {H : Hp} {Q : VK} {x y : V} {o : Option Val} (h1 : TolD K H o x) (h2 : TolD K H o y) (q : Q (.bl true) H) : rEqD K x y H Q := by
  obtain ⟨d, e1, s1, e2⟩ := tol_dp h1
  exact w_eqD e1 (e2 y h2) s1 s1 (by rw [eqv_self s1]; exact q)
/-! ### a list of steps, changed -/
theorem mt_popAtR {X : Cx} : MtR X "list.pop" rPopAt := mt_popAt
theorem w_popAt {H : Hp} {Q : VK} {l : Addr} {xs : List V} {i : Int} {y : V} (h : H l = some (.lst xs)) (h0 : 0 ≤ i) (h1 : i < 2 ^ 62) (hy : xs[i.toNat]? = some y) (q : Q y (upd H l (.lst (xs.eraseIdx i.toNat)))) : rPopAt (.ref l) [.int i] H Q := by
  have hl := (List.getElem?_eq_some_iff.mp hy).1
  refine ⟨l, xs, i, i.toNat, y, rfl, rfl, h, by omega, by omega, ?_, hy, q⟩
  unfold seqIndex?
  have a1 : (0 : Int) ≤ i ∧ i < (xs.length : Int) := ⟨h0, by omega⟩
  simp only [if_neg (show ¬ i < 0 by omega)]
  rw [if_pos (by simpa using a1)]
theorem w_slL {K : PySem.W.Frag} {H : Hp} {Q : VK} {a : Addr} {xs : List V} {lo hi : Option Int} (h : SqL K H a xs) (q : ∀ p, H p = none → Q (.ref p) (upd H p (.lst (cutV xs lo hi)))) : rSlL K (.ref a) lo hi H Q := ⟨a, xs, rfl, h, q⟩
theorem cut_head {y : V} {xs : List V} : cutV (y :: xs) none (some 1) = [y] := by
  unfold cutV
  have e1 : HT.sIx (y :: xs).length 0 none = 0 := rfl
  have e2 : HT.sIx (y :: xs).length (y :: xs).length (some 1) = 1 := by
    show (if (1 : Int) < 0 then ((1 : Int) + ((y :: xs).length : Int)).toNat else min (1 : Int).toNat (y :: xs).length) = 1
    rw [if_neg (by decide)]
    show min 1 (xs.length + 1) = 1
    omega
  rw [e1, e2]
  rfl
def spLChanged (K : PySem.W.Frag) : Sp := fun vs H Q _ => ∃ d D ss, ∃ cells : Cells, vs = [.ref d, .ref D] ∧ DrawsAt H d cells ∧ LSt K H d D ss ∧ (∀ s ∈ ss, Stp.law s) ∧ ss.length ≤ 4 ∧
  ∀ L ts H', (∀ s ∈ ts, Stp.law s) → ts.length ≤ 5 → LSt K H' d L ts → SameX d H H' → DrawsAt H' d cells → Q (.ref L) H'
theorem go_lchanged {K : PySem.W.Frag} {H : Hp} {Q : VK} {E : XK} {d D : Addr} {ss : List Stp} {cells : Cells} (dr : DrawsAt H d cells) (h : LSt K H d D ss) (hl : ∀ s ∈ ss, Stp.law s) (hn : ss.length ≤ 4)
    (q : ∀ L ts H', (∀ s ∈ ts, Stp.law s) → ts.length ≤ 5 → LSt K H' d L ts → SameX d H H' → DrawsAt H' d cells → Q (.ref L) H') : spLChanged K [.ref d, .ref D] H Q E := ⟨d, D, ss, cells, rfl, dr, h, hl, hn, q⟩
theorem paired_erase {α β : Type} {F : α → β → Prop} : ∀ {l₁ : List α} {l₂ : List β} (i : Nat), Paired F l₁ l₂ → Paired F (l₁.eraseIdx i) (l₂.eraseIdx i)
  | _, _, _, .nil => .nil
  | _, _, 0, .cons _ t => t
  | _, _, i + 1, .cons f t => .cons f (paired_erase i t)
theorem paired_set {α β : Type} {F : α → β → Prop} {x : α} {y : β} (h : F x y) : ∀ {l₁ : List α} {l₂ : List β} (i : Nat), Paired F l₁ l₂ → Paired F (l₁.set i x) (l₂.set i y)
  | _, _, _, .nil => .nil
  | _, _, 0, .cons _ t => .cons h t
  | _, _, i + 1, .cons f t => .cons f (paired_set h i t)
/-- a list that H does not know was changed -/
theorem StepsP.updL {K : PySem.W.Frag} {H : Hp} {ss : List Stp} {vs : List V} {D : Addr} {xs : List V} {o : HO} (h : StepsP K H ss vs) (hD : H D = some (.lst xs)) : StepsP K (L2.upd H D o) ss vs := StepsP.nl h (NL.upd hD)
/-! ### rows of told values -/
def RowAt (K : PySem.W.Frag) (H : Hp) (d r : Addr) (o : Option Val) (u : Way2) (ts : List Stp) : Prop := r ≠ d ∧ ∃ x D, H r = some (.lst [x, .ref D, .str (w2 u)]) ∧ TolD K H o x ∧ LSt K H d D ts
theorem RowAt.same {K : PySem.W.Frag} {H H' : Hp} {d r : Addr} {o : Option Val} {u : Way2} {ts : List Stp} (h : RowAt K H d r o u ts) (s : Same H H') : RowAt K H' d r o u ts := by
  obtain ⟨n, x, D, h1, h2, h3⟩ := h
  exact ⟨n, x, D, s _ _ h1, h2.same s, h3.same s⟩
theorem RowAt.ext {K : PySem.W.Frag} {H H' : Hp} {d r : Addr} {o : Option Val} {u : Way2} {ts : List Stp} (h : RowAt K H d r o u ts) (s : ExtN H H') : RowAt K H' d r o u ts := by
  obtain ⟨n, x, D, h1, h2, h3⟩ := h
  exact ⟨n, x, D, s _ _ h1 (fun ps e => by cases e), h2.ext s, h3.ext s⟩
theorem RowAt.sameX {K : PySem.W.Frag} {H H' : Hp} {d r : Addr} {o : Option Val} {u : Way2} {ts : List Stp} {cells : Cells} (h : RowAt K H d r o u ts) (s : SameX d H H') (dr : DrawsAt H d cells) : RowAt K H' d r o u ts := by
  obtain ⟨n, x, D, h1, h2, h3⟩ := h
  exact ⟨n, x, D, s _ _ n h1, h2.nl (NL.x s dr), h3.sameX s dr⟩
/-- all about one row -/
def RowOk (ss : List Stp) (o : Option Val) (u : Way2) (ts : List Stp) : Prop := Right (dWay u ss ts) 90 o ∧ (o = none → ∀ v, dWay u ss ts v = false) ∧ (∀ s ∈ ts, s.ok) ∧ ts.length ≤ 100
theorem row_refuse {ss : List Stp} (ok : ∀ s ∈ ss, s.ok) (hl : ss.length ≤ 100) : RowOk ss (refusingV ss) .refuse ss := ⟨right_of ok (rows_refuse ok) 90, fun h => rows_all ok (rows_refuse ok) h, ok, hl⟩
theorem row_change {ss : List Stp} (ok : ∀ s ∈ ss, s.ok) (hl : ss.length ≤ 100) : RowOk ss (changingV ss) .change ss := ⟨right_of ok (rows_change ok) 90, fun h => rows_all ok (rows_change ok) h, ok, hl⟩
theorem row_drift {ss ts : List Stp} (ok : ∀ s ∈ ss, s.ok) (ok2 : ∀ s ∈ ts, s.ok) (hl : ts.length ≤ 100) : RowOk ss (driftV ss ts) .again ts := ⟨right_of (mem_ok2 ok ok2) (rows_drift ok ok2) 90, fun h => rows_all (mem_ok2 ok ok2) (rows_drift ok ok2) h, ok2, hl⟩
end TB

set_option maxHeartbeats 4000000
namespace TB
open PySem PySem.Spec PyProof.Rows L2 TW LamX NdefX
/-! ### rules whose readings do not speak of the running text -/
theorem pe_fldK {X : Cx} (K : PySem.W.Frag) (h : X.K = K) {e : Expr} {f : Str} {pos : Pos} {ta : TE} (he : PE X e ta) (hb : attributeBase e f X.env (eval e X.env) = eval e X.env) : PE X (.Attribute e f pos) (tFld K ta f) := h ▸ pe_fld he hb
theorem op_catAK {X : Cx} (K : PySem.W.Frag) (h : X.K = K) : OpR X (binaryOp .Add) (rCatA K) := h ▸ op_catA
theorem pe_makK {X : Cx} (C : Addr) {k j : Nat} {x : Str} {ps : List Str} {sp : Sp} {p pos : Pos} {e : Expr} {es : List Expr} {t : TA} (hC : He.ga X.K x = C) (c : Mak X.prog X.w X.K X.mg X.base k x ps sp) (hr : Room j X.A) (hk : k + 1 ≤ j) (hg : Gl X x) (ha : PA X (e :: es) t)
    (hdb : (x == ("__debug__" : Str)) = false := by decide) (he : starEach (e :: es) X.env = (false, eval e X.env) :: starEach es X.env := by rfl) (hpl : (backTo pos (starEach es X.env)).any (·.1) = false := by rfl) : PE X (.Call (.Name x p) (e :: es) [] pos) (tMake C sp [] E0 t) :=
  hC ▸ pe_mak c hr hk hg ha hdb he hpl
/-! ### comprehensions that ask much -/
section
variable {J : It} {n : Nat} {G : Hp → Prop} {Y : Nat → Hp → V → Hp → Prop}
theorem w_lcE (w : Walk J n G Y) {T : List NTab} {g : TG} {tt : TT} {te : TE} {vs : List Nat} {σ : L2.St} {H1 : Hp} {Q : VK} (acc : Nat → List V) (h0 : acc 0 = []) (tb : TabsN T H1) (hG : ∀ H, ExtN H1 H → G H)
    (hs : ∀ D i x H H', H1 D = none → i < n → ExtN H1 H → TabsN T H → H D = some (.lst (acc i)) → Y i H x H' → g x (wipe σ vs) H' fun σ2 H2 => wipe σ2 vs = wipe σ vs ∧ tt σ2 H2 fun b H3 =>
      if b = true then te σ2 H3 fun y H4 => ∃ a, H4 D = some (.lst a) ∧ a.length < sizeLine ∧ (ExtN H1 (upd H4 D (.lst (a ++ [y]))) ∧ TabsN T (upd H4 D (.lst (a ++ [y]))) ∧ (upd H4 D (.lst (a ++ [y]))) D = some (.lst (acc (i + 1)))) else ExtN H1 H3 ∧ TabsN T H3 ∧ H3 D = some (.lst (acc (i + 1))))
    (hd : ∀ D H', H1 D = none → ExtN H1 H' → TabsN T H' → H' D = some (.lst (acc n)) → Q (.ref D) H') : rLc H1 J g tt te vs σ Q := fun D hD =>
  lc_it w (Qd := fun H => Q (.ref D) H) (fun i H => ExtN H1 H ∧ TabsN T H ∧ H D = some (.lst (acc i))) ⟨.of (Same.new hD), NdefX.TabsN.ext tb (Same.new hD), by rw [h0]; exact upd_same⟩ (fun i H _ p => hG H p.1)
    (fun i x H H' hi p y => hs D i x H H' hD hi p.1 p.2.1 p.2.2 y) fun H p => hd D H hD p.1 p.2.1 p.2.2
theorem tabs_lst {T : List NTab} {H : Hp} {D : Addr} {xs : List V} {o : HO} (t : TabsN T H) (h : H D = some (.lst xs)) : TabsN T (upd H D o) := TabsN.nl t (NL.upd h)
theorem w_putE {T : List NTab} {H1 H H4 : Hp} {D : Addr} {acc : Nat → List V} {i : Nat} {y : V} (hD : H1 D = none) (e : ExtN H1 H) (hl : H D = some (.lst (acc i))) (e4 : ExtN H H4) (t4 : TabsN T H4) (hb : (acc i).length < sizeLine) (ea : acc (i + 1) = acc i ++ [y]) :
    ∃ a, H4 D = some (.lst a) ∧ a.length < sizeLine ∧ (ExtN H1 (upd H4 D (.lst (a ++ [y]))) ∧ TabsN T (upd H4 D (.lst (a ++ [y]))) ∧ (upd H4 D (.lst (a ++ [y]))) D = some (.lst (acc (i + 1)))) := by
  have h4 := e4 _ _ hl (fun ps q => by cases q)
  exact ⟨acc i, h4, hb, fun b o h n => by rw [upd_ne (ne_of_none h hD)]; exact e4 _ _ (e _ _ h n) n, tabs_lst t4 h4, by rw [ea]; exact upd_same⟩
end
/-! ### steps that settle -/
def setIdx (ss : List Stp) : List Stp → Nat → List V
  | [], _ => []
  | s :: r, i => (if settledB (ss ++ [s]) = true then [V.int (i : Int)] else []) ++ setIdx ss r (i + 1)
theorem setIdx_app (ss a b : List Stp) (n : Nat) : setIdx ss (a ++ b) n = setIdx ss a n ++ setIdx ss b (n + a.length) := by
  induction a generalizing n with
  | nil => rfl
  | cons s a ih =>
    show _ ++ setIdx ss (a ++ b) (n + 1) = (_ ++ setIdx ss a (n + 1)) ++ _
    rw [ih, List.append_assoc, List.length_cons, show n + 1 + a.length = n + (a.length + 1) by omega]
theorem setIdx_take {ss sts : List Stp} {i : Nat} {s : Stp} (h : sts[i]? = some s) : setIdx ss (sts.take (i + 1)) 0 = setIdx ss (sts.take i) 0 ++ (if settledB (ss ++ [s]) = true then [V.int (i : Int)] else []) := by
  have hl := (List.getElem?_eq_some_iff.mp h).1
  rw [List.take_succ, h, setIdx_app, List.length_take, Nat.min_eq_left (by omega), Nat.zero_add]
  show _ ++ ((if settledB (ss ++ [s]) = true then [V.int (i : Int)] else []) ++ []) = _
  rw [List.append_nil]
theorem setIdx_len (ss sts : List Stp) (n : Nat) : (setIdx ss sts n).length ≤ sts.length := by
  induction sts generalizing n with
  | nil => exact Nat.le_refl _
  | cons s r ih =>
    have := ih (n + 1)
    show ((if settledB (ss ++ [s]) = true then [V.int (n : Int)] else []) ++ setIdx ss r (n + 1)).length ≤ _
    rw [List.length_append, List.length_cons]
    split <;> simp <;> omega
theorem setIdx_flat (ss sts : List Stp) (n : Nat) : (setIdx ss sts n).all flatV = true := by
  induction sts generalizing n with
  | nil => rfl
  | cons s r ih =>
    show ((if settledB (ss ++ [s]) = true then [V.int (n : Int)] else []) ++ setIdx ss r (n + 1)).all flatV = true
    rw [List.all_append, ih]
    split <;> rfl
def spSettledBy (K : PySem.W.Frag) (T : List NTab) : Sp := fun vs H Q E => ∃ c l ss its items, vs = [.ref c, .ref l] ∧ ChainS K H c ss ∧ (∀ s ∈ ss, s.ok) ∧ ss.length ≤ 5 ∧ SqL K H l items ∧ Items K H its items ∧ (∀ it ∈ its, it.ok) ∧ its.length ≤ 100 ∧ TabsN T H ∧
  (ss.length = 5 → spBadStep K 5 H E) ∧ (ss.length < 5 → ∀ i, badAt its 0 = some i → spBadStep K (i : Int) H E) ∧
  (ss.length < 5 → badAt its 0 = none → ∃ sts : List Stp, its = sts.map (fun s => .tup (parts s)) ∧ (∀ s ∈ sts, s.ok) ∧ ∀ p H', ExtN H H' → TabsN T H' → H' p = some (.lst (setIdx ss sts 0)) → Q (.ref p) H')
/-! ### offered steps -/
theorem LL.ext {K : PySem.W.Frag} {H H' : Hp} {d D : Addr} {cells : Cells} {its : List Item} {items : List V} (h : LL K H d cells D its items) (s : ExtN H H') : LL K H' d cells D its items := by
  refine ⟨s _ _ h.at_ (fun ps e => by cases e), ?_, h.lay, h.dr.ext s, h.nd, h.nc, h.ne⟩
  refine L2.Paired.mapP h.it fun it v q => ?_
  cases it <;> cases v <;> first | exact q | exact q.elim | skip
  · exact SqT.ext q s
  · rcases q with (q | ⟨o, q⟩) | q
    · exact .inl (.inl (s _ _ q (fun ps e => by cases e)))
    · exact .inl (.inr ⟨o, s _ _ q (fun ps e => by cases e)⟩)
    · exact .inr q
theorem LL.append {K : PySem.W.Frag} {H H' : Hp} {d D : Addr} {cells : Cells} {its : List Item} {items : List V} {v : V} {it : Item} (h : LL K H d cells D its items) (h' : LL K H' d cells D its items) (fr : ∀ a, v = .ref a → H a = none) (lay : it.lay) (hat : ItemAt K H' it v) :
    LL K (upd H' D (.lst (items ++ [v]))) d cells D (its ++ [it]) (items ++ [v]) := by
  have r := h.insert h' items.length fr lay hat
  have e := h.it.length
  rw [List.take_length, List.drop_length, List.append_nil, ← e, List.take_length, List.drop_length, List.append_nil] at r
  exact r
def GoodI (its : List Item) : Prop := ∃ sts : List Stp, its = sts.map (fun s => .tup (parts s)) ∧ ∀ s ∈ sts, s.ok
theorem good_bad {its : List Item} (h : GoodI its) : badAt its 0 = none := by
  obtain ⟨sts, rfl, ok⟩ := h
  exact badAt_ok fun it hit => by
    obtain ⟨s, hs, rfl⟩ := List.mem_map.mp hit
    exact parts_step (ok s hs)
theorem bad_insert : ∀ {sts : List Stp} {w i : Nat} {it : Item}, (∀ s ∈ sts, s.ok) → w ≤ sts.length → isStepI it = false → badAt ((sts.map fun s => Item.tup (parts s)).take w ++ [it] ++ (sts.map fun s => Item.tup (parts s)).drop w) i = some (i + w)
  | [], w, i, it, _, hw, hb => by
    have : w = 0 := by simpa using hw
    subst this
    show (if isStepI it = true then _ else some i) = some (i + 0)
    rw [hb, if_neg Bool.false_ne_true] <;> rfl
  | s :: sts, 0, i, it, _, _, hb => by
    show (if isStepI it = true then _ else some i) = some (i + 0)
    rw [hb, if_neg Bool.false_ne_true] <;> rfl
  | s :: sts, w + 1, i, it, ok, hw, hb => by
    have hs : isStepI (.tup (parts s)) = true := parts_step (ok s List.mem_cons_self)
    show (if isStepI (.tup (parts s)) = true then badAt ((sts.map fun s => Item.tup (parts s)).take w ++ [it] ++ (sts.map fun s => Item.tup (parts s)).drop w) (i + 1) else some i) = _
    rw [if_pos hs, bad_insert (fun s h => ok s (List.mem_cons_of_mem _ h)) (by simpa using hw) hb]
    congr 1
    omega
theorem go_settled_by {K : PySem.W.Frag} {T : List NTab} {H : Hp} {Q : VK} {E : XK} {c l : Addr} {ss : List Stp} {its : List Item} {items : List V} (hc : ChainS K H c ss) (ok : ∀ s ∈ ss, s.ok) (hl5 : ss.length ≤ 5) (hl : SqL K H l items) (hi : Items K H its items) (hio : ∀ it ∈ its, it.ok) (hil : its.length ≤ 100) (ht : TabsN T H)
    (k1 : ss.length = 5 → spBadStep K 5 H E) (k2 : ss.length < 5 → ∀ i, badAt its 0 = some i → spBadStep K (i : Int) H E)
    (k3 : ss.length < 5 → badAt its 0 = none → ∃ sts : List Stp, its = sts.map (fun s => .tup (parts s)) ∧ (∀ s ∈ sts, s.ok) ∧ ∀ p H', ExtN H H' → TabsN T H' → H' p = some (.lst (setIdx ss sts 0)) → Q (.ref p) H') : spSettledBy K T [.ref c, .ref l] H Q E := ⟨c, l, ss, its, items, rfl, hc, ok, hl5, hl, hi, hio, hil, ht, k1, k2, k3⟩
/-- what is offered: good steps alone, or a wrong thing at a place -/
def OffOk (its : List Item) (ow : V) : Prop := (GoodI its ∧ ow = .non) ∨ ∃ u : Nat, ow = .int (u : Int) ∧ badAt its 0 = some u
theorem LL.of2 {K : PySem.W.Frag} {H0 H : Hp} {d D : Addr} {cells : Cells} {n : Nat} (h : LstSteps H0 d cells D n H) (dr0 : DrawsAt H0 d cells) (hD : H0 D = none) : ∃ (sts : List Stp) (items : List V), sts.length = n ∧ (∀ s ∈ sts, s.ok) ∧ LL K H d cells D (sts.map fun s => .tup (parts s)) items := by
  obtain ⟨sx, dr, sts, items, hl, hs, hi, hp⟩ := h
  refine ⟨sts, items, hl, laws_ok hs, hi, Paired.mapM (fun s v q => ?_) hp, steps_lay, dr, dr0.ne hD, dr0.neC hD, fun v hv a e => ?_⟩
  · obtain ⟨t, rfl, ht⟩ := q
    exact tupAt ht
  · obtain ⟨i, hi'⟩ := List.getElem?_of_mem hv
    obtain ⟨s, _, t, e2, ht⟩ := Paired.at_ hp hi'
    rw [e] at e2
    cases e2
    exact ⟨dr.notTup ht, fun q => by rw [q, hi] at ht; cases ht⟩
end TB

set_option maxHeartbeats 4000000
namespace TB
open PySem PySem.Spec PyProof.Rows L2 TW LamX NdefX
/-! ### walks over a list or a tuple -/
theorem pi_listK {X : Cx} (K : PySem.W.Frag) (h : X.K = K) {tg l : Expr} {tl : TE} (hl : PE X l tl) : PI X tg l (iList K tl) := h ▸ pi_list hl
def rISeq (K : PySem.W.Frag) (x : V) (H : Hp) (R : It → Hp → Prop) : Prop := ∃ a xs, x = .ref a ∧ ((SqL K H a xs ∧ R (Itl K a) H) ∨ (SqT K H a xs ∧ R (Itt K a) H))
def iSeqQ (K : PySem.W.Frag) (te : TE) : TI := fun σ H R => te σ H fun x H1 => rISeq K x H1 R
theorem w_iSeqQ {K : PySem.W.Frag} {te : TE} {σ : L2.St} {H : Hp} {R : It → Hp → Prop} (h : te σ H fun x H1 => rISeq K x H1 R) : iSeqQ K te σ H R := h
theorem pi_seqQ {X : Cx} {tg l : Expr} {te : TE} (hl : PE X l te) : PI X tg l (iSeqQ X.K te) := by
  refine ⟨fun pins s σ H R I h => thn (hl.run pins s σ H _ I h) fun v s1 z => ?_⟩
  obtain ⟨x, H1, I1, r1, a, xs, rfl, q⟩ := z
  cases r1
  have fp : ∀ b ∈ [s1.heap.objs.size], FpOk X pins H1 b := fun b hb => by
    have eb : b = s1.heap.objs.size := by simpa using hb
    rw [eb]
    exact I1.fpOk (Nat.le_refl _) (I1.hok.fresh (Nat.le_refl _))
  rcases q with ⟨hq, q⟩ | ⟨hq, q⟩
  · obtain ⟨its, rv, pl, hz⟩ := I1.list hq
    exact wpAny_pyIter_list pl.isList ⟨s1.heap.objs.size, [s1.heap.objs.size], _, _, H1, rfl, I1.kept (t' := s1.toks) fun b o e => Heap.get?_push_of_some _ e, turn_list a _, ⟨_, Heap.get?_push_size _ rfl, rfl, rfl⟩, fp, q⟩
  · obtain ⟨its, rv, pl, hz⟩ := I1.tuple hq
    exact wpAny_pyIter_tuple (show s1.heap.IsTuple a its.toArray from pl) ⟨s1.heap.objs.size, [s1.heap.objs.size], _, _, H1, rfl, I1.kept (t' := s1.toks) fun b o e => Heap.get?_push_of_some _ e, turn_tuple a _, ⟨_, Heap.get?_push_size _ rfl, rfl, rfl⟩, fp, q⟩
theorem sqL_ext {K : PySem.W.Frag} {H H' : Hp} {a : Addr} {xs : List V} (h : SqL K H a xs) (s : ExtN H H') : SqL K H' a xs := by
  rcases h with (h | ⟨o, h⟩) | h
  · exact .inl (.inl (s _ _ h (fun ps e => by cases e)))
  · exact .inl (.inr ⟨o, s _ _ h (fun ps e => by cases e)⟩)
  · exact .inr h
theorem w_seqJ {K : PySem.W.Frag} {H : Hp} {R : It → Hp → Prop} {a : Addr} {xs : List V} (h : SqL K H a xs ∨ SqT K H a xs)
    (q : ∀ J G Y, Walk J xs.length G Y → (∀ H', ExtN H H' → G H') → (∀ i H1 v H2, Y i H1 v H2 → H2 = H1 ∧ xs[i]? = some v) → R J H) : rISeq K (.ref a) H R := by
  rcases h with h | h
  · exact ⟨a, xs, rfl, .inl ⟨h, q _ _ _ (walk_list (K := K) (a := a) (xs := xs)) (fun _ e => sqL_ext h e) fun _ _ _ _ y => y⟩⟩
  · exact ⟨a, xs, rfl, .inr ⟨h, q _ _ _ (walk_tup (K := K) (a := a) (xs := xs)) (fun _ e => SqT.ext h e) fun _ _ _ _ y => y⟩⟩
/-! ### choices -/
def chs : List Int → Nat → List (List Int)
  | _, 0 => [[]]
  | [], _ + 1 => []
  | x :: r, m + 1 => (chs r m).map (x :: ·) ++ chs r (m + 1)
theorem mem_chs : ∀ {xs : List Int} {m : Nat} {c : List Int}, c ∈ chs xs m ↔ c.Sublist xs ∧ c.length = m
  | xs, 0, c => by
    have e : chs xs 0 = [[]] := by cases xs <;> rfl
    rw [e, List.mem_singleton]
    constructor
    · rintro rfl; exact ⟨List.nil_sublist _, rfl⟩
    · rintro ⟨_, h⟩; exact List.length_eq_zero_iff.mp h
  | [], m + 1, c => by
    simp only [chs, List.not_mem_nil, false_iff]
    rintro ⟨h, hl⟩
    rw [List.sublist_nil.mp h] at hl
    cases hl
  | x :: r, m + 1, c => by
    simp only [chs, List.mem_append, List.mem_map]
    rw [mem_chs (xs := r) (m := m + 1)]
    constructor
    · rintro (⟨d, hd, rfl⟩ | ⟨h, hl⟩)
      · rw [mem_chs] at hd
        exact ⟨hd.1.cons_cons x, by rw [List.length_cons, hd.2]⟩
      · exact ⟨h.cons x, hl⟩
    · rintro ⟨h, hl⟩
      cases h with
      | cons _ h => exact .inr ⟨h, hl⟩
      | cons_cons _ h =>
        rename_i d
        refine .inl ⟨d, mem_chs.mpr ⟨h, by simpa using hl⟩, rfl⟩
theorem chs_drop (xs : List Int) (m : Nat) : ∀ i, i ≤ xs.length → chs xs (m + 1) = ((List.range i).flatMap fun j => (chs (xs.drop (j + 1)) m).map ((xs.getD j 0) :: ·)) ++ chs (xs.drop i) (m + 1) := by
  intro i
  induction i with
  | zero => intro _; simp
  | succ i ih =>
    intro h
    rw [ih (by omega), List.range_succ, List.flatMap_append]
    have hi : i < xs.length := by omega
    rw [List.drop_eq_getElem_cons hi]
    simp only [chs, List.flatMap_cons, List.flatMap_nil, List.append_nil, List.append_assoc]
    rw [show xs.getD i 0 = xs[i] by simp [hi]]
theorem chs_all (xs : List Int) (m : Nat) : chs xs (m + 1) = (List.range xs.length).flatMap fun j => (chs (xs.drop (j + 1)) m).map ((xs.getD j 0) :: ·) := by
  have h := chs_drop xs m xs.length (Nat.le_refl _)
  rw [List.drop_length] at h
  have e : chs ([] : List Int) (m + 1) = [] := rfl
  rw [e, List.append_nil] at h
  exact h
theorem chs_mem_len {xs : List Int} {m : Nat} {c : List Int} (h : c ∈ chs xs m) : c.length ≤ xs.length := (mem_chs.mp h).1.length_le
theorem chs_len : ∀ {xs : List Int} {m : Nat}, (chs xs m).length ≤ 2 ^ xs.length
  | xs, 0 => by
    have e : chs xs 0 = [[]] := by cases xs <;> rfl
    rw [e]
    exact Nat.one_le_two_pow
  | [], m + 1 => Nat.zero_le _
  | x :: r, m + 1 => by
    have h1 := chs_len (xs := r) (m := m)
    have h2 := chs_len (xs := r) (m := m + 1)
    simp only [chs, List.length_append, List.length_map, List.length_cons, Nat.pow_succ]
    omega
theorem flat_len {α : Type} {f : Nat → List α} {B : Nat} (h : ∀ j, (f j).length ≤ B) : ∀ i, ((List.range i).flatMap f).length ≤ i * B
  | 0 => Nat.zero_le _
  | i + 1 => by
    have h1 := flat_len h i
    have h2 := h i
    rw [List.range_succ, List.flatMap_append, List.length_append, List.flatMap_cons, List.flatMap_nil, List.append_nil, Nat.succ_mul]
    omega
theorem chs_len5 {xs : List Int} {m : Nat} (h : xs.length ≤ 5) : (chs xs m).length ≤ 32 := Nat.le_trans chs_len (Nat.pow_le_pow_right (by decide) h)
theorem part_len {xs : List Int} {m i j : Nat} {y : Int} (h : xs.length ≤ 5) (hi : i < xs.length) : (((List.range i).flatMap fun j => (chs (xs.drop (j + 1)) m).map ((xs.getD j 0) :: ·)) ++ ((chs (xs.drop (i + 1)) m).take j).map (y :: ·)).length ≤ 192 := by
  rw [List.length_append]
  have h1 := flat_len (f := fun j => (chs (xs.drop (j + 1)) m).map ((xs.getD j 0) :: ·)) (B := 32) (fun j => by rw [List.length_map]; exact chs_len5 (by rw [List.length_drop]; omega)) i
  have h2 := chs_len5 (xs := xs.drop (i + 1)) (m := m) (by rw [List.length_drop]; omega)
  rw [List.length_map, List.length_take]
  omega
/-- a list of tuples of numbers -/
def TupsP (K : PySem.W.Frag) (H : Hp) : List (List Int) → List V → Prop := Paired fun ts v => ∃ t, v = .ref t ∧ SqT K H t (ts.map .int)
theorem TupsP.same {K : PySem.W.Frag} {H H' : Hp} {tss : List (List Int)} {items : List V} (h : TupsP K H tss items) (s : Same H H') : TupsP K H' tss items := L2.Paired.mapP h fun _ _ ⟨t, e, ht⟩ => ⟨t, e, Same.tup s ht⟩
theorem TupsP.ext {K : PySem.W.Frag} {H H' : Hp} {tss : List (List Int)} {items : List V} (h : TupsP K H tss items) (s : ExtN H H') : TupsP K H' tss items := L2.Paired.mapP h fun _ _ ⟨t, e, ht⟩ => ⟨t, e, SqT.ext ht s⟩
theorem TupsP.nl {K : PySem.W.Frag} {H H' : Hp} {tss : List (List Int)} {items : List V} (h : TupsP K H tss items) (s : NL H H') : TupsP K H' tss items := L2.Paired.mapP h fun _ _ ⟨t, e, ht⟩ => ⟨t, e, SqT.nl ht s⟩
theorem NL.ofX {H H' : Hp} {F : Addr} {xs : List V} (s : SameX F H H') (h : H F = some (.lst xs)) : NL H H' := fun b o hb n => s b o (fun e => n xs (by rw [e, h] at hb; cases hb; rfl)) hb
theorem TupsP.add {K : PySem.W.Frag} {H H' : Hp} {tss : List (List Int)} {items : List V} {t : List Int} {p : Addr} (h : TupsP K H tss items) (s : NL H H') (hp : SqT K H' p (t.map .int)) : TupsP K H' (tss ++ [t]) (items ++ [.ref p]) := Paired.app (h.nl s) (.cons ⟨p, rfl, hp⟩ .nil)
def spChoices (K : PySem.W.Frag) (n : Nat) : Sp := fun vs H Q _ => ∃ a, ∃ (xs : List Int) (m : Nat), vs = [.ref a, .int m] ∧ m < n ∧ SqL K H a (xs.map .int) ∧ xs.length ≤ 5 ∧ ∀ l items H', Same H H' → H l = none → H' l = some (.lst items) → TupsP K H' (chs xs m) items → Q (.ref l) H'
theorem go_choices {K : PySem.W.Frag} {n m : Nat} {H : Hp} {Q : VK} {E : XK} {a : Addr} {xs : List Int} {i : Int} (hi : i = (m : Int)) (hm : m < n) (h : SqL K H a (xs.map .int)) (hl : xs.length ≤ 5) (q : ∀ l items H', Same H H' → H l = none → H' l = some (.lst items) → TupsP K H' (chs xs m) items → Q (.ref l) H') : spChoices K n [.ref a, .int i] H Q E := ⟨a, xs, m, by rw [hi], hm, h, hl, q⟩
theorem SqL.sx {K : PySem.W.Frag} {H H' : Hp} {F a : Addr} {xs : List V} (h : SqL K H a xs) (hF : H F = none) (s : ∀ b o, b ≠ F → H b = some o → H' b = some o) : SqL K H' a xs := by
  rcases h with (h | ⟨o, h⟩) | h
  · exact .inl (.inl (s _ _ (fun e => by rw [e, hF] at h; cases h) h))
  · exact .inl (.inr ⟨o, s _ _ (fun e => by rw [e, hF] at h; cases h) h⟩)
  · exact .inr h
theorem cut_drop {xs : List V} {i : Nat} (h : i ≤ xs.length) : cutV xs (some (i : Int)) none = xs.drop i := by
  unfold cutV
  have e1 : HT.sIx xs.length 0 (some (i : Int)) = i := by
    show (if (i : Int) < 0 then ((i : Int) + (xs.length : Int)).toNat else min (i : Int).toNat xs.length) = i
    rw [if_neg (by omega)]
    omega
  have e2 : HT.sIx xs.length xs.length none = xs.length := rfl
  rw [e1, e2]
  show List.take (xs.length - i) (xs.drop i) = xs.drop i
  exact List.take_of_length_le (by rw [List.length_drop]; exact Nat.le_refl _)
/-! ### the chain of some steps -/
def pickL {α : Type} (ss : List α) (is : List Int) : List α := is.filterMap fun i => ss[i.toNat]?
theorem pickL_mem {α : Type} {ss : List α} {is : List Int} {x : α} (h : x ∈ pickL ss is) : x ∈ ss := by
  obtain ⟨i, _, hi⟩ := List.mem_filterMap.mp h
  exact List.mem_of_getElem? hi
theorem pickL_len {α : Type} {ss : List α} {is : List Int} : (pickL ss is).length ≤ is.length := List.length_filterMap_le _ _
theorem pickL_take {α : Type} {ss : List α} {is : List Int} {i : Nat} {j : Int} {v : α} (h : is[i]? = some j) (hv : ss[j.toNat]? = some v) : pickL ss (is.take (i + 1)) = pickL ss (is.take i) ++ [v] := by
  unfold pickL
  rw [List.take_succ, h, List.filterMap_append]
  simp [hv]
theorem pick_paired {α β : Type} {F : α → β → Prop} {l₁ : List α} {l₂ : List β} (h : Paired F l₁ l₂) : ∀ is : List Int, Paired F (pickL l₁ is) (pickL l₂ is)
  | [] => .nil
  | i :: is => by
    unfold pickL
    rw [List.filterMap_cons, List.filterMap_cons]
    cases e : l₁[i.toNat]? with
    | none =>
      have e2 : l₂[i.toNat]? = none := List.getElem?_eq_none (by rw [← h.length]; exact List.getElem?_eq_none_iff.mp e)
      rw [e2]
      exact pick_paired h is
    | some x =>
      obtain ⟨y, hy, hf⟩ := Paired.at1 h e
      rw [hy]
      exact .cons hf (pick_paired h is)
def InR (n : Nat) (is : List Int) : Prop := ∀ i ∈ is, 0 ≤ i ∧ i < (n : Int)
def spPartOf (K : PySem.W.Frag) : Sp := fun vs H Q _ => ∃ c p ss is, vs = [.ref c, .ref p] ∧ ChainS K H c ss ∧ (∀ s ∈ ss, s.ok) ∧ (SqL K H p (is.map .int) ∨ SqT K H p (is.map .int)) ∧ InR ss.length is ∧ is.length ≤ 5 ∧
  ∀ r H', Same H H' → ChainS K H' r (pickL ss is) → Q (.ref r) H'
theorem go_partOf {K : PySem.W.Frag} {H : Hp} {Q : VK} {E : XK} {c p : Addr} {ss : List Stp} {is : List Int} (hc : ChainS K H c ss) (ok : ∀ s ∈ ss, s.ok) (hp : SqL K H p (is.map .int) ∨ SqT K H p (is.map .int)) (hr : InR ss.length is) (hl : is.length ≤ 5)
    (q : ∀ r H', Same H H' → ChainS K H' r (pickL ss is) → Q (.ref r) H') : spPartOf K [.ref c, .ref p] H Q E := ⟨c, p, ss, is, rfl, hc, ok, hp, hr, hl, q⟩
/-! ### list(range(n)) -/
def rg (n : Nat) : List Int := (List.range n).map fun i : Nat => (i : Int)
theorem rg_len (n : Nat) : (rg n).length = n := by unfold rg; rw [List.length_map, List.length_range]
theorem rgV_rg (n : Nat) : rgV 0 (n : Int) = (rg n).map .int := by
  unfold rgV rg
  rw [Int.sub_zero, Int.toNat_natCast, List.map_map]
  refine List.map_congr_left fun i _ => ?_
  show V.int (0 + (i : Int)) = V.int (i : Int)
  rw [Int.zero_add]
theorem rg_at {n i : Nat} (h : i < n) : (rg n)[i]? = some (i : Int) := by unfold rg; rw [List.getElem?_map, List.getElem?_range h]; rfl
theorem rg_in (n : Nat) : InR n (rg n) := fun i hi => by
  obtain ⟨j, hj, rfl⟩ := List.mem_map.mp hi
  have := List.mem_range.mp hj
  exact ⟨by omega, by omega⟩
def rLrg (x : V) (H : Hp) (Q : VK) : Prop := ∃ n : Int, x = .int n ∧ RgOk 0 n ∧ ∀ q, H q = none → Q (.ref q) (upd H q (.lst (rgV 0 n)))
def tLrg (te : TE) : TE := fun σ H Q => te σ H fun x H1 => rLrg x H1 Q
theorem w_lrgT {te : TE} {σ : L2.St} {H : Hp} {Q : VK} (h : te σ H fun x H1 => rLrg x H1 Q) : tLrg te σ H Q := h
theorem pe_lrg {X : Cx} {p pos p2 pos2 : Pos} {a : Expr} {ta : TE} (hc : X.calm = true) (hg : Gl X "list") (hm : X.mg "list" = none) (hg2 : Gl X "range") (hm2 : X.mg "range" = none) (ha : PE X a ta)
    (na2 : starEach [a] X.env = (false, eval a X.env) :: starEach [] X.env := by rfl)
    (na : starEach [.Call (.Name "range" p2) [a] [] pos2] X.env = (false, eval (.Call (.Name "range" p2) [a] [] pos2) X.env) :: starEach [] X.env := by rfl) : PE X (.Call (.Name "list" p) [.Call (.Name "range" p2) [a] [] pos2] [] pos) (tLrg ta) :=
  pe_listRg hc hg hm (prg_1 hg2 hm2 ha na2) na
theorem w_lrg {H : Hp} {Q : VK} {i : Int} {n : Nat} (e : i = (n : Int)) (hn : n ≤ 1000) (q : ∀ q, H q = none → Q (.ref q) (upd H q (.lst ((rg n).map .int)))) : rLrg (.int i) H Q := ⟨n, by rw [e], RgOk.of_le (by omega) (by omega) (by omega) (by omega), fun r hr => by rw [rgV_rg]; exact q r hr⟩
theorem filt_take {α : Type} {p : α → Bool} {l : List α} {i : Nat} {v : α} (h : l[i]? = some v) : (l.take (i + 1)).filter p = (l.take i).filter p ++ (if p v = true then [v] else []) := by
  rw [List.take_succ, h, List.filter_append]
  show _ ++ [v].filter p = _
  by_cases e : p v = true
  · rw [if_pos e, List.filter_cons_of_pos e]; rfl
  · rw [if_neg e, List.filter_cons_of_neg e]; rfl
theorem InR.sub {n : Nat} {is : List Int} (h : InR n is) (p : Int → Bool) : InR n (is.filter p) := fun i hi => h i (List.mem_filter.mp hi).1
def needS (ss : List Stp) : List Int := (rg ss.length).filter fun k => alikeB ss (pickL ss ((rg ss.length).filter fun o => decide (o ≠ k)))
def spNeedless (K : PySem.W.Frag) (T : List NTab) : Sp := fun vs H Q _ => ∃ c ss, vs = [.ref c] ∧ ChainS K H c ss ∧ (∀ s ∈ ss, s.ok) ∧ ss.length ≤ 5 ∧ TabsN T H ∧ ∀ l H', ExtN H H' → TabsN T H' → H' l = some (.lst ((needS ss).map .int)) → Q (.ref l) H'
theorem go_needless {K : PySem.W.Frag} {T : List NTab} {H : Hp} {Q : VK} {E : XK} {c : Addr} {ss : List Stp} (hc : ChainS K H c ss) (ok : ∀ s ∈ ss, s.ok) (hl : ss.length ≤ 5) (ht : TabsN T H) (q : ∀ l H', ExtN H H' → TabsN T H' → H' l = some (.lst ((needS ss).map .int)) → Q (.ref l) H') : spNeedless K T [.ref c] H Q E := ⟨c, ss, rfl, hc, ok, hl, ht, q⟩
def likeOf (ss : List Stp) (c : List Int) : Bool := alikeB ss (pickL ss c)
/-- the smallest sets with which it is alike, sought from m on -/
def coresF (ss : List Stp) : Nat → Nat → List (List Int)
  | _, 0 => []
  | m, f + 1 => if ((chs (rg ss.length) m).filter (likeOf ss)).isEmpty then coresF ss (m + 1) f else (chs (rg ss.length) m).filter (likeOf ss)
def coresS (ss : List Stp) : List (List Int) := coresF ss 0 (ss.length + 1)
def spCores (K : PySem.W.Frag) (T : List NTab) : Sp := fun vs H Q _ => ∃ c ss, vs = [.ref c] ∧ ChainS K H c ss ∧ (∀ s ∈ ss, s.ok) ∧ ss.length ≤ 5 ∧ TabsN T H ∧ ∀ l items H', ExtN H H' → TabsN T H' → H' l = some (.lst items) → TupsP K H' (coresS ss) items → Q (.ref l) H'
theorem go_cores {K : PySem.W.Frag} {T : List NTab} {H : Hp} {Q : VK} {E : XK} {c : Addr} {ss : List Stp} (hc : ChainS K H c ss) (ok : ∀ s ∈ ss, s.ok) (hl : ss.length ≤ 5) (ht : TabsN T H) (q : ∀ l items H', ExtN H H' → TabsN T H' → H' l = some (.lst items) → TupsP K H' (coresS ss) items → Q (.ref l) H') : spCores K T [.ref c] H Q E := ⟨c, ss, rfl, hc, ok, hl, ht, q⟩
/-- the values of those that a test takes -/
def selV (p : List Int → Bool) (cs : List (List Int)) (vs : List V) : List V := ((cs.zip vs).filter fun q => p q.1).map (·.2)
theorem selV_paired {F : List Int → V → Prop} {p : List Int → Bool} {cs : List (List Int)} {vs : List V} (h : Paired F cs vs) : Paired F (cs.filter p) (selV p cs vs) := by
  induction h with
  | nil => exact .nil
  | @cons a b l₁ l₂ f t ih =>
    unfold selV at ih ⊢
    rw [List.zip_cons_cons]
    by_cases e : p a = true
    · rw [List.filter_cons, if_pos e, List.filter_cons, if_pos (by exact e), List.map_cons]
      exact .cons f ih
    · rw [List.filter_cons, if_neg e, List.filter_cons, if_neg (by exact e)]
      exact ih
def selT (p : List Int → Bool) (cs : List (List Int)) (vs : List V) (i : Nat) : List V := (((cs.zip vs).take i).filter fun q => p q.1).map (·.2)
theorem selT_all {p : List Int → Bool} {cs : List (List Int)} {vs : List V} (h : cs.length = vs.length) : selT p cs vs vs.length = selV p cs vs := by
  unfold selT selV
  rw [List.take_of_length_le (by rw [List.length_zip]; omega)]
theorem selT_take {p : List Int → Bool} {cs : List (List Int)} {vs : List V} {i : Nat} {c : List Int} {v : V} (h1 : cs[i]? = some c) (h2 : vs[i]? = some v) : selT p cs vs (i + 1) = selT p cs vs i ++ (if p c = true then [v] else []) := by
  unfold selT
  rw [filt_take (v := (c, v)) (List.getElem?_zip_eq_some.mpr ⟨h1, h2⟩), List.map_append]
  congr 1
  show List.map _ (if p c = true then _ else _) = _
  by_cases e : p c = true
  · rw [if_pos e, if_pos e]; rfl
  · rw [if_neg e, if_neg e]; rfl
theorem selT_len {p : List Int → Bool} {cs : List (List Int)} {vs : List V} {i : Nat} : (selT p cs vs i).length ≤ cs.length := by
  unfold selT
  rw [List.length_map]
  refine Nat.le_trans (List.length_filter_le _ _) ?_
  rw [List.length_take, List.length_zip]
  omega
theorem chs_in {n m : Nat} {c : List Int} (h : c ∈ chs (rg n) m) : InR n c := fun i hi => rg_in n i ((mem_chs.mp h).1.subset hi)
theorem coresF_step {ss : List Stp} {m f : Nat} (h : (chs (rg ss.length) m).filter (likeOf ss) = []) : coresF ss m (f + 1) = coresF ss (m + 1) f := by
  show (if _ then _ else _) = _
  rw [h]
  rfl
theorem coresF_found {ss : List Stp} {m f : Nat} {c : List Int} {l : List (List Int)} (h : (chs (rg ss.length) m).filter (likeOf ss) = c :: l) : coresF ss m (f + 1) = c :: l := by
  show (if _ then _ else _) = _
  rw [h]
  rfl
end TB

set_option maxHeartbeats 4000000
/-! smallest sets of steps -/
namespace TB
open PySem PySem.Spec PyProof.Rows L2 TW LamX NdefX
def tl (a m : Nat) : List Int := (List.range m).map fun i : Nat => ((a + i : Nat) : Int)
theorem tl_succ (a m : Nat) : tl a (m + 1) = tl a m ++ [((a + m : Nat) : Int)] := by unfold tl; rw [List.range_succ, List.map_append]; rfl
theorem rg_tl (n : Nat) : rg n = tl 0 n := by
  unfold rg tl
  exact List.map_congr_left fun i _ => by rw [Nat.zero_add]
theorem tl_add (a m : Nat) : ∀ k, tl a (m + k) = tl a m ++ tl (a + m) k
  | 0 => by show tl a m = tl a m ++ []; rw [List.append_nil]
  | k + 1 => by rw [← Nat.add_assoc, tl_succ, tl_add a m k, tl_succ, List.append_assoc, Nat.add_assoc a m k]
theorem pick_app {α : Type} (ss : List α) (a b : List Int) : pickL ss (a ++ b) = pickL ss a ++ pickL ss b := List.filterMap_append
theorem pick_one {α : Type} (ss : List α) (a : Nat) : pickL ss [(a : Int)] = ss[a]?.toList := by
  unfold pickL
  rw [List.filterMap_cons, Int.toNat_natCast]
  cases ss[a]? <;> rfl
theorem pick_tl {α : Type} (ss : List α) (a : Nat) : ∀ m, pickL ss (tl a m) = (ss.drop a).take m
  | 0 => rfl
  | m + 1 => by rw [tl_succ, pick_app, pick_tl ss a m, pick_one, List.take_succ, List.getElem?_drop]
theorem tl_mem {a m : Nat} {x : Int} (h : x ∈ tl a m) : ∃ i : Nat, x = (i : Int) ∧ a ≤ i ∧ i < a + m := by
  obtain ⟨i, hi, rfl⟩ := List.mem_map.mp h
  have := List.mem_range.mp hi
  exact ⟨a + i, rfl, by omega, by omega⟩
theorem tl_filter {a m k : Nat} (h : k < a ∨ a + m ≤ k) : (tl a m).filter (fun o => decide (o ≠ (k : Int))) = tl a m := by
  rw [List.filter_eq_self]
  intro x hx
  obtain ⟨i, rfl, h1, h2⟩ := tl_mem hx
  simp only [decide_eq_true_eq]
  omega
theorem pick_minus {α : Type} {ss : List α} {k : Nat} (h : k < ss.length) : pickL ss ((rg ss.length).filter fun o => decide (o ≠ (k : Int))) = ss.take k ++ ss.drop (k + 1) := by
  have e : ss.length = k + (1 + (ss.length - (k + 1))) := by omega
  rw [rg_tl, e, tl_add, tl_add, List.filter_append, List.filter_append, tl_filter (.inr (by omega)), tl_filter (k := k) (a := 0 + k + 1) (.inl (by omega))]
  have e1 : (tl (0 + k) 1).filter (fun o => decide (o ≠ (k : Int))) = [] := by
    rw [Nat.zero_add]
    show List.filter _ [((k + 0 : Nat) : Int)] = []
    rw [List.filter_cons, if_neg (by simp)]
    rfl
  rw [e1, List.nil_append, pick_app, pick_tl, pick_tl, Nat.zero_add, List.drop_zero]
  congr 1
  exact List.take_of_length_le (by rw [List.length_drop]; omega)
theorem pick_all {α : Type} {ss : List α} {c : List Int} (h : InR ss.length c) : (pickL ss c).length = c.length := by
  induction c with
  | nil => rfl
  | cons i c ih =>
    obtain ⟨h1, h2⟩ := h i List.mem_cons_self
    unfold pickL at ih ⊢
    rw [List.filterMap_cons, List.getElem?_eq_getElem (show i.toNat < ss.length by omega)]
    simp only [List.length_cons]
    rw [ih fun j hj => h j (List.mem_cons_of_mem _ hj)]
theorem pick_erase {α : Type} {ss : List α} : ∀ {c : List Int} {k : Nat}, InR ss.length c → (pickL ss c).eraseIdx k = pickL ss (c.eraseIdx k)
  | [], _, _ => rfl
  | i :: c, k, h => by
    obtain ⟨h1, h2⟩ := h i List.mem_cons_self
    have ic : pickL ss (i :: c) = ss[i.toNat]'(by omega) :: pickL ss c := by
      unfold pickL
      rw [List.filterMap_cons, List.getElem?_eq_getElem (show i.toNat < ss.length by omega)]
    cases k with
    | zero => rw [ic]; rfl
    | succ k =>
      have ih := pick_erase (k := k) (fun j hj => h j (List.mem_cons_of_mem _ hj))
      rw [ic, List.eraseIdx_cons_succ, List.eraseIdx_cons_succ, ih]
      unfold pickL
      rw [List.filterMap_cons, List.getElem?_eq_getElem (show i.toNat < ss.length by omega)]
theorem coresF_min {ss : List Stp} : ∀ (f m : Nat) (c : List Int), (∀ j, j < m → (chs (rg ss.length) j).filter (likeOf ss) = []) → c ∈ coresF ss m f →
    ∃ j, c ∈ chs (rg ss.length) j ∧ likeOf ss c = true ∧ ∀ i, i < j → (chs (rg ss.length) i).filter (likeOf ss) = []
  | 0, _, _, _, h => by cases h
  | f + 1, m, c, hm, h => by
    cases hf : (chs (rg ss.length) m).filter (likeOf ss) with
    | nil =>
      rw [coresF_step hf] at h
      refine coresF_min f (m + 1) c (fun j hj => ?_) h
      rcases Nat.lt_or_ge j m with q | q
      · exact hm j q
      · rw [show j = m by omega]; exact hf
    | cons a l =>
      rw [coresF_found hf, ← hf] at h
      obtain ⟨h1, h2⟩ := List.mem_filter.mp h
      exact ⟨m, h1, h2, hm⟩
theorem need_core {ss : List Stp} {c : List Int} (ok : ∀ s ∈ ss, s.ok) (h : c ∈ coresS ss) : needS (pickL ss c) = [] := by
  obtain ⟨m, h1, h2, h3⟩ := coresF_min _ 0 c (fun j hj => absurd hj (Nat.not_lt_zero _)) h
  unfold needS
  rw [List.filter_eq_nil_iff]
  intro k hk h4
  rw [rg_tl] at hk
  obtain ⟨i, rfl, _, hi⟩ := tl_mem hk
  rw [Nat.zero_add] at hi
  have hin := chs_in h1
  rw [pick_minus hi, ← List.eraseIdx_eq_take_drop_succ, pick_erase hin] at h4
  have okc : ∀ s ∈ pickL ss c, s.ok := fun s hs => ok s (pickL_mem hs)
  have okd : ∀ s ∈ pickL ss (c.eraseIdx i), s.ok := fun s hs => ok s (pickL_mem hs)
  have a1 := (alike_iff ok okc).mp h2
  have a2 := (alike_iff okc okd).mp h4
  have a3 : likeOf ss (c.eraseIdx i) = true := (alike_iff ok okd).mpr fun v => (a1 v).trans (a2 v)
  rw [pick_all hin] at hi
  obtain ⟨hs, hl⟩ := mem_chs.mp h1
  have h5 : c.eraseIdx i ∈ chs (rg ss.length) (m - 1) := mem_chs.mpr ⟨(List.eraseIdx_sublist _ _).trans hs, by rw [List.length_eraseIdx_of_lt hi, hl]⟩
  have h6 : c.eraseIdx i ∈ (chs (rg ss.length) (m - 1)).filter (likeOf ss) := List.mem_filter.mpr ⟨h5, a3⟩
  rw [h3 (m - 1) (by omega)] at h6
  cases h6
theorem need_law (ss : List Stp) : needS ss = (rg ss.length).filter fun k => alikeB ss (ss.take k.toNat ++ ss.drop (k.toNat + 1)) := by
  unfold needS
  refine List.filter_congr fun k hk => ?_
  rw [rg_tl] at hk
  obtain ⟨i, rfl, _, hi⟩ := tl_mem hk
  rw [pick_minus (by omega), Int.toNat_natCast]
def foundS (ss : List Stp) : Nat → List (List Int)
  | 0 => []
  | i + 1 => if (foundS ss i).length = 0 then (chs (rg ss.length) i).filter (likeOf ss) else foundS ss i
theorem found_inv (ss : List Stp) : ∀ i, i ≤ ss.length + 1 → (foundS ss i = [] ∧ coresS ss = coresF ss i (ss.length + 1 - i)) ∨ (foundS ss i ≠ [] ∧ coresS ss = foundS ss i)
  | 0, _ => .inl ⟨rfl, rfl⟩
  | i + 1, h => by
    rcases found_inv ss i (by omega) with ⟨h1, h2⟩ | ⟨h1, h2⟩
    · have e : foundS ss (i + 1) = (chs (rg ss.length) i).filter (likeOf ss) := by
        show (if _ then _ else _) = _
        rw [if_pos (by rw [h1]; rfl)]
      rw [show ss.length + 1 - i = (ss.length + 1 - (i + 1)) + 1 by omega] at h2
      cases hf : (chs (rg ss.length) i).filter (likeOf ss) with
      | nil => exact .inl ⟨e.trans hf, h2.trans (coresF_step hf)⟩
      | cons a l => exact .inr ⟨by rw [e, hf]; simp, by rw [e, hf, h2, coresF_found hf]⟩
    · have e : foundS ss (i + 1) = foundS ss i := by
        show (if _ then _ else _) = _
        rw [if_neg (fun q => h1 (List.length_eq_zero_iff.mp q))]
      exact .inr ⟨by rw [e]; exact h1, by rw [e]; exact h2⟩
theorem found_cores (ss : List Stp) : foundS ss (ss.length + 1) = coresS ss := by
  rcases found_inv ss (ss.length + 1) (Nat.le_refl _) with ⟨h1, h2⟩ | ⟨_, h2⟩
  · rw [h1, h2, Nat.sub_self]; rfl
  · exact h2.symm
theorem cores_in {ss : List Stp} {c : List Int} (h : c ∈ coresS ss) : InR ss.length c ∧ c.length ≤ ss.length := by
  obtain ⟨m, h1, _, _⟩ := coresF_min _ 0 c (fun j hj => absurd hj (Nat.not_lt_zero _)) h
  exact ⟨chs_in h1, by have := chs_mem_len h1; rw [rg_len] at this; exact this⟩
theorem coresF_len {ss : List Stp} (h5 : ss.length ≤ 5) : ∀ f m, (coresF ss m f).length ≤ 32
  | 0, _ => Nat.zero_le _
  | f + 1, m => by
    cases hf : (chs (rg ss.length) m).filter (likeOf ss) with
    | nil => rw [coresF_step hf]; exact coresF_len h5 f (m + 1)
    | cons a l =>
      rw [coresF_found hf, ← hf]
      have h1 := List.length_filter_le (likeOf ss) (chs (rg ss.length) m)
      have h2 := chs_len5 (xs := rg ss.length) (m := m) (by rw [rg_len]; exact h5)
      omega
theorem cores_len {ss : List Stp} (h5 : ss.length ≤ 5) : (coresS ss).length ≤ 32 := coresF_len h5 _ _
theorem found_len {ss : List Stp} (h5 : ss.length ≤ 5) : ∀ i, (foundS ss i).length ≤ 32
  | 0 => Nat.zero_le _
  | i + 1 => by
    show (if _ then _ else _ : List (List Int)).length ≤ 32
    split
    · have h1 := List.length_filter_le (likeOf ss) (chs (rg ss.length) i)
      have h2 := chs_len5 (xs := rg ss.length) (m := i) (by rw [rg_len]; exact h5)
      omega
    · exact found_len h5 i
/-- data of a list of tuples of numbers -/
def tupsD (cs : List (List Int)) : PyData := .list (cs.map fun c => .tuple ((c.map V.int).map pd))
theorem ints_flat (c : List Int) : (c.map V.int).all flatV = true := by rw [List.all_map]; exact List.all_eq_true.mpr fun _ _ => rfl
theorem tups_all {K : PySem.W.Frag} {H : Hp} {cs : List (List Int)} {vs : List V} (h : TupsP K H cs vs) : DpAll K H vs (cs.map fun c => .tuple ((c.map V.int).map pd)) := by
  induction h with
  | nil => exact .nil
  | @cons c v cs vs f t ih =>
    obtain ⟨a, rfl, ha⟩ := f
    exact .cons (.tup ha (pds_dp (ints_flat c))) ih
theorem tups_dp {K : PySem.W.Frag} {H : Hp} {cs : List (List Int)} {vs : List V} {l : Addr} (hl : H l = some (.lst vs)) (h : TupsP K H cs vs) : Dp K H (.ref l) (tupsD cs) := .lst (lstAt hl) (tups_all h)
theorem tups_like {K : PySem.W.Frag} {n : Nat} {cs : List (List Int)} (h1 : cs.length ≤ 100000) (h2 : ∀ c ∈ cs, c.length ≤ 100000) : LkOk (n + 3) (tupsD cs) := by
  refine ⟨by rw [List.length_map]; exact h1, fun d hd => ?_⟩
  obtain ⟨c, hc, rfl⟩ := List.mem_map.mp hd
  exact like_tup (K := K) (ints_flat c) (by rw [List.length_map]; exact h2 c hc)
theorem sl_listK {X : Cx} (K : PySem.W.Frag) (h : X.K = K) : SlR X (rSlL K) := h ▸ sl_list
theorem op_eqDK {X : Cx} (K : PySem.W.Frag) (h : X.K = K) (hu : X.A.units + 64 < cLine) : OpR X (compareOp .Eq) (rEqD K) := h ▸ op_eqD hu
theorem pi_seqK {X : Cx} (K : PySem.W.Frag) (h : X.K = K) {tg l : Expr} {te : TE} (hl : PE X l te) : PI X tg l (iSeqQ K te) := h ▸ pi_seqQ hl
theorem cut_take {xs : List V} {i : Nat} (h : i ≤ xs.length) : cutV xs none (some (i : Int)) = xs.take i := by
  unfold cutV
  have e2 : HT.sIx xs.length xs.length (some (i : Int)) = i := by
    show (if (i : Int) < 0 then ((i : Int) + (xs.length : Int)).toNat else min (i : Int).toNat xs.length) = i
    rw [if_neg (by omega)]
    omega
  have e1 : HT.sIx xs.length 0 none = 0 := rfl
  rw [e1, e2]
  rfl
theorem stepsP_ext {K : PySem.W.Frag} {H H' : Hp} {ss : List Stp} {vs : List V} (h : StepsP K H ss vs) (e : ExtN H H') : StepsP K H' ss vs := L2.Paired.mapP h fun _ _ ⟨t, q, ht⟩ => ⟨t, q, SqT.ext ht e⟩
end TB

set_option maxHeartbeats 4000000
/-! gates: rules -/
namespace TB
open PySem PySem.Spec PyProof.Rows L2 TW LamX NdefX
section
variable {X : Cx} {j k : Nat} {C : Addr} {m : Str} {ps : List Str} {sp : Sp} {ob e : Expr} {es : List Expr} {apos pos : Pos} {to : TE} {t : TA}
/-- a method's reading; what it raises is wished for at the slots -/
def tMO (C : Addr) (m : Str) (sp : Sp) (E : L2.St → XK) (to : TE) (t : TA) : TE := fun σ H Q => to σ H fun x H1 => ∃ a dx fs, x = .ref a ∧ H1 a = some (.ins C dx fs) ∧ fs.lookup m = none ∧ t σ H1 fun vs H2 => sp (x :: vs) H2 Q (E σ)
def MEq (X : Cx) (ob : Expr) (m : Str) (es : List Expr) (apos pos : Pos) (pl : Sem Bool) : Prop :=
  eval (.Call (.Attribute ob m apos) es [] pos) X.env = (do let ov ← eval ob X.env; standAt apos.atName; let (g, one) ← holding [ov] (getMethod ov m pl); callWith pos g one (backTo pos (starEach es X.env)) (backToKw pos (keywordEach [] X.env)))
theorem pe_mO {pl : Sem Bool} {E : L2.St → XK} (o : Op X.prog X.w X.K X.mg X.base k C m ps sp) (hr : Room j X.A) (hk : k ≤ j) (hx : ∀ σ, PassesAt (L2.CX X.prog X.w) X σ (E σ)) (ho : PE X ob to) (ha : PA X (e :: es) t)
    (ht : MEq X ob m (e :: es) apos pos pl := by exact rfl) (hs : starEach (e :: es) X.env = (false, eval e X.env) :: starEach es X.env := by rfl) (hl : (backTo pos (starEach es X.env)).any (·.1) = false := by rfl) :
    PE X (.Call (.Attribute ob m apos) (e :: es) [] pos) (tMO C m sp E to t) := by
  obtain ⟨f, fd, F, hm, hb⟩ := o.meth
  constructor
  intro pins s σ H Q I h
  apply PySem.W.methodCall_KW (pl := pl) _ ht
  refine thn (ho.run pins s σ H _ I h) fun ov s1 z => ?_
  obtain ⟨x, H1, I1, rx, a, dx, fs, rfl, ea, l, q⟩ := z
  cases (show ov = Value.ref a from rx)
  refine getmeth_ok I1 ea o.cl hm l (PySem.W.callWith_K (first := [.ref a]) (h₀ := X.base) I.ok.mod.kin hm.kp ?_ hs hl)
  refine thn (ha.run pos pins s1 σ H1 _ I1 q) fun us s2 z => ?_
  obtain ⟨vs, H2, I2, r, q2⟩ := z
  exact ⟨I2.kIn, run_fnS (us := .ref a :: us) (vs := .ref a :: vs) F (hr.mono hk) hb (hx σ) I2 (.cons rfl r) q2⟩
theorem pe_mO0 {pl : Sem Bool} {E : L2.St → XK} (o : Op X.prog X.w X.K X.mg X.base k C m ps sp) (hr : Room j X.A) (hk : k ≤ j) (hx : ∀ σ, PassesAt (L2.CX X.prog X.w) X σ (E σ)) (ho : PE X ob to)
    (ht : MEq X ob m [] apos pos pl := by exact rfl) : PE X (.Call (.Attribute ob m apos) [] [] pos) (tMO C m sp E to tNil) := by
  obtain ⟨f, fd, F, hm, hb⟩ := o.meth
  constructor
  intro pins s σ H Q I h
  apply PySem.W.methodCall_KW (pl := pl) _ ht
  refine thn (ho.run pins s σ H _ I h) fun ov s1 z => ?_
  obtain ⟨x, H1, I1, rx, a, dx, fs, rfl, ea, l, q⟩ := z
  cases (show ov = Value.ref a from rx)
  refine getmeth_ok I1 ea o.cl hm l ?_
  exact PySem.W.callWith_K0 (first := [.ref a]) I1.kIn hm.kp (run_fnS (us := [.ref a]) (vs := [.ref a]) F (hr.mono hk) hb (hx σ) I1 (.cons rfl .nil) q)
/-- nothing leaves -/
theorem atL (σ : L2.St) : PassesAt (L2.CX X.prog X.w) X σ E0 := fun pins H s e s' I h => passL pins σ H s e s' I h
/-- what leaves is the caller's wish -/
theorem atX {E : XK} {W : WX} (tk : Takes X W) (hW : ∀ cls d σ H, E cls d H → W cls d σ H) (σ : L2.St) : PassesAt (L2.CX X.prog X.w) X σ E := fun pins H s e s' I h => passes_call tk hW pins σ H s e s' I h
/-- o.f as a target -/
def gFld (K : PySem.W.Frag) (f : Str) (to : TE) : TG := fun v σ H Q => to σ H fun x H1 => rSetF K f x v H1 σ Q
theorem pg_fld {f : Str} (ho : PE X ob to) : PG X (.Attribute ob f pos) (gFld X.K f to) := by
  constructor
  intro pins s σ H v u Q I r h
  rw [PySem.assign_Attribute]
  refine wpAny_bind (wpAny_holding (thn (ho.run pins s σ H _ I h) fun ov s1 z => ?_))
  obtain ⟨x, H1, I1, rx, a, C, dx, fs, rfl, ea, c, n, l, q⟩ := z
  cases (show ov = Value.ref a from rx)
  refine wpAny_bind (wpAny_standAt (wpAny_bind (wpAny_holding (setattr_ok I1 ea c n l r fun s2 I2 => ?_))))
  exact wpAny_release ⟨σ, _, I2, q⟩
end
end TB

namespace TB
open PySem PySem.Spec PyProof.Rows L2 TW LamX NdefX
/-! ### states of gates -/
structure Snap where
  ss : List Stp
  kept : List (Nat × Val)
  num : Nat
structure GSt where
  cur : Snap
  past : List Snap
def kk (l : List (Nat × Val)) : List (Key × V) := l.map fun p => (Sum.inl (p.1 : Int), vv p.2)
def SnapA (K : PySem.W.Frag) (H : Hp) (c kd : Addr) (sn : Snap) : Prop := ChainS K H c sn.ss ∧ H kd = some (.dK (kk sn.kept))
structure SnapOk (sn : Snap) : Prop where
  ok : ∀ s ∈ sn.ss, s.ok
  len : sn.ss.length ≤ 5
  lt : ∀ p ∈ sn.kept, p.1 < sn.num
  nd : (sn.kept.map (·.1)).Nodup
  num : sn.num ≤ 900
abbrev gFs (c kd pl : Addr) (n : Nat) : List (Str × V) := [("present", .ref c), ("kept", .ref kd), ("number", .int n), ("past", .ref pl)]
def PastP (K : PySem.W.Frag) (H : Hp) : List (Snap × Addr) → List V → Prop := Paired fun q v => ∃ t c, v = .ref t ∧ H t = some (.tup [.ref c, .ref q.2, .int (q.1.num : Int)]) ∧ SnapA K H c q.2 q.1
def GateS (K : PySem.W.Frag) (H : Hp) (g : Addr) (fp : List Addr) (st : GSt) : Prop := ∃ dx c kd pl, ∃ (pq : List (Snap × Addr)) (items : List V), H g = some (.ins (He.ga K "Gate") dx (gFs c kd pl st.cur.num)) ∧ SnapA K H c kd st.cur ∧ H pl = some (.lst items) ∧ PastP K H pq items ∧ st.past = pq.map (·.1) ∧ fp = g :: pl :: kd :: pq.map (·.2) ∧ (kd :: pq.map (·.2)).Nodup
/-- what can change at an address that a chain does not look at -/
def Mv (H : Hp) (a : Addr) : Prop := (∃ xs, H a = some (.lst xs)) ∨ (∃ kvs, H a = some (.dK kvs)) ∨ (∃ od u, H a = some (.frz od (.dK u))) ∨ ∃ C dx fs, H a = some (.ins C dx fs) ∧ 1 < fs.length
theorem SqT.mv {K : PySem.W.Frag} {H H' : Hp} {a t : Addr} {xs : List V} (h : SqT K H t xs) (s : SameX a H H') (m : Mv H a) : SqT K H' t xs := by
  rcases h with (h | ⟨o, h⟩) | h
  · refine .inl (.inl (s _ _ (fun e => ?_) h))
    rw [e] at h
    rcases m with ⟨_, m⟩ | ⟨_, m⟩ | ⟨_, _, m⟩ | ⟨_, _, _, m, _⟩ <;> (rw [m] at h; cases h)
  · refine .inl (.inr ⟨o, s _ _ (fun e => ?_) h⟩)
    rw [e] at h
    rcases m with ⟨_, m⟩ | ⟨_, m⟩ | ⟨_, _, m⟩ | ⟨_, _, _, m, _⟩ <;> (rw [m] at h; cases h)
  · exact .inr h
theorem ChainS.mv {K : PySem.W.Frag} {H H' : Hp} {a c : Addr} {ss : List Stp} (h : ChainS K H c ss) (s : SameX a H H') (m : Mv H a) : ChainS K H' c ss := by
  obtain ⟨dx, t, h1, items, h2, h3⟩ := h
  refine ⟨dx, t, s _ _ (fun e => ?_) h1, items, SqT.mv h2 s m, L2.Paired.mapP h3 fun _ _ ⟨u, e, hu⟩ => ⟨u, e, SqT.mv hu s m⟩⟩
  rw [e] at h1
  rcases m with ⟨_, m⟩ | ⟨_, m⟩ | ⟨_, _, m⟩ | ⟨_, _, _, m, l⟩
  · rw [m] at h1; cases h1
  · rw [m] at h1; cases h1
  · rw [m] at h1; cases h1
  · rw [m] at h1; cases h1; simp at l
theorem SnapA.mv {K : PySem.W.Frag} {H H' : Hp} {a c kd : Addr} {sn : Snap} (h : SnapA K H c kd sn) (s : SameX a H H') (m : Mv H a) (n : kd ≠ a) : SnapA K H' c kd sn := ⟨h.1.mv s m, s _ _ n h.2⟩
theorem PastP.mv {K : PySem.W.Frag} {H H' : Hp} {a : Addr} {pq : List (Snap × Addr)} {items : List V} (h : PastP K H pq items) (s : SameX a H H') (m : Mv H a) (n : a ∉ pq.map (·.2)) : PastP K H' pq items := by
  unfold PastP at h ⊢
  induction h with
  | nil => exact .nil
  | @cons q v l₁ l₂ f _ ih =>
    obtain ⟨t, c, e, ht, hs⟩ := f
    rw [List.map_cons, List.mem_cons, not_or] at n
    refine .cons ⟨t, c, e, s _ _ (fun e' => ?_) ht, hs.mv s m (Ne.symm n.1)⟩ (ih n.2)
    rw [e'] at ht
    rcases m with ⟨_, m⟩ | ⟨_, m⟩ | ⟨_, _, m⟩ | ⟨_, _, _, m, _⟩ <;> (rw [m] at ht; cases ht)
theorem SnapA.same {K : PySem.W.Frag} {H H' : Hp} {c kd : Addr} {sn : Snap} (h : SnapA K H c kd sn) (s : Same H H') : SnapA K H' c kd sn := ⟨h.1.same s, s _ _ h.2⟩
theorem PastP.same {K : PySem.W.Frag} {H H' : Hp} {pq : List (Snap × Addr)} {items : List V} (h : PastP K H pq items) (s : Same H H') : PastP K H' pq items := L2.Paired.mapP h fun _ _ ⟨t, c, e, ht, hs⟩ => ⟨t, c, e, s _ _ ht, hs.same s⟩
theorem GateS.same {K : PySem.W.Frag} {H H' : Hp} {g : Addr} {fp : List Addr} {st : GSt} (h : GateS K H g fp st) (s : Same H H') : GateS K H' g fp st := by
  obtain ⟨dx, c, kd, pl, pq, items, h1, h2, h3, h4, h5, h6, h7⟩ := h
  exact ⟨dx, c, kd, pl, pq, items, s _ _ h1, h2.same s, s _ _ h3, h4.same s, h5, h6, h7⟩
/-- something outside changes -/
theorem GateS.sx {K : PySem.W.Frag} {H H' : Hp} {g a : Addr} {fp : List Addr} {st : GSt} (h : GateS K H g fp st) (s : SameX a H H') (m : Mv H a) (n : a ∉ fp) : GateS K H' g fp st := by
  obtain ⟨dx, c, kd, pl, pq, items, h1, h2, h3, h4, h5, h6, h7⟩ := h
  rw [h6] at n
  simp only [List.mem_cons, not_or] at n
  exact ⟨dx, c, kd, pl, pq, items, s _ _ (Ne.symm n.1) h1, h2.mv s m (Ne.symm n.2.2.1), s _ _ (Ne.symm n.2.1) h3, h4.mv s m n.2.2.2, h5, h6, h7⟩
theorem Mv.draws {H : Hp} {d : Addr} {cells : Cells} (dr : DrawsAt H d cells) : Mv H d := by
  obtain ⟨_, _, _, h, _⟩ := dr
  exact .inl ⟨_, h⟩
theorem same_free' {H H' : Hp} {p : Addr} (s : Same H H') (h : H' p = none) : H p = none := by
  cases e : H p with
  | none => rfl
  | some o => rw [s _ _ e] at h; cases h
/-- how a deed leaves the heap -/
structure GNext (K : PySem.W.Frag) (H : Hp) (g : Addr) (fp : List Addr) (st : GSt) (fp' : List Addr) (H' : Hp) : Prop where
  at_ : GateS K H' g fp' st
  sub : ∀ b ∈ fp', b ∈ fp ∨ H b = none
  keep : ∀ b o, b ∉ fp → H b = some o → H' b = some o
  mono : ∀ b, H b ≠ none → H' b ≠ none
theorem GNext.refl {K : PySem.W.Frag} {H H' : Hp} {g : Addr} {fp : List Addr} {st : GSt} (h : GateS K H g fp st) (s : Same H H') : GNext K H g fp st fp H' := ⟨h.same s, fun b hb => .inl hb, fun b o _ h => s _ _ h, fun b h => by
    cases e : H b with
    | none => exact absurd e h
    | some o => rw [s _ _ e]; exact fun q => by cases q⟩
theorem GNext.off {K : PySem.W.Frag} {H H' : Hp} {g a : Addr} {fp fp' : List Addr} {st : GSt} (h : GNext K H g fp st fp' H') (n : a ∉ fp) (e : H a ≠ none) : a ∉ fp' := fun q => by
  rcases h.sub a q with q | q
  · exact n q
  · exact e q
theorem GNext.trans {K : PySem.W.Frag} {H H1 H2 : Hp} {g : Addr} {fp fp1 fp2 : List Addr} {st1 st2 : GSt} (a : GNext K H g fp st1 fp1 H1) (b : GNext K H1 g fp1 st2 fp2 H2) : GNext K H g fp st2 fp2 H2 :=
  ⟨b.at_, fun x hx => (b.sub x hx).elim (fun q => a.sub x q) fun q => .inr (by
      cases e : H x with
      | none => rfl
      | some o => exact absurd q (a.mono x (by rw [e]; exact fun z => by cases z))),
    fun x o n h => b.keep x o (a.off n (by rw [h]; exact fun e => by cases e)) (a.keep x o n h), fun x h => b.mono x (a.mono x h)⟩
/-- a deed seen from an earlier heap -/
theorem GNext.pre {K : PySem.W.Frag} {H H1 H2 : Hp} {g : Addr} {fp fp2 : List Addr} {st2 : GSt} (s : Same H H1) (b : GNext K H1 g fp st2 fp2 H2) : GNext K H g fp st2 fp2 H2 :=
  ⟨b.at_, fun x hx => (b.sub x hx).elim .inl fun q => .inr (same_free' s q), fun x o n h => b.keep x o n (s _ _ h), fun x h => b.mono x (by
    cases e : H x with
    | none => exact absurd e h
    | some o => rw [s _ _ e]; exact fun q => by cases q)⟩
/-! ### deeds -/
def renK (ss : List Stp) (kept : List (Nat × Val)) : List (Nat × Val) := kept.filterMap fun p => (TW.run ss p.2).map fun v => (p.1, v)
def renC (ss : List Stp) (kept : List (Nat × Val)) : List (Nat × Val) := kept.filter fun p => decide (TW.run ss p.2 ≠ some p.2)
def spNote (K : PySem.W.Frag) : Sp := fun vs H Q _ => ∃ g fp st, vs = [.ref g] ∧ GateS K H g fp st ∧ st.past.length ≤ 900 ∧ ∀ fp' H', GNext K H g fp ⟨st.cur, st.past ++ [st.cur]⟩ fp' H' → Q .non H'
def spIdx (K : PySem.W.Frag) (C f : Str) (i : Int) (H : Hp) (E : XK) : Prop := ∀ H' d, Same H H' → H' d = some (.xd [(f, .int i)]) → E (.ref (He.ga K C)) (some d) H'
/-- the result of a value that is let in -/
def outV (ss : List Stp) (x : Val) : Val := (trace ss x).getLastD x
def spPut (K : PySem.W.Frag) : Sp := fun vs H Q E => ∃ g fp st y, vs = [.ref g, y] ∧ GateS K H g fp st ∧ SnapOk st.cur ∧ st.past.length ≤ 900 ∧
  ((∃ x, y = vv x ∧ ((trace st.cur.ss x).length < st.cur.ss.length → spIdx K "Refused" "index" ((trace st.cur.ss x).length : Int) H E) ∧ (¬ (trace st.cur.ss x).length < st.cur.ss.length → ∀ fp' H', GNext K H g fp ⟨⟨st.cur.ss, st.cur.kept ++ [(st.cur.num, outV st.cur.ss x)], st.cur.num + 1⟩, st.past ++ [st.cur]⟩ fp' H' → Q (.int (st.cur.num : Int)) H')) ∨
    (NotVal K H y ∧ ∀ H', Same H H' → E (.ref (He.ga K "BadValue")) none H'))
def hasN (kept : List (Nat × Val)) (n : Int) : Bool := kept.any fun p => decide ((p.1 : Int) = n)
def spTake (K : PySem.W.Frag) : Sp := fun vs H Q E => ∃ g fp st, ∃ n : Int, vs = [.ref g, .int n] ∧ GateS K H g fp st ∧ SnapOk st.cur ∧ st.past.length ≤ 900 ∧
  (hasN st.cur.kept n = false → spIdx K "NoValue" "number" n H E) ∧ (hasN st.cur.kept n = true → ∀ fp' H', GNext K H g fp ⟨⟨st.cur.ss, st.cur.kept.filter (fun p => decide ((p.1 : Int) ≠ n)), st.cur.num⟩, st.past ++ [st.cur]⟩ fp' H' → Q .non H')
def spUndo (K : PySem.W.Frag) : Sp := fun vs H Q E => ∃ g fp st, vs = [.ref g] ∧ GateS K H g fp st ∧ st.past.length ≤ 1000 ∧ (st.past = [] → ∀ H', Same H H' → E (.ref (He.ga K "NothingToUndo")) none H') ∧ (∀ p s, st.past = p ++ [s] → ∀ fp' H', GNext K H g fp ⟨s, p⟩ fp' H' → Q .non H')
def spGet (K : PySem.W.Frag) : Sp := fun vs H Q E => ∃ g fp st, ∃ n : Int, vs = [.ref g, .int n] ∧ GateS K H g fp st ∧ (hasN st.cur.kept n = false → spIdx K "NoValue" "number" n H E) ∧ (∀ v, valV (kk st.cur.kept) (Sum.inl n) = some (vv v) → Q (vv v) H)
def spLenG (K : PySem.W.Frag) : Sp := fun vs H Q _ => ∃ g fp st, vs = [.ref g] ∧ GateS K H g fp st ∧ Q (.int (st.cur.kept.length : Int)) H
def spEvery (K : PySem.W.Frag) : Sp := fun vs H Q _ => ∃ g fp st, vs = [.ref g] ∧ GateS K H g fp st ∧ ∀ d H', Same H H' → H d = none → H' d = some (.dK (kk st.cur.kept)) → Q (.ref d) H'
def spRenew (K : PySem.W.Frag) : Sp := fun vs H Q _ => ∃ g fp st, vs = [.ref g] ∧ GateS K H g fp st ∧ SnapOk st.cur ∧ ∀ fp' H' l, GNext K H g fp ⟨⟨st.cur.ss, renK st.cur.ss st.cur.kept, st.cur.num⟩, st.past⟩ fp' H' → H l = none → l ∉ fp' → H' l = some (.lst ((renC st.cur.ss st.cur.kept).map fun p => V.int (p.1 : Int))) → Q (.ref l) H'
def spChange (K : PySem.W.Frag) : Sp := fun vs H Q _ => ∃ g fp st c ts, vs = [.ref g, .ref c] ∧ GateS K H g fp st ∧ SnapOk st.cur ∧ st.past.length ≤ 900 ∧ ChainS K H c ts ∧ (∀ s ∈ ts, s.ok) ∧ ts.length ≤ 5 ∧
  ∀ fp' H' l, GNext K H g fp ⟨⟨ts, renK ts st.cur.kept, st.cur.num⟩, st.past ++ [st.cur]⟩ fp' H' → H l = none → l ∉ fp' → H' l = some (.lst ((renC ts st.cur.kept).map fun p => V.int (p.1 : Int))) → Q (.ref l) H'
def spTidy (K : PySem.W.Frag) : Sp := fun vs H Q _ => ∃ g fp st, vs = [.ref g] ∧ GateS K H g fp st ∧ SnapOk st.cur ∧ st.past.length ≤ 900 ∧
  ∀ fp' H' l, GNext K H g fp ⟨⟨st.cur.ss, renK st.cur.ss st.cur.kept, st.cur.num⟩, st.past ++ [st.cur]⟩ fp' H' → H l = none → l ∉ fp' → H' l = some (.lst ((renC st.cur.ss st.cur.kept).map fun p => V.int (p.1 : Int))) → Q (.ref l) H'
/-- a new gate -/
def spGate0 (K : PySem.W.Frag) : Sp := fun vs H Q _ => ∃ x c dx, vs = [.ref x, .ref c] ∧ H x = some (.ins (He.ga K "Gate") dx []) ∧ (∃ ss, ChainS K H c ss) ∧ ∀ kd pl H', (∀ b o, b ≠ x → H b = some o → H' b = some o) → H kd = none → H pl = none → H' x = some (.ins (He.ga K "Gate") dx (gFs c kd pl 0)) → H' kd = some (.dK []) → H' pl = some (.lst []) → Q .non H'
/-! ### dicts, step by step -/
section
variable {σ : L2.St} {H : Hp} {Q : VK} {ty td tv ta : TE} {D : Ends} {a : Addr} {kvs : List (Key × V)} {n : Int} {v : V}
def rDn (x y : V) (H : Hp) (Q : VK) : Prop := ∃ a o, x = .ref a ∧ DGet H a y o ∧ Q (.bl (!o.isSome)) H
theorem w_dNot (h : ty σ H fun y H1 => td σ H1 fun x H2 => rDn x y H2 Q) : tDNotIn ty td σ H Q := h
theorem w_dNotG (h : Rd H a (.dK kvs)) (q : Q (.bl (!(valV kvs (Sum.inl n)).isSome)) H) : rDn (.ref a) (.int n) H Q := ⟨a, _, rfl, .inl ⟨kvs, Sum.inl n, h, rfl, rfl⟩, q⟩
def rDg (x y : V) (H : Hp) (Q : VK) : Prop := ∃ a v, x = .ref a ∧ DGet H a y (some v) ∧ Q v H
theorem w_dGet (h : td σ H fun x H1 => ty σ H1 fun y H2 => rDg x y H2 Q) : tDGet td ty σ H Q := h
theorem w_dGetG (h : Rd H a (.dK kvs)) (e : valV kvs (Sum.inl n) = some v) (q : Q v H) : rDg (.ref a) (.int n) H Q := ⟨a, v, rfl, .inl ⟨kvs, Sum.inl n, h, rfl, e.symm⟩, q⟩
def rDp (x y v : V) (H : Hp) (R : Hp → Prop) : Prop := ∃ a H4, x = .ref a ∧ DPut H a y v H4 ∧ R H4
theorem w_dPut (h : tv σ H fun v H1 => td σ H1 fun x H2 => ty σ H2 fun y H3 => rDp x y v H3 (D.nx σ)) : sDPut td ty tv D σ H := h
theorem w_dPutG {R : Hp → Prop} (h : H a = some (.dK kvs)) (hl : kvs.length < sizeLine) (q : R (upd H a (.dK (putK kvs (Sum.inl n) v)))) : rDp (.ref a) (.int n) v H R := ⟨a, _, rfl, DPut.k (k := Sum.inl n) h hl, q⟩
def rLenD : List V → Hp → VK → Prop := fun xs H Q => ∃ a kvs, xs = [.ref a] ∧ H a = some (.dK kvs) ∧ Q (.int (kvs.length : Int)) H
theorem call_lenDR {X : Cx} : CallR X (.builtin "len") rLenD := call_lenD
theorem w_lenD (h : H a = some (.dK kvs)) (q : Q (.int (kvs.length : Int)) H) : rLenD [.ref a] H Q := ⟨a, kvs, rfl, h, q⟩
def rDictD : List V → Hp → VK → Prop := fun xs H Q => ∃ (a : Addr) (kvs : List (Key × V)), xs = [.ref a] ∧ Rd H a (.dK kvs) ∧ ∀ p, H p = none → Q (.ref p) (upd H p (.dK kvs))
theorem call_dictDR {X : Cx} : CallR X (.type "dict") rDictD := call_dictD
theorem w_dictD (h : Rd H a (.dK kvs)) (q : ∀ p, H p = none → Q (.ref p) (upd H p (.dK kvs))) : rDictD [.ref a] H Q := ⟨a, kvs, rfl, h, q⟩
def rMO (C : Addr) (m : Str) (sp : Sp) (E : L2.St → XK) (t : TA) (σ : L2.St) (x : V) (H1 : Hp) (Q : VK) : Prop := ∃ a dx fs, x = .ref a ∧ H1 a = some (.ins C dx fs) ∧ fs.lookup m = none ∧ t σ H1 fun vs H2 => sp (x :: vs) H2 Q (E σ)
theorem w_mO {C : Addr} {m : Str} {sp : Sp} {E : L2.St → XK} {t : TA} (h : td σ H fun x H1 => rMO C m sp E t σ x H1 Q) : tMO C m sp E td t σ H Q := h
theorem w_mOG {C dx : Addr} {m : Str} {sp : Sp} {E : L2.St → XK} {t : TA} {fs : List (Str × V)} (h : H a = some (.ins C dx fs)) (l : fs.lookup m = none) (q : t σ H fun vs H2 => sp (.ref a :: vs) H2 Q (E σ)) : rMO C m sp E t σ (.ref a) H Q := ⟨a, dx, fs, rfl, h, l, q⟩
theorem w_gfld {K : PySem.W.Frag} {f : Str} {R : L2.St → Hp → Prop} (h : td σ H fun x H1 => rSetF K f x v H1 σ R) : gFld K f td v σ H R := h
theorem w_fldaug {K : PySem.W.Frag} {f : Str} {rd : V → V → Hp → VK → Prop} (h : td σ H fun x H1 => ∃ a C dx fs v, x = .ref a ∧ H1 a = some (.ins C dx fs) ∧ Cls K C ∧ NoAttr K C f ∧ fs.lookup f = some v ∧ tv σ H1 fun y H2 => rd v y H2 fun z H3 => ∃ dx' fs', H3 a = some (.ins C dx' fs') ∧ fs'.length < 1000 ∧ D.nx σ (upd H3 a (.ins C dx' (putF f z fs')))) : sFldAug K td tv rd f D σ H := h
end
theorem valV_kk {l : List (Nat × Val)} {n : Int} : (valV (kk l) (Sum.inl n)).isSome = hasN l n := by
  unfold hasN kk
  induction l with
  | nil => rfl
  | cons p l ih =>
    rw [List.map_cons, List.any_cons]
    unfold valV at ih ⊢
    rw [List.find?_cons]
    by_cases e : (p.1 : Int) = n
    · subst e
      simp
    · have e2 : decide ((Sum.inl (p.1 : Int) : Key) = Sum.inl n) = false := decide_eq_false fun q => e (Sum.inl.inj q)
      rw [e2, decide_eq_false e, Bool.false_or]
      exact ih
theorem PastP.dk {K : PySem.W.Frag} {H : Hp} {pq : List (Snap × Addr)} {items : List V} (h : PastP K H pq items) : ∀ b ∈ pq.map (·.2), ∃ kvs, H b = some (.dK kvs) := by
  unfold PastP at h
  induction h with
  | nil => intro b hb; cases hb
  | @cons q v l₁ l₂ f _ ih =>
    intro b hb
    rw [List.map_cons, List.mem_cons] at hb
    rcases hb with rfl | hb
    · obtain ⟨t, c, _, _, hs⟩ := f; exact ⟨_, hs.2⟩
    · exact ih b hb
/-- the state is noted -/
theorem noted {K : PySem.W.Frag} {H : Hp} {g dx c kd pl q t : Addr} {st : GSt} {pq : List (Snap × Addr)} {items : List V} (h1 : H g = some (.ins (He.ga K "Gate") dx (gFs c kd pl st.cur.num))) (h2 : SnapA K H c kd st.cur) (h3 : H pl = some (.lst items)) (h4 : PastP K H pq items) (h5 : st.past = pq.map (·.1)) (h7 : (kd :: pq.map (·.2)).Nodup)
    (hq : H q = none) (ht : (L2.upd H q (.dK (kk st.cur.kept))) t = none) :
    GNext K H g (g :: pl :: kd :: pq.map (·.2)) ⟨st.cur, st.past ++ [st.cur]⟩ (g :: pl :: kd :: (pq ++ [(st.cur, q)]).map (·.2)) (L2.upd (L2.upd (L2.upd H q (.dK (kk st.cur.kept))) t (.tup [.ref c, .ref q, .int (st.cur.num : Int)])) pl (.lst (items ++ [.ref t]))) := by
  have ntq : t ≠ q := fun e => by rw [e, upd_same] at ht; cases ht
  have ht0 : H t = none := by rw [upd_ne ntq] at ht; exact ht
  have s : Same H (L2.upd (L2.upd H q (.dK (kk st.cur.kept))) t (.tup [.ref c, .ref q, .int (st.cur.num : Int)])) := Same.trans (Same.new hq) (Same.new ht)
  have hq2 : (L2.upd (L2.upd H q (.dK (kk st.cur.kept))) t (.tup [.ref c, .ref q, .int (st.cur.num : Int)])) q = some (.dK (kk st.cur.kept)) := by rw [upd_ne (Ne.symm ntq)]; exact upd_same
  have ht2 : (L2.upd (L2.upd H q (.dK (kk st.cur.kept))) t (.tup [.ref c, .ref q, .int (st.cur.num : Int)])) t = some (.tup [.ref c, .ref q, .int (st.cur.num : Int)]) := upd_same
  generalize L2.upd (L2.upd H q (.dK (kk st.cur.kept))) t (.tup [.ref c, .ref q, .int (st.cur.num : Int)]) = H2 at s hq2 ht2 ⊢
  have hpl2 := s _ _ h3
  have m : Mv H2 pl := .inl ⟨_, hpl2⟩
  have x : SameX pl H2 (L2.upd H2 pl (.lst (items ++ [.ref t]))) := SameX.upd
  have ngp : g ≠ pl := fun e => by rw [e, h3] at h1; cases h1
  have nkp : kd ≠ pl := fun e => by have := h2.2; rw [e, h3] at this; cases this
  have nqp : q ≠ pl := fun e => by rw [e, h3] at hq; cases hq
  have ntp : t ≠ pl := fun e => by rw [e, h3] at ht0; cases ht0
  have npp : pl ∉ pq.map (·.2) := fun e => by obtain ⟨_, q⟩ := h4.dk _ e; rw [h3] at q; cases q
  refine ⟨⟨dx, c, kd, pl, pq ++ [(st.cur, q)], items ++ [.ref t], x _ _ ngp (s _ _ h1), (h2.same s).mv x m nkp, upd_same, Paired.app ((h4.same s).mv x m npp) (.cons ⟨t, c, rfl, x _ _ ntp ht2, (h2.1.same s).mv x m, x _ _ nqp hq2⟩ .nil), by rw [List.map_append, ← h5]; rfl, rfl, ?_⟩, fun b hb => ?_, fun b o hb ho => ?_, fun b hb => ?_⟩
  · rw [List.map_append, ← List.cons_append]
    refine List.nodup_append.mpr ⟨h7, by simp, fun a ha b hb e => ?_⟩
    rw [List.map_cons, List.map_nil, List.mem_singleton] at hb
    subst hb
    subst e
    rcases List.mem_cons.mp ha with e | e
    · have h := h2.2; rw [← e] at h; rw [show H (st.cur, a).2 = H a from rfl] at *; rw [hq] at h; cases h
    · obtain ⟨_, h⟩ := h4.dk _ e; rw [show H (st.cur, a).2 = H a from rfl] at *; rw [hq] at h; cases h
  · rw [List.map_append] at hb
    simp only [List.mem_cons, List.mem_append, List.map_cons, List.map_nil, List.not_mem_nil, or_false] at hb ⊢
    rcases hb with h | h | h | h | h
    · exact .inl (.inl h)
    · exact .inl (.inr (.inl h))
    · exact .inl (.inr (.inr (.inl h)))
    · exact .inl (.inr (.inr (.inr h)))
    · exact .inr (by rw [h]; exact hq)
  · refine x _ _ (fun e => hb (by rw [e]; simp)) (s _ _ ho)
  · by_cases e : b = pl
    · rw [e, upd_same]; exact fun z => by cases z
    · rw [upd_ne e]
      cases e2 : H b with
      | none => exact absurd e2 hb
      | some o => rw [s _ _ e2]; exact fun z => by cases z
theorem valV_vv {l : List (Nat × Val)} {n : Int} {x : V} (h : valV (kk l) (Sum.inl n) = some x) : ∃ v, x = vv v := by
  unfold valV kk at h
  cases e : (l.map fun p => ((Sum.inl (p.1 : Int) : Key), vv p.2)).find? fun kv => decide (kv.1 = Sum.inl n) with
  | none => rw [e] at h; cases h
  | some q =>
    rw [e] at h
    have hm := List.mem_of_find?_eq_some e
    obtain ⟨p, _, rfl⟩ := List.mem_map.mp hm
    exact ⟨p.2, (Option.some.inj h).symm⟩
theorem valV_at {l : List (Nat × Val)} (nd : (l.map (·.1)).Nodup) : ∀ {i : Nat} {p : Nat × Val}, l[i]? = some p → valV (kk l) (Sum.inl (p.1 : Int)) = some (vv p.2) := by
  induction l with
  | nil => intro i p h; cases h
  | cons q l ih =>
    intro i p h
    rw [List.map_cons, List.nodup_cons] at nd
    unfold valV kk at ih ⊢
    rw [List.map_cons, List.find?_cons]
    cases i with
    | zero =>
      have e : q = p := by simpa using h
      subst e
      simp
    | succ i =>
      have h' : l[i]? = some p := by simpa using h
      have hne : q.1 ≠ p.1 := fun e => nd.1 (e ▸ List.mem_map.mpr ⟨p, List.mem_of_getElem? h', rfl⟩)
      rw [decide_eq_false (fun e => hne (by have := Sum.inl.inj e; omega))]
      exact ih nd.2 h'
theorem put_new {l : List (Nat × Val)} {n : Nat} {v : Val} (h : n ∉ l.map (·.1)) : putK (kk l) (Sum.inl (n : Int)) (vv v) = kk (l ++ [(n, v)]) := by
  unfold putK kk
  rw [if_neg]
  · rw [List.map_append]; rfl
  · rw [Bool.not_eq_true, List.any_eq_false]
    intro q hq
    obtain ⟨p, hp, rfl⟩ := List.mem_map.mp hq
    rw [decide_eq_true_iff]
    intro e
    exact h (List.mem_map.mpr ⟨p, hp, by have := Sum.inl.inj e; omega⟩)
theorem Paired.snoc_inv {α β : Type} {F : α → β → Prop} : ∀ {l₁ : List α} {a : α} {l₂ : List β}, Paired F (l₁ ++ [a]) l₂ → ∃ l b, l₂ = l ++ [b] ∧ Paired F l₁ l ∧ F a b
  | [], a, _, .cons f .nil => ⟨[], _, rfl, .nil, f⟩
  | x :: l₁, a, _, .cons f t => by
    obtain ⟨l, b, rfl, h, fb⟩ := Paired.snoc_inv (l₁ := l₁) t
    exact ⟨_ :: l, b, rfl, .cons f h, fb⟩
def rDc (H1 : Hp) (J : It) (g : TG) (tt : TT) (tk tv : TE) (vs : List Nat) (σ : L2.St) (Q : VK) : Prop := ∀ D, H1 D = none → ∃ W : Nat → Nat → Hp → Prop, (∃ m, W 0 m (upd H1 D (.dK []))) ∧ ∀ i m H, W i m H →
  (J.stop i H ∧ Q (.ref D) H) ∨ (J.go i H ∧ ∃ Nx : Hp → Prop, (∀ H', Nx H' → ∃ m', m' < m ∧ W (i + 1) m' H') ∧ ∀ x H', J.yld i H x H' → g x (wipe σ vs) H' fun σ2 H2 => wipe σ2 vs = wipe σ vs ∧ tt σ2 H2 fun b H3 =>
    if b = true then tk σ2 H3 fun y H4 => tv σ2 H4 fun z H5 => ∃ kvs k, y = kV k ∧ H5 D = some (.dK kvs) ∧ kvs.length < sizeLine ∧ Nx (upd H5 D (.dK (putK kvs k z))) else Nx H3)
theorem w_dc {wi : TI} {g : TG} {tt : TT} {tk tv : TE} {vs : List Nat} {σ : L2.St} {H : Hp} {Q : VK} (h : wi σ H fun J H1 => rDc H1 J g tt tk tv vs σ Q) : tDc wi g tt tk tv vs σ H Q := h
theorem w_dcW {J : It} {n : Nat} {G : Hp → Prop} {Y : Nat → Hp → V → Hp → Prop} (w : Walk J n G Y) {g : TG} {tt : TT} {tk tv : TE} {vs : List Nat} {σ : L2.St} {H1 : Hp} {Q : VK} (acc : Nat → List (Key × V)) (h0 : acc 0 = []) (hG : ∀ H, Same H1 H → G H)
    (hs : ∀ D i x H H', H1 D = none → i < n → Same H1 H → H D = some (.dK (acc i)) → Y i H x H' → g x (wipe σ vs) H' fun σ2 H2 => wipe σ2 vs = wipe σ vs ∧ tt σ2 H2 fun b H3 =>
      if b = true then tk σ2 H3 fun y H4 => tv σ2 H4 fun z H5 => ∃ kvs k, y = kV k ∧ H5 D = some (.dK kvs) ∧ kvs.length < sizeLine ∧ (Same H1 (upd H5 D (.dK (putK kvs k z))) ∧ (upd H5 D (.dK (putK kvs k z))) D = some (.dK (acc (i + 1)))) else Same H1 H3 ∧ H3 D = some (.dK (acc (i + 1))))
    (hd : ∀ D H', H1 D = none → Same H1 H' → H' D = some (.dK (acc n)) → Q (.ref D) H') : rDc H1 J g tt tk tv vs σ Q := by
  intro D hD
  refine ⟨fun i m H => m = n - i ∧ i ≤ n ∧ Same H1 H ∧ H D = some (.dK (acc i)), ⟨n, by simp, Nat.zero_le _, Same.new hD, by rw [h0]; exact upd_same⟩, ?_⟩
  rintro i m H ⟨rfl, hi, s, hl⟩
  by_cases hlt : i < n
  · refine .inr ⟨w.goes i H hlt (hG H s), fun H' => Same H1 H' ∧ H' D = some (.dK (acc (i + 1))), fun H' p => ⟨n - (i + 1), by omega, rfl, hlt, p.1, p.2⟩, fun x H' y => hs D i x H H' hD hlt s hl (w.yields i H x H' hlt (hG H s) y)⟩
  · have e : i = n := by omega
    subst e
    exact .inl ⟨w.stops H (hG H s), hd D H hD s hl⟩
def rKeys (x : V) (H1 : Hp) (R : It → Hp → Prop) : Prop := ∃ d o, x = .ref d ∧ ((∃ kvs, H1 d = some (.frz o (.dK kvs)) ∧ R (Itk d o kvs) H1) ∨ ∃ kvs, H1 d = some (.frz o (.dT kvs)) ∧ R (Itkt d o kvs) H1)
theorem w_iKeys {td : TE} {σ : L2.St} {H : Hp} {R : It → Hp → Prop} (h : td σ H fun x H1 => rKeys x H1 R) : iKeys td σ H R := h
theorem w_iKeyG {d : Addr} {o : Obj} {kvs : List (Key × V)} {H : Hp} {R : It → Hp → Prop} (h : H d = some (.frz o (.dK kvs))) (q : R (Itk d o kvs) H) : rKeys (.ref d) H R := ⟨d, o, rfl, .inl ⟨kvs, h, q⟩⟩
theorem mut_dK {kvs : List (Key × V)} : Mut (some (.dK kvs)) := trivial
theorem frz_ne {H : Hp} {d : Addr} {kvs : List (Key × V)} (h : H d = some (.dK kvs)) {o : HO} : SameX d H (L2.upd H d o) := SameX.upd
theorem w_putD {H1 H H4 : Hp} {D : Addr} {acc : Nat → List (Key × V)} {i : Nat} {y z : V} {k : Key} (hD : H1 D = none) (s : Same H1 H) (hl : H D = some (.dK (acc i))) (s4 : Same H H4) (hb : (acc i).length < sizeLine) (ey : y = kV k) (e : putK (acc i) k z = acc (i + 1)) :
    ∃ kvs k, y = kV k ∧ H4 D = some (.dK kvs) ∧ kvs.length < sizeLine ∧ (Same H1 (L2.upd H4 D (.dK (putK kvs k z))) ∧ (L2.upd H4 D (.dK (putK kvs k z))) D = some (.dK (acc (i + 1)))) :=
  ⟨acc i, k, ey, s4 _ _ hl, hb, fun b o h => by rw [upd_ne (ne_of_none h hD)]; exact s4 _ _ (s _ _ h), by rw [e]; exact upd_same⟩
theorem unlock {H1 H' : Hp} {d : Addr} {u o : HO} (hk : H1 d = some u) (s : Same (L2.upd H1 d o) H') : Same H1 (L2.upd H' d u) := fun b x h => by
  by_cases e : b = d
  · subst e; rw [hk] at h; rw [← Option.some.inj h]; exact upd_same
  · rw [upd_ne e]; exact s _ _ (by rw [upd_ne e]; exact h)
/-- the gate's fields are set anew -/
theorem setG2 {K : PySem.W.Frag} {H H2 : Hp} {g dx c2 kd2 pl : Addr} {fs : List (Str × V)} {fp : List Addr} {past : List Snap} {pq : List (Snap × Addr)} {items : List V} {sn : Snap} (h1 : H g = some (.ins (He.ga K "Gate") dx fs)) (hfs : 1 < fs.length) (h3 : H pl = some (.lst items)) (h4 : PastP K H pq items) (h5 : past = pq.map (·.1)) (h7 : (kd2 :: pq.map (·.2)).Nodup)
    (i1 : g ∈ fp) (i2 : pl ∈ fp) (i3 : ∀ b ∈ pq.map (·.2), b ∈ fp) (i4 : kd2 ∈ fp ∨ H kd2 = none) (s : Same H H2) (hc : ChainS K H2 c2 sn.ss) (hk : H2 kd2 = some (.dK (kk sn.kept))) :
    GNext K H g fp ⟨sn, past⟩ (g :: pl :: kd2 :: pq.map (·.2)) (L2.upd H2 g (.ins (He.ga K "Gate") dx (gFs c2 kd2 pl sn.num))) := by
  have hg2 := s _ _ h1
  have m : Mv H2 g := .inr (.inr (.inr ⟨_, _, _, hg2, hfs⟩))
  have x : SameX g H2 (L2.upd H2 g (.ins (He.ga K "Gate") dx (gFs c2 kd2 pl sn.num))) := SameX.upd
  have npg : pl ≠ g := fun e => by rw [e, h1] at h3; cases h3
  have nkg : kd2 ≠ g := fun e => by rw [e, hg2] at hk; cases hk
  have ngq : g ∉ pq.map (·.2) := fun e => by obtain ⟨_, q⟩ := h4.dk _ e; rw [h1] at q; cases q
  refine ⟨⟨dx, c2, kd2, pl, pq, items, upd_same, ⟨hc.mv x m, x _ _ nkg hk⟩, x _ _ npg (s _ _ h3), (h4.same s).mv x m ngq, h5, rfl, h7⟩, fun b hb => ?_, fun b o hb ho => ?_, fun b hb => ?_⟩
  · simp only [List.mem_cons] at hb
    rcases hb with h | h | h | h
    · exact .inl (h ▸ i1)
    · exact .inl (h ▸ i2)
    · rw [h]; exact i4
    · exact .inl (i3 b h)
  · exact x _ _ (fun e => hb (by rw [e]; exact i1)) (s _ _ ho)
  · by_cases e : b = g
    · rw [e, upd_same]; exact fun z => by cases z
    · rw [upd_ne e]
      cases e2 : H b with
      | none => exact absurd e2 hb
      | some o => rw [s _ _ e2]; exact fun z => by cases z
theorem setG {K : PySem.W.Frag} {H H2 : Hp} {g dx c kd pl c2 kd2 : Addr} {st : GSt} {pq : List (Snap × Addr)} {items : List V} {sn : Snap} (h1 : H g = some (.ins (He.ga K "Gate") dx (gFs c kd pl st.cur.num))) (h3 : H pl = some (.lst items)) (h4 : PastP K H pq items) (h5 : st.past = pq.map (·.1)) (h7 : (kd :: pq.map (·.2)).Nodup)
    (s : Same H H2) (hc : ChainS K H2 c2 sn.ss) (hk : H2 kd2 = some (.dK (kk sn.kept))) (hn : kd2 = kd ∨ H kd2 = none) :
    GNext K H g (g :: pl :: kd :: pq.map (·.2)) ⟨sn, st.past⟩ (g :: pl :: kd2 :: pq.map (·.2)) (L2.upd H2 g (.ins (He.ga K "Gate") dx (gFs c2 kd2 pl sn.num))) := by
  have nkq : kd2 ∉ pq.map (·.2) := fun e => by
    rcases hn with rfl | hn
    · exact (List.nodup_cons.mp h7).1 e
    · obtain ⟨_, q⟩ := h4.dk _ e; rw [hn] at q; cases q
  exact setG2 h1 (by simp) h3 h4 h5 (List.nodup_cons.mpr ⟨nkq, (List.nodup_cons.mp h7).2⟩) (by simp) (by simp) (fun b hb => by simp only [List.mem_cons]; exact .inr (.inr (.inr hb))) (by
    rcases hn with e | e
    · exact .inl (by rw [e]; simp)
    · exact .inr e) s hc hk
theorem upd_twice {H : Hp} {a : Addr} {o u : HO} : L2.upd (L2.upd H a o) a u = L2.upd H a u := by
  funext b
  by_cases e : b = a
  · rw [e, upd_same, upd_same]
  · rw [upd_ne e, upd_ne e, upd_ne e]
theorem w_bm0 {K : PySem.W.Frag} {T : String} {r : V → List V → Hp → VK → Prop} {to : TE} {σ : L2.St} {H : Hp} {Q : VK} (h : to σ H fun x H1 => tyV K T x H1 ∧ r x [] H1 Q) : tBM0 K T r to σ H Q := h
theorem w_popL {H : Hp} {Q : VK} {l : Addr} {xs : List V} {y : V} (h : H l = some (.lst (xs ++ [y]))) (q : Q y (L2.upd H l (.lst xs))) : L2.rPop (.ref l) [] H Q := ⟨l, xs ++ [y], y, rfl, rfl, h, by simp, by rw [List.dropLast_concat]; exact q⟩
theorem kk_at {l : List (Nat × Val)} {i : Nat} {k : Key} {v : V} (h : (kk l)[i]? = some (k, v)) : ∃ p, l[i]? = some p ∧ k = Sum.inl (p.1 : Int) ∧ v = vv p.2 := by
  unfold kk at h
  rw [List.getElem?_map] at h
  cases e : l[i]? with
  | none => rw [e] at h; cases h
  | some p => rw [e] at h; cases h; exact ⟨p, rfl, rfl, rfl⟩
theorem kk_len (l : List (Nat × Val)) : (kk l).length = l.length := List.length_map ..
theorem take_new {l : List (Nat × Val)} (nd : (l.map (·.1)).Nodup) {i : Nat} {p : Nat × Val} (h : l[i]? = some p) : p.1 ∉ (l.take i).map (·.1) := by
  induction l generalizing i with
  | nil => cases h
  | cons q l ih =>
    rw [List.map_cons, List.nodup_cons] at nd
    cases i with
    | zero => simp
    | succ i =>
      have h' : l[i]? = some p := by simpa using h
      rw [List.take_succ_cons, List.map_cons, List.mem_cons, not_or]
      exact ⟨fun e => nd.1 (e ▸ List.mem_map.mpr ⟨p, List.mem_of_getElem? h', rfl⟩), ih nd.2 h'⟩
theorem nodup_lt : ∀ (n : Nat) (l : List Nat), l.Nodup → (∀ x ∈ l, x < n) → l.length ≤ n
  | 0, l, _, h => by
    cases l with
    | nil => exact Nat.le_refl _
    | cons a r => exact absurd (h a (by simp)) (Nat.not_lt_zero _)
  | n + 1, l, nd, h => by
    by_cases hm : n ∈ l
    · have h1 := nodup_lt n (l.erase n) (nd.erase n) fun x hx => by
        have h2 := (List.Nodup.mem_erase_iff nd).mp hx
        have := h x h2.2
        have := h2.1
        omega
      rw [List.length_erase_of_mem hm] at h1
      omega
    · have h1 := nodup_lt n l nd fun x hx => by
        have := h x hx
        have : x ≠ n := fun e => hm (e ▸ hx)
        omega
      omega
theorem snap_len {sn : Snap} (h : SnapOk sn) : sn.kept.length ≤ 900 := by
  have h1 : (sn.kept.map (·.1)).length ≤ sn.num := by
    exact nodup_lt _ _ h.nd fun x hx => by
      obtain ⟨p, hp, rfl⟩ := List.mem_map.mp hx
      exact h.lt p hp
  rw [List.length_map] at h1
  have := h.num
  omega
theorem GateS.notTup {K : PySem.W.Frag} {H : Hp} {g p : Addr} {fp : List Addr} {st : GSt} {xs : List V} (h : GateS K H g fp st) (hp : H p = some (.tup xs)) : p ∉ fp := by
  obtain ⟨dx, c, kd, pl, pq, items, h1, h2, h3, h4, h5, h6, h7⟩ := h
  rw [h6]
  simp only [List.mem_cons, not_or]
  refine ⟨fun e => ?_, fun e => ?_, fun e => ?_, fun e => ?_⟩
  · rw [e, h1] at hp; cases hp
  · rw [e, h3] at hp; cases hp
  · have := h2.2; rw [← e, hp] at this; cases this
  · obtain ⟨_, q⟩ := h4.dk _ e; rw [hp] at q; cases q
/-- a value is put in -/
theorem putKd {K : PySem.W.Frag} {H : Hp} {g dx c kd pl : Addr} {st : GSt} {pq : List (Snap × Addr)} {items : List V} {kept : List (Nat × Val)} (h1 : H g = some (.ins (He.ga K "Gate") dx (gFs c kd pl st.cur.num))) (h2 : SnapA K H c kd st.cur) (h3 : H pl = some (.lst items)) (h4 : PastP K H pq items) (h5 : st.past = pq.map (·.1)) (h7 : (kd :: pq.map (·.2)).Nodup) :
    GNext K H g (g :: pl :: kd :: pq.map (·.2)) ⟨⟨st.cur.ss, kept, st.cur.num⟩, st.past⟩ (g :: pl :: kd :: pq.map (·.2)) (L2.upd H kd (.dK (kk kept))) := by
  have m : Mv H kd := .inr (.inl ⟨_, h2.2⟩)
  have x : SameX kd H (L2.upd H kd (.dK (kk kept))) := SameX.upd
  have ngk : g ≠ kd := fun e => by have := h2.2; rw [← e, h1] at this; cases this
  have npk : pl ≠ kd := fun e => by have := h2.2; rw [← e, h3] at this; cases this
  refine ⟨⟨dx, c, kd, pl, pq, items, x _ _ ngk h1, ⟨h2.1.mv x m, upd_same⟩, x _ _ npk h3, h4.mv x m (List.nodup_cons.mp h7).1, h5, rfl, h7⟩, fun b hb => .inl hb, fun b o hb ho => x _ _ (fun e => hb (by rw [e]; simp)) ho, fun b hb => ?_⟩
  by_cases e : b = kd
  · rw [e, upd_same]; exact fun z => by cases z
  · rw [upd_ne e]; exact hb
/-- all but lists and dicts stays -/
def NLD (H H' : Hp) : Prop := ∀ b o, H b = some o → (∀ xs, o ≠ .lst xs) → (∀ kvs, o ≠ .dK kvs) → H' b = some o
theorem SqT.nld {K : PySem.W.Frag} {H H' : Hp} {t : Addr} {xs : List V} (h : SqT K H t xs) (s : NLD H H') : SqT K H' t xs := by
  rcases h with (h | ⟨o, h⟩) | h
  · exact .inl (.inl (s _ _ h (fun _ e => by cases e) fun _ e => by cases e))
  · exact .inl (.inr ⟨o, s _ _ h (fun _ e => by cases e) fun _ e => by cases e⟩)
  · exact .inr h
theorem ChainS.nld {K : PySem.W.Frag} {H H' : Hp} {c : Addr} {ss : List Stp} (h : ChainS K H c ss) (s : NLD H H') : ChainS K H' c ss := by
  obtain ⟨dx, t, h1, items, h2, h3⟩ := h
  exact ⟨dx, t, s _ _ h1 (fun _ e => by cases e) (fun _ e => by cases e), items, SqT.nld h2 s, L2.Paired.mapP h3 fun _ _ ⟨u, e, hu⟩ => ⟨u, e, SqT.nld hu s⟩⟩
theorem renK_take {ss : List Stp} {l : List (Nat × Val)} {i : Nat} {p : Nat × Val} (h : l[i]? = some p) : renK ss (l.take (i + 1)) = renK ss (l.take i) ++ ((TW.run ss p.2).map fun v => (p.1, v)).toList := by
  unfold renK
  rw [List.take_succ, h, List.filterMap_append]
  show _ ++ List.filterMap _ [p] = _
  cases e : TW.run ss p.2 with
  | none => simp [e]
  | some v => simp [e]
theorem renK_keys {ss : List Stp} {l : List (Nat × Val)} {n : Nat} (h : n ∈ (renK ss l).map (·.1)) : n ∈ l.map (·.1) := by
  obtain ⟨q, hq, rfl⟩ := List.mem_map.mp h
  obtain ⟨p, hp, e⟩ := List.mem_filterMap.mp hq
  cases hr : TW.run ss p.2 with
  | none => rw [hr] at e; cases e
  | some v =>
    rw [hr] at e
    have e' : (p.1, v) = q := Option.some.inj e
    rw [← e']
    exact List.mem_map.mpr ⟨p, hp, rfl⟩
theorem renK_len (ss : List Stp) (l : List (Nat × Val)) : (renK ss l).length ≤ l.length := List.length_filterMap_le _ _
theorem renC_take {ss : List Stp} {l : List (Nat × Val)} {i : Nat} {p : Nat × Val} (h : l[i]? = some p) : renC ss (l.take (i + 1)) = renC ss (l.take i) ++ (if TW.run ss p.2 ≠ some p.2 then [p] else []) := by
  unfold renC
  rw [filt_take h]
  congr 1
  by_cases e : TW.run ss p.2 ≠ some p.2
  · rw [if_pos (by simpa using e), if_pos e]
  · rw [if_neg (by simpa using e), if_neg e]
theorem renC_len (ss : List Stp) (l : List (Nat × Val)) : (renC ss l).length ≤ l.length := List.length_filter_le _ _
theorem w_trO {K : PySem.W.Frag} {H : Hp} {Q : Bool → Hp → Prop} {l : Addr} {o : Option Val} (h : SqL K H l (optL o)) (q : Q o.isSome H) : rTru K (.ref l) H Q := by
  cases o with
  | none => exact w_trLn h q
  | some v => exact w_trLc h q
theorem GateS.kinds {K : PySem.W.Frag} {H : Hp} {g b : Addr} {fp : List Addr} {st : GSt} {o : HO} (h : GateS K H g fp st) (hb : H b = some o) (m : b ∈ fp) : (∃ xs, o = .lst xs) ∨ (∃ kvs, o = .dK kvs) ∨ ∃ C dx fs, o = .ins C dx fs ∧ 1 < fs.length := by
  obtain ⟨dx, c, kd, pl, pq, items, h1, h2, h3, h4, h5, h6, h7⟩ := h
  rw [h6] at m
  simp only [List.mem_cons] at m
  rcases m with e | e | e | e
  · rw [e, h1] at hb; exact .inr (.inr ⟨_, _, _, (Option.some.inj hb).symm, by simp⟩)
  · rw [e, h3] at hb; exact .inl ⟨_, (Option.some.inj hb).symm⟩
  · rw [e, h2.2] at hb; exact .inr (.inl ⟨_, (Option.some.inj hb).symm⟩)
  · obtain ⟨kvs, q⟩ := h4.dk _ e; rw [q] at hb; exact .inr (.inl ⟨_, (Option.some.inj hb).symm⟩)
theorem GNext.sq {K : PySem.W.Frag} {H H' : Hp} {g t : Addr} {fp fp' : List Addr} {st st' : GSt} {xs : List V} (n : GNext K H g fp st' fp' H') (a : GateS K H g fp st) (h : SqT K H t xs) : SqT K H' t xs := by
  rcases h with (h | ⟨o, h⟩) | h
  · refine .inl (.inl (n.keep _ _ (fun m => ?_) h))
    rcases a.kinds h m with ⟨_, e⟩ | ⟨_, e⟩ | ⟨_, _, _, e, _⟩ <;> cases e
  · refine .inl (.inr ⟨o, n.keep _ _ (fun m => ?_) h⟩)
    rcases a.kinds h m with ⟨_, e⟩ | ⟨_, e⟩ | ⟨_, _, _, e, _⟩ <;> cases e
  · exact .inr h
theorem GNext.chain {K : PySem.W.Frag} {H H' : Hp} {g c : Addr} {fp fp' : List Addr} {st st' : GSt} {ss : List Stp} (n : GNext K H g fp st' fp' H') (a : GateS K H g fp st) (h : ChainS K H c ss) : ChainS K H' c ss := by
  obtain ⟨dx, t, h1, items, h2, h3⟩ := h
  refine ⟨dx, t, n.keep _ _ (fun m => ?_) h1, items, n.sq a h2, L2.Paired.mapP h3 fun _ _ ⟨u, e, hu⟩ => ⟨u, e, n.sq a hu⟩⟩
  rcases a.kinds h1 m with ⟨_, e⟩ | ⟨_, e⟩ | ⟨_, _, _, e, l⟩
  · cases e
  · cases e
  · cases e; simp at l
end TB

set_option maxHeartbeats 4000000
/-! properties -/
namespace TB
open PySem PySem.Spec PyProof.Rows L2 TW LamX NdefX
def argB : Arguments → Bool
  | ⟨[], [a], none, [], [], none, []⟩ => decide (a.arg = "self")
  | _ => false
def bodyB (fld : Str) : FuncBody → Bool
  | .stmts [.Return (some (.Attribute (.Name x _) y _)) _] => decide (x = "self") && decide (y = fld)
  | _ => false
theorem argB_ok {p : Arguments} (h : argB p = true) : ∃ an q, p = ⟨[], [⟨"self", an, q⟩], none, [], [], none, []⟩ := by
  unfold argB at h
  split at h
  · rename_i a
    obtain ⟨x, an, q⟩ := a
    have e : x = "self" := of_decide_eq_true h
    subst e
    exact ⟨an, q, rfl⟩
  · cases h
theorem bodyB_ok {fld : Str} {b : FuncBody} (h : bodyB fld b = true) : ∃ p1 p2 p3, b = .stmts [.Return (some (.Attribute (.Name "self" p1) fld p2)) p3] := by
  unfold bodyB at h
  split at h
  · rename_i x p1 y p2 p3
    obtain ⟨e1, e2⟩ := ba h
    have e1 := of_decide_eq_true e1
    have e2 := of_decide_eq_true e2
    subst e1
    subst e2
    exact ⟨p1, p2, p3, rfl⟩
  · cases h
def gfB (K : PySem.W.Frag) (f fld qual : Str) (sc : Scope) (fd : FuncData) : Bool :=
  decide (fd.name = f) && (decide (fd.qualname = qual) && (argB fd.params && (bodyB fld fd.body && (decide (fd.scope = sc) && (decide (fd.globals = mainGlobals) && (decide (fd.closure = []) && (decide (fd.builtins = builtinsNs) && (PySem.W.codeIn K fd.code qual && He.dflB K fd.defaults []))))))))
def getB (K : PySem.W.Frag) (C : Addr) (f fld qual : Str) (sc : Scope) : Bool := match PySem.W.findIn K (.ref C) f with
  | some (some (.ref p)) => decide (PySem.W.specialIn K (.ref p) "__get__" = some (some (.builtin "property.__get__"))) && (decide (PySem.W.takesIn K (.ref p) = some true) && (match PySem.W.recIn K p "property" with
    | some (.ref g :: _) => PySem.W.keepIn K (.ref g) && (match K.lookup g with
      | some ⟨_, _, .func fd, _⟩ => gfB K f fld qual sc fd
      | _ => false)
    | _ => false))
  | _ => false
theorem get_ok {P : Program} {w : World} {K : PySem.W.Frag} {mg : Str → Option Value} {base : Heap} {C : Addr} {f fld qual : Str} {sc : Scope} (h : getB K C f fld qual sc = true) (S : FnScope ["self"] ["self"] sc) (c : Cls K C) (n : NoAttr K C fld) :
    ∃ p g fd, PropOf K C f p g ∧ FnOk P w K mg base (L2.CX P w) 1 g fd ["self"] (getSp C fld) ∧ Binds K fd ["self"] [] := by
  unfold getB at h
  split at h
  · rename_i p hp
    obtain ⟨a1, h⟩ := ba h
    obtain ⟨a2, h⟩ := ba h
    split at h
    · rename_i g rest hr
      obtain ⟨a3, h⟩ := ba h
      split at h
      · rename_i oc od fd osl hl
        obtain ⟨n1, n2, n3, n4, n5, n6, n7, n8, n9, n10, n11, n12, n13, n14, n15⟩ := fd
        unfold gfB at h
        obtain ⟨b1, h⟩ := ba h
        obtain ⟨b2, h⟩ := ba h
        obtain ⟨b3, h⟩ := ba h
        obtain ⟨b4, h⟩ := ba h
        obtain ⟨b5, h⟩ := ba h
        obtain ⟨b6, h⟩ := ba h
        obtain ⟨b7, h⟩ := ba h
        obtain ⟨b8, h⟩ := ba h
        obtain ⟨b9, b10⟩ := ba h
        have b1 := of_decide_eq_true b1
        have b2 := of_decide_eq_true b2
        have b5 := of_decide_eq_true b5
        have b6 := of_decide_eq_true b6
        have b7 := of_decide_eq_true b7
        have b8 := of_decide_eq_true b8
        dsimp only at b1 b2 b3 b4 b5 b6 b7 b8 b9 b10
        subst b1
        subst b2
        subst b5
        rw [b6, b7, b8] at hl
        have b10 : n8 = .none := by cases n8 <;> first | rfl | cases b10
        rw [b10] at hl
        obtain ⟨an, q, rfl⟩ := argB_ok b3
        obtain ⟨p1, p2, p3, rfl⟩ := bodyB_ok b4
        exact ⟨p, g, _, ⟨hp, of_decide_eq_true a1, of_decide_eq_true a2, ⟨rest, hr⟩⟩, fn_getter hl b9 S rfl rfl c n, .all fun us hu => match us, hu with | [_], _ => rfl⟩
      · cases h
    · cases h
  · cases h
end TB
namespace TB
open PySem PySem.Spec PyProof.Rows L2 TW LamX NdefX
structure GetAt (K : PySem.W.Frag) (C : Addr) (f fld qual : Str) (sc : Scope) : Prop where
  h : getB K C f fld qual sc = true
def getB_ok {K : PySem.W.Frag} {C : Addr} {f fld qual : Str} {sc : Scope} (h : getB K C f fld qual sc = true) : GetAt K C f fld qual sc := ⟨h⟩
theorem pe_get {X : Cx} {j : Nat} {C : Addr} {f fld qual : Str} {sc : Scope} {e : Expr} {pos : Pos} {ta : TE} (G : GetAt X.K C f fld qual sc) (S : FnScope ["self"] ["self"] sc) (c : Cls X.K C) (n : NoAttr X.K C fld) (hr : Room j X.A) (hj : 2 ≤ j) (he : PE X e ta)
    (hab : attributeBase e f X.env (eval e X.env) = eval e X.env := by rfl) : PE X (.Attribute e f pos) (tProp C (getSp C fld) [] E0 ta) := by
  obtain ⟨p, g, fd, hp, F, hb⟩ := get_ok (P := X.prog) (w := X.w) (mg := X.mg) (base := X.base) G.h S c n
  exact pe_prop he c hp F (hr.mono hj) hb .nil passL hab
def rPr (C : Addr) (fld : Str) (x : V) (H1 : Hp) (Q : VK) : Prop := ∃ a dx fs, x = .ref a ∧ H1 a = some (.ins C dx fs) ∧ getSp C fld (.ref a :: []) H1 Q E0
theorem w_pr {C : Addr} {fld : Str} {ta : TE} {σ : L2.St} {H : Hp} {Q : VK} (h : ta σ H fun x H1 => rPr C fld x H1 Q) : tProp C (getSp C fld) [] E0 ta σ H Q := h
theorem w_prG {C : Addr} {fld : Str} {a dx : Addr} {fs : List (Str × V)} {v : V} {H : Hp} {Q : VK} (h : H a = some (.ins C dx fs)) (l : fs.lookup fld = some v) (q : Q v H) : rPr C fld (.ref a) H Q := ⟨a, dx, fs, rfl, h, a, dx, fs, v, rfl, h, l, q⟩
end TB

set_option maxHeartbeats 4000000
/-! the law of gates: rules -/
namespace TB
open PySem PySem.Spec PyProof.Rows L2 TW LamX NdefX
section
variable {X : Cx} {pins : List (Addr × Obj)} {σ : L2.St} {H : Hp} {s : Shared} {f : Addr} {n : Nat} {sp : Sp} {E : XK} {fd : FuncData} {ps : List Str}
/-- run_fnA at the slots -/
theorem run_fnAt2 {A : Around} {Q : VK} {us : List Value} {ws : List V} (F : FnOk X.prog X.w X.K X.mg X.base (L2.CX X.prog X.w) n f fd ps sp) (hb : Binds X.K fd ps []) (hr : Room n A) (e0 : Env0 X.prog X.w X.K X.mg X.base A X.stack s H) (hx : PassesAt (L2.CX X.prog X.w) X σ E) (I : Inv X pins σ H s) (r : Vals ws us) (h : sp ws H Q E) :
    codeAny (model X.prog X.w) A (.call (.ref f) ⟨us, []⟩) (fun r s' => match r with | .ok (.ret v) => EP X pins σ Q v s' | .ok _ => False | .error e => X.xe e s') s := by
  have hl : us.length = ps.length := by rw [← r.length]; exact F.len _ _ _ _ h
  have b := hb s us I.kIn (by rw [List.append_nil]; exact hl)
  rw [List.append_nil] at b
  refine codeAny_mono (F.run A X.stack s H ⟨us, []⟩ us ws Q E hr e0 b r h) fun r s' hq => ?_
  cases r with
  | error e => exact hx pins H s e s' I hq
  | ok fl =>
    cases fl with
    | ret u => exact I.after hq
    | next => exact False.elim hq
    | brk => exact False.elim hq
    | cont => exact False.elim hq
end
def rGi (C : Addr) (sp : Sp) (E : XK) (x y : V) (H : Hp) (Q : VK) : Prop := ∃ a dx fs, x = .ref a ∧ H a = some (.ins C dx fs) ∧ sp [x, y] H Q E
def tGi (C : Addr) (sp : Sp) (E : L2.St → XK) (te tb : TE) : TE := fun σ H Q => te σ H fun x H1 => tb σ H1 fun y H2 => rGi C sp (E σ) x y H2 Q
theorem w_gi {C : Addr} {sp : Sp} {E : L2.St → XK} {te tb : TE} {σ : L2.St} {H : Hp} {Q : VK} (h : te σ H fun x H1 => tb σ H1 fun y H2 => rGi C sp (E σ) x y H2 Q) : tGi C sp E te tb σ H Q := h
theorem w_giG {C a dx : Addr} {sp : Sp} {E : XK} {fs : List (Str × V)} {y : V} {H : Hp} {Q : VK} (h : H a = some (.ins C dx fs)) (q : sp [.ref a, y] H Q E) : rGi C sp E (.ref a) y H Q := ⟨a, dx, fs, rfl, h, q⟩
/-- x[i] of an instance; what it raises is wished for at the slots -/
theorem pe_gi {X : Cx} {n k : Nat} {C : Addr} {sp : Sp} {ps : List Str} {e b : Expr} {te tb : TE} {pos : Pos} {E : L2.St → XK} (o : Op X.prog X.w X.K X.mg X.base k C "__getitem__" ps sp) (hfn : ∀ f, PySem.W.findIn X.K (.ref C) "__getitem__" = some (some (.ref f)) → PySem.W.fnIn X.K f = true) (hr : Room n X.A) (hk : k + 1 ≤ n) (hx : ∀ σ, PassesAt (L2.CX X.prog X.w) X σ (E σ)) (he : PE X e te) (hb : PE X b tb)
    (hsl : ∀ x i, subscripted b true (.ref x) i = runValue (.builtin "lifetime.subscript" ⟨[.ref x, i], []⟩) := by intro _ _; with_unfolding_all rfl) :
    PE X (.Subscript e b pos) (tGi C sp E te tb) := by
  obtain ⟨f, fd, F, hs, hf, kp, hb'⟩ := o.ex
  refine ⟨fun pins s σ H Q I h => ?_⟩
  refine Subscript_ (binT he hb I h fun v u s2 x y H2 I2 rx ry q => ?_)
  obtain ⟨a, dx, fs, rfl, ha, q⟩ := q
  cases (show v = Value.ref a from rx)
  obtain ⟨mA, O, _⟩ := ins_get I2.hok ha
  obtain ⟨od, J, _⟩ := O.look
  obtain ⟨m, hF⟩ := I2.fr
  refine PySem.W.sub_K hF I2.ok.mod.kin J hs (hfn f hs) hf ?_ (hsl _ _)
  exact wpAny_call (run_fnAt2 (us := [.ref a, u]) (ws := [.ref a, y]) F hb' (hr.mono hk).in1 I2.env0.in1 (hx σ) I2 (.cons rfl (.cons ry .nil)) q)
theorem fn_of {K : PySem.W.Frag} {C g : Addr} {m : Str} (M : Meth K C m g) (h : PySem.W.fnIn K g = true) : ∀ f, PySem.W.findIn K (.ref C) m = some (some (.ref f)) → PySem.W.fnIn K f = true := fun f e => by
  have h1 := M.1
  rw [h1] at e
  cases e
  exact h
/-- a clause with a name ahead of others -/
def tTryM (K : PySem.W.Frag) (c : Value) (i : Nat) (ts : Addr → Value → Option Addr → TS) (l : List (Value × (Addr → Value → Option Addr → TS))) (Wout : WX) (tb : WX → TS) : TS := fun D σ H => tb (wAs K c i ts (wMany K Wout D l) D) D σ H
theorem w_tryM {K : PySem.W.Frag} {c : Value} {i : Nat} {ts : Addr → Value → Option Addr → TS} {l : List (Value × (Addr → Value → Option Addr → TS))} {Wout : WX} {tb : WX → TS} {D : Ends} {σ : L2.St} {H : Hp} (h : tb (wAs K c i ts (wMany K Wout D l) D) D σ H) : tTryM K c i ts l Wout tb D σ H := h
section
variable {X : Cx} {x n : Str} {c : Value} {i : Nat} {body suite : List Stmt} {b₀ : Stmt} {np pos pos' : Pos} {hds : List ExceptHandler} {tb : WX → TS} {ts : Addr → Value → Option Addr → TS} {l : List (Value × (Addr → Value → Option Addr → TS))} {Wout : WX}
theorem ps_tryM (hs : X.stack = X.env :: X.outer) (hf : X.env.frame = some X.env.locals) (hN : X.N.Nodup) (hi : X.N[i]? = some n) (hln : X.env.kindOf n = some .local) (hc : Names X x c) (tk : Takes X Wout)
    (hb : ∀ (W : WX) (pn : List (Addr × Obj)) (xe : Value → Shared → Prop), Takes (X.tr pn xe) W → PassesOwn (model X.prog X.w) X.A X.env xe → PSs (X.tr pn xe) body (tb W))
    (hsu : ∀ (a : Addr) (oe : Obj) (cls : Value) (d : Option Addr) (pn : List (Addr × Obj)), Zc cls d oe → (∃ vs, oe.data = .fields vs) → PSs (X.suite a ((a, oe) :: pn)) (b₀ :: suite) (ts a cls d))
    (hh : HdsOk X hds l) :
    PS X (.Try body (.ExceptHandler (some (.Name x np)) (some n) (b₀ :: suite) pos' :: hds) [] [] pos) (tTryM X.K c i ts l Wout tb) := by
  refine ⟨fun pins s σ H D I h => ?_⟩
  have ok := I.ok
  have hfr : X.A.frames = some (X.env :: X.outer) := by rw [ok.frames, hs]
  have hloc : Loc X.env.scope n := .inl hln
  refine wpAny_Try_except ?_
  refine wpAny_mono ((hb (wAs X.K c i ts (wMany X.K Wout D l) D) (X.pn ++ pins) (fun e s₁ => wpAny (model X.prog X.w) X.A (noteFrame e X.env) (fun _ s₂ => wpAny (model X.prog X.w) X.A (setFlight e none) (fun _ s₃ =>
    wpAny (model X.prog X.w) X.A (handleBy e X.env (.ExceptHandler (some (.Name x np)) (some n) (b₀ :: suite) pos' :: hds)) (SP X pins D) X.xe s₃) X.xe s₂) X.xe s₁) (fun u s' xx => ?_) PassesOwn.looking).run [] s σ H D (I.toTry _) h) (fun f s1 hsp => ?_) (fun e s1 he => he)
  · obtain ⟨a, B, sI, pins', σ', H', cls, d, rfl, J', nb, up, sky, na, os, ag, b, hb1, hyes, hno⟩ := xx
    have J : Inv X pins σ' H' sI := J'.ofTry ok
    have sky' : Sky B (X.env :: X.outer) a (Zc cls d) X.env.locals s'.heap := by rw [← hs]; exact sky
    show wpAny (model X.prog X.w) X.A (noteFrame (.ref a) X.env) _ _ _
    refine Sky.land Zc.steady hfr hf sky' fun h3 fl3 up3 => ?_
    have J3 : Inv X pins σ' H' { s' with heap := h3 } := J.landed nb fl3.1 (up.trans up3) os ag
    obtain ⟨oe3, vs3, he3, hz3, hd3⟩ := fl3.there
    have notFr : ∀ {h : Heap} {o : Obj} {vs : Array Value}, h.FunFrames B (X.env :: X.outer) → h.get? a = some o → o.data = .fields vs → a ∉ frs (X.env :: X.outer) := fun {h o vs} ff e dd hm => by
      obtain ⟨_, o', e', hnf⟩ := ff.mem hm
      rw [e] at e'; cases e'
      exact hnf _ dd
    have nfr := notFr fl3.2.2.1 he3 hd3
    have nL : a ≠ X.env.locals := fun z => nfr (List.mem_filterMap.mpr ⟨X.env, List.mem_cons_self, by rw [hf, z]⟩)
    have nF : a ∉ X.fs := fun hm => by
      obtain ⟨e, he, q⟩ := List.mem_filterMap.mp hm
      exact nfr (List.mem_filterMap.mpr ⟨e, List.mem_cons_of_mem _ he, q⟩)
    have S3 := J3.suite he3 hd3 na nL nF
    have LT : PySem.W.Looks (model X.prog X.w) h3 (typeOf (.ref a)) cls := fun A Q E s k q => wpAny_typeOf_ref (k _ _ he3) (by rw [hz3.1]; exact q)
    have test : ∀ {y : Str} {yp : Pos} {c : Value}, Names X y c → ∀ {Q : Value → Shared → Prop} {E : Value → Shared → Prop}, Q c { s' with heap := h3 } → wpAny (model X.prog X.w) (X.A.mark (some (.ref a))) (eval (.Name y yp) X.env) Q E { s' with heap := h3 } := fun {y yp c} hc {Q E} q => by
      obtain ⟨hg, hdbg, hm | ⟨hm, hv, hnn⟩⟩ := hc
      · exact ld_glob (X := X.suite a ((a, oe3) :: (X.pn ++ pins))) S3 hg hm q hdbg
      · exact ld_blt (X := X.suite a ((a, oe3) :: (X.pn ++ pins))) S3 hg hm hv q hnn hdbg
    have go : ∀ {hds' : List ExceptHandler} {l' : List (Value × (Addr → Value → Option Addr → TS))}, HdsOk X hds' l' → wMany X.K Wout D l' cls d σ' H' →
        wpAny (model X.prog X.w) X.A (handleBy (.ref a) X.env hds') (SP X pins D) X.xe { s' with heap := h3 } := by
      intro hds' l' hk
      induction hk with
      | nil =>
        intro w
        refine wpAny_handleBy_nil ?_
        obtain ⟨k1, k2, k3, oe, vs, T, oT, ts', he, hz, hd, h1, hr⟩ := id fl3
        unfold PySem.passOn
        refine wpAny_bind (wpAny_field he hd h1 ?_)
        rw [if_neg (show ¬ ((Value.ref T == Value.none) = true) from by simp)]
        have fin : wpAny (model X.prog X.w) X.A (setFlight (.ref a) X.env.frame) (fun _ s4 => wpAny (model X.prog X.w) X.A (throw (.ref a) : Sem Flow) (SP X pins D) X.xe s4) X.xe { s' with heap := h3 } := by
          rw [hf]
          refine HandSPX.setFlight_upZ fl3 fun h4 hh4 up4 => wpAny_throw (tk _ _ ?_)
          exact ⟨a, B, sI, pins, σ', H', cls, d, rfl, J, nb, (up.trans up3).trans up4, .inr (.inr (by rw [hs]; exact hh4)), na, os, ag, w⟩
        first
          | exact wpAny_bind (wpAny_pure (wpAny_bind fin))
          | exact wpAny_bind fin
      | @cons y c2 ts2 b2 suite2 np2 pos2 hds2 l2 hc2 hsu2 r ih =>
        intro w
        obtain ⟨b', hb2, hyes2, hno2⟩ := w
        refine wpAny_handleBy_cons (codeAny_handlers_test ?_) (by intro q; cases q)
        have LM := PySem.W.exm_one (M := model X.prog X.w) (J3.kIn) LT hb2
        refine test hc2 (LM.here ?_)
        cases b' with
        | true =>
          refine codeAny_handlers_suite ?_
          refine HandSPX.lands_againZ fl3 fun h4 fl4 up4 => ?_
          have J4 : Inv X pins σ' H' { s' with heap := h4 } := J.landed nb fl4.1 ((up.trans up3).trans up4) os ag
          obtain ⟨oe4, vs4, he4, hz4, hd4⟩ := fl4.there
          have S4 := J4.suite he4 hd4 na nL nF
          refine wpAny_mono ((hsu2 a oe4 cls d (X.pn ++ pins) hz4 ⟨_, hd4⟩).run [] _ _ H' _ S4 (hyes2 rfl a na)) (fun f s6 hsp => ?_) (fun _ _ z => False.elim z)
          cases f with
          | next =>
            obtain ⟨σ6, H6, S6, q6⟩ := hsp
            exact ⟨_, _, S6.unsuite ok, q6⟩
          | brk =>
            obtain ⟨σ6, H6, S6, q6⟩ := hsp
            exact ⟨_, _, S6.unsuite ok, q6⟩
          | cont =>
            obtain ⟨σ6, H6, S6, q6⟩ := hsp
            exact ⟨_, _, S6.unsuite ok, q6⟩
          | ret u =>
            obtain ⟨v6, σ6, H6, S6, r6, q6⟩ := hsp
            exact ⟨_, _, _, S6.unsuite ok, r6, q6⟩
        | false =>
          show wpAny _ X.A (handleBy (.ref a) X.env hds2) _ _ _
          exact ih (hno2 rfl)
    refine wpAny_handleBy_cons (codeAny_handlers_test ?_) (by intro q; cases q)
    have LM := PySem.W.exm_one (M := model X.prog X.w) (J3.kIn) LT hb1
    refine test hc (LM.here ?_)
    cases b with
    | true =>
      refine codeAny_handlers_suite_as ?_
      refine HandSPX.lands_againZ fl3 fun h4 fl4 up4 => ?_
      have J4 : Inv X pins σ' H' { s' with heap := h4 } := J.landed nb fl4.1 ((up.trans up3).trans up4) os ag
      obtain ⟨oe4, vs4, he4, hz4, hd4⟩ := fl4.there
      have S4 := J4.suite he4 hd4 na nL nF
      refine store_ok (X := X.suite a ((a, oe4) :: (X.pn ++ pins))) (v := .ref a) S4 hN hi hloc rfl (fun s5 S5 => ?_) (.inr hln)
      refine wpAny_mono ((hsu a oe4 cls d (X.pn ++ pins) hz4 ⟨_, hd4⟩).run [] s5 _ H' _ S5 (hyes rfl a na)) (fun f s6 hsp => ?_) (fun _ _ z => False.elim z)
      have end_ : ∀ {σ6 : L2.St} {H6 : Hp} {Q : Shared → Prop}, Inv (X.suite a ((a, oe4) :: (X.pn ++ pins))) [] σ6 H6 s6 → (∀ s7, Inv X pins (σ6.set i none) H6 s7 → Q s7) →
          wpAny (model X.prog X.w) X.A (do bindName X.env n .none; unbindBehindTheSuite X.env n pos') (fun _ s7 => Q s7) X.xe s6 := fun {σ6 H6 Q} S6 hq => gone_ok (S6.unsuite ok) hN hi hln hq
      cases f with
      | next =>
        obtain ⟨σ6, H6, S6, q6⟩ := hsp
        exact end_ S6 fun s7 J7 => ⟨_, _, J7, q6⟩
      | brk =>
        obtain ⟨σ6, H6, S6, q6⟩ := hsp
        exact end_ S6 fun s7 J7 => ⟨_, _, J7, q6⟩
      | cont =>
        obtain ⟨σ6, H6, S6, q6⟩ := hsp
        exact end_ S6 fun s7 J7 => ⟨_, _, J7, q6⟩
      | ret u =>
        obtain ⟨v6, σ6, H6, S6, r6, q6⟩ := hsp
        exact end_ S6 fun s7 J7 => ⟨_, _, _, J7, r6, q6⟩
    | false =>
      show wpAny _ X.A (handleBy (.ref a) X.env hds) _ _ _
      exact go hh (hno rfl)
  · cases f with
    | next =>
      obtain ⟨σ', H', J', q⟩ := hsp
      exact wpAny_execs_nil ⟨σ', H', J'.ofTry ok, q⟩
    | brk =>
      obtain ⟨σ', H', J', q⟩ := hsp
      exact ⟨σ', H', J'.ofTry ok, q⟩
    | cont =>
      obtain ⟨σ', H', J', q⟩ := hsp
      exact ⟨σ', H', J'.ofTry ok, q⟩
    | ret u =>
      obtain ⟨v, σ', H', J', r, q⟩ := hsp
      exact ⟨v, σ', H', J'.ofTry ok, r, q⟩
end
end TB

set_option maxHeartbeats 4000000
/-! a def that is given the exception that a suite holds -/
namespace TB
open PySem PySem.Spec PyProof.Rows L2 TW LamX NdefX
abbrev SpX := Addr → Value → Option Addr → Sp
structure FnX (P : Program) (w : World) (K : PySem.W.Frag) (mg : Str → Option Value) (base : Heap) (CX : CXT) (k : Nat) (f : Addr) (fd : FuncData) (ps : List Str) (sp : SpX) : Prop where
  len : ∀ a c d vs H Q E, sp a c d vs H Q E → vs.length = ps.length
  run : ∀ (A : Around) (outer : List Env) (s : Shared) (H : Hp) (args : Args) (us : List Value) (vs : List V) (Q : VK) (E : XK) (p : Addr × Obj) (cls : Value) (d : Option Addr), Zc cls d p.2 → (∃ vs, p.2.data = .fields vs) → L2H.RoomH k A → L2H.PinOk outer H s p → Env0 P w K mg base A outer s H → BindsTo s fd args (ps.zip us) → Vals vs us → sp p.1 cls d vs H Q E →
    codeAny (model P w) A (.call (.ref f) args) (CR CX outer P w H s Q E) s
theorem fn_ofX {CX : CXT} {P : Program} {w : World} {K : PySem.W.Frag} {mg : Str → Option Value} {base : Heap} {k : Nat} {f : Addr} {name qual : Str} {params : Arguments} {body : List Stmt} {scope : Scope} {dV kV doc pm cdv ct oc : Value} {an od : Option Addr}
    {osl : Array (Option Value)} {N ps : List Str} {sp : SpX} (lk : K.lookup f = some ⟨oc, od, .func (PySem.W.fnOf name qual params body scope dV kV doc pm an cdv ct), osl⟩) (hcd : PySem.W.codeIn K cdv qual = true) (S : FnScope N ps scope)
    (len : ∀ a c d vs H Q E, sp a c d vs H Q E → vs.length = ps.length)
    (hbody : ∀ (A : Around) (outer : List Env) (s : Shared) (H : Hp) (vs : List V) (Q : VK) (E : XK) (p : Addr × Obj) (cls : Value) (d : Option Addr), Zc cls d p.2 → (∃ vs, p.2.data = .fields vs) → L2H.RoomH k (A.deeper (envOfC qual scope s.heap.objs.size f cdv)) → sp p.1 cls d vs H Q E →
      ∃ t, PSs (L2H.cxH CX P w K mg base N qual scope f cdv A outer s H E p) body t ∧ t { nx := fun _ H' => Q .non H', rt := Q } (L2.start N vs) H) :
    FnX P w K mg base CX (k + 1) f (PySem.W.fnOf name qual params body scope dV kV doc pm an cdv ct) ps sp := by
  refine ⟨len, fun A outer s H args us vs Q E p cls d hz hf hr hpin e0 hb r hsp => ?_⟩
  have hl := len _ _ _ _ _ _ _ hsp
  have KX : K.In s.heap := e0.mod.kin.keeps fun b o e => (e0.bs b o e).1
  have lim : s.heap.NoLimit := e0.mod.nolimit.keeps fun b o e => (e0.bs b o e).1
  have hkind : ∀ y ∈ ps.zip us, scope.names.lookup y.1 = some .local ∨ (scope.names.lookup y.1 = some .cell ∧ ((cellsFrom (s.heap.objs.size + 1) scope.names []).lookup y.1).isSome = true) := fun ⟨n, v⟩ hy => by
    rcases S.par n (List.of_mem_zip hy).1 with q | q
    · exact .inl q
    · exact .inr ⟨q, PySem.W.cellsFrom_some _ _ _ (.inl q)⟩
  refine codeAny_call_function hr.depth (KX _ _ lk) rfl S.co S.gen rfl (PySem.W.codeRec_of KX hcd) (hb _ _ _ _ ?_)
  refine wpAny_newFunctionEnv_cells S.kind hkind fun env he s1 x => ?_
  subst he
  refine ⟨lim.keeps x.toInCall.keep, codeAny_func ?_⟩
  obtain ⟨t, ht, hq⟩ := hbody A outer s H vs Q E p cls d hz hf (hr.deeper _) hsp
  have I : Inv (L2H.cxH CX P w K mg base N qual scope f cdv A outer s H E p) [] (L2.start N vs) H s1 := L2H.inv_startH S hpin e0 hl r x
  refine wpAny_mono (ht.run [] s1 (L2.start N vs) H _ I hq) (fun fl s' hs => ?_) fun e s' hs => hs
  have fin : ∀ {σ' : L2.St} {H' : Hp} {v : V} {u : Value}, Inv (L2H.cxH CX P w K mg base N qual scope f cdv A outer s H E p) [] σ' H' s' → RelV v u → Q v H' → CE outer P w H s Q u s' :=
    fun {σ' H' v u} J rv q => ⟨v, H', J.os, J.bare, J.base, J.hok, rv, q⟩
  cases fl with
  | ret u =>
    obtain ⟨v, σ', H', J, rv, q⟩ := hs
    exact fin J rv q
  | next =>
    obtain ⟨σ', H', J, q⟩ := hs
    exact fin (v := V.non) (u := Value.none) J rfl q
  | brk =>
    obtain ⟨_, _, _, q⟩ := hs
    exact False.elim q
  | cont =>
    obtain ⟨_, _, _, q⟩ := hs
    exact False.elim q
structure CalX (P : Program) (w : World) (K : PySem.W.Frag) (mg : Str → Option Value) (base : Heap) (k : Nat) (x : Str) (ps : List Str) (sp : SpX) : Prop where
  ex : ∃ (f : Addr) (fd : FuncData), FnX P w K mg base (L2.CX P w) k f fd ps sp ∧ mg x = some (.ref f) ∧ PySem.W.keepIn K (.ref f) = true ∧ Binds K fd ps []
theorem calX_of {P : Program} {w : World} {K : PySem.W.Frag} {mg : Str → Option Value} {base : Heap} {k : Nat} {x : Str} {st : Stmt} {N ps : List Str} {sp : SpX} (F : FnP K mg x st) (S : FnScope N ps (defScope st)) (len : ∀ a c d vs H Q E, sp a c d vs H Q E → vs.length = ps.length)
    (hb : ∀ (kV doc pm : Value) (an : Option Addr) (cdv ct : Value) (us : List Value), us.length = ps.length → bindArgs (PySem.W.fnOf x x (defArgs st) (defBody st) (defScope st) .none kV doc pm an cdv ct) ⟨us, []⟩ = pure (ps.zip us))
    (hbody : ∀ (f : Addr) (cdv : Value) (A : Around) (outer : List Env) (s : Shared) (H : Hp) (vs : List V) (Q : VK) (E : XK) (p : Addr × Obj) (cls : Value) (d : Option Addr), Zc cls d p.2 → (∃ vs, p.2.data = .fields vs) → L2H.RoomH k (A.deeper (envOfC x (defScope st) s.heap.objs.size f cdv)) → sp p.1 cls d vs H Q E →
      ∃ t, PSs (L2H.cxH (L2.CX P w) P w K mg base N x (defScope st) f cdv A outer s H E p) (defBody st) t ∧ t { nx := fun _ H' => Q .non H', rt := Q } (start N vs) H) : CalX P w K mg base (k + 1) x ps sp := by
  obtain ⟨hm, fd, F⟩ := F
  have F' := F
  obtain ⟨oc, od, dV, kV, doc, pm, an, cdv, ct, osl, rfl, lk, hcd, _, _⟩ := F.ex
  exact ⟨_, _, fn_ofX lk hcd S len fun A outer s H vs Q E p cls d hz hf hr h => hbody _ cdv A outer s H vs Q E p cls d hz hf hr h, hm, F'.kp, F'.bindsN hb⟩
section
variable {X : Cx} {k j : Nat} {x : Str} {ps : List Str} {sp : SpX} {q pos : Pos} {e : Expr} {es : List Expr} {t : TA}
def tCallX (sp : SpX) (a : Addr) (cls : Value) (d : Option Addr) (t : TA) : TE := fun σ H Q => t σ H fun vs H1 => sp a cls d vs H1 Q E0
theorem w_callX {a : Addr} {cls : Value} {d : Option Addr} {σ : L2.St} {H : Hp} {Q : VK} (h : t σ H fun vs H1 => sp a cls d vs H1 Q E0) : tCallX sp a cls d t σ H Q := h
theorem pe_calP {a : Addr} {oe : Obj} {cls : Value} {d : Option Addr} (c : CalX X.prog X.w X.K X.mg X.base k x ps sp) (hp : (a, oe) ∈ X.pn) (hz : Zc cls d oe) (hf : ∃ vs, oe.data = .fields vs) (hr : L2H.RoomH j X.A) (hk : k ≤ j) (hg : Gl X x) (ha : PA X (e :: es) t)
    (hdb : (x == ("__debug__" : Str)) = false := by decide) (he : starEach (e :: es) X.env = (false, eval e X.env) :: starEach es X.env := by rfl) (hpl : (backTo pos (starEach es X.env)).any (·.1) = false := by rfl) :
    PE X (.Call (.Name x q) (e :: es) [] pos) (tCallX sp a cls d t) := by
  obtain ⟨f, fd, F, hm, kp, hb⟩ := c.ex
  refine ⟨fun pins s σ H Q I h => ?_⟩
  refine wpAny_Call_Name_kw (ld_glob I hg hm ?_ hdb)
  refine PySem.W.callWith_K (h₀ := X.base) I.ok.mod.kin kp (thn (ha.run pos pins s σ H _ I h) fun us s1 ⟨vs, H1, I1, r, q⟩ => ⟨I1.kIn, ?_⟩) he hpl
  have hl : us.length = ps.length := by rw [← r.length]; exact F.len _ _ _ _ _ _ _ q
  have b := hb s1 us I1.kIn (by rw [List.append_nil]; exact hl)
  rw [List.append_nil] at b
  have P1 := I1.pin (a, oe) (List.mem_append_left _ hp)
  have hpin : L2H.PinOk X.stack H1 s1 (a, oe) := ⟨P1.1, P1.2.1, fun hm => (List.mem_cons.mp (I1.stkSub a hm)).elim P1.2.2.1 P1.2.2.2.1, P1.2.2.2.2⟩
  refine wpAny_call (codeAny_mono (F.run X.A X.stack s1 H1 ⟨us, []⟩ us vs Q E0 (a, oe) cls d hz hf (hr.mono hk) hpin I1.env0 b r q) fun r s' hq => ?_)
  cases r with
  | error e => exact passL pins σ H1 s1 e s' I1 hq
  | ok fl =>
    cases fl with
    | ret u => exact I1.after hq
    | next => exact False.elim hq
    | brk => exact False.elim hq
    | cont => exact False.elim hq
end
/-! ### isinstance of it -/
/-- its own dict -/
def DOk (H : Hp) (d : Option Addr) : Prop := d = none ∨ ∃ dd fs, d = some dd ∧ H dd = some (.xd fs)
theorem DOk.same {H H' : Hp} {d : Option Addr} (h : DOk H d) (s : Same H H') : DOk H' d := by
  rcases h with h | ⟨dd, fs, e, h⟩
  · exact .inl h
  · exact .inr ⟨dd, fs, e, s _ _ h⟩
def rIsX (K : PySem.W.Frag) (a : Addr) (cls : Value) (d : Option Addr) : List V → Hp → VK → Prop := fun xs H Q => ∃ (c : V) (cv : Value) (b : Bool) (C : Addr), xs = [.ref a, c] ∧ cls = .ref C ∧ (∀ u, RelV c u → u = cv) ∧ DOk H d ∧ ExcC K C ∧ PySem.W.kitOne K (.ref C) cv = some b ∧ Q (.bl b) H
theorem call_isX {X : Cx} {p : Addr × Obj} {cls : Value} {d : Option Addr} (hz : Zc cls d p.2) (hf : ∃ vs, p.2.data = .fields vs) (hp : p ∈ X.pn) : CallR X (.builtin "isinstance") (rIsX X.K p.1 cls d) := by
  intro pins s σ H xs us Q I r h
  obtain ⟨c, cv, b, C, rfl, rfl, hcv, hd, EC, e, q⟩ := h
  cases r with
  | cons rx rr =>
    cases rr with
    | cons rt rr =>
      cases rr
      cases rx
      have ec := hcv _ rt
      subst ec
      obtain ⟨hget, _⟩ := I.pin p (List.mem_append_left _ hp)
      obtain ⟨vs, hv⟩ := hf
      have hcl : (PySem.W.clsIn X.K C).isSome = true := by
        obtain ⟨cd, hc, _⟩ := PySem.W.any_some EC.hd; rw [hc]; rfl
      have hno : PySem.W.notCls p.2 = true := by unfold PySem.W.notCls; rw [hv]
      have J : ∃ od, PySem.W.InstAt s.heap p.1 p.2 C od := by
        rcases hd with rfl | ⟨dd, fs, rfl, hdd⟩
        · exact ⟨none, hget, hz.1, hno, by rw [hz.2]; exact trivial⟩
        · have hx : ObjOk X.prog X.w H s.heap dd (.xd fs) := I.hok dd _ hdd
          obtain ⟨mA, hns, hr⟩ := hx
          obtain ⟨od, ho, hl⟩ := lookIn_ns hns
          exact ⟨some od, hget, hz.1, hno, by rw [hz.2]; exact ho⟩
      obtain ⟨od, J⟩ := J
      exact PySem.W.kia_one (PySem.W.kitx_exc hcl EC.hg EC.hk EC.hs EC.ha EC.hn EC.ht EC.hm) I.kIn J e (fun z => nomatch z) fun tk => ⟨.bl b, H, I.kept (t' := tk) fun _ _ z => z, rfl, q⟩
theorem w_isX {K : PySem.W.Frag} {a C D : Addr} {d : Option Addr} {H : Hp} {Q : VK} {b : Bool} (hd : DOk H d) (EC : ExcC K C) (h : PySem.W.kitOne K (.ref C) (.ref D) = some b) (q : Q (.bl b) H) : rIsX K a (.ref C) d [.ref a, .ref D] H Q := ⟨.ref D, .ref D, b, C, rfl, rfl, fun u r => r, hd, EC, h, q⟩
theorem w_isXt {K : PySem.W.Frag} {a C : Addr} {T : String} {d : Option Addr} {H : Hp} {Q : VK} {b : Bool} (hd : DOk H d) (EC : ExcC K C) (h : PySem.W.kitOne K (.ref C) (.type T) = some b) (q : Q (.bl b) H) : rIsX K a (.ref C) d [.ref a, .ty T] H Q := ⟨.ty T, .type T, b, C, rfl, rfl, fun u r => r, hd, EC, h, q⟩
/-- what the head says of an exception's class -/
def exkB (K : PySem.W.Frag) (C : Addr) (ds : List (Addr × Bool)) : Bool :=
  decide (PySem.W.findIn K (.ref C) "__getattribute__" = some (some (.builtin "BaseException.__getattribute__"))) && (decide (PySem.W.findIn K (.ref C) "__getattr__" = some none) && (decide (PySem.W.subIn K (.ref C) (.type "BaseException") = some true) && (PySem.W.hasDictIn K C && (decide (PySem.W.findIn K (.ref C) "__class__" = some (some (.builtin "object.__class__"))) &&
  (decide (PySem.W.specialIn K (.builtin "object.__class__") "__get__" = some (some (.builtin "getset_descriptor.__get__"))) && (decide (PySem.W.takesIn K (.builtin "object.__class__") = some true) && (decide (PySem.W.mroIn K C (.type "object") = some true) && (decide (PySem.W.kitOne K (.ref C) (.type "ValueError") = some true) && ds.all fun p => decide (PySem.W.kitOne K (.ref C) (.ref p.1) = some p.2)))))))))
structure ExkAt (K : PySem.W.Frag) (C : Addr) (ds : List (Addr × Bool)) : Prop where
  c : ExcC K C
  v : PySem.W.kitOne K (.ref C) (.type "ValueError") = some true
  k : ∀ p ∈ ds, PySem.W.kitOne K (.ref C) (.ref p.1) = some p.2
theorem exkB_ok {K : PySem.W.Frag} {C : Addr} {ds : List (Addr × Bool)} (h : exkB K C ds = true) : ExkAt K C ds := by
  unfold exkB at h
  obtain ⟨h1, h⟩ := ba h
  obtain ⟨h2, h⟩ := ba h
  obtain ⟨h3, h⟩ := ba h
  obtain ⟨h4, h⟩ := ba h
  obtain ⟨h5, h⟩ := ba h
  obtain ⟨h6, h⟩ := ba h
  obtain ⟨h7, h⟩ := ba h
  obtain ⟨h8, h⟩ := ba h
  obtain ⟨h9, h⟩ := ba h
  exact ⟨⟨of_decide_eq_true h1, of_decide_eq_true h2, of_decide_eq_true h3, h4, of_decide_eq_true h5, of_decide_eq_true h6, of_decide_eq_true h7, of_decide_eq_true h8⟩, of_decide_eq_true h9, fun p hp => of_decide_eq_true (List.all_eq_true.mp h p hp)⟩
end TB

set_option maxHeartbeats 0
namespace TB
open PySem PySem.Spec PyProof.Rows L2 LamX NdefX
def top (i : Nat) : Stmt := PySem.Challenge.pw_twiceonce_k19_whole_mirrored_chains.main.body.getD i (.Pass ⟨0, 0, 0, 0⟩)
def meth (st : Stmt) (j : Nat) : Stmt := match st with | .ClassDef _ _ _ b .. => b.getD j (.Pass ⟨0, 0, 0, 0⟩) | _ => .Pass ⟨0, 0, 0, 0⟩
abbrev s_BadStep___init__ : Stmt := meth (top 3) 0
abbrev s_is_number : Stmt := top 11
abbrev s_is_value : Stmt := top 12
abbrev s_is_small : Stmt := top 13
abbrev s_is_part : Stmt := top 14
abbrev s_is_step : Stmt := top 15
abbrev s_Chain___init__ : Stmt := meth (top 16) 0
abbrev s_Chain___eq__ : Stmt := meth (top 16) 1
abbrev s_Chain___add__ : Stmt := meth (top 16) 2
abbrev s_Chain___len__ : Stmt := meth (top 16) 3
abbrev s_gcd : Stmt := top 18
abbrev s_period_of : Stmt := top 19
abbrev s_reach_of : Stmt := top 20
abbrev s_check_value : Stmt := top 22
abbrev s_kind_of : Stmt := top 23
abbrev s_rounded : Stmt := top 24
abbrev s_of_number : Stmt := top 25
abbrev s_is_same : Stmt := top 26
abbrev s_stepped : Stmt := top 27
abbrev s_followed : Stmt := top 28
abbrev s_result : Stmt := top 29
abbrev s_run : Stmt := top 30
abbrev s_Walk___init__ : Stmt := meth (top 31) 0
abbrev s_Walk_is_far : Stmt := meth (top 31) 1
abbrev s_Walk_mark : Stmt := meth (top 31) 2
abbrev s_Walk_look_far : Stmt := meth (top 31) 3
abbrev s_Walk_end : Stmt := meth (top 31) 4
abbrev s_fate : Stmt := top 32
abbrev s_numbers_to : Stmt := top 34
abbrev s_values_for : Stmt := top 35
abbrev s_first_of : Stmt := top 36
abbrev s_parting : Stmt := top 37
abbrev s_alike : Stmt := top 38
abbrev s__law_begin : Stmt := top 40
abbrev s__law_draw : Stmt := top 41
abbrev s__law_any : Stmt := top 42
abbrev s__law_range : Stmt := top 43
abbrev s__law_step : Stmt := top 44
abbrev s__law_steps : Stmt := top 45
abbrev s__law_value : Stmt := top 46
abbrev s__law_plain : Stmt := top 47
abbrev s__law_turned : Stmt := top 48
abbrev s__law_opposite : Stmt := top 49
abbrev s_law : Stmt := top 50
abbrev s_parting_differs : Stmt := (defBody s_parting).getD 0 (.Pass ⟨0, 0, 0, 0⟩)
def cloFns : List He.Defn := [("parting", none)]
def cloT (K : PySem.W.Frag) : List NdefX.NTab := [(tabA K "parting", fun _ _ => ("parting" : Str) ++ ".<locals>." ++ "differs")]
abbrev nm_parting : Str := ("parting" : Str) ++ ".<locals>." ++ "differs"
theorem nm_in_parting {K : PySem.W.Frag} : (tabA K "parting", fun _ _ => nm_parting) ∈ cloT K := by simp [cloT]
theorem const_T {K : PySem.W.Frag} : ConstT (cloT K) := fun p hp => by
  simp only [cloT, List.mem_cons, List.not_mem_nil, or_false] at hp
  rcases hp with rfl <;> rfl
theorem cloT_tab {K : PySem.W.Frag} {p : NdefX.NTab} (h : p ∈ cloT K) : ∃ q ∈ cloFns, p.1 = (He.cT K q).2 := by
  simp only [cloT, List.mem_cons, List.not_mem_nil, or_false] at h
  rcases h with rfl
  · exact ⟨("parting", none), by simp [cloFns], rfl⟩
structure Fx (w : World) (K : PySem.W.Frag) (mg : Str → Option Value) : Prop where
  b_NotImplemented : mg "NotImplemented" = none
  b_ValueError : mg "ValueError" = none
  b_abs : mg "abs" = none
  b_all : mg "all" = none
  b_bool : mg "bool" = none
  b_enumerate : mg "enumerate" = none
  b_int : mg "int" = none
  b_isinstance : mg "isinstance" = none
  b_len : mg "len" = none
  b_list : mg "list" = none
  b_max : mg "max" = none
  b_min : mg "min" = none
  b_range : mg "range" = none
  b_str : mg "str" = none
  b_sum : mg "sum" = none
  b_tuple : mg "tuple" = none
  b_zip : mg "zip" = none
  g_WORDS : mg "WORDS" = some (.ref (He.ga K "WORDS"))
  t_WORDS : ∀ H, SqT K H (He.ga K "WORDS") (vstrs WORDS)
  g_MODULI : mg "MODULI" = some (.ref (He.ga K "MODULI"))
  t_MODULI : ∀ H, SqT K H (He.ga K "MODULI") (vints MODULI)
  g_WAYS : mg "WAYS" = some (.ref (He.ga K "WAYS"))
  t_WAYS : ∀ H, SqT K H (He.ga K "WAYS") (vstrs WAYS)
  i_MOST : ∃ t, mg "MOST" = some (.int 5 t)
  i_WIDEST : ∃ t, mg "WIDEST" = some (.int 40 t)
  g_FORMS : mg "FORMS" = some (.ref (He.ga K "FORMS"))
  tab_FORMS : Table K w (He.ga K "FORMS") FORMS
  g_GateError : mg "GateError" = some (.ref (He.ga K "GateError"))
  x_GateError : PySem.W.excIn K (He.ga K "GateError") He.veBase "ValueError.__new__" = true ∧ PySem.W.keepIn K (.ref (He.ga K "GateError")) = true ∧ PySem.W.subIn K (.ref (He.ga K "GateError")) (.type "BaseException") = some true ∧ PySem.W.typeIn K (.ref (He.ga K "GateError")) = some (.type "type")
  em_GateError_GateError : PySem.W.exmOne K (.ref (He.ga K "GateError")) (.ref (He.ga K "GateError")) = some true
  em_GateError_BadValue : PySem.W.exmOne K (.ref (He.ga K "GateError")) (.ref (He.ga K "BadValue")) = some false
  em_GateError_BadStep : PySem.W.exmOne K (.ref (He.ga K "GateError")) (.ref (He.ga K "BadStep")) = some false
  g_BadValue : mg "BadValue" = some (.ref (He.ga K "BadValue"))
  x_BadValue : PySem.W.excIn K (He.ga K "BadValue") He.veBase "ValueError.__new__" = true ∧ PySem.W.keepIn K (.ref (He.ga K "BadValue")) = true ∧ PySem.W.subIn K (.ref (He.ga K "BadValue")) (.type "BaseException") = some true ∧ PySem.W.typeIn K (.ref (He.ga K "BadValue")) = some (.type "type")
  em_BadValue_GateError : PySem.W.exmOne K (.ref (He.ga K "BadValue")) (.ref (He.ga K "GateError")) = some true
  em_BadValue_BadValue : PySem.W.exmOne K (.ref (He.ga K "BadValue")) (.ref (He.ga K "BadValue")) = some true
  em_BadValue_BadStep : PySem.W.exmOne K (.ref (He.ga K "BadValue")) (.ref (He.ga K "BadStep")) = some false
  g_BadStep : mg "BadStep" = some (.ref (He.ga K "BadStep"))
  o_BadStep : OexAt K (He.ga K "BadStep") "index"
  fi_BadStep : MtP K "BadStep" "__init__" "BadStep.__init__" s_BadStep___init__
  em_BadStep_GateError : PySem.W.exmOne K (.ref (He.ga K "BadStep")) (.ref (He.ga K "GateError")) = some true
  em_BadStep_BadValue : PySem.W.exmOne K (.ref (He.ga K "BadStep")) (.ref (He.ga K "BadValue")) = some false
  em_BadStep_BadStep : PySem.W.exmOne K (.ref (He.ga K "BadStep")) (.ref (He.ga K "BadStep")) = some true
  g_Chain : mg "Chain" = some (.ref (He.ga K "Chain"))
  k_Chain : Cls K (He.ga K "Chain")
  mk_Chain : Mk K (He.ga K "Chain") (He.ma K (He.ga K "Chain") "__init__")
  is_Chain : IsC K (He.ga K "Chain")
  n_Chain_steps : NoAttr K (He.ga K "Chain") "steps"
  f_Chain___init__ : MtP K "Chain" "__init__" "Chain.__init__" s_Chain___init__
  f_Chain___eq__ : MtP K "Chain" "__eq__" "Chain.__eq__" s_Chain___eq__
  me_Chain___eq__ : Meth K (He.ga K "Chain") "__eq__" (He.ma K (He.ga K "Chain") "__eq__")
  nf_Chain : PySem.W.notFirst K (He.ga K "Chain") (.ref (He.ga K "Chain")) = true
  f_Chain___add__ : MtP K "Chain" "__add__" "Chain.__add__" s_Chain___add__
  me_Chain___add__ : Meth K (He.ga K "Chain") "__add__" (He.ma K (He.ga K "Chain") "__add__")
  sf_Chain : PySem.W.selfFirst K (He.ga K "Chain") = true
  f_Chain___len__ : MtP K "Chain" "__len__" "Chain.__len__" s_Chain___len__
  me_Chain___len__ : Meth K (He.ga K "Chain") "__len__" (He.ma K (He.ga K "Chain") "__len__")
  g_Walk : mg "Walk" = some (.ref (He.ga K "Walk"))
  k_Walk : Cls K (He.ga K "Walk")
  mk_Walk : Mk K (He.ga K "Walk") (He.ma K (He.ga K "Walk") "__init__")
  is_Walk : IsC K (He.ga K "Walk")
  n_Walk_steps : NoAttr K (He.ga K "Walk") "steps"
  n_Walk_value : NoAttr K (He.ga K "Walk") "value"
  n_Walk_times : NoAttr K (He.ga K "Walk") "times"
  n_Walk_seen : NoAttr K (He.ga K "Walk") "seen"
  n_Walk_far : NoAttr K (He.ga K "Walk") "far"
  n_Walk_period : NoAttr K (He.ga K "Walk") "period"
  n_Walk_marks : NoAttr K (He.ga K "Walk") "marks"
  f_Walk___init__ : MtP K "Walk" "__init__" "Walk.__init__" s_Walk___init__
  f_Walk_is_far : MtP K "Walk" "is_far" "Walk.is_far" s_Walk_is_far
  me_Walk_is_far : Meth K (He.ga K "Walk") "is_far" (He.ma K (He.ga K "Walk") "is_far")
  f_Walk_mark : MtP K "Walk" "mark" "Walk.mark" s_Walk_mark
  me_Walk_mark : Meth K (He.ga K "Walk") "mark" (He.ma K (He.ga K "Walk") "mark")
  f_Walk_look_far : MtP K "Walk" "look_far" "Walk.look_far" s_Walk_look_far
  me_Walk_look_far : Meth K (He.ga K "Walk") "look_far" (He.ma K (He.ga K "Walk") "look_far")
  f_Walk_end : MtP K "Walk" "end" "Walk.end" s_Walk_end
  me_Walk_end : Meth K (He.ga K "Walk") "end" (He.ma K (He.ga K "Walk") "end")
  nd_tab : ((cloT K).map (·.1)).Nodup
  g_is_number : mg "is_number" = some (.ref (He.ga K "is_number"))
  f_is_number : FnP K mg "is_number" s_is_number
  g_is_value : mg "is_value" = some (.ref (He.ga K "is_value"))
  f_is_value : FnP K mg "is_value" s_is_value
  g_is_small : mg "is_small" = some (.ref (He.ga K "is_small"))
  f_is_small : FnP K mg "is_small" s_is_small
  g_is_part : mg "is_part" = some (.ref (He.ga K "is_part"))
  f_is_part : FnP K mg "is_part" s_is_part
  g_is_step : mg "is_step" = some (.ref (He.ga K "is_step"))
  f_is_step : FnP K mg "is_step" s_is_step
  g_gcd : mg "gcd" = some (.ref (He.ga K "gcd"))
  f_gcd : FnP K mg "gcd" s_gcd
  g_period_of : mg "period_of" = some (.ref (He.ga K "period_of"))
  f_period_of : FnP K mg "period_of" s_period_of
  g_reach_of : mg "reach_of" = some (.ref (He.ga K "reach_of"))
  f_reach_of : FnP K mg "reach_of" s_reach_of
  g_check_value : mg "check_value" = some (.ref (He.ga K "check_value"))
  f_check_value : FnP K mg "check_value" s_check_value
  g_kind_of : mg "kind_of" = some (.ref (He.ga K "kind_of"))
  f_kind_of : FnP K mg "kind_of" s_kind_of
  g_rounded : mg "rounded" = some (.ref (He.ga K "rounded"))
  f_rounded : FnP K mg "rounded" s_rounded
  g_of_number : mg "of_number" = some (.ref (He.ga K "of_number"))
  f_of_number : FnP K mg "of_number" s_of_number
  g_is_same : mg "is_same" = some (.ref (He.ga K "is_same"))
  f_is_same : FnP K mg "is_same" s_is_same
  g_stepped : mg "stepped" = some (.ref (He.ga K "stepped"))
  f_stepped : FnP K mg "stepped" s_stepped
  g_followed : mg "followed" = some (.ref (He.ga K "followed"))
  f_followed : FnP K mg "followed" s_followed
  g_result : mg "result" = some (.ref (He.ga K "result"))
  f_result : FnP K mg "result" s_result
  g_run : mg "run" = some (.ref (He.ga K "run"))
  f_run : FnP K mg "run" s_run
  g_fate : mg "fate" = some (.ref (He.ga K "fate"))
  f_fate : FnP K mg "fate" s_fate
  g_numbers_to : mg "numbers_to" = some (.ref (He.ga K "numbers_to"))
  f_numbers_to : FnP K mg "numbers_to" s_numbers_to
  g_values_for : mg "values_for" = some (.ref (He.ga K "values_for"))
  f_values_for : FnP K mg "values_for" s_values_for
  g_first_of : mg "first_of" = some (.ref (He.ga K "first_of"))
  f_first_of : FnP K mg "first_of" s_first_of
  g_parting : mg "parting" = some (.ref (He.ga K "parting"))
  f_parting : FnP K mg "parting" s_parting
  g_alike : mg "alike" = some (.ref (He.ga K "alike"))
  f_alike : FnP K mg "alike" s_alike
  g__law_begin : mg "_law_begin" = some (.ref (He.ga K "_law_begin"))
  f__law_begin : FnP K mg "_law_begin" s__law_begin
  g__law_draw : mg "_law_draw" = some (.ref (He.ga K "_law_draw"))
  f__law_draw : FnP K mg "_law_draw" s__law_draw
  g__law_any : mg "_law_any" = some (.ref (He.ga K "_law_any"))
  f__law_any : FnP K mg "_law_any" s__law_any
  g__law_range : mg "_law_range" = some (.ref (He.ga K "_law_range"))
  f__law_range : FnP K mg "_law_range" s__law_range
  g__law_step : mg "_law_step" = some (.ref (He.ga K "_law_step"))
  f__law_step : FnP K mg "_law_step" s__law_step
  g__law_steps : mg "_law_steps" = some (.ref (He.ga K "_law_steps"))
  f__law_steps : FnP K mg "_law_steps" s__law_steps
  g__law_value : mg "_law_value" = some (.ref (He.ga K "_law_value"))
  f__law_value : FnP K mg "_law_value" s__law_value
  g__law_plain : mg "_law_plain" = some (.ref (He.ga K "_law_plain"))
  f__law_plain : FnP K mg "_law_plain" s__law_plain
  g__law_turned : mg "_law_turned" = some (.ref (He.ga K "_law_turned"))
  f__law_turned : FnP K mg "_law_turned" s__law_turned
  g__law_opposite : mg "_law_opposite" = some (.ref (He.ga K "_law_opposite"))
  f__law_opposite : FnP K mg "_law_opposite" s__law_opposite
  g_law : mg "law" = some (.ref (He.ga K "law"))
  f_law : FnP K mg "law" s_law
end TB

set_option maxHeartbeats 0
namespace TB
open PySem PySem.Spec PyProof.Rows L2 LamX NdefX
def hdFn : List He.DefD := [⟨("BadStep", some "__init__"), "__init__", "BadStep.__init__", defArgs s_BadStep___init__, defBody s_BadStep___init__, defScope s_BadStep___init__, [], []⟩,
  ⟨("Chain", some "__init__"), "__init__", "Chain.__init__", defArgs s_Chain___init__, defBody s_Chain___init__, defScope s_Chain___init__, [], []⟩,
  ⟨("Chain", some "__eq__"), "__eq__", "Chain.__eq__", defArgs s_Chain___eq__, defBody s_Chain___eq__, defScope s_Chain___eq__, [], []⟩,
  ⟨("Chain", some "__add__"), "__add__", "Chain.__add__", defArgs s_Chain___add__, defBody s_Chain___add__, defScope s_Chain___add__, [], []⟩,
  ⟨("Chain", some "__len__"), "__len__", "Chain.__len__", defArgs s_Chain___len__, defBody s_Chain___len__, defScope s_Chain___len__, [], []⟩,
  ⟨("Walk", some "__init__"), "__init__", "Walk.__init__", defArgs s_Walk___init__, defBody s_Walk___init__, defScope s_Walk___init__, [], []⟩,
  ⟨("Walk", some "is_far"), "is_far", "Walk.is_far", defArgs s_Walk_is_far, defBody s_Walk_is_far, defScope s_Walk_is_far, [], []⟩,
  ⟨("Walk", some "mark"), "mark", "Walk.mark", defArgs s_Walk_mark, defBody s_Walk_mark, defScope s_Walk_mark, [], []⟩,
  ⟨("Walk", some "look_far"), "look_far", "Walk.look_far", defArgs s_Walk_look_far, defBody s_Walk_look_far, defScope s_Walk_look_far, [], []⟩,
  ⟨("Walk", some "end"), "end", "Walk.end", defArgs s_Walk_end, defBody s_Walk_end, defScope s_Walk_end, [], []⟩,
  ⟨("is_number", none), "is_number", "is_number", defArgs s_is_number, defBody s_is_number, defScope s_is_number, [], []⟩,
  ⟨("is_value", none), "is_value", "is_value", defArgs s_is_value, defBody s_is_value, defScope s_is_value, [], []⟩,
  ⟨("is_small", none), "is_small", "is_small", defArgs s_is_small, defBody s_is_small, defScope s_is_small, [], []⟩,
  ⟨("is_part", none), "is_part", "is_part", defArgs s_is_part, defBody s_is_part, defScope s_is_part, [], []⟩,
  ⟨("is_step", none), "is_step", "is_step", defArgs s_is_step, defBody s_is_step, defScope s_is_step, [], []⟩,
  ⟨("gcd", none), "gcd", "gcd", defArgs s_gcd, defBody s_gcd, defScope s_gcd, [], []⟩,
  ⟨("period_of", none), "period_of", "period_of", defArgs s_period_of, defBody s_period_of, defScope s_period_of, [], []⟩,
  ⟨("reach_of", none), "reach_of", "reach_of", defArgs s_reach_of, defBody s_reach_of, defScope s_reach_of, [], []⟩,
  ⟨("check_value", none), "check_value", "check_value", defArgs s_check_value, defBody s_check_value, defScope s_check_value, [], []⟩,
  ⟨("kind_of", none), "kind_of", "kind_of", defArgs s_kind_of, defBody s_kind_of, defScope s_kind_of, [], []⟩,
  ⟨("rounded", none), "rounded", "rounded", defArgs s_rounded, defBody s_rounded, defScope s_rounded, [], []⟩,
  ⟨("of_number", none), "of_number", "of_number", defArgs s_of_number, defBody s_of_number, defScope s_of_number, [], []⟩,
  ⟨("is_same", none), "is_same", "is_same", defArgs s_is_same, defBody s_is_same, defScope s_is_same, [], []⟩,
  ⟨("stepped", none), "stepped", "stepped", defArgs s_stepped, defBody s_stepped, defScope s_stepped, [], []⟩,
  ⟨("followed", none), "followed", "followed", defArgs s_followed, defBody s_followed, defScope s_followed, [], []⟩,
  ⟨("result", none), "result", "result", defArgs s_result, defBody s_result, defScope s_result, [], []⟩,
  ⟨("run", none), "run", "run", defArgs s_run, defBody s_run, defScope s_run, [], []⟩,
  ⟨("fate", none), "fate", "fate", defArgs s_fate, defBody s_fate, defScope s_fate, [], []⟩,
  ⟨("numbers_to", none), "numbers_to", "numbers_to", defArgs s_numbers_to, defBody s_numbers_to, defScope s_numbers_to, [], []⟩,
  ⟨("values_for", none), "values_for", "values_for", defArgs s_values_for, defBody s_values_for, defScope s_values_for, [], []⟩,
  ⟨("first_of", none), "first_of", "first_of", defArgs s_first_of, defBody s_first_of, defScope s_first_of, [], []⟩,
  ⟨("parting", none), "parting", "parting", defArgs s_parting, defBody s_parting, defScope s_parting, [], []⟩,
  ⟨("alike", none), "alike", "alike", defArgs s_alike, defBody s_alike, defScope s_alike, [], []⟩,
  ⟨("_law_begin", none), "_law_begin", "_law_begin", defArgs s__law_begin, defBody s__law_begin, defScope s__law_begin, [], []⟩,
  ⟨("_law_draw", none), "_law_draw", "_law_draw", defArgs s__law_draw, defBody s__law_draw, defScope s__law_draw, [], []⟩,
  ⟨("_law_any", none), "_law_any", "_law_any", defArgs s__law_any, defBody s__law_any, defScope s__law_any, [], []⟩,
  ⟨("_law_range", none), "_law_range", "_law_range", defArgs s__law_range, defBody s__law_range, defScope s__law_range, [], []⟩,
  ⟨("_law_step", none), "_law_step", "_law_step", defArgs s__law_step, defBody s__law_step, defScope s__law_step, [], []⟩,
  ⟨("_law_steps", none), "_law_steps", "_law_steps", defArgs s__law_steps, defBody s__law_steps, defScope s__law_steps, [], []⟩,
  ⟨("_law_value", none), "_law_value", "_law_value", defArgs s__law_value, defBody s__law_value, defScope s__law_value, [], []⟩,
  ⟨("_law_plain", none), "_law_plain", "_law_plain", defArgs s__law_plain, defBody s__law_plain, defScope s__law_plain, [], []⟩,
  ⟨("_law_turned", none), "_law_turned", "_law_turned", defArgs s__law_turned, defBody s__law_turned, defScope s__law_turned, [], []⟩,
  ⟨("_law_opposite", none), "_law_opposite", "_law_opposite", defArgs s__law_opposite, defBody s__law_opposite, defScope s__law_opposite, [], []⟩,
  ⟨("law", none), "law", "law", defArgs s_law, defBody s_law, defScope s_law, [], []⟩]
def hdFa : List He.Fa := [.free "NotImplemented", .free "ValueError", .free "abs", .free "all", .free "bool", .free "enumerate", .free "int", .free "isinstance", .free "len", .free "list", .free "max", .free "min", .free "range", .free "str", .free "sum", .free "tuple", .free "zip", .glo "WORDS", .glo "MODULI", .glo "WAYS", .int "MOST" 5, .int "WIDEST" 40, .glo "FORMS", .glo "GateError", .exc "GateError", .exm "GateError" "GateError" true, .exm "GateError" "BadValue" false, .exm "GateError" "BadStep" false, .glo "BadValue", .exc "BadValue", .exm "BadValue" "GateError" true, .exm "BadValue" "BadValue" true, .exm "BadValue" "BadStep" false, .glo "BadStep", .exm "BadStep" "GateError" true, .exm "BadStep" "BadValue" false, .exm "BadStep" "BadStep" true, .glo "Chain", .cls "Chain", .mkr "Chain", .noat "Chain" "steps", .meth "Chain" "__eq__", .meth "Chain" "__add__", .meth "Chain" "__len__", .glo "Walk", .cls "Walk", .mkr "Walk", .noat "Walk" "steps", .noat "Walk" "value", .noat "Walk" "times", .noat "Walk" "seen", .noat "Walk" "far", .noat "Walk" "period", .noat "Walk" "marks", .meth "Walk" "is_far", .meth "Walk" "mark", .meth "Walk" "look_far", .meth "Walk" "end", .glo "is_number", .glo "is_value", .glo "is_small", .glo "is_part", .glo "is_step", .glo "gcd", .glo "period_of", .glo "reach_of", .glo "check_value", .glo "kind_of", .glo "rounded", .glo "of_number", .glo "is_same", .glo "stepped", .glo "followed", .glo "result", .glo "run", .glo "fate", .glo "numbers_to", .glo "values_for", .glo "first_of", .glo "parting", .glo "alike", .glo "_law_begin", .glo "_law_draw", .glo "_law_any", .glo "_law_range", .glo "_law_step", .glo "_law_steps", .glo "_law_value", .glo "_law_plain", .glo "_law_turned", .glo "_law_opposite", .glo "law"]
def hdTs : List He.Tab := [((fun K => He.ga K "FORMS"), ["clamp", "least", "most", "round", "shift", "fold", "mirror", "turn", "blank", "refuse", "fill", "replace", "void", "bar"])]
def hdExs : List (PySem.W.Frag → Bool) := [fun K => He.tupB K "WORDS" [.str "a", .str "b", .str "c"], fun K => He.tupB K "MODULI" [.int 2, .int 3, .int 4, .int 5, .int 6, .int 10], fun K => He.tupB K "WAYS" [.str "down", .str "up", .str "near"], fun K => tabB K (He.ga K "FORMS") [("clamp", "ab"), ("least", "i"), ("most", "i"), ("round", "mw"), ("shift", "d"), ("fold", "m"), ("mirror", ""), ("turn", ""), ("blank", "ab"), ("refuse", "ab"), ("fill", "f"), ("replace", "vv"), ("void", "k"), ("bar", "n")], fun K => oexB K (He.ga K "BadStep") "index", fun K => isCB K (He.ga K "Chain"), fun K => PySem.W.notFirst K (He.ga K "Chain") (.ref (He.ga K "Chain")), fun K => PySem.W.selfFirst K (He.ga K "Chain"), fun K => isCB K (He.ga K "Walk"), fun K => decide ((cloFns.map fun p => (He.cT K p).2).Nodup)]
def hdEx (K : PySem.W.Frag) : Bool := hdExs.all fun f => f K
abbrev hdR : PySem.W.OpenRow := PySem.W.OpenLaw.row PySem.Challenge.rw_twiceonce_k19_whole_mirrored_chains
abbrev hdK : PySem.W.Hook := He.hookX 5 hdFa hdFn hdTs cloFns hdEx
def hdOb (s : PySem.W.SharedT) : He.AlX := He.obsX 5 hdFa hdFn hdTs cloFns hdEx (HandSHeadRun.getT s)
theorem hdOb_eq (s : PySem.W.SharedT) : hdOb s = hdK.obs s.abs := He.obsX_eq (HandSHeadRun.getT_eq s)
def hdLoose : List Str := "__name__" :: "GateError" :: "BadValue" :: "BadStep" :: "WORDS" :: "MODULI" :: "WAYS" :: "MOST" :: "WIDEST" :: "FORMS" :: "is_number" :: "is_value" :: "is_small" :: "is_part" :: "is_step" :: "Chain" :: "gcd" :: "period_of" :: "reach_of" :: "check_value" :: "kind_of" :: "rounded" :: "of_number" :: "is_same" :: "stepped" :: "followed" :: "result" :: "run" :: "Walk" :: "fate" :: "numbers_to" :: "values_for" :: "first_of" :: "parting" :: "alike" :: "_law_begin" :: "_law_draw" :: "_law_any" :: "_law_range" :: "_law_step" :: "_law_steps" :: "_law_value" :: "_law_plain" :: "_law_turned" :: "_law_opposite" :: []
theorem hdRun (w : World) : HandSHeadRun.RunEq hdR (PySem.W.view hdR.prog [50]) hdK hdOb 8000 hdLoose w :=
  PySem.W.byRow2 "special-get-raises" (P := fun w => HandSHeadRun.RunEq hdR (PySem.W.view hdR.prog [50]) hdK hdOb 8000 hdLoose w) (fun w os => by kernel_rfl) (fun w os => by kernel_rfl) w
theorem fx_of {w : World} {K : PySem.W.Frag} {h : Heap} {mg : Str → Option Value} (X : K.In h) (G : h.Ns mainGlobals mg) (c : He.SaysX hdFa hdFn hdTs cloFns hdEx w h K) : Fx w K mg where
  b_NotImplemented := He.free_ok X G (c.t.d.fact 0 (f := .free "NotImplemented") rfl)
  b_ValueError := He.free_ok X G (c.t.d.fact 1 (f := .free "ValueError") rfl)
  b_abs := He.free_ok X G (c.t.d.fact 2 (f := .free "abs") rfl)
  b_all := He.free_ok X G (c.t.d.fact 3 (f := .free "all") rfl)
  b_bool := He.free_ok X G (c.t.d.fact 4 (f := .free "bool") rfl)
  b_enumerate := He.free_ok X G (c.t.d.fact 5 (f := .free "enumerate") rfl)
  b_int := He.free_ok X G (c.t.d.fact 6 (f := .free "int") rfl)
  b_isinstance := He.free_ok X G (c.t.d.fact 7 (f := .free "isinstance") rfl)
  b_len := He.free_ok X G (c.t.d.fact 8 (f := .free "len") rfl)
  b_list := He.free_ok X G (c.t.d.fact 9 (f := .free "list") rfl)
  b_max := He.free_ok X G (c.t.d.fact 10 (f := .free "max") rfl)
  b_min := He.free_ok X G (c.t.d.fact 11 (f := .free "min") rfl)
  b_range := He.free_ok X G (c.t.d.fact 12 (f := .free "range") rfl)
  b_str := He.free_ok X G (c.t.d.fact 13 (f := .free "str") rfl)
  b_sum := He.free_ok X G (c.t.d.fact 14 (f := .free "sum") rfl)
  b_tuple := He.free_ok X G (c.t.d.fact 15 (f := .free "tuple") rfl)
  b_zip := He.free_ok X G (c.t.d.fact 16 (f := .free "zip") rfl)
  g_WORDS := He.glo_ok X G (c.t.d.fact 17 (f := .glo "WORDS") rfl)
  t_WORDS := fun H => He.tupB_ok (exs_at c.more 0 (f := fun K => He.tupB K "WORDS" [.str "a", .str "b", .str "c"]) rfl) H
  g_MODULI := He.glo_ok X G (c.t.d.fact 18 (f := .glo "MODULI") rfl)
  t_MODULI := fun H => He.tupB_ok (exs_at c.more 1 (f := fun K => He.tupB K "MODULI" [.int 2, .int 3, .int 4, .int 5, .int 6, .int 10]) rfl) H
  g_WAYS := He.glo_ok X G (c.t.d.fact 19 (f := .glo "WAYS") rfl)
  t_WAYS := fun H => He.tupB_ok (exs_at c.more 2 (f := fun K => He.tupB K "WAYS" [.str "down", .str "up", .str "near"]) rfl) H
  i_MOST := He.int_ok X G (c.t.d.fact 20 (f := .int "MOST" 5) rfl)
  i_WIDEST := He.int_ok X G (c.t.d.fact 21 (f := .int "WIDEST" 40) rfl)
  g_FORMS := He.glo_ok X G (c.t.d.fact 22 (f := .glo "FORMS") rfl)
  tab_FORMS := table_ok (c.t.tab 0 rfl) (exs_at c.more 3 (f := fun K => tabB K (He.ga K "FORMS") [("clamp", "ab"), ("least", "i"), ("most", "i"), ("round", "mw"), ("shift", "d"), ("fold", "m"), ("mirror", ""), ("turn", ""), ("blank", "ab"), ("refuse", "ab"), ("fill", "f"), ("replace", "vv"), ("void", "k"), ("bar", "n")]) rfl)
  g_GateError := He.glo_ok X G (c.t.d.fact 23 (f := .glo "GateError") rfl)
  x_GateError := He.exc_ok (c.t.d.fact 24 (f := .exc "GateError") rfl)
  em_GateError_GateError := He.exm_ok (c.t.d.fact 25 (f := .exm "GateError" "GateError" true) rfl)
  em_GateError_BadValue := He.exm_ok (c.t.d.fact 26 (f := .exm "GateError" "BadValue" false) rfl)
  em_GateError_BadStep := He.exm_ok (c.t.d.fact 27 (f := .exm "GateError" "BadStep" false) rfl)
  g_BadValue := He.glo_ok X G (c.t.d.fact 28 (f := .glo "BadValue") rfl)
  x_BadValue := He.exc_ok (c.t.d.fact 29 (f := .exc "BadValue") rfl)
  em_BadValue_GateError := He.exm_ok (c.t.d.fact 30 (f := .exm "BadValue" "GateError" true) rfl)
  em_BadValue_BadValue := He.exm_ok (c.t.d.fact 31 (f := .exm "BadValue" "BadValue" true) rfl)
  em_BadValue_BadStep := He.exm_ok (c.t.d.fact 32 (f := .exm "BadValue" "BadStep" false) rfl)
  g_BadStep := He.glo_ok X G (c.t.d.fact 33 (f := .glo "BadStep") rfl)
  o_BadStep := oexB_ok (exs_at c.more 4 (f := fun K => oexB K (He.ga K "BadStep") "index") rfl)
  fi_BadStep := c.t.d.def_ 0 (d := ⟨("BadStep", some "__init__"), "__init__", "BadStep.__init__", defArgs s_BadStep___init__, defBody s_BadStep___init__, defScope s_BadStep___init__, [], []⟩) rfl
  em_BadStep_GateError := He.exm_ok (c.t.d.fact 34 (f := .exm "BadStep" "GateError" true) rfl)
  em_BadStep_BadValue := He.exm_ok (c.t.d.fact 35 (f := .exm "BadStep" "BadValue" false) rfl)
  em_BadStep_BadStep := He.exm_ok (c.t.d.fact 36 (f := .exm "BadStep" "BadStep" true) rfl)
  g_Chain := He.glo_ok X G (c.t.d.fact 37 (f := .glo "Chain") rfl)
  k_Chain := He.cls_ok (c.t.d.fact 38 (f := .cls "Chain") rfl)
  mk_Chain := He.mkr_ok (c.t.d.fact 39 (f := .mkr "Chain") rfl)
  is_Chain := isCB_ok (exs_at c.more 5 (f := fun K => isCB K (He.ga K "Chain")) rfl)
  n_Chain_steps := He.noat_ok (c.t.d.fact 40 (f := .noat "Chain" "steps") rfl)
  f_Chain___init__ := c.t.d.def_ 1 (d := ⟨("Chain", some "__init__"), "__init__", "Chain.__init__", defArgs s_Chain___init__, defBody s_Chain___init__, defScope s_Chain___init__, [], []⟩) rfl
  f_Chain___eq__ := c.t.d.def_ 2 (d := ⟨("Chain", some "__eq__"), "__eq__", "Chain.__eq__", defArgs s_Chain___eq__, defBody s_Chain___eq__, defScope s_Chain___eq__, [], []⟩) rfl
  me_Chain___eq__ := He.meth_ok (c.t.d.fact 41 (f := .meth "Chain" "__eq__") rfl)
  nf_Chain := exs_at c.more 6 (f := fun K => PySem.W.notFirst K (He.ga K "Chain") (.ref (He.ga K "Chain"))) rfl
  f_Chain___add__ := c.t.d.def_ 3 (d := ⟨("Chain", some "__add__"), "__add__", "Chain.__add__", defArgs s_Chain___add__, defBody s_Chain___add__, defScope s_Chain___add__, [], []⟩) rfl
  me_Chain___add__ := He.meth_ok (c.t.d.fact 42 (f := .meth "Chain" "__add__") rfl)
  sf_Chain := exs_at c.more 7 (f := fun K => PySem.W.selfFirst K (He.ga K "Chain")) rfl
  f_Chain___len__ := c.t.d.def_ 4 (d := ⟨("Chain", some "__len__"), "__len__", "Chain.__len__", defArgs s_Chain___len__, defBody s_Chain___len__, defScope s_Chain___len__, [], []⟩) rfl
  me_Chain___len__ := He.meth_ok (c.t.d.fact 43 (f := .meth "Chain" "__len__") rfl)
  g_Walk := He.glo_ok X G (c.t.d.fact 44 (f := .glo "Walk") rfl)
  k_Walk := He.cls_ok (c.t.d.fact 45 (f := .cls "Walk") rfl)
  mk_Walk := He.mkr_ok (c.t.d.fact 46 (f := .mkr "Walk") rfl)
  is_Walk := isCB_ok (exs_at c.more 8 (f := fun K => isCB K (He.ga K "Walk")) rfl)
  n_Walk_steps := He.noat_ok (c.t.d.fact 47 (f := .noat "Walk" "steps") rfl)
  n_Walk_value := He.noat_ok (c.t.d.fact 48 (f := .noat "Walk" "value") rfl)
  n_Walk_times := He.noat_ok (c.t.d.fact 49 (f := .noat "Walk" "times") rfl)
  n_Walk_seen := He.noat_ok (c.t.d.fact 50 (f := .noat "Walk" "seen") rfl)
  n_Walk_far := He.noat_ok (c.t.d.fact 51 (f := .noat "Walk" "far") rfl)
  n_Walk_period := He.noat_ok (c.t.d.fact 52 (f := .noat "Walk" "period") rfl)
  n_Walk_marks := He.noat_ok (c.t.d.fact 53 (f := .noat "Walk" "marks") rfl)
  f_Walk___init__ := c.t.d.def_ 5 (d := ⟨("Walk", some "__init__"), "__init__", "Walk.__init__", defArgs s_Walk___init__, defBody s_Walk___init__, defScope s_Walk___init__, [], []⟩) rfl
  f_Walk_is_far := c.t.d.def_ 6 (d := ⟨("Walk", some "is_far"), "is_far", "Walk.is_far", defArgs s_Walk_is_far, defBody s_Walk_is_far, defScope s_Walk_is_far, [], []⟩) rfl
  me_Walk_is_far := He.meth_ok (c.t.d.fact 54 (f := .meth "Walk" "is_far") rfl)
  f_Walk_mark := c.t.d.def_ 7 (d := ⟨("Walk", some "mark"), "mark", "Walk.mark", defArgs s_Walk_mark, defBody s_Walk_mark, defScope s_Walk_mark, [], []⟩) rfl
  me_Walk_mark := He.meth_ok (c.t.d.fact 55 (f := .meth "Walk" "mark") rfl)
  f_Walk_look_far := c.t.d.def_ 8 (d := ⟨("Walk", some "look_far"), "look_far", "Walk.look_far", defArgs s_Walk_look_far, defBody s_Walk_look_far, defScope s_Walk_look_far, [], []⟩) rfl
  me_Walk_look_far := He.meth_ok (c.t.d.fact 56 (f := .meth "Walk" "look_far") rfl)
  f_Walk_end := c.t.d.def_ 9 (d := ⟨("Walk", some "end"), "end", "Walk.end", defArgs s_Walk_end, defBody s_Walk_end, defScope s_Walk_end, [], []⟩) rfl
  me_Walk_end := He.meth_ok (c.t.d.fact 57 (f := .meth "Walk" "end") rfl)
  nd_tab := of_decide_eq_true (exs_at c.more 9 (f := fun K => decide ((cloFns.map fun p => (He.cT K p).2).Nodup)) rfl)
  g_is_number := He.glo_ok X G (c.t.d.fact 58 (f := .glo "is_number") rfl)
  f_is_number := ⟨He.glo_ok X G (c.t.d.fact 58 (f := .glo "is_number") rfl), c.t.d.def_ 10 (d := ⟨("is_number", none), "is_number", "is_number", defArgs s_is_number, defBody s_is_number, defScope s_is_number, [], []⟩) rfl⟩
  g_is_value := He.glo_ok X G (c.t.d.fact 59 (f := .glo "is_value") rfl)
  f_is_value := ⟨He.glo_ok X G (c.t.d.fact 59 (f := .glo "is_value") rfl), c.t.d.def_ 11 (d := ⟨("is_value", none), "is_value", "is_value", defArgs s_is_value, defBody s_is_value, defScope s_is_value, [], []⟩) rfl⟩
  g_is_small := He.glo_ok X G (c.t.d.fact 60 (f := .glo "is_small") rfl)
  f_is_small := ⟨He.glo_ok X G (c.t.d.fact 60 (f := .glo "is_small") rfl), c.t.d.def_ 12 (d := ⟨("is_small", none), "is_small", "is_small", defArgs s_is_small, defBody s_is_small, defScope s_is_small, [], []⟩) rfl⟩
  g_is_part := He.glo_ok X G (c.t.d.fact 61 (f := .glo "is_part") rfl)
  f_is_part := ⟨He.glo_ok X G (c.t.d.fact 61 (f := .glo "is_part") rfl), c.t.d.def_ 13 (d := ⟨("is_part", none), "is_part", "is_part", defArgs s_is_part, defBody s_is_part, defScope s_is_part, [], []⟩) rfl⟩
  g_is_step := He.glo_ok X G (c.t.d.fact 62 (f := .glo "is_step") rfl)
  f_is_step := ⟨He.glo_ok X G (c.t.d.fact 62 (f := .glo "is_step") rfl), c.t.d.def_ 14 (d := ⟨("is_step", none), "is_step", "is_step", defArgs s_is_step, defBody s_is_step, defScope s_is_step, [], []⟩) rfl⟩
  g_gcd := He.glo_ok X G (c.t.d.fact 63 (f := .glo "gcd") rfl)
  f_gcd := ⟨He.glo_ok X G (c.t.d.fact 63 (f := .glo "gcd") rfl), c.t.d.def_ 15 (d := ⟨("gcd", none), "gcd", "gcd", defArgs s_gcd, defBody s_gcd, defScope s_gcd, [], []⟩) rfl⟩
  g_period_of := He.glo_ok X G (c.t.d.fact 64 (f := .glo "period_of") rfl)
  f_period_of := ⟨He.glo_ok X G (c.t.d.fact 64 (f := .glo "period_of") rfl), c.t.d.def_ 16 (d := ⟨("period_of", none), "period_of", "period_of", defArgs s_period_of, defBody s_period_of, defScope s_period_of, [], []⟩) rfl⟩
  g_reach_of := He.glo_ok X G (c.t.d.fact 65 (f := .glo "reach_of") rfl)
  f_reach_of := ⟨He.glo_ok X G (c.t.d.fact 65 (f := .glo "reach_of") rfl), c.t.d.def_ 17 (d := ⟨("reach_of", none), "reach_of", "reach_of", defArgs s_reach_of, defBody s_reach_of, defScope s_reach_of, [], []⟩) rfl⟩
  g_check_value := He.glo_ok X G (c.t.d.fact 66 (f := .glo "check_value") rfl)
  f_check_value := ⟨He.glo_ok X G (c.t.d.fact 66 (f := .glo "check_value") rfl), c.t.d.def_ 18 (d := ⟨("check_value", none), "check_value", "check_value", defArgs s_check_value, defBody s_check_value, defScope s_check_value, [], []⟩) rfl⟩
  g_kind_of := He.glo_ok X G (c.t.d.fact 67 (f := .glo "kind_of") rfl)
  f_kind_of := ⟨He.glo_ok X G (c.t.d.fact 67 (f := .glo "kind_of") rfl), c.t.d.def_ 19 (d := ⟨("kind_of", none), "kind_of", "kind_of", defArgs s_kind_of, defBody s_kind_of, defScope s_kind_of, [], []⟩) rfl⟩
  g_rounded := He.glo_ok X G (c.t.d.fact 68 (f := .glo "rounded") rfl)
  f_rounded := ⟨He.glo_ok X G (c.t.d.fact 68 (f := .glo "rounded") rfl), c.t.d.def_ 20 (d := ⟨("rounded", none), "rounded", "rounded", defArgs s_rounded, defBody s_rounded, defScope s_rounded, [], []⟩) rfl⟩
  g_of_number := He.glo_ok X G (c.t.d.fact 69 (f := .glo "of_number") rfl)
  f_of_number := ⟨He.glo_ok X G (c.t.d.fact 69 (f := .glo "of_number") rfl), c.t.d.def_ 21 (d := ⟨("of_number", none), "of_number", "of_number", defArgs s_of_number, defBody s_of_number, defScope s_of_number, [], []⟩) rfl⟩
  g_is_same := He.glo_ok X G (c.t.d.fact 70 (f := .glo "is_same") rfl)
  f_is_same := ⟨He.glo_ok X G (c.t.d.fact 70 (f := .glo "is_same") rfl), c.t.d.def_ 22 (d := ⟨("is_same", none), "is_same", "is_same", defArgs s_is_same, defBody s_is_same, defScope s_is_same, [], []⟩) rfl⟩
  g_stepped := He.glo_ok X G (c.t.d.fact 71 (f := .glo "stepped") rfl)
  f_stepped := ⟨He.glo_ok X G (c.t.d.fact 71 (f := .glo "stepped") rfl), c.t.d.def_ 23 (d := ⟨("stepped", none), "stepped", "stepped", defArgs s_stepped, defBody s_stepped, defScope s_stepped, [], []⟩) rfl⟩
  g_followed := He.glo_ok X G (c.t.d.fact 72 (f := .glo "followed") rfl)
  f_followed := ⟨He.glo_ok X G (c.t.d.fact 72 (f := .glo "followed") rfl), c.t.d.def_ 24 (d := ⟨("followed", none), "followed", "followed", defArgs s_followed, defBody s_followed, defScope s_followed, [], []⟩) rfl⟩
  g_result := He.glo_ok X G (c.t.d.fact 73 (f := .glo "result") rfl)
  f_result := ⟨He.glo_ok X G (c.t.d.fact 73 (f := .glo "result") rfl), c.t.d.def_ 25 (d := ⟨("result", none), "result", "result", defArgs s_result, defBody s_result, defScope s_result, [], []⟩) rfl⟩
  g_run := He.glo_ok X G (c.t.d.fact 74 (f := .glo "run") rfl)
  f_run := ⟨He.glo_ok X G (c.t.d.fact 74 (f := .glo "run") rfl), c.t.d.def_ 26 (d := ⟨("run", none), "run", "run", defArgs s_run, defBody s_run, defScope s_run, [], []⟩) rfl⟩
  g_fate := He.glo_ok X G (c.t.d.fact 75 (f := .glo "fate") rfl)
  f_fate := ⟨He.glo_ok X G (c.t.d.fact 75 (f := .glo "fate") rfl), c.t.d.def_ 27 (d := ⟨("fate", none), "fate", "fate", defArgs s_fate, defBody s_fate, defScope s_fate, [], []⟩) rfl⟩
  g_numbers_to := He.glo_ok X G (c.t.d.fact 76 (f := .glo "numbers_to") rfl)
  f_numbers_to := ⟨He.glo_ok X G (c.t.d.fact 76 (f := .glo "numbers_to") rfl), c.t.d.def_ 28 (d := ⟨("numbers_to", none), "numbers_to", "numbers_to", defArgs s_numbers_to, defBody s_numbers_to, defScope s_numbers_to, [], []⟩) rfl⟩
  g_values_for := He.glo_ok X G (c.t.d.fact 77 (f := .glo "values_for") rfl)
  f_values_for := ⟨He.glo_ok X G (c.t.d.fact 77 (f := .glo "values_for") rfl), c.t.d.def_ 29 (d := ⟨("values_for", none), "values_for", "values_for", defArgs s_values_for, defBody s_values_for, defScope s_values_for, [], []⟩) rfl⟩
  g_first_of := He.glo_ok X G (c.t.d.fact 78 (f := .glo "first_of") rfl)
  f_first_of := ⟨He.glo_ok X G (c.t.d.fact 78 (f := .glo "first_of") rfl), c.t.d.def_ 30 (d := ⟨("first_of", none), "first_of", "first_of", defArgs s_first_of, defBody s_first_of, defScope s_first_of, [], []⟩) rfl⟩
  g_parting := He.glo_ok X G (c.t.d.fact 79 (f := .glo "parting") rfl)
  f_parting := ⟨He.glo_ok X G (c.t.d.fact 79 (f := .glo "parting") rfl), c.t.d.def_ 31 (d := ⟨("parting", none), "parting", "parting", defArgs s_parting, defBody s_parting, defScope s_parting, [], []⟩) rfl⟩
  g_alike := He.glo_ok X G (c.t.d.fact 80 (f := .glo "alike") rfl)
  f_alike := ⟨He.glo_ok X G (c.t.d.fact 80 (f := .glo "alike") rfl), c.t.d.def_ 32 (d := ⟨("alike", none), "alike", "alike", defArgs s_alike, defBody s_alike, defScope s_alike, [], []⟩) rfl⟩
  g__law_begin := He.glo_ok X G (c.t.d.fact 81 (f := .glo "_law_begin") rfl)
  f__law_begin := ⟨He.glo_ok X G (c.t.d.fact 81 (f := .glo "_law_begin") rfl), c.t.d.def_ 33 (d := ⟨("_law_begin", none), "_law_begin", "_law_begin", defArgs s__law_begin, defBody s__law_begin, defScope s__law_begin, [], []⟩) rfl⟩
  g__law_draw := He.glo_ok X G (c.t.d.fact 82 (f := .glo "_law_draw") rfl)
  f__law_draw := ⟨He.glo_ok X G (c.t.d.fact 82 (f := .glo "_law_draw") rfl), c.t.d.def_ 34 (d := ⟨("_law_draw", none), "_law_draw", "_law_draw", defArgs s__law_draw, defBody s__law_draw, defScope s__law_draw, [], []⟩) rfl⟩
  g__law_any := He.glo_ok X G (c.t.d.fact 83 (f := .glo "_law_any") rfl)
  f__law_any := ⟨He.glo_ok X G (c.t.d.fact 83 (f := .glo "_law_any") rfl), c.t.d.def_ 35 (d := ⟨("_law_any", none), "_law_any", "_law_any", defArgs s__law_any, defBody s__law_any, defScope s__law_any, [], []⟩) rfl⟩
  g__law_range := He.glo_ok X G (c.t.d.fact 84 (f := .glo "_law_range") rfl)
  f__law_range := ⟨He.glo_ok X G (c.t.d.fact 84 (f := .glo "_law_range") rfl), c.t.d.def_ 36 (d := ⟨("_law_range", none), "_law_range", "_law_range", defArgs s__law_range, defBody s__law_range, defScope s__law_range, [], []⟩) rfl⟩
  g__law_step := He.glo_ok X G (c.t.d.fact 85 (f := .glo "_law_step") rfl)
  f__law_step := ⟨He.glo_ok X G (c.t.d.fact 85 (f := .glo "_law_step") rfl), c.t.d.def_ 37 (d := ⟨("_law_step", none), "_law_step", "_law_step", defArgs s__law_step, defBody s__law_step, defScope s__law_step, [], []⟩) rfl⟩
  g__law_steps := He.glo_ok X G (c.t.d.fact 86 (f := .glo "_law_steps") rfl)
  f__law_steps := ⟨He.glo_ok X G (c.t.d.fact 86 (f := .glo "_law_steps") rfl), c.t.d.def_ 38 (d := ⟨("_law_steps", none), "_law_steps", "_law_steps", defArgs s__law_steps, defBody s__law_steps, defScope s__law_steps, [], []⟩) rfl⟩
  g__law_value := He.glo_ok X G (c.t.d.fact 87 (f := .glo "_law_value") rfl)
  f__law_value := ⟨He.glo_ok X G (c.t.d.fact 87 (f := .glo "_law_value") rfl), c.t.d.def_ 39 (d := ⟨("_law_value", none), "_law_value", "_law_value", defArgs s__law_value, defBody s__law_value, defScope s__law_value, [], []⟩) rfl⟩
  g__law_plain := He.glo_ok X G (c.t.d.fact 88 (f := .glo "_law_plain") rfl)
  f__law_plain := ⟨He.glo_ok X G (c.t.d.fact 88 (f := .glo "_law_plain") rfl), c.t.d.def_ 40 (d := ⟨("_law_plain", none), "_law_plain", "_law_plain", defArgs s__law_plain, defBody s__law_plain, defScope s__law_plain, [], []⟩) rfl⟩
  g__law_turned := He.glo_ok X G (c.t.d.fact 89 (f := .glo "_law_turned") rfl)
  f__law_turned := ⟨He.glo_ok X G (c.t.d.fact 89 (f := .glo "_law_turned") rfl), c.t.d.def_ 41 (d := ⟨("_law_turned", none), "_law_turned", "_law_turned", defArgs s__law_turned, defBody s__law_turned, defScope s__law_turned, [], []⟩) rfl⟩
  g__law_opposite := He.glo_ok X G (c.t.d.fact 90 (f := .glo "_law_opposite") rfl)
  f__law_opposite := ⟨He.glo_ok X G (c.t.d.fact 90 (f := .glo "_law_opposite") rfl), c.t.d.def_ 42 (d := ⟨("_law_opposite", none), "_law_opposite", "_law_opposite", defArgs s__law_opposite, defBody s__law_opposite, defScope s__law_opposite, [], []⟩) rfl⟩
  g_law := He.glo_ok X G (c.t.d.fact 91 (f := .glo "law") rfl)
  f_law := ⟨He.glo_ok X G (c.t.d.fact 91 (f := .glo "law") rfl), c.t.d.def_ 43 (d := ⟨("law", none), "law", "law", defArgs s_law, defBody s_law, defScope s_law, [], []⟩) rfl⟩
end TB

set_option maxHeartbeats 4000000
namespace TB
open PySem PySem.Spec PyProof.Rows L2
local macro_rules | `(tactic| walk_at "same") => `(tactic| first
  | exact Same.refl _
  | assumption
  | ((with_reducible refine' Same.trans ?sa (Same.new ?sb)); (case sb => assumption); (case sa => walk_at "same"))
  | ((with_reducible refine' Same.trans ?sa ?sb); (case sb => assumption); (case sa => walk_at "same"))
  | fail)
local macro_rules | `(tactic| walk_at "at") => `(tactic| first
  | assumption
  | exact upd_same
  | ((with_reducible refine' Same.get (Same.new ?sb) ?sa); (case sb => assumption); (case sa => walk_at "at"))
  | ((with_reducible refine' Same.get ?sb ?sa); (case sb => assumption); (case sa => walk_at "at"))
  | ((with_reducible refine' SameX.get ?sb ?sn ?sa); (case sb => assumption); (case sn => assumption); (case sa => walk_at "at"))
  | fail)
local macro_rules | `(tactic| walk_at "sq") => `(tactic| first
  | assumption
  | ((with_reducible refine' tupAt ?sa); (case sa => walk_at "at"))
  | ((with_reducible refine' lstAt ?sa); (case sa => walk_at "at"))
  | ((with_reducible refine' Same.tup (Same.new ?sb) ?sa); (case sb => assumption); (case sa => walk_at "sq"))
  | ((with_reducible refine' Same.lst (Same.new ?sb) ?sa); (case sb => assumption); (case sa => walk_at "sq"))
  | ((with_reducible refine' Same.tup ?sb ?sa); (case sb => assumption); (case sa => walk_at "sq"))
  | ((with_reducible refine' Same.lst ?sb ?sa); (case sb => assumption); (case sa => walk_at "sq"))
  | fail)
local macro_rules | `(tactic| walk_at "ix") => `(tactic| first
  | with_reducible exact atI_0
  | with_reducible exact atI_1
  | with_reducible exact atI_2
  | with_reducible exact atI_3
  | assumption
  | exact rfl)
local macro_rules | `(tactic| walk_at "dr") => `(tactic| first
  | assumption
  | ((with_reducible refine' DrawsAt.same ?sa (Same.new ?sb)); (case sb => assumption); (case sa => walk_at "dr"))
  | ((with_reducible refine' DrawsAt.same ?sa ?sb); (case sb => assumption); (case sa => walk_at "dr"))
  | fail)
local macro_rules | `(tactic| walk_at "sx") => `(tactic| first
  | exact SameX.refl _ _
  | assumption
  | ((with_reducible refine' SameX.new ?sa ?sb); (case sb => assumption); (case sa => walk_at "sx"))
  | ((with_reducible refine' SameX.trans ?sa ?sb); (case sb => assumption); (case sa => walk_at "sx"))
  | ((with_reducible refine' SameX.trans ?sa (SameX.of ?sb)); (case sb => assumption); (case sa => walk_at "sx"))
  | fail)
local macro_rules | `(tactic| walk_at "x1") => `(tactic| fail)
local macro_rules | `(tactic| walk_at "w1") => `(tactic| first
  | ((with_reducible refine' w_var ?hv ?_); (case hv => exact rfl))
  | with_reducible refine' w_c ?_
  | with_reducible refine' w_op ?_
  | with_reducible refine' w_seq ?_
  | with_reducible refine' w_asg ?_
  | with_reducible refine' w_gname ?_
  | with_reducible refine' w_ret ?_
  | with_reducible refine' w_retN ?_
  | with_reducible refine' w_drop ?_
  | with_reducible refine' w_next ?_
  | with_reducible refine' w_nil ?_
  | with_reducible refine' w_cons ?_
  | with_reducible refine' w_cb ?_
  | with_reducible refine' w_call ?_
  | with_reducible refine' w_callS ?_
  | with_reducible refine' w_un ?_
  | with_reducible refine' w_I0 ?_
  | with_reducible refine' w_U ?_
  | ((with_reducible refine' w_eq ?hv ?_); (case hv => exact rfl))
  | ((with_reducible refine' w_ne ?hv ?_); (case hv => exact rfl))
  | with_reducible refine' w_test ?_
  | with_reducible refine' w_tB ?_
  | with_reducible refine' w_bl ?_
  | with_reducible refine' w_blA ?_
  | with_reducible refine' w_and ?_
  | with_reducible refine' w_or ?_
  | with_reducible refine' w_not ?_
  | with_reducible refine' w_andV ?_
  | with_reducible refine' w_orV ?_
  | with_reducible refine' w_notV ?_
  | with_reducible refine' w_if ?_
  | with_reducible refine' w_ifS ?_
  | with_reducible refine' w_T ?_
  | with_reducible refine' w_F ?_
  | with_reducible refine' w_NT ?_
  | with_reducible refine' w_NF ?_
  | with_reducible refine' w_tup ?_
  | with_reducible refine' w_lst ?_
  | with_reducible refine' w_chain ?_
  | with_reducible refine' w_rfl ?_
  | ((with_reducible refine' w_szn ?hl ?_); (case hl => simp only [List.length_cons, List.length_nil]; decide); intro _ _)
  | ((with_reducible refine' w_isiF ?hv ?hw ?_); (case hv => first | assumption | rfl); (case hw => decide))
  | with_reducible refine' w_slice ?_
  | with_reducible refine' w_nopart ?_
  | with_reducible refine' w_part ?_
  | with_reducible refine' w_partI ?_
  | with_reducible refine' w_lc ?_
  | with_reducible refine' w_for ?_
  | with_reducible refine' w_iZip ?_
  | with_reducible refine' w_iEnum ?_
  | with_reducible refine' w_iList ?_
  | with_reducible refine' w_iTup ?_
  | with_reducible refine' w_iR1 ?_
  | with_reducible refine' w_iR2 ?_
  | with_reducible refine' w_gcons ?_
  | ((with_reducible refine' w_gunl ?hv ?hw ?_); (case hv => walk_at "sq"); (case hw => exact rfl))
  | with_reducible refine' w_gnil ?_
  | ((with_reducible refine' w_gtupH ?hv ?hw ?_); (case hv => walk_at "at"); (case hw => exact rfl))
  | ((with_reducible refine' w_wipe (σ := wipe _ _) ?hv ?_); (case hv => exact rfl))
  | with_reducible refine' w_yes ?_
  | with_reducible refine' w_tru ?_
  | with_reducible refine' w_rs ?_
  | with_reducible refine' w_mkO ?_
  | ((with_reducible refine' w_exc1 ?_); intro _ _)
  | with_reducible refine' w_make ?_
  | with_reducible refine' w_makeS ?_
  | with_reducible refine' w_fldG ?_
  | with_reducible refine' w_setF ?_
  | ((with_reducible refine' w_ixT ?hv ?hw ?_); (case hv => walk_at "sq"); (case hw => walk_at "ix"))
  | ((with_reducible refine' w_ixL ?hv ?hw ?_); (case hv => walk_at "sq"); (case hw => walk_at "ix"))
  | ((with_reducible refine' w_lenT ?hv ?_); (case hv => walk_at "sq"))
  | ((with_reducible refine' w_lenL ?hv ?_); (case hv => walk_at "sq"))
  | ((with_reducible refine' w_I ?hc ?_); (case hc => first | (exact cmul_r (by omega) (by omega)) | (exact cmul_l (by omega) (by omega)) | (show (0 : Int) < _; first | assumption | omega) | (exact ⟨by first | assumption | omega, by first | assumption | omega⟩) | (exact ⟨by omega, by omega, by omega⟩)))
  | with_reducible refine' w_int1 ?_
  | with_reducible refine' w_bm ?_
  | with_reducible refine' w_tryA ?_
  | with_reducible refine' w_tryO ?_
  | with_reducible refine' w_insS ?_
  | with_reducible refine' w_xfG ?_
  | ((with_reducible refine' w_cat ?ha ?hb ?hl ?_); (case ha => walk_at "at"); (case hb => walk_at "at"); (case hl => simp only [List.length_cons, List.length_nil, List.length_append]; decide); intro _ _)
  | with_reducible refine' w_gsub ?_
  | ((with_reducible refine' w_setL ?hv ?hw ?_); (case hv => walk_at "at"); (case hw => exact rfl))
  | walk_at "x1"
  | fail)
local macro_rules | `(tactic| walk_at "w") => `(tactic| repeat' walk_at "w1")
local macro_rules | `(tactic| walk_at "a1") => `(tactic| first
  | with_reducible refine' w_tupR ?_
  | with_reducible refine' w_lstR ?_
  | ((with_reducible refine' w_tupA ?hl ?_); (case hl => simp only [List.length_cons, List.length_nil]; decide); intro _ _ _ _ _)
  | ((with_reducible refine' w_lstA ?hl ?_); (case hl => simp only [List.length_cons, List.length_nil]; decide); intro _ _ _ _ _)
  | ((with_reducible refine' w_catA ?ha ?hb ?hl ?_); (case ha => walk_at "at"); (case hb => walk_at "at"); (case hl => simp only [List.length_cons, List.length_nil, List.length_append]; decide); intro _ _ _ _ _)
  | walk_at "w1"
  | fail)
local macro_rules | `(tactic| walk_at "wa") => `(tactic| repeat' walk_at "a1")

local macro_rules | `(tactic| walk_at "x1") => `(tactic| first
  | ((with_reducible refine' go_isN ?hv ?_); (case hv => first | assumption | rfl))
  | ((with_reducible refine' go_isSm ?hv ?_); (case hv => first | assumption | rfl))
  | fail)
theorem sc_is_number : FnScope ["value"] ["value"] (defScope s_is_number) := ⟨rfl, rfl, rfl, by decide +kernel, rfl, by decide +kernel, by decide +kernel⟩
theorem sc_is_small : FnScope ["value", "most"] ["value", "most"] (defScope s_is_small) := ⟨rfl, rfl, rfl, by decide +kernel, rfl, by decide +kernel, by decide +kernel⟩
theorem sc_is_part : FnScope ["part", "form"] ["part", "form"] (defScope s_is_part) := ⟨rfl, rfl, rfl, by decide +kernel, rfl, by decide +kernel, by decide +kernel⟩
theorem sc_is_step : FnScope ["value", "form", "part", "sign"] ["value"] (defScope s_is_step) := ⟨rfl, rfl, rfl, by decide +kernel, rfl, by decide +kernel, by decide +kernel⟩
section
variable {P : Program} {w : World} {K : PySem.W.Frag} {mg : Str → Option Value} {base : Heap}
theorem ok_is_number (T : Fx w K mg) : Cal P w K mg base 1 "is_number" ["value"] spIsN := by
  refine cal_of T.f_is_number sc_is_number (fun vs H Q E h => ?_) (fun _ _ _ _ _ _ us hl => match us, hl with | [_], _ => rfl) (fun f cdv A outer s H vs Q E hr h => ?_)
  · obtain ⟨x, rfl, _⟩ := h; rfl
  · obtain ⟨x, rfl, hx, k⟩ := h
    refine ⟨_, (pss_one (ps_ret (pe_and (pe_callB call_isi (by rfl) T.b_isinstance (show bootBuiltins "isinstance" = some (.builtin "isinstance") from by decide +kernel) (pa_cons (pv 0) (pa_cons (pe_bty (T := "int") rfl T.b_int (by decide +kernel)) pa_nil))) (pe_one (pe_not (pe_callB call_isi (by rfl) T.b_isinstance (show bootBuiltins "isinstance" = some (.builtin "isinstance") from by decide +kernel) (pa_cons (pv 0) (pa_cons (pe_bty (T := "bool") rfl T.b_bool (by decide +kernel)) pa_nil)))))))), ?_⟩
    walk_at "w"
    refine w_b2 (fun e1 => ?_) (fun e1 => ?_)
    · walk_at "w"
      have e : (!isB x "bool") = isN x := by cases x <;> first | rfl | (cases e1) | cases hx
      rw [e]; exact k
    · have e : false = isN x := by cases x <;> first | rfl | (cases e1) | cases hx
      rw [e]; exact k
theorem ok_is_small (T : Fx w K mg) (c_is_number : Cal P w K mg base 1 "is_number" ["value"] spIsN) : Cal P w K mg base 2 "is_small" ["value", "most"] spIsSm := by
  refine cal_of T.f_is_small sc_is_small (fun vs H Q E h => ?_) (fun _ _ _ _ _ _ us hl => match us, hl with | [_, _], _ => rfl) (fun f cdv A outer s H vs Q E hr h => ?_)
  · obtain ⟨x, m, rfl, _⟩ := h; rfl
  · obtain ⟨x, m, rfl, hx, k⟩ := h
    refine ⟨_, (pss_one (ps_ret (pe_and (pe_cal c_is_number hr (by first | decide | omega) rfl (pa_cons (pv 0) pa_nil)) (pe_one (pe_chain op_le op_le (pe_un un_neg (pv 1)) (pv 0) (pv 1)))))), ?_⟩
    walk_at "w"
    refine w_b2 (fun e1 => ?_) (fun e1 => ?_)
    · cases x <;> first | (cases e1; done) | skip
      walk_at "w"
      rename_i i
      refine w_d2 (fun e2 => ?_) (fun e2 => ?_)
      · walk_at "w"
        have e : decide (i ≤ m) = isSm (.int i) m := by
          show _ = (decide (-m ≤ i) && decide (i ≤ m))
          rw [decide_eq_true e2, Bool.true_and]
        rw [e]; exact k
      · have e : false = isSm (.int i) m := by
          show _ = (decide (-m ≤ i) && decide (i ≤ m))
          rw [decide_eq_false e2, Bool.false_and]
        rw [e]; exact k
    · cases x <;> first | (cases e1; done) | exact k
theorem ok_is_part (T : Fx w K mg) (c_is_number : Cal P w K mg base 1 "is_number" ["value"] spIsN) (c_is_small : Cal P w K mg base 2 "is_small" ["value", "most"] spIsSm) : Cal P w K mg base 3 "is_part" ["part", "form"] spIsPart := by
  refine cal_of T.f_is_part sc_is_part (fun vs H Q E h => ?_) (fun _ _ _ _ _ _ us hl => match us, hl with | [_, _], _ => rfl) (fun f cdv A outer s H vs Q E hr h => ?_)
  · obtain ⟨x, z, rfl, _⟩ := h; rfl
  · obtain ⟨x, z, rfl, hx, k⟩ := h
    refine ⟨_, (pss_cons (ps_if (pt_cmpR (op_in_seq) (pv 1) (pe_tup (pa_cons pe_str (pa_cons pe_str (pa_cons pe_str pa_nil)))) (by rfl)) (pss_one (ps_ret (pe_cal c_is_small hr (by first | decide | omega) rfl (pa_cons (pv 0) (pa_cons (pe_gint rfl T.i_WIDEST) pa_nil))))) pss_nil) (pss_cons (ps_if (pt_cmpR (op_eq) (pv 1) pe_str (nomark _)) (pss_one (ps_ret (pe_cal c_is_small hr (by first | decide | omega) rfl (pa_cons (pv 0) (pa_cons pe_int pa_nil))))) pss_nil) (pss_cons (ps_if (pt_cmpR (op_eq) (pv 1) pe_str (nomark _)) (pss_one (ps_ret (pe_and (pe_cal c_is_number hr (by first | decide | omega) rfl (pa_cons (pv 0) pa_nil)) (pe_one (pe_cmpR (op_in_seq) (pv 0) (pe_gref rfl T.g_MODULI) (by rfl)))))) pss_nil) (pss_cons (ps_if (pt_cmpR (op_in_seq) (pv 1) (pe_tup (pa_cons pe_str (pa_cons pe_str pa_nil))) (by rfl)) (pss_one (ps_ret (pe_or (pe_and (pe_cmpR (op_isN) (pv 0) pe_non (nomark _)) (pe_one (pe_cmpR (op_eq) (pv 1) pe_str (nomark _)))) (pe_or (pe_cal c_is_small hr (by first | decide | omega) rfl (pa_cons (pv 0) (pa_cons (pe_gint rfl T.i_WIDEST) pa_nil))) (pe_one (pe_and (pe_callB call_isi (by rfl) T.b_isinstance (show bootBuiltins "isinstance" = some (.builtin "isinstance") from by decide +kernel) (pa_cons (pv 0) (pa_cons (pe_bty (T := "str") rfl T.b_str (by decide +kernel)) pa_nil))) (pe_one (pe_cmpR (op_in_seq) (pv 0) (pe_gref rfl T.g_WORDS) (by rfl))))))))) pss_nil) (pss_cons (ps_if (pt_not (pt_val (pe_callB call_isi (by rfl) T.b_isinstance (show bootBuiltins "isinstance" = some (.builtin "isinstance") from by decide +kernel) (pa_cons (pv 0) (pa_cons (pe_bty (T := "str") rfl T.b_str (by decide +kernel)) pa_nil))))) (pss_one (ps_ret pe_bl)) pss_nil) (pss_cons (ps_if (pt_cmpR (op_eq) (pv 1) pe_str (nomark _)) (pss_one (ps_ret (pe_cmpR (op_in_seq) (pv 0) (pe_gref rfl T.g_WAYS) (by rfl)))) pss_nil) (pss_one (ps_ret (pe_or (pe_cmpR (op_in_seq) (pv 0) (pe_tup (pa_cons pe_str (pa_cons pe_str pa_nil))) (by rfl)) (pe_one (pe_and (pe_cmpR (op_eq) (pv 1) pe_str (nomark _)) (pe_one (pe_cmpR (op_eq) (pv 0) pe_str (nomark _)))))))))))))), ?_⟩
    walk_at "w"
    refine w_inTs (l := ["a", "b", "i"]) (tupAt (by walk_at "at")) rfl ?_
    walk_at "w"
    refine w_b2 (fun e1 => ?_) (fun e1 => ?_)
    · walk_at "w"
      refine k.eq (by walk_at "same") ?_
      simp only [isPart, e1]; rfl
    walk_at "w"
    refine w_d2 (fun e2 => ?_) (fun e2 => ?_)
    · walk_at "w"
      refine k.eq (by walk_at "same") ?_
      injection e2 with e2; subst e2; rfl
    walk_at "w"
    refine w_d2 (fun e3 => ?_) (fun e3 => ?_)
    · walk_at "w"
      injection e3 with e3; subst e3
      refine w_b2 (fun e4 => ?_) (fun e4 => ?_)
      · walk_at "w"
        refine w_inTi (T.t_MODULI _) e4 ?_
        refine k.eq (by walk_at "same") ?_
        show _ = V.bl (isN x && inM x MODULI)
        rw [e4]; rfl
      · refine k.eq (by walk_at "same") ?_
        show _ = V.bl (isN x && inM x MODULI)
        rw [e4]; rfl
    walk_at "w"
    refine w_inTs (l := ["v", "f"]) (tupAt (by walk_at "at")) rfl ?_
    walk_at "w"
    have z1 : ¬ (z = "d") := fun e => e2 (by rw [e])
    have z2 : ¬ (z = "m") := fun e => e3 (by rw [e])
    have hp : isPart x z = if inW (.str z) ["v", "f"] = true then (decide (x = .non) && decide (z = "v")) || (isSm x 40 || (isS x && inW x WORDS))
        else if isS x = false then false
        else if z = "w" then inW x WAYS
        else inW x ["number", "word"] || (decide (z = "n") && decide (x = .str "none")) := by
      unfold isPart
      rw [e1, if_neg Bool.false_ne_true, if_neg z1, if_neg z2]
    rw [hp] at k
    refine w_b2 (fun e4 => ?_) (fun e4 => ?_)
    · rw [if_pos e4] at k
      walk_at "w"
      have rest : ∀ {H2 : Hp}, Same H H2 → (decide (x = V.non) && decide (z = ("v" : Str))) = false → if isSm x 40 = true then Q (.bl true) H2 else tAndV (tCB (rIsi K) (tCons (tVar 0) (tCons (tC (.ty "str")) tNil))) (tOp (rIn K false) (tVar 0) (tC (.ref (He.ga K "WORDS"))))
          (start ["part", "form"] [x, .str z]) H2 Q := fun {H2} sm e => by
        rw [e, Bool.false_or] at k
        refine w_b2 (fun e5 => ?_) (fun e5 => ?_)
        · refine k.eq sm ?_
          rw [e5]; rfl
        rw [e5, Bool.false_or] at k
        walk_at "w"
        refine w_b2 (fun e6 => ?_) (fun e6 => ?_)
        · walk_at "w"
          refine w_inTs (T.t_WORDS _) hx ?_
          refine k.eq sm ?_
          have e7 : isS x = true := by cases x <;> first | rfl | cases e6 | cases hx
          rw [e7]; rfl
        · refine k.eq sm ?_
          have e7 : isS x = false := by cases x <;> first | rfl | cases e6 | cases hx
          rw [e7]; rfl
      refine w_d2 (fun e5 => ?_) (fun e5 => ?_)
      · walk_at "w"
        refine w_d2 (fun e6 => ?_) (fun e6 => ?_)
        · refine k.eq (by walk_at "same") ?_
          injection e6 with e6; subst e6; subst e5; rfl
        · walk_at "w"
          refine rest (by walk_at "same") ?_
          rw [decide_eq_false (fun e : z = _ => e6 (by rw [e])), Bool.and_false]
      · walk_at "w"
        refine rest (by walk_at "same") ?_
        rw [decide_eq_false e5, Bool.false_and]
    · rw [if_neg (by rw [e4]; exact Bool.false_ne_true)] at k
      walk_at "w"
      refine w_b2 (fun e5 => ?_) (fun e5 => ?_)
      · walk_at "w"
        refine k.eq (by walk_at "same") ?_
        have e7 : isS x = false := by cases x <;> first | rfl | cases e5 | cases hx
        rw [if_pos e7]
      have e7 : isS x = true := by cases x <;> first | rfl | cases e5 | cases hx
      rw [e7, if_neg Bool.noConfusion] at k
      walk_at "w"
      refine w_d2 (fun e6 => ?_) (fun e6 => ?_)
      · walk_at "w"
        refine w_inTs (T.t_WAYS _) hx ?_
        refine k.eq (by walk_at "same") ?_
        injection e6 with e6
        rw [if_pos e6]
      rw [if_neg (fun e => e6 (by rw [e]))] at k
      walk_at "w"
      refine w_inTs (l := ["number", "word"]) (tupAt (by walk_at "at")) hx ?_
      walk_at "w"
      refine w_b2 (fun e8 => ?_) (fun e8 => ?_)
      · refine k.eq (by walk_at "same") ?_
        rw [e8]; rfl
      rw [e8, Bool.false_or] at k
      walk_at "w"
      refine w_d2 (fun e9 => ?_) (fun e9 => ?_)
      · injection e9 with e9
        cases x <;> first | cases e7 | skip
        walk_at "w"
        refine k.eq (by walk_at "same") ?_
        rw [decide_eq_true e9, Bool.true_and]
      · refine k.eq (by walk_at "same") ?_
        rw [decide_eq_false (fun e => e9 (by rw [e])), Bool.false_and]
theorem form_small {z y : Str} (h : FORMS.lookup z = some y) : y.length ≤ 2 := by
  have : ∀ q ∈ FORMS, q.2.length ≤ 2 := by decide +kernel
  have hm : (z, y) ∈ FORMS := by
    revert h
    generalize FORMS = l
    induction l with
    | nil => intro h; cases h
    | cons p l ih =>
      intro h
      obtain ⟨a, b⟩ := p
      rw [List.lookup] at h
      cases e : (z == a) with
      | true =>
        rw [e] at h
        have e2 : z = a := by simpa using e
        have e3 : b = y := by simpa using h
        rw [e2, e3]; exact List.mem_cons_self
      | false =>
        rw [e] at h
        exact List.mem_cons_of_mem _ (ih h)
  exact this _ hm
theorem ok_is_step (T : Fx w K mg) (c_is_part : Cal P w K mg base 3 "is_part" ["part", "form"] spIsPart) : Cal P w K mg base 4 "is_step" ["value"] (spIsStep K) := by
  refine cal_of T.f_is_step sc_is_step (fun vs H Q E h => ?_) (fun _ _ _ _ _ _ us hl => match us, hl with | [_], _ => rfl) (fun f cdv A outer s H vs Q E hr h => ?_)
  · obtain ⟨x, z, rfl, _⟩ := h; rfl
  · obtain ⟨v, it, rfl, hv, hf, k⟩ := h
    refine ⟨_, (pss_cons (ps_if (PW.pt (pw_or (pt_not (pt_val (pe_callB call_isi (by rfl) T.b_isinstance (show bootBuiltins "isinstance" = some (.builtin "isinstance") from by decide +kernel) (pa_cons (pv 0) (pa_cons (pe_bty (T := "tuple") rfl T.b_tuple (by decide +kernel)) pa_nil))))) (pw_or (pt_not (pt_tru (pv 0) (by intro _; rfl))) (pw_or (pt_not (pt_val (pe_callB call_isi (by rfl) T.b_isinstance (show bootBuiltins "isinstance" = some (.builtin "isinstance") from by decide +kernel) (pa_cons (pe_ix ix_tup (pv 0) pe_int (fun _ _ => rfl)) (pa_cons (pe_bty (T := "str") rfl T.b_str (by decide +kernel)) pa_nil))))) (pw_or1 (pt_cmpR (op_notIn_tab T.tab_FORMS) (pe_ix ix_tup (pv 0) pe_int (fun _ _ => rfl)) (pe_gref rfl T.g_FORMS) (by rfl))))))) (pss_one (ps_ret pe_bl)) pss_nil) (pss_cons (ps_set (i := 1) sc_is_step.nd rfl (Or.inl rfl) (pe_ix ix_kdict (pe_gref rfl T.g_FORMS) (pe_ix ix_tup (pv 0) pe_int (fun _ _ => rfl)) (fun _ _ => rfl))) (pss_cons (ps_if (PW.pt (pw_or (pt_cmpR (op_ne) (pe_callB call_lenR (by rfl) T.b_len (show bootBuiltins "len" = some (.builtin "len") from by decide +kernel) (pa_cons (pv 0) pa_nil)) (pe_op (op_add) (pe_callB call_lenR (by rfl) T.b_len (show bootBuiltins "len" = some (.builtin "len") from by decide +kernel) (pa_cons (pv 1) pa_nil)) pe_int) (nomark _)) (pw_or1 (pt_not (pt_val (pe_callB (cr_all rfl) (by rfl) T.b_all (show bootBuiltins "all" = some (.builtin "all") from by decide +kernel) (pa_cons (pe_lc (own := [("part", 2), ("sign", 3)]) (g := gTup K 2 (gCons (gName 2) (gCons (gName 3) gNil))) (tt := tYes) (by rfl) sc_is_step.nd (pi_zipS .t .s rfl T.b_zip (pa_cons (pe_slice sl_tup (pv 0) (po_some pe_int) po_none) (pa_cons (pv 1) pa_nil))) (blkOk_by (own := [("part", 2), ("sign", 3)]) (N := ["value", "form", "part", "sign"]) (sc := defScope s_is_step) (by decide +kernel)) (fun _ _ _ _ _ => pg_tup rfl (pgs_cons (pg_name (i := 2) sc_is_step.nd rfl (Or.inl rfl)) (pgs_cons (pg_name (i := 3) sc_is_step.nd rfl (Or.inl rfl)) pgs_nil))) (fun _ _ _ _ _ => pts_nil) (fun _ _ _ _ _ => (pe_cal c_is_part hr (by first | decide | omega) rfl (pa_cons (pv 2) (pa_cons (pv 3) pa_nil))))) pa_nil))))))) (pss_one (ps_ret pe_bl)) pss_nil) (pss_one (ps_ret (pe_or (pe_cmpR (op_ne) (pv 1) pe_str (nomark _)) (pe_one (pe_cmpR (op_le) (pe_ix ix_tup (pv 0) pe_int (fun _ _ => rfl)) (pe_ix ix_tup (pv 0) pe_int (fun _ _ => rfl)) (nomark _))))))))), ?_⟩
    cases it with
    | non =>
      cases hv
      walk_at "w"
      exact k.eq (by walk_at "same") rfl
    | lst xs =>
      cases v <;> first | exact hv.elim | skip
      rename_i a
      replace hv : SqL K H a xs := hv
      walk_at "w"
      refine w_isiL hv (b := false) (kit_ty (by kernel_rfl)) ?_
      walk_at "w"
      exact k.eq (by walk_at "same") rfl
    | tup xs =>
      cases v <;> first | exact hv.elim | skip
      rename_i a
      replace hv : SqT K H a xs := hv
      walk_at "w"
      refine w_isiT hv (b := true) (kit_ty (by kernel_rfl)) ?_
      walk_at "w"
      cases xs with
      | nil =>
        refine w_trTn hv ?_
        walk_at "w"
        exact k.eq (by walk_at "same") rfl
      | cons x xs =>
        have hx : flatV x = true := by
          have e : ((x :: xs).all flatV) = true := hf
          rw [List.all_cons] at e; exact (ba e).1
        have hxs : xs.all flatV = true := by
          have e : ((x :: xs).all flatV) = true := hf
          rw [List.all_cons] at e; exact (ba e).2
        refine w_trTc hv ?_
        walk_at "w"
        refine w_b2 (fun e1 => ?_) (fun e1 => ?_)
        · walk_at "w"
          refine k.eq (by walk_at "same") ?_
          cases x <;> first | rfl | cases e1
        cases x <;> first | cases e1 | skip
        rename_i z
        walk_at "w"
        refine w_notInTab ?_
        cases el : FORMS.lookup z with
        | none =>
          have er : isStepI (.tup (.str z :: xs)) = false := isStepT_no el
          rw [er] at k
          walk_at "w"
          refine w_T ?_
          walk_at "w"
          exact k.eq (by walk_at "same") rfl
        | some y =>
          have er : isStepI (.tup (.str z :: xs)) = formOk xs y := isStepT_yes el
          rw [er] at k
          walk_at "w"
          refine w_F ?_
          walk_at "w"
          refine w_ixTab T.tab_FORMS el ?_
          walk_at "w"
          refine w_lenS (Nat.le_trans (form_small el) (by decide)) ?_
          walk_at "w"
          have hyl : (signs y).length ≤ 2 := by rw [signs_len]; exact form_small el
          refine w_n2 (fun e1 => ?_) (fun e1 => ?_)
          · walk_at "w"
            refine k.eq (by walk_at "same") ?_
            have e2 : decide (xs.length = y.length) = false := decide_eq_false fun e => e1 (by
              show V.int ((xs.length + 1 : Nat) : Int) = V.int ((y.length : Int) + 1)
              rw [e]; rfl)
            unfold formOk
            rw [e2]; rfl
          have e2 : xs.length = y.length := by
            have e3 : ((xs.length + 1 : Nat) : Int) = (y.length : Int) + 1 := V.int.inj e1
            omega
          walk_at "w"
          refine w_slT1 hv fun p hp => ?_
          walk_at "w"
          refine w_zipS (k1 := .t) (k2 := .s) (xs := xs) (ys := signs y) (show SqT K _ _ _ from tupAt (by walk_at "at")) rfl ?_
          refine w_lcW (walk_zipS (xs := xs) (ys := signs y) rfl) (fun i => ((partBs xs y).take i).map V.bl) rfl (fun H2 sm => ⟨(tupAt (Same.get sm upd_same) : SqT K H2 p xs), rfl⟩) (fun D i x H2 H3 hD hi sm hl hy => ?_) (fun D H2 hD sm hl => ?_)
          · obtain ⟨T1, x1, y1, rfl, hT1, rfl, h1, h2⟩ := hy
            obtain ⟨c, rfl⟩ := signs_at h2
            walk_at "w"
            refine go_isPart (List.all_eq_true.mp hxs _ (List.mem_of_getElem? h1)) fun H4 s4 => ?_
            refine w_put (acc := fun i => ((partBs xs y).take i).map V.bl) hD sm hl (by walk_at "same") (len_lt ?_) (take_map_succ (partBs_at h1 h2))
            rw [List.length_map, List.length_take]; omega
          · have ea : (List.map V.bl (List.take (min xs.length (signs y).length) (partBs xs y))) = (partBs xs y).map V.bl := take_map_all (partBs_len _ _).symm
            rw [ea] at hl
            walk_at "w"
            refine w_all (lstAt hl) ?_
            walk_at "w"
            unfold formOk at k
            rw [decide_eq_true e2, Bool.true_and] at k
            have kk : Ret (.bl (partsOk xs y && (if y = "ab" then leXs xs else true))) H Q := k
            unfold partsOk at kk
            cases eb : (partBs xs y).all id with
            | false =>
              rw [eb] at kk
              walk_at "w"
              exact kk.eq (by walk_at "same") rfl
            | true =>
              rw [eb, Bool.true_and] at kk
              walk_at "w"
              refine w_n2 (fun e3 => ?_) (fun e3 => ?_)
              · refine kk.eq (by walk_at "same") ?_
                rw [if_neg (fun e => e3 (by rw [e]))]
              injection e3 with e3
              subst e3
              rw [if_pos rfl] at kk
              -- two parts
              obtain ⟨x1, x2, rfl⟩ : ∃ x1 x2, xs = [x1, x2] := by
                match xs, e2 with
                | [x1, x2], _ => exact ⟨x1, x2, rfl⟩
              have hi : isSm x1 40 = true ∧ isSm x2 40 = true := by
                have h3 : ((isPart x1 "a") && ((isPart x2 "b") && true)) = true := eb
                obtain ⟨h4, h5⟩ := ba h3
                exact ⟨h4, (ba h5).1⟩
              obtain ⟨i1, rfl⟩ : ∃ i, x1 = .int i := by cases x1 <;> first | exact ⟨_, rfl⟩ | cases hi.1
              obtain ⟨i2, rfl⟩ : ∃ i, x2 = .int i := by cases x2 <;> first | exact ⟨_, rfl⟩ | cases hi.2
              walk_at "w"
              exact kk.eq (by walk_at "same") rfl
end
end TB

set_option maxHeartbeats 4000000
namespace TB
open PySem PySem.Spec PyProof.Rows L2
local macro_rules | `(tactic| walk_at "same") => `(tactic| first
  | exact Same.refl _
  | assumption
  | ((with_reducible refine' Same.trans ?sa (Same.new ?sb)); (case sb => assumption); (case sa => walk_at "same"))
  | ((with_reducible refine' Same.trans ?sa ?sb); (case sb => assumption); (case sa => walk_at "same"))
  | fail)
local macro_rules | `(tactic| walk_at "at") => `(tactic| first
  | assumption
  | exact upd_same
  | ((with_reducible refine' Same.get (Same.new ?sb) ?sa); (case sb => assumption); (case sa => walk_at "at"))
  | ((with_reducible refine' Same.get ?sb ?sa); (case sb => assumption); (case sa => walk_at "at"))
  | ((with_reducible refine' SameX.get ?sb ?sn ?sa); (case sb => assumption); (case sn => assumption); (case sa => walk_at "at"))
  | fail)
local macro_rules | `(tactic| walk_at "sq") => `(tactic| first
  | assumption
  | ((with_reducible refine' tupAt ?sa); (case sa => walk_at "at"))
  | ((with_reducible refine' lstAt ?sa); (case sa => walk_at "at"))
  | ((with_reducible refine' Same.tup (Same.new ?sb) ?sa); (case sb => assumption); (case sa => walk_at "sq"))
  | ((with_reducible refine' Same.lst (Same.new ?sb) ?sa); (case sb => assumption); (case sa => walk_at "sq"))
  | ((with_reducible refine' Same.tup ?sb ?sa); (case sb => assumption); (case sa => walk_at "sq"))
  | ((with_reducible refine' Same.lst ?sb ?sa); (case sb => assumption); (case sa => walk_at "sq"))
  | fail)
local macro_rules | `(tactic| walk_at "ix") => `(tactic| first
  | with_reducible exact atI_0
  | with_reducible exact atI_1
  | with_reducible exact atI_2
  | with_reducible exact atI_3
  | assumption
  | exact rfl)
local macro_rules | `(tactic| walk_at "dr") => `(tactic| first
  | assumption
  | ((with_reducible refine' DrawsAt.same ?sa (Same.new ?sb)); (case sb => assumption); (case sa => walk_at "dr"))
  | ((with_reducible refine' DrawsAt.same ?sa ?sb); (case sb => assumption); (case sa => walk_at "dr"))
  | fail)
local macro_rules | `(tactic| walk_at "sx") => `(tactic| first
  | exact SameX.refl _ _
  | assumption
  | ((with_reducible refine' SameX.new ?sa ?sb); (case sb => assumption); (case sa => walk_at "sx"))
  | ((with_reducible refine' SameX.trans ?sa ?sb); (case sb => assumption); (case sa => walk_at "sx"))
  | ((with_reducible refine' SameX.trans ?sa (SameX.of ?sb)); (case sb => assumption); (case sa => walk_at "sx"))
  | fail)
local macro_rules | `(tactic| walk_at "x1") => `(tactic| fail)
local macro_rules | `(tactic| walk_at "w1") => `(tactic| first
  | ((with_reducible refine' w_var ?hv ?_); (case hv => exact rfl))
  | with_reducible refine' w_c ?_
  | with_reducible refine' w_op ?_
  | with_reducible refine' w_seq ?_
  | with_reducible refine' w_asg ?_
  | with_reducible refine' w_gname ?_
  | with_reducible refine' w_ret ?_
  | with_reducible refine' w_retN ?_
  | with_reducible refine' w_drop ?_
  | with_reducible refine' w_next ?_
  | with_reducible refine' w_nil ?_
  | with_reducible refine' w_cons ?_
  | with_reducible refine' w_cb ?_
  | with_reducible refine' w_call ?_
  | with_reducible refine' w_callS ?_
  | with_reducible refine' w_un ?_
  | with_reducible refine' w_I0 ?_
  | with_reducible refine' w_U ?_
  | ((with_reducible refine' w_eq ?hv ?_); (case hv => exact rfl))
  | ((with_reducible refine' w_ne ?hv ?_); (case hv => exact rfl))
  | with_reducible refine' w_test ?_
  | with_reducible refine' w_tB ?_
  | with_reducible refine' w_bl ?_
  | with_reducible refine' w_blA ?_
  | with_reducible refine' w_and ?_
  | with_reducible refine' w_or ?_
  | with_reducible refine' w_not ?_
  | with_reducible refine' w_andV ?_
  | with_reducible refine' w_orV ?_
  | with_reducible refine' w_notV ?_
  | with_reducible refine' w_if ?_
  | with_reducible refine' w_ifS ?_
  | with_reducible refine' w_T ?_
  | with_reducible refine' w_F ?_
  | with_reducible refine' w_NT ?_
  | with_reducible refine' w_NF ?_
  | with_reducible refine' w_tup ?_
  | with_reducible refine' w_lst ?_
  | with_reducible refine' w_chain ?_
  | with_reducible refine' w_rfl ?_
  | ((with_reducible refine' w_szn ?hl ?_); (case hl => simp only [List.length_cons, List.length_nil]; decide); intro _ _)
  | ((with_reducible refine' w_isiF ?hv ?hw ?_); (case hv => first | assumption | rfl); (case hw => decide))
  | with_reducible refine' w_slice ?_
  | with_reducible refine' w_nopart ?_
  | with_reducible refine' w_part ?_
  | with_reducible refine' w_partI ?_
  | with_reducible refine' w_lc ?_
  | with_reducible refine' w_for ?_
  | with_reducible refine' w_iZip ?_
  | with_reducible refine' w_iEnum ?_
  | with_reducible refine' w_iList ?_
  | with_reducible refine' w_iTup ?_
  | with_reducible refine' w_iR1 ?_
  | with_reducible refine' w_iR2 ?_
  | with_reducible refine' w_gcons ?_
  | ((with_reducible refine' w_gunl ?hv ?hw ?_); (case hv => walk_at "sq"); (case hw => exact rfl))
  | with_reducible refine' w_gnil ?_
  | ((with_reducible refine' w_gtupH ?hv ?hw ?_); (case hv => walk_at "at"); (case hw => exact rfl))
  | ((with_reducible refine' w_wipe (σ := wipe _ _) ?hv ?_); (case hv => exact rfl))
  | with_reducible refine' w_yes ?_
  | with_reducible refine' w_tru ?_
  | with_reducible refine' w_rs ?_
  | with_reducible refine' w_mkO ?_
  | ((with_reducible refine' w_exc1 ?_); intro _ _)
  | with_reducible refine' w_make ?_
  | with_reducible refine' w_makeS ?_
  | with_reducible refine' w_fldG ?_
  | with_reducible refine' w_setF ?_
  | ((with_reducible refine' w_ixT ?hv ?hw ?_); (case hv => walk_at "sq"); (case hw => walk_at "ix"))
  | ((with_reducible refine' w_ixL ?hv ?hw ?_); (case hv => walk_at "sq"); (case hw => walk_at "ix"))
  | ((with_reducible refine' w_lenT ?hv ?_); (case hv => walk_at "sq"))
  | ((with_reducible refine' w_lenL ?hv ?_); (case hv => walk_at "sq"))
  | ((with_reducible refine' w_I ?hc ?_); (case hc => first | (exact cmul_r (by omega) (by omega)) | (exact cmul_l (by omega) (by omega)) | (show (0 : Int) < _; first | assumption | omega) | (exact ⟨by first | assumption | omega, by first | assumption | omega⟩) | (exact ⟨by omega, by omega, by omega⟩)))
  | with_reducible refine' w_int1 ?_
  | with_reducible refine' w_bm ?_
  | with_reducible refine' w_tryA ?_
  | with_reducible refine' w_tryO ?_
  | with_reducible refine' w_insS ?_
  | with_reducible refine' w_xfG ?_
  | ((with_reducible refine' w_cat ?ha ?hb ?hl ?_); (case ha => walk_at "at"); (case hb => walk_at "at"); (case hl => simp only [List.length_cons, List.length_nil, List.length_append]; decide); intro _ _)
  | with_reducible refine' w_gsub ?_
  | ((with_reducible refine' w_setL ?hv ?hw ?_); (case hv => walk_at "at"); (case hw => exact rfl))
  | walk_at "x1"
  | fail)
local macro_rules | `(tactic| walk_at "w") => `(tactic| repeat' walk_at "w1")
local macro_rules | `(tactic| walk_at "a1") => `(tactic| first
  | with_reducible refine' w_tupR ?_
  | with_reducible refine' w_lstR ?_
  | ((with_reducible refine' w_tupA ?hl ?_); (case hl => simp only [List.length_cons, List.length_nil]; decide); intro _ _ _ _ _)
  | ((with_reducible refine' w_lstA ?hl ?_); (case hl => simp only [List.length_cons, List.length_nil]; decide); intro _ _ _ _ _)
  | ((with_reducible refine' w_catA ?ha ?hb ?hl ?_); (case ha => walk_at "at"); (case hb => walk_at "at"); (case hl => simp only [List.length_cons, List.length_nil, List.length_append]; decide); intro _ _ _ _ _)
  | walk_at "w1"
  | fail)
local macro_rules | `(tactic| walk_at "wa") => `(tactic| repeat' walk_at "a1")

theorem sc_BadStep___init__ : FnScope ["self", "index"] ["self", "index"] (defScope s_BadStep___init__) := ⟨rfl, rfl, rfl, by decide +kernel, rfl, by decide +kernel, by decide +kernel⟩
theorem sc_Chain___init__ : FnScope ["self", "steps", "index", "step"] ["self", "steps"] (defScope s_Chain___init__) := ⟨rfl, rfl, rfl, by decide +kernel, rfl, by decide +kernel, by decide +kernel⟩
theorem sc_Chain___len__ : FnScope ["self"] ["self"] (defScope s_Chain___len__) := ⟨rfl, rfl, rfl, by decide +kernel, rfl, by decide +kernel, by decide +kernel⟩
section
variable {P : Program} {w : World} {K : PySem.W.Frag} {mg : Str → Option Value} {base : Heap}
theorem ok_BadStep (T : Fx w K mg) : Exc P w K mg base "BadStep" "index" ["self", "index"] := by
  refine exc_of T.o_BadStep T.g_BadStep (mt_of T.fi_BadStep sc_BadStep___init__ (fun vs H Q E h => ?_) (fun _ _ _ _ _ _ us hl => match us, hl with | [_, _], _ => rfl) (fun f cdv A outer s H vs Q E hr h => ?_))
  · obtain ⟨x, y, rfl, _⟩ := h; rfl
  · obtain ⟨a, y, rfl, ha, k⟩ := h
    refine ⟨_, pss_one (ps_ost (f := "index") (pv 0) (pv 1)), ?_⟩
    refine w_ostG ?_
    walk_at "w"
    exact w_ost T.o_BadStep.o T.o_BadStep.no ha k
theorem ok_Chain (T : Fx w K mg) (c_is_step : Cal P w K mg base 4 "is_step" ["value"] (spIsStep K)) (c_BadStep : Exc P w K mg base "BadStep" "index" ["self", "index"]) : Mak P w K mg base 5 "Chain" ["self", "steps"] (spChain K) := by
  refine mak_of T.mk_Chain T.g_Chain (mt_of T.f_Chain___init__ sc_Chain___init__ (fun vs H Q E h => ?_) (fun _ _ _ _ _ _ us hl => match us, hl with | [_, _], _ => rfl) (fun f cdv A outer s H vs Q E hr h => ?_))
  · obtain ⟨x, l, dx, its, items, rfl, _⟩ := h; rfl
  · obtain ⟨x, l, dx, its, items, rfl, hx, hl, hi, hok, hlen, k⟩ := h
    refine ⟨_, (pss_cons (ps_if (pt_cmpR (op_gt) (pe_callB call_lenR (by rfl) T.b_len (show bootBuiltins "len" = some (.builtin "len") from by decide +kernel) (pa_cons (pv 1) pa_nil)) (pe_gint rfl T.i_MOST) (nomark _)) (pss_one (ps_rs rfl (takes_of rfl rfl rfl rfl) (pmk_exc1 c_BadStep hr (by first | decide | omega) rfl (pa_cons (pe_gint rfl T.i_MOST) pa_nil)))) pss_nil) (pss_cons (ps_for (passes_of rfl) rfl (pi_enumS rfl T.b_enumerate (pa_cons (pv 1) pa_nil)) (pg_tup rfl (pgs_cons (pg_name (i := 2) sc_Chain___init__.nd rfl (Or.inl rfl)) (pgs_cons (pg_name (i := 3) sc_Chain___init__.nd rfl (Or.inl rfl)) pgs_nil))) (pss_one (ps_if (pt_not (pt_val (pe_cal c_is_step hr (by first | decide | omega) rfl (pa_cons (pv 3) pa_nil)))) (pss_one (ps_rs rfl (takes_of rfl rfl rfl rfl) (pmk_exc1 c_BadStep hr (by first | decide | omega) rfl (pa_cons (pv 2) pa_nil)))) pss_nil))) (pss_one (ps_fld (pv 0) (pe_callTy call_tupOf (by rfl) T.b_tuple (show bootBuiltins "tuple" = some (.type "tuple") from by decide +kernel) (pa_cons (pv 1) pa_nil)) rfl)))), ?_⟩
    have hll : its.length = items.length := hi.length
    walk_at "w"
    refine w_lenQ hl ?_
    walk_at "w"
    refine w_d2 (fun e1 => ?_) (fun e1 => ?_)
    · walk_at "w"
      have e2 : 5 < its.length := by omega
      rw [dueI_many e2] at k
      exact k _ _ (Same.new ‹_›) upd_same
    have e2 : ¬ 5 < its.length := by omega
    walk_at "w"
    obtain ⟨kk, hs, hsm⟩ := hl.src
    refine w_enumSrc hs ?_
    refine w_forW (walk_enumS (k := kk) (xs := items)) (fun i σ H' => (∃ o2 o3, σ = [some (.ref x), some (.ref l), o2, o3]) ∧ Same H H' ∧ badAt its 0 = badAt (its.drop i) i)
      ⟨⟨_, _, rfl⟩, Same.refl _, rfl⟩ (fun i σ H' _ p => hsm H' p.2.1) (fun i v σ H1 H2 hi' p hy => ?_) (fun σ H1 p => ?_)
    · obtain ⟨⟨o2, o3, rfl⟩, sm, hb⟩ := p
      obtain ⟨T1, x1, y1, rfl, hT1, rfl, h1, h2⟩ := hy
      cases h1
      obtain ⟨it, hit, hat⟩ := Paired.at_ hi h2
      walk_at "w"
      have sm2 : Same H (upd H1 T1 (.tup [.int (i : Int), y1])) := Same.trans sm (Same.new hT1)
      refine go_isStep (it := it) (hat.same sm2) (hok _ (List.mem_of_getElem? hit)) fun H3 s3 => ?_
      walk_at "w"
      refine w_b2 (fun e3 => ?_) (fun e3 => ?_)
      · walk_at "w"
        have e4 : isStepI it = false := by cases e : isStepI it <;> first | rfl | (rw [e] at e3; cases e3)
        rw [badAt_step hit, e4, if_neg Bool.false_ne_true] at hb
        rw [dueI_bad e2 hb] at k
        exact k _ _ (Same.trans sm2 (Same.trans s3 (Same.new ‹_›))) upd_same
      · walk_at "w"
        have e4 : isStepI it = true := by cases e : isStepI it <;> first | rfl | (rw [e] at e3; cases e3)
        rw [badAt_step hit, e4, if_pos rfl] at hb
        exact ⟨⟨_, _, rfl⟩, Same.trans sm2 s3, hb⟩
    · obtain ⟨⟨o2, o3, rfl⟩, sm, hb⟩ := p
      rw [badAt_end hll.symm] at hb
      rw [dueI_none e2 hb] at k
      walk_at "w"
      have fin : ∀ (t : Addr) (H2 : Hp), Same H H2 → SqT K H2 t items → rSetF K "steps" (.ref x) (.ref t) H2 [some (.ref x), some (.ref l), o2, o3] (fun _ H' => Q .non H') := fun t H2 s2 h2 => by
        refine w_put1 (s2 _ _ hx) T.k_Chain T.n_Chain_steps (by decide) ?_
        refine k _ t (fun b o hb ho => by rw [upd_ne hb]; exact s2 _ _ ho) upd_same ?_
        rcases h2 with (h2 | ⟨o, h2⟩) | h2
        · refine .inl (.inl ?_)
          rw [upd_ne (fun e => ?_)]
          · exact h2
          · rw [e, s2 _ _ hx] at h2; cases h2
        · refine .inl (.inr ⟨o, ?_⟩)
          rw [upd_ne (fun e => ?_)]
          · exact h2
          · rw [e, s2 _ _ hx] at h2; cases h2
        · exact .inr h2
      rcases hl with hl | hl
      · refine w_tupOfL (Same.lst sm hl) fun t ht => ?_
        walk_at "w"
        exact fin t _ (Same.trans sm (Same.new ht)) (tupAt upd_same)
      · refine w_tupOfT (Same.tup sm hl) ?_
        walk_at "w"
        exact fin l _ sm (Same.tup sm hl)
end
end TB

set_option maxHeartbeats 4000000
namespace TB
open PySem PySem.Spec PyProof.Rows L2
local macro_rules | `(tactic| walk_at "same") => `(tactic| first
  | exact Same.refl _
  | assumption
  | ((with_reducible refine' Same.trans ?sa (Same.new ?sb)); (case sb => assumption); (case sa => walk_at "same"))
  | ((with_reducible refine' Same.trans ?sa ?sb); (case sb => assumption); (case sa => walk_at "same"))
  | fail)
local macro_rules | `(tactic| walk_at "at") => `(tactic| first
  | assumption
  | exact upd_same
  | ((with_reducible refine' Same.get (Same.new ?sb) ?sa); (case sb => assumption); (case sa => walk_at "at"))
  | ((with_reducible refine' Same.get ?sb ?sa); (case sb => assumption); (case sa => walk_at "at"))
  | ((with_reducible refine' SameX.get ?sb ?sn ?sa); (case sb => assumption); (case sn => assumption); (case sa => walk_at "at"))
  | fail)
local macro_rules | `(tactic| walk_at "sq") => `(tactic| first
  | assumption
  | ((with_reducible refine' tupAt ?sa); (case sa => walk_at "at"))
  | ((with_reducible refine' lstAt ?sa); (case sa => walk_at "at"))
  | ((with_reducible refine' Same.tup (Same.new ?sb) ?sa); (case sb => assumption); (case sa => walk_at "sq"))
  | ((with_reducible refine' Same.lst (Same.new ?sb) ?sa); (case sb => assumption); (case sa => walk_at "sq"))
  | ((with_reducible refine' Same.tup ?sb ?sa); (case sb => assumption); (case sa => walk_at "sq"))
  | ((with_reducible refine' Same.lst ?sb ?sa); (case sb => assumption); (case sa => walk_at "sq"))
  | fail)
local macro_rules | `(tactic| walk_at "ix") => `(tactic| first
  | with_reducible exact atI_0
  | with_reducible exact atI_1
  | with_reducible exact atI_2
  | with_reducible exact atI_3
  | assumption
  | exact rfl)
local macro_rules | `(tactic| walk_at "dr") => `(tactic| first
  | assumption
  | ((with_reducible refine' DrawsAt.same ?sa (Same.new ?sb)); (case sb => assumption); (case sa => walk_at "dr"))
  | ((with_reducible refine' DrawsAt.same ?sa ?sb); (case sb => assumption); (case sa => walk_at "dr"))
  | fail)
local macro_rules | `(tactic| walk_at "sx") => `(tactic| first
  | exact SameX.refl _ _
  | assumption
  | ((with_reducible refine' SameX.new ?sa ?sb); (case sb => assumption); (case sa => walk_at "sx"))
  | ((with_reducible refine' SameX.trans ?sa ?sb); (case sb => assumption); (case sa => walk_at "sx"))
  | ((with_reducible refine' SameX.trans ?sa (SameX.of ?sb)); (case sb => assumption); (case sa => walk_at "sx"))
  | fail)
local macro_rules | `(tactic| walk_at "x1") => `(tactic| fail)
local macro_rules | `(tactic| walk_at "w1") => `(tactic| first
  | ((with_reducible refine' w_var ?hv ?_); (case hv => exact rfl))
  | with_reducible refine' w_c ?_
  | with_reducible refine' w_op ?_
  | with_reducible refine' w_seq ?_
  | with_reducible refine' w_asg ?_
  | with_reducible refine' w_gname ?_
  | with_reducible refine' w_ret ?_
  | with_reducible refine' w_retN ?_
  | with_reducible refine' w_drop ?_
  | with_reducible refine' w_next ?_
  | with_reducible refine' w_nil ?_
  | with_reducible refine' w_cons ?_
  | with_reducible refine' w_cb ?_
  | with_reducible refine' w_call ?_
  | with_reducible refine' w_callS ?_
  | with_reducible refine' w_un ?_
  | with_reducible refine' w_I0 ?_
  | with_reducible refine' w_U ?_
  | ((with_reducible refine' w_eq ?hv ?_); (case hv => exact rfl))
  | ((with_reducible refine' w_ne ?hv ?_); (case hv => exact rfl))
  | with_reducible refine' w_test ?_
  | with_reducible refine' w_tB ?_
  | with_reducible refine' w_bl ?_
  | with_reducible refine' w_blA ?_
  | with_reducible refine' w_and ?_
  | with_reducible refine' w_or ?_
  | with_reducible refine' w_not ?_
  | with_reducible refine' w_andV ?_
  | with_reducible refine' w_orV ?_
  | with_reducible refine' w_notV ?_
  | with_reducible refine' w_if ?_
  | with_reducible refine' w_ifS ?_
  | with_reducible refine' w_T ?_
  | with_reducible refine' w_F ?_
  | with_reducible refine' w_NT ?_
  | with_reducible refine' w_NF ?_
  | with_reducible refine' w_tup ?_
  | with_reducible refine' w_lst ?_
  | with_reducible refine' w_chain ?_
  | with_reducible refine' w_rfl ?_
  | ((with_reducible refine' w_szn ?hl ?_); (case hl => simp only [List.length_cons, List.length_nil]; decide); intro _ _)
  | ((with_reducible refine' w_isiF ?hv ?hw ?_); (case hv => first | assumption | rfl); (case hw => decide))
  | with_reducible refine' w_slice ?_
  | with_reducible refine' w_nopart ?_
  | with_reducible refine' w_part ?_
  | with_reducible refine' w_partI ?_
  | with_reducible refine' w_lc ?_
  | with_reducible refine' w_for ?_
  | with_reducible refine' w_iZip ?_
  | with_reducible refine' w_iEnum ?_
  | with_reducible refine' w_iList ?_
  | with_reducible refine' w_iTup ?_
  | with_reducible refine' w_iR1 ?_
  | with_reducible refine' w_iR2 ?_
  | with_reducible refine' w_gcons ?_
  | ((with_reducible refine' w_gunl ?hv ?hw ?_); (case hv => walk_at "sq"); (case hw => exact rfl))
  | with_reducible refine' w_gnil ?_
  | ((with_reducible refine' w_gtupH ?hv ?hw ?_); (case hv => walk_at "at"); (case hw => exact rfl))
  | ((with_reducible refine' w_wipe (σ := wipe _ _) ?hv ?_); (case hv => exact rfl))
  | with_reducible refine' w_yes ?_
  | with_reducible refine' w_tru ?_
  | with_reducible refine' w_rs ?_
  | with_reducible refine' w_mkO ?_
  | ((with_reducible refine' w_exc1 ?_); intro _ _)
  | with_reducible refine' w_make ?_
  | with_reducible refine' w_makeS ?_
  | with_reducible refine' w_fldG ?_
  | with_reducible refine' w_setF ?_
  | ((with_reducible refine' w_ixT ?hv ?hw ?_); (case hv => walk_at "sq"); (case hw => walk_at "ix"))
  | ((with_reducible refine' w_ixL ?hv ?hw ?_); (case hv => walk_at "sq"); (case hw => walk_at "ix"))
  | ((with_reducible refine' w_lenT ?hv ?_); (case hv => walk_at "sq"))
  | ((with_reducible refine' w_lenL ?hv ?_); (case hv => walk_at "sq"))
  | ((with_reducible refine' w_I ?hc ?_); (case hc => first | (exact cmul_r (by omega) (by omega)) | (exact cmul_l (by omega) (by omega)) | (show (0 : Int) < _; first | assumption | omega) | (exact ⟨by first | assumption | omega, by first | assumption | omega⟩) | (exact ⟨by omega, by omega, by omega⟩)))
  | with_reducible refine' w_int1 ?_
  | with_reducible refine' w_bm ?_
  | with_reducible refine' w_tryA ?_
  | with_reducible refine' w_tryO ?_
  | with_reducible refine' w_insS ?_
  | with_reducible refine' w_xfG ?_
  | ((with_reducible refine' w_cat ?ha ?hb ?hl ?_); (case ha => walk_at "at"); (case hb => walk_at "at"); (case hl => simp only [List.length_cons, List.length_nil, List.length_append]; decide); intro _ _)
  | with_reducible refine' w_gsub ?_
  | ((with_reducible refine' w_setL ?hv ?hw ?_); (case hv => walk_at "at"); (case hw => exact rfl))
  | walk_at "x1"
  | fail)
local macro_rules | `(tactic| walk_at "w") => `(tactic| repeat' walk_at "w1")
local macro_rules | `(tactic| walk_at "a1") => `(tactic| first
  | with_reducible refine' w_tupR ?_
  | with_reducible refine' w_lstR ?_
  | ((with_reducible refine' w_tupA ?hl ?_); (case hl => simp only [List.length_cons, List.length_nil]; decide); intro _ _ _ _ _)
  | ((with_reducible refine' w_lstA ?hl ?_); (case hl => simp only [List.length_cons, List.length_nil]; decide); intro _ _ _ _ _)
  | ((with_reducible refine' w_catA ?ha ?hb ?hl ?_); (case ha => walk_at "at"); (case hb => walk_at "at"); (case hl => simp only [List.length_cons, List.length_nil, List.length_append]; decide); intro _ _ _ _ _)
  | walk_at "w1"
  | fail)
local macro_rules | `(tactic| walk_at "wa") => `(tactic| repeat' walk_at "a1")

theorem sc__law_begin : FnScope ["_law_script"] ["_law_script"] (defScope s__law_begin) := ⟨rfl, rfl, rfl, by decide +kernel, rfl, by decide +kernel, by decide +kernel⟩
theorem sc__law_draw : FnScope ["_law_draws", "_law_many", "_law_cell", "_law_found"] ["_law_draws", "_law_many"] (defScope s__law_draw) := ⟨rfl, rfl, rfl, by decide +kernel, rfl, by decide +kernel, by decide +kernel⟩
section
variable {P : Program} {w : World} {K : PySem.W.Frag} {mg : Str → Option Value} {base : Heap}
theorem ok_begin (T : Fx w K mg) : Cal P w K mg base 1 "_law_begin" ["_law_script"] (spBegin K) := by
  refine cal_of T.f__law_begin sc__law_begin (fun vs H Q E h => ?_) (fun _ _ _ _ _ _ us hl => match us, hl with | [_], _ => rfl) (fun f cdv A outer s H vs Q E hr h => ?_)
  · obtain ⟨a, cells, rfl, _⟩ := h; rfl
  · obtain ⟨a, cells, rfl, ha, k⟩ := h
    refine ⟨_, (pss_one (ps_ret (pe_lst (pa_cons (pe_callTy call_listOf (by rfl) T.b_list (show bootBuiltins "list" = some (.type "list") from by decide +kernel) (pa_cons (pv 0) pa_nil)) (pa_cons pe_int (pa_cons pe_int (pa_cons pe_int pa_nil))))))), ?_⟩
    walk_at "w"
    refine w_listOf (.inl ha) fun l hl => ?_
    walk_at "w"
    rename_i d hd
    have hld : l ≠ d := fun e => by rw [← e, upd_same] at hd; cases hd
    refine k d l _ ?_ (by walk_at "same") ⟨0, 0, 7, upd_same, ?_, hld, by decide, by decide⟩
    · rw [upd_ne (Ne.symm hld)] at hd; exact hd
    · rw [upd_ne hld]; exact upd_same
theorem ok_draw (T : Fx w K mg) : Cal P w K mg base 1 "_law_draw" ["_law_draws", "_law_many"] spDraw := by
  refine cal_of T.f__law_draw sc__law_draw (fun vs H Q E h => ?_) (fun _ _ _ _ _ _ us hl => match us, hl with | [_, _], _ => rfl) (fun f cdv A outer s H vs Q E hr h => ?_)
  · obtain ⟨a, m, ⟨c, cells⟩, rfl, _⟩ := h; rfl
  · obtain ⟨d, m, ⟨c, cells⟩, rfl, m0, m1, ⟨a, b, sd, hd, hc, hcd, ha, hb⟩, k⟩ := h
    refine ⟨_, (pss_cons (ps_if (pt_cmpR (op_eq) (pe_ix ix_list (pv 0) pe_int (fun _ _ => rfl)) pe_int (nomark _)) (pss_one (ps_if (pt_cmpR (op_lt) (pe_ix ix_list (pv 0) pe_int (fun _ _ => rfl)) (pe_callB call_lenR (by rfl) T.b_len (show bootBuiltins "len" = some (.builtin "len") from by decide +kernel) (pa_cons (pe_ix ix_list (pv 0) pe_int (fun _ _ => rfl)) pa_nil)) (nomark _)) (pss_cons (ps_set (i := 2) sc__law_draw.nd rfl (Or.inl rfl) (pe_ix ix_list (pe_ix ix_list (pv 0) pe_int (fun _ _ => rfl)) (pe_ix ix_list (pv 0) pe_int (fun _ _ => rfl)) (fun _ _ => rfl))) (pss_cons (ps_asg (pe_op (op_add) (pe_ix ix_list (pv 0) pe_int (fun _ _ => rfl)) pe_int) (pg_sub (pv 0) pe_int set_list)) (pss_one (ps_if (pt_cmpR (op_ge) (pv 2) (pe_op (op_pow) pe_int pe_int) (nomark _)) (pss_one (ps_asg (pv 2) (pg_sub (pv 0) pe_int set_list))) (pss_one (ps_asg (pe_op (op_mod) (pe_callTy call_intR (by rfl) T.b_int (show bootBuiltins "int" = some (.type "int") from by decide +kernel) (pa_cons (pe_op (op_add) (pe_op (op_add) (pe_op (op_mul) (pe_ix ix_list (pv 0) pe_int (fun _ _ => rfl)) pe_int) (pe_op (op_mul) (pv 2) pe_int)) pe_int) pa_nil)) pe_int) (pg_sub (pv 0) pe_int set_list))))))) (pss_one (ps_asg (pe_op (op_mod) (pe_callTy call_intR (by rfl) T.b_int (show bootBuiltins "int" = some (.type "int") from by decide +kernel) (pa_cons (pe_op (op_add) (pe_op (op_mul) (pe_ix ix_list (pv 0) pe_int (fun _ _ => rfl)) pe_int) pe_int) pa_nil)) pe_int) (pg_sub (pv 0) pe_int set_list))))) pss_nil) (pss_cons (ps_if (pt_cmpR (op_gt) (pe_ix ix_list (pv 0) pe_int (fun _ _ => rfl)) pe_int (nomark _)) (pss_cons (ps_set (i := 3) sc__law_draw.nd rfl (Or.inl rfl) (pe_op (op_mod) (pe_callTy call_intR (by rfl) T.b_int (show bootBuiltins "int" = some (.type "int") from by decide +kernel) (pa_cons (pe_ix ix_list (pv 0) pe_int (fun _ _ => rfl)) pa_nil)) (pv 1))) (pss_cons (ps_asg (pe_op (op_fdiv) (pe_ix ix_list (pv 0) pe_int (fun _ _ => rfl)) (pv 1)) (pg_sub (pv 0) pe_int set_list)) (pss_one (ps_ret (pv 3))))) pss_nil) (pss_one (ps_ret (pe_op (op_mod) (pe_op (op_mod) (pe_callTy call_intR (by rfl) T.b_int (show bootBuiltins "int" = some (.type "int") from by decide +kernel) (pa_cons (pe_op (op_mul) (pe_ix ix_list (pv 0) pe_int (fun _ _ => rfl)) pe_int) pa_nil)) pe_int) (pv 1)))))), ?_⟩
    have hcd' : c ≠ d := hcd
    replace hc : H c = some (.lst (vints cells)) := hc
    replace hcd : c ≠ d := hcd
    replace hd : H d = some (.lst [.ref c, .int a, .int b, .int sd]) := hd
    walk_at "w"
    refine w_d2 (fun e2 => ?_) (fun e2 => ?_)
    · walk_at "w"
      refine w_d2 (fun e3 => ?_) (fun e3 => ?_)
      · have hlt : a.toNat < cells.length := by
          have e4 : (vints cells).length = cells.length := List.length_map ..
          omega
        have hat : atI (vints cells) a = some (.int cells[a.toNat]) := atI_int ha (by unfold vints; rw [List.getElem?_map, List.getElem?_eq_getElem hlt]; rfl)
        walk_at "w"
        refine w_d2 (fun e5 => ?_) (fun e5 => ?_)
        · have hbig : (0 : Int) ≤ cells[a.toNat] := Int.le_trans (by decide) e5
          walk_at "w"
          refine w_d2 (fun e6 => ?_) (fun e6 => ?_)
          · walk_at "w"
            exact k _ _ (Int.emod_nonneg _ (by omega)) (Int.emod_lt_of_pos _ m0) (fun x o n h => by simp only [upd_ne n]; exact h) ⟨_, _, _, upd_same, by simp only [upd_ne hcd]; exact hc, hcd, by omega, Int.ediv_nonneg hbig (by omega)⟩
          · walk_at "w"
            exact k _ _ (Int.emod_nonneg _ (by omega)) (Int.emod_lt_of_pos _ m0) (fun x o n h => by simp only [upd_ne n]; exact h) ⟨_, _, _, upd_same, by simp only [upd_ne hcd]; exact hc, hcd, by omega, hbig⟩
        · walk_at "w"
          refine w_d2 (fun e6 => ?_) (fun e6 => ?_)
          · walk_at "w"
            exact k _ _ (Int.emod_nonneg _ (by omega)) (Int.emod_lt_of_pos _ m0) (fun x o n h => by simp only [upd_ne n]; exact h) ⟨_, _, _, upd_same, by simp only [upd_ne hcd]; exact hc, hcd, by omega, Int.ediv_nonneg hb (by omega)⟩
          · walk_at "w"
            exact k _ _ (Int.emod_nonneg _ (by omega)) (Int.emod_lt_of_pos _ m0) (fun x o n h => by simp only [upd_ne n]; exact h) ⟨_, _, _, upd_same, by simp only [upd_ne hcd]; exact hc, hcd, by omega, hb⟩
      · walk_at "w"
        refine w_d2 (fun e6 => ?_) (fun e6 => ?_)
        · walk_at "w"
          exact k _ _ (Int.emod_nonneg _ (by omega)) (Int.emod_lt_of_pos _ m0) (fun x o n h => by simp only [upd_ne n]; exact h) ⟨_, _, _, upd_same, by simp only [upd_ne hcd]; exact hc, hcd, ha, Int.ediv_nonneg hb (by omega)⟩
        · walk_at "w"
          exact k _ _ (Int.emod_nonneg _ (by omega)) (Int.emod_lt_of_pos _ m0) (fun x o n h => by simp only [upd_ne n]; exact h) ⟨_, _, _, upd_same, by simp only [upd_ne hcd]; exact hc, hcd, ha, hb⟩
    · walk_at "w"
      refine w_d2 (fun e6 => ?_) (fun e6 => ?_)
      · walk_at "w"
        exact k _ _ (Int.emod_nonneg _ (by omega)) (Int.emod_lt_of_pos _ m0) (fun x o n h => by simp only [upd_ne n]; exact h) ⟨_, _, _, upd_same, by simp only [upd_ne hcd]; exact hc, hcd, ha, Int.ediv_nonneg hb (by omega)⟩
      · walk_at "w"
        exact k _ _ (Int.emod_nonneg _ (by omega)) (Int.emod_lt_of_pos _ m0) (fun x o n h => by exact h) ⟨_, _, _, hd, hc, hcd, ha, hb⟩
end
end TB

set_option maxHeartbeats 4000000
namespace TB
open PySem PySem.Spec PyProof.Rows L2 TW
local macro_rules | `(tactic| walk_at "same") => `(tactic| first
  | exact Same.refl _
  | assumption
  | ((with_reducible refine' Same.trans ?sa (Same.new ?sb)); (case sb => assumption); (case sa => walk_at "same"))
  | ((with_reducible refine' Same.trans ?sa ?sb); (case sb => assumption); (case sa => walk_at "same"))
  | fail)
local macro_rules | `(tactic| walk_at "at") => `(tactic| first
  | assumption
  | exact upd_same
  | ((with_reducible refine' Same.get (Same.new ?sb) ?sa); (case sb => assumption); (case sa => walk_at "at"))
  | ((with_reducible refine' Same.get ?sb ?sa); (case sb => assumption); (case sa => walk_at "at"))
  | ((with_reducible refine' SameX.get ?sb ?sn ?sa); (case sb => assumption); (case sn => assumption); (case sa => walk_at "at"))
  | fail)
local macro_rules | `(tactic| walk_at "sq") => `(tactic| first
  | assumption
  | ((with_reducible refine' tupAt ?sa); (case sa => walk_at "at"))
  | ((with_reducible refine' lstAt ?sa); (case sa => walk_at "at"))
  | ((with_reducible refine' Same.tup (Same.new ?sb) ?sa); (case sb => assumption); (case sa => walk_at "sq"))
  | ((with_reducible refine' Same.lst (Same.new ?sb) ?sa); (case sb => assumption); (case sa => walk_at "sq"))
  | ((with_reducible refine' Same.tup ?sb ?sa); (case sb => assumption); (case sa => walk_at "sq"))
  | ((with_reducible refine' Same.lst ?sb ?sa); (case sb => assumption); (case sa => walk_at "sq"))
  | fail)
local macro_rules | `(tactic| walk_at "ix") => `(tactic| first
  | with_reducible exact atI_0
  | with_reducible exact atI_1
  | with_reducible exact atI_2
  | with_reducible exact atI_3
  | assumption
  | exact rfl)
local macro_rules | `(tactic| walk_at "dr") => `(tactic| first
  | assumption
  | ((with_reducible refine' DrawsAt.same ?sa (Same.new ?sb)); (case sb => assumption); (case sa => walk_at "dr"))
  | ((with_reducible refine' DrawsAt.same ?sa ?sb); (case sb => assumption); (case sa => walk_at "dr"))
  | fail)
local macro_rules | `(tactic| walk_at "sx") => `(tactic| first
  | exact SameX.refl _ _
  | assumption
  | ((with_reducible refine' SameX.new ?sa ?sb); (case sb => assumption); (case sa => walk_at "sx"))
  | ((with_reducible refine' SameX.trans ?sa ?sb); (case sb => assumption); (case sa => walk_at "sx"))
  | ((with_reducible refine' SameX.trans ?sa (SameX.of ?sb)); (case sb => assumption); (case sa => walk_at "sx"))
  | fail)
local macro_rules | `(tactic| walk_at "x1") => `(tactic| fail)
local macro_rules | `(tactic| walk_at "w1") => `(tactic| first
  | ((with_reducible refine' w_var ?hv ?_); (case hv => exact rfl))
  | with_reducible refine' w_c ?_
  | with_reducible refine' w_op ?_
  | with_reducible refine' w_seq ?_
  | with_reducible refine' w_asg ?_
  | with_reducible refine' w_gname ?_
  | with_reducible refine' w_ret ?_
  | with_reducible refine' w_retN ?_
  | with_reducible refine' w_drop ?_
  | with_reducible refine' w_next ?_
  | with_reducible refine' w_nil ?_
  | with_reducible refine' w_cons ?_
  | with_reducible refine' w_cb ?_
  | with_reducible refine' w_call ?_
  | with_reducible refine' w_callS ?_
  | with_reducible refine' w_un ?_
  | with_reducible refine' w_I0 ?_
  | with_reducible refine' w_U ?_
  | ((with_reducible refine' w_eq ?hv ?_); (case hv => exact rfl))
  | ((with_reducible refine' w_ne ?hv ?_); (case hv => exact rfl))
  | with_reducible refine' w_test ?_
  | with_reducible refine' w_tB ?_
  | with_reducible refine' w_bl ?_
  | with_reducible refine' w_blA ?_
  | with_reducible refine' w_and ?_
  | with_reducible refine' w_or ?_
  | with_reducible refine' w_not ?_
  | with_reducible refine' w_andV ?_
  | with_reducible refine' w_orV ?_
  | with_reducible refine' w_notV ?_
  | with_reducible refine' w_if ?_
  | with_reducible refine' w_ifS ?_
  | with_reducible refine' w_T ?_
  | with_reducible refine' w_F ?_
  | with_reducible refine' w_NT ?_
  | with_reducible refine' w_NF ?_
  | with_reducible refine' w_tup ?_
  | with_reducible refine' w_lst ?_
  | with_reducible refine' w_chain ?_
  | with_reducible refine' w_rfl ?_
  | ((with_reducible refine' w_szn ?hl ?_); (case hl => simp only [List.length_cons, List.length_nil]; decide); intro _ _)
  | ((with_reducible refine' w_isiF ?hv ?hw ?_); (case hv => first | assumption | rfl); (case hw => decide))
  | with_reducible refine' w_slice ?_
  | with_reducible refine' w_nopart ?_
  | with_reducible refine' w_part ?_
  | with_reducible refine' w_partI ?_
  | with_reducible refine' w_lc ?_
  | with_reducible refine' w_for ?_
  | with_reducible refine' w_iZip ?_
  | with_reducible refine' w_iEnum ?_
  | with_reducible refine' w_iList ?_
  | with_reducible refine' w_iTup ?_
  | with_reducible refine' w_iR1 ?_
  | with_reducible refine' w_iR2 ?_
  | with_reducible refine' w_gcons ?_
  | ((with_reducible refine' w_gunl ?hv ?hw ?_); (case hv => walk_at "sq"); (case hw => exact rfl))
  | with_reducible refine' w_gnil ?_
  | ((with_reducible refine' w_gtupH ?hv ?hw ?_); (case hv => walk_at "at"); (case hw => exact rfl))
  | ((with_reducible refine' w_wipe (σ := wipe _ _) ?hv ?_); (case hv => exact rfl))
  | with_reducible refine' w_yes ?_
  | with_reducible refine' w_tru ?_
  | with_reducible refine' w_rs ?_
  | with_reducible refine' w_mkO ?_
  | ((with_reducible refine' w_exc1 ?_); intro _ _)
  | with_reducible refine' w_make ?_
  | with_reducible refine' w_makeS ?_
  | with_reducible refine' w_fldG ?_
  | with_reducible refine' w_setF ?_
  | ((with_reducible refine' w_ixT ?hv ?hw ?_); (case hv => walk_at "sq"); (case hw => walk_at "ix"))
  | ((with_reducible refine' w_ixL ?hv ?hw ?_); (case hv => walk_at "sq"); (case hw => walk_at "ix"))
  | ((with_reducible refine' w_lenT ?hv ?_); (case hv => walk_at "sq"))
  | ((with_reducible refine' w_lenL ?hv ?_); (case hv => walk_at "sq"))
  | ((with_reducible refine' w_I ?hc ?_); (case hc => first | (exact cmul_r (by omega) (by omega)) | (exact cmul_l (by omega) (by omega)) | (show (0 : Int) < _; first | assumption | omega) | (exact ⟨by first | assumption | omega, by first | assumption | omega⟩) | (exact ⟨by omega, by omega, by omega⟩)))
  | with_reducible refine' w_int1 ?_
  | with_reducible refine' w_bm ?_
  | with_reducible refine' w_tryA ?_
  | with_reducible refine' w_tryO ?_
  | with_reducible refine' w_insS ?_
  | with_reducible refine' w_xfG ?_
  | ((with_reducible refine' w_cat ?ha ?hb ?hl ?_); (case ha => walk_at "at"); (case hb => walk_at "at"); (case hl => simp only [List.length_cons, List.length_nil, List.length_append]; decide); intro _ _)
  | with_reducible refine' w_gsub ?_
  | ((with_reducible refine' w_setL ?hv ?hw ?_); (case hv => walk_at "at"); (case hw => exact rfl))
  | walk_at "x1"
  | fail)
local macro_rules | `(tactic| walk_at "w") => `(tactic| repeat' walk_at "w1")
local macro_rules | `(tactic| walk_at "a1") => `(tactic| first
  | with_reducible refine' w_tupR ?_
  | with_reducible refine' w_lstR ?_
  | ((with_reducible refine' w_tupA ?hl ?_); (case hl => simp only [List.length_cons, List.length_nil]; decide); intro _ _ _ _ _)
  | ((with_reducible refine' w_lstA ?hl ?_); (case hl => simp only [List.length_cons, List.length_nil]; decide); intro _ _ _ _ _)
  | ((with_reducible refine' w_catA ?ha ?hb ?hl ?_); (case ha => walk_at "at"); (case hb => walk_at "at"); (case hl => simp only [List.length_cons, List.length_nil, List.length_append]; decide); intro _ _ _ _ _)
  | walk_at "w1"
  | fail)
local macro_rules | `(tactic| walk_at "wa") => `(tactic| repeat' walk_at "a1")

local macro_rules | `(tactic| walk_at "x1") => `(tactic| first
  | ((with_reducible refine' go_draw ?h0 ?h1 ?hd ?_); (case h0 => omega); (case h1 => omega); (case hd => walk_at "dr"))
  | ((with_reducible refine' go_any ?hd ?_); (case hd => walk_at "dr"))
  | ((with_reducible refine' go_range ?hd ?_); (case hd => walk_at "dr"))
  | ((with_reducible refine' go_step ?hd ?_); (case hd => walk_at "dr"))
  | fail)
theorem sc__law_any : FnScope ["_law_draws", "_law_at"] ["_law_draws"] (defScope s__law_any) := ⟨rfl, rfl, rfl, by decide +kernel, rfl, by decide +kernel, by decide +kernel⟩
theorem sc__law_range : FnScope ["_law_draws", "_law_low"] ["_law_draws"] (defScope s__law_range) := ⟨rfl, rfl, rfl, by decide +kernel, rfl, by decide +kernel, by decide +kernel⟩
theorem sc__law_step : FnScope ["_law_draws", "_law_at", "_law_low", "_law_high"] ["_law_draws"] (defScope s__law_step) := ⟨rfl, rfl, rfl, by decide +kernel, rfl, by decide +kernel, by decide +kernel⟩
section
variable {P : Program} {w : World} {K : PySem.W.Frag} {mg : Str → Option Value} {base : Heap}
theorem ok_any (T : Fx w K mg) (c__law_draw : Cal P w K mg base 1 "_law_draw" ["_law_draws", "_law_many"] spDraw) : Cal P w K mg base 2 "_law_any" ["_law_draws"] spAny := by
  refine cal_of T.f__law_any sc__law_any (fun vs H Q E h => ?_) (fun _ _ _ _ _ _ us hl => match us, hl with | [_], _ => rfl) (fun f cdv A outer s H vs Q E hr h => ?_)
  · obtain ⟨d, cells, rfl, _⟩ := h; rfl
  · obtain ⟨d, cells, rfl, hd, k⟩ := h
    refine ⟨_, (pss_cons (ps_set (i := 1) sc__law_any.nd rfl (Or.inl rfl) (pe_cal c__law_draw hr (by first | decide | omega) rfl (pa_cons (pv 0) (pa_cons pe_int pa_nil)))) (pss_cons (ps_if (pt_cmpR (op_eq) (pv 1) pe_int (nomark _)) (pss_one (ps_ret pe_non)) pss_nil) (pss_cons (ps_if (pt_cmpR (op_le) (pv 1) pe_int (nomark _)) (pss_one (ps_ret (pe_ix ix_str pe_str (pe_cal c__law_draw hr (by first | decide | omega) rfl (pa_cons (pv 0) (pa_cons pe_int pa_nil))) (fun _ _ => rfl)))) pss_nil) (pss_one (ps_ret (pe_op (op_sub) (pe_cal c__law_draw hr (by first | decide | omega) rfl (pa_cons (pv 0) (pa_cons pe_int pa_nil))) pe_int)))))), ?_⟩
    walk_at "w"
    intro r H1 r0 r1 sx1 hd1
    walk_at "w"
    refine w_d2 (fun e1 => ?_) (fun e1 => ?_)
    · walk_at "w"
      exact k .non _ ⟨.non, trivial, rfl⟩ (by walk_at "sx") hd1
    walk_at "w"
    refine w_d2 (fun e2 => ?_) (fun e2 => ?_)
    · walk_at "w"
      intro q H2 q0 q1 sx2 hd2
      rcases lt3 q0 q1 with rfl | rfl | rfl
      · exact w_ixS (c := 97) (by decide) rfl (k _ _ ⟨.a, trivial, rfl⟩ (by walk_at "sx") hd2)
      · exact w_ixS (c := 98) (by decide) rfl (k _ _ ⟨.b, trivial, rfl⟩ (by walk_at "sx") hd2)
      · exact w_ixS (c := 99) (by decide) rfl (k _ _ ⟨.c, trivial, rfl⟩ (by walk_at "sx") hd2)
    · walk_at "w"
      intro q H2 q0 q1 sx2 hd2
      walk_at "w"
      exact k _ _ ⟨.int (q - 4), ⟨by omega, by omega⟩, rfl⟩ (by walk_at "sx") hd2
theorem ok_range (T : Fx w K mg) (c__law_draw : Cal P w K mg base 1 "_law_draw" ["_law_draws", "_law_many"] spDraw) : Cal P w K mg base 2 "_law_range" ["_law_draws"] spRange := by
  refine cal_of T.f__law_range sc__law_range (fun vs H Q E h => ?_) (fun _ _ _ _ _ _ us hl => match us, hl with | [_], _ => rfl) (fun f cdv A outer s H vs Q E hr h => ?_)
  · obtain ⟨d, cells, rfl, _⟩ := h; rfl
  · obtain ⟨d, cells, rfl, hd, k⟩ := h
    refine ⟨_, (pss_cons (ps_set (i := 1) sc__law_range.nd rfl (Or.inl rfl) (pe_op (op_sub) (pe_cal c__law_draw hr (by first | decide | omega) rfl (pa_cons (pv 0) (pa_cons pe_int pa_nil))) pe_int)) (pss_one (ps_ret (pe_lst (pa_cons (pv 1) (pa_cons (pe_op (op_add) (pv 1) (pe_cal c__law_draw hr (by first | decide | omega) rfl (pa_cons (pv 0) (pa_cons pe_int pa_nil)))) pa_nil)))))), ?_⟩
    walk_at "w"
    intro r H1 r0 r1 sx1 hd1
    walk_at "w"
    intro q H2 q0 q1 sx2 hd2
    walk_at "w"
    exact k _ _ _ _ ⟨by omega, by omega, by omega, by omega⟩ upd_same (SameX.free (by walk_at "sx") hd2 ‹_›) (by walk_at "sx") (by walk_at "dr")
theorem ok_step (T : Fx w K mg) (c__law_draw : Cal P w K mg base 1 "_law_draw" ["_law_draws", "_law_many"] spDraw) (c__law_any : Cal P w K mg base 2 "_law_any" ["_law_draws"] spAny) (c__law_range : Cal P w K mg base 2 "_law_range" ["_law_draws"] spRange) : Cal P w K mg base 3 "_law_step" ["_law_draws"] spStep := by
  refine cal_of T.f__law_step sc__law_step (fun vs H Q E h => ?_) (fun _ _ _ _ _ _ us hl => match us, hl with | [_], _ => rfl) (fun f cdv A outer s H vs Q E hr h => ?_)
  · obtain ⟨d, cells, rfl, _⟩ := h; rfl
  · obtain ⟨d, cells, rfl, hd, k⟩ := h
    refine ⟨_, (pss_cons (ps_set (i := 1) sc__law_step.nd rfl (Or.inl rfl) (pe_cal c__law_draw hr (by first | decide | omega) rfl (pa_cons (pv 0) (pa_cons pe_int pa_nil)))) (pss_cons (ps_asg (pe_cal c__law_range hr (by first | decide | omega) rfl (pa_cons (pv 0) pa_nil)) (pg_unl rfl (pgs_cons (pg_name (i := 2) sc__law_step.nd rfl (Or.inl rfl)) (pgs_cons (pg_name (i := 3) sc__law_step.nd rfl (Or.inl rfl)) pgs_nil)))) (pss_cons (ps_if (pt_cmpR (op_le) (pv 1) pe_int (nomark _)) (pss_one (ps_ret (pe_tup (pa_cons pe_str (pa_cons (pv 2) (pa_cons (pv 3) pa_nil)))))) pss_nil) (pss_cons (ps_if (pt_cmpR (op_eq) (pv 1) pe_int (nomark _)) (pss_one (ps_ret (pe_tup (pa_cons (pe_ix ix_list (pe_lst (pa_cons pe_str (pa_cons pe_str pa_nil))) (pe_cal c__law_draw hr (by first | decide | omega) rfl (pa_cons (pv 0) (pa_cons pe_int pa_nil))) (fun _ _ => rfl)) (pa_cons (pv 2) pa_nil))))) pss_nil) (pss_cons (ps_if (pt_cmpR (op_le) (pv 1) pe_int (nomark _)) (pss_one (ps_ret (pe_tup (pa_cons pe_str (pa_cons (pe_ix ix_list (pe_lst (pa_cons pe_int (pa_cons pe_int (pa_cons pe_int (pa_cons pe_int pa_nil))))) (pe_cal c__law_draw hr (by first | decide | omega) rfl (pa_cons (pv 0) (pa_cons pe_int pa_nil))) (fun _ _ => rfl)) (pa_cons (pe_ix ix_list (pe_lst (pa_cons pe_str (pa_cons pe_str (pa_cons pe_str pa_nil)))) (pe_cal c__law_draw hr (by first | decide | omega) rfl (pa_cons (pv 0) (pa_cons pe_int pa_nil))) (fun _ _ => rfl)) pa_nil)))))) pss_nil) (pss_cons (ps_if (pt_cmpR (op_le) (pv 1) pe_int (nomark _)) (pss_one (ps_ret (pe_tup (pa_cons pe_str (pa_cons (pe_op (op_sub) (pe_cal c__law_draw hr (by first | decide | omega) rfl (pa_cons (pv 0) (pa_cons pe_int pa_nil))) pe_int) pa_nil))))) pss_nil) (pss_cons (ps_if (pt_cmpR (op_eq) (pv 1) pe_int (nomark _)) (pss_one (ps_ret (pe_tup (pa_cons pe_str (pa_cons (pe_ix ix_list (pe_lst (pa_cons pe_int (pa_cons pe_int (pa_cons pe_int (pa_cons pe_int (pa_cons pe_int pa_nil)))))) (pe_cal c__law_draw hr (by first | decide | omega) rfl (pa_cons (pv 0) (pa_cons pe_int pa_nil))) (fun _ _ => rfl)) pa_nil))))) pss_nil) (pss_cons (ps_if (pt_cmpR (op_eq) (pv 1) pe_int (nomark _)) (pss_one (ps_ret (pe_tup (pa_cons (pe_ix ix_list (pe_lst (pa_cons pe_str (pa_cons pe_str pa_nil))) (pe_cal c__law_draw hr (by first | decide | omega) rfl (pa_cons (pv 0) (pa_cons pe_int pa_nil))) (fun _ _ => rfl)) pa_nil)))) pss_nil) (pss_cons (ps_if (pt_cmpR (op_eq) (pv 1) pe_int (nomark _)) (pss_one (ps_ret (pe_tup (pa_cons (pe_ix ix_list (pe_lst (pa_cons pe_str (pa_cons pe_str pa_nil))) (pe_cal c__law_draw hr (by first | decide | omega) rfl (pa_cons (pv 0) (pa_cons pe_int pa_nil))) (fun _ _ => rfl)) (pa_cons (pv 2) (pa_cons (pv 3) pa_nil)))))) pss_nil) (pss_cons (ps_if (pt_cmpR (op_eq) (pv 1) pe_int (nomark _)) (pss_one (ps_ret (pe_tup (pa_cons pe_str (pa_cons (pe_ix ix_list (pe_lst (pa_cons pe_int (pa_cons pe_str (pa_cons pe_int (pa_cons pe_str (pa_cons (pe_un un_neg pe_int) pa_nil)))))) (pe_cal c__law_draw hr (by first | decide | omega) rfl (pa_cons (pv 0) (pa_cons pe_int pa_nil))) (fun _ _ => rfl)) pa_nil))))) pss_nil) (pss_cons (ps_if (pt_cmpR (op_le) (pv 1) pe_int (nomark _)) (pss_one (ps_ret (pe_tup (pa_cons pe_str (pa_cons (pe_cal c__law_any hr (by first | decide | omega) rfl (pa_cons (pv 0) pa_nil)) (pa_cons (pe_cal c__law_any hr (by first | decide | omega) rfl (pa_cons (pv 0) pa_nil)) pa_nil)))))) pss_nil) (pss_cons (ps_if (pt_cmpR (op_eq) (pv 1) pe_int (nomark _)) (pss_one (ps_ret (pe_tup (pa_cons pe_str (pa_cons (pe_ix ix_list (pe_lst (pa_cons pe_str (pa_cons pe_str pa_nil))) (pe_cal c__law_draw hr (by first | decide | omega) rfl (pa_cons (pv 0) (pa_cons pe_int pa_nil))) (fun _ _ => rfl)) pa_nil))))) pss_nil) (pss_one (ps_ret (pe_tup (pa_cons pe_str (pa_cons (pe_ix ix_list (pe_lst (pa_cons pe_str (pa_cons pe_str (pa_cons pe_str pa_nil)))) (pe_cal c__law_draw hr (by first | decide | omega) rfl (pa_cons (pv 0) (pa_cons pe_int pa_nil))) (fun _ _ => rfl)) pa_nil))))))))))))))))), ?_⟩
    -- the end: a tuple is laid
    have fin : ∀ (s : Stp) (H2 : Hp) (p : Addr), Stp.law s → SameX d H H2 → DrawsAt H2 d cells → H2 p = none → Q (.ref p) (upd H2 p (.tup (parts s))) := fun s H2 p hs sx dr hp =>
      k p s _ hs upd_same (SameX.free sx dr hp) (SameX.new sx hp) (dr.same (Same.new hp))
    walk_at "w"
    intro r H1 r0 r1 sx1 hd1
    walk_at "w"
    intro l lo hi H2 hlo hl lf sx2 hd2
    have hlr := hlo
    obtain ⟨h1, h2, h3, h4⟩ := hlo
    walk_at "w"
    refine w_d2 (fun e1 => ?_) (fun e1 => ?_)
    · walk_at "w"
      exact fin (.clamp lo hi) _ _ hlr (by walk_at "sx") hd2 ‹_›
    walk_at "w"
    refine w_d2 (fun e2 => ?_) (fun e2 => ?_)
    · walk_at "w"
      rename_i p3 hp3
      have hne3 := hd2.ne hp3
      intro q3 H3 q30 q31 sx3 hd3
      have hq3 : SqL K H3 p3 [.str "least", .str "most"] := lstAt (sx3 _ _ hne3 upd_same)
      obtain ⟨v3, hv3, hm3⟩ := pick (xs := [.str "least", .str "most"]) q30 q31
      refine w_ixL hq3 hv3 ?_
      obtain ⟨s, hs, es⟩ := pick_lm hm3 ⟨h1, h2⟩
      walk_at "w"
      rw [es]
      exact fin s _ _ hs (by walk_at "sx") hd3 ‹_›
    walk_at "w"
    refine w_d2 (fun e3 => ?_) (fun e3 => ?_)
    · walk_at "w"
      rename_i p3 hp3
      have hne3 := hd2.ne hp3
      intro q3 H3 q30 q31 sx3 hd3
      have hq3 : SqL K H3 p3 [.int 2, .int 3, .int 5, .int 4] := lstAt (sx3 _ _ hne3 upd_same)
      obtain ⟨v3, hv3, hm3⟩ := pick (xs := [.int 2, .int 3, .int 5, .int 4]) q30 q31
      refine w_ixL hq3 hv3 ?_
      obtain ⟨m, rfl, hm⟩ := pick_m hm3
      walk_at "w"
      rename_i p4 hp4
      have hne4 := hd3.ne hp4
      intro q4 H4 q40 q41 sx4 hd4
      have hq4 : SqL K H4 p4 [.str "down", .str "up", .str "near"] := lstAt (sx4 _ _ hne4 upd_same)
      obtain ⟨v4, hv4, hm4⟩ := pick (xs := [.str "down", .str "up", .str "near"]) q40 q41
      refine w_ixL hq4 hv4 ?_
      obtain ⟨w, rfl⟩ := pick_w hm4
      walk_at "w"
      exact fin (.round m w) _ _ hm (by walk_at "sx") hd4 ‹_›
    walk_at "w"
    refine w_d2 (fun e4 => ?_) (fun e4 => ?_)
    · walk_at "w"
      intro q H3 q0 q1 sx3 hd3
      walk_at "w"
      exact fin (.shift (q - 4)) _ _ ⟨by omega, by omega⟩ (by walk_at "sx") hd3 ‹_›
    walk_at "w"
    refine w_d2 (fun e5 => ?_) (fun e5 => ?_)
    · walk_at "w"
      rename_i p3 hp3
      have hne3 := hd2.ne hp3
      intro q3 H3 q30 q31 sx3 hd3
      have hq3 : SqL K H3 p3 [.int 2, .int 3, .int 4, .int 10, .int 6] := lstAt (sx3 _ _ hne3 upd_same)
      obtain ⟨v3, hv3, hm3⟩ := pick (xs := [.int 2, .int 3, .int 4, .int 10, .int 6]) q30 q31
      refine w_ixL hq3 hv3 ?_
      obtain ⟨m, rfl, hm⟩ := pick_f hm3
      walk_at "w"
      exact fin (.fold m) _ _ hm (by walk_at "sx") hd3 ‹_›
    walk_at "w"
    refine w_d2 (fun e6 => ?_) (fun e6 => ?_)
    · walk_at "w"
      rename_i p3 hp3
      have hne3 := hd2.ne hp3
      intro q3 H3 q30 q31 sx3 hd3
      have hq3 : SqL K H3 p3 [.str "mirror", .str "turn"] := lstAt (sx3 _ _ hne3 upd_same)
      obtain ⟨v3, hv3, hm3⟩ := pick (xs := [.str "mirror", .str "turn"]) q30 q31
      refine w_ixL hq3 hv3 ?_
      obtain ⟨s, hs, es⟩ := pick_mt hm3
      walk_at "w"
      rw [es]
      exact fin s _ _ hs (by walk_at "sx") hd3 ‹_›
    walk_at "w"
    refine w_d2 (fun e7 => ?_) (fun e7 => ?_)
    · walk_at "w"
      rename_i p3 hp3
      have hne3 := hd2.ne hp3
      intro q3 H3 q30 q31 sx3 hd3
      have hq3 : SqL K H3 p3 [.str "blank", .str "refuse"] := lstAt (sx3 _ _ hne3 upd_same)
      obtain ⟨v3, hv3, hm3⟩ := pick (xs := [.str "blank", .str "refuse"]) q30 q31
      refine w_ixL hq3 hv3 ?_
      obtain ⟨s, hs, es⟩ := pick_br hm3 hlr
      walk_at "w"
      rw [es]
      exact fin s _ _ hs (by walk_at "sx") hd3 ‹_›
    walk_at "w"
    refine w_d2 (fun e8 => ?_) (fun e8 => ?_)
    · walk_at "w"
      rename_i p3 hp3
      have hne3 := hd2.ne hp3
      intro q3 H3 q30 q31 sx3 hd3
      have hq3 : SqL K H3 p3 [.int 0, .str "a", .int 7, .str "c", .int (-3)] := lstAt (sx3 _ _ hne3 upd_same)
      obtain ⟨v3, hv3, hm3⟩ := pick (xs := [.int 0, .str "a", .int 7, .str "c", .int (-3)]) q30 q31
      refine w_ixL hq3 hv3 ?_
      obtain ⟨x, rfl, hx⟩ := pick_fill hm3
      walk_at "w"
      exact fin (.fill x) _ _ hx (by walk_at "sx") hd3 ‹_›
    walk_at "w"
    refine w_d2 (fun e9 => ?_) (fun e9 => ?_)
    · walk_at "w"
      intro x H3 hx sx3 hd3
      walk_at "w"
      intro y H4 hy sx4 hd4
      walk_at "w"
      exact fin (.replace x y) _ _ ⟨hx, hy⟩ (by walk_at "sx") hd4 ‹_›
    walk_at "w"
    refine w_d2 (fun e10 => ?_) (fun e10 => ?_)
    · walk_at "w"
      rename_i p3 hp3
      have hne3 := hd2.ne hp3
      intro q3 H3 q30 q31 sx3 hd3
      have hq3 : SqL K H3 p3 [.str "number", .str "word"] := lstAt (sx3 _ _ hne3 upd_same)
      obtain ⟨v3, hv3, hm3⟩ := pick (xs := [.str "number", .str "word"]) q30 q31
      refine w_ixL hq3 hv3 ?_
      obtain ⟨k1, rfl, hk⟩ := pick_k2 hm3
      walk_at "w"
      exact fin (.void k1) _ _ hk (by walk_at "sx") hd3 ‹_›
    walk_at "w"
    rename_i p3 hp3
    have hne3 := hd2.ne hp3
    intro q3 H3 q30 q31 sx3 hd3
    have hq3 : SqL K H3 p3 [.str "number", .str "word", .str "none"] := lstAt (sx3 _ _ hne3 upd_same)
    obtain ⟨v3, hv3, hm3⟩ := pick (xs := [.str "number", .str "word", .str "none"]) q30 q31
    refine w_ixL hq3 hv3 ?_
    obtain ⟨k1, rfl⟩ := pick_k3 hm3
    walk_at "w"
    exact fin (.bar k1) _ _ trivial (by walk_at "sx") hd3 ‹_›
end
end TB

set_option maxHeartbeats 4000000
namespace TB
open PySem PySem.Spec PyProof.Rows L2 TW
local macro_rules | `(tactic| walk_at "same") => `(tactic| first
  | exact Same.refl _
  | assumption
  | ((with_reducible refine' Same.trans ?sa (Same.new ?sb)); (case sb => assumption); (case sa => walk_at "same"))
  | ((with_reducible refine' Same.trans ?sa ?sb); (case sb => assumption); (case sa => walk_at "same"))
  | fail)
local macro_rules | `(tactic| walk_at "at") => `(tactic| first
  | assumption
  | exact upd_same
  | ((with_reducible refine' Same.get (Same.new ?sb) ?sa); (case sb => assumption); (case sa => walk_at "at"))
  | ((with_reducible refine' Same.get ?sb ?sa); (case sb => assumption); (case sa => walk_at "at"))
  | ((with_reducible refine' SameX.get ?sb ?sn ?sa); (case sb => assumption); (case sn => assumption); (case sa => walk_at "at"))
  | fail)
local macro_rules | `(tactic| walk_at "sq") => `(tactic| first
  | assumption
  | ((with_reducible refine' tupAt ?sa); (case sa => walk_at "at"))
  | ((with_reducible refine' lstAt ?sa); (case sa => walk_at "at"))
  | ((with_reducible refine' Same.tup (Same.new ?sb) ?sa); (case sb => assumption); (case sa => walk_at "sq"))
  | ((with_reducible refine' Same.lst (Same.new ?sb) ?sa); (case sb => assumption); (case sa => walk_at "sq"))
  | ((with_reducible refine' Same.tup ?sb ?sa); (case sb => assumption); (case sa => walk_at "sq"))
  | ((with_reducible refine' Same.lst ?sb ?sa); (case sb => assumption); (case sa => walk_at "sq"))
  | fail)
local macro_rules | `(tactic| walk_at "ix") => `(tactic| first
  | with_reducible exact atI_0
  | with_reducible exact atI_1
  | with_reducible exact atI_2
  | with_reducible exact atI_3
  | assumption
  | exact rfl)
local macro_rules | `(tactic| walk_at "dr") => `(tactic| first
  | assumption
  | ((with_reducible refine' DrawsAt.same ?sa (Same.new ?sb)); (case sb => assumption); (case sa => walk_at "dr"))
  | ((with_reducible refine' DrawsAt.same ?sa ?sb); (case sb => assumption); (case sa => walk_at "dr"))
  | fail)
local macro_rules | `(tactic| walk_at "sx") => `(tactic| first
  | exact SameX.refl _ _
  | assumption
  | ((with_reducible refine' SameX.new ?sa ?sb); (case sb => assumption); (case sa => walk_at "sx"))
  | ((with_reducible refine' SameX.trans ?sa ?sb); (case sb => assumption); (case sa => walk_at "sx"))
  | ((with_reducible refine' SameX.trans ?sa (SameX.of ?sb)); (case sb => assumption); (case sa => walk_at "sx"))
  | fail)
local macro_rules | `(tactic| walk_at "x1") => `(tactic| fail)
local macro_rules | `(tactic| walk_at "w1") => `(tactic| first
  | ((with_reducible refine' w_var ?hv ?_); (case hv => exact rfl))
  | with_reducible refine' w_c ?_
  | with_reducible refine' w_op ?_
  | with_reducible refine' w_seq ?_
  | with_reducible refine' w_asg ?_
  | with_reducible refine' w_gname ?_
  | with_reducible refine' w_ret ?_
  | with_reducible refine' w_retN ?_
  | with_reducible refine' w_drop ?_
  | with_reducible refine' w_next ?_
  | with_reducible refine' w_nil ?_
  | with_reducible refine' w_cons ?_
  | with_reducible refine' w_cb ?_
  | with_reducible refine' w_call ?_
  | with_reducible refine' w_callS ?_
  | with_reducible refine' w_un ?_
  | with_reducible refine' w_I0 ?_
  | with_reducible refine' w_U ?_
  | ((with_reducible refine' w_eq ?hv ?_); (case hv => exact rfl))
  | ((with_reducible refine' w_ne ?hv ?_); (case hv => exact rfl))
  | with_reducible refine' w_test ?_
  | with_reducible refine' w_tB ?_
  | with_reducible refine' w_bl ?_
  | with_reducible refine' w_blA ?_
  | with_reducible refine' w_and ?_
  | with_reducible refine' w_or ?_
  | with_reducible refine' w_not ?_
  | with_reducible refine' w_andV ?_
  | with_reducible refine' w_orV ?_
  | with_reducible refine' w_notV ?_
  | with_reducible refine' w_if ?_
  | with_reducible refine' w_ifS ?_
  | with_reducible refine' w_T ?_
  | with_reducible refine' w_F ?_
  | with_reducible refine' w_NT ?_
  | with_reducible refine' w_NF ?_
  | with_reducible refine' w_tup ?_
  | with_reducible refine' w_lst ?_
  | with_reducible refine' w_chain ?_
  | with_reducible refine' w_rfl ?_
  | ((with_reducible refine' w_szn ?hl ?_); (case hl => simp only [List.length_cons, List.length_nil]; decide); intro _ _)
  | ((with_reducible refine' w_isiF ?hv ?hw ?_); (case hv => first | assumption | rfl); (case hw => decide))
  | with_reducible refine' w_slice ?_
  | with_reducible refine' w_nopart ?_
  | with_reducible refine' w_part ?_
  | with_reducible refine' w_partI ?_
  | with_reducible refine' w_lc ?_
  | with_reducible refine' w_for ?_
  | with_reducible refine' w_iZip ?_
  | with_reducible refine' w_iEnum ?_
  | with_reducible refine' w_iList ?_
  | with_reducible refine' w_iTup ?_
  | with_reducible refine' w_iR1 ?_
  | with_reducible refine' w_iR2 ?_
  | with_reducible refine' w_gcons ?_
  | ((with_reducible refine' w_gunl ?hv ?hw ?_); (case hv => walk_at "sq"); (case hw => exact rfl))
  | with_reducible refine' w_gnil ?_
  | ((with_reducible refine' w_gtupH ?hv ?hw ?_); (case hv => walk_at "at"); (case hw => exact rfl))
  | ((with_reducible refine' w_wipe (σ := wipe _ _) ?hv ?_); (case hv => exact rfl))
  | with_reducible refine' w_yes ?_
  | with_reducible refine' w_tru ?_
  | with_reducible refine' w_rs ?_
  | with_reducible refine' w_mkO ?_
  | ((with_reducible refine' w_exc1 ?_); intro _ _)
  | with_reducible refine' w_make ?_
  | with_reducible refine' w_makeS ?_
  | with_reducible refine' w_fldG ?_
  | with_reducible refine' w_setF ?_
  | ((with_reducible refine' w_ixT ?hv ?hw ?_); (case hv => walk_at "sq"); (case hw => walk_at "ix"))
  | ((with_reducible refine' w_ixL ?hv ?hw ?_); (case hv => walk_at "sq"); (case hw => walk_at "ix"))
  | ((with_reducible refine' w_lenT ?hv ?_); (case hv => walk_at "sq"))
  | ((with_reducible refine' w_lenL ?hv ?_); (case hv => walk_at "sq"))
  | ((with_reducible refine' w_I ?hc ?_); (case hc => first | (exact cmul_r (by omega) (by omega)) | (exact cmul_l (by omega) (by omega)) | (show (0 : Int) < _; first | assumption | omega) | (exact ⟨by first | assumption | omega, by first | assumption | omega⟩) | (exact ⟨by omega, by omega, by omega⟩)))
  | with_reducible refine' w_int1 ?_
  | with_reducible refine' w_bm ?_
  | with_reducible refine' w_tryA ?_
  | with_reducible refine' w_tryO ?_
  | with_reducible refine' w_insS ?_
  | with_reducible refine' w_xfG ?_
  | ((with_reducible refine' w_cat ?ha ?hb ?hl ?_); (case ha => walk_at "at"); (case hb => walk_at "at"); (case hl => simp only [List.length_cons, List.length_nil, List.length_append]; decide); intro _ _)
  | with_reducible refine' w_gsub ?_
  | ((with_reducible refine' w_setL ?hv ?hw ?_); (case hv => walk_at "at"); (case hw => exact rfl))
  | walk_at "x1"
  | fail)
local macro_rules | `(tactic| walk_at "w") => `(tactic| repeat' walk_at "w1")
local macro_rules | `(tactic| walk_at "a1") => `(tactic| first
  | with_reducible refine' w_tupR ?_
  | with_reducible refine' w_lstR ?_
  | ((with_reducible refine' w_tupA ?hl ?_); (case hl => simp only [List.length_cons, List.length_nil]; decide); intro _ _ _ _ _)
  | ((with_reducible refine' w_lstA ?hl ?_); (case hl => simp only [List.length_cons, List.length_nil]; decide); intro _ _ _ _ _)
  | ((with_reducible refine' w_catA ?ha ?hb ?hl ?_); (case ha => walk_at "at"); (case hb => walk_at "at"); (case hl => simp only [List.length_cons, List.length_nil, List.length_append]; decide); intro _ _ _ _ _)
  | walk_at "w1"
  | fail)
local macro_rules | `(tactic| walk_at "wa") => `(tactic| repeat' walk_at "a1")

local macro_rules | `(tactic| walk_at "x1") => `(tactic| first
  | ((with_reducible refine' go_isN ?hv ?_); (case hv => first | assumption | exact vv_flat _ | rfl))
  | with_reducible refine' w_max2 ?_
  | with_reducible refine' w_min2 ?_
  | with_reducible refine' w_abs ?_
  | ((with_reducible refine' w_inT ?h1 ?h2 ?h3 ?_); (case h1 => walk_at "sq"); (case h2 => rfl); (case h3 => rfl))
  | ((with_reducible refine' w_dF ?hv ?_); (case hv => decide +kernel))
  | ((with_reducible refine' w_dT ?hv ?_); (case hv => decide +kernel))
  | ((with_reducible refine' w_nT ?hv ?_); (case hv => decide +kernel))
  | ((with_reducible refine' w_nF ?hv ?_); (case hv => decide +kernel))
  | ((with_reducible refine' w_bT ?hv ?_); (case hv => decide +kernel))
  | ((with_reducible refine' w_bF ?hv ?_); (case hv => decide +kernel))
  | fail)
theorem sc_rounded : FnScope ["number", "m", "way", "rest"] ["number", "m", "way"] (defScope s_rounded) := ⟨rfl, rfl, rfl, by decide +kernel, rfl, by decide +kernel, by decide +kernel⟩
theorem sc_kind_of : FnScope ["value"] ["value"] (defScope s_kind_of) := ⟨rfl, rfl, rfl, by decide +kernel, rfl, by decide +kernel, by decide +kernel⟩
theorem sc_is_same : FnScope ["one", "other"] ["one", "other"] (defScope s_is_same) := ⟨rfl, rfl, rfl, by decide +kernel, rfl, by decide +kernel, by decide +kernel⟩
theorem sc_of_number : FnScope ["step", "number", "word"] ["step", "number"] (defScope s_of_number) := ⟨rfl, rfl, rfl, by decide +kernel, rfl, by decide +kernel, by decide +kernel⟩
section
variable {P : Program} {w : World} {K : PySem.W.Frag} {mg : Str → Option Value} {base : Heap}
theorem ok_kind_of (T : Fx w K mg) (c_is_number : Cal P w K mg base 1 "is_number" ["value"] spIsN) : Cal P w K mg base 2 "kind_of" ["value"] spKind := by
  refine cal_of T.f_kind_of sc_kind_of (fun vs H Q E h => ?_) (fun _ _ _ _ _ _ us hl => match us, hl with | [_], _ => rfl) (fun f cdv A outer s H vs Q E hr h => ?_)
  · obtain ⟨x, rfl, _⟩ := h; rfl
  · obtain ⟨x, rfl, k⟩ := h
    refine ⟨_, (pss_cons (ps_if (pt_cmpR (op_isN) (pv 0) pe_non (nomark _)) (pss_one (ps_ret pe_str)) pss_nil) (pss_one (ps_ret (pe_ifExp (pt_val (pe_cal c_is_number hr (by first | decide | omega) rfl (pa_cons (pv 0) pa_nil))) pe_str pe_str)))), ?_⟩
    walk_at "w"
    refine w_d2 (fun e1 => ?_) (fun e1 => ?_)
    · walk_at "w"
      have e : x = .non := by cases x <;> first | rfl | cases e1
      subst e; exact k
    · walk_at "w"
      refine w_b2 (fun e2 => ?_) (fun e2 => ?_)
      · walk_at "w"
        cases x <;> first | exact k | cases e2
      · walk_at "w"
        cases x <;> first | exact k | exact absurd rfl e1 | cases e2
theorem ok_is_same (T : Fx w K mg) : Cal P w K mg base 1 "is_same" ["one", "other"] spSame := by
  refine cal_of T.f_is_same sc_is_same (fun vs H Q E h => ?_) (fun _ _ _ _ _ _ us hl => match us, hl with | [_, _], _ => rfl) (fun f cdv A outer s H vs Q E hr h => ?_)
  · obtain ⟨x, y, rfl, _⟩ := h; rfl
  · obtain ⟨x, y, rfl, k⟩ := h
    refine ⟨_, (pss_one (ps_ret (pe_cmpR (op_eq) (pv 0) (pv 1) (nomark _)))), ?_⟩
    walk_at "w"
    refine w_eq (by cases x <;> cases y <;> rfl) ?_
    have e : decide (vv x = vv y) = decide (x = y) := by
      by_cases h : x = y
      · rw [h, decide_eq_true rfl, decide_eq_true rfl]
      · rw [decide_eq_false h, decide_eq_false fun q => h (vv_inj q)]
    rw [e]; exact k
theorem ok_rounded (T : Fx w K mg) : Cal P w K mg base 1 "rounded" ["number", "m", "way"] spRounded := by
  refine cal_of T.f_rounded sc_rounded (fun vs H Q E h => ?_) (fun _ _ _ _ _ _ us hl => match us, hl with | [_, _, _], _ => rfl) (fun f cdv A outer s H vs Q E hr h => ?_)
  · obtain ⟨n, m, w, rfl, _⟩ := h; rfl
  · obtain ⟨n, m, w, rfl, m0, m1, k⟩ := h
    refine ⟨_, (pss_cons (ps_set (i := 3) sc_rounded.nd rfl (Or.inl rfl) (pe_op (op_mod) (pv 0) (pv 1))) (pss_cons (ps_if (PW.pt (pw_or (pt_cmpR (op_eq) (pv 3) pe_int (nomark _)) (pw_or (pt_cmpR (op_eq) (pv 2) pe_str (nomark _)) (pw_or1 (PW.pt (pw_and (pt_cmpR (op_eq) (pv 2) pe_str (nomark _)) (pw_and1 (pt_cmpR (op_lt) (pe_op (op_mul) pe_int (pv 3)) (pv 1) (nomark _))))))))) (pss_one (ps_ret (pe_op (op_sub) (pv 0) (pv 3)))) pss_nil) (pss_one (ps_ret (pe_op (op_add) (pe_op (op_sub) (pv 0) (pv 3)) (pv 1)))))), ?_⟩
    walk_at "w"
    refine w_d2 (fun e1 => ?_) (fun e1 => ?_)
    · walk_at "w"
      have e2 : n % m = 0 := V.int.inj e1
      have e : rounded n m w = n - n % m := by cases w <;> simp [rounded, e2]
      rw [e] at k; exact k
    have e2 : ¬ n % m = 0 := fun e => e1 (by rw [e])
    walk_at "w"
    refine w_d2 (fun e3 => ?_) (fun e3 => ?_)
    · walk_at "w"
      have e : w = .down := by cases w <;> first | rfl | exact absurd (V.str.inj e3) (by decide +kernel)
      subst e; exact k
    walk_at "w"
    refine w_d2 (fun e4 => ?_) (fun e4 => ?_)
    · have e : w = .near := by cases w <;> first | rfl | exact absurd (V.str.inj e4) (by decide +kernel)
      subst e
      walk_at "w"
      refine w_d2 (fun e5 => ?_) (fun e5 => ?_)
      · walk_at "w"
        have e : rounded n m .near = n - n % m := by simp [rounded, e5]
        rw [e] at k; exact k
      · walk_at "w"
        have e : rounded n m .near = n - n % m + m := by simp [rounded, e2, e5]
        rw [e] at k; exact k
    · walk_at "w"
      have e : w = .up := by cases w <;> first | rfl | exact absurd rfl e3 | exact absurd rfl e4
      subst e
      have e : rounded n m .up = n - n % m + m := by simp [rounded, e2]
      rw [e] at k; exact k
theorem ok_of_number (T : Fx w K mg) (c_rounded : Cal P w K mg base 1 "rounded" ["number", "m", "way"] spRounded) : Cal P w K mg base 2 "of_number" ["step", "number"] (spOfNum K) := by
  refine cal_of T.f_of_number sc_of_number (fun vs H Q E h => ?_) (fun _ _ _ _ _ _ us hl => match us, hl with | [_, _], _ => rfl) (fun f cdv A outer s H vs Q E hr h => ?_)
  · obtain ⟨t, s, n, rfl, _⟩ := h; rfl
  · obtain ⟨t, st, n, rfl, ht, ho, hi, k⟩ := h
    refine ⟨_, (pss_cons (ps_set (i := 2) sc_of_number.nd rfl (Or.inl rfl) (pe_ix ix_tup (pv 0) pe_int (fun _ _ => rfl))) (pss_cons (ps_if (pt_cmpR (op_in_seq) (pv 2) (pe_tup (pa_cons pe_str (pa_cons pe_str (pa_cons pe_str pa_nil)))) (by rfl)) (pss_cons (ps_if (pt_cmpR (op_ne) (pv 2) pe_str (nomark _)) (pss_one (ps_set (i := 1) sc_of_number.nd rfl (Or.inl rfl) (pe_callB (call_maxR rfl) (by rfl) T.b_max (show bootBuiltins "max" = some (.builtin "max") from by decide +kernel) (pa_cons (pv 1) (pa_cons (pe_ix ix_tup (pv 0) pe_int (fun _ _ => rfl)) pa_nil))))) pss_nil) (pss_one (ps_ret (pe_lst (pa_cons (pe_ifExp (pt_cmpR (op_eq) (pv 2) pe_str (nomark _)) (pv 1) (pe_callB (call_minR rfl) (by rfl) T.b_min (show bootBuiltins "min" = some (.builtin "min") from by decide +kernel) (pa_cons (pv 1) (pa_cons (pe_ix ix_tup (pv 0) (pe_un un_neg pe_int) (fun _ _ => rfl)) pa_nil)))) pa_nil))))) pss_nil) (pss_cons (ps_if (pt_cmpR (op_eq) (pv 2) pe_str (nomark _)) (pss_one (ps_ret (pe_lst (pa_cons (pe_cal c_rounded hr (by first | decide | omega) rfl (pa_cons (pv 1) (pa_cons (pe_ix ix_tup (pv 0) pe_int (fun _ _ => rfl)) (pa_cons (pe_ix ix_tup (pv 0) pe_int (fun _ _ => rfl)) pa_nil)))) pa_nil)))) pss_nil) (pss_cons (ps_if (pt_cmpR (op_eq) (pv 2) pe_str (nomark _)) (pss_one (ps_ret (pe_lst (pa_cons (pe_op (op_add) (pv 1) (pe_ix ix_tup (pv 0) pe_int (fun _ _ => rfl))) pa_nil)))) pss_nil) (pss_cons (ps_if (pt_cmpR (op_eq) (pv 2) pe_str (nomark _)) (pss_one (ps_ret (pe_lst (pa_cons (pe_op (op_mod) (pv 1) (pe_ix ix_tup (pv 0) pe_int (fun _ _ => rfl))) pa_nil)))) pss_nil) (pss_cons (ps_if (pt_cmpR (op_in_seq) (pv 2) (pe_tup (pa_cons pe_str (pa_cons pe_str pa_nil))) (by rfl)) (pss_one (ps_ret (pe_lst (pa_cons (pe_ifExp (pt_cmpR (op_eq) (pv 2) pe_str (nomark _)) (pe_callB call_absR (by rfl) T.b_abs (show bootBuiltins "abs" = some (.builtin "abs") from by decide +kernel) (pa_cons (pv 1) pa_nil)) (pe_un un_neg (pv 1))) pa_nil)))) pss_nil) (pss_cons (ps_if (pt_chain op_le op_le (pe_ix ix_tup (pv 0) pe_int (fun _ _ => rfl)) (pv 1) (pe_ix ix_tup (pv 0) pe_int (fun _ _ => rfl))) (pss_one (ps_ret (pe_lst (pa_cons (pv 1) pa_nil)))) pss_nil) (pss_one (ps_ret (pe_ifExp (pt_cmpR (op_eq) (pv 2) pe_str (nomark _)) (pe_lst (pa_cons pe_non pa_nil)) (pe_lst pa_nil))))))))))), ?_⟩
    cases st with
    | clamp a b =>
      replace ht : SqT K H t [.str "clamp", .int a, .int b] := ht
      walk_at "w"
      exact k.fin (by walk_at "same") ‹_› rfl
    | least a =>
      replace ht : SqT K H t [.str "least", .int a] := ht
      walk_at "w"
      exact k.fin (by walk_at "same") ‹_› rfl
    | most b =>
      replace ht : SqT K H t [.str "most", .int b] := ht
      walk_at "w"
      exact k.fin (by walk_at "same") ‹_› rfl
    | round m wy =>
      replace ht : SqT K H t [.str "round", .int m, .str (wv wy)] := ht
      walk_at "w"
      obtain ⟨m0, m1⟩ := okM_pos ho
      refine go_rounded m0 m1 ?_
      walk_at "w"
      exact k.fin (by walk_at "same") ‹_› rfl
    | shift dd =>
      replace ht : SqT K H t [.str "shift", .int dd] := ht
      walk_at "w"
      exact k.fin (by walk_at "same") ‹_› rfl
    | fold m =>
      replace ht : SqT K H t [.str "fold", .int m] := ht
      obtain ⟨m0, m1⟩ := okM_pos ho
      walk_at "w"
      exact k.fin (by walk_at "same") ‹_› rfl
    | mirror =>
      replace ht : SqT K H t [.str "mirror"] := ht
      walk_at "w"
      exact k.fin (by walk_at "same") ‹_› rfl
    | turn =>
      replace ht : SqT K H t [.str "turn"] := ht
      walk_at "w"
      exact k.fin (by walk_at "same") ‹_› rfl
    | blank a b =>
      replace ht : SqT K H t [.str "blank", .int a, .int b] := ht
      walk_at "w"
      have ein : a ≤ n ∧ n ≤ b → optL (ofNum (.blank a b) n) = [.int n] := fun h => by simp [ofNum, h.1, h.2, optL, vv]
      have eout : ¬ (a ≤ n ∧ n ≤ b) → optL (ofNum (.blank a b) n) = [.non] := fun h => by simp only [ofNum, if_neg h, optL, vv]
      refine w_d2 (fun e1 => ?_) (fun e1 => ?_)
      · walk_at "w"
        refine w_d2 (fun e2 => ?_) (fun e2 => ?_)
        · walk_at "w"
          exact k.fin (by walk_at "same") ‹_› (ein ⟨e1, e2⟩).symm
        · walk_at "w"
          exact k.fin (by walk_at "same") ‹_› (eout fun h => e2 h.2).symm
      · walk_at "w"
        exact k.fin (by walk_at "same") ‹_› (eout fun h => e1 h.1).symm
    | refuse a b =>
      replace ht : SqT K H t [.str "refuse", .int a, .int b] := ht
      walk_at "w"
      have ein : a ≤ n ∧ n ≤ b → optL (ofNum (.refuse a b) n) = [.int n] := fun h => by simp [ofNum, h.1, h.2, optL, vv]
      have eout : ¬ (a ≤ n ∧ n ≤ b) → optL (ofNum (.refuse a b) n) = [] := fun h => by simp only [ofNum, if_neg h, optL, vv]
      refine w_d2 (fun e1 => ?_) (fun e1 => ?_)
      · walk_at "w"
        refine w_d2 (fun e2 => ?_) (fun e2 => ?_)
        · walk_at "w"
          exact k.fin (by walk_at "same") ‹_› (ein ⟨e1, e2⟩).symm
        · walk_at "w"
          exact k.fin (by walk_at "same") ‹_› (eout fun h => e2 h.2).symm
      · walk_at "w"
        exact k.fin (by walk_at "same") ‹_› (eout fun h => e1 h.1).symm
    | fill v => exact hi.elim
    | replace v u => exact hi.elim
    | void q => exact hi.elim
    | bar q => exact hi.elim
end
end TB

set_option maxHeartbeats 4000000
namespace TB
open PySem PySem.Spec PyProof.Rows L2 TW
local macro_rules | `(tactic| walk_at "same") => `(tactic| first
  | exact Same.refl _
  | assumption
  | ((with_reducible refine' Same.trans ?sa (Same.new ?sb)); (case sb => assumption); (case sa => walk_at "same"))
  | ((with_reducible refine' Same.trans ?sa ?sb); (case sb => assumption); (case sa => walk_at "same"))
  | fail)
local macro_rules | `(tactic| walk_at "at") => `(tactic| first
  | assumption
  | exact upd_same
  | ((with_reducible refine' Same.get (Same.new ?sb) ?sa); (case sb => assumption); (case sa => walk_at "at"))
  | ((with_reducible refine' Same.get ?sb ?sa); (case sb => assumption); (case sa => walk_at "at"))
  | ((with_reducible refine' SameX.get ?sb ?sn ?sa); (case sb => assumption); (case sn => assumption); (case sa => walk_at "at"))
  | fail)
local macro_rules | `(tactic| walk_at "sq") => `(tactic| first
  | assumption
  | ((with_reducible refine' tupAt ?sa); (case sa => walk_at "at"))
  | ((with_reducible refine' lstAt ?sa); (case sa => walk_at "at"))
  | ((with_reducible refine' Same.tup (Same.new ?sb) ?sa); (case sb => assumption); (case sa => walk_at "sq"))
  | ((with_reducible refine' Same.lst (Same.new ?sb) ?sa); (case sb => assumption); (case sa => walk_at "sq"))
  | ((with_reducible refine' Same.tup ?sb ?sa); (case sb => assumption); (case sa => walk_at "sq"))
  | ((with_reducible refine' Same.lst ?sb ?sa); (case sb => assumption); (case sa => walk_at "sq"))
  | fail)
local macro_rules | `(tactic| walk_at "ix") => `(tactic| first
  | with_reducible exact atI_0
  | with_reducible exact atI_1
  | with_reducible exact atI_2
  | with_reducible exact atI_3
  | assumption
  | exact rfl)
local macro_rules | `(tactic| walk_at "dr") => `(tactic| first
  | assumption
  | ((with_reducible refine' DrawsAt.same ?sa (Same.new ?sb)); (case sb => assumption); (case sa => walk_at "dr"))
  | ((with_reducible refine' DrawsAt.same ?sa ?sb); (case sb => assumption); (case sa => walk_at "dr"))
  | fail)
local macro_rules | `(tactic| walk_at "sx") => `(tactic| first
  | exact SameX.refl _ _
  | assumption
  | ((with_reducible refine' SameX.new ?sa ?sb); (case sb => assumption); (case sa => walk_at "sx"))
  | ((with_reducible refine' SameX.trans ?sa ?sb); (case sb => assumption); (case sa => walk_at "sx"))
  | ((with_reducible refine' SameX.trans ?sa (SameX.of ?sb)); (case sb => assumption); (case sa => walk_at "sx"))
  | fail)
local macro_rules | `(tactic| walk_at "x1") => `(tactic| fail)
local macro_rules | `(tactic| walk_at "w1") => `(tactic| first
  | ((with_reducible refine' w_var ?hv ?_); (case hv => exact rfl))
  | with_reducible refine' w_c ?_
  | with_reducible refine' w_op ?_
  | with_reducible refine' w_seq ?_
  | with_reducible refine' w_asg ?_
  | with_reducible refine' w_gname ?_
  | with_reducible refine' w_ret ?_
  | with_reducible refine' w_retN ?_
  | with_reducible refine' w_drop ?_
  | with_reducible refine' w_next ?_
  | with_reducible refine' w_nil ?_
  | with_reducible refine' w_cons ?_
  | with_reducible refine' w_cb ?_
  | with_reducible refine' w_call ?_
  | with_reducible refine' w_callS ?_
  | with_reducible refine' w_un ?_
  | with_reducible refine' w_I0 ?_
  | with_reducible refine' w_U ?_
  | ((with_reducible refine' w_eq ?hv ?_); (case hv => exact rfl))
  | ((with_reducible refine' w_ne ?hv ?_); (case hv => exact rfl))
  | with_reducible refine' w_test ?_
  | with_reducible refine' w_tB ?_
  | with_reducible refine' w_bl ?_
  | with_reducible refine' w_blA ?_
  | with_reducible refine' w_and ?_
  | with_reducible refine' w_or ?_
  | with_reducible refine' w_not ?_
  | with_reducible refine' w_andV ?_
  | with_reducible refine' w_orV ?_
  | with_reducible refine' w_notV ?_
  | with_reducible refine' w_if ?_
  | with_reducible refine' w_ifS ?_
  | with_reducible refine' w_T ?_
  | with_reducible refine' w_F ?_
  | with_reducible refine' w_NT ?_
  | with_reducible refine' w_NF ?_
  | with_reducible refine' w_tup ?_
  | with_reducible refine' w_lst ?_
  | with_reducible refine' w_chain ?_
  | with_reducible refine' w_rfl ?_
  | ((with_reducible refine' w_szn ?hl ?_); (case hl => simp only [List.length_cons, List.length_nil]; decide); intro _ _)
  | ((with_reducible refine' w_isiF ?hv ?hw ?_); (case hv => first | assumption | rfl); (case hw => decide))
  | with_reducible refine' w_slice ?_
  | with_reducible refine' w_nopart ?_
  | with_reducible refine' w_part ?_
  | with_reducible refine' w_partI ?_
  | with_reducible refine' w_lc ?_
  | with_reducible refine' w_for ?_
  | with_reducible refine' w_iZip ?_
  | with_reducible refine' w_iEnum ?_
  | with_reducible refine' w_iList ?_
  | with_reducible refine' w_iTup ?_
  | with_reducible refine' w_iR1 ?_
  | with_reducible refine' w_iR2 ?_
  | with_reducible refine' w_gcons ?_
  | ((with_reducible refine' w_gunl ?hv ?hw ?_); (case hv => walk_at "sq"); (case hw => exact rfl))
  | with_reducible refine' w_gnil ?_
  | ((with_reducible refine' w_gtupH ?hv ?hw ?_); (case hv => walk_at "at"); (case hw => exact rfl))
  | ((with_reducible refine' w_wipe (σ := wipe _ _) ?hv ?_); (case hv => exact rfl))
  | with_reducible refine' w_yes ?_
  | with_reducible refine' w_tru ?_
  | with_reducible refine' w_rs ?_
  | with_reducible refine' w_mkO ?_
  | ((with_reducible refine' w_exc1 ?_); intro _ _)
  | with_reducible refine' w_make ?_
  | with_reducible refine' w_makeS ?_
  | with_reducible refine' w_fldG ?_
  | with_reducible refine' w_setF ?_
  | ((with_reducible refine' w_ixT ?hv ?hw ?_); (case hv => walk_at "sq"); (case hw => walk_at "ix"))
  | ((with_reducible refine' w_ixL ?hv ?hw ?_); (case hv => walk_at "sq"); (case hw => walk_at "ix"))
  | ((with_reducible refine' w_lenT ?hv ?_); (case hv => walk_at "sq"))
  | ((with_reducible refine' w_lenL ?hv ?_); (case hv => walk_at "sq"))
  | ((with_reducible refine' w_I ?hc ?_); (case hc => first | (exact cmul_r (by omega) (by omega)) | (exact cmul_l (by omega) (by omega)) | (show (0 : Int) < _; first | assumption | omega) | (exact ⟨by first | assumption | omega, by first | assumption | omega⟩) | (exact ⟨by omega, by omega, by omega⟩)))
  | with_reducible refine' w_int1 ?_
  | with_reducible refine' w_bm ?_
  | with_reducible refine' w_tryA ?_
  | with_reducible refine' w_tryO ?_
  | with_reducible refine' w_insS ?_
  | with_reducible refine' w_xfG ?_
  | ((with_reducible refine' w_cat ?ha ?hb ?hl ?_); (case ha => walk_at "at"); (case hb => walk_at "at"); (case hl => simp only [List.length_cons, List.length_nil, List.length_append]; decide); intro _ _)
  | with_reducible refine' w_gsub ?_
  | ((with_reducible refine' w_setL ?hv ?hw ?_); (case hv => walk_at "at"); (case hw => exact rfl))
  | walk_at "x1"
  | fail)
local macro_rules | `(tactic| walk_at "w") => `(tactic| repeat' walk_at "w1")
local macro_rules | `(tactic| walk_at "a1") => `(tactic| first
  | with_reducible refine' w_tupR ?_
  | with_reducible refine' w_lstR ?_
  | ((with_reducible refine' w_tupA ?hl ?_); (case hl => simp only [List.length_cons, List.length_nil]; decide); intro _ _ _ _ _)
  | ((with_reducible refine' w_lstA ?hl ?_); (case hl => simp only [List.length_cons, List.length_nil]; decide); intro _ _ _ _ _)
  | ((with_reducible refine' w_catA ?ha ?hb ?hl ?_); (case ha => walk_at "at"); (case hb => walk_at "at"); (case hl => simp only [List.length_cons, List.length_nil, List.length_append]; decide); intro _ _ _ _ _)
  | walk_at "w1"
  | fail)
local macro_rules | `(tactic| walk_at "wa") => `(tactic| repeat' walk_at "a1")

local macro_rules | `(tactic| walk_at "x1") => `(tactic| first
  | ((with_reducible refine' go_isN ?hv ?_); (case hv => first | assumption | exact vv_flat _ | rfl))
  | with_reducible refine' go_kind ?_
  | with_reducible refine' go_same ?_
  | ((with_reducible refine' w_inT ?h1 ?h2 ?h3 ?_); (case h1 => walk_at "sq"); (case h2 => rfl); (case h3 => rfl))
  | ((with_reducible refine' w_dF ?hv ?_); (case hv => decide +kernel))
  | ((with_reducible refine' w_dT ?hv ?_); (case hv => decide +kernel))
  | ((with_reducible refine' w_nT ?hv ?_); (case hv => decide +kernel))
  | ((with_reducible refine' w_nF ?hv ?_); (case hv => decide +kernel))
  | ((with_reducible refine' w_bT ?hv ?_); (case hv => decide +kernel))
  | ((with_reducible refine' w_bF ?hv ?_); (case hv => decide +kernel))
  | fail)
theorem sc_stepped : FnScope ["step", "value", "word"] ["step", "value"] (defScope s_stepped) := ⟨rfl, rfl, rfl, by decide +kernel, rfl, by decide +kernel, by decide +kernel⟩
section
variable {P : Program} {w : World} {K : PySem.W.Frag} {mg : Str → Option Value} {base : Heap}
theorem ok_stepped (T : Fx w K mg) (c_is_number : Cal P w K mg base 1 "is_number" ["value"] spIsN) (c_kind_of : Cal P w K mg base 2 "kind_of" ["value"] spKind) (c_is_same : Cal P w K mg base 1 "is_same" ["one", "other"] spSame) (c_of_number : Cal P w K mg base 2 "of_number" ["step", "number"] (spOfNum K)) : Cal P w K mg base 3 "stepped" ["step", "value"] (spStepped K) := by
  refine cal_of T.f_stepped sc_stepped (fun vs H Q E h => ?_) (fun _ _ _ _ _ _ us hl => match us, hl with | [_, _], _ => rfl) (fun f cdv A outer s H vs Q E hr h => ?_)
  · obtain ⟨t, s, n, rfl, _⟩ := h; rfl
  · obtain ⟨t, st, x, rfl, ht, ho, k⟩ := h
    refine ⟨_, (pss_cons (ps_set (i := 2) sc_stepped.nd rfl (Or.inl rfl) (pe_ix ix_tup (pv 0) pe_int (fun _ _ => rfl))) (pss_cons (ps_if (pt_cmpR (op_eq) (pv 2) pe_str (nomark _)) (pss_one (ps_ret (pe_lst (pa_cons (pe_ifExp (pt_cmpR (op_isN) (pv 1) pe_non (nomark _)) (pe_ix ix_tup (pv 0) pe_int (fun _ _ => rfl)) (pv 1)) pa_nil)))) pss_nil) (pss_cons (ps_if (pt_cmpR (op_eq) (pv 2) pe_str (nomark _)) (pss_one (ps_ret (pe_lst (pa_cons (pe_ifExp (pt_val (pe_cal c_is_same hr (by first | decide | omega) rfl (pa_cons (pv 1) (pa_cons (pe_ix ix_tup (pv 0) pe_int (fun _ _ => rfl)) pa_nil)))) (pe_ix ix_tup (pv 0) pe_int (fun _ _ => rfl)) (pv 1)) pa_nil)))) pss_nil) (pss_cons (ps_if (pt_cmpR (op_in_seq) (pv 2) (pe_tup (pa_cons pe_str (pa_cons pe_str pa_nil))) (by rfl)) (pss_cons (ps_if (pt_cmpR (op_ne) (pe_cal c_kind_of hr (by first | decide | omega) rfl (pa_cons (pv 1) pa_nil)) (pe_ix ix_tup (pv 0) pe_int (fun _ _ => rfl)) (nomark _)) (pss_one (ps_ret (pe_lst (pa_cons (pv 1) pa_nil)))) pss_nil) (pss_one (ps_ret (pe_ifExp (pt_cmpR (op_eq) (pv 2) pe_str (nomark _)) (pe_lst (pa_cons pe_non pa_nil)) (pe_lst pa_nil))))) pss_nil) (pss_one (ps_ret (pe_ifExp (pt_val (pe_cal c_is_number hr (by first | decide | omega) rfl (pa_cons (pv 1) pa_nil))) (pe_cal c_of_number hr (by first | decide | omega) rfl (pa_cons (pv 0) (pa_cons (pv 1) pa_nil))) (pe_lst (pa_cons (pv 1) pa_nil))))))))), ?_⟩
    cases st with
    | fill v =>
      replace ht : SqT K H t [.str "fill", vv v] := ht
      walk_at "w"
      refine w_d2 (fun e1 => ?_) (fun e1 => ?_)
      · walk_at "w"
        rw [non_iff] at e1
        exact k.fin (by walk_at "same") ‹_› (by subst e1; rfl)
      · walk_at "w"
        rw [non_iff] at e1
        exact k.fin (by walk_at "same") ‹_› (by simp [step1, e1, optL])
    | replace v u =>
      replace ht : SqT K H t [.str "replace", vv v, vv u] := ht
      walk_at "w"
      refine w_d2 (fun e1 => ?_) (fun e1 => ?_)
      · walk_at "w"
        exact k.fin (by walk_at "same") ‹_› (by simp [step1, e1, optL])
      · walk_at "w"
        exact k.fin (by walk_at "same") ‹_› (by simp [step1, e1, optL])
    | void q =>
      replace ht : SqT K H t [.str "void", .str (kv q)] := ht
      walk_at "w"
      refine w_n2 (fun e1 => ?_) (fun e1 => ?_)
      · walk_at "w"
        have e : ¬ x.kind = q := fun h => e1 (by rw [← h]; rfl)
        exact k.fin (by walk_at "same") ‹_› (by simp [step1, e, optL])
      · walk_at "w"
        have e : x.kind = q := kv_inj (V.str.inj e1)
        exact k.fin (by walk_at "same") ‹_› (by simp [step1, e, optL, vv])
    | bar q =>
      replace ht : SqT K H t [.str "bar", .str (kv q)] := ht
      walk_at "w"
      refine w_n2 (fun e1 => ?_) (fun e1 => ?_)
      · walk_at "w"
        have e : ¬ x.kind = q := fun h => e1 (by rw [← h]; rfl)
        exact k.fin (by walk_at "same") ‹_› (by simp [step1, e, optL])
      · walk_at "w"
        have e : x.kind = q := kv_inj (V.str.inj e1)
        exact k.fin (by walk_at "same") ‹_› (by simp [step1, e, optL])
    | clamp a b =>
      have hs : isNumS (.clamp a b) := trivial
      have ht0 := ht
      replace ht : SqT K H t [.str "clamp", .int a, .int b] := ht
      walk_at "w"
      refine w_b2 (fun e1 => ?_) (fun e1 => ?_)
      · obtain ⟨n, rfl⟩ := num_of e1
        walk_at "w"
        refine go_ofNum (s := .clamp a b) (by first | exact ht0 | exact Same.tup (by walk_at "same") ht0) ho hs fun l H2 s2 l2 q2 => ?_
        exact k l H2 (Same.trans (by walk_at "same") s2) (Same.free (by walk_at "same") l2) (by rw [step1_num hs]; exact q2)
      · walk_at "w"
        exact k.fin (by walk_at "same") ‹_› (by rw [step1_word hs e1]; rfl)
    | least a =>
      have hs : isNumS (.least a) := trivial
      have ht0 := ht
      replace ht : SqT K H t [.str "least", .int a] := ht
      walk_at "w"
      refine w_b2 (fun e1 => ?_) (fun e1 => ?_)
      · obtain ⟨n, rfl⟩ := num_of e1
        walk_at "w"
        refine go_ofNum (s := .least a) (by first | exact ht0 | exact Same.tup (by walk_at "same") ht0) ho hs fun l H2 s2 l2 q2 => ?_
        exact k l H2 (Same.trans (by walk_at "same") s2) (Same.free (by walk_at "same") l2) (by rw [step1_num hs]; exact q2)
      · walk_at "w"
        exact k.fin (by walk_at "same") ‹_› (by rw [step1_word hs e1]; rfl)
    | most b =>
      have hs : isNumS (.most b) := trivial
      have ht0 := ht
      replace ht : SqT K H t [.str "most", .int b] := ht
      walk_at "w"
      refine w_b2 (fun e1 => ?_) (fun e1 => ?_)
      · obtain ⟨n, rfl⟩ := num_of e1
        walk_at "w"
        refine go_ofNum (s := .most b) (by first | exact ht0 | exact Same.tup (by walk_at "same") ht0) ho hs fun l H2 s2 l2 q2 => ?_
        exact k l H2 (Same.trans (by walk_at "same") s2) (Same.free (by walk_at "same") l2) (by rw [step1_num hs]; exact q2)
      · walk_at "w"
        exact k.fin (by walk_at "same") ‹_› (by rw [step1_word hs e1]; rfl)
    | round m wy =>
      have hs : isNumS (.round m wy) := trivial
      have ht0 := ht
      replace ht : SqT K H t [.str "round", .int m, .str (wv wy)] := ht
      walk_at "w"
      refine w_b2 (fun e1 => ?_) (fun e1 => ?_)
      · obtain ⟨n, rfl⟩ := num_of e1
        walk_at "w"
        refine go_ofNum (s := .round m wy) (by first | exact ht0 | exact Same.tup (by walk_at "same") ht0) ho hs fun l H2 s2 l2 q2 => ?_
        exact k l H2 (Same.trans (by walk_at "same") s2) (Same.free (by walk_at "same") l2) (by rw [step1_num hs]; exact q2)
      · walk_at "w"
        exact k.fin (by walk_at "same") ‹_› (by rw [step1_word hs e1]; rfl)
    | shift dd =>
      have hs : isNumS (.shift dd) := trivial
      have ht0 := ht
      replace ht : SqT K H t [.str "shift", .int dd] := ht
      walk_at "w"
      refine w_b2 (fun e1 => ?_) (fun e1 => ?_)
      · obtain ⟨n, rfl⟩ := num_of e1
        walk_at "w"
        refine go_ofNum (s := .shift dd) (by first | exact ht0 | exact Same.tup (by walk_at "same") ht0) ho hs fun l H2 s2 l2 q2 => ?_
        exact k l H2 (Same.trans (by walk_at "same") s2) (Same.free (by walk_at "same") l2) (by rw [step1_num hs]; exact q2)
      · walk_at "w"
        exact k.fin (by walk_at "same") ‹_› (by rw [step1_word hs e1]; rfl)
    | fold m =>
      have hs : isNumS (.fold m) := trivial
      have ht0 := ht
      replace ht : SqT K H t [.str "fold", .int m] := ht
      walk_at "w"
      refine w_b2 (fun e1 => ?_) (fun e1 => ?_)
      · obtain ⟨n, rfl⟩ := num_of e1
        walk_at "w"
        refine go_ofNum (s := .fold m) (by first | exact ht0 | exact Same.tup (by walk_at "same") ht0) ho hs fun l H2 s2 l2 q2 => ?_
        exact k l H2 (Same.trans (by walk_at "same") s2) (Same.free (by walk_at "same") l2) (by rw [step1_num hs]; exact q2)
      · walk_at "w"
        exact k.fin (by walk_at "same") ‹_› (by rw [step1_word hs e1]; rfl)
    | mirror =>
      have hs : isNumS .mirror := trivial
      have ht0 := ht
      replace ht : SqT K H t [.str "mirror"] := ht
      walk_at "w"
      refine w_b2 (fun e1 => ?_) (fun e1 => ?_)
      · obtain ⟨n, rfl⟩ := num_of e1
        walk_at "w"
        refine go_ofNum (s := .mirror) (by first | exact ht0 | exact Same.tup (by walk_at "same") ht0) ho hs fun l H2 s2 l2 q2 => ?_
        exact k l H2 (Same.trans (by walk_at "same") s2) (Same.free (by walk_at "same") l2) (by rw [step1_num hs]; exact q2)
      · walk_at "w"
        exact k.fin (by walk_at "same") ‹_› (by rw [step1_word hs e1]; rfl)
    | turn =>
      have hs : isNumS .turn := trivial
      have ht0 := ht
      replace ht : SqT K H t [.str "turn"] := ht
      walk_at "w"
      refine w_b2 (fun e1 => ?_) (fun e1 => ?_)
      · obtain ⟨n, rfl⟩ := num_of e1
        walk_at "w"
        refine go_ofNum (s := .turn) (by first | exact ht0 | exact Same.tup (by walk_at "same") ht0) ho hs fun l H2 s2 l2 q2 => ?_
        exact k l H2 (Same.trans (by walk_at "same") s2) (Same.free (by walk_at "same") l2) (by rw [step1_num hs]; exact q2)
      · walk_at "w"
        exact k.fin (by walk_at "same") ‹_› (by rw [step1_word hs e1]; rfl)
    | blank a b =>
      have hs : isNumS (.blank a b) := trivial
      have ht0 := ht
      replace ht : SqT K H t [.str "blank", .int a, .int b] := ht
      walk_at "w"
      refine w_b2 (fun e1 => ?_) (fun e1 => ?_)
      · obtain ⟨n, rfl⟩ := num_of e1
        walk_at "w"
        refine go_ofNum (s := .blank a b) (by first | exact ht0 | exact Same.tup (by walk_at "same") ht0) ho hs fun l H2 s2 l2 q2 => ?_
        exact k l H2 (Same.trans (by walk_at "same") s2) (Same.free (by walk_at "same") l2) (by rw [step1_num hs]; exact q2)
      · walk_at "w"
        exact k.fin (by walk_at "same") ‹_› (by rw [step1_word hs e1]; rfl)
    | refuse a b =>
      have hs : isNumS (.refuse a b) := trivial
      have ht0 := ht
      replace ht : SqT K H t [.str "refuse", .int a, .int b] := ht
      walk_at "w"
      refine w_b2 (fun e1 => ?_) (fun e1 => ?_)
      · obtain ⟨n, rfl⟩ := num_of e1
        walk_at "w"
        refine go_ofNum (s := .refuse a b) (by first | exact ht0 | exact Same.tup (by walk_at "same") ht0) ho hs fun l H2 s2 l2 q2 => ?_
        exact k l H2 (Same.trans (by walk_at "same") s2) (Same.free (by walk_at "same") l2) (by rw [step1_num hs]; exact q2)
      · walk_at "w"
        exact k.fin (by walk_at "same") ‹_› (by rw [step1_word hs e1]; rfl)
end
end TB

set_option maxHeartbeats 4000000
namespace TB
open PySem PySem.Spec PyProof.Rows L2 TW
local macro_rules | `(tactic| walk_at "same") => `(tactic| first
  | exact Same.refl _
  | assumption
  | ((with_reducible refine' Same.trans ?sa (Same.new ?sb)); (case sb => assumption); (case sa => walk_at "same"))
  | ((with_reducible refine' Same.trans ?sa ?sb); (case sb => assumption); (case sa => walk_at "same"))
  | fail)
local macro_rules | `(tactic| walk_at "at") => `(tactic| first
  | assumption
  | exact upd_same
  | ((with_reducible refine' Same.get (Same.new ?sb) ?sa); (case sb => assumption); (case sa => walk_at "at"))
  | ((with_reducible refine' Same.get ?sb ?sa); (case sb => assumption); (case sa => walk_at "at"))
  | ((with_reducible refine' SameX.get ?sb ?sn ?sa); (case sb => assumption); (case sn => assumption); (case sa => walk_at "at"))
  | fail)
local macro_rules | `(tactic| walk_at "sq") => `(tactic| first
  | assumption
  | ((with_reducible refine' tupAt ?sa); (case sa => walk_at "at"))
  | ((with_reducible refine' lstAt ?sa); (case sa => walk_at "at"))
  | ((with_reducible refine' Same.tup (Same.new ?sb) ?sa); (case sb => assumption); (case sa => walk_at "sq"))
  | ((with_reducible refine' Same.lst (Same.new ?sb) ?sa); (case sb => assumption); (case sa => walk_at "sq"))
  | ((with_reducible refine' Same.tup ?sb ?sa); (case sb => assumption); (case sa => walk_at "sq"))
  | ((with_reducible refine' Same.lst ?sb ?sa); (case sb => assumption); (case sa => walk_at "sq"))
  | fail)
local macro_rules | `(tactic| walk_at "ix") => `(tactic| first
  | with_reducible exact atI_0
  | with_reducible exact atI_1
  | with_reducible exact atI_2
  | with_reducible exact atI_3
  | assumption
  | exact rfl)
local macro_rules | `(tactic| walk_at "dr") => `(tactic| first
  | assumption
  | ((with_reducible refine' DrawsAt.same ?sa (Same.new ?sb)); (case sb => assumption); (case sa => walk_at "dr"))
  | ((with_reducible refine' DrawsAt.same ?sa ?sb); (case sb => assumption); (case sa => walk_at "dr"))
  | fail)
local macro_rules | `(tactic| walk_at "sx") => `(tactic| first
  | exact SameX.refl _ _
  | assumption
  | ((with_reducible refine' SameX.new ?sa ?sb); (case sb => assumption); (case sa => walk_at "sx"))
  | ((with_reducible refine' SameX.trans ?sa ?sb); (case sb => assumption); (case sa => walk_at "sx"))
  | ((with_reducible refine' SameX.trans ?sa (SameX.of ?sb)); (case sb => assumption); (case sa => walk_at "sx"))
  | fail)
local macro_rules | `(tactic| walk_at "x1") => `(tactic| fail)
local macro_rules | `(tactic| walk_at "w1") => `(tactic| first
  | ((with_reducible refine' w_var ?hv ?_); (case hv => exact rfl))
  | with_reducible refine' w_c ?_
  | with_reducible refine' w_op ?_
  | with_reducible refine' w_seq ?_
  | with_reducible refine' w_asg ?_
  | with_reducible refine' w_gname ?_
  | with_reducible refine' w_ret ?_
  | with_reducible refine' w_retN ?_
  | with_reducible refine' w_drop ?_
  | with_reducible refine' w_next ?_
  | with_reducible refine' w_nil ?_
  | with_reducible refine' w_cons ?_
  | with_reducible refine' w_cb ?_
  | with_reducible refine' w_call ?_
  | with_reducible refine' w_callS ?_
  | with_reducible refine' w_un ?_
  | with_reducible refine' w_I0 ?_
  | with_reducible refine' w_U ?_
  | ((with_reducible refine' w_eq ?hv ?_); (case hv => exact rfl))
  | ((with_reducible refine' w_ne ?hv ?_); (case hv => exact rfl))
  | with_reducible refine' w_test ?_
  | with_reducible refine' w_tB ?_
  | with_reducible refine' w_bl ?_
  | with_reducible refine' w_blA ?_
  | with_reducible refine' w_and ?_
  | with_reducible refine' w_or ?_
  | with_reducible refine' w_not ?_
  | with_reducible refine' w_andV ?_
  | with_reducible refine' w_orV ?_
  | with_reducible refine' w_notV ?_
  | with_reducible refine' w_if ?_
  | with_reducible refine' w_ifS ?_
  | with_reducible refine' w_T ?_
  | with_reducible refine' w_F ?_
  | with_reducible refine' w_NT ?_
  | with_reducible refine' w_NF ?_
  | with_reducible refine' w_tup ?_
  | with_reducible refine' w_lst ?_
  | with_reducible refine' w_chain ?_
  | with_reducible refine' w_rfl ?_
  | ((with_reducible refine' w_szn ?hl ?_); (case hl => simp only [List.length_cons, List.length_nil]; decide); intro _ _)
  | ((with_reducible refine' w_isiF ?hv ?hw ?_); (case hv => first | assumption | rfl); (case hw => decide))
  | with_reducible refine' w_slice ?_
  | with_reducible refine' w_nopart ?_
  | with_reducible refine' w_part ?_
  | with_reducible refine' w_partI ?_
  | with_reducible refine' w_lc ?_
  | with_reducible refine' w_for ?_
  | with_reducible refine' w_iZip ?_
  | with_reducible refine' w_iEnum ?_
  | with_reducible refine' w_iList ?_
  | with_reducible refine' w_iTup ?_
  | with_reducible refine' w_iR1 ?_
  | with_reducible refine' w_iR2 ?_
  | with_reducible refine' w_gcons ?_
  | ((with_reducible refine' w_gunl ?hv ?hw ?_); (case hv => walk_at "sq"); (case hw => exact rfl))
  | with_reducible refine' w_gnil ?_
  | ((with_reducible refine' w_gtupH ?hv ?hw ?_); (case hv => walk_at "at"); (case hw => exact rfl))
  | ((with_reducible refine' w_wipe (σ := wipe _ _) ?hv ?_); (case hv => exact rfl))
  | with_reducible refine' w_yes ?_
  | with_reducible refine' w_tru ?_
  | with_reducible refine' w_rs ?_
  | with_reducible refine' w_mkO ?_
  | ((with_reducible refine' w_exc1 ?_); intro _ _)
  | with_reducible refine' w_make ?_
  | with_reducible refine' w_makeS ?_
  | with_reducible refine' w_fldG ?_
  | with_reducible refine' w_setF ?_
  | ((with_reducible refine' w_ixT ?hv ?hw ?_); (case hv => walk_at "sq"); (case hw => walk_at "ix"))
  | ((with_reducible refine' w_ixL ?hv ?hw ?_); (case hv => walk_at "sq"); (case hw => walk_at "ix"))
  | ((with_reducible refine' w_lenT ?hv ?_); (case hv => walk_at "sq"))
  | ((with_reducible refine' w_lenL ?hv ?_); (case hv => walk_at "sq"))
  | ((with_reducible refine' w_I ?hc ?_); (case hc => first | (exact cmul_r (by omega) (by omega)) | (exact cmul_l (by omega) (by omega)) | (show (0 : Int) < _; first | assumption | omega) | (exact ⟨by first | assumption | omega, by first | assumption | omega⟩) | (exact ⟨by omega, by omega, by omega⟩)))
  | with_reducible refine' w_int1 ?_
  | with_reducible refine' w_bm ?_
  | with_reducible refine' w_tryA ?_
  | with_reducible refine' w_tryO ?_
  | with_reducible refine' w_insS ?_
  | with_reducible refine' w_xfG ?_
  | ((with_reducible refine' w_cat ?ha ?hb ?hl ?_); (case ha => walk_at "at"); (case hb => walk_at "at"); (case hl => simp only [List.length_cons, List.length_nil, List.length_append]; decide); intro _ _)
  | with_reducible refine' w_gsub ?_
  | ((with_reducible refine' w_setL ?hv ?hw ?_); (case hv => walk_at "at"); (case hw => exact rfl))
  | walk_at "x1"
  | fail)
local macro_rules | `(tactic| walk_at "w") => `(tactic| repeat' walk_at "w1")
local macro_rules | `(tactic| walk_at "a1") => `(tactic| first
  | with_reducible refine' w_tupR ?_
  | with_reducible refine' w_lstR ?_
  | ((with_reducible refine' w_tupA ?hl ?_); (case hl => simp only [List.length_cons, List.length_nil]; decide); intro _ _ _ _ _)
  | ((with_reducible refine' w_lstA ?hl ?_); (case hl => simp only [List.length_cons, List.length_nil]; decide); intro _ _ _ _ _)
  | ((with_reducible refine' w_catA ?ha ?hb ?hl ?_); (case ha => walk_at "at"); (case hb => walk_at "at"); (case hl => simp only [List.length_cons, List.length_nil, List.length_append]; decide); intro _ _ _ _ _)
  | walk_at "w1"
  | fail)
local macro_rules | `(tactic| walk_at "wa") => `(tactic| repeat' walk_at "a1")

theorem sc_followed : FnScope ["steps", "value", "found", "step", "told"] ["steps", "value"] (defScope s_followed) := ⟨rfl, rfl, rfl, by decide +kernel, rfl, by decide +kernel, by decide +kernel⟩
section
variable {P : Program} {w : World} {K : PySem.W.Frag} {mg : Str → Option Value} {base : Heap}
theorem ok_followed (T : Fx w K mg) (c_stepped : Cal P w K mg base 3 "stepped" ["step", "value"] (spStepped K)) : Cal P w K mg base 4 "followed" ["steps", "value"] (spFollowed K) := by
  refine cal_of T.f_followed sc_followed (fun vs H Q E h => ?_) (fun _ _ _ _ _ _ us hl => match us, hl with | [_, _], _ => rfl) (fun f cdv A outer s H vs Q E hr h => ?_)
  · obtain ⟨a, ss, x, rfl, _⟩ := h; rfl
  · obtain ⟨a, ss, x, rfl, ⟨items, ha, hp⟩, hok, hl, k⟩ := h
    refine ⟨_, (pss_cons (ps_set (i := 2) sc_followed.nd rfl (Or.inl rfl) (pe_lst pa_nil)) (pss_cons (ps_for (passes_of rfl) rfl (pi_tup (pv 0)) (pg_name (i := 3) sc_followed.nd rfl (Or.inl rfl)) (pss_cons (ps_set (i := 4) sc_followed.nd rfl (Or.inl rfl) (pe_cal c_stepped hr (by first | decide | omega) rfl (pa_cons (pv 3) (pa_cons (pv 1) pa_nil)))) (pss_cons (ps_if (pt_not (pt_tru (pv 4) (by intro _; rfl))) (pss_one (ps_ret (pv 2))) pss_nil) (pss_cons (ps_set (i := 1) sc_followed.nd rfl (Or.inl rfl) (pe_ix ix_list (pv 4) pe_int (fun _ _ => rfl))) (pss_one (ps_expr (pe_bm PySem.F.plainAttrs_list PySem.F.slot_list_append PySem.F.type_list_append mt_append (pv 2) (pa_cons (pv 1) pa_nil)))))))) (pss_one (ps_ret (pv 2))))), ?_⟩
    have hll : ss.length = items.length := hp.length
    walk_at "w"
    rename_i F hF
    refine w_iTG (Same.tup (Same.new hF) ha) ?_
    refine w_forW (walk_tup (xs := items)) (fun i σ H' => ∃ y o3 o4 vs, σ = [some (.ref a), some (vv y), some (.ref F), o3, o4] ∧ Same H H' ∧ H' F = some (.lst (vs.map vv)) ∧ trace ss x = vs ++ trace (ss.drop i) y ∧ vs.length = i)
      ⟨x, _, _, [], rfl, Same.new hF, upd_same, rfl, rfl⟩ (fun i σ H' _ p => by obtain ⟨_, _, _, _, _, sm, _⟩ := p; exact Same.tup sm ha) (fun i v σ H1 H2 hi p hy => ?_) (fun σ H1 p => ?_)
    · obtain ⟨y, o3, o4, vs, rfl, sm, hFl, ht, hn⟩ := p
      obtain ⟨rfl, hv⟩ := hy
      obtain ⟨s1, hs1, t1, rfl, ht1⟩ := Paired.at_ hp hv
      have hd := drop_at hs1
      walk_at "w"
      refine go_stepped (s := s1) (Same.tup sm ht1) (hok _ (List.mem_of_getElem? hs1)) ?_
      intro l H3 s3 l3 q3
      have hF3 : H3 F = some (.lst (vs.map vv)) := s3 _ _ hFl
      walk_at "w"
      cases hst : step1 s1 y with
      | none =>
        rw [hst] at q3
        refine w_trLn (lstAt q3) ?_
        walk_at "w"
        refine k F _ (Same.trans sm s3) hF ?_
        rw [ht, hd, trace_stop hst, List.append_nil]
        exact hF3
      | some z =>
        rw [hst] at q3
        refine w_trLc (lstAt q3) ?_
        have q3' : SqL K H3 l [vv z] := lstAt q3
        walk_at "w"
        refine w_tyL (lstAt hF3) ?_
        walk_at "w"
        refine w_append hF3 (len_lt (by rw [List.length_map]; omega)) ?_
        walk_at "w"
        refine ⟨z, _, _, vs ++ [z], rfl, fun b o h => ?_, ?_, ?_, by simp [hn]⟩
        · rw [upd_ne (ne_of_none h hF)]; exact s3 _ _ (sm _ _ h)
        · rw [List.map_append]; exact upd_same
        · rw [ht, hd, trace_cons hst, List.append_assoc]; rfl
    · obtain ⟨y, o3, o4, vs, rfl, sm, hFl, ht, hn⟩ := p
      walk_at "w"
      refine k F _ sm hF ?_
      rw [ht, ← hll, List.drop_length]
      show H1 F = some (.lst ((vs ++ []).map vv))
      rw [List.append_nil]; exact hFl
end
end TB

set_option maxHeartbeats 4000000
namespace TB
open PySem PySem.Spec PyProof.Rows L2 TW
local macro_rules | `(tactic| walk_at "same") => `(tactic| first
  | exact Same.refl _
  | assumption
  | ((with_reducible refine' Same.trans ?sa (Same.new ?sb)); (case sb => assumption); (case sa => walk_at "same"))
  | ((with_reducible refine' Same.trans ?sa ?sb); (case sb => assumption); (case sa => walk_at "same"))
  | fail)
local macro_rules | `(tactic| walk_at "at") => `(tactic| first
  | assumption
  | exact upd_same
  | ((with_reducible refine' Same.get (Same.new ?sb) ?sa); (case sb => assumption); (case sa => walk_at "at"))
  | ((with_reducible refine' Same.get ?sb ?sa); (case sb => assumption); (case sa => walk_at "at"))
  | ((with_reducible refine' SameX.get ?sb ?sn ?sa); (case sb => assumption); (case sn => assumption); (case sa => walk_at "at"))
  | fail)
local macro_rules | `(tactic| walk_at "sq") => `(tactic| first
  | assumption
  | ((with_reducible refine' tupAt ?sa); (case sa => walk_at "at"))
  | ((with_reducible refine' lstAt ?sa); (case sa => walk_at "at"))
  | ((with_reducible refine' Same.tup (Same.new ?sb) ?sa); (case sb => assumption); (case sa => walk_at "sq"))
  | ((with_reducible refine' Same.lst (Same.new ?sb) ?sa); (case sb => assumption); (case sa => walk_at "sq"))
  | ((with_reducible refine' Same.tup ?sb ?sa); (case sb => assumption); (case sa => walk_at "sq"))
  | ((with_reducible refine' Same.lst ?sb ?sa); (case sb => assumption); (case sa => walk_at "sq"))
  | fail)
local macro_rules | `(tactic| walk_at "ix") => `(tactic| first
  | with_reducible exact atI_0
  | with_reducible exact atI_1
  | with_reducible exact atI_2
  | with_reducible exact atI_3
  | assumption
  | exact rfl)
local macro_rules | `(tactic| walk_at "dr") => `(tactic| first
  | assumption
  | ((with_reducible refine' DrawsAt.same ?sa (Same.new ?sb)); (case sb => assumption); (case sa => walk_at "dr"))
  | ((with_reducible refine' DrawsAt.same ?sa ?sb); (case sb => assumption); (case sa => walk_at "dr"))
  | fail)
local macro_rules | `(tactic| walk_at "sx") => `(tactic| first
  | exact SameX.refl _ _
  | assumption
  | ((with_reducible refine' SameX.new ?sa ?sb); (case sb => assumption); (case sa => walk_at "sx"))
  | ((with_reducible refine' SameX.trans ?sa ?sb); (case sb => assumption); (case sa => walk_at "sx"))
  | ((with_reducible refine' SameX.trans ?sa (SameX.of ?sb)); (case sb => assumption); (case sa => walk_at "sx"))
  | fail)
local macro_rules | `(tactic| walk_at "x1") => `(tactic| fail)
local macro_rules | `(tactic| walk_at "w1") => `(tactic| first
  | ((with_reducible refine' w_var ?hv ?_); (case hv => exact rfl))
  | with_reducible refine' w_c ?_
  | with_reducible refine' w_op ?_
  | with_reducible refine' w_seq ?_
  | with_reducible refine' w_asg ?_
  | with_reducible refine' w_gname ?_
  | with_reducible refine' w_ret ?_
  | with_reducible refine' w_retN ?_
  | with_reducible refine' w_drop ?_
  | with_reducible refine' w_next ?_
  | with_reducible refine' w_nil ?_
  | with_reducible refine' w_cons ?_
  | with_reducible refine' w_cb ?_
  | with_reducible refine' w_call ?_
  | with_reducible refine' w_callS ?_
  | with_reducible refine' w_un ?_
  | with_reducible refine' w_I0 ?_
  | with_reducible refine' w_U ?_
  | ((with_reducible refine' w_eq ?hv ?_); (case hv => exact rfl))
  | ((with_reducible refine' w_ne ?hv ?_); (case hv => exact rfl))
  | with_reducible refine' w_test ?_
  | with_reducible refine' w_tB ?_
  | with_reducible refine' w_bl ?_
  | with_reducible refine' w_blA ?_
  | with_reducible refine' w_and ?_
  | with_reducible refine' w_or ?_
  | with_reducible refine' w_not ?_
  | with_reducible refine' w_andV ?_
  | with_reducible refine' w_orV ?_
  | with_reducible refine' w_notV ?_
  | with_reducible refine' w_if ?_
  | with_reducible refine' w_ifS ?_
  | with_reducible refine' w_T ?_
  | with_reducible refine' w_F ?_
  | with_reducible refine' w_NT ?_
  | with_reducible refine' w_NF ?_
  | with_reducible refine' w_tup ?_
  | with_reducible refine' w_lst ?_
  | with_reducible refine' w_chain ?_
  | with_reducible refine' w_rfl ?_
  | ((with_reducible refine' w_szn ?hl ?_); (case hl => simp only [List.length_cons, List.length_nil]; decide); intro _ _)
  | ((with_reducible refine' w_isiF ?hv ?hw ?_); (case hv => first | assumption | rfl); (case hw => decide))
  | with_reducible refine' w_slice ?_
  | with_reducible refine' w_nopart ?_
  | with_reducible refine' w_part ?_
  | with_reducible refine' w_partI ?_
  | with_reducible refine' w_lc ?_
  | with_reducible refine' w_for ?_
  | with_reducible refine' w_iZip ?_
  | with_reducible refine' w_iEnum ?_
  | with_reducible refine' w_iList ?_
  | with_reducible refine' w_iTup ?_
  | with_reducible refine' w_iR1 ?_
  | with_reducible refine' w_iR2 ?_
  | with_reducible refine' w_gcons ?_
  | ((with_reducible refine' w_gunl ?hv ?hw ?_); (case hv => walk_at "sq"); (case hw => exact rfl))
  | with_reducible refine' w_gnil ?_
  | ((with_reducible refine' w_gtupH ?hv ?hw ?_); (case hv => walk_at "at"); (case hw => exact rfl))
  | ((with_reducible refine' w_wipe (σ := wipe _ _) ?hv ?_); (case hv => exact rfl))
  | with_reducible refine' w_yes ?_
  | with_reducible refine' w_tru ?_
  | with_reducible refine' w_rs ?_
  | with_reducible refine' w_mkO ?_
  | ((with_reducible refine' w_exc1 ?_); intro _ _)
  | with_reducible refine' w_make ?_
  | with_reducible refine' w_makeS ?_
  | with_reducible refine' w_fldG ?_
  | with_reducible refine' w_setF ?_
  | ((with_reducible refine' w_ixT ?hv ?hw ?_); (case hv => walk_at "sq"); (case hw => walk_at "ix"))
  | ((with_reducible refine' w_ixL ?hv ?hw ?_); (case hv => walk_at "sq"); (case hw => walk_at "ix"))
  | ((with_reducible refine' w_lenT ?hv ?_); (case hv => walk_at "sq"))
  | ((with_reducible refine' w_lenL ?hv ?_); (case hv => walk_at "sq"))
  | ((with_reducible refine' w_I ?hc ?_); (case hc => first | (exact cmul_r (by omega) (by omega)) | (exact cmul_l (by omega) (by omega)) | (show (0 : Int) < _; first | assumption | omega) | (exact ⟨by first | assumption | omega, by first | assumption | omega⟩) | (exact ⟨by omega, by omega, by omega⟩)))
  | with_reducible refine' w_int1 ?_
  | with_reducible refine' w_bm ?_
  | with_reducible refine' w_tryA ?_
  | with_reducible refine' w_tryO ?_
  | with_reducible refine' w_insS ?_
  | with_reducible refine' w_xfG ?_
  | ((with_reducible refine' w_cat ?ha ?hb ?hl ?_); (case ha => walk_at "at"); (case hb => walk_at "at"); (case hl => simp only [List.length_cons, List.length_nil, List.length_append]; decide); intro _ _)
  | with_reducible refine' w_gsub ?_
  | ((with_reducible refine' w_setL ?hv ?hw ?_); (case hv => walk_at "at"); (case hw => exact rfl))
  | walk_at "x1"
  | fail)
local macro_rules | `(tactic| walk_at "w") => `(tactic| repeat' walk_at "w1")
local macro_rules | `(tactic| walk_at "a1") => `(tactic| first
  | with_reducible refine' w_tupR ?_
  | with_reducible refine' w_lstR ?_
  | ((with_reducible refine' w_tupA ?hl ?_); (case hl => simp only [List.length_cons, List.length_nil]; decide); intro _ _ _ _ _)
  | ((with_reducible refine' w_lstA ?hl ?_); (case hl => simp only [List.length_cons, List.length_nil]; decide); intro _ _ _ _ _)
  | ((with_reducible refine' w_catA ?ha ?hb ?hl ?_); (case ha => walk_at "at"); (case hb => walk_at "at"); (case hl => simp only [List.length_cons, List.length_nil, List.length_append]; decide); intro _ _ _ _ _)
  | walk_at "w1"
  | fail)
local macro_rules | `(tactic| walk_at "wa") => `(tactic| repeat' walk_at "a1")

theorem sc_result : FnScope ["steps", "value", "told", "step"] ["steps", "value"] (defScope s_result) := ⟨rfl, rfl, rfl, by decide +kernel, rfl, by decide +kernel, by decide +kernel⟩
section
variable {P : Program} {w : World} {K : PySem.W.Frag} {mg : Str → Option Value} {base : Heap}
theorem ok_result (T : Fx w K mg) (c_stepped : Cal P w K mg base 3 "stepped" ["step", "value"] (spStepped K)) : Cal P w K mg base 4 "result" ["steps", "value"] (spResult K) := by
  refine cal_of T.f_result sc_result (fun vs H Q E h => ?_) (fun _ _ _ _ _ _ us hl => match us, hl with | [_, _], _ => rfl) (fun f cdv A outer s H vs Q E hr h => ?_)
  · obtain ⟨a, ss, x, rfl, _⟩ := h; rfl
  · obtain ⟨a, ss, x, rfl, ⟨items, ha, hp⟩, hok, hl, k⟩ := h
    refine ⟨_, (pss_cons (ps_set (i := 2) sc_result.nd rfl (Or.inl rfl) (pe_lst (pa_cons (pv 1) pa_nil))) (pss_cons (ps_for (passes_of rfl) rfl (pi_tup (pv 0)) (pg_name (i := 3) sc_result.nd rfl (Or.inl rfl)) (pss_cons (ps_set (i := 2) sc_result.nd rfl (Or.inl rfl) (pe_cal c_stepped hr (by first | decide | omega) rfl (pa_cons (pv 3) (pa_cons (pe_ix ix_list (pv 2) pe_int (fun _ _ => rfl)) pa_nil)))) (pss_one (ps_if (pt_not (pt_tru (pv 2) (by intro _; rfl))) (pss_one (ps_ret (pe_lst pa_nil))) pss_nil)))) (pss_one (ps_ret (pv 2))))), ?_⟩
    have hll : ss.length = items.length := hp.length
    walk_at "w"
    rename_i F hF
    refine w_iTG (Same.tup (Same.new hF) ha) ?_
    refine w_forW (walk_tup (xs := items)) (fun i σ H' => ∃ y o3 l, σ = [some (.ref a), some (vv x), some (.ref l), o3] ∧ Same H H' ∧ H l = none ∧ H' l = some (.lst [vv y]) ∧ TW.run ss x = TW.run (ss.drop i) y)
      ⟨x, _, F, rfl, Same.new hF, hF, upd_same, rfl⟩ (fun i σ H' _ p => by obtain ⟨_, _, _, _, sm, _⟩ := p; exact Same.tup sm ha) (fun i v σ H1 H2 hi p hy => ?_) (fun σ H1 p => ?_)
    · obtain ⟨y, o3, l, rfl, sm, hl0, hl1, ht⟩ := p
      obtain ⟨rfl, hv⟩ := hy
      obtain ⟨s1, hs1, t1, rfl, ht1⟩ := Paired.at_ hp hv
      have hd := drop_at hs1
      have hlq : SqL K H2 l [vv y] := lstAt hl1
      walk_at "w"
      refine go_stepped (s := s1) (Same.tup sm ht1) (hok _ (List.mem_of_getElem? hs1)) ?_
      intro l3 H3 s3 f3 q3
      walk_at "w"
      cases hst : step1 s1 y with
      | none =>
        rw [hst] at q3
        refine w_trLn (lstAt q3) ?_
        walk_at "w"
        refine NewL.fin k (Same.trans sm s3) ‹_› ?_
        rw [ht, hd, run_cons, hst]; rfl
      | some z =>
        rw [hst] at q3
        refine w_trLc (lstAt q3) ?_
        walk_at "w"
        exact ⟨z, _, l3, rfl, Same.trans sm s3, Same.free sm f3, q3, by rw [ht, hd, run_cons, hst]; rfl⟩
    · obtain ⟨y, o3, l, rfl, sm, hl0, hl1, ht⟩ := p
      walk_at "w"
      refine k l _ sm hl0 ?_
      rw [ht, ← hll, List.drop_length]
      exact hl1
end
end TB

set_option maxHeartbeats 4000000
namespace TB
open PySem PySem.Spec PyProof.Rows L2 TW
local macro_rules | `(tactic| walk_at "same") => `(tactic| first
  | exact Same.refl _
  | assumption
  | ((with_reducible refine' Same.trans ?sa (Same.new ?sb)); (case sb => assumption); (case sa => walk_at "same"))
  | ((with_reducible refine' Same.trans ?sa ?sb); (case sb => assumption); (case sa => walk_at "same"))
  | fail)
local macro_rules | `(tactic| walk_at "at") => `(tactic| first
  | assumption
  | exact upd_same
  | ((with_reducible refine' Same.get (Same.new ?sb) ?sa); (case sb => assumption); (case sa => walk_at "at"))
  | ((with_reducible refine' Same.get ?sb ?sa); (case sb => assumption); (case sa => walk_at "at"))
  | ((with_reducible refine' SameX.get ?sb ?sn ?sa); (case sb => assumption); (case sn => assumption); (case sa => walk_at "at"))
  | fail)
local macro_rules | `(tactic| walk_at "sq") => `(tactic| first
  | assumption
  | ((with_reducible refine' tupAt ?sa); (case sa => walk_at "at"))
  | ((with_reducible refine' lstAt ?sa); (case sa => walk_at "at"))
  | ((with_reducible refine' Same.tup (Same.new ?sb) ?sa); (case sb => assumption); (case sa => walk_at "sq"))
  | ((with_reducible refine' Same.lst (Same.new ?sb) ?sa); (case sb => assumption); (case sa => walk_at "sq"))
  | ((with_reducible refine' Same.tup ?sb ?sa); (case sb => assumption); (case sa => walk_at "sq"))
  | ((with_reducible refine' Same.lst ?sb ?sa); (case sb => assumption); (case sa => walk_at "sq"))
  | fail)
local macro_rules | `(tactic| walk_at "ix") => `(tactic| first
  | with_reducible exact atI_0
  | with_reducible exact atI_1
  | with_reducible exact atI_2
  | with_reducible exact atI_3
  | assumption
  | exact rfl)
local macro_rules | `(tactic| walk_at "dr") => `(tactic| first
  | assumption
  | ((with_reducible refine' DrawsAt.same ?sa (Same.new ?sb)); (case sb => assumption); (case sa => walk_at "dr"))
  | ((with_reducible refine' DrawsAt.same ?sa ?sb); (case sb => assumption); (case sa => walk_at "dr"))
  | fail)
local macro_rules | `(tactic| walk_at "sx") => `(tactic| first
  | exact SameX.refl _ _
  | assumption
  | ((with_reducible refine' SameX.new ?sa ?sb); (case sb => assumption); (case sa => walk_at "sx"))
  | ((with_reducible refine' SameX.trans ?sa ?sb); (case sb => assumption); (case sa => walk_at "sx"))
  | ((with_reducible refine' SameX.trans ?sa (SameX.of ?sb)); (case sb => assumption); (case sa => walk_at "sx"))
  | fail)
local macro_rules | `(tactic| walk_at "x1") => `(tactic| fail)
local macro_rules | `(tactic| walk_at "w1") => `(tactic| first
  | ((with_reducible refine' w_var ?hv ?_); (case hv => exact rfl))
  | with_reducible refine' w_c ?_
  | with_reducible refine' w_op ?_
  | with_reducible refine' w_seq ?_
  | with_reducible refine' w_asg ?_
  | with_reducible refine' w_gname ?_
  | with_reducible refine' w_ret ?_
  | with_reducible refine' w_retN ?_
  | with_reducible refine' w_drop ?_
  | with_reducible refine' w_next ?_
  | with_reducible refine' w_nil ?_
  | with_reducible refine' w_cons ?_
  | with_reducible refine' w_cb ?_
  | with_reducible refine' w_call ?_
  | with_reducible refine' w_callS ?_
  | with_reducible refine' w_un ?_
  | with_reducible refine' w_I0 ?_
  | with_reducible refine' w_U ?_
  | ((with_reducible refine' w_eq ?hv ?_); (case hv => exact rfl))
  | ((with_reducible refine' w_ne ?hv ?_); (case hv => exact rfl))
  | with_reducible refine' w_test ?_
  | with_reducible refine' w_tB ?_
  | with_reducible refine' w_bl ?_
  | with_reducible refine' w_blA ?_
  | with_reducible refine' w_and ?_
  | with_reducible refine' w_or ?_
  | with_reducible refine' w_not ?_
  | with_reducible refine' w_andV ?_
  | with_reducible refine' w_orV ?_
  | with_reducible refine' w_notV ?_
  | with_reducible refine' w_if ?_
  | with_reducible refine' w_ifS ?_
  | with_reducible refine' w_T ?_
  | with_reducible refine' w_F ?_
  | with_reducible refine' w_NT ?_
  | with_reducible refine' w_NF ?_
  | with_reducible refine' w_tup ?_
  | with_reducible refine' w_lst ?_
  | with_reducible refine' w_chain ?_
  | with_reducible refine' w_rfl ?_
  | ((with_reducible refine' w_szn ?hl ?_); (case hl => simp only [List.length_cons, List.length_nil]; decide); intro _ _)
  | ((with_reducible refine' w_isiF ?hv ?hw ?_); (case hv => first | assumption | rfl); (case hw => decide))
  | with_reducible refine' w_slice ?_
  | with_reducible refine' w_nopart ?_
  | with_reducible refine' w_part ?_
  | with_reducible refine' w_partI ?_
  | with_reducible refine' w_lc ?_
  | with_reducible refine' w_for ?_
  | with_reducible refine' w_iZip ?_
  | with_reducible refine' w_iEnum ?_
  | with_reducible refine' w_iList ?_
  | with_reducible refine' w_iTup ?_
  | with_reducible refine' w_iR1 ?_
  | with_reducible refine' w_iR2 ?_
  | with_reducible refine' w_gcons ?_
  | ((with_reducible refine' w_gunl ?hv ?hw ?_); (case hv => walk_at "sq"); (case hw => exact rfl))
  | with_reducible refine' w_gnil ?_
  | ((with_reducible refine' w_gtupH ?hv ?hw ?_); (case hv => walk_at "at"); (case hw => exact rfl))
  | ((with_reducible refine' w_wipe (σ := wipe _ _) ?hv ?_); (case hv => exact rfl))
  | with_reducible refine' w_yes ?_
  | with_reducible refine' w_tru ?_
  | with_reducible refine' w_rs ?_
  | with_reducible refine' w_mkO ?_
  | ((with_reducible refine' w_exc1 ?_); intro _ _)
  | with_reducible refine' w_make ?_
  | with_reducible refine' w_makeS ?_
  | with_reducible refine' w_fldG ?_
  | with_reducible refine' w_setF ?_
  | ((with_reducible refine' w_ixT ?hv ?hw ?_); (case hv => walk_at "sq"); (case hw => walk_at "ix"))
  | ((with_reducible refine' w_ixL ?hv ?hw ?_); (case hv => walk_at "sq"); (case hw => walk_at "ix"))
  | ((with_reducible refine' w_lenT ?hv ?_); (case hv => walk_at "sq"))
  | ((with_reducible refine' w_lenL ?hv ?_); (case hv => walk_at "sq"))
  | ((with_reducible refine' w_I ?hc ?_); (case hc => first | (exact cmul_r (by omega) (by omega)) | (exact cmul_l (by omega) (by omega)) | (show (0 : Int) < _; first | assumption | omega) | (exact ⟨by first | assumption | omega, by first | assumption | omega⟩) | (exact ⟨by omega, by omega, by omega⟩)))
  | with_reducible refine' w_int1 ?_
  | with_reducible refine' w_bm ?_
  | with_reducible refine' w_tryA ?_
  | with_reducible refine' w_tryO ?_
  | with_reducible refine' w_insS ?_
  | with_reducible refine' w_xfG ?_
  | ((with_reducible refine' w_cat ?ha ?hb ?hl ?_); (case ha => walk_at "at"); (case hb => walk_at "at"); (case hl => simp only [List.length_cons, List.length_nil, List.length_append]; decide); intro _ _)
  | with_reducible refine' w_gsub ?_
  | ((with_reducible refine' w_setL ?hv ?hw ?_); (case hv => walk_at "at"); (case hw => exact rfl))
  | walk_at "x1"
  | fail)
local macro_rules | `(tactic| walk_at "w") => `(tactic| repeat' walk_at "w1")
local macro_rules | `(tactic| walk_at "a1") => `(tactic| first
  | with_reducible refine' w_tupR ?_
  | with_reducible refine' w_lstR ?_
  | ((with_reducible refine' w_tupA ?hl ?_); (case hl => simp only [List.length_cons, List.length_nil]; decide); intro _ _ _ _ _)
  | ((with_reducible refine' w_lstA ?hl ?_); (case hl => simp only [List.length_cons, List.length_nil]; decide); intro _ _ _ _ _)
  | ((with_reducible refine' w_catA ?ha ?hb ?hl ?_); (case ha => walk_at "at"); (case hb => walk_at "at"); (case hl => simp only [List.length_cons, List.length_nil, List.length_append]; decide); intro _ _ _ _ _)
  | walk_at "w1"
  | fail)
local macro_rules | `(tactic| walk_at "wa") => `(tactic| repeat' walk_at "a1")

local macro_rules | `(tactic| walk_at "x1") => `(tactic| first
  | ((with_reducible refine' w_isiPi ?hv ?_); (case hv => assumption))
  | ((with_reducible refine' w_isiPb ?hv ?_); (case hv => assumption))
  | ((with_reducible refine' w_isiPs ?hv ?_); (case hv => assumption))
  | ((with_reducible refine' go_isN2 ?hv ?_); (case hv => assumption))
  | ((with_reducible refine' go_isVal ?hv ?_); (case hv => assumption))
  | fail)
theorem sc_is_value : FnScope ["value"] ["value"] (defScope s_is_value) := ⟨rfl, rfl, rfl, by decide +kernel, rfl, by decide +kernel, by decide +kernel⟩
theorem sc_check_value : FnScope ["value"] ["value"] (defScope s_check_value) := ⟨rfl, rfl, rfl, by decide +kernel, rfl, by decide +kernel, by decide +kernel⟩
section
variable {P : Program} {w : World} {K : PySem.W.Frag} {mg : Str → Option Value} {base : Heap}
theorem ok_is_number2 (T : Fx w K mg) : Cal P w K mg base 1 "is_number" ["value"] (spIsN2 K) := by
  refine cal_of T.f_is_number sc_is_number (fun vs H Q E h => ?_) (fun _ _ _ _ _ _ us hl => match us, hl with | [_], _ => rfl) (fun f cdv A outer s H vs Q E hr h => ?_)
  · obtain ⟨x, rfl, _⟩ := h; rfl
  · obtain ⟨x, rfl, hx, k⟩ := h
    refine ⟨_, (pss_one (ps_ret (pe_and (pe_callB call_isi (by rfl) T.b_isinstance (show bootBuiltins "isinstance" = some (.builtin "isinstance") from by decide +kernel) (pa_cons (pv 0) (pa_cons (pe_bty (T := "int") rfl T.b_int (by decide +kernel)) pa_nil))) (pe_one (pe_not (pe_callB call_isi (by rfl) T.b_isinstance (show bootBuiltins "isinstance" = some (.builtin "isinstance") from by decide +kernel) (pa_cons (pv 0) (pa_cons (pe_bty (T := "bool") rfl T.b_bool (by decide +kernel)) pa_nil)))))))), ?_⟩
    walk_at "w"
    refine w_b2 (fun e1 => ?_) (fun e1 => ?_)
    · walk_at "w"
      have e : (!isB x "bool") = isN x := by cases x <;> first | rfl | (cases (show false = true from e1))
      rw [e]; exact k
    · have e : false = isN x := by cases x <;> first | rfl | (cases (show true = false from e1))
      rw [e]; exact k
theorem ok_is_value (T : Fx w K mg) (c_is_number : Cal P w K mg base 1 "is_number" ["value"] (spIsN2 K)) : Cal P w K mg base 2 "is_value" ["value"] (spIsVal K) := by
  refine cal_of T.f_is_value sc_is_value (fun vs H Q E h => ?_) (fun _ _ _ _ _ _ us hl => match us, hl with | [_], _ => rfl) (fun f cdv A outer s H vs Q E hr h => ?_)
  · obtain ⟨x, rfl, _⟩ := h; rfl
  · obtain ⟨x, rfl, hx, k⟩ := h
    refine ⟨_, (pss_cons (ps_if (PW.pt (pw_or (pt_cmpR (op_isN) (pv 0) pe_non (nomark _)) (pw_or1 (pt_val (pe_cal c_is_number hr (by first | decide | omega) rfl (pa_cons (pv 0) pa_nil)))))) (pss_one (ps_ret pe_bl)) pss_nil) (pss_one (ps_ret (pe_and (pe_callB call_isi (by rfl) T.b_isinstance (show bootBuiltins "isinstance" = some (.builtin "isinstance") from by decide +kernel) (pa_cons (pv 0) (pa_cons (pe_bty (T := "str") rfl T.b_str (by decide +kernel)) pa_nil))) (pe_one (pe_cmpR (op_in_seq) (pv 0) (pe_gref rfl T.g_WORDS) (by rfl))))))), ?_⟩
    walk_at "w"
    refine w_d2 (fun e1 => ?_) (fun e1 => ?_)
    · walk_at "w"
      subst e1; exact k
    walk_at "w"
    refine w_b2 (fun e2 => ?_) (fun e2 => ?_)
    · walk_at "w"
      have e : isVal x = true := by cases x <;> first | rfl | cases (show false = true from e2)
      rw [e] at k; exact k
    walk_at "w"
    refine w_b2 (fun e3 => ?_) (fun e3 => ?_)
    · walk_at "w"
      obtain ⟨z, rfl⟩ : ∃ z, x = .str z := by cases x <;> first | exact ⟨_, rfl⟩ | cases (show false = true from e3)
      exact w_inTs (T.t_WORDS _) rfl k
    · have e : isVal x = false := by cases x <;> first | rfl | exact absurd rfl e1 | cases (show true = false from e2) | cases (show true = false from e3)
      rw [e] at k; exact k
theorem ok_check_value (T : Fx w K mg) (c_is_value : Cal P w K mg base 2 "is_value" ["value"] (spIsVal K)) : Cal P w K mg base 3 "check_value" ["value"] (spCheck K) := by
  refine cal_of T.f_check_value sc_check_value (fun vs H Q E h => ?_) (fun _ _ _ _ _ _ us hl => match us, hl with | [_], _ => rfl) (fun f cdv A outer s H vs Q E hr h => ?_)
  · obtain ⟨x, rfl, _⟩ := h; rfl
  · obtain ⟨x, rfl, hx, k, e⟩ := h
    refine ⟨_, (pss_one (ps_if (pt_not (pt_val (pe_cal c_is_value hr (by first | decide | omega) rfl (pa_cons (pv 0) pa_nil)))) (pss_one (ps_rs rfl (takes_of rfl rfl rfl rfl) (pmk_own0 PySem.F.excBase_ValueError T.x_BadValue.1 T.g_BadValue T.x_BadValue.2.1 (raises_own T.x_BadValue.2.2.1 T.x_BadValue.2.2.2) rfl))) pss_nil)), ?_⟩
    walk_at "w"
    cases ev : isVal x with
    | true => 
      refine w_bF rfl ?_
      walk_at "w"
      exact k ev
    | false =>
      refine w_bT rfl ?_
      walk_at "w"
      exact e ev
end
end TB

set_option maxHeartbeats 4000000
namespace TB
open PySem PySem.Spec PyProof.Rows L2 TW
local macro_rules | `(tactic| walk_at "same") => `(tactic| first
  | exact Same.refl _
  | assumption
  | ((with_reducible refine' Same.trans ?sa (Same.new ?sb)); (case sb => assumption); (case sa => walk_at "same"))
  | ((with_reducible refine' Same.trans ?sa ?sb); (case sb => assumption); (case sa => walk_at "same"))
  | fail)
local macro_rules | `(tactic| walk_at "at") => `(tactic| first
  | assumption
  | exact upd_same
  | ((with_reducible refine' Same.get (Same.new ?sb) ?sa); (case sb => assumption); (case sa => walk_at "at"))
  | ((with_reducible refine' Same.get ?sb ?sa); (case sb => assumption); (case sa => walk_at "at"))
  | ((with_reducible refine' SameX.get ?sb ?sn ?sa); (case sb => assumption); (case sn => assumption); (case sa => walk_at "at"))
  | fail)
local macro_rules | `(tactic| walk_at "sq") => `(tactic| first
  | assumption
  | ((with_reducible refine' tupAt ?sa); (case sa => walk_at "at"))
  | ((with_reducible refine' lstAt ?sa); (case sa => walk_at "at"))
  | ((with_reducible refine' Same.tup (Same.new ?sb) ?sa); (case sb => assumption); (case sa => walk_at "sq"))
  | ((with_reducible refine' Same.lst (Same.new ?sb) ?sa); (case sb => assumption); (case sa => walk_at "sq"))
  | ((with_reducible refine' Same.tup ?sb ?sa); (case sb => assumption); (case sa => walk_at "sq"))
  | ((with_reducible refine' Same.lst ?sb ?sa); (case sb => assumption); (case sa => walk_at "sq"))
  | fail)
local macro_rules | `(tactic| walk_at "ix") => `(tactic| first
  | with_reducible exact atI_0
  | with_reducible exact atI_1
  | with_reducible exact atI_2
  | with_reducible exact atI_3
  | assumption
  | exact rfl)
local macro_rules | `(tactic| walk_at "dr") => `(tactic| first
  | assumption
  | ((with_reducible refine' DrawsAt.same ?sa (Same.new ?sb)); (case sb => assumption); (case sa => walk_at "dr"))
  | ((with_reducible refine' DrawsAt.same ?sa ?sb); (case sb => assumption); (case sa => walk_at "dr"))
  | fail)
local macro_rules | `(tactic| walk_at "sx") => `(tactic| first
  | exact SameX.refl _ _
  | assumption
  | ((with_reducible refine' SameX.new ?sa ?sb); (case sb => assumption); (case sa => walk_at "sx"))
  | ((with_reducible refine' SameX.trans ?sa ?sb); (case sb => assumption); (case sa => walk_at "sx"))
  | ((with_reducible refine' SameX.trans ?sa (SameX.of ?sb)); (case sb => assumption); (case sa => walk_at "sx"))
  | fail)
local macro_rules | `(tactic| walk_at "x1") => `(tactic| fail)
local macro_rules | `(tactic| walk_at "w1") => `(tactic| first
  | ((with_reducible refine' w_var ?hv ?_); (case hv => exact rfl))
  | with_reducible refine' w_c ?_
  | with_reducible refine' w_op ?_
  | with_reducible refine' w_seq ?_
  | with_reducible refine' w_asg ?_
  | with_reducible refine' w_gname ?_
  | with_reducible refine' w_ret ?_
  | with_reducible refine' w_retN ?_
  | with_reducible refine' w_drop ?_
  | with_reducible refine' w_next ?_
  | with_reducible refine' w_nil ?_
  | with_reducible refine' w_cons ?_
  | with_reducible refine' w_cb ?_
  | with_reducible refine' w_call ?_
  | with_reducible refine' w_callS ?_
  | with_reducible refine' w_un ?_
  | with_reducible refine' w_I0 ?_
  | with_reducible refine' w_U ?_
  | ((with_reducible refine' w_eq ?hv ?_); (case hv => exact rfl))
  | ((with_reducible refine' w_ne ?hv ?_); (case hv => exact rfl))
  | with_reducible refine' w_test ?_
  | with_reducible refine' w_tB ?_
  | with_reducible refine' w_bl ?_
  | with_reducible refine' w_blA ?_
  | with_reducible refine' w_and ?_
  | with_reducible refine' w_or ?_
  | with_reducible refine' w_not ?_
  | with_reducible refine' w_andV ?_
  | with_reducible refine' w_orV ?_
  | with_reducible refine' w_notV ?_
  | with_reducible refine' w_if ?_
  | with_reducible refine' w_ifS ?_
  | with_reducible refine' w_T ?_
  | with_reducible refine' w_F ?_
  | with_reducible refine' w_NT ?_
  | with_reducible refine' w_NF ?_
  | with_reducible refine' w_tup ?_
  | with_reducible refine' w_lst ?_
  | with_reducible refine' w_chain ?_
  | with_reducible refine' w_rfl ?_
  | ((with_reducible refine' w_szn ?hl ?_); (case hl => simp only [List.length_cons, List.length_nil]; decide); intro _ _)
  | ((with_reducible refine' w_isiF ?hv ?hw ?_); (case hv => first | assumption | rfl); (case hw => decide))
  | with_reducible refine' w_slice ?_
  | with_reducible refine' w_nopart ?_
  | with_reducible refine' w_part ?_
  | with_reducible refine' w_partI ?_
  | with_reducible refine' w_lc ?_
  | with_reducible refine' w_for ?_
  | with_reducible refine' w_iZip ?_
  | with_reducible refine' w_iEnum ?_
  | with_reducible refine' w_iList ?_
  | with_reducible refine' w_iTup ?_
  | with_reducible refine' w_iR1 ?_
  | with_reducible refine' w_iR2 ?_
  | with_reducible refine' w_gcons ?_
  | ((with_reducible refine' w_gunl ?hv ?hw ?_); (case hv => walk_at "sq"); (case hw => exact rfl))
  | with_reducible refine' w_gnil ?_
  | ((with_reducible refine' w_gtupH ?hv ?hw ?_); (case hv => walk_at "at"); (case hw => exact rfl))
  | ((with_reducible refine' w_wipe (σ := wipe _ _) ?hv ?_); (case hv => exact rfl))
  | with_reducible refine' w_yes ?_
  | with_reducible refine' w_tru ?_
  | with_reducible refine' w_rs ?_
  | with_reducible refine' w_mkO ?_
  | ((with_reducible refine' w_exc1 ?_); intro _ _)
  | with_reducible refine' w_make ?_
  | with_reducible refine' w_makeS ?_
  | with_reducible refine' w_fldG ?_
  | with_reducible refine' w_setF ?_
  | ((with_reducible refine' w_ixT ?hv ?hw ?_); (case hv => walk_at "sq"); (case hw => walk_at "ix"))
  | ((with_reducible refine' w_ixL ?hv ?hw ?_); (case hv => walk_at "sq"); (case hw => walk_at "ix"))
  | ((with_reducible refine' w_lenT ?hv ?_); (case hv => walk_at "sq"))
  | ((with_reducible refine' w_lenL ?hv ?_); (case hv => walk_at "sq"))
  | ((with_reducible refine' w_I ?hc ?_); (case hc => first | (exact cmul_r (by omega) (by omega)) | (exact cmul_l (by omega) (by omega)) | (show (0 : Int) < _; first | assumption | omega) | (exact ⟨by first | assumption | omega, by first | assumption | omega⟩) | (exact ⟨by omega, by omega, by omega⟩)))
  | with_reducible refine' w_int1 ?_
  | with_reducible refine' w_bm ?_
  | with_reducible refine' w_tryA ?_
  | with_reducible refine' w_tryO ?_
  | with_reducible refine' w_insS ?_
  | with_reducible refine' w_xfG ?_
  | ((with_reducible refine' w_cat ?ha ?hb ?hl ?_); (case ha => walk_at "at"); (case hb => walk_at "at"); (case hl => simp only [List.length_cons, List.length_nil, List.length_append]; decide); intro _ _)
  | with_reducible refine' w_gsub ?_
  | ((with_reducible refine' w_setL ?hv ?hw ?_); (case hv => walk_at "at"); (case hw => exact rfl))
  | walk_at "x1"
  | fail)
local macro_rules | `(tactic| walk_at "w") => `(tactic| repeat' walk_at "w1")
local macro_rules | `(tactic| walk_at "a1") => `(tactic| first
  | with_reducible refine' w_tupR ?_
  | with_reducible refine' w_lstR ?_
  | ((with_reducible refine' w_tupA ?hl ?_); (case hl => simp only [List.length_cons, List.length_nil]; decide); intro _ _ _ _ _)
  | ((with_reducible refine' w_lstA ?hl ?_); (case hl => simp only [List.length_cons, List.length_nil]; decide); intro _ _ _ _ _)
  | ((with_reducible refine' w_catA ?ha ?hb ?hl ?_); (case ha => walk_at "at"); (case hb => walk_at "at"); (case hl => simp only [List.length_cons, List.length_nil, List.length_append]; decide); intro _ _ _ _ _)
  | walk_at "w1"
  | fail)
local macro_rules | `(tactic| walk_at "wa") => `(tactic| repeat' walk_at "a1")

theorem sc_run : FnScope ["chain", "value", "rows"] ["chain", "value"] (defScope s_run) := ⟨rfl, rfl, rfl, by decide +kernel, rfl, by decide +kernel, by decide +kernel⟩
section
variable {P : Program} {w : World} {K : PySem.W.Frag} {mg : Str → Option Value} {base : Heap}
theorem ok_run (T : Fx w K mg) (c_check_value : Cal P w K mg base 3 "check_value" ["value"] (spCheck K)) (c_followed : Cal P w K mg base 4 "followed" ["steps", "value"] (spFollowed K)) : Cal P w K mg base 5 "run" ["chain", "value"] (spRun K) := by
  refine cal_of T.f_run sc_run (fun vs H Q E h => ?_) (fun _ _ _ _ _ _ us hl => match us, hl with | [_, _], _ => rfl) (fun f cdv A outer s H vs Q E hr h => ?_)
  · obtain ⟨c, v, ss, rfl, _⟩ := h; rfl
  · obtain ⟨c, v, ss, rfl, ⟨dx, t, h1, h2⟩, ho, hl, k⟩ := h
    refine ⟨_, (pss_cons (ps_expr (pe_calX c_check_value hr (by first | decide | omega) rfl (takes_of rfl rfl rfl rfl) (fun _ _ _ _ h => h) (pa_cons (pv 1) pa_nil))) (pss_cons (ps_set (i := 2) sc_run.nd rfl (Or.inl rfl) (pe_cal c_followed hr (by first | decide | omega) rfl (pa_cons (pe_fld (pv 0) rfl) (pa_cons (pv 1) pa_nil)))) (pss_cons (ps_if (pt_cmpR (op_lt) (pe_callB call_lenR (by rfl) T.b_len (show bootBuiltins "len" = some (.builtin "len") from by decide +kernel) (pa_cons (pv 2) pa_nil)) (pe_callB call_lenR (by rfl) T.b_len (show bootBuiltins "len" = some (.builtin "len") from by decide +kernel) (pa_cons (pe_fld (pv 0) rfl) pa_nil)) (nomark _)) (pss_one (ps_ret (pe_tup (pa_cons pe_str (pa_cons (pe_callB call_lenR (by rfl) T.b_len (show bootBuiltins "len" = some (.builtin "len") from by decide +kernel) (pa_cons (pv 2) pa_nil)) pa_nil))))) pss_nil) (pss_one (ps_ret (pe_tup (pa_cons pe_str (pa_cons (pe_ifExp (pt_tru (pv 2) (by intro _; rfl)) (pe_ix ix_list (pv 2) (pe_un un_neg pe_int) (fun _ _ => rfl)) (pv 1)) pa_nil)))))))), ?_⟩
    walk_at "w"
    refine k.check (fun x e kk => ?_) id
    clear k
    have k := kk
    clear kk
    subst e
    walk_at "w"
    refine w_fld h1 T.k_Chain T.n_Chain_steps rfl ?_
    walk_at "w"
    refine go_followed h2 ho hl ?_
    intro l H1 s1 f1 q1
    have hll := h2.choose_spec.2.length
    have ql : SqL K H1 l ((trace ss x).map vv) := lstAt q1
    have hi := s1 _ _ h1
    walk_at "w"
    refine w_fld hi T.k_Chain T.n_Chain_steps rfl ?_
    have qt := Same.tup s1 h2.choose_spec.1
    walk_at "w"
    unfold outT at k
    rw [List.length_map, ← hll]
    refine w_d2 (fun e1 => ?_) (fun e1 => ?_)
    · rw [if_pos (by omega)] at k
      walk_at "w"
      exact k.fin (by walk_at "same") ‹_› (by rw [List.length_map])
    · rw [if_neg (by omega)] at k
      walk_at "w"
      cases hT : trace ss x with
      | nil =>
        rw [hT] at q1 k
        refine w_trLn (lstAt q1) ?_
        walk_at "w"
        exact k.fin (by walk_at "same") ‹_› rfl
      | cons y r =>
        rw [hT] at q1 k
        refine w_trLc (lstAt q1) ?_
        walk_at "w"
        refine w_ixL (lstAt q1) (last_at (x := x)) ?_
        walk_at "w"
        exact k.fin (by walk_at "same") ‹_› rfl
end
end TB

set_option maxHeartbeats 4000000
namespace TB
open PySem PySem.Spec PyProof.Rows L2 TW
local macro_rules | `(tactic| walk_at "same") => `(tactic| first
  | exact Same.refl _
  | assumption
  | ((with_reducible refine' Same.trans ?sa (Same.new ?sb)); (case sb => assumption); (case sa => walk_at "same"))
  | ((with_reducible refine' Same.trans ?sa ?sb); (case sb => assumption); (case sa => walk_at "same"))
  | fail)
local macro_rules | `(tactic| walk_at "at") => `(tactic| first
  | assumption
  | exact upd_same
  | ((with_reducible refine' Same.get (Same.new ?sb) ?sa); (case sb => assumption); (case sa => walk_at "at"))
  | ((with_reducible refine' Same.get ?sb ?sa); (case sb => assumption); (case sa => walk_at "at"))
  | ((with_reducible refine' SameX.get ?sb ?sn ?sa); (case sb => assumption); (case sn => assumption); (case sa => walk_at "at"))
  | fail)
local macro_rules | `(tactic| walk_at "sq") => `(tactic| first
  | assumption
  | ((with_reducible refine' tupAt ?sa); (case sa => walk_at "at"))
  | ((with_reducible refine' lstAt ?sa); (case sa => walk_at "at"))
  | ((with_reducible refine' Same.tup (Same.new ?sb) ?sa); (case sb => assumption); (case sa => walk_at "sq"))
  | ((with_reducible refine' Same.lst (Same.new ?sb) ?sa); (case sb => assumption); (case sa => walk_at "sq"))
  | ((with_reducible refine' Same.tup ?sb ?sa); (case sb => assumption); (case sa => walk_at "sq"))
  | ((with_reducible refine' Same.lst ?sb ?sa); (case sb => assumption); (case sa => walk_at "sq"))
  | fail)
local macro_rules | `(tactic| walk_at "ix") => `(tactic| first
  | with_reducible exact atI_0
  | with_reducible exact atI_1
  | with_reducible exact atI_2
  | with_reducible exact atI_3
  | assumption
  | exact rfl)
local macro_rules | `(tactic| walk_at "dr") => `(tactic| first
  | assumption
  | ((with_reducible refine' DrawsAt.same ?sa (Same.new ?sb)); (case sb => assumption); (case sa => walk_at "dr"))
  | ((with_reducible refine' DrawsAt.same ?sa ?sb); (case sb => assumption); (case sa => walk_at "dr"))
  | fail)
local macro_rules | `(tactic| walk_at "sx") => `(tactic| first
  | exact SameX.refl _ _
  | assumption
  | ((with_reducible refine' SameX.new ?sa ?sb); (case sb => assumption); (case sa => walk_at "sx"))
  | ((with_reducible refine' SameX.trans ?sa ?sb); (case sb => assumption); (case sa => walk_at "sx"))
  | ((with_reducible refine' SameX.trans ?sa (SameX.of ?sb)); (case sb => assumption); (case sa => walk_at "sx"))
  | fail)
local macro_rules | `(tactic| walk_at "x1") => `(tactic| fail)
local macro_rules | `(tactic| walk_at "w1") => `(tactic| first
  | ((with_reducible refine' w_var ?hv ?_); (case hv => exact rfl))
  | with_reducible refine' w_c ?_
  | with_reducible refine' w_op ?_
  | with_reducible refine' w_seq ?_
  | with_reducible refine' w_asg ?_
  | with_reducible refine' w_gname ?_
  | with_reducible refine' w_ret ?_
  | with_reducible refine' w_retN ?_
  | with_reducible refine' w_drop ?_
  | with_reducible refine' w_next ?_
  | with_reducible refine' w_nil ?_
  | with_reducible refine' w_cons ?_
  | with_reducible refine' w_cb ?_
  | with_reducible refine' w_call ?_
  | with_reducible refine' w_callS ?_
  | with_reducible refine' w_un ?_
  | with_reducible refine' w_I0 ?_
  | with_reducible refine' w_U ?_
  | ((with_reducible refine' w_eq ?hv ?_); (case hv => exact rfl))
  | ((with_reducible refine' w_ne ?hv ?_); (case hv => exact rfl))
  | with_reducible refine' w_test ?_
  | with_reducible refine' w_tB ?_
  | with_reducible refine' w_bl ?_
  | with_reducible refine' w_blA ?_
  | with_reducible refine' w_and ?_
  | with_reducible refine' w_or ?_
  | with_reducible refine' w_not ?_
  | with_reducible refine' w_andV ?_
  | with_reducible refine' w_orV ?_
  | with_reducible refine' w_notV ?_
  | with_reducible refine' w_if ?_
  | with_reducible refine' w_ifS ?_
  | with_reducible refine' w_T ?_
  | with_reducible refine' w_F ?_
  | with_reducible refine' w_NT ?_
  | with_reducible refine' w_NF ?_
  | with_reducible refine' w_tup ?_
  | with_reducible refine' w_lst ?_
  | with_reducible refine' w_chain ?_
  | with_reducible refine' w_rfl ?_
  | ((with_reducible refine' w_szn ?hl ?_); (case hl => simp only [List.length_cons, List.length_nil]; decide); intro _ _)
  | ((with_reducible refine' w_isiF ?hv ?hw ?_); (case hv => first | assumption | rfl); (case hw => decide))
  | with_reducible refine' w_slice ?_
  | with_reducible refine' w_nopart ?_
  | with_reducible refine' w_part ?_
  | with_reducible refine' w_partI ?_
  | with_reducible refine' w_lc ?_
  | with_reducible refine' w_for ?_
  | with_reducible refine' w_iZip ?_
  | with_reducible refine' w_iEnum ?_
  | with_reducible refine' w_iList ?_
  | with_reducible refine' w_iTup ?_
  | with_reducible refine' w_iR1 ?_
  | with_reducible refine' w_iR2 ?_
  | with_reducible refine' w_gcons ?_
  | ((with_reducible refine' w_gunl ?hv ?hw ?_); (case hv => walk_at "sq"); (case hw => exact rfl))
  | with_reducible refine' w_gnil ?_
  | ((with_reducible refine' w_gtupH ?hv ?hw ?_); (case hv => walk_at "at"); (case hw => exact rfl))
  | ((with_reducible refine' w_wipe (σ := wipe _ _) ?hv ?_); (case hv => exact rfl))
  | with_reducible refine' w_yes ?_
  | with_reducible refine' w_tru ?_
  | with_reducible refine' w_rs ?_
  | with_reducible refine' w_mkO ?_
  | ((with_reducible refine' w_exc1 ?_); intro _ _)
  | with_reducible refine' w_make ?_
  | with_reducible refine' w_makeS ?_
  | with_reducible refine' w_fldG ?_
  | with_reducible refine' w_setF ?_
  | ((with_reducible refine' w_ixT ?hv ?hw ?_); (case hv => walk_at "sq"); (case hw => walk_at "ix"))
  | ((with_reducible refine' w_ixL ?hv ?hw ?_); (case hv => walk_at "sq"); (case hw => walk_at "ix"))
  | ((with_reducible refine' w_lenT ?hv ?_); (case hv => walk_at "sq"))
  | ((with_reducible refine' w_lenL ?hv ?_); (case hv => walk_at "sq"))
  | ((with_reducible refine' w_I ?hc ?_); (case hc => first | (exact cmul_r (by omega) (by omega)) | (exact cmul_l (by omega) (by omega)) | (show (0 : Int) < _; first | assumption | omega) | (exact ⟨by first | assumption | omega, by first | assumption | omega⟩) | (exact ⟨by omega, by omega, by omega⟩)))
  | with_reducible refine' w_int1 ?_
  | with_reducible refine' w_bm ?_
  | with_reducible refine' w_tryA ?_
  | with_reducible refine' w_tryO ?_
  | with_reducible refine' w_insS ?_
  | with_reducible refine' w_xfG ?_
  | ((with_reducible refine' w_cat ?ha ?hb ?hl ?_); (case ha => walk_at "at"); (case hb => walk_at "at"); (case hl => simp only [List.length_cons, List.length_nil, List.length_append]; decide); intro _ _)
  | with_reducible refine' w_gsub ?_
  | ((with_reducible refine' w_setL ?hv ?hw ?_); (case hv => walk_at "at"); (case hw => exact rfl))
  | walk_at "x1"
  | fail)
local macro_rules | `(tactic| walk_at "w") => `(tactic| repeat' walk_at "w1")
local macro_rules | `(tactic| walk_at "a1") => `(tactic| first
  | with_reducible refine' w_tupR ?_
  | with_reducible refine' w_lstR ?_
  | ((with_reducible refine' w_tupA ?hl ?_); (case hl => simp only [List.length_cons, List.length_nil]; decide); intro _ _ _ _ _)
  | ((with_reducible refine' w_lstA ?hl ?_); (case hl => simp only [List.length_cons, List.length_nil]; decide); intro _ _ _ _ _)
  | ((with_reducible refine' w_catA ?ha ?hb ?hl ?_); (case ha => walk_at "at"); (case hb => walk_at "at"); (case hl => simp only [List.length_cons, List.length_nil, List.length_append]; decide); intro _ _ _ _ _)
  | walk_at "w1"
  | fail)
local macro_rules | `(tactic| walk_at "wa") => `(tactic| repeat' walk_at "a1")

local macro_rules | `(tactic| walk_at "x1") => `(tactic| first
  | with_reducible refine' w_trI ?_
  | ((with_reducible refine' w_aug ?hv ?_); (case hv => exact rfl))
  | with_reducible refine' w_ipI ?_
  | with_reducible refine' w_par ?_
  | with_reducible refine' w_parE ?_
  | fail)
theorem sc_gcd : FnScope ["one", "other"] ["one", "other"] (defScope s_gcd) := ⟨rfl, rfl, rfl, by decide +kernel, rfl, by decide +kernel, by decide +kernel⟩
theorem sc_period_of : FnScope ["steps", "found", "step"] ["steps"] (defScope s_period_of) := ⟨rfl, rfl, rfl, by decide +kernel, rfl, by decide +kernel, by decide +kernel⟩
theorem sc_reach_of : FnScope ["steps", "found", "step", "part"] ["steps"] (defScope s_reach_of) := ⟨rfl, rfl, rfl, by decide +kernel, rfl, by decide +kernel, by decide +kernel⟩
theorem sc_numbers_to : FnScope ["most", "found", "size"] ["most"] (defScope s_numbers_to) := ⟨rfl, rfl, rfl, by decide +kernel, rfl, by decide +kernel, by decide +kernel⟩
theorem sc_values_for : FnScope ["steps", "most"] ["steps"] (defScope s_values_for) := ⟨rfl, rfl, rfl, by decide +kernel, rfl, by decide +kernel, by decide +kernel⟩
section
variable {P : Program} {w : World} {K : PySem.W.Frag} {mg : Str → Option Value} {base : Heap}
theorem ok_gcd (T : Fx w K mg) : Cal P w K mg base 1 "gcd" ["one", "other"] spGcd := by
  refine cal_of T.f_gcd sc_gcd (fun vs H Q E h => ?_) (fun _ _ _ _ _ _ us hl => match us, hl with | [_, _], _ => rfl) (fun f cdv A outer s H vs Q E hr h => ?_)
  · obtain ⟨_, _, rfl, _⟩ := h; rfl
  · obtain ⟨a, b, rfl, la, lb, k⟩ := h
    refine ⟨_, (pss_cons (ps_while (passes_of rfl) (pt_tru (pv 1) (by intro _; rfl)) (pss_one (ps_par (i := 0) (j := 1) rfl sc_gcd.nd rfl rfl (by decide) rfl rfl (pa_cons (pv 1) (pa_cons (pe_op (op_mod) (pv 0) (pv 1)) pa_nil)) (by rfl)))) (pss_one (ps_ret (pv 0)))), ?_⟩
    walk_at "w"
    refine while_by (fun σ H' => ∃ x y : Nat, σ = [some (.int (x : Int)), some (.int (y : Int))] ∧ x < 1000000 ∧ y < 1000000 ∧ Nat.gcd x y = Nat.gcd a b ∧ Same H H') (fun σ _ => match σ with | [_, some (.int y)] => y.toNat | _ => 0) ⟨a, b, rfl, la, lb, rfl, Same.refl _⟩ (fun σ H1 p => ?_) tru_mono
    obtain ⟨x, y, rfl, lx, ly, hg, sm⟩ := p
    walk_at "w"
    refine w_b2 (fun e1 => ?_) (fun e1 => ?_)
    · have hy : 0 < y := by simp at e1; omega
      walk_at "w"
      refine ⟨⟨y, x % y, rfl, ly, Nat.lt_trans (Nat.mod_lt _ hy) ly, ?_, sm⟩, ?_⟩
      · rw [← hg, Nat.gcd_comm x y, Nat.gcd_rec y x, Nat.gcd_comm]
      · show ((x : Int) % (y : Int)).toNat < ((y : Nat) : Int).toNat
        have h1 := Int.emod_nonneg (x : Int) (b := (y : Int)) (by omega)
        have h2 := Int.emod_lt_of_pos (x : Int) (b := (y : Int)) (by omega)
        omega
    · have hy : y = 0 := by simp at e1; omega
      subst hy
      walk_at "w"
      rw [Nat.gcd_zero_right] at hg
      rw [hg]
      exact k _ sm
theorem ok_period (T : Fx w K mg) (c_gcd : Cal P w K mg base 1 "gcd" ["one", "other"] spGcd) : Cal P w K mg base 2 "period_of" ["steps"] (spPeriod K) := by
  refine cal_of T.f_period_of sc_period_of (fun vs H Q E h => ?_) (fun _ _ _ _ _ _ us hl => match us, hl with | [_], _ => rfl) (fun f cdv A outer s H vs Q E hr h => ?_)
  · obtain ⟨_, _, rfl, _⟩ := h; rfl
  · obtain ⟨a, ss, rfl, ⟨items, ha, hp⟩, hok, hl, k⟩ := h
    refine ⟨_, (pss_cons (ps_set (i := 1) sc_period_of.nd rfl (Or.inl rfl) pe_int) (pss_cons (ps_for (passes_of rfl) rfl (pi_tup (pv 0)) (pg_name (i := 2) sc_period_of.nd rfl (Or.inl rfl)) (pss_one (ps_if (pt_cmpR (op_in_seq) (pe_ix ix_tup (pv 2) pe_int (fun _ _ => rfl)) (pe_tup (pa_cons pe_str (pa_cons pe_str pa_nil))) (by rfl)) (pss_one (ps_set (i := 1) sc_period_of.nd rfl (Or.inl rfl) (pe_op (op_fdiv) (pe_op (op_mul) (pv 1) (pe_ix ix_tup (pv 2) pe_int (fun _ _ => rfl))) (pe_cal c_gcd hr (by first | decide | omega) rfl (pa_cons (pv 1) (pa_cons (pe_ix ix_tup (pv 2) pe_int (fun _ _ => rfl)) pa_nil)))))) pss_nil))) (pss_one (ps_ret (pv 1))))), ?_⟩
    have hll : ss.length = items.length := hp.length
    walk_at "w"
    refine w_iTG ha ?_
    refine w_forW (walk_tup (xs := items)) (fun i σ H' => ∃ o2, σ = [some (.ref a), some (.int (perN 1 (ss.take i) : Nat)), o2] ∧ Same H H')
      ⟨_, rfl, Same.refl _⟩ (fun i σ H' _ p => by obtain ⟨_, _, sm⟩ := p; exact Same.tup sm ha) (fun i v σ H1 H2 hi p hy => ?_) (fun σ H1 p => ?_)
    · obtain ⟨o2, rfl, sm⟩ := p
      obtain ⟨rfl, hv⟩ := hy
      obtain ⟨s1, hs1, t1, rfl, ht1⟩ := Paired.at_ hp hv
      have ht1' : SqT K H2 t1 (.str (headS s1) :: (parts s1).tail) := by rw [← parts_head]; exact Same.tup sm ht1
      walk_at "w"
      rename_i p1 hp1
      have s1' := Same.new (o := .tup [V.str "round", .str "fold"]) hp1
      refine w_inTs (l := ["round", "fold"]) (tupAt upd_same) rfl ?_
      walk_at "w"
      rw [head_mod]
      have hpt := perN_take hs1 1
      have ok1 := hok _ (List.mem_of_getElem? hs1)
      refine w_b2 (fun e1 => ?_) (fun e1 => ?_)
      · obtain ⟨r, er⟩ := mod_part e1
        have ht2 : SqT K (upd H2 p1 (.tup [V.str "round", .str "fold"])) t1 (.str (headS s1) :: .int s1.mod :: r) := by rw [← er]; exact Same.tup (Same.trans sm s1') ht1
        have hb := Nat.le_of_dvd (by decide) (per_60 (take_ok hok i))
        have hm1 := smod_pos ok1
        have hm2 := smod_le ok1
        walk_at "w"
        refine go_gcd (by omega) (by omega) (by omega) (by omega) ?_
        intro H3 s3
        walk_at "w"
        obtain ⟨g1, g2, g3⟩ := gcd_ok (p := perN 1 (ss.take i)) hm1 hm2
        refine w_I ⟨g1, g2⟩ ?_
        rw [if_pos e1] at hpt
        rw [g3, ← hpt]
        walk_at "w"
        exact ⟨_, rfl, Same.trans (Same.trans sm s1') s3⟩
      · rw [if_neg (by rw [e1]; decide)] at hpt
        walk_at "w"
        refine ⟨some (.ref t1), ?_, Same.trans sm s1'⟩
        rw [hpt]; rfl
    · obtain ⟨o2, rfl, sm⟩ := p
      walk_at "w"
      rw [← hll, List.take_length]
      exact k _ sm
theorem ok_reach (T : Fx w K mg) : Cal P w K mg base 1 "reach_of" ["steps"] (spReach K) := by
  refine cal_of T.f_reach_of sc_reach_of (fun vs H Q E h => ?_) (fun _ _ _ _ _ _ us hl => match us, hl with | [_], _ => rfl) (fun f cdv A outer s H vs Q E hr h => ?_)
  · obtain ⟨_, _, rfl, _⟩ := h; rfl
  · obtain ⟨a, ss, rfl, ⟨items, ha, hp⟩, hok, hl, k⟩ := h
    refine ⟨_, (pss_cons (ps_set (i := 1) sc_reach_of.nd rfl (Or.inl rfl) pe_int) (pss_cons (ps_for (passes_of rfl) rfl (pi_tup (pv 0)) (pg_name (i := 2) sc_reach_of.nd rfl (Or.inl rfl)) (pss_one (ps_aug (i := 1) sc_reach_of.nd rfl (Or.inl rfl) (pe_callB (cr_sum rfl) (by rfl) T.b_sum (show bootBuiltins "sum" = some (.builtin "sum") from by decide +kernel) (pa_cons (pe_lc (own := [("part", 3)]) (g := gName 3) (by rfl) sc_reach_of.nd (pi_tup (pe_slice sl_tup (pv 2) (po_some pe_int) po_none)) (blkOk_by (own := [("part", 3)]) (N := ["steps", "found", "step", "part"]) (sc := defScope s_reach_of) (by decide +kernel)) (fun _ _ _ _ _ => pg_name (i := 3) sc_reach_of.nd rfl (Or.inl rfl)) (fun _ _ _ _ _ => (pts_one (pt_val (pe_callB (call_isiK K rfl) (by rfl) T.b_isinstance (show bootBuiltins "isinstance" = some (.builtin "isinstance") from by decide +kernel) (pa_cons (pv 3) (pa_cons (pe_bty (T := "int") rfl T.b_int (by decide +kernel)) pa_nil)))))) (fun _ _ _ _ _ => (pe_callB call_absR (by rfl) T.b_abs (show bootBuiltins "abs" = some (.builtin "abs") from by decide +kernel) (pa_cons (pv 3) pa_nil)))) pa_nil)) ip_add))) (pss_one (ps_ret (pv 1))))), ?_⟩
    have hll : ss.length = items.length := hp.length
    walk_at "w"
    refine w_iTG ha ?_
    refine w_forW (walk_tup (xs := items)) (fun i σ H' => ∃ o2 o3, σ = [some (.ref a), some (.int (reach (ss.take i))), o2, o3] ∧ Same H H')
      ⟨_, _, rfl, Same.refl _⟩ (fun i σ H' _ p => by obtain ⟨_, _, _, sm⟩ := p; exact Same.tup sm ha) (fun i v σ H1 H2 hi p hy => ?_) (fun σ H1 p => ?_)
    · obtain ⟨o2, o3, rfl, sm⟩ := p
      obtain ⟨rfl, hv⟩ := hy
      obtain ⟨s1, hs1, t1, rfl, ht1⟩ := Paired.at_ hp hv
      have ht1' : SqT K H2 t1 (.str (headS s1) :: (parts s1).tail) := by rw [← parts_head]; exact Same.tup sm ht1
      walk_at "w"
      refine w_slT1 ht1' fun p2 hp2 => ?_
      walk_at "w"
      have s2 := Same.new (o := .tup (parts s1).tail) hp2
      refine w_iTG (tupAt upd_same) ?_
      have ll : (parts s1).tail.length ≤ 2 := by cases s1 <;> simp [parts]
      have fl : ∀ v ∈ (parts s1).tail, flatV v = true := fun v hv => List.all_eq_true.mp (parts_flat s1) v (List.mem_of_mem_tail hv)
      refine w_lcW (walk_tup (xs := (parts s1).tail)) (fun i => (pInts ((parts s1).tail.take i)).map .int) rfl (fun H3 s3 => Same.tup s3 (tupAt upd_same)) (fun D j x H3 H4 hD hj s3 hl3 hy => ?_) (fun D H3 hD s3 hl3 => ?_)
      · obtain ⟨rfl, hx⟩ := hy
        have e3 : (parts s1).tail.take (j + 1) = (parts s1).tail.take j ++ [x] := by rw [List.take_succ, hx]; rfl
        have fx := fl x (List.mem_of_getElem? hx)
        walk_at "w"
        cases x with
        | int z =>
          refine w_bT (by rfl) ?_
          walk_at "w"
          refine w_abs ?_
          refine w_put (acc := fun i => (pInts ((parts s1).tail.take i)).map V.int) (i := j) hD s3 hl3 (Same.refl _) (len_lt (by have := pInts_len ((parts s1).tail.take j); rw [List.length_map]; simp only [List.length_take] at this; omega)) ?_
          rw [e3, pInts_app, List.map_append]; rfl
        | bl b => exact absurd (List.mem_of_getElem? hx) (parts_nobl s1 b)
        | non =>
          refine w_bF (by rfl) ?_
          exact ⟨s3, by rw [e3, pInts_app]; simpa [pInts] using hl3⟩
        | str z =>
          refine w_bF (by rfl) ?_
          exact ⟨s3, by rw [e3, pInts_app]; simpa [pInts] using hl3⟩
        | _ => cases fx
      · walk_at "w"
        refine w_sum (ns := pInts (parts s1).tail) (lstAt (by rw [hl3, List.take_length])) ?_
        walk_at "w"
        refine ⟨some (.ref t1), o3, ?_, Same.trans (Same.trans sm s2) s3⟩
        rw [parts_sum, reach_take hs1]; rfl
    · obtain ⟨o2, o3, rfl, sm⟩ := p
      walk_at "w"
      rw [← hll, List.take_length]
      exact k _ sm
theorem ok_numsTo (T : Fx w K mg) : Cal P w K mg base 1 "numbers_to" ["most"] spNumsTo := by
  refine cal_of T.f_numbers_to sc_numbers_to (fun vs H Q E h => ?_) (fun _ _ _ _ _ _ us hl => match us, hl with | [_], _ => rfl) (fun f cdv A outer s H vs Q E hr h => ?_)
  · obtain ⟨_, rfl, _⟩ := h; rfl
  · obtain ⟨n, rfl, hn, k⟩ := h
    refine ⟨_, (pss_cons (ps_set (i := 1) sc_numbers_to.nd rfl (Or.inl rfl) (pe_lst (pa_cons pe_int pa_nil))) (pss_cons (ps_for (passes_of rfl) rfl (pi_range2 rfl T.b_range (pa_cons pe_int (pa_cons (pe_op (op_add) (pv 0) pe_int) pa_nil))) (pg_name (i := 2) sc_numbers_to.nd rfl (Or.inl rfl)) (pss_one (ps_set (i := 1) sc_numbers_to.nd rfl (Or.inl rfl) (pe_op (op_cat) (pv 1) (pe_lst (pa_cons (pv 2) (pa_cons (pe_un un_neg (pv 2)) pa_nil))))))) (pss_one (ps_ret (pv 1))))), ?_⟩
    walk_at "w"
    rename_i p1 hp1
    refine w_iR2G (by omega) ?_
    refine w_forW (walk_range (lo := 1) (n := ((n : Int) + 1 - 1).toNat)) (fun i σ H' => ∃ o2 l, σ = [some (.int (n : Int)), some (.ref l), o2] ∧ Same H H' ∧ H l = none ∧ H' l = some (.lst ((numsTo i).map .int)))
      ⟨_, p1, rfl, Same.new hp1, hp1, upd_same⟩ (fun _ _ _ _ _ => trivial) (fun i v σ H1 H2 hi p hy => ?_) (fun σ H1 p => ?_)
    · obtain ⟨o2, l, rfl, sm, hl0, hl⟩ := p
      obtain ⟨rfl, rfl⟩ := hy
      walk_at "w"
      rename_i p2 hp2
      refine w_cat (Same.new hp2 _ _ hl) upd_same (by rw [List.length_map, numsTo_len]; exact Nat.le_of_lt (len_lt (show 2 * i + 1 + 2 ≤ 100000 by omega))) ?_
      intro p3 hp3
      walk_at "w"
      have s3 := Same.trans (Same.trans sm (Same.new hp2)) (Same.new (o := .lst ((numsTo i).map V.int ++ [.int (1 + (i : Int)), .int (-(1 + (i : Int)))])) hp3)
      refine ⟨_, p3, rfl, s3, Same.free (Same.trans sm (Same.new hp2)) hp3, ?_⟩
      rw [upd_same]
      congr 2
      show _ = List.map V.int (numsTo i ++ [((i + 1 : Nat) : Int), -((i + 1 : Nat) : Int)])
      rw [List.map_append]
      congr 1
      show [V.int (1 + (i : Int)), .int (-(1 + (i : Int)))] = [.int ((i + 1 : Nat) : Int), .int (-((i + 1 : Nat) : Int))]
      rw [show (1 + (i : Int)) = ((i + 1 : Nat) : Int) by omega]
    · obtain ⟨o2, l, rfl, sm, hl0, hl⟩ := p
      walk_at "w"
      refine k l _ sm hl0 ?_
      rw [show ((n : Int) + 1 - 1).toNat = n by omega] at hl
      exact hl
theorem ok_valuesFor (T : Fx w K mg) (c_reach_of : Cal P w K mg base 1 "reach_of" ["steps"] (spReach K)) (c_period_of : Cal P w K mg base 2 "period_of" ["steps"] (spPeriod K)) (c_numbers_to : Cal P w K mg base 1 "numbers_to" ["most"] spNumsTo) : Cal P w K mg base 3 "values_for" ["steps"] (spValuesFor K) := by
  refine cal_of T.f_values_for sc_values_for (fun vs H Q E h => ?_) (fun _ _ _ _ _ _ us hl => match us, hl with | [_], _ => rfl) (fun f cdv A outer s H vs Q E hr h => ?_)
  · obtain ⟨_, _, rfl, _⟩ := h; rfl
  · obtain ⟨a, ss, rfl, hst, hok, hl, k⟩ := h
    refine ⟨_, (pss_cons (ps_set (i := 1) sc_values_for.nd rfl (Or.inl rfl) (pe_op (op_add) (pe_op (op_add) (pe_cal c_reach_of hr (by first | decide | omega) rfl (pa_cons (pv 0) pa_nil)) (pe_op (op_mul) pe_int (pe_cal c_period_of hr (by first | decide | omega) rfl (pa_cons (pv 0) pa_nil)))) pe_int)) (pss_one (ps_ret (pe_op (op_cat) (pe_op (op_cat) (pe_lst (pa_cons pe_non pa_nil)) (pe_callTy call_listOf (by rfl) T.b_list (show bootBuiltins "list" = some (.type "list") from by decide +kernel) (pa_cons (pe_gref rfl T.g_WORDS) pa_nil))) (pe_cal c_numbers_to hr (by first | decide | omega) rfl (pa_cons (pv 1) pa_nil)))))), ?_⟩
    walk_at "w"
    refine go_reach hst hok (by omega) fun H1 s1 => ?_
    walk_at "w"
    refine go_period (hst.same s1) hok (by omega) fun H2 s2 => ?_
    walk_at "w"
    have h1 := reach_le hok; have h2 := per_le hok; have h3 := per_pos hok; have h4 := reach_nn ss
    have sm := Same.trans s1 s2
    rename_i p1 hp1
    refine w_listOf (xs := vstrs WORDS) (.inr (T.t_WORDS _)) fun p2 hp2 => ?_
    walk_at "w"
    rename_i p3 hp3
    refine go_numsTo (by omega) (by omega) fun l H4 s4 hl4 q4 => ?_
    walk_at "w"
    refine w_cat (xs := [.non] ++ vstrs WORDS) (by walk_at "at") q4 (by rw [List.length_map, numsTo_len]; exact Nat.le_of_lt (len_lt (by simp [WORDS]; omega))) fun p5 hp5 => ?_
    walk_at "w"
    refine NewL.fin k (by walk_at "same") hp5 ?_
    rw [vals_vv]
    rfl
end
end TB

set_option maxHeartbeats 4000000
namespace TB
open PySem PySem.Spec PyProof.Rows L2 TW LamX NdefX
local macro_rules | `(tactic| walk_at "same") => `(tactic| first
  | exact Same.refl _
  | assumption
  | ((with_reducible refine' Same.trans ?sa (Same.new ?sb)); (case sb => assumption); (case sa => walk_at "same"))
  | ((with_reducible refine' Same.trans ?sa ?sb); (case sb => assumption); (case sa => walk_at "same"))
  | fail)
local macro_rules | `(tactic| walk_at "at") => `(tactic| first
  | assumption
  | exact upd_same
  | ((with_reducible refine' Same.get (Same.new ?sb) ?sa); (case sb => assumption); (case sa => walk_at "at"))
  | ((with_reducible refine' Same.get ?sb ?sa); (case sb => assumption); (case sa => walk_at "at"))
  | ((with_reducible refine' SameX.get ?sb ?sn ?sa); (case sb => assumption); (case sn => assumption); (case sa => walk_at "at"))
  | fail)
local macro_rules | `(tactic| walk_at "sq") => `(tactic| first
  | assumption
  | ((with_reducible refine' tupAt ?sa); (case sa => walk_at "at"))
  | ((with_reducible refine' lstAt ?sa); (case sa => walk_at "at"))
  | ((with_reducible refine' Same.tup (Same.new ?sb) ?sa); (case sb => assumption); (case sa => walk_at "sq"))
  | ((with_reducible refine' Same.lst (Same.new ?sb) ?sa); (case sb => assumption); (case sa => walk_at "sq"))
  | ((with_reducible refine' Same.tup ?sb ?sa); (case sb => assumption); (case sa => walk_at "sq"))
  | ((with_reducible refine' Same.lst ?sb ?sa); (case sb => assumption); (case sa => walk_at "sq"))
  | fail)
local macro_rules | `(tactic| walk_at "ix") => `(tactic| first
  | with_reducible exact atI_0
  | with_reducible exact atI_1
  | with_reducible exact atI_2
  | with_reducible exact atI_3
  | assumption
  | exact rfl)
local macro_rules | `(tactic| walk_at "dr") => `(tactic| first
  | assumption
  | ((with_reducible refine' DrawsAt.same ?sa (Same.new ?sb)); (case sb => assumption); (case sa => walk_at "dr"))
  | ((with_reducible refine' DrawsAt.same ?sa ?sb); (case sb => assumption); (case sa => walk_at "dr"))
  | fail)
local macro_rules | `(tactic| walk_at "sx") => `(tactic| first
  | exact SameX.refl _ _
  | assumption
  | ((with_reducible refine' SameX.new ?sa ?sb); (case sb => assumption); (case sa => walk_at "sx"))
  | ((with_reducible refine' SameX.trans ?sa ?sb); (case sb => assumption); (case sa => walk_at "sx"))
  | ((with_reducible refine' SameX.trans ?sa (SameX.of ?sb)); (case sb => assumption); (case sa => walk_at "sx"))
  | fail)
local macro_rules | `(tactic| walk_at "x1") => `(tactic| fail)
local macro_rules | `(tactic| walk_at "w1") => `(tactic| first
  | ((with_reducible refine' w_var ?hv ?_); (case hv => exact rfl))
  | with_reducible refine' w_c ?_
  | with_reducible refine' w_op ?_
  | with_reducible refine' w_seq ?_
  | with_reducible refine' w_asg ?_
  | with_reducible refine' w_gname ?_
  | with_reducible refine' w_ret ?_
  | with_reducible refine' w_retN ?_
  | with_reducible refine' w_drop ?_
  | with_reducible refine' w_next ?_
  | with_reducible refine' w_nil ?_
  | with_reducible refine' w_cons ?_
  | with_reducible refine' w_cb ?_
  | with_reducible refine' w_call ?_
  | with_reducible refine' w_callS ?_
  | with_reducible refine' w_un ?_
  | with_reducible refine' w_I0 ?_
  | with_reducible refine' w_U ?_
  | ((with_reducible refine' w_eq ?hv ?_); (case hv => exact rfl))
  | ((with_reducible refine' w_ne ?hv ?_); (case hv => exact rfl))
  | with_reducible refine' w_test ?_
  | with_reducible refine' w_tB ?_
  | with_reducible refine' w_bl ?_
  | with_reducible refine' w_blA ?_
  | with_reducible refine' w_and ?_
  | with_reducible refine' w_or ?_
  | with_reducible refine' w_not ?_
  | with_reducible refine' w_andV ?_
  | with_reducible refine' w_orV ?_
  | with_reducible refine' w_notV ?_
  | with_reducible refine' w_if ?_
  | with_reducible refine' w_ifS ?_
  | with_reducible refine' w_T ?_
  | with_reducible refine' w_F ?_
  | with_reducible refine' w_NT ?_
  | with_reducible refine' w_NF ?_
  | with_reducible refine' w_tup ?_
  | with_reducible refine' w_lst ?_
  | with_reducible refine' w_chain ?_
  | with_reducible refine' w_rfl ?_
  | ((with_reducible refine' w_szn ?hl ?_); (case hl => simp only [List.length_cons, List.length_nil]; decide); intro _ _)
  | ((with_reducible refine' w_isiF ?hv ?hw ?_); (case hv => first | assumption | rfl); (case hw => decide))
  | with_reducible refine' w_slice ?_
  | with_reducible refine' w_nopart ?_
  | with_reducible refine' w_part ?_
  | with_reducible refine' w_partI ?_
  | with_reducible refine' w_lc ?_
  | with_reducible refine' w_for ?_
  | with_reducible refine' w_iZip ?_
  | with_reducible refine' w_iEnum ?_
  | with_reducible refine' w_iList ?_
  | with_reducible refine' w_iTup ?_
  | with_reducible refine' w_iR1 ?_
  | with_reducible refine' w_iR2 ?_
  | with_reducible refine' w_gcons ?_
  | ((with_reducible refine' w_gunl ?hv ?hw ?_); (case hv => walk_at "sq"); (case hw => exact rfl))
  | with_reducible refine' w_gnil ?_
  | ((with_reducible refine' w_gtupH ?hv ?hw ?_); (case hv => walk_at "at"); (case hw => exact rfl))
  | ((with_reducible refine' w_wipe (σ := wipe _ _) ?hv ?_); (case hv => exact rfl))
  | with_reducible refine' w_yes ?_
  | with_reducible refine' w_tru ?_
  | with_reducible refine' w_rs ?_
  | with_reducible refine' w_mkO ?_
  | ((with_reducible refine' w_exc1 ?_); intro _ _)
  | with_reducible refine' w_make ?_
  | with_reducible refine' w_makeS ?_
  | with_reducible refine' w_fldG ?_
  | with_reducible refine' w_setF ?_
  | ((with_reducible refine' w_ixT ?hv ?hw ?_); (case hv => walk_at "sq"); (case hw => walk_at "ix"))
  | ((with_reducible refine' w_ixL ?hv ?hw ?_); (case hv => walk_at "sq"); (case hw => walk_at "ix"))
  | ((with_reducible refine' w_lenT ?hv ?_); (case hv => walk_at "sq"))
  | ((with_reducible refine' w_lenL ?hv ?_); (case hv => walk_at "sq"))
  | ((with_reducible refine' w_I ?hc ?_); (case hc => first | (exact cmul_r (by omega) (by omega)) | (exact cmul_l (by omega) (by omega)) | (show (0 : Int) < _; first | assumption | omega) | (exact ⟨by first | assumption | omega, by first | assumption | omega⟩) | (exact ⟨by omega, by omega, by omega⟩)))
  | with_reducible refine' w_int1 ?_
  | with_reducible refine' w_bm ?_
  | with_reducible refine' w_tryA ?_
  | with_reducible refine' w_tryO ?_
  | with_reducible refine' w_insS ?_
  | with_reducible refine' w_xfG ?_
  | ((with_reducible refine' w_cat ?ha ?hb ?hl ?_); (case ha => walk_at "at"); (case hb => walk_at "at"); (case hl => simp only [List.length_cons, List.length_nil, List.length_append]; decide); intro _ _)
  | with_reducible refine' w_gsub ?_
  | ((with_reducible refine' w_setL ?hv ?hw ?_); (case hv => walk_at "at"); (case hw => exact rfl))
  | walk_at "x1"
  | fail)
local macro_rules | `(tactic| walk_at "w") => `(tactic| repeat' walk_at "w1")
local macro_rules | `(tactic| walk_at "a1") => `(tactic| first
  | with_reducible refine' w_tupR ?_
  | with_reducible refine' w_lstR ?_
  | ((with_reducible refine' w_tupA ?hl ?_); (case hl => simp only [List.length_cons, List.length_nil]; decide); intro _ _ _ _ _)
  | ((with_reducible refine' w_lstA ?hl ?_); (case hl => simp only [List.length_cons, List.length_nil]; decide); intro _ _ _ _ _)
  | ((with_reducible refine' w_catA ?ha ?hb ?hl ?_); (case ha => walk_at "at"); (case hb => walk_at "at"); (case hl => simp only [List.length_cons, List.length_nil, List.length_append]; decide); intro _ _ _ _ _)
  | walk_at "w1"
  | fail)
local macro_rules | `(tactic| walk_at "wa") => `(tactic| repeat' walk_at "a1")

local macro_rules | `(tactic| walk_at "x1") => `(tactic| first
  | with_reducible refine' w_calC ?_
  | fail)
theorem sc_first_of : FnScope ["steps", "wanted", "value"] ["steps", "wanted"] (defScope s_first_of) := ⟨rfl, rfl, rfl, by decide +kernel, rfl, by decide +kernel, by decide +kernel⟩
section
variable {P : Program} {w : World} {K : PySem.W.Frag} {mg : Str → Option Value} {base : Heap}
theorem ok_first (T : Fx w K mg) (c_values_for : Cal P w K mg base 3 "values_for" ["steps"] (spValuesFor K)) : CalC P w K mg base 6 "first_of" ["steps", "wanted"] (spFirst P w K mg base 5) := by
  refine calC_of T.f_first_of sc_first_of (fun out s H vs Q h => ?_) (fun _ _ _ _ _ _ us hl => match us, hl with | [_, _], _ => rfl) (fun f cdv A outer s H vs Q hr h => ?_)
  · obtain ⟨_, _, _, _, rfl, _⟩ := h; rfl
  · obtain ⟨t, g, ss, D, rfl, hst, hok, hl, hC, k⟩ := h
    refine ⟨_, (pss_cons (ps_for (passes_of rfl) rfl (pi_list (pe_cal c_values_for hr (by first | decide | omega) rfl (pa_cons (pv 0) pa_nil))) (pg_name (i := 2) sc_first_of.nd rfl (Or.inl rfl)) (pss_one (ps_if (pt_val (pe_clo (i := 1) hC rfl hr (by first | decide | omega) rfl (Or.inl rfl) (pa_cons (pv 2) pa_nil))) (pss_one (ps_ret (pe_tup (pa_cons (pv 2) pa_nil)))) pss_nil))) (pss_one (ps_ret pe_non))), ?_⟩
    walk_at "w"
    refine go_valuesFor hst hok hl fun l H1 s1 hl1 q1 => ?_
    refine w_iLG (lstAt q1) ?_
    refine w_forW (walk_list (xs := (vals (look ss)).map vv)) (fun i σ H' => (∃ o2, σ = [some (.ref t), some (.ref g), o2]) ∧ Same H1 H' ∧ ((vals (look ss)).take i).find? D = none)
      ⟨⟨_, rfl⟩, Same.refl _, rfl⟩ (fun i σ H' _ p => Same.lst p.2.1 (lstAt q1)) (fun i v σ H2 H3 hi p hy => ?_) (fun σ H2 p => ?_)
    · obtain ⟨⟨o2, rfl⟩, sm, hf⟩ := p
      obtain ⟨rfl, hv⟩ := hy
      rw [List.getElem?_map] at hv
      cases e : (vals (look ss))[i]? with
      | none => rw [e] at hv; cases hv
      | some x =>
        rw [e] at hv
        cases hv
        have s12 := Same.trans s1 sm
        walk_at "w"
        refine w_clo (.of s12) rfl ?_
        walk_at "w"
        refine ⟨.of s12, x, rfl, fun H4 s4 => ?_⟩
        have et : (vals (look ss)).take (i + 1) = (vals (look ss)).take i ++ [x] := by rw [List.take_succ, e]; rfl
        walk_at "w"
        refine w_b2 (fun e1 => ?_) (fun e1 => ?_)
        · walk_at "w"
          rename_i p hp
          have ef : firstV (look ss) D = some x := by
            unfold firstV
            rw [← List.take_append_drop (i + 1) (vals (look ss)), List.find?_append, et, List.find?_append, hf]
            simp [e1]
          rw [ef] at k
          exact k p _ (Same.trans (Same.trans s12 s4) (Same.new hp)) (Same.free (Same.trans s12 s4) hp) upd_same
        · walk_at "w"
          refine ⟨⟨_, rfl⟩, Same.trans sm s4, ?_⟩
          rw [et, List.find?_append, hf]
          simp [e1]
    · obtain ⟨⟨o2, rfl⟩, sm, hf⟩ := p
      rw [List.length_map, List.take_length] at hf
      walk_at "w"
      have ef : firstV (look ss) D = none := hf
      rw [ef] at k
      exact k _ (Same.trans s1 sm)
end
end TB

set_option maxHeartbeats 4000000
namespace TB
open PySem PySem.Spec PyProof.Rows L2 TW LamX NdefX
local macro_rules | `(tactic| walk_at "same") => `(tactic| first
  | exact Same.refl _
  | assumption
  | ((with_reducible refine' Same.trans ?sa (Same.new ?sb)); (case sb => assumption); (case sa => walk_at "same"))
  | ((with_reducible refine' Same.trans ?sa ?sb); (case sb => assumption); (case sa => walk_at "same"))
  | fail)
local macro_rules | `(tactic| walk_at "at") => `(tactic| first
  | assumption
  | exact upd_same
  | ((with_reducible refine' Same.get (Same.new ?sb) ?sa); (case sb => assumption); (case sa => walk_at "at"))
  | ((with_reducible refine' Same.get ?sb ?sa); (case sb => assumption); (case sa => walk_at "at"))
  | ((with_reducible refine' SameX.get ?sb ?sn ?sa); (case sb => assumption); (case sn => assumption); (case sa => walk_at "at"))
  | fail)
local macro_rules | `(tactic| walk_at "sq") => `(tactic| first
  | assumption
  | ((with_reducible refine' tupAt ?sa); (case sa => walk_at "at"))
  | ((with_reducible refine' lstAt ?sa); (case sa => walk_at "at"))
  | ((with_reducible refine' Same.tup (Same.new ?sb) ?sa); (case sb => assumption); (case sa => walk_at "sq"))
  | ((with_reducible refine' Same.lst (Same.new ?sb) ?sa); (case sb => assumption); (case sa => walk_at "sq"))
  | ((with_reducible refine' Same.tup ?sb ?sa); (case sb => assumption); (case sa => walk_at "sq"))
  | ((with_reducible refine' Same.lst ?sb ?sa); (case sb => assumption); (case sa => walk_at "sq"))
  | fail)
local macro_rules | `(tactic| walk_at "ix") => `(tactic| first
  | with_reducible exact atI_0
  | with_reducible exact atI_1
  | with_reducible exact atI_2
  | with_reducible exact atI_3
  | assumption
  | exact rfl)
local macro_rules | `(tactic| walk_at "dr") => `(tactic| first
  | assumption
  | ((with_reducible refine' DrawsAt.same ?sa (Same.new ?sb)); (case sb => assumption); (case sa => walk_at "dr"))
  | ((with_reducible refine' DrawsAt.same ?sa ?sb); (case sb => assumption); (case sa => walk_at "dr"))
  | fail)
local macro_rules | `(tactic| walk_at "sx") => `(tactic| first
  | exact SameX.refl _ _
  | assumption
  | ((with_reducible refine' SameX.new ?sa ?sb); (case sb => assumption); (case sa => walk_at "sx"))
  | ((with_reducible refine' SameX.trans ?sa ?sb); (case sb => assumption); (case sa => walk_at "sx"))
  | ((with_reducible refine' SameX.trans ?sa (SameX.of ?sb)); (case sb => assumption); (case sa => walk_at "sx"))
  | fail)
local macro_rules | `(tactic| walk_at "x1") => `(tactic| fail)
local macro_rules | `(tactic| walk_at "w1") => `(tactic| first
  | ((with_reducible refine' w_var ?hv ?_); (case hv => exact rfl))
  | with_reducible refine' w_c ?_
  | with_reducible refine' w_op ?_
  | with_reducible refine' w_seq ?_
  | with_reducible refine' w_asg ?_
  | with_reducible refine' w_gname ?_
  | with_reducible refine' w_ret ?_
  | with_reducible refine' w_retN ?_
  | with_reducible refine' w_drop ?_
  | with_reducible refine' w_next ?_
  | with_reducible refine' w_nil ?_
  | with_reducible refine' w_cons ?_
  | with_reducible refine' w_cb ?_
  | with_reducible refine' w_call ?_
  | with_reducible refine' w_callS ?_
  | with_reducible refine' w_un ?_
  | with_reducible refine' w_I0 ?_
  | with_reducible refine' w_U ?_
  | ((with_reducible refine' w_eq ?hv ?_); (case hv => exact rfl))
  | ((with_reducible refine' w_ne ?hv ?_); (case hv => exact rfl))
  | with_reducible refine' w_test ?_
  | with_reducible refine' w_tB ?_
  | with_reducible refine' w_bl ?_
  | with_reducible refine' w_blA ?_
  | with_reducible refine' w_and ?_
  | with_reducible refine' w_or ?_
  | with_reducible refine' w_not ?_
  | with_reducible refine' w_andV ?_
  | with_reducible refine' w_orV ?_
  | with_reducible refine' w_notV ?_
  | with_reducible refine' w_if ?_
  | with_reducible refine' w_ifS ?_
  | with_reducible refine' w_T ?_
  | with_reducible refine' w_F ?_
  | with_reducible refine' w_NT ?_
  | with_reducible refine' w_NF ?_
  | with_reducible refine' w_tup ?_
  | with_reducible refine' w_lst ?_
  | with_reducible refine' w_chain ?_
  | with_reducible refine' w_rfl ?_
  | ((with_reducible refine' w_szn ?hl ?_); (case hl => simp only [List.length_cons, List.length_nil]; decide); intro _ _)
  | ((with_reducible refine' w_isiF ?hv ?hw ?_); (case hv => first | assumption | rfl); (case hw => decide))
  | with_reducible refine' w_slice ?_
  | with_reducible refine' w_nopart ?_
  | with_reducible refine' w_part ?_
  | with_reducible refine' w_partI ?_
  | with_reducible refine' w_lc ?_
  | with_reducible refine' w_for ?_
  | with_reducible refine' w_iZip ?_
  | with_reducible refine' w_iEnum ?_
  | with_reducible refine' w_iList ?_
  | with_reducible refine' w_iTup ?_
  | with_reducible refine' w_iR1 ?_
  | with_reducible refine' w_iR2 ?_
  | with_reducible refine' w_gcons ?_
  | ((with_reducible refine' w_gunl ?hv ?hw ?_); (case hv => walk_at "sq"); (case hw => exact rfl))
  | with_reducible refine' w_gnil ?_
  | ((with_reducible refine' w_gtupH ?hv ?hw ?_); (case hv => walk_at "at"); (case hw => exact rfl))
  | ((with_reducible refine' w_wipe (σ := wipe _ _) ?hv ?_); (case hv => exact rfl))
  | with_reducible refine' w_yes ?_
  | with_reducible refine' w_tru ?_
  | with_reducible refine' w_rs ?_
  | with_reducible refine' w_mkO ?_
  | ((with_reducible refine' w_exc1 ?_); intro _ _)
  | with_reducible refine' w_make ?_
  | with_reducible refine' w_makeS ?_
  | with_reducible refine' w_fldG ?_
  | with_reducible refine' w_setF ?_
  | ((with_reducible refine' w_ixT ?hv ?hw ?_); (case hv => walk_at "sq"); (case hw => walk_at "ix"))
  | ((with_reducible refine' w_ixL ?hv ?hw ?_); (case hv => walk_at "sq"); (case hw => walk_at "ix"))
  | ((with_reducible refine' w_lenT ?hv ?_); (case hv => walk_at "sq"))
  | ((with_reducible refine' w_lenL ?hv ?_); (case hv => walk_at "sq"))
  | ((with_reducible refine' w_I ?hc ?_); (case hc => first | (exact cmul_r (by omega) (by omega)) | (exact cmul_l (by omega) (by omega)) | (show (0 : Int) < _; first | assumption | omega) | (exact ⟨by first | assumption | omega, by first | assumption | omega⟩) | (exact ⟨by omega, by omega, by omega⟩)))
  | with_reducible refine' w_int1 ?_
  | with_reducible refine' w_bm ?_
  | with_reducible refine' w_tryA ?_
  | with_reducible refine' w_tryO ?_
  | with_reducible refine' w_insS ?_
  | with_reducible refine' w_xfG ?_
  | ((with_reducible refine' w_cat ?ha ?hb ?hl ?_); (case ha => walk_at "at"); (case hb => walk_at "at"); (case hl => simp only [List.length_cons, List.length_nil, List.length_append]; decide); intro _ _)
  | with_reducible refine' w_gsub ?_
  | ((with_reducible refine' w_setL ?hv ?hw ?_); (case hv => walk_at "at"); (case hw => exact rfl))
  | walk_at "x1"
  | fail)
local macro_rules | `(tactic| walk_at "w") => `(tactic| repeat' walk_at "w1")
local macro_rules | `(tactic| walk_at "a1") => `(tactic| first
  | with_reducible refine' w_tupR ?_
  | with_reducible refine' w_lstR ?_
  | ((with_reducible refine' w_tupA ?hl ?_); (case hl => simp only [List.length_cons, List.length_nil]; decide); intro _ _ _ _ _)
  | ((with_reducible refine' w_lstA ?hl ?_); (case hl => simp only [List.length_cons, List.length_nil]; decide); intro _ _ _ _ _)
  | ((with_reducible refine' w_catA ?ha ?hb ?hl ?_); (case ha => walk_at "at"); (case hb => walk_at "at"); (case hl => simp only [List.length_cons, List.length_nil, List.length_append]; decide); intro _ _ _ _ _)
  | walk_at "w1"
  | fail)
local macro_rules | `(tactic| walk_at "wa") => `(tactic| repeat' walk_at "a1")

local macro_rules | `(tactic| walk_at "x1") => `(tactic| first
  | with_reducible refine' w_calC ?_
  | fail)
theorem sn_parting_differs : NScope ["value", "one", "two"] ["value"] ["one", "two"] (C8.fnScope s_parting_differs) := nscope_by (by decide +kernel)
theorem nd_parting_differs : ndefB (defScope s_parting) (C8.fnScope s_parting_differs) ["one", "two"] = true := by decide +kernel
theorem sc_parting : FnScope ["one", "two", "differs"] ["one", "two"] (defScope s_parting) := ⟨rfl, rfl, rfl, by decide +kernel, rfl, by decide +kernel, by decide +kernel⟩
theorem sc_alike : FnScope ["one", "two"] ["one", "two"] (defScope s_alike) := ⟨rfl, rfl, rfl, by decide +kernel, rfl, by decide +kernel, by decide +kernel⟩
section
variable {P : Program} {w : World} {K : PySem.W.Frag} {mg : Str → Option Value} {base : Heap}
theorem ok_differs (T : Fx w K mg) (c_result : Cal P w K mg base 4 "result" ["steps", "value"] (spResult K)) (q : Str) (cl : List (Str × Addr)) : ∀ g c', NOk P w K mg base (L2.CX P w) 5 g (NF.of s_parting_differs "differs" q cl c') ["value"] ["one", "two"] (spTwo2 K dPart) := by
  intro g c'
  refine nok_of sn_parting_differs (fun _ _ _ us hl => match us, hl with | [_], _ => rfl) (fun ws vs H Q E h => ?_) (fun A outer s H vs ws Q E hr hf hc hw h => ?_)
  · obtain ⟨_, _, _, _, _, _, rfl, _⟩ := h; rfl
  · obtain ⟨a, b, ss, ts, v, rfl, rfl, ⟨dx, t, h1, h2⟩, ⟨dy, u, g1, g2⟩, o1, o2, l1, l2, k⟩ := h
    refine ⟨_, (pss_one (ps_ret (pe_cmpR (op_neD hr.units) (pe_cal c_result hr (by first | decide | omega) rfl (pa_cons (pe_fld (pv 1) rfl) (pa_cons (pv 0) pa_nil))) (pe_cal c_result hr (by first | decide | omega) rfl (pa_cons (pe_fld (pv 2) rfl) (pa_cons (pv 0) pa_nil))) (nomark _)))), ?_⟩
    walk_at "w"
    refine w_fld h1 T.k_Chain T.n_Chain_steps rfl ?_
    walk_at "w"
    refine go_result h2 o1 (by omega) fun l H1 s1 f1 q1 => ?_
    walk_at "w"
    refine w_fld (s1 _ _ g1) T.k_Chain T.n_Chain_steps rfl ?_
    walk_at "w"
    refine go_result (g2.same s1) o2 (by omega) fun m H2 s2 f2 q2 => ?_
    refine w_neO (s2 _ _ q1) q2 ?_
    exact k _ (Same.trans s1 s2)
theorem ok_parting (T : Fx w K mg) (hTB : TabB base mg (He.codeOf K ("parting", none)) (tabA K "parting")) (c_first_of : CalC P w K mg base 6 "first_of" ["steps", "wanted"] (spFirst P w K mg base 5)) (c_result : Cal P w K mg base 4 "result" ["steps", "value"] (spResult K)) : Cal P w K mg base 7 "parting" ["one", "two"] (spAsk2 K (cloT K) TW.parting) := by
  refine cal_ofC T.f_parting sc_parting (fun vs H Q E h => ?_) (fun _ _ _ _ _ _ us hl => match us, hl with | [_, _], _ => rfl) (fun f A outer s H vs Q E hr h => ?_)
  · obtain ⟨_, _, _, _, rfl, _⟩ := h; rfl
  · obtain ⟨a, b, ss, ts, rfl, ha, hb, o1, o2, l1, l2, ht, k⟩ := h
    have hlink := link2 (X := cxOf (L2.CX P w) P w K mg base ["one", "two", "differs"] "parting" (defScope s_parting) f (.ref (He.codeOf K ("parting", none))) A outer s H E) (fr := ["one", "two"]) (ps := ["value"]) (k := 5) (D := dPart) (mk := NF.of s_parting_differs "differs" nm_parting (cloFrom (cxOf (L2.CX P w) P w K mg base ["one", "two", "differs"] "parting" (defScope s_parting) f (.ref (He.codeOf K ("parting", none))) A outer s H E).env.cells (C8.fnScope s_parting_differs).names []))
      (fun g c' => ok_differs T c_result _ _ g c') (fun _ => rfl) (fun ok => Caps.made (scope := C8.fnScope s_parting_differs) ok (ndef_free nd_parting_differs) (ndef_fr nd_parting_differs) rfl)
    refine ⟨_, (pss_cons (ps_ndefMS (st := s_parting_differs) (T := cloT K) (nm := fun _ _ => nm_parting) (c := He.codeOf K ("parting", none)) (P := tabA K "parting") (name := "differs") (i := 2) rfl hTB rfl (by exact nm_in_parting) rfl (tab_hu T.nd_tab nm_in_parting) (ndef_free nd_parting_differs) rfl rfl rfl sc_parting.nd rfl (Or.inl rfl) (Or.inl rfl)) (pss_one (ps_ret (pe_calC (SPσ := spHand2 K (NF.of s_parting_differs "differs" nm_parting (cloFrom (cxOf (L2.CX P w) P w K mg base ["one", "two", "differs"] "parting" (defScope s_parting) f (.ref (He.codeOf K ("parting", none))) A outer s H E).env.cells (C8.fnScope s_parting_differs).names [])) dPart) c_first_of hr (by decide) rfl hlink (pa_cons (pe_op op_catA (pe_fld (pv 0) rfl) (pe_fld (pv 1) rfl)) (pa_cons (pv 2) pa_nil)))))), ?_⟩
    walk_at "w"
    refine ⟨ht, fun g c' H1 e1 nn t1 g0 g1 g2 => ?_⟩
    obtain ⟨dx, t, h1, xs, h2, h3⟩ := ha.ext e1
    obtain ⟨dy, u, f1, ys, f2, f3⟩ := hb.ext e1
    walk_at "w"
    refine w_fld h1 T.k_Chain T.n_Chain_steps rfl ?_
    walk_at "w"
    refine w_fld f1 T.k_Chain T.n_Chain_steps rfl ?_
    have n1 := h3.length; have n2 := f3.length
    refine w_catT h2 f2 (by have := len_lt (m := xs.length + ys.length) (by omega); omega) fun p H2 s2 hp => ?_
    walk_at "w"
    have e2 : ExtN H H2 := e1.trans (.of s2)
    exact ⟨p, g, c', a, b, ss, ts, rfl, rfl, rfl, s2 _ _ g1, s2 _ _ g2, ⟨xs ++ ys, hp, Paired.app (StepsP.same h3 s2) (StepsP.same f3 s2)⟩, ha.ext e2, hb.ext e2, o1, o2, l1, l2, OptR.of k e2 (fun b hb => nn b (Same.free s2 hb)) (t1.ext s2)⟩
theorem ok_alike (T : Fx w K mg) (c_parting : Cal P w K mg base 7 "parting" ["one", "two"] (spAsk2 K (cloT K) TW.parting)) : Cal P w K mg base 8 "alike" ["one", "two"] (spYes2 K (cloT K) alikeB) := by
  refine cal_of T.f_alike sc_alike (fun vs H Q E h => ?_) (fun _ _ _ _ _ _ us hl => match us, hl with | [_, _], _ => rfl) (fun f cdv A outer s H vs Q E hr h => ?_)
  · obtain ⟨_, _, _, _, rfl, _⟩ := h; rfl
  · obtain ⟨a, b, ss, ts, rfl, ha, hb, o1, o2, l1, l2, ht, k⟩ := h
    refine ⟨_, (pss_one (ps_ret (pe_cmpR (op_isN) (pe_cal c_parting hr (by first | decide | omega) rfl (pa_cons (pv 0) (pa_cons (pv 1) pa_nil))) pe_non (nomark _)))), ?_⟩
    walk_at "w"
    exact go_ask2 ha hb o1 o2 l1 l2 ht (OptT.isN k)
end
end TB

set_option maxHeartbeats 4000000
/-! dicts whose keys are values (None, words, numbers), and dicts whose keys are pairs of a bool and a number -/
namespace TB
open PySem PySem.Spec PyProof.Rows L2 TW LamX NdefX PySem.W
def lf : Val → Leaf
  | .non => .none
  | .a => .text "a"
  | .b => .text "b"
  | .c => .text "c"
  | .int i => .num i
theorem lf_inj {x y : Val} (h : lf x = lf y) : x = y := by
  cases x <;> cases y <;> first
    | rfl
    | (injection h with h; rw [h])
    | exact nomatch h
    | exact absurd h (by decide +kernel)
theorem lf_is {P : Program} {w : World} {v : Val} {u : Value} (r : RelV (vv v) u) : (leafKind P w).is (lf v) u = true := by
  cases v with
  | non => cases r; rfl
  | int i => obtain ⟨t, rfl⟩ := r; exact decide_eq_true rfl
  | a => obtain ⟨t, rfl⟩ := r; exact keyIs_str "a" t
  | b => obtain ⟨t, rfl⟩ := r; exact keyIs_str "b" t
  | c => obtain ⟨t, rfl⟩ := r; exact keyIs_str "c" t
/-- a dict whose keys are values -/
def SeenP (P : Program) (w : World) (a : Addr) (kvs : List (Leaf × V)) (h : Heap) : Prop := kvs.length ≤ sizeLine ∧ (a == sysModules) = false ∧ ∃ vs, KV kvs vs ∧ h.DictOf (leafKind P w) a vs
def SeenO (P : Program) (w : World) (a : Addr) (kvs : List (Leaf × V)) : HO := .ext (SeenP P w a kvs)
/-- a dict whose keys are pairs of a bool and a number: the pair, the key's tuple, the value's tuple -/
abbrev MK := (Bool × Int) × Addr × Addr
def mkL (p : Bool × Int) : List Leaf := [.num (if p.1 = true then 1 else 0), .num p.2]
def mkX (m : MK) : List Leaf × Addr × Value := (mkL m.1, m.2.1, .ref m.2.2)
def MarkP (P : Program) (w : World) (a : Addr) (ms : List MK) (h : Heap) : Prop := ms.length ≤ sizeLine ∧ (a == sysModules) = false ∧ ∃ o es ep, h.get? a = some o ∧ o.ExactDict ∧ o.data = .dict es ep ∧ es.toList = (ms.map mkX).map (entryOfKey (tupleKind (leafKind P w))) ∧ ((ms.map mkX).map (·.1)).Nodup
def MarkO (P : Program) (w : World) (a : Addr) (ms : List MK) : HO := .ext (MarkP P w a ms)
def MarksOk (H : Hp) (ms : List MK) : Prop := ∀ m ∈ ms, H m.2.1 = some (.tup [.bl m.1.1, .int m.1.2])
def findM (ms : List MK) (p : Bool × Int) : Option Addr := (ms.find? fun m => decide (m.1 = p)).map (·.2.2)
theorem mkL_inj {p q : Bool × Int} (h : mkL p = mkL q) : p = q := by
  obtain ⟨a, i⟩ := p
  obtain ⟨b, j⟩ := q
  unfold mkL at h
  injection h with h1 h2
  injection h1 with h1
  injection h2 with h2 _
  injection h2 with h2
  dsimp only at h1 h2
  cases a <;> cases b <;> simp_all
theorem atKey_mk (ms : List MK) (p : Bool × Int) : (atKey (ms.map mkX) (mkL p)).map (·.2) = (findM ms p).map Value.ref := by
  induction ms with
  | nil => rfl
  | cons m ms ih =>
    unfold atKey findM at *
    rw [List.map_cons, List.find?_cons, List.find?_cons]
    by_cases e : m.1 = p
    · have e2 : (mkX m).1 = mkL p := by rw [← e]; rfl
      rw [decide_eq_true e, decide_eq_true e2]
      rfl
    · have e2 : ¬ (mkX m).1 = mkL p := fun z => e (mkL_inj z)
      rw [decide_eq_false e, decide_eq_false e2]
      exact ih
section
variable {P : Program} {w : World} {H : Hp} {h : Heap} {a : Addr}
theorem seen_ok {kvs : List (Leaf × V)} {vs : List (Leaf × Value)} (z : kvs.length ≤ sizeLine) (hd : (a == sysModules) = false) (rel : KV kvs vs) (dd : h.DictOf (leafKind P w) a vs) : ObjOk P w H h a (SeenO P w a kvs) := by
  refine ⟨⟨z, hd, vs, rel, dd⟩, let ⟨o, _, _, e, _⟩ := dd; ⟨o, e⟩, fun h1 h2 x k => ?_⟩
  obtain ⟨z, y, vs, r, ob, es, ep, e, c⟩ := x
  exact ⟨z, y, vs, r, ob, es, ep, k _ e, c⟩
theorem seen_of {kvs : List (Leaf × V)} (ok : HOk P w H h) (e : H a = some (SeenO P w a kvs)) : SeenP P w a kvs h := (show ObjOk P w H h a (SeenO P w a kvs) from ok a _ e).1
theorem mark_ok {ms : List MK} (x : MarkP P w a ms h) : ObjOk P w H h a (MarkO P w a ms) := by
  refine ⟨x, let ⟨_, _, o, _, _, e, _⟩ := x; ⟨o, e⟩, fun h1 h2 x k => ?_⟩
  obtain ⟨z, y, ob, es, ep, e, c⟩ := x
  exact ⟨z, y, ob, es, ep, k _ e, c⟩
theorem mark_of {ms : List MK} (ok : HOk P w H h) (e : H a = some (MarkO P w a ms)) : MarkP P w a ms h := (show ObjOk P w H h a (MarkO P w a ms) from ok a _ e).1
theorem mkey_of {p : Bool × Int} {b : Addr} (ok : HOk P w H h) (e : H b = some (.tup [.bl p.1, .int p.2])) : (tupleKind (leafKind P w)).is h (mkL p) b := by
  obtain ⟨_, its, r, o, h1, h2, n, h3⟩ := (show ObjOk P w H h b (.tup [.bl p.1, .int p.2]) from ok b _ e)
  refine ⟨o, its.toArray, n, h1, h2, h3, ?_⟩
  cases r with
  | cons r1 r2 =>
    cases r2 with
    | cons r3 r4 =>
      cases r4
      cases r1
      obtain ⟨t, rfl⟩ := r3
      exact .cons (decide_eq_true rfl) (.cons (decide_eq_true rfl) .nil)
theorem marks_of {ms : List MK} (ok : HOk P w H h) (e : H a = some (MarkO P w a ms)) (hm : MarksOk H ms) : ms.length ≤ sizeLine ∧ (a == sysModules) = false ∧ h.DictOfH (tupleKind (leafKind P w)) a (ms.map mkX) := by
  obtain ⟨z, hd, o, es, ep, h1, h2, h3, h4, h5⟩ := mark_of ok e
  refine ⟨z, hd, o, es, ep, h1, h2, h3, h4, fun x hx => ?_, h5⟩
  obtain ⟨m, hm', rfl⟩ := List.mem_map.mp hx
  exact mkey_of ok (hm m hm')
end
/-- what such a dict holds at y -/
def NGet (P : Program) (w : World) (H : Hp) (a : Addr) (y : V) (r : Option V) : Prop :=
  (∃ kvs v, H a = some (SeenO P w a kvs) ∧ y = vv v ∧ r = valV kvs (lf v)) ∨ ∃ ms p b, H a = some (MarkO P w a ms) ∧ MarksOk H ms ∧ y = .ref b ∧ H b = some (.tup [.bl p.1, .int p.2]) ∧ r = (findM ms p).map V.ref
def NPut (P : Program) (w : World) (H : Hp) (a : Addr) (y x : V) (H' : Hp) : Prop :=
  (∃ kvs v, H a = some (SeenO P w a kvs) ∧ y = vv v ∧ kvs.length < sizeLine ∧ H' = upd H a (SeenO P w a (putK kvs (lf v) x))) ∨
  ∃ ms p b t, H a = some (MarkO P w a ms) ∧ MarksOk H ms ∧ y = .ref b ∧ x = .ref t ∧ H b = some (.tup [.bl p.1, .int p.2]) ∧ findM ms p = none ∧ ms.length < sizeLine ∧ H' = upd H a (MarkO P w a (ms ++ [(p, b, t)]))
section
variable {X : Cx} {pins : List (Addr × Obj)} {σ : L2.St} {H : Hp} {s : Shared} {a : Addr} {y v : V} {u r : Value} {o : Option V} {A : Around} {E : Value → Shared → Prop}
theorem n_some {ms : List MK} {p : Bool × Int} {v : V} (h : some v = (findM ms p).map V.ref) : ∃ t q, v = .ref t ∧ atKey (ms.map mkX) (mkL p) = some q ∧ q.2 = .ref t := by
  cases e : findM ms p with
  | none => rw [e] at h; cases h
  | some t =>
    rw [e] at h
    have e2 := atKey_mk ms p
    rw [e] at e2
    obtain ⟨q, h1, h2⟩ := Option.map_eq_some_iff.mp e2
    exact ⟨t, q, Option.some.inj h, h1, h2⟩
theorem n_isSome {ms : List MK} {p : Bool × Int} : (atKey (ms.map mkX) (mkL p)).isSome = ((findM ms p).map V.ref).isSome := by
  have e2 := congrArg Option.isSome (atKey_mk ms p)
  rw [Option.isSome_map, Option.isSome_map] at e2
  rw [e2, Option.isSome_map]
theorem n_getItem {Q : Value → Shared → Prop} (hu : A.units + 1 < cLine) (I : Inv X pins σ H s) (g : NGet X.prog X.w H a y (some v)) (ry : RelV y u) (h : ∀ w' s', Inv X pins σ H s' → RelV v w' → Q w' s') :
    wpAny (model X.prog X.w) A (getItem (.ref a) u) Q E s := by
  rcases g with ⟨kvs, k, e, ey, l⟩ | ⟨ms, p, b, e, hm, ey, eb, l⟩
  · subst ey
    obtain ⟨z, hd, vs, rel, dd⟩ := seen_of I.hok e
    obtain ⟨w', hw, rw'⟩ := RelO.some_of (v := v) (o := valueAt vs (lf k)) (by rw [l]; exact rel.val (lf k))
    exact wpAny_getItem_of (lf_is ry) dd.mapOf hw (h w' _ (I.tok _) rw')
  · subst ey
    cases (show u = Value.ref b from ry)
    obtain ⟨z, hd, dd⟩ := marks_of I.hok e hm
    obtain ⟨t, q, rfl, h1, h2⟩ := n_some l
    refine wpAny_getItem_heap (tupleKind_room_in1 hu) (mkey_of I.hok eb) dd h1 ?_
    rw [h2]
    exact h _ _ (I.tok _) rfl
theorem n_in {Q : Value → Shared → Prop} (hu : A.units + 1 < cLine) (I : Inv X pins σ H s) (g : NGet X.prog X.w H a y o) (ry : RelV y u) (h : ∀ s', Inv X pins σ H s' → Q (.bool o.isSome) s') :
    wpAny (model X.prog X.w) A (compareOp .In u (.ref a)) Q E s := by
  rcases g with ⟨kvs, k, e, ey, l⟩ | ⟨ms, p, b, e, hm, ey, eb, l⟩
  · subst ey
    obtain ⟨z, hd, vs, rel, dd⟩ := seen_of I.hok e
    refine wpAny_in_of (lf_is ry) hd dd.mapOf ?_
    rw [← (rel.val (lf k)).isSome_eq, ← l]
    exact h _ (I.tok _)
  · subst ey
    cases (show u = Value.ref b from ry)
    obtain ⟨z, hd, dd⟩ := marks_of I.hok e hm
    refine wpAny_in_heap (tupleKind_room_in1 hu) (mkey_of I.hok eb) hd dd ?_
    rw [n_isSome, ← l]
    exact h _ (I.tok _)
theorem n_notIn {Q : Value → Shared → Prop} (hu : A.units + 1 < cLine) (I : Inv X pins σ H s) (g : NGet X.prog X.w H a y o) (ry : RelV y u) (h : ∀ s', Inv X pins σ H s' → Q (.bool (!o.isSome)) s') :
    wpAny (model X.prog X.w) A (compareOp .NotIn u (.ref a)) Q E s := by
  rcases g with ⟨kvs, k, e, ey, l⟩ | ⟨ms, p, b, e, hm, ey, eb, l⟩
  · subst ey
    obtain ⟨z, hd, vs, rel, dd⟩ := seen_of I.hok e
    refine wpAny_notIn_of (lf_is ry) hd dd.mapOf ?_
    rw [← (rel.val (lf k)).isSome_eq, ← l]
    exact h _ (I.tok _)
  · subst ey
    cases (show u = Value.ref b from ry)
    obtain ⟨z, hd, dd⟩ := marks_of I.hok e hm
    refine wpAny_notIn_heap (tupleKind_room_in1 hu) (mkey_of I.hok eb) hd dd ?_
    rw [n_isSome, ← l]
    exact h _ (I.tok _)
theorem n_setItem {H' : Hp} {Q : Unit → Shared → Prop} (hu : A.units + 1 < cLine) (I : Inv X pins σ H s) (g : NPut X.prog X.w H a y v H') (ry : RelV y u) (rv : RelV v r) (h : ∀ s', Inv X pins σ H' s' → Q () s') :
    wpAny (model X.prog X.w) A (setItem (.ref a) u r) Q E s := by
  rcases g with ⟨kvs, k, e, ey, l, eH⟩ | ⟨ms, p, b, t, e, hm, ey, ev, eb, hn, l, eH⟩
  · subst ey eH
    obtain ⟨z, hd, vs, rel, dd⟩ := seen_of I.hok e
    have hz : vs.length ≤ sizeLine := by rw [← rel.length]; exact z
    have hl : (putK kvs (lf k) v).length ≤ sizeLine := by have := length_putK kvs (lf k) v; omega
    refine wpAny_setItem_pairs (hsz := hz) (lf_is ry) dd fun h' dd' hs => h _ ?_
    have he : ∃ q, h'.get? a = some q := let ⟨q, _, _, hq, _⟩ := dd'; ⟨q, hq⟩
    exact d_write I (by rw [e]; exact True.intro) hs he (seen_ok hl hd (rel.put (lf k) rv) dd')
  · subst ey ev eH
    cases (show u = Value.ref b from ry)
    cases (show r = Value.ref t from rv)
    obtain ⟨z, hd, dd⟩ := marks_of I.hok e hm
    have hz : (ms.map mkX).length ≤ sizeLine := by rw [List.length_map]; exact z
    have h0 : atKey (ms.map mkX) (mkL p) = none := by
      have := n_isSome (ms := ms) (p := p)
      rw [hn] at this
      cases q : atKey (ms.map mkX) (mkL p) with
      | none => rfl
      | some z => rw [q] at this; cases this
    refine wpAny_setItem_heap (hsz := hz) (tupleKind_room_in1 hu) (mkey_of I.hok eb) dd fun h' dd' hs => h _ ?_
    rw [storedH_new h0] at dd'
    obtain ⟨q, es, ep, hq, h2, h3, h4, _, h5⟩ := dd'
    have e5 : ms.map mkX ++ [(mkL p, b, Value.ref t)] = (ms ++ [(p, b, t)]).map mkX := by rw [List.map_append]; rfl
    rw [e5] at h4 h5
    exact d_write I (by rw [e]; exact True.intro) hs ⟨q, hq⟩ (mark_ok ⟨by rw [List.length_append]; exact l, hd, q, es, ep, hq, h2, h3, h4, h5⟩)
theorem n_typeIs (I : Inv X pins σ H s) (g : NGet X.prog X.w H a y o) : s.TypeIs (.ref a) "dict" := by
  rcases g with ⟨kvs, k, e, _, _⟩ | ⟨ms, p, b, e, hm, _, _, _⟩
  · obtain ⟨_, _, vs, _, dd⟩ := seen_of I.hok e
    exact dd.typeIs
  · obtain ⟨_, _, dd⟩ := marks_of I.hok e hm
    exact dd.typeIs
end
/-! ### readings and rules -/
def tNGet (P : Program) (w : World) (td ty : TE) : TE := fun σ H Q => td σ H fun x H1 => ty σ H1 fun y H2 => ∃ a v, x = .ref a ∧ NGet P w H2 a y (some v) ∧ Q v H2
def tNIn (P : Program) (w : World) (ty td : TE) : TE := fun σ H Q => ty σ H fun y H1 => td σ H1 fun x H2 => ∃ a o, x = .ref a ∧ NGet P w H2 a y o ∧ Q (.bl o.isSome) H2
def tNNotIn (P : Program) (w : World) (ty td : TE) : TE := fun σ H Q => ty σ H fun y H1 => td σ H1 fun x H2 => ∃ a o, x = .ref a ∧ NGet P w H2 a y o ∧ Q (.bl (!o.isSome)) H2
def sNPut (P : Program) (w : World) (td ty tv : TE) : TS := fun D σ H => tv σ H fun v H1 => td σ H1 fun x H2 => ty σ H2 fun y H3 => ∃ a H4, x = .ref a ∧ NPut P w H3 a y v H4 ∧ D.nx σ H4
def tNewS (P : Program) (w : World) : TE := fun _ H Q => ∀ p, H p = none → Q (.ref p) (upd H p (SeenO P w p []))
def tNewM (P : Program) (w : World) : TE := fun _ H Q => ∀ p, H p = none → Q (.ref p) (upd H p (MarkO P w p []))
section
variable {X : Cx} {o i value : Expr} {pos pos' : Pos} {td ty tv : TE}
theorem pe_nget (hu : X.A.units + 1 < cLine) (ho : PE X o td) (hi : PE X i ty) (hs : NoSl i) : PE X (.Subscript o i pos) (tNGet X.prog X.w td ty) := by
  refine ⟨fun pins s σ H Q I h => ?_⟩
  refine subD_of PySem.F.slot_dict_getitem.lookup hs (thn (ho.run pins s σ H _ I h) fun u s1 ⟨x, H1, I1, rx, q1⟩ => thn (hi.run pins s1 σ H1 _ I1 q1) fun iv s2 ⟨y, H2, I2, ry, a, v, ex, g, q2⟩ => ?_)
  subst ex
  obtain rfl : u = Value.ref a := rx
  exact ⟨n_typeIs I2 g, n_getItem hu I2 g ry fun w' s3 I3 rw' => ⟨v, H2, I3, rw', q2⟩⟩
theorem pc_nin (hu : X.A.units + 1 < cLine) (hi : PE X i ty) (ho : PE X o td) : PC X .In i o (tNIn X.prog X.w ty td) := by
  refine ⟨fun pins s σ H Q I h => ?_⟩
  refine thn (hi.run pins s σ H _ I h) fun iv s1 ⟨y, H1, I1, ry, q1⟩ => thn (ho.run pins s1 σ H1 _ I1 q1) fun u s2 ⟨x, H2, I2, rx, a, ov, ex, g, q2⟩ => ?_
  subst ex
  obtain rfl : u = Value.ref a := rx
  exact n_in hu I2 g ry fun s3 I3 => ⟨.bl ov.isSome, H2, I3, rfl, q2⟩
theorem pc_nnotin (hu : X.A.units + 1 < cLine) (hi : PE X i ty) (ho : PE X o td) : PC X .NotIn i o (tNNotIn X.prog X.w ty td) := by
  refine ⟨fun pins s σ H Q I h => ?_⟩
  refine thn (hi.run pins s σ H _ I h) fun iv s1 ⟨y, H1, I1, ry, q1⟩ => thn (ho.run pins s1 σ H1 _ I1 q1) fun u s2 ⟨x, H2, I2, rx, a, ov, ex, g, q2⟩ => ?_
  subst ex
  obtain rfl : u = Value.ref a := rx
  exact n_notIn hu I2 g ry fun s3 I3 => ⟨.bl (!ov.isSome), H2, I3, rfl, q2⟩
theorem ps_nput (hu : X.A.units + 1 < cLine) (ho : PE X o td) (hi : PE X i ty) (hv : PE X value tv) (hs : swapsWith value (some (.Subscript o i pos')) pos.line X.env = pure false) :
    PS X (.Assign [.Subscript o i pos'] value pos) (sNPut X.prog X.w td ty tv) := by
  refine ⟨fun pins s σ H D I h => ?_⟩
  refine wpAny_Assign_Subscript (thn (hv.run pins s σ H _ I h) fun r s1 ⟨v, H1, I1, rv, q1⟩ => thn (ho.run pins s1 σ H1 _ I1 q1) fun u s2 ⟨x, H2, I2, rx, q2⟩ => thn (hi.run pins s2 σ H2 _ I2 q2) fun iv s3 ⟨y, H3, I3, ry, a, H4, ex, g, q3⟩ => ?_) hs
  subst ex
  obtain rfl : u = Value.ref a := rx
  exact n_setItem hu I3 g ry rv fun s4 I4 => ⟨σ, H4, I4, q3⟩
theorem pe_newS : PE X (.Dict [] [] pos) (tNewS X.prog X.w) := ⟨fun pins s σ H Q I h =>
  wpAny_Dict_empty ⟨.ref s.heap.objs.size, _, I.laid (a := s.heap.objs.size) (o := SeenO X.prog X.w s.heap.objs.size []) (t' := s.toks) (fun _ _ q => Heap.get?_push_of_some _ q) (Nat.le_refl _) (seen_ok (Nat.zero_le _) (beq_eq_false_iff_ne.mpr (Ne.symm (Nat.ne_of_lt I.big))) .nil (Heap.DictOf.new s.heap)), rfl, h _ (I.hok.fresh (Nat.le_refl _))⟩⟩
theorem pe_newM : PE X (.Dict [] [] pos) (tNewM X.prog X.w) := ⟨fun pins s σ H Q I h =>
  wpAny_Dict_empty ⟨.ref s.heap.objs.size, _, I.laid (a := s.heap.objs.size) (o := MarkO X.prog X.w s.heap.objs.size []) (t' := s.toks) (fun _ _ q => Heap.get?_push_of_some _ q) (Nat.le_refl _) (mark_ok ⟨Nat.zero_le _, beq_eq_false_iff_ne.mpr (Ne.symm (Nat.ne_of_lt I.big)), _, #[], 0, Heap.get?_push_size _ rfl, ⟨rfl, rfl, rfl⟩, rfl, rfl, List.nodup_nil⟩), rfl, h _ (I.hok.fresh (Nat.le_refl _))⟩⟩
end
end TB

set_option maxHeartbeats 4000000
/-! from which values a value comes -/
namespace TW
def dGive (ss : List Stp) (v x : Val) : Bool := decide (run ss x = some v)
def begO (ss : List Stp) : Int := reach ss + per ss + 5
/-- the place where a row begins, far out -/
def plc (ss : List Stp) (side rest : Int) : Int := side * (begO ss + rest)
def farAt (ss : List Stp) (v side rest : Int) : Option Int :=
  match run ss (.int (plc ss side rest)), run ss (.int (plc ss side rest + side * per ss)) with
  | some (.int a), some (.int b) => if a ≠ b ∧ 0 ≤ Int.fdiv (v - a) (b - a) ∧ a + Int.fdiv (v - a) (b - a) * (b - a) = v then some (plc ss side rest + side * per ss * Int.fdiv (v - a) (b - a)) else none
  | _, _ => none
def farO (ss : List Stp) (v side : Int) : List Int := (List.range (per ss).toNat).filterMap fun r : Nat => farAt ss v side (r : Int)
theorem sg_mul (e : Bool) (t m : Int) : sg e (t * m) = sg e t * m := by
  cases e
  · show -(t * m) = -t * m
    rw [Int.neg_mul]
  · rfl
theorem sg_ne {e : Bool} {t : Int} (h : t ≠ 0) : sg e t ≠ 0 := by
  cases e
  · show -t ≠ 0; omega
  · exact h
theorem fdiv_of {m d : Int} (h : d ≠ 0) : Int.fdiv (m * d) d = m := Int.mul_fdiv_cancel m h
theorem plc_far {ss : List Stp} (ok : ∀ s ∈ ss, s.ok) {side rest : Int} (hs : side = 1 ∨ side = -1) (h0 : 0 ≤ rest) : reach ss < iabs (plc ss side rest) ∧ iabs (plc ss side rest) = begO ss + rest ∧ ∀ k : Int, 0 ≤ k → Side (plc ss side rest) (side * per ss * k) := by
  have hp := per_pos ok
  have hr := reach_nn ss
  have hb : 0 < begO ss + rest := by unfold begO; omega
  have hc := iabs_cases (plc ss side rest)
  unfold plc at *
  refine ⟨?_, ?_, fun k hk => ?_⟩
  · rcases hs with rfl | rfl <;> simp only [begO] at * <;> omega
  · rcases hs with rfl | rfl <;> omega
  · have hk2 : 0 ≤ per ss * k := Int.mul_nonneg (Int.le_of_lt hp) hk
    rcases hs with rfl | rfl
    · left
      rw [Int.one_mul, Int.one_mul]
      exact ⟨hb, hk2⟩
    · right
      have e : (-1 : Int) * per ss * k = -(per ss * k) := by rw [Int.neg_mul, Int.neg_mul, Int.one_mul]
      rw [e]
      omega
theorem farAt_run {ss : List Stp} (ok : ∀ s ∈ ss, s.ok) {v side rest n : Int} (hs : side = 1 ∨ side = -1) (h0 : 0 ≤ rest) (h : farAt ss v side rest = some n) : run ss (.int n) = some (.int v) := by
  obtain ⟨p1, p2, p3⟩ := plc_far ok hs h0
  have hp := per_pos ok
  have dP : ∀ k : Int, per ss ∣ side * per ss * k := fun k => ⟨side * k, by rw [Int.mul_assoc, Int.mul_left_comm]⟩
  have z0 : plc ss side rest + side * per ss * 0 = plc ss side rest := by rw [Int.mul_zero, Int.add_zero]
  have z1 : plc ss side rest + side * per ss * 1 = plc ss side rest + side * per ss := by rw [Int.mul_one]
  unfold farAt at h
  rcases far ss (per ss) ok (fun s hs => per_dvd ok hs) (plc ss side rest) p1 with ⟨o, ho⟩ | ⟨z, e, hz, ho⟩
  · have a0 := ho _ (p3 0 (by decide)) (dP 0)
    have a1 := ho _ (p3 1 (by decide)) (dP 1)
    rw [z0] at a0
    rw [z1] at a1
    rw [a0, a1] at h
    cases o with
    | none => cases h
    | some x =>
      cases x with
      | int a =>
        dsimp only at h
        rw [if_neg (fun q => q.1 rfl)] at h
        cases h
      | _ => cases h
  · have a0 := ho _ (p3 0 (by decide)) (dP 0)
    have a1 := ho _ (p3 1 (by decide)) (dP 1)
    rw [z0] at a0
    rw [z1] at a1
    rw [a0, a1] at h
    dsimp only at h
    split at h
    · rename_i q
      obtain ⟨q1, q2, q3⟩ := q
      have a2 := ho _ (p3 _ q2) (dP _)
      rw [← Option.some.inj h, a2]
      congr 2
      have e0 : sg e (side * per ss * 0) = 0 := by rw [Int.mul_zero]; cases e <;> rfl
      rw [sg_mul]
      rw [e0] at q3 q1 ⊢
      rw [Int.mul_one] at q3 ⊢
      rw [Int.add_zero] at q3 ⊢
      have e1 : z + sg e (side * per ss) - z = sg e (side * per ss) := by omega
      rw [e1] at q3 ⊢
      rw [Int.mul_comm]
      exact q3
    · cases h
theorem far_in {ss : List Stp} (ok : ∀ s ∈ ss, s.ok) {v n : Int} (near : ∀ x : Val, x.size ≤ (look ss : Int) → run ss x ≠ some (.int v)) (h : run ss (.int n) = some (.int v)) : n ∈ farO ss v 1 ++ farO ss v (-1) := by
  have hp := per_pos ok
  have hl := look_eq ok
  have hr := reach_nn ss
  have hn : (look ss : Int) < iabs n := by
    by_cases q : (look ss : Int) < iabs n
    · exact q
    · exact absurd h (near (.int n) (by show iabs n ≤ _; omega))
  have hb : begO ss ≤ iabs n := by unfold begO; omega
  have d0 := Int.emod_nonneg (iabs n - begO ss) (Int.ne_of_gt hp)
  have d1 := Int.emod_lt_of_pos (iabs n - begO ss) hp
  have d2 := Int.mul_ediv_add_emod (iabs n - begO ss) (per ss)
  have k0 : 0 ≤ (iabs n - begO ss) / per ss := Int.ediv_nonneg (by omega) (by omega)
  generalize hrest : (iabs n - begO ss) % per ss = rest at d0 d1 d2
  generalize hk : (iabs n - begO ss) / per ss = k at d2 k0
  have main : ∀ side : Int, (side = 1 ∨ side = -1) → n = side * iabs n → n ∈ farO ss v side := by
    intro side hs hside
    obtain ⟨p1, p2, p3⟩ := plc_far ok hs d0
    have dP : ∀ k : Int, per ss ∣ side * per ss * k := fun k => ⟨side * k, by rw [Int.mul_assoc, Int.mul_left_comm]⟩
    have en : plc ss side rest + side * per ss * k = n := by
      rw [hside]
      unfold plc
      rw [Int.mul_assoc, ← Int.mul_add]
      congr 1
      omega
    have z0 : plc ss side rest + side * per ss * 0 = plc ss side rest := by rw [Int.mul_zero, Int.add_zero]
    have z1 : plc ss side rest + side * per ss * 1 = plc ss side rest + side * per ss := by rw [Int.mul_one]
    have nr : run ss (.int (plc ss side rest)) ≠ some (.int v) := near (.int (plc ss side rest)) (by show iabs (plc ss side rest) ≤ _; rw [p2, hl]; unfold begO; omega)
    refine List.mem_filterMap.mpr ⟨rest.toNat, List.mem_range.mpr (by omega), ?_⟩
    rw [show ((rest.toNat : Nat) : Int) = rest by omega]
    unfold farAt
    rcases far ss (per ss) ok (fun s hs => per_dvd ok hs) (plc ss side rest) p1 with ⟨o, ho⟩ | ⟨z, e, hz, ho⟩
    · have a0 := ho _ (p3 0 (by decide)) (dP 0)
      have ak := ho _ (p3 k k0) (dP k)
      rw [z0] at a0
      rw [en, h] at ak
      rw [a0, ← ak] at nr
      exact absurd rfl nr
    · have a0 := ho _ (p3 0 (by decide)) (dP 0)
      have a1 := ho _ (p3 1 (by decide)) (dP 1)
      have ak := ho _ (p3 k k0) (dP k)
      rw [z0] at a0
      rw [z1] at a1
      rw [en, h] at ak
      have e0 : sg e (side * per ss * 0) = 0 := by rw [Int.mul_zero]; cases e <;> rfl
      rw [e0, Int.add_zero] at a0
      rw [Int.mul_one] at a1
      have ev : v = z + sg e (side * per ss) * k := by
        have := Val.int.inj (Option.some.inj ak)
        rw [sg_mul] at this
        exact this
      have hd : sg e (side * per ss) ≠ 0 := sg_ne (by rcases hs with rfl | rfl <;> omega)
      rw [a0, a1]
      dsimp only
      have e1 : z + sg e (side * per ss) - z = sg e (side * per ss) := by omega
      have e2 : v - z = k * sg e (side * per ss) := by rw [ev, Int.mul_comm k]; omega
      rw [e1, e2, fdiv_of hd, if_pos ⟨by omega, k0, by rw [ev, Int.mul_comm k]⟩, en]
  have hc := iabs_cases n
  rcases hc with ⟨c1, c2⟩ | ⟨c1, c2⟩
  · exact List.mem_append_left _ (main 1 (.inl rfl) (by omega))
  · exact List.mem_append_right _ (main (-1) (.inr rfl) (by omega))
theorem farO_run {ss : List Stp} (ok : ∀ s ∈ ss, s.ok) {v n : Int} (h : n ∈ farO ss v 1 ++ farO ss v (-1)) : run ss (.int n) = some (.int v) := by
  rcases List.mem_append.mp h with q | q
  · obtain ⟨r, _, e⟩ := List.mem_filterMap.mp q
    exact farAt_run ok (.inl rfl) (Int.natCast_nonneg r) e
  · obtain ⟨r, _, e⟩ := List.mem_filterMap.mp q
    exact farAt_run ok (.inr rfl) (Int.natCast_nonneg r) e
/-- what is no number comes from near, if at all -/
theorem near_word {ss : List Stp} (ok : ∀ s ∈ ss, s.ok) {v : Val} (hv : ∀ n, v ≠ .int n) (near : ∀ x : Val, x.size ≤ (look ss : Int) → run ss x ≠ some v) (x : Val) : run ss x ≠ some v := by
  intro h
  have hl := look_eq ok
  have hp := per_pos ok
  by_cases hx : x.size ≤ (look ss : Int)
  · exact near x hx h
  · cases x with
    | int n =>
      have hn : (look ss : Int) < iabs n := by simp only [Val.size] at hx; omega
      obtain ⟨y, q, h1, h2, h3, h4, h5, h6, h7, h8⟩ := row_of (R := reach ss) hp n (by omega) (reach_nn ss)
      have yn : y + (n - y) = n := by omega
      rcases far ss (per ss) ok (fun s hs => per_dvd ok hs) y h1 with ⟨o, ho⟩ | ⟨z, e, hz, ho⟩
      · have a0 := ho 0 (side0 (by have := reach_nn ss; omega)) (Int.dvd_zero _)
        have an := ho _ h7 h8
        rw [Int.add_zero] at a0
        rw [yn, h] at an
        exact near (.int y) (by simp only [Val.size]; omega) (by rw [a0, ← an])
      · have an := ho _ h7 h8
        rw [yn, h] at an
        exact hv _ (Option.some.inj an)
    | _ => exact hx (by simp only [Val.size]; omega)
theorem far_step {ss : List Stp} (ok : ∀ s ∈ ss, s.ok) {side rest a b : Int} (hs : side = 1 ∨ side = -1) (h0 : 0 ≤ rest) (e1 : run ss (.int (plc ss side rest)) = some (.int a)) (e2 : run ss (.int (plc ss side rest + side * per ss)) = some (.int b)) : -60 ≤ b - a ∧ b - a ≤ 60 := by
  obtain ⟨p1, p2, p3⟩ := plc_far ok hs h0
  have hp := per_pos ok
  have hp2 := per_le ok
  have dP : ∀ k : Int, per ss ∣ side * per ss * k := fun k => ⟨side * k, by rw [Int.mul_assoc, Int.mul_left_comm]⟩
  have z0 : plc ss side rest + side * per ss * 0 = plc ss side rest := by rw [Int.mul_zero, Int.add_zero]
  have z1 : plc ss side rest + side * per ss * 1 = plc ss side rest + side * per ss := by rw [Int.mul_one]
  rcases far ss (per ss) ok (fun s hs => per_dvd ok hs) (plc ss side rest) p1 with ⟨o, ho⟩ | ⟨z, e, hz, ho⟩
  · have a0 := ho _ (p3 0 (by decide)) (dP 0)
    have a1 := ho _ (p3 1 (by decide)) (dP 1)
    rw [z0, e1] at a0
    rw [z1, e2, ← a0] at a1
    have := Val.int.inj (Option.some.inj a1)
    omega
  · have a0 := ho _ (p3 0 (by decide)) (dP 0)
    have a1 := ho _ (p3 1 (by decide)) (dP 1)
    rw [z0, e1] at a0
    rw [z1, e2, Int.mul_one] at a1
    have e0 : sg e (side * per ss * 0) = 0 := by rw [Int.mul_zero]; cases e <;> rfl
    rw [e0, Int.add_zero] at a0
    have h1 := Val.int.inj (Option.some.inj a0)
    have h2 := Val.int.inj (Option.some.inj a1)
    have h3 : sg e (side * per ss) = per ss ∨ sg e (side * per ss) = -per ss := by
      rcases hs with rfl | rfl <;> cases e <;> simp [sg]
    omega
end TW

set_option maxHeartbeats 4000000
/-! far out a chain treats all of one side alike: constant by remainders, or a shift in one direction -/
namespace TW
/-- how a step treats the great numbers of a side (b: positive): none for constant, else whether they keep their side -/
def Stp.lin (b : Bool) : Stp → Option Bool
  | .clamp .. => none
  | .least _ => if b = true then some true else none
  | .most _ => if b = true then none else some true
  | .fold _ => none
  | .mirror => some b
  | .turn => some false
  | .blank .. => none
  | .refuse .. => none
  | .void .number => none
  | .bar .number => none
  | _ => some true
def lin : List Stp → Bool → Option Bool
  | [], _ => some true
  | s :: ss, b => (s.lin b).bind fun e => (lin ss (e == b)).map fun f => e == f
def Fr (m : Option Bool) (y P R : Int) (F : Int → Option Val) : Prop :=
  (m = none ∧ ∃ o, ∀ t, Side y t → P ∣ t → F (y + t) = o) ∨ (∃ z e, m = some e ∧ iabs (z - sg e y) ≤ R ∧ ∀ t, Side y t → P ∣ t → F (y + t) = some (.int (z + sg e t)))
theorem lin1 (s : Stp) (ok : s.ok) (y P : Int) (hP : s.mod ∣ P) (h : s.reach < iabs y) : Fr (s.lin (decide (0 < y))) y P s.reach fun n => step1 s (.int n) := by
  have hy := iabs_cases y
  have lin0 : s.reach ≥ 0 := sreach_nn s
  have lin : s.lin (decide (0 < y)) = some true → (∀ t, Side y t → P ∣ t → step1 s (.int (y + t)) = some (.int (y + t))) → Fr (s.lin (decide (0 < y))) y P s.reach fun n => step1 s (.int n) := fun m q => by
    refine .inr ⟨y, true, m, ?_, fun t a b => q t a b⟩
    have e : y - sg true y = 0 := by simp [sg]
    rw [e]; exact lin0
  cases s with
  | clamp a b =>
    have ha := iabs_cases a; have hb := iabs_cases b
    simp only [Stp.reach] at h
    have hab : a ≤ b := ok.2.2
    refine .inl ⟨rfl, if 0 < y then some (.int b) else some (.int a), fun t st _ => ?_⟩
    show some (Val.int (min (max (y + t) a) b)) = _
    rcases st with ⟨h1, h2⟩ | ⟨h1, h2⟩
    · rw [if_pos h1]; congr 2; omega
    · rw [if_neg (by omega)]; congr 2; omega
  | least a =>
    have ha := iabs_cases a
    simp only [Stp.reach] at h
    by_cases h1 : 0 < y
    · refine lin (by simp [Stp.lin, h1]) fun t st _ => ?_
      show some (Val.int (max (y + t) a)) = _
      congr 2; rcases st with st | st <;> omega
    · refine .inl ⟨by simp [Stp.lin, h1], some (.int a), fun t st _ => ?_⟩
      show some (Val.int (max (y + t) a)) = _
      congr 2; rcases st with st | st <;> omega
  | most a =>
    have ha := iabs_cases a
    simp only [Stp.reach] at h
    by_cases h1 : 0 < y
    · refine .inl ⟨by simp [Stp.lin, h1], some (.int a), fun t st _ => ?_⟩
      show some (Val.int (min (y + t) a)) = _
      congr 2; rcases st with st | st <;> omega
    · refine lin (by simp [Stp.lin, h1]) fun t st _ => ?_
      show some (Val.int (min (y + t) a)) = _
      congr 2; rcases st with st | st <;> omega
  | round m w =>
    refine .inr ⟨rounded y m w, true, rfl, ?_, fun t _ d => ?_⟩
    · have hm := okM_pos' ok
      have := rounded_near (n := y) (w := w) hm
      have e : sg true y = y := by simp [sg]
      have hmm := iabs_cases m
      rw [e]; simp only [Stp.reach]; omega
    · show some (Val.int (rounded (y + t) m w)) = some (.int (rounded y m w + sg true t))
      rw [rounded_add (m := m) (Int.dvd_trans (show m ∣ P from hP) d)]; simp [sg]
  | shift d =>
    refine .inr ⟨y + d, true, rfl, ?_, fun t _ _ => ?_⟩
    · have e : y + d - sg true y = d := by simp [sg]; omega
      rw [e]; exact Int.le_refl _
    · show some (Val.int (y + t + d)) = some (.int (y + d + sg true t))
      simp [sg]; omega
  | fold m =>
    refine .inl ⟨rfl, some (.int (y % m)), fun t _ d => ?_⟩
    show some (Val.int ((y + t) % m)) = _
    rw [emod_add (m := m) (Int.dvd_trans (show m ∣ P from hP) d)]
  | mirror =>
    by_cases h1 : 0 < y
    · refine lin (by simp [Stp.lin, h1]) fun t st _ => ?_
      show some (Val.int (if y + t < 0 then -(y + t) else y + t)) = _
      rw [if_neg (by rcases st with st | st <;> omega)]
    · refine .inr ⟨-y, false, by simp [Stp.lin, h1], ?_, fun t st _ => ?_⟩
      · have e : -y - sg false y = 0 := by simp [sg]
        rw [e]; exact Int.le_refl _
      · show some (Val.int (if y + t < 0 then -(y + t) else y + t)) = some (.int (-y + sg false t))
        simp only [Stp.reach] at h
        rw [if_pos (by rcases st with st | st <;> omega)]
        simp [sg]; omega
  | turn =>
    refine .inr ⟨-y, false, rfl, ?_, fun t st _ => ?_⟩
    · have e : -y - sg false y = 0 := by simp [sg]
      rw [e]; exact Int.le_refl _
    · show some (Val.int (-(y + t))) = some (.int (-y + sg false t))
      simp [sg]; omega
  | blank a b =>
    have ha := iabs_cases a; have hb := iabs_cases b
    simp only [Stp.reach] at h
    refine .inl ⟨rfl, some .non, fun t st _ => ?_⟩
    show some (if a ≤ y + t ∧ y + t ≤ b then Val.int (y + t) else .non) = _
    rw [if_neg (by rcases st with st | st <;> omega)]
  | refuse a b =>
    have ha := iabs_cases a; have hb := iabs_cases b
    simp only [Stp.reach] at h
    refine .inl ⟨rfl, none, fun t st _ => ?_⟩
    show (if a ≤ y + t ∧ y + t ≤ b then some (Val.int (y + t)) else none) = _
    rw [if_neg (by rcases st with st | st <;> omega)]
  | fill v => exact lin rfl fun t _ _ => by show some (if Val.int (y + t) = .non then v else .int (y + t)) = _; rw [if_neg (by simp)]
  | replace v w =>
    refine lin rfl fun t st _ => ?_
    show some (if Val.int (y + t) = v then w else .int (y + t)) = _
    rw [if_neg]
    rintro rfl
    have hv := iabs_cases (y + t)
    have hw := size_nn w
    simp only [Stp.reach, Val.size] at h hw
    rcases st with st | st <;> omega
  | void k =>
    cases k with
    | number => exact .inl ⟨rfl, some .non, fun t _ _ => rfl⟩
    | _ => exact lin rfl fun t _ _ => rfl
  | bar k =>
    cases k with
    | number => exact .inl ⟨rfl, none, fun t _ _ => rfl⟩
    | _ => exact lin rfl fun t _ _ => rfl
theorem sg_pos {y z : Int} {e : Bool} {r : Int} (hz : iabs (z - sg e y) ≤ r) (hr : r < iabs y) : decide (0 < z) = (e == decide (0 < y)) := by
  have hy := iabs_cases y
  have h1 := iabs_cases (z - sg e y)
  cases e <;> simp only [sg] at * <;> simp at * <;> by_cases q : 0 < y <;> by_cases p : 0 < z <;> simp [q, p] <;> omega
theorem farL : ∀ (ss : List Stp) (P : Int), (∀ s ∈ ss, s.ok) → (∀ s ∈ ss, s.mod ∣ P) → ∀ y, reach ss < iabs y → Fr (lin ss (decide (0 < y))) y P (reach ss) fun n => run ss (.int n)
  | [], P, _, _, y, _ => .inr ⟨y, true, rfl, by simp [sg, reach, iabs], fun t _ _ => by simp [run, sg]⟩
  | s :: ss, P, ok, hm, y, h => by
    have hr : s.reach < iabs y := by have := reach_nn ss; simp only [reach] at h; omega
    rcases lin1 s (ok _ List.mem_cons_self) y P (hm _ List.mem_cons_self) hr with ⟨m1, o, ho⟩ | ⟨z, e, m1, hz, ho⟩
    · exact .inl ⟨by simp [lin, m1], o.bind (run ss), fun t a b => by show run (s :: ss) _ = _; rw [run_cons]; exact congrArg (fun x => Option.bind x (run ss)) (ho t a b)⟩
    · have hz2 : reach ss < iabs z := by
        have hy := iabs_cases y; have h1 := iabs_cases (z - sg e y); have h2 := iabs_cases z
        simp only [reach] at h
        cases e <;> simp only [sg] at * <;> simp at * <;> omega
      have hs := sg_pos hz hr
      rcases farL ss P (fun s hs => ok s (List.mem_cons_of_mem _ hs)) (fun s hs => hm s (List.mem_cons_of_mem _ hs)) z hz2 with ⟨m2, o, ho2⟩ | ⟨u, f, m2, hu, ho2⟩
      · rw [hs] at m2
        refine .inl ⟨by simp [lin, m1, m2], o, fun t a b => ?_⟩
        show run (s :: ss) _ = _
        rw [run_cons]
        refine (congrArg (fun x => Option.bind x (run ss)) (ho t a b)).trans ?_
        exact ho2 (sg e t) (side_sg a hz hr) (by cases e <;> simp [sg, b])
      · rw [hs] at m2
        refine .inr ⟨u, e == f, by simp [lin, m1, m2], ?_, fun t a b => ?_⟩
        · have h1 := iabs_cases (z - sg e y); have h2 := iabs_cases (u - sg f z); have h3 := iabs_cases (u - sg (e == f) y)
          simp only [reach]
          cases e <;> cases f <;> simp only [sg] at * <;> simp at * <;> omega
        · show run (s :: ss) _ = _
          rw [run_cons]
          refine (congrArg (fun x => Option.bind x (run ss)) (ho t a b)).trans ?_
          show run ss (.int (z + sg e t)) = _
          refine (ho2 (sg e t) (side_sg a hz hr) (by cases e <;> simp [sg, b])).trans ?_
          cases e <;> cases f <;> simp [sg]
/-- the slope of a side: 1 results grow, -1 they fall, 0 they stay -/
def slp (ss : List Stp) (side : Int) : Int := match lin ss (decide (0 < side)) with
  | none => 0
  | some e => sg e side
theorem slp_none {ss : List Stp} {side : Int} (h : lin ss (decide (0 < side)) = none) : slp ss side = 0 := by unfold slp; rw [h]
theorem slp_some {ss : List Stp} {side : Int} {e : Bool} (h : lin ss (decide (0 < side)) = some e) : slp ss side = sg e side := by unfold slp; rw [h]
/-- what slope looks at -/
theorem slope_rows {ss : List Stp} (ok : ∀ s ∈ ss, s.ok) {side : Int} (hs : side = 1 ∨ side = -1) :
    (slp ss side = 0 ∧ run ss (.int (plc ss side 0)) = run ss (.int (plc ss side 0 + side * per ss))) ∨ (∃ a b, run ss (.int (plc ss side 0)) = some (.int a) ∧ run ss (.int (plc ss side 0 + side * per ss)) = some (.int b) ∧ a ≠ b ∧ slp ss side = if b > a then 1 else -1) := by
  obtain ⟨p1, p2, p3⟩ := plc_far ok hs (Int.le_refl 0)
  have hp := per_pos ok
  have dP : ∀ k : Int, per ss ∣ side * per ss * k := fun k => ⟨side * k, by rw [Int.mul_assoc, Int.mul_left_comm]⟩
  have z0 : plc ss side 0 + side * per ss * 0 = plc ss side 0 := by rw [Int.mul_zero, Int.add_zero]
  have z1 : plc ss side 0 + side * per ss * 1 = plc ss side 0 + side * per ss := by rw [Int.mul_one]
  have hb : 0 < begO ss + 0 := by have := reach_nn ss; unfold begO; omega
  have hd : decide (0 < plc ss side 0) = decide (0 < side) := by
    unfold plc
    rcases hs with rfl | rfl
    · rw [Int.one_mul]; simp only [hb, decide_true]; rfl
    · have : ¬ 0 < -1 * (begO ss + 0) := by omega
      simp only [this, decide_false]; rfl
  rcases farL ss (per ss) ok (fun s hs => per_dvd ok hs) (plc ss side 0) p1 with ⟨m, o, ho⟩ | ⟨z, e, m, hz, ho⟩
  · have a0 := ho _ (p3 0 (by decide)) (dP 0)
    have a1 := ho _ (p3 1 (by decide)) (dP 1)
    rw [z0] at a0
    rw [z1] at a1
    rw [hd] at m
    exact .inl ⟨slp_none m, a0.trans a1.symm⟩
  · have a0 := ho _ (p3 0 (by decide)) (dP 0)
    have a1 := ho _ (p3 1 (by decide)) (dP 1)
    rw [z0] at a0
    rw [z1, Int.mul_one] at a1
    rw [hd] at m
    have e0 : sg e (side * per ss * 0) = 0 := by rw [Int.mul_zero]; cases e <;> rfl
    rw [e0, Int.add_zero] at a0
    have hv : sg e (side * per ss) = sg e side * per ss := sg_mul e side (per ss)
    refine .inr ⟨z, _, a0, a1, ?_, ?_⟩
    · have := sg_ne (e := e) (show side * per ss ≠ 0 by rcases hs with rfl | rfl <;> omega)
      omega
    · rw [slp_some m]
      rw [hv]
      rcases hs with rfl | rfl <;> cases e <;> simp [sg] <;> omega
/-- the row of a far value: it begins near -/
theorem far_row {ss : List Stp} (ok : ∀ s ∈ ss, s.ok) {n : Int} (h : (look ss : Int) < iabs n) : ∃ y, iabs y ≤ look ss ∧ Side y (n - y) ∧ ((lin ss (decide (0 < y)) = none ∧ run ss (.int n) = run ss (.int y)) ∨ ∃ z e, lin ss (decide (0 < y)) = some e ∧ run ss (.int y) = some (.int z) ∧ run ss (.int n) = some (.int (z + sg e (n - y)))) := by
  have hl := look_eq ok
  have hp := per_pos ok
  have hr := reach_nn ss
  obtain ⟨y, q, h1, h2, h3, h4, h5, h6, h7, h8⟩ := row_of (R := reach ss) hp n (by omega) hr
  have yn : y + (n - y) = n := by omega
  refine ⟨y, by omega, h7, ?_⟩
  rcases farL ss (per ss) ok (fun s hs => per_dvd ok hs) y h1 with ⟨m, o, ho⟩ | ⟨z, e, m, hz, ho⟩
  · have a0 := ho 0 (side0 (by omega)) (Int.dvd_zero _)
    have an := ho _ h7 h8
    rw [Int.add_zero] at a0
    rw [yn] at an
    exact .inl ⟨m, an.trans a0.symm⟩
  · have a0 := ho 0 (side0 (by omega)) (Int.dvd_zero _)
    have an := ho _ h7 h8
    rw [Int.add_zero] at a0
    rw [yn] at an
    have e0 : sg e 0 = 0 := by cases e <;> rfl
    rw [e0, Int.add_zero] at a0
    exact .inr ⟨z, e, m, a0, an⟩
theorem slp_side {ss : List Stp} {y : Int} {e : Bool} (hy : y ≠ 0) (h : lin ss (decide (0 < y)) = some e) : slp ss (if 0 < y then 1 else -1) = sg e (if 0 < y then 1 else -1) := by
  refine slp_some ?_
  by_cases q : 0 < y
  · rw [if_pos q]; rw [show decide (0 < y) = true from decide_eq_true q] at h; exact h
  · rw [if_neg q]; rw [show decide (0 < y) = false from decide_eq_false q] at h; exact h
theorem num_near {ss : List Stp} (ok : ∀ s ∈ ss, s.ok) {x : Val} {m : Int} (h : run ss x = some (.int m)) : ∃ x' m', x'.size ≤ (look ss : Int) ∧ run ss x' = some (.int m') ∧ ((slp ss 1 ≠ -1 → slp ss (-1) ≠ -1 → m' ≤ m) ∧ (slp ss 1 ≠ 1 → slp ss (-1) ≠ 1 → m ≤ m')) := by
  by_cases hx : x.size ≤ (look ss : Int)
  · exact ⟨x, m, hx, h, fun _ _ => Int.le_refl _, fun _ _ => Int.le_refl _⟩
  · cases x with
    | int n =>
      obtain ⟨y, hy, hs, ⟨m1, e1⟩ | ⟨z, e, m1, e1, e2⟩⟩ := far_row ok (n := n) (by simp only [Val.size] at hx; omega)
      · exact ⟨.int y, m, hy, by rw [← e1, h], fun _ _ => Int.le_refl _, fun _ _ => Int.le_refl _⟩
      · rw [h] at e2
        have e3 := Val.int.inj (Option.some.inj e2)
        have hp := slp_side (by rcases hs with hs | hs <;> omega) m1
        refine ⟨.int y, z, hy, e1, fun a b => ?_, fun a b => ?_⟩
        · rw [e3]
          rcases hs with hs | hs
          · rw [if_pos hs.1] at hp; cases e <;> simp [sg] at hp ⊢ <;> omega
          · rw [if_neg (by omega)] at hp; cases e <;> simp [sg] at hp ⊢ <;> omega
        · rw [e3]
          rcases hs with hs | hs
          · rw [if_pos hs.1] at hp; cases e <;> simp [sg] at hp ⊢ <;> omega
          · rw [if_neg (by omega)] at hp; cases e <;> simp [sg] at hp ⊢ <;> omega
    | _ => exact absurd (show (0 : Int) ≤ _ by exact Int.natCast_nonneg _) hx
/-- great values of a side with a slope have great results -/
theorem far_res {ss : List Stp} (ok : ∀ s ∈ ss, s.ok) {side a : Int} (hs : side = 1 ∨ side = -1) (h0 : slp ss side ≠ 0) (ha : reach ss < a) : ∃ m, run ss (.int (side * a)) = some (.int m) ∧ iabs (m - slp ss side * a) ≤ reach ss := by
  have hr := reach_nn ss
  have hc := iabs_cases (side * a)
  have h1 : iabs (side * a) = a := by rcases hs with rfl | rfl <;> omega
  have hd : decide (0 < side * a) = decide (0 < side) := by
    rcases hs with rfl | rfl
    · rw [Int.one_mul]; simp; omega
    · simp; omega
  rcases farL ss (per ss) ok (fun s hs => per_dvd ok hs) (side * a) (by omega) with ⟨m, o, ho⟩ | ⟨z, e, m, hz, ho⟩
  · rw [hd] at m
    exact absurd (slp_none m) h0
  · have a0 := ho 0 (side0 (by omega)) (Int.dvd_zero _)
    have e0 : sg e 0 = 0 := by cases e <;> rfl
    rw [e0, Int.add_zero, Int.add_zero] at a0
    rw [hd] at m
    refine ⟨z, a0, ?_⟩
    rw [slp_some m]
    have : sg e (side * a) = sg e side * a := sg_mul e side a
    rw [← this]
    exact hz
theorem num_size {s : Stp} (ok : s.ok) {n : Int} {y : Val} (h : ofNum s n = some y) : y.size ≤ iabs n + s.reach := by
  have hn := iabs_cases n
  have hr := sreach_nn s
  cases s with
  | clamp a b =>
    cases h
    have ha := iabs_cases a; have hb := iabs_cases b; have hc := iabs_cases (min (max n a) b)
    simp only [Val.size, Stp.reach] at *; omega
  | least a =>
    cases h
    have ha := iabs_cases a; have hc := iabs_cases (max n a)
    simp only [Val.size, Stp.reach] at *; omega
  | most a =>
    cases h
    have ha := iabs_cases a; have hc := iabs_cases (min n a)
    simp only [Val.size, Stp.reach] at *; omega
  | round m w =>
    cases h
    have hm := okM_pos' ok
    have h1 := rounded_near (n := n) (w := w) hm
    have h2 := iabs_cases (rounded n m w - n); have h3 := iabs_cases (rounded n m w); have h4 := iabs_cases m
    simp only [Val.size, Stp.reach] at *; omega
  | shift d =>
    cases h
    have ha := iabs_cases d; have hc := iabs_cases (n + d)
    simp only [Val.size, Stp.reach] at *; omega
  | fold m =>
    cases h
    have hm := okM_pos' ok
    have h0 := Int.emod_nonneg n (Int.ne_of_gt hm)
    have h1 := Int.emod_lt_of_pos n hm
    have ha := iabs_cases m; have hc := iabs_cases (n % m)
    simp only [Val.size, Stp.reach] at *; omega
  | mirror =>
    cases h
    have hc := iabs_cases (if n < 0 then -n else n)
    simp only [Val.size, Stp.reach] at *
    split at hc <;> split <;> omega
  | turn =>
    cases h
    have hc := iabs_cases (-n)
    simp only [Val.size, Stp.reach] at *; omega
  | blank a b =>
    have h := (Option.some.inj h).symm
    subst h
    by_cases q : a ≤ n ∧ n ≤ b
    · rw [if_pos q]; simp only [Val.size] at *; omega
    · rw [if_neg q]; simp only [Val.size] at *; omega
  | refuse a b =>
    have h : (if a ≤ n ∧ n ≤ b then some (Val.int n) else none) = some y := h
    by_cases q : a ≤ n ∧ n ≤ b
    · rw [if_pos q] at h; cases h; simp only [Val.size] at *; omega
    · rw [if_neg q] at h; cases h
  | _ => cases h; simp only [Val.size] at *; omega
theorem step_size {s : Stp} (ok : s.ok) {x y : Val} (h : step1 s x = some y) : y.size ≤ x.size + s.reach := by
  have hr := sreach_nn s
  have hx := size_nn x
  cases s with
  | fill v =>
    have h := (Option.some.inj h).symm
    subst h
    by_cases q : x = .non
    · rw [if_pos q]; simp only [Stp.reach] at *; omega
    · rw [if_neg q]; omega
  | replace v w =>
    have h := (Option.some.inj h).symm
    subst h
    have h1 := size_nn v; have h2 := size_nn w
    by_cases q : x = v
    · rw [if_pos q]; simp only [Stp.reach] at *; omega
    · rw [if_neg q]; omega
  | void k =>
    have h := (Option.some.inj h).symm
    subst h
    by_cases q : x.kind = k
    · rw [if_pos q]; simp only [Val.size, Stp.reach] at *; omega
    · rw [if_neg q]; omega
  | bar k =>
    have h : (if x.kind = k then none else some x) = some y := h
    by_cases q : x.kind = k
    · rw [if_pos q] at h; cases h
    · rw [if_neg q] at h; cases h; omega
  | _ =>
    cases x with
    | int n => exact num_size ok h
    | _ => (first | (cases h; simp only [Val.size, Stp.reach] at *; omega) | (cases h; omega))
theorem run_size : ∀ {ss : List Stp}, (∀ s ∈ ss, s.ok) → ∀ {x y : Val}, run ss x = some y → y.size ≤ x.size + reach ss
  | [], _, x, y, h => by
    have : x = y := Option.some.inj h
    rw [this]
    show _ ≤ y.size + 0
    omega
  | s :: ss, ok, x, y, h => by
    rw [run_cons] at h
    cases e : step1 s x with
    | none => rw [e] at h; cases h
    | some z =>
      rw [e] at h
      have h1 := step_size (ok _ List.mem_cons_self) e
      have h2 := run_size (fun s hs => ok s (List.mem_cons_of_mem _ hs)) (show run ss z = some y from h)
      show _ ≤ _ + (s.reach + reach ss)
      omega
end TW

set_option maxHeartbeats 4000000
/-! walks: the machine, states, promises -/
namespace TW
inductive Fate where
  | rests (v : Val) (n : Int)
  | turns (n : Int)
  | runs
  | refused (n : Int)
  deriving DecidableEq
abbrev Mark := Bool × Int
structure WSt where
  v : Val
  n : Int
  seen : List (Val × Int)
  marks : List (Mark × Int × Int)
def lookE {κ β : Type} [DecidableEq κ] (l : List (κ × β)) (k : κ) : Option β := (l.find? fun p => decide (p.1 = k)).map (·.2)
def isFar (ss : List Stp) : Val → Bool
  | .int i => decide (iabs i > begO ss)
  | _ => false
def markOf (ss : List Stp) (i : Int) : Mark := (decide (i > 0), i % per ss)
def jumpTo (i many nearer : Int) : Int := if i > 0 then i - many * nearer else i + many * nearer
/-- looking far: whether it runs, and the state behind -/
def lookFar (ss : List Stp) (st : WSt) (i : Int) : Bool × WSt :=
  match lookE st.marks (markOf ss i) with
  | none => (false, { st with marks := st.marks ++ [(markOf ss i, iabs i, st.n)] })
  | some (size, time) =>
    if iabs i > size then (true, st) else
    if size - iabs i > 0 ∧ iabs i - (begO ss + (st.n - time + 1) * begO ss) > size - iabs i then
      (false, ⟨.int (jumpTo i (Int.fdiv (iabs i - (begO ss + (st.n - time + 1) * begO ss)) (size - iabs i)) (size - iabs i)), st.n + Int.fdiv (iabs i - (begO ss + (st.n - time + 1) * begO ss)) (size - iabs i) * (st.n - time), [], []⟩)
    else (false, { st with marks := [] })
def looked (ss : List Stp) (st : WSt) : Bool × WSt :=
  match st.v with
  | .int i => if iabs i > begO ss then lookFar ss st i else (false, { st with marks := [] })
  | _ => (false, { st with marks := [] })
/-- a round of the walk -/
def wnext (ss : List Stp) (st : WSt) : Fate ⊕ WSt :=
  match lookE st.seen st.v with
  | some first => .inl (if st.n - first = 1 then .rests st.v first else .turns first)
  | none =>
    if (looked ss st).1 = true then .inl .runs else
    match run ss (looked ss st).2.v with
    | none => .inl (.refused (looked ss st).2.n)
    | some v' => .inr ⟨v', (looked ss st).2.n + 1, (looked ss st).2.seen ++ [((looked ss st).2.v, (looked ss st).2.n)], (looked ss st).2.marks⟩
def wrun (ss : List Stp) : Nat → WSt → Option Fate
  | 0, _ => none
  | k + 1, st => match wnext ss st with
    | .inl f => some f
    | .inr st' => wrun ss k st'
def st0 (v : Val) : WSt := ⟨v, 0, [], []⟩
/-- what a walk holds: the marks are of the last cnt rounds and not far off -/
structure WInv (ss : List Stp) (cnt : Nat) (st : WSt) : Prop where
  seen : st.seen.length ≤ cnt
  marks : st.marks.length ≤ cnt
  time : ∀ m ∈ st.marks, 0 ≤ st.n - m.2.2 ∧ st.n - m.2.2 ≤ cnt
  size : ∀ i : Int, st.v = .int i → iabs i > begO ss → ∀ m ∈ st.marks, iabs (m.2.1 - iabs i) ≤ (st.n - m.2.2) * reach ss
theorem winv0 (ss : List Stp) (v : Val) : WInv ss 0 (st0 v) := ⟨Nat.le_refl _, Nat.le_refl _, fun _ h => (nomatch h), fun _ _ _ _ h => (nomatch h)⟩
theorem const1 {s : Stp} (ok : s.ok) {y : Int} {x : Val} (h : s.reach < iabs y) (m : s.lin (decide (0 < y)) = none) (e : step1 s (.int y) = some x) : x.size ≤ s.reach := by
  have hy := iabs_cases y
  have hr := sreach_nn s
  cases s with
  | clamp a b =>
    cases e
    have ha := iabs_cases a; have hb := iabs_cases b; have hc := iabs_cases (min (max y a) b)
    have hab : a ≤ b := ok.2.2
    simp only [Val.size, Stp.reach] at *; omega
  | least a =>
    have hn : ¬ 0 < y := fun q => by simp [Stp.lin, q] at m
    cases e
    have ha := iabs_cases a; have hc := iabs_cases (max y a)
    simp only [Val.size, Stp.reach] at *; omega
  | most a =>
    have hn : 0 < y := by
      by_cases q : 0 < y
      · exact q
      · simp [Stp.lin, q] at m
    cases e
    have ha := iabs_cases a; have hc := iabs_cases (min y a)
    simp only [Val.size, Stp.reach] at *; omega
  | fold k =>
    cases e
    have hm := okM_pos' ok
    have h0 := Int.emod_nonneg y (Int.ne_of_gt hm)
    have h1 := Int.emod_lt_of_pos y hm
    have ha := iabs_cases k; have hc := iabs_cases (y % k)
    simp only [Val.size, Stp.reach] at *; omega
  | blank a b =>
    have e := (Option.some.inj e).symm
    subst e
    have ha := iabs_cases a; have hb := iabs_cases b
    simp only [Stp.reach] at h
    rw [if_neg (by omega)]
    exact hr
  | refuse a b =>
    have e : (if a ≤ y ∧ y ≤ b then some (Val.int y) else none) = some x := e
    have ha := iabs_cases a; have hb := iabs_cases b
    simp only [Stp.reach] at h
    rw [if_neg (by omega)] at e
    cases e
  | void k =>
    cases k with
    | number => cases e; exact hr
    | _ => cases m
  | bar k =>
    cases k with
    | number => cases e
    | _ => cases m
  | round k w => cases m
  | shift d => cases m
  | mirror => cases m
  | turn => cases m
  | fill v => cases m
  | replace v w => cases m
theorem const_size : ∀ {ss : List Stp} {y : Int} {x : Val}, (∀ s ∈ ss, s.ok) → reach ss < iabs y → lin ss (decide (0 < y)) = none → run ss (.int y) = some x → x.size ≤ reach ss
  | [], y, x, _, _, m, _ => by cases m
  | s :: ss, y, x, ok, h, m, e => by
    have hr : s.reach < iabs y := by have := reach_nn ss; simp only [reach] at h; omega
    have ok1 := ok s List.mem_cons_self
    have ok2 : ∀ s ∈ ss, s.ok := fun s hs => ok s (List.mem_cons_of_mem _ hs)
    rw [run_cons] at e
    cases e1 : step1 s (.int y) with
    | none => rw [e1] at e; cases e
    | some z =>
      rw [e1] at e
      have e : run ss z = some x := e
      rcases lin1 s ok1 y s.mod (Int.dvd_refl _) hr with ⟨m1, _⟩ | ⟨u, f, m1, hz, ho⟩
      · have a := const1 ok1 hr m1 e1
        have b := run_size ok2 e
        show _ ≤ s.reach + reach ss
        omega
      · have a0 := ho 0 (side0 (by have := sreach_nn s; omega)) (Int.dvd_zero _)
        have e0 : sg f 0 = 0 := by cases f <;> rfl
        rw [Int.add_zero, e0, Int.add_zero] at a0
        have a0 : step1 s (.int y) = some (.int u) := a0
        rw [e1] at a0
        have hu := Option.some.inj a0
        subst hu
        have hs := sg_pos hz hr
        have hz2 : reach ss < iabs u := by
          have hy := iabs_cases y; have h1 := iabs_cases (u - sg f y); have h2 := iabs_cases u
          simp only [reach] at h
          cases f <;> simp only [sg] at * <;> simp at * <;> omega
        have m2 : lin ss (decide (0 < u)) = none := by
          rw [hs]
          simp only [lin, m1, Option.bind_some] at m
          cases q : lin ss (f == decide (0 < y)) with
          | none => rfl
          | some g => rw [q] at m; cases m
        have a := const_size ok2 hz2 m2 e
        have := sreach_nn s
        show _ ≤ s.reach + reach ss
        omega
/-- one step from far to far changes the size by the reach at most -/
theorem far_near {ss : List Stp} (ok : ∀ s ∈ ss, s.ok) {i j : Int} (hi : iabs i > begO ss) (hj : iabs j > begO ss) (h : run ss (.int i) = some (.int j)) : iabs (iabs j - iabs i) ≤ reach ss := by
  have hp := per_pos ok
  have hr := reach_nn ss
  have hR : reach ss < iabs i := by unfold begO at hi; omega
  rcases farL ss (per ss) ok (fun s hs => per_dvd ok hs) i hR with ⟨m, _⟩ | ⟨z, e, m, hz, ho⟩
  · have := const_size ok hR m h
    simp only [Val.size] at this
    unfold begO at hj
    omega
  · have a0 := ho 0 (side0 (by omega)) (Int.dvd_zero _)
    have e0 : sg e 0 = 0 := by cases e <;> rfl
    rw [Int.add_zero, e0, Int.add_zero] at a0
    have a0 : run ss (.int i) = some (.int z) := a0
    rw [h] at a0
    have hjz := Val.int.inj (Option.some.inj a0)
    subst hjz
    have c1 := iabs_cases i; have c2 := iabs_cases j; have c3 := iabs_cases (j - sg e i); have c4 := iabs_cases (iabs j - iabs i)
    cases e <;> simp only [sg] at * <;> simp at * <;> omega
theorem look_cases (ss : List Stp) (st : WSt) : (∃ i, st.v = .int i ∧ iabs i > begO ss ∧ looked ss st = lookFar ss st i) ∨ ((∀ i, st.v = .int i → ¬ iabs i > begO ss) ∧ looked ss st = (false, { st with marks := [] })) := by
  unfold looked
  cases e : st.v with
  | int i =>
    by_cases q : iabs i > begO ss
    · exact .inl ⟨i, rfl, q, by dsimp only; rw [if_pos q]⟩
    · exact .inr ⟨fun j hj => by cases hj; exact q, by dsimp only; rw [if_neg q]⟩
  | _ => exact .inr ⟨fun j hj => (nomatch hj), rfl⟩
theorem lookE_mem {κ β : Type} [DecidableEq κ] {l : List (κ × β)} {k : κ} {b : β} (h : lookE l k = some b) : (k, b) ∈ l := by
  obtain ⟨p, h1, h2⟩ := Option.map_eq_some_iff.mp h
  have h3 := List.find?_some h1
  have h3 : p.1 = k := of_decide_eq_true h3
  have h4 := List.mem_of_find?_eq_some h1
  obtain ⟨a, c⟩ := p
  cases h2
  cases h3
  exact h4
/-- the three ways of a look far -/
theorem look_ways {ss : List Stp} {st : WSt} {i : Int} (hv : st.v = .int i) : (lookE st.marks (markOf ss i) = none ∧ lookFar ss st i = (false, { st with marks := st.marks ++ [(markOf ss i, iabs i, st.n)] })) ∨
    ∃ size time, (markOf ss i, size, time) ∈ st.marks ∧ lookE st.marks (markOf ss i) = some (size, time) ∧ (lookFar ss st i = (true, st) ∨ lookFar ss st i = (false, { st with marks := [] }) ∨ ∃ v' n', lookFar ss st i = (false, ⟨v', n', [], []⟩)) := by
  unfold lookFar
  cases e : lookE st.marks (markOf ss i) with
  | none => exact .inl ⟨rfl, rfl⟩
  | some p =>
    obtain ⟨size, time⟩ := p
    refine .inr ⟨size, time, lookE_mem e, rfl, ?_⟩
    dsimp only
    by_cases q : iabs i > size
    · rw [if_pos q]; exact .inl rfl
    · rw [if_neg q]
      split
      · exact .inr (.inr ⟨_, _, rfl⟩)
      · exact .inr (.inl rfl)
theorem look_fresh {ss : List Stp} {st : WSt} (h : lookE st.seen st.v = none) : lookE (looked ss st).2.seen (looked ss st).2.v = none := by
  rcases look_cases ss st with ⟨i, hv, hi, el⟩ | ⟨hno, el⟩
  · rcases look_ways (ss := ss) hv with ⟨e3, e4⟩ | ⟨size, time, hm, e3, e4 | e4 | ⟨v2, n2, e4⟩⟩ <;> rw [el, e4]
    · exact h
    · exact h
    · exact h
    · rfl
  · rw [el]; exact h
theorem look_len {ss : List Stp} {st : WSt} : (looked ss st).2.seen.length ≤ st.seen.length := by
  rcases look_cases ss st with ⟨i, hv, hi, el⟩ | ⟨hno, el⟩
  · rcases look_ways (ss := ss) hv with ⟨e3, e4⟩ | ⟨size, time, hm, e3, e4 | e4 | ⟨v2, n2, e4⟩⟩ <;> rw [el, e4]
    · exact Nat.le_refl _
    · exact Nat.le_refl _
    · exact Nat.le_refl _
    · exact Nat.zero_le _
  · rw [el]; exact Nat.le_refl _
theorem winv_next {ss : List Stp} (ok : ∀ s ∈ ss, s.ok) {cnt : Nat} {st st' : WSt} (I : WInv ss cnt st) (h : wnext ss st = .inr st') : WInv ss (cnt + 1) st' := by
  have hr := reach_nn ss
  unfold wnext at h
  cases e1 : lookE st.seen st.v with
  | some f => rw [e1] at h; cases h
  | none =>
    rw [e1] at h
    dsimp only at h
    split at h
    · cases h
    · rename_i hnr
      cases e2 : run ss (looked ss st).2.v with
      | none => rw [e2] at h; cases h
      | some v' =>
        rw [e2] at h
        have h := (Sum.inr.inj h).symm
        subst h
        have base : ∀ lk : WSt, lk.seen.length ≤ cnt → lk.marks = [] → WInv ss (cnt + 1) ⟨v', lk.n + 1, lk.seen ++ [(lk.v, lk.n)], lk.marks⟩ := fun lk a b =>
          ⟨by show (lk.seen ++ _).length ≤ _; rw [List.length_append]; exact Nat.add_le_add_right a 1, by show lk.marks.length ≤ _; rw [b]; exact Nat.zero_le _, (fun m hm => by have hm : m ∈ lk.marks := hm; rw [b] at hm; cases hm), (fun i _ _ m hm => by have hm : m ∈ lk.marks := hm; rw [b] at hm; cases hm)⟩
        rcases look_cases ss st with ⟨i, hv, hi, el⟩ | ⟨hno, el⟩
        · rcases look_ways (ss := ss) hv with ⟨e3, e4⟩ | ⟨size, time, hm, e3, e4 | e4 | ⟨v2, n2, e4⟩⟩
          · rw [el, e4] at e2 ⊢
            dsimp only at e2 ⊢
            rw [hv] at e2
            refine ⟨by show (st.seen ++ _).length ≤ _; rw [List.length_append]; exact Nat.add_le_add_right I.seen 1, by show (st.marks ++ _).length ≤ _; rw [List.length_append]; exact Nat.add_le_add_right I.marks 1, fun m hm => ?_, fun j hj hfar m hm => ?_⟩
            · rcases List.mem_append.mp hm with q | q
              · have := I.time m q
                show 0 ≤ st.n + 1 - m.2.2 ∧ st.n + 1 - m.2.2 ≤ ((cnt + 1 : Nat) : Int)
                omega
              · have := List.mem_singleton.mp q
                subst this
                show 0 ≤ st.n + 1 - st.n ∧ st.n + 1 - st.n ≤ ((cnt + 1 : Nat) : Int)
                omega
            · have hj : v' = .int j := hj
              subst hj
              have hn := far_near ok hi hfar e2
              have c1 := iabs_cases (iabs j - iabs i); have c2 := iabs_cases (m.2.1 - iabs j)
              show iabs (m.2.1 - iabs j) ≤ (st.n + 1 - m.2.2) * reach ss
              rcases List.mem_append.mp hm with q | q
              · have h5 := I.size i hv hi m q
                have c3 := iabs_cases (m.2.1 - iabs i)
                have : (st.n + 1 - m.2.2) * reach ss = (st.n - m.2.2) * reach ss + reach ss := by
                  rw [show st.n + 1 - m.2.2 = (st.n - m.2.2) + 1 by omega, Int.add_mul, Int.one_mul]
                omega
              · have := List.mem_singleton.mp q
                subst this
                dsimp only at c2 ⊢
                rw [show st.n + 1 - st.n = 1 by omega, Int.one_mul]
                omega
          · exact absurd (by rw [el, e4]) hnr
          · rw [el, e4]
            exact base { st with marks := [] } I.seen rfl
          · rw [el, e4]
            exact base ⟨v2, n2, [], []⟩ (Nat.zero_le _) rfl
        · rw [el]
          exact base { st with marks := [] } I.seen rfl
end TW

set_option maxHeartbeats 4000000
/-! min and max of a list of numbers -/
namespace TB
open PySem PySem.Spec PyProof.Rows L2 TW LamX NdefX
theorem w_minI {K : PySem.W.Frag} {H : Hp} {Q : VK} {l : Addr} {ns : List Int} (h : SqL K H l (ns.map V.int)) (hne : ns ≠ []) (q : ∀ M, M ∈ ns → (∀ a ∈ ns, M ≤ a) → Q (.int M) H) : rMin K [.ref l] H Q := ⟨l, ns, rfl, h, List.length_pos_iff.mpr hne, q⟩
theorem w_maxI {K : PySem.W.Frag} {H : Hp} {Q : VK} {l : Addr} {ns : List Int} (h : SqL K H l (ns.map V.int)) (hne : ns ≠ []) (q : ∀ M, M ∈ ns → (∀ a ∈ ns, a ≤ M) → Q (.int M) H) : rMax K [.ref l] H Q := ⟨l, ns, rfl, h, List.length_pos_iff.mpr hne, q⟩
/-! ### what comes out -/
def Val.num : Val → Option Int
  | .int i => some i
  | _ => none
/-- the results of some values -/
def outsOf (ss : List Stp) (L : List Val) : List Val := L.filterMap (TW.run ss)
def numsOf' (L : List Val) : List Int := L.filterMap Val.num
theorem mem_nums {L : List Val} {i : Int} : i ∈ numsOf' L ↔ Val.int i ∈ L := by
  unfold numsOf'
  rw [List.mem_filterMap]
  constructor
  · rintro ⟨v, h, e⟩
    cases v with
    | int j => rw [← Option.some.inj e]; exact h
    | _ => cases e
  · exact fun h => ⟨_, h, rfl⟩
theorem mem_outs {ss : List Stp} {L : List Val} {v : Val} : v ∈ outsOf ss L ↔ ∃ x ∈ L, TW.run ss x = some v := by
  unfold outsOf
  rw [List.mem_filterMap]
def nearL (ss : List Stp) : List Val := vals (look ss)
/-- no least, no greatest -/
def noLow (ss : List Stp) : Bool := decide (slp ss 1 = -1 ∨ slp ss (-1) = -1)
def noHigh (ss : List Stp) : Bool := decide (slp ss 1 = 1 ∨ slp ss (-1) = 1)
/-- the values that the law looks at: all near ones and the great ones -/
structure Seen (ss : List Stp) (L : List Val) : Prop where
  near : ∀ v : Val, v.size ≤ 400 → v ∈ L
  up : Val.int 1000000000 ∈ L
  down : Val.int (-1000000000) ∈ L
section
variable {ss : List Stp} {L : List Val} (ok : ∀ s ∈ ss, s.ok) (hl : (look ss : Int) ≤ 400) (S : Seen ss L)
include ok hl S
theorem near_in {v : Val} (h : v ∈ outsOf ss (nearL ss)) : v ∈ outsOf ss L := by
  obtain ⟨x, hx, e⟩ := mem_outs.mp h
  have := mem_vals.mp hx
  exact mem_outs.mpr ⟨x, S.near x (by omega), e⟩
/-- words and None come out of near values, if at all -/
theorem words_same {v : Val} (hv : ∀ n, v ≠ .int n) : v ∈ outsOf ss (nearL ss) ↔ v ∈ outsOf ss L := by
  refine ⟨near_in ok hl S, fun h => ?_⟩
  obtain ⟨x, hx, e⟩ := mem_outs.mp h
  by_cases q : v ∈ outsOf ss (nearL ss)
  · exact q
  · exact absurd e (near_word ok hv (fun x hx e => q (mem_outs.mpr ⟨x, mem_vals.mpr hx, e⟩)) x)
theorem nums_same : numsOf' (outsOf ss (nearL ss)) = [] ↔ numsOf' (outsOf ss L) = [] := by
  constructor
  · intro h
    refine List.eq_nil_iff_forall_not_mem.mpr fun i hi => ?_
    obtain ⟨x, hx, e⟩ := mem_outs.mp (mem_nums.mp hi)
    obtain ⟨x', m', h1, h2, _⟩ := num_near ok e
    have : m' ∈ numsOf' (outsOf ss (nearL ss)) := mem_nums.mpr (mem_outs.mpr ⟨x', mem_vals.mpr h1, h2⟩)
    rw [h] at this
    cases this
  · intro h
    refine List.eq_nil_iff_forall_not_mem.mpr fun i hi => ?_
    have := mem_nums.mpr (near_in ok hl S (mem_nums.mp hi))
    rw [h] at this
    cases this
theorem low_all (h : noLow ss = false) {M : Int} (hM : ∀ a ∈ numsOf' (outsOf ss (nearL ss)), M ≤ a) {x : Val} {i : Int} (e : TW.run ss x = some (.int i)) : M ≤ i := by
  have h := of_decide_eq_false h
  obtain ⟨x', m', h1, h2, h3, _⟩ := num_near ok e
  have a := hM m' (mem_nums.mpr (mem_outs.mpr ⟨x', mem_vals.mpr h1, h2⟩))
  have b := h3 (fun q => h (.inl q)) (fun q => h (.inr q))
  omega
theorem high_all (h : noHigh ss = false) {M : Int} (hM : ∀ a ∈ numsOf' (outsOf ss (nearL ss)), a ≤ M) {x : Val} {i : Int} (e : TW.run ss x = some (.int i)) : i ≤ M := by
  have h := of_decide_eq_false h
  obtain ⟨x', m', h1, h2, _, h3⟩ := num_near ok e
  have a := hM m' (mem_nums.mpr (mem_outs.mpr ⟨x', mem_vals.mpr h1, h2⟩))
  have b := h3 (fun q => h (.inl q)) (fun q => h (.inr q))
  omega
theorem lowB_eq (h : noLow ss = false) {M N : Int} (hM0 : M ∈ numsOf' (outsOf ss (nearL ss))) (hM : ∀ a ∈ numsOf' (outsOf ss (nearL ss)), M ≤ a) (hN0 : N ∈ numsOf' (outsOf ss L)) (hN : ∀ a ∈ numsOf' (outsOf ss L), N ≤ a) : M = N := by
  have a := hN M (mem_nums.mpr (near_in ok hl S (mem_nums.mp hM0)))
  obtain ⟨x, hx, e⟩ := mem_outs.mp (mem_nums.mp hN0)
  have b := low_all ok hl S h hM e
  omega
theorem highB_eq (h : noHigh ss = false) {M N : Int} (hM0 : M ∈ numsOf' (outsOf ss (nearL ss))) (hM : ∀ a ∈ numsOf' (outsOf ss (nearL ss)), a ≤ M) (hN0 : N ∈ numsOf' (outsOf ss L)) (hN : ∀ a ∈ numsOf' (outsOf ss L), a ≤ N) : M = N := by
  have a := hN M (mem_nums.mpr (near_in ok hl S (mem_nums.mp hM0)))
  obtain ⟨x, hx, e⟩ := mem_outs.mp (mem_nums.mp hN0)
  have b := high_all ok hl S h hM e
  omega
theorem near_size {i : Int} (h : i ∈ numsOf' (outsOf ss (nearL ss))) : iabs i ≤ 800 := by
  obtain ⟨x, hx, e⟩ := mem_outs.mp (mem_nums.mp h)
  have h1 := run_size ok e
  have h2 := mem_vals.mp hx
  have h3 := look_eq ok
  have h4 := per_pos ok
  simp only [Val.size] at h1 h2
  omega
theorem low_far {N : Int} (hN0 : N ∈ numsOf' (outsOf ss L)) (hN : ∀ a ∈ numsOf' (outsOf ss L), N ≤ a) : noLow ss = decide (N < -1000000) := by
  have h3 := look_eq ok
  have h4 := per_pos ok
  cases h : noLow ss with
  | true =>
    have hr := reach_nn ss
    refine (decide_eq_true ?_).symm
    have key : ∀ side : Int, (side = 1 ∨ side = -1) → slp ss side = -1 → Val.int (side * 1000000000) ∈ L → N < -1000000 := fun side hs e hm => by
      obtain ⟨m, e1, e2⟩ := far_res ok (a := 1000000000) hs (by omega) (by omega)
      have := hN m (mem_nums.mpr (mem_outs.mpr ⟨_, hm, e1⟩))
      have := iabs_cases (m - slp ss side * 1000000000)
      rw [e] at this e2
      omega
    rcases of_decide_eq_true h with q | q
    · exact key 1 (.inl rfl) q S.up
    · exact key (-1) (.inr rfl) q S.down
  | false =>
    refine (decide_eq_false ?_).symm
    obtain ⟨x, hx, e⟩ := mem_outs.mp (mem_nums.mp hN0)
    have h := of_decide_eq_false h
    obtain ⟨x', m', h1, h2, h5, _⟩ := num_near ok e
    have b := h5 (fun q => h (.inl q)) (fun q => h (.inr q))
    have c := near_size ok hl S (mem_nums.mpr (mem_outs.mpr ⟨x', mem_vals.mpr h1, h2⟩))
    have d := iabs_cases m'
    omega
theorem high_far {N : Int} (hN0 : N ∈ numsOf' (outsOf ss L)) (hN : ∀ a ∈ numsOf' (outsOf ss L), a ≤ N) : noHigh ss = decide (N > 1000000) := by
  have h3 := look_eq ok
  have h4 := per_pos ok
  cases h : noHigh ss with
  | true =>
    have hr := reach_nn ss
    refine (decide_eq_true ?_).symm
    have key : ∀ side : Int, (side = 1 ∨ side = -1) → slp ss side = 1 → Val.int (side * 1000000000) ∈ L → N > 1000000 := fun side hs e hm => by
      obtain ⟨m, e1, e2⟩ := far_res ok (a := 1000000000) hs (by omega) (by omega)
      have := hN m (mem_nums.mpr (mem_outs.mpr ⟨_, hm, e1⟩))
      have := iabs_cases (m - slp ss side * 1000000000)
      rw [e] at this e2
      omega
    rcases of_decide_eq_true h with q | q
    · exact key 1 (.inl rfl) q S.up
    · exact key (-1) (.inr rfl) q S.down
  | false =>
    refine (decide_eq_false ?_).symm
    obtain ⟨x, hx, e⟩ := mem_outs.mp (mem_nums.mp hN0)
    have h := of_decide_eq_false h
    obtain ⟨x', m', h1, h2, _, h5⟩ := num_near ok e
    have b := h5 (fun q => h (.inl q)) (fun q => h (.inr q))
    have c := near_size ok hl S (mem_nums.mpr (mem_outs.mpr ⟨x', mem_vals.mpr h1, h2⟩))
    have d := iabs_cases m'
    omega
end
theorem look_law {ss : List Stp} (h : ∀ s ∈ ss, Stp.law s) (hn : ss.length ≤ 4) : (look ss : Int) ≤ 400 := by
  have ok : ∀ s ∈ ss, s.ok := fun s hs => law_ok (h s hs)
  have h1 := look_eq ok
  have h2 := per_le ok
  have key : ∀ s : Stp, s.law → s.reach ≤ 40 := fun s hs => by
    cases s with
    | replace v w =>
      obtain ⟨h1, h2⟩ := hs
      have a : ∀ v : Val, lawV v → v.size ≤ 8 := fun v hv => by
        cases v with
        | int i => have := iabs_cases i; simp only [lawV, lawI, Val.size] at *; omega
        | _ => simp only [Val.size] at *; omega
      have := a v h1; have := a w h2
      simp only [Stp.reach]; omega
    | fill v => rcases hs with rfl | rfl | rfl | rfl | rfl <;> decide
    | clamp a b => have := iabs_cases a; have := iabs_cases b; simp only [Stp.law, lawR, Stp.reach] at *; omega
    | blank a b => have := iabs_cases a; have := iabs_cases b; simp only [Stp.law, lawR, Stp.reach] at *; omega
    | refuse a b => have := iabs_cases a; have := iabs_cases b; simp only [Stp.law, lawR, Stp.reach] at *; omega
    | least a => have := iabs_cases a; simp only [Stp.law, Stp.reach] at *; omega
    | most a => have := iabs_cases a; simp only [Stp.law, Stp.reach] at *; omega
    | round m w => have := iabs_cases m; simp only [Stp.law, Stp.reach] at *; omega
    | shift m => have := iabs_cases m; simp only [Stp.law, Stp.reach] at *; omega
    | fold m => have := iabs_cases m; simp only [Stp.law, Stp.reach] at *; omega
    | _ => simp only [Stp.reach]; omega
  have : ∀ ss : List Stp, (∀ s ∈ ss, Stp.law s) → reach ss ≤ 40 * ss.length := by
    intro ss
    induction ss with
    | nil => intro _; exact Int.le_refl _
    | cons s ss ih =>
      intro h
      have a := ih fun s hs => h s (List.mem_cons_of_mem _ hs)
      have b := key s (h s List.mem_cons_self)
      show s.reach + reach ss ≤ _
      rw [List.length_cons]
      omega
  have := this ss h
  omega
end TB

set_option maxHeartbeats 4000000
/-! sorted(ints, key=def) -/
namespace TB
open PySem PySem.Spec PyProof.Rows L2 TW LamX NdefX PySem.W
section
variable {X : Cx} {pins : List (Addr × Obj)} {σ : L2.St} {H : Hp} {s : Shared} {h' : Heap}
/-- several records of ours have turned, one of them is tracked from now on -/
theorem turnedOld {t' : Nat} {ch : List Addr} {T : Addr} {ob : HO} (I : Inv X pins σ H s) (k : ∀ b o, b ∉ ch → s.heap.get? b = some o → h'.get? b = some o) (hf : ∀ b ∈ ch, FpOk X pins H b) (hT : T ∈ ch)
    (new : ObjOk X.prog X.w (upd H T ob) h' T ob) : Inv X pins σ (upd H T ob) { s with heap := h', toks := t' } := by
  have hn : H T = none := (hf T hT).1
  have nit : ∀ b u, H b = some u → b ∉ ch := fun b u e z => by
    have q := (hf b z).1
    rw [q] at e; cases e
  refine I.step (g' := s.gens) (d' := s.drawn) (ch := ch) (fun b hb => ⟨(hf b hb).2.2.2.1, (hf b hb).2.1, (hf b hb).2.2.2.2.1, (hf b hb).2.2.2.2.2⟩) (fun b o _ _ hc e _ => k b o hc e) (fun b o _ _ hc e _ => ⟨o.slots, k b o hc e⟩)
    (fun b o hc e n => ?_) (fun b o hc e => ⟨o, k b o hc e⟩) (fun b xs e => ?_) (fun b o u e => ?_) (fun b ps e => ⟨#[], ?_⟩) (fun m hm => ?_) (fun b u e => ?_) I.bare
  · rw [upd_ne (fun z => hc (by rw [z]; exact hT))]; exact n
  · rw [upd_ne (ne_of_none e hn)]; exact e
  · rw [upd_ne (ne_of_none e hn)]; exact e
  · rw [upd_ne (ne_of_none e hn), e]; simp
  · obtain ⟨o, es, ep, ho, r⟩ := hm
    exact ⟨o, es, ep, k _ o (fun z => (hf _ z).2.1 rfl) ho, r⟩
  · by_cases hb : b = T
    · subst hb
      rw [upd_same] at e
      cases e
      exact new
    · rw [upd_ne hb] at e
      refine (I.hok b u e).stay (fun c v hc q => k c v ?_ q) (fun c q => by rw [upd_ne (ne_of_none q hn)]; exact q) fun c xs q => by rw [upd_ne (ne_of_none q hn)]; exact q
      rcases hc with z | z
      · rw [z]; exact nit b u e
      · exact nit c _ z
theorem FpOk.same {H' : Hp} {b : Addr} (f : FpOk X pins H b) (h : H' b = none) : FpOk X pins H' b := ⟨h, f.2⟩
end
theorem seq_cell {T : String} {its : Array Value} {n : Nat} : ∀ v, (seqObj T its n).data ≠ .cell v := fun v z => by
  have z' : Data.seq its n = Data.cell v := z
  cases z'
theorem DpAll.snoc {K : PySem.W.Frag} {H : Hp} : ∀ {vs : List V} {ds : List PyData} {v : V} {d : PyData}, DpAll K H vs ds → Dp K H v d → DpAll K H (vs ++ [v]) (ds ++ [d])
  | _, _, _, _, .nil, h => .cons h .nil
  | _, _, _, _, .cons f t, h => .cons f (DpAll.snoc t h)
theorem Vals.snoc' : ∀ {xs : List V} {us : List Value} {x : V} {u : Value}, Vals xs us → RelV x u → Vals (xs ++ [x]) (us ++ [u])
  | _, _, _, _, .nil, h => .cons h .nil
  | _, _, _, _, .cons f t, h => .cons f (Vals.snoc' t h)
theorem each_dp {X : Cx} {pins : List (Addr × Obj)} {σ : L2.St} {H : Hp} {s : Shared} (I : Inv X pins σ H s) : ∀ {ys : List V} {us : List Value} {ds : List PyData}, DpAll X.K H ys ds → Vals ys us → EachIs (fun v d => ∃ as, Reads s.heap v d as) us ds
  | _, _, _, .nil, .nil => .nil
  | _, _, _, .cons f t, .cons r rr => .cons (Dp.reads I _ _ _ f r) (each_dp I t rr)
section
variable {X : Cx} {pins : List (Addr × Obj)} {σ : L2.St} {A : Around} {a kS : Addr} {e1 : Nat} {f : Value}
theorem keyI_rest {s : Shared} {H0 : Hp} {vs : List Value} {xs : List V} {kz : List PyData} {P : PySem.Fin → Shared → Prop} {E : Value → Shared → Prop}
    (I : Inv X pins σ H0 s) (fa : FpOk X pins H0 a) (fk : FpOk X pins H0 kS) (nk : s.heap.get? kS = some (seqObj "list" #[] 0)) (na : s.heap.get? a = some (seqObj "list" #[] e1)) (hka : kS ≠ a)
    (rv : Vals xs vs) (hlen : kz.length = vs.length) (hZ : vs.length ≤ sizeLine) (hal : AllAlike kz) (hsk : Sortable kz) (hu : ∀ d, d ∈ kz → A.units + d.depth < cLine)
    (turn : ∀ (i : Nat) (x : V) (u : Value) (k : PyData), xs[i]? = some x → kz[i]? = some k → RelV x u → ∀ (pins' : List (Addr × Obj)) (s' : Shared) (H' : Hp), Inv X pins' σ H' s' → Same H0 H' → wpAny (model X.prog X.w) A (call f [u]) (fun v s'' => ∃ y H'', Inv X pins' σ H'' s'' ∧ Same H' H'' ∧ RelV y v ∧ Dp X.K H'' y k) (fun _ _ => False) s')
    (h : ∀ (s' : Shared) (H' : Hp) (out : List Value) (c : Nat) (h' : Heap) (tk : Nat), Inv X pins σ H' s' → Same H0 H' → FpOk X pins H' a → FpOk X pins H' kS → (∀ b o, b ≠ a → b ≠ kS → s'.heap.get? b = some o → h'.get? b = some o) → h'.get? a = some (seqObj "list" (List.toArray out) c) → KeyedOut false kz vs out → P (.done (.ret .none)) { s' with heap := h', toks := tk }) :
    wpAny (model X.prog X.w) A (ksk_rest a f false vs.toArray e1 (.ref kS)) P E s := by
  unfold ksk_rest
  refine wpAny_bind (wpAny_rule ?_)
  first
    | rw [List.forIn_toArray]
    | (rw [← Array.forIn_toList]; simp only [List.toList_toArray])
    | rw [← Array.forIn_toList]
  refine wpAny_bind (ksk_fold (fun i s' => ∃ H' kA e ys, Inv X pins σ H' s' ∧ Same H0 H' ∧ H' kS = none ∧ H' a = none ∧ s'.heap.get? kS = some (seqObj "list" kA e) ∧ s'.heap.get? a = some (seqObj "list" #[] e1) ∧ Vals ys kA.toList ∧ DpAll X.K H' ys (kz.take i)) vs 0 s
    ⟨H0, #[], 0, [], I, Same.refl _, fk.1, fa.1, nk, na, .nil, by rw [List.take_zero]; exact .nil⟩ ?step ?done)
  case step =>
    rintro j u s' hx ⟨H', kA, e, ys, I', s0, hk0, ha0, nk', na', rk, dk⟩
    simp only [Nat.zero_add] at dk ⊢
    have hj : j < vs.length := (List.getElem?_eq_some_iff.mp hx).1
    obtain ⟨k, hkj⟩ : ∃ k, kz[j]? = some k := ⟨_, List.getElem?_eq_getElem (by omega)⟩
    obtain ⟨x, hxj⟩ : ∃ x, xs[j]? = some x := ⟨_, List.getElem?_eq_getElem (by have := rv.length; omega)⟩
    obtain ⟨u', hu', rxu⟩ := rv.get hxj
    rw [hx] at hu'
    cases hu'
    have hz : kA.size ≤ vs.length := by
      have h1 := TB.DpAll.len dk
      have h2 : ys.length = kA.toList.length := rk.length
      have h3 : kA.toList.length = kA.size := Array.length_toList
      rw [List.length_take] at h1
      omega
    have fp : ∀ b ∈ [kS, a], FpOk X pins H' b := fun b hb => by
      simp only [List.mem_cons, List.not_mem_nil, or_false] at hb
      rcases hb with rfl | rfl
      · exact FpOk.same fk hk0
      · exact FpOk.same fa ha0
    have Ip := I'.pinned fp (fun b hb => by
      simp only [List.mem_cons, List.not_mem_nil, or_false] at hb
      rcases hb with rfl | rfl
      · exact ⟨_, nk', seq_cell⟩
      · exact ⟨_, na', seq_cell⟩)
    refine wpAny_bind (wpAny_attempt (wpAny_mono (turn j x u k hxj hkj rxu _ s' H' Ip s0) (fun v s'' he => ?_) fun _ _ hF => hF.elim))
    obtain ⟨y, H'', I'', s1, ry, dy⟩ := he
    have p1 := I''.pin (kS, _) (List.mem_append_right _ (List.mem_append_right _ (mem_pinsAt (fp := [kS, a]) (by simp) nk')))
    have p2 := I''.pin (a, _) (List.mem_append_right _ (List.mem_append_right _ (mem_pinsAt (fp := [kS, a]) (by simp) na')))
    have nk2 : s''.heap.get? kS = some (seqObj "list" kA e) := p1.1
    have na2 : s''.heap.get? a = some (seqObj "list" #[] e1) := p2.1
    have hk2 : H'' kS = none := p1.2.1
    have ha2 : H'' a = none := p2.2.1
    have sb := Heap.SameBut.update s''.heap kS (Obj.mapSeq (·.push v))
    obtain ⟨c2, hc2⟩ : ∃ c2, (s''.heap.update kS (Obj.mapSeq (·.push v))).get? kS = some (seqObj "list" (kA.push v) c2) := ⟨_, get?_update_seq nk2 (·.push v)⟩
    have ek : kz.take (j + 1) = kz.take j ++ [k] := by rw [List.take_add_one, hkj]; simp
    have ea : (kA.push v).toList = kA.toList ++ [v] := by simp
    try dsimp only
    refine wpAny_bind (listUpdate_at nk2 rfl ?_ (Nat.le_trans hz hZ) (Nat.le_trans (Nat.le_of_eq (Array.size_push ..)) (Nat.succ_le_succ (Nat.le_trans hz hZ))))
    obtain ⟨f0, f1, f2, f3, f4, f5⟩ := FpOk.same fk hk2
    have I3 : Inv X pins σ H'' { s'' with heap := s''.heap.update kS (Obj.mapSeq (·.push v)), toks := s''.toks } := I''.unpinned.turned (fun b o hb e => (sb.2 b hb).trans e) f0 f1 f3 f4 f5
    refine wpAny_pure ⟨rfl, H'', kA.push v, c2, ys ++ [y], I3, Same.trans s0 s1, hk2, ha2, hc2, (sb.2 a hka.symm).trans na2, ?_, ?_⟩
    · rw [ea]; exact Vals.snoc' rk ry
    · rw [ek]; exact DpAll.snoc (TB.DpAll.same s1 dk) dy
  case done =>
    rintro s' ⟨H', kA, e, ys, I', s0, hk0, ha0, nk', na', rk, dk⟩
    have e3 : kz.take (0 + vs.length) = kz := List.take_of_length_le (by omega)
    rw [e3] at dk
    have hk' := each_dp I' dk rk
    have hsz : kA.size = vs.length := by
      have h1 := hk'.length
      rw [Array.length_toList] at h1
      omega
    try dsimp only
    refine wpAny_bind (listItems_at nk' rfl ?_)
    have sb := Heap.SameBut.update s'.heap kS (fun o => { o with data := .freed })
    have hfree : (s'.heap.update kS (fun o => { o with data := .freed })).get? kS = none := by
      cases q : (s'.heap.update kS (fun o => { o with data := .freed })).get? kS with
      | none => rfl
      | some o =>
        exfalso
        obtain ⟨q1, q2⟩ := Heap.get?_some_iff.mp q
        obtain ⟨r1, r2⟩ := Heap.get?_some_iff.mp nk'
        have q3 : (s'.heap.update kS (fun o => { o with data := .freed })).objs[kS]? = some { (seqObj "list" kA e) with data := .freed } := by
          show (s'.heap.objs.modify kS _)[kS]? = _
          rw [Array.getElem?_modify, if_pos rfl, r1]
          rfl
        rw [q3] at q1
        cases q1
        exact absurd q2 (by simp [Obj.isFreed])
    have kp : KeepsBut a (s'.heap.update kS (fun o => { o with data := .freed })) s'.heap := fun b o hb q => by
      have nb : b ≠ kS := fun z => by rw [z, hfree] at q; cases q
      exact (sb.2 b nb).symm.trans q
    refine keyH_end (κ := dataKind s'.heap kz) (h₁ := s'.heap.update kS (fun o => { o with data := .freed })) kp hfree nk' na' hka (SortsAt.data hk' hal hsk hu) hsz hZ fun h3 tk3 c k3 n3 => ?_
    exact h s' H' _ c h3 tk3 I' s0 (FpOk.same fa ha0) (FpOk.same fk hk0) (fun b o h1 h2 q => k3 b o h1 ((sb.2 b h2).trans q)) n3 ⟨s'.heap, kA.toList, hal, rfl, hk'⟩
end
def rankV : Val → List V
  | .non => [.int 0, .int 0, .str ""]
  | .int n => [.int 2, .int (iabs n), .str (if 0 ≤ n then "" else "-")]
  | v => [.int 1, .int 0, vv v]
def rankD (v : Val) : PyData := .tuple ((rankV v).map pd)
def rankLe (x y : Val) : Bool := dataLe false rankD x y
def spRank (K : PySem.W.Frag) : Sp := fun vs H Q _ => ∃ v : Val, vs = [vv v] ∧ ∀ t H', Same H H' → H t = none → H' t = some (.tup (rankV v)) → Q (.ref t) H'
theorem rank_flat (v : Val) : (rankV v).all flatV = true := by cases v <;> rfl
theorem rank_alike (x y : Val) : alike (rankD x) (rankD y) = true := by
  cases x <;> cases y <;> simp [rankD, rankV, pd, vv, alike, alikeAll]
theorem rank_depth (v : Val) : (rankD v).depth ≤ 4 := by
  cases v <;> simp [rankD, rankV, pd, vv, PyData.depth, PyData.depthAll]
theorem rank_sort (bs : List Val) : Sortable (bs.map rankD) := .inl fun d hd => by
  obtain ⟨v, _, rfl⟩ := List.mem_map.mp hd
  cases v <;> exact ⟨_, _, rfl⟩
theorem each_of : ∀ {bs : List Val} {us : List Value}, Vals (bs.map vv) us → EachIs (fun u v => RelV (vv v) u) us bs
  | [], _, .nil => .nil
  | _ :: _, _, .cons r rr => .cons r (each_of rr)
theorem of_each : ∀ {bs : List Val} {us : List Value}, EachIs (fun u v => RelV (vv v) u) us bs → Vals (bs.map vv) us
  | [], _, .nil => .nil
  | _ :: _, _, .cons r rr => .cons r (of_each rr)
def rSortK (K : PySem.W.Frag) (g : Addr) : List V → List V → Hp → VK → Prop := fun xs zs H Q => ∃ (l : Addr) (bs : List Val), xs = [.ref l] ∧ zs = [.ref g] ∧ SqL K H l (bs.map vv) ∧ bs.length ≤ 1000 ∧
  ∀ p H', Same H H' → H p = none → H' p = some (.lst ((bs.mergeSort rankLe).map vv)) → Q (.ref p) H'
theorem sort_tree_I {X : Cx} {pins : List (Addr × Obj)} {σ : L2.St} {A : Around} {f : Value} {s : Shared} {H : Hp} {its : List Value} {bs : List Val} {P : PySem.Fin → Shared → Prop} {E : Value → Shared → Prop}
    (I : Inv X pins σ H s) (rv : Vals (bs.map vv) its) (hlen : its.length = bs.length) (hl : bs.length ≤ 1000) (hL : its.length ≤ sizeLine) (hA : A.units + 4 < cLine)
    (turn : ∀ (x : V) (u : Value) (k : PyData), (∃ v, x = vv v ∧ k = rankD v) → RelV x u → ∀ (pins' : List (Addr × Obj)) (s' : Shared) (H' : Hp), Inv X pins' σ H' s' → Same H H' → wpAny (model X.prog X.w) A (call f [u]) (fun v s'' => ∃ y H'', Inv X pins' σ H'' s'' ∧ Same H' H'' ∧ RelV y v ∧ Dp X.K H'' y k) (fun _ _ => False) s')
    (h : ∀ (s' : Shared) (H' : Hp) (h' : Heap) (tk : Nat) (kS : Addr), Inv X pins σ H' s' → Same H H' → FpOk X pins H' (s.heap.objs.size + 1) → FpOk X pins H' kS → (∀ b o, b ≠ s.heap.objs.size + 1 → b ≠ kS → s'.heap.get? b = some o → h'.get? b = some o) → ∀ (out : List Value) (c : Nat), h'.get? (s.heap.objs.size + 1) = some (seqObj "list" (List.toArray out) c) → EachIs (fun u v => RelV (vv v) u) out (bs.mergeSort rankLe) → P (.done (.ret .none)) { s' with heap := h', toks := tk }) :
    wpAny (model X.prog X.w) A (ksk_tree (s.heap.objs.size + 1) f false) P E { s with heap := copyHeap s.heap its } := by
  have ho := copyHeap_at s.heap its
  have hlt : (s.heap.objs.size + 1 : Nat) < (copyHeap s.heap its).objs.size := Heap.lt_size ho
  obtain ⟨e1, ho1⟩ : ∃ e1, ((copyHeap s.heap its).update (s.heap.objs.size + 1) (Obj.mapSeq fun _ => (#[] : Array Value))).get? (s.heap.objs.size + 1) = some (seqObj "list" #[] e1) := ⟨_, get?_update_seq ho fun _ => #[]⟩
  have hkS : (((copyHeap s.heap its).update (s.heap.objs.size + 1) (Obj.mapSeq fun _ => (#[] : Array Value))).push (seqObj "tuple" its.toArray 0)).objs.size = (copyHeap s.heap its).objs.size + 1 := by rw [size_push', Heap.size_update]
  have I2 : Inv X pins σ H { s with heap := sortingHeap (copyHeap s.heap its) (s.heap.objs.size + 1) its, toks := s.toks } := I.kept fun b o e => sortingHeap_old (Nat.ne_of_lt (Nat.lt_succ_of_lt (Heap.lt_size e))) (copyHeap_old e)
  have fa : FpOk X pins H (s.heap.objs.size + 1) := I.fpOk (by omega) (I.hok.fresh (by omega))
  have fk : FpOk X pins H (((copyHeap s.heap its).update (s.heap.objs.size + 1) (Obj.mapSeq fun _ => (#[] : Array Value))).push (seqObj "tuple" its.toArray 0)).objs.size := I.fpOk (by rw [hkS]; exact Nat.le_of_lt (Nat.lt_succ_of_lt (Nat.lt_of_succ_lt hlt))) (I.hok.fresh (by rw [hkS]; exact Nat.le_of_lt (Nat.lt_succ_of_lt (Nat.lt_of_succ_lt hlt))))
  unfold ksk_tree
  refine wpAny_bind (listItems_at ho rfl ?_)
  refine wpAny_bind (listUpdate_at ho rfl ?_ (by rw [List.size_toArray]; exact hL) (Nat.zero_le _))
  refine wpAny_bind (seqEpoch_at ho1 rfl ?_)
  refine wpAny_bind (wpAny_newTuple ?_ (by show its.length ≤ _; exact hL))
  refine wpAny_bind (wpAny_newList ?_ (Nat.zero_le _))
  refine wpAny_holding ?_
  refine keyI_rest (X := X) (pins := pins) (σ := σ) (H0 := H) (kz := bs.map rankD) (s := { s with heap := sortingHeap (copyHeap s.heap its) (s.heap.objs.size + 1) its, toks := s.toks }) (kS := (((copyHeap s.heap its).update (s.heap.objs.size + 1) (Obj.mapSeq fun _ => (#[] : Array Value))).push (seqObj "tuple" its.toArray 0)).objs.size) I2 fa fk
    (Heap.get?_push_size _ rfl) (Heap.get?_push_of_some _ (Heap.get?_push_of_some _ ho1)) (by rw [hkS]; exact Nat.ne_of_gt (Nat.lt_succ_of_lt hlt)) rv (by rw [List.length_map, hlen]) hL (fun d hd d' hd' => ?_) (rank_sort bs) (fun d hd => ?_) (fun i x u k hx hk rxu pins' s' H' I' s0 => ?_) fun s' H' out c h' tk I' s0 fa' fk' hkeep hat ko => ?_
  · obtain ⟨v, _, rfl⟩ := List.mem_map.mp hd
    obtain ⟨v', _, rfl⟩ := List.mem_map.mp hd'
    exact rank_alike v v'
  · obtain ⟨v, _, rfl⟩ := List.mem_map.mp hd
    have := rank_depth v
    omega
  · refine turn x u k ?_ rxu pins' s' H' I' s0
    rw [List.getElem?_map] at hx hk
    cases e : bs[i]? with
    | none => rw [e] at hx; cases hx
    | some v =>
      rw [e] at hx hk
      exact ⟨v, (Option.some.inj hx).symm, (Option.some.inj hk).symm⟩
  · exact h s' H' h' tk _ I' s0 fa' fk' hkeep out c hat (keyedOut_each rankD ko (each_of rv))
theorem cr_sortK {X : Cx} {n k : Nat} {g : Addr} (c : Cal X.prog X.w X.K X.mg X.base k "rank" ["value"] (spRank X.K)) (hg : X.mg "rank" = some (.ref g)) (hr : Room n X.A) (hk : k + 2 ≤ n) : CallRK X (.builtin "sorted") ["key"] (rSortK X.K g) := by
  intro pins s σ H xs zs us ws Q I r rz h
  obtain ⟨l, bs, rfl, rfl, hs, hl, q⟩ := h
  obtain ⟨f, fd, F, hm, kp, hb⟩ := c.ex
  rw [hg] at hm
  cases hm
  obtain ⟨its, rv, hli, hz⟩ := I.list hs
  rw [Vals.ref1 r]
  have ez : (["key"] : List Str).zip ws = [(Str.ofString "key", .ref g)] := by rw [Vals.ref1 rz]; rfl
  rw [ez]
  have hlen : its.length = bs.length := by rw [← rv.length, List.length_map]
  have hL : its.length ≤ sizeLine := by rw [hlen, ← List.length_map (f := vv)]; exact hz
  refine sorted_of_sort hli.isList hL (ksk_s1 _ _) (fun x => by unfold argsOk; kernel_rfl) fun E' => ?_
  rw [ksk_t1]
  have hsz : s.heap.objs.size ≤ s.heap.objs.size + 1 := by omega
  have key := sort_tree_I (f := .ref g) (P := fun fl s' => fl = .done (.ret .none) ∧ EP X pins σ Q (.ref (s.heap.objs.size + 1)) s') (E := E') (A := X.A.in1.in1) I rv hlen hl hL ?_ (fun x u k' hk' rxu pins' s' H' I' s0 => ?_) fun s' H' h' tk kS I' s0 hfa hfk hkeep out c hat heach => ?_
  · exact key
  · have := (hr.mono (show 2 ≤ n by omega)).in1.in1.un
    omega
  · -- one key
    have hx' : ∃ v : Val, x = vv v ∧ k' = rankD v := hk'
    obtain ⟨v, rfl, rfl⟩ := hx'
    have b := hb s' [u] I'.kIn rfl
    rw [List.append_nil] at b
    refine wpAny_call (codeAny_mono (F.run X.A.in1.in1 X.stack s' H' ⟨[u], []⟩ [u] [vv v] (fun y H'' => ∃ t, y = .ref t ∧ Same H' H'' ∧ H'' t = some (.tup (rankV v))) E0 (hr.mono (by omega)).in1.in1 I'.env0.in1.in1 b (.cons rxu .nil) ⟨v, rfl, fun t H'' s1 _ ht => ⟨t, rfl, s1, ht⟩⟩) fun r s'' hq => ?_)
    cases r with
    | error e => obtain ⟨_, _, _, _, _, _, _, _, _, _, _, _, q⟩ := hq; exact q.elim
    | ok fl =>
      cases fl with
      | ret w => 
        have h1 := I'.after hq
        obtain ⟨y, H'', I2, ry, t, rfl, s1, ht⟩ := h1
        exact ⟨_, H'', I2, s1, ry, .tup (tupAt ht) (pds_dp (rank_flat v))⟩
      | next => exact False.elim hq
      | brk => exact False.elim hq
      | cont => exact False.elim hq
  · refine ⟨rfl, ?_⟩
    have hvs := of_each heach
    have hlen2 : ((bs.mergeSort rankLe).map vv).length ≤ sizeLine := by rw [List.length_map, List.length_mergeSort, ← List.length_map (f := vv)]; exact hz
    have I5 : Inv X pins σ (upd H' (s.heap.objs.size + 1) (.lst ((bs.mergeSort rankLe).map vv))) { s' with heap := h', toks := tk } := turnedOld (ch := [s.heap.objs.size + 1, kS]) I' (fun b o hb e => hkeep b o (fun z => hb (by rw [z]; simp)) (fun z => hb (by rw [z]; simp)) e) (fun b hb => by
      simp only [List.mem_cons, List.not_mem_nil, or_false] at hb
      rcases hb with rfl | rfl
      · exact hfa
      · exact hfk) (by simp) ⟨hlen2, out, c, hvs, hat⟩
    exact ⟨.ref _, _, I5, rfl, q _ _ (Same.trans s0 (Same.new hfa.1)) (I.hok.fresh hsz) upd_same⟩
end TB

set_option maxHeartbeats 4000000
namespace TB
open PySem PySem.Spec PyProof.Rows L2 TW LamX NdefX PySem.W
/-- the order of values, as a number -/
def rkI : Val → Int
  | .non => 0
  | .a => 1
  | .b => 2
  | .c => 3
  | .int n => 4 + 2 * iabs n + (if n < 0 then 1 else 0)
def GivP (ss : List Stp) (v : Val) : Option Val → Prop
  | some x => TW.run ss x = some v ∧ ∀ y, TW.run ss y = some v → rkI x ≤ rkI y
  | none => ∀ y, TW.run ss y ≠ some v
theorem rkI_int (n : Int) : 4 ≤ rkI (.int n) ∧ 4 + 2 * iabs n ≤ rkI (.int n) ∧ rkI (.int n) ≤ 5 + 2 * iabs n := by
  have := iabs_nn n
  unfold rkI
  dsimp only
  split <;> omega
theorem rkI_size {v : Val} {n : Nat} (h : v.size ≤ n) : rkI v ≤ 5 + 2 * n := by
  cases v with
  | int i => have := (rkI_int i).2.2; simp only [Val.size] at h; omega
  | _ => show (_ : Int) ≤ _; simp only [rkI]; omega
theorem rkI_far {v : Val} {n : Nat} (h : ¬ v.size ≤ n) : 6 + 2 * (n : Int) ≤ rkI v := by
  cases v with
  | int i => have := (rkI_int i).2.1; simp only [Val.size] at h; omega
  | _ => exact absurd (by simp only [Val.size]; omega) h
theorem nums_sorted : ∀ n : Nat, (TW.numsTo n).Pairwise (fun i j => rkI (.int i) ≤ rkI (.int j))
  | 0 => List.pairwise_singleton ..
  | n + 1 => by
    unfold TW.numsTo
    have a1 := rkI_int ((n + 1 : Nat) : Int)
    have c1 := iabs_cases ((n + 1 : Nat) : Int)
    have c2 := iabs_cases (-((n + 1 : Nat) : Int))
    have e1 : rkI (.int ((n + 1 : Nat) : Int)) = 4 + 2 * ((n : Int) + 1) := by
      unfold rkI
      dsimp only
      rw [if_neg (by omega)]; omega
    have e2 : rkI (.int (-((n + 1 : Nat) : Int))) = 5 + 2 * ((n : Int) + 1) := by
      unfold rkI
      dsimp only
      rw [if_pos (by omega)]; omega
    refine List.pairwise_append.mpr ⟨nums_sorted n, List.pairwise_pair.mpr (by rw [e1, e2]; omega), fun i hi j hj => ?_⟩
    have hi' := mem_numsTo.mp hi
    have := (rkI_int i).2.2
    simp only [List.mem_cons, List.not_mem_nil, or_false] at hj
    rcases hj with rfl | rfl
    · rw [e1]; omega
    · rw [e2]; omega
theorem vals_sorted (n : Nat) : (vals n).Pairwise (fun x y => rkI x ≤ rkI y) := by
  unfold vals
  refine List.pairwise_append.mpr ⟨?_, List.pairwise_map.mpr (nums_sorted n), fun x hx y hy => ?_⟩
  · decide
  · obtain ⟨i, _, rfl⟩ := List.mem_map.mp hy
    have := (rkI_int i).1
    simp only [List.mem_cons, List.not_mem_nil, or_false] at hx
    rcases hx with rfl | rfl | rfl | rfl <;> (simp only [rkI] at *; omega)
theorem first_least {n : Nat} {D : Val → Bool} {x : Val} (h : firstV n D = some x) {y : Val} (hy : D y = true) : rkI x ≤ rkI y := by
  have hx := (firstV_some h).2
  by_cases hs : y.size ≤ n
  · unfold firstV at h
    obtain ⟨h1, as, bs, h2, h3⟩ := List.find?_eq_some_iff_append.mp h
    have hm := mem_vals.mpr hs
    have hp := vals_sorted n
    rw [h2] at hm hp
    rcases List.mem_append.mp hm with q | q
    · have := h3 y q
      rw [hy] at this
      cases this
    · rcases List.mem_cons.mp q with q | q
      · rw [q]; exact Int.le_refl _
      · exact List.rel_of_pairwise_cons (List.pairwise_append.mp hp).2.1 q
  · have := rkI_far hs
    have := rkI_size hx
    omega
theorem giv_near {ss : List Stp} {v x : Val} (h : firstV (look ss) (dGive ss v) = some x) : GivP ss v (some x) :=
  ⟨of_decide_eq_true (firstV_some h).1, fun y hy => first_least h (decide_eq_true hy)⟩
theorem giv_no {ss : List Stp} {v : Val} (h : firstV (look ss) (dGive ss v) = none) : ∀ x : Val, x.size ≤ (look ss : Int) → TW.run ss x ≠ some v := fun x hx => of_decide_eq_false (firstV_none h hx)
theorem giv_word {ss : List Stp} (ok : ∀ s ∈ ss, s.ok) {v : Val} (hv : ∀ n, v ≠ .int n) (h : firstV (look ss) (dGive ss v) = none) : GivP ss v none := near_word ok hv (giv_no h)
/-- the order that sorted goes by -/
theorem le_rk {i j : Int} (h : rankLe (.int i) (.int j) = true) : rkI (.int i) ≤ rkI (.int j) := by
  have h2 : (!lexLt itemOrd (keyToks (rankD (.int j))) (keyToks (rankD (.int i)))) = true := h
  rw [Bool.not_eq_true'] at h2
  by_cases q : rkI (.int i) ≤ rkI (.int j)
  · exact q
  exfalso
  have ci := iabs_cases i
  have cj := iabs_cases j
  have tk : ∀ n : Int, keyToks (rankD (.int n)) = [.inl 1, .inl 2, .inl 1, .inl (iabs n), .inl 1, .inr ((if 0 ≤ n then ("" : Str) else "-").cps.toList), .inl 0] := fun n => by
    simp [rankD, rankV, pd, keyToks, keyToksAll]
  rw [tk, tk] at h2
  erw [lex_self (O := itemOrd), lex_self (O := itemOrd), lex_self (O := itemOrd)] at h2
  unfold rkI at q
  dsimp only at q
  by_cases e : iabs j = iabs i
  · rw [e, lex_self, lex_self] at h2
    have hi : i < 0 := by
      by_cases z : i < 0
      · exact z
      · rw [if_neg z] at q; split at q <;> omega
    have hj : ¬ j < 0 := fun z => by rw [if_pos hi, if_pos z] at q; omega
    rw [if_pos (by omega), if_neg (by omega)] at h2
    revert h2
    decide +kernel
  · rw [lex_diff (fun z => e (Sum.inl.inj z))] at h2
    have h3 : decide (iabs j < iabs i) = false := h2
    have := of_decide_eq_false h3
    split at q <;> split at q <;> omega
theorem giv_far {ss : List Stp} (ok : ∀ s ∈ ss, s.ok) {n : Int} (h : firstV (look ss) (dGive ss (.int n)) = none) : GivP ss (.int n) ((((farO ss n 1 ++ farO ss n (-1)).map Val.int).mergeSort rankLe).head?) := by
  have tot := sortLe_total (listOrd itemOrd) false fun v => keyToks (rankD v)
  have srt : (((farO ss n 1 ++ farO ss n (-1)).map Val.int).mergeSort rankLe).Pairwise (fun a b => rankLe a b = true) := List.pairwise_mergeSort (fun a b c => tot.trans a b c) (fun a b => by rw [Bool.or_eq_true]; exact tot.total a b) _
  have prm := List.mergeSort_perm ((farO ss n 1 ++ farO ss n (-1)).map Val.int) rankLe
  have all : ∀ y, TW.run ss y = some (.int n) → y ∈ ((farO ss n 1 ++ farO ss n (-1)).map Val.int).mergeSort rankLe := fun y hy => by
    rw [prm.mem_iff]
    cases y with
    | int m => exact List.mem_map.mpr ⟨m, far_in ok (giv_no h) hy, rfl⟩
    | _ => exact absurd hy (giv_no h _ (by show (0 : Int) ≤ _; exact Int.natCast_nonneg _))
  cases e : ((farO ss n 1 ++ farO ss n (-1)).map Val.int).mergeSort rankLe with
  | nil =>
    intro y hy
    have := all y hy
    rw [e] at this
    cases this
  | cons x l =>
    rw [e] at srt all prm
    have hx := prm.mem_iff.mp (List.mem_cons_self (a := x) (l := l))
    obtain ⟨i, hi, rfl⟩ := List.mem_map.mp hx
    refine ⟨farO_run ok hi, fun y hy => ?_⟩
    have hm := all y hy
    rcases List.mem_cons.mp hm with q | q
    · rw [q]; exact Int.le_refl _
    · have hr := List.rel_of_pairwise_cons srt q
      obtain ⟨j, _, rfl⟩ := List.mem_map.mp (prm.mem_iff.mp (List.mem_cons_of_mem _ q))
      exact le_rk hr
def spToldOf (K : PySem.W.Frag) : Sp := fun vs H Q _ => ∃ (l : Addr) (bs : List Val), vs = [.ref l] ∧ SqL K H l (bs.map vv) ∧ OptR bs.head? H Q
def spFarO (K : PySem.W.Frag) : Sp := fun vs H Q _ => ∃ (c : Addr) (v side : Int) (ss : List Stp), vs = [.ref c, .int v, .int side] ∧ ChainS K H c ss ∧ (∀ s ∈ ss, s.ok) ∧ ss.length ≤ 100 ∧ (side = 1 ∨ side = -1) ∧ ∀ l H', Same H H' → H l = none → H' l = some (.lst ((farO ss v side).map V.int)) → Q (.ref l) H'
theorem w_gnameF {i : Nat} {v v' : V} {σ : L2.St} {H : Hp} {Q : L2.St → Hp → Prop} (e : v' = v) (q : Q (σ.set i (some v')) H) : gName i v σ H Q := e ▸ q
end TB

set_option maxHeartbeats 4000000
/-! giving: a lambda with two free names -/
namespace TB
open PySem PySem.Spec PyProof.Rows L2 TW LamX NdefX
def spOneG (K : PySem.W.Frag) (ws : List (Option V)) : Sp := fun vs H Q _ => ∃ a ss v x, ws = [some (.ref a), some (vv v)] ∧ vs = [vv x] ∧ ChainS K H a ss ∧ (∀ s ∈ ss, s.ok) ∧ ss.length ≤ 100 ∧ ∀ H', Same H H' → Q (.bl (dGive ss v x)) H'
def spHandG (K : PySem.W.Frag) : L2.St → V → Hp → VK → Prop := fun σ y H Q => ∃ t a ss v, y = .ref t ∧ σ[0]? = some (some (.ref a)) ∧ σ[1]? = some (some (vv v)) ∧ StepsT K H t ss ∧ ChainS K H a ss ∧ (∀ s ∈ ss, s.ok) ∧ ss.length ≤ 50 ∧ OptR (firstV (look ss) (dGive ss v)) H Q
theorem linkG {X : Cx} {k : Nat} {l : Expr} {N ps fr : List Str} (S : NScope N ps fr (lamSc l)) (hfree : ∀ y ∈ (lamSc l).names, y.2 = .free → X.env.scope.names.lookup y.1 = some .cell ∨ X.env.scope.names.lookup y.1 = some .free) (hfr : ∀ y ∈ fr, (y, NameKind.free) ∈ (lamSc l).names) (hjs : [0, 1].map (fun j => X.N[j]?) = fr.map some) (hps : ps.length = 1)
    (hb : ∀ (q : Str) (cl : List (Str × Addr)) (c' : Addr) (pm ctv : Value) (us : List Value), us.length = ps.length → bindArgs (PySem.W.kla_fn "<lambda>" q (lamP l) (lamB l) (lamSc l) cl pm (.ref c') ctv) ⟨us, []⟩ = pure (ps.zip us))
    (hbody : ∀ (f c' : Addr) (q : Str) (cl : List (Str × Addr)) (A : Around) (out : List Env) (s1 : Shared) (H1 : Hp) (vs : List V) (ws : List (Option V)) (Q : VK), Room k (A.deeper (envF (lamF q (lamP l) (lamSc l) cl c') f s1.heap.objs.size)) → spOneG X.K ws vs H1 Q E0 →
      ∃ te, PE (ncx (L2.CX X.prog X.w) X.prog X.w X.K X.mg X.base N (lamF q (lamP l) (lamSc l) cl c') f A out s1 H1 E0) (lamB l) te ∧ te (startF N vs ws) H1 Q) :
    ∀ pins σ H s y f c' pm ctv Q, Inv X pins σ H s → s.heap.get? f = some (PySem.W.kla_obj "<lambda>" (X.env.qual ++ "<lambda>") (lamP l) (lamB l) (lamSc l) (cloFrom X.env.cells (lamSc l).names []) pm c' ctv) → H f = none → f ∉ frs X.stack → H c' = some (CodeO c' (X.env.qual ++ "<lambda>")) → spHandG X.K σ y H Q → spFirst X.prog X.w X.K X.mg X.base (k + 1) X.stack s H [y, .ref f] Q := by
  intro pins σ H s y f c' pm ctv Q I hf hfn hfr' hco h
  obtain ⟨t, a, ss, v, rfl, s0, s1, hst, ha, o1, l1, q⟩ := h
  have C := cells_of I (Caps.made (scope := lamSc l) I.ok hfree hfr hjs)
  refine ⟨t, f, ss, dGive ss v, rfl, hst, o1, by omega, ?_, q⟩
  refine (clo_lam (spc := spOneG X.K ([0, 1].map (slotAt σ))) hf hfn hfr' hco S (hb _ _ _ _ _) (fun vs H Q E h => ?_) C fun A out s1 H1 vs Q hr h => hbody _ _ _ _ A out s1 H1 vs _ Q hr h).imp fun vs' H' Q' e h => ?_
  · obtain ⟨_, _, _, _, _, rfl, _⟩ := h; exact hps.symm
  · obtain ⟨x, rfl, q'⟩ := h
    refine ⟨a, ss, v, x, ?_, rfl, ha.ext e, o1, by omega, q'⟩
    show [slotAt σ 0, slotAt σ 1] = _
    rw [slotAt_of s0, slotAt_of s1]
/-- what giving tells -/
def spGiving (K : PySem.W.Frag) (T : List NTab) : Sp := fun vs H Q E => ∃ c y ss, vs = [.ref c, y] ∧ ChainS K H c ss ∧ (∀ s ∈ ss, s.ok) ∧ ss.length ≤ 50 ∧ TabsN T H ∧
  ((∃ v, y = vv v ∧ ∀ o, GivP ss v o → OptT o T H Q) ∨ (NotVal K H y ∧ ∀ H', Same H H' → E (.ref (He.ga K "BadValue")) none H'))
theorem w_ckw {r : List V → List V → Hp → VK → Prop} {t tk : TA} {σ : L2.St} {H : Hp} {Q : VK} (h : t σ H fun vs H1 => tk σ H1 fun zs H2 => r vs zs H2 Q) : tCKw r t tk σ H Q := h
theorem farO_len {ss : List Stp} (ok : ∀ s ∈ ss, s.ok) (v side : Int) : (farO ss v side).length ≤ 60 := by
  have h := List.length_filterMap_le (fun r : Nat => farAt ss v side (r : Int)) (List.range (per ss).toNat)
  rw [List.length_range] at h
  have := per_le ok
  show (List.filterMap _ _).length ≤ 60
  omega
end TB

set_option maxHeartbeats 4000000
/-! the law of gates: states and promises -/
namespace TB
open PySem PySem.Spec PyProof.Rows L2 TW LamX NdefX
theorem GateS.ne {K : PySem.W.Frag} {H : Hp} {g b : Addr} {fp : List Addr} {st : GSt} (h : GateS K H g fp st) (m : b ∈ fp) : H b ≠ none := by
  obtain ⟨dx, c, kd, pl, pq, items, h1, h2, h3, h4, h5, h6, h7⟩ := h
  rw [h6] at m
  simp only [List.mem_cons] at m
  rcases m with e | e | e | e
  · rw [e, h1]; exact fun z => by cases z
  · rw [e, h3]; exact fun z => by cases z
  · rw [e, h2.2]; exact fun z => by cases z
  · obtain ⟨kvs, q⟩ := h4.dk _ e; rw [q]; exact fun z => by cases z
theorem GNext.then {K : PySem.W.Frag} {H H1 H2 : Hp} {g : Addr} {fp fp' : List Addr} {st : GSt} (n : GNext K H g fp st fp' H1) (s : Same H1 H2) : GNext K H g fp st fp' H2 := n.trans (GNext.refl n.at_ s)
/-- how the heap moves while the law goes on -/
structure Moved (d : Addr) (fp : List Addr) (H : Hp) (fp' : List Addr) (H' : Hp) : Prop where
  keep : ∀ b o, b ∉ fp → b ≠ d → H b = some o → H' b = some o
  off : ∀ b, b ∉ fp → H b ≠ none → b ∉ fp'
  mono : ∀ b, H b ≠ none → H' b ≠ none
theorem Moved.same {d : Addr} {fp : List Addr} {H H' : Hp} (s : Same H H') : Moved d fp H fp H' := ⟨fun b o _ _ h => s _ _ h, fun b h _ => h, fun b h => by
  cases e : H b with
  | none => exact absurd e h
  | some o => rw [s _ _ e]; exact fun q => by cases q⟩
theorem Moved.sx {d : Addr} {fp : List Addr} {H H' : Hp} {cells : Cells} (s : SameX d H H') (dr : DrawsAt H' d cells) : Moved d fp H fp H' := ⟨fun b o _ n h => s _ _ n h, fun b h _ => h, fun b h => by
  by_cases eb : b = d
  · obtain ⟨_, _, _, q, _⟩ := dr; rw [eb, q]; exact fun z => by cases z
  · cases e : H b with
    | none => exact absurd e h
    | some o => rw [s _ _ eb e]; exact fun q => by cases q⟩
theorem Moved.gn {K : PySem.W.Frag} {d g : Addr} {fp fp' : List Addr} {st : GSt} {H H' : Hp} (n : GNext K H g fp st fp' H') : Moved d fp H fp' H' := ⟨fun b o h _ e => n.keep b o h e, fun b h e => n.off h e, n.mono⟩
theorem Moved.trans {d : Addr} {fp fp1 fp2 : List Addr} {H H1 H2 : Hp} (a : Moved d fp H fp1 H1) (b : Moved d fp1 H1 fp2 H2) : Moved d fp H fp2 H2 :=
  ⟨fun x o h n e => b.keep x o (a.off x h (by rw [e]; exact fun z => by cases z)) n (a.keep x o h n e), fun x h e => b.off x (a.off x h e) (a.mono x e), fun x e => b.mono x (a.mono x e)⟩
/-- the gate, the draws and what stays apart from it -/
structure Wd (K : PySem.W.Frag) (H : Hp) (d : Addr) (cells : Cells) (g : Addr) (fp : List Addr) (st : GSt) (Z : List Addr) : Prop where
  gate : GateS K H g fp st
  dr : DrawsAt H d cells
  ls : ∀ z ∈ Z, ∃ xs, H z = some (.lst xs)
  off : ∀ z ∈ Z, z ∉ fp
  hd : d ∈ Z
  hc : cells.1 ∈ Z
section
variable {K : PySem.W.Frag} {H H' : Hp} {d : Addr} {cells : Cells} {g : Addr} {fp fp' : List Addr} {st st' : GSt} {Z : List Addr}
theorem Wd.same (w : Wd K H d cells g fp st Z) (s : Same H H') : Wd K H' d cells g fp st Z := ⟨w.gate.same s, w.dr.same s, fun z hz => by obtain ⟨xs, h⟩ := w.ls z hz; exact ⟨xs, s _ _ h⟩, w.off, w.hd, w.hc⟩
theorem Wd.sx (w : Wd K H d cells g fp st Z) (s : SameX d H H') (dr : DrawsAt H' d cells) : Wd K H' d cells g fp st Z := ⟨w.gate.sx s (Mv.draws w.dr) (w.off _ w.hd), dr, fun z hz => by
  by_cases e : z = d
  · obtain ⟨_, _, _, q, _⟩ := dr; rw [e]; exact ⟨_, q⟩
  · obtain ⟨xs, h⟩ := w.ls z hz; exact ⟨xs, s _ _ e h⟩, w.off, w.hd, w.hc⟩
theorem Wd.gn (w : Wd K H d cells g fp st Z) (n : GNext K H g fp st' fp' H') : Wd K H' d cells g fp' st' Z := ⟨n.at_, by
  obtain ⟨a, b, c, h1, h2, h3⟩ := w.dr
  exact ⟨a, b, c, n.keep _ _ (w.off _ w.hd) h1, n.keep _ _ (w.off _ w.hc) h2, h3⟩, fun z hz => by obtain ⟨xs, h⟩ := w.ls z hz; exact ⟨xs, n.keep _ _ (w.off _ hz) h⟩, fun z hz => n.off (w.off z hz) (by obtain ⟨xs, h⟩ := w.ls z hz; rw [h]; exact fun z => by cases z), w.hd, w.hc⟩
/-- the law's own state -/
def LawS (H : Hp) (fp Z : List Addr) (a : Addr) (sn : Snap) : Prop := ∃ sl kd items, H a = some (.lst [.ref sl, .ref kd, .int (sn.num : Int)]) ∧ H sl = some (.lst items) ∧ StepsAt H sn.ss items ∧ H kd = some (.dK (kk sn.kept)) ∧ (a ∉ fp ∧ a ∉ Z) ∧ (sl ∉ fp ∧ sl ∉ Z) ∧ kd ∉ fp
theorem LawS.mv {a : Addr} {sn : Snap} (l : LawS H fp Z a sn) (w : Wd K H d cells g fp st Z) (m : Moved d fp H fp' H') : LawS H' fp' Z a sn := by
  obtain ⟨sl, kd, items, h1, h2, h3, h4, ⟨a1, a2⟩, ⟨b1, b2⟩, c1⟩ := l
  have nd : ∀ {b}, b ∉ Z → b ≠ d := fun h e => h (e ▸ w.hd)
  obtain ⟨_, _, _, q, _⟩ := w.dr
  refine ⟨sl, kd, items, m.keep _ _ a1 (nd a2) h1, m.keep _ _ b1 (nd b2) h2, L2.Paired.mapP h3 fun _ _ ⟨t, e, ht⟩ => ⟨t, e, m.keep _ _ (w.gate.notTup ht) (fun e => by rw [e, q] at ht; cases ht) ht⟩, m.keep _ _ c1 (fun e => by rw [e, q] at h4; cases h4) h4, ⟨m.off _ a1 (by rw [h1]; exact fun z => by cases z), a2⟩, ⟨m.off _ b1 (by rw [h2]; exact fun z => by cases z), b2⟩, m.off _ c1 (by rw [h4]; exact fun z => by cases z)⟩
end
/-! ### snaps -/
theorem SnapOk.put {sn : Snap} (h : SnapOk sn) (hn : sn.num < 900) (v : Val) : SnapOk ⟨sn.ss, sn.kept ++ [(sn.num, v)], sn.num + 1⟩ := by
  refine ⟨h.ok, h.len, fun p hp => ?_, ?_, hn⟩
  · rcases List.mem_append.mp hp with q | q
    · have := h.lt p q; show _ < sn.num + 1; omega
    · rw [List.mem_singleton] at q; rw [q]; exact Nat.lt_succ_self _
  · show ((sn.kept ++ [(sn.num, v)]).map (·.1)).Nodup
    rw [List.map_append]
    refine List.nodup_append.mpr ⟨h.nd, by simp, fun a ha b hb e => ?_⟩
    simp only [List.map_cons, List.map_nil, List.mem_singleton] at hb
    obtain ⟨p, hp, rfl⟩ := List.mem_map.mp ha
    have := h.lt p hp
    omega
theorem SnapOk.filter {sn : Snap} (h : SnapOk sn) (f : Nat × Val → Bool) : SnapOk ⟨sn.ss, sn.kept.filter f, sn.num⟩ := ⟨h.ok, h.len, fun p hp => h.lt p (List.mem_filter.mp hp).1, (List.Sublist.map _ List.filter_sublist).nodup h.nd, h.num⟩
theorem renK_sub (ts : List Stp) : ∀ l : List (Nat × Val), ((renK ts l).map (·.1)).Sublist (l.map (·.1))
  | [] => List.Sublist.refl _
  | p :: l => by
    unfold renK
    rw [List.filterMap_cons]
    have ih := renK_sub ts l
    unfold renK at ih
    cases e : TW.run ts p.2 with
    | none => exact List.Sublist.cons _ ih
    | some v => exact List.Sublist.cons₂ _ ih
theorem SnapOk.ren {sn : Snap} (h : SnapOk sn) {ts : List Stp} (ok : ∀ s ∈ ts, s.ok) (hl : ts.length ≤ 5) : SnapOk ⟨ts, renK ts sn.kept, sn.num⟩ := ⟨ok, hl, fun p hp => by
  obtain ⟨q, hq, e⟩ := List.mem_map.mp (renK_keys (List.mem_map.mpr ⟨p, hp, rfl⟩))
  have := h.lt q hq
  show p.1 < sn.num
  omega, (renK_sub ts sn.kept).nodup h.nd, h.num⟩
/-! ### promises -/
def spPutIn (K : PySem.W.Frag) : Sp := fun vs H Q _ => ∃ g fp st y, vs = [.ref g, y] ∧ GateS K H g fp st ∧ SnapOk st.cur ∧ st.past.length ≤ 900 ∧
  ((∃ x, y = vv x ∧ ((trace st.cur.ss x).length < st.cur.ss.length → ∀ t H', Same H H' → H' t = some (.tup [.str "refused", .int ((trace st.cur.ss x).length : Int)]) → Q (.ref t) H') ∧
      (¬ (trace st.cur.ss x).length < st.cur.ss.length → ∀ fp' H' t, GNext K H g fp ⟨⟨st.cur.ss, st.cur.kept ++ [(st.cur.num, outV st.cur.ss x)], st.cur.num + 1⟩, st.past ++ [st.cur]⟩ fp' H' → H' t = some (.tup [.str "good", .int (st.cur.num : Int)]) → Q (.ref t) H')) ∨
    (NotVal K H y ∧ ∀ t H', Same H H' → H' t = some (.tup [.str "bad"]) → Q (.ref t) H'))
def spTaken (K : PySem.W.Frag) : Sp := fun vs H Q _ => ∃ g fp st, ∃ n : Int, vs = [.ref g, .int n] ∧ GateS K H g fp st ∧ SnapOk st.cur ∧ st.past.length ≤ 900 ∧
  (hasN st.cur.kept n = false → ∀ t H', Same H H' → H' t = some (.tup [.str "none", .int n]) → Q (.ref t) H') ∧ (hasN st.cur.kept n = true → ∀ fp' H' t, GNext K H g fp ⟨⟨st.cur.ss, st.cur.kept.filter (fun p => decide ((p.1 : Int) ≠ n)), st.cur.num⟩, st.past ++ [st.cur]⟩ fp' H' → H' t = some (.tup [.str "good"]) → Q (.ref t) H')
def spLUndo (K : PySem.W.Frag) : Sp := fun vs H Q _ => ∃ g fp st, vs = [.ref g] ∧ GateS K H g fp st ∧ st.past.length ≤ 900 ∧ (st.past = [] → ∀ H', Same H H' → Q (.bl false) H') ∧ (∀ p s, st.past = p ++ [s] → ∀ fp' H', GNext K H g fp ⟨s, p⟩ fp' H' → Q (.bl true) H')
def spLook (K : PySem.W.Frag) : Sp := fun vs H Q _ => ∃ g fp st, ∃ n : Int, vs = [.ref g, .int n] ∧ GateS K H g fp st ∧ (hasN st.cur.kept n = false → ∀ t H', Same H H' → H' t = some (.tup [.str "none", .int n]) → Q (.ref t) H') ∧ (∀ v, valV (kk st.cur.kept) (Sum.inl n) = some (vv v) → ∀ H', Same H H' → Q (vv v) H')
def spLRenewed (K : PySem.W.Frag) : Sp := fun vs H Q _ => ∃ a sl kd l2 sn ts, vs = [.ref a, .ref l2] ∧ H a = some (.lst [.ref sl, .ref kd, .int (sn.num : Int)]) ∧ H kd = some (.dK (kk sn.kept)) ∧ SnapOk sn ∧ StepsL K H l2 ts ∧ (∀ s ∈ ts, s.ok) ∧ ts.length ≤ 5 ∧
  ∀ r a' kd' c H', Same H H' → H r = none → H' r = some (.lst [.ref a', .ref c]) → H a' = none → H' a' = some (.lst [.ref l2, .ref kd', .int (sn.num : Int)]) → H kd' = none → H' kd' = some (.dK (kk (renK ts sn.kept))) → H c = none → H' c = some (.lst ((renC ts sn.kept).map fun p => V.int (p.1 : Int))) → Q (.ref r) H'
def RowsL (K : PySem.W.Frag) (H : Hp) (l : Addr) (kept : List (Nat × Val)) : Prop := ∃ items, H l = some (.lst items) ∧ Paired (fun (p : Nat × Val) v => ∃ r, v = .ref r ∧ H r = some (.lst [.int (p.1 : Int), vv p.2])) kept items
theorem RowsL.same {K : PySem.W.Frag} {H H' : Hp} {l : Addr} {kept : List (Nat × Val)} (h : RowsL K H l kept) (s : Same H H') : RowsL K H' l kept := by
  obtain ⟨items, h1, h2⟩ := h
  exact ⟨items, s _ _ h1, L2.Paired.mapP h2 fun _ _ ⟨r, e, hr⟩ => ⟨r, e, s _ _ hr⟩⟩
def rowD (p : Nat × Val) : PyData := .list ([V.int (p.1 : Int), vv p.2].map pd)
theorem rows_dp {K : PySem.W.Frag} {H : Hp} {kept : List (Nat × Val)} {items : List V} (h : Paired (fun (p : Nat × Val) v => ∃ r, v = .ref r ∧ H r = some (.lst [.int (p.1 : Int), vv p.2])) kept items) : DpAll K H items (kept.map rowD) := by
  induction h with
  | nil => exact .nil
  | @cons p v l₁ l₂ f _ ih =>
    obtain ⟨r, rfl, hr⟩ := f
    exact .cons (.lst (lstAt hr) (pds_dp (by show (true && (flatV (vv p.2) && true)) = true; rw [vv_flat] <;> rfl))) ih
theorem RowsL.dp {K : PySem.W.Frag} {H : Hp} {l : Addr} {kept : List (Nat × Val)} (h : RowsL K H l kept) : Dp K H (.ref l) (.list (kept.map rowD)) := by
  obtain ⟨items, h1, h2⟩ := h
  exact .lst (lstAt h1) (rows_dp h2)
theorem rows_like (K : PySem.W.Frag) {kept : List (Nat × Val)} (hl : kept.length ≤ 100000) : LkOk 3 (.list (kept.map rowD)) := ⟨by rw [List.length_map]; exact hl, fun d hd => by
  obtain ⟨p, _, rfl⟩ := List.mem_map.mp hd
  exact like_lst (K := K) (by show (true && (flatV (vv p.2) && true)) = true; rw [vv_flat] <;> rfl) (by show 2 ≤ 100000; decide)⟩
def spLShown (K : PySem.W.Frag) : Sp := fun vs H Q _ => ∃ g fp st, vs = [.ref g] ∧ GateS K H g fp st ∧ SnapOk st.cur ∧ ∀ l H', Same H H' → RowsL K H' l st.cur.kept → Q (.ref l) H'
def spStands (K : PySem.W.Frag) : Sp := fun vs H Q _ => ∃ g a fp st sl kd items, vs = [.ref g, .ref a] ∧ GateS K H g fp st ∧ SnapOk st.cur ∧ H a = some (.lst [.ref sl, .ref kd, .int (st.cur.num : Int)]) ∧ H sl = some (.lst items) ∧ StepsAt H st.cur.ss items ∧ H kd = some (.dK (kk st.cur.kept)) ∧ ∀ H', Same H H' → Q (.bl true) H'
def spDeed (K : PySem.W.Frag) : Sp := fun vs H Q _ => ∃ d g a cells fp st Z, vs = [.ref d, .ref g, .ref a] ∧ Wd K H d cells g fp st Z ∧ SnapOk st.cur ∧ st.cur.num ≤ 800 ∧ st.past.length ≤ 800 ∧ LawS H fp Z a st.cur ∧
  ∀ r a' nw fp' st' H', Wd K H' d cells g fp' st' Z → Moved d fp H fp' H' → SnapOk st'.cur → st'.cur.num ≤ st.cur.num + 1 → LawS H' fp' Z a' st'.cur → H' r = some (.lst [.bl true, .ref a', .bl nw]) → ((nw = false ∧ st' = st) ∨ (nw = true ∧ st'.past = st.past ++ [st.cur])) → Q (.ref r) H'
end TB

set_option maxHeartbeats 4000000
namespace TB
open PySem PySem.Spec PyProof.Rows L2 TW LamX NdefX
theorem SqL.mvD {K : PySem.W.Frag} {H H' : Hp} {a t : Addr} {xs : List V} {kvs : List (Key × V)} (h : SqL K H t xs) (s : SameX a H H') (m : H a = some (.dK kvs)) : SqL K H' t xs := by
  rcases h with (h | ⟨o, h⟩) | h
  · exact .inl (.inl (s _ _ (fun e => by rw [e, m] at h; cases h) h))
  · exact .inl (.inr ⟨o, s _ _ (fun e => by rw [e, m] at h; cases h) h⟩)
  · exact .inr h
theorem StepsL.mvD {K : PySem.W.Frag} {H H' : Hp} {a t : Addr} {ss : List Stp} {kvs : List (Key × V)} (h : StepsL K H t ss) (s : SameX a H H') (m : H a = some (.dK kvs)) : StepsL K H' t ss := by
  obtain ⟨items, h1, h2⟩ := h
  exact ⟨items, SqL.mvD h1 s m, L2.Paired.mapP h2 fun _ _ ⟨u, e, hu⟩ => ⟨u, e, SqT.mv hu s (.inr (.inl ⟨_, m⟩))⟩⟩
theorem optN_eqv {K : PySem.W.Frag} {H : Hp} {Q : VK} {l m : Addr} {a : Option Val} (h1 : H l = some (.lst (optL a))) (h2 : H m = some (.lst [])) (q : Q (.bl a.isSome) H) : rNeD K (.ref l) (.ref m) H Q := w_neO (a := a) (b := none) h1 h2 (by
  cases a <;> exact q)
section
variable {J : It} {n : Nat} {G : Hp → Prop} {Y : Nat → Hp → V → Hp → Prop}
theorem w_lcP (w : Walk J n G Y) {g : TG} {tt : TT} {te : TE} {vs : List Nat} {σ : L2.St} {H1 : Hp} {Q : VK} (Pv : Addr → Nat → Hp → Prop) (h0 : ∀ D, H1 D = none → Pv D 0 (upd H1 D (.lst []))) (hG : ∀ D i H, H1 D = none → Pv D i H → G H)
    (hs : ∀ D i x H H', H1 D = none → i < n → Pv D i H → Y i H x H' → g x (wipe σ vs) H' fun σ2 H2 => wipe σ2 vs = wipe σ vs ∧ tt σ2 H2 fun b H3 =>
      if b = true then te σ2 H3 fun y H4 => ∃ a, H4 D = some (.lst a) ∧ a.length < sizeLine ∧ Pv D (i + 1) (upd H4 D (.lst (a ++ [y]))) else Pv D (i + 1) H3)
    (hd : ∀ D H', H1 D = none → Pv D n H' → Q (.ref D) H') : rLc H1 J g tt te vs σ Q := fun D hD =>
  lc_it w (Qd := fun H => Q (.ref D) H) (Pv D) (h0 D hD) (fun i H _ p => hG D i H hD p) (fun i x H H' hi p y => hs D i x H H' hD hi p y) fun H p => hd D H hD p
end
theorem same_fr {H H' : Hp} {p : Addr} (s : Same H H') (h : H' p = none) : H p = none := same_free' s h
/-- one row more -/
theorem RowsL.add {K : PySem.W.Frag} {H1 H H4 : Hp} {D r : Addr} {l : List (Nat × Val)} {i : Nat} {p : Nat × Val} (hD : H1 D = none) (s : Same H1 H) (h : RowsL K H D (l.take i)) (hp : l[i]? = some p) (hl : l.length ≤ 900) (s4 : Same H H4) (hr : H4 r = some (.lst [.int (p.1 : Int), vv p.2])) (hn : H r = none) :
    ∃ a, H4 D = some (.lst a) ∧ a.length < sizeLine ∧ (Same H1 (upd H4 D (.lst (a ++ [.ref r]))) ∧ RowsL K (upd H4 D (.lst (a ++ [.ref r]))) D (l.take (i + 1))) := by
  obtain ⟨items, h1, h2⟩ := h
  have hlen := h2.length
  rw [List.length_take] at hlen
  have nrD : r ≠ D := fun e => by rw [e, h1] at hn; cases hn
  refine ⟨items, s4 _ _ h1, len_lt (by omega), fun b o hb => by rw [upd_ne (ne_of_none hb hD)]; exact s4 _ _ (s _ _ hb), items ++ [.ref r], upd_same, ?_⟩
  rw [List.take_succ, hp]
  refine Paired.app ?_ (.cons ⟨r, rfl, by rw [upd_ne nrD]; exact hr⟩ .nil)
  have allr : ∀ v ∈ items, ∃ r, v = .ref r := fun v hv => by
    obtain ⟨i, hi⟩ := List.mem_iff_getElem?.mp hv
    obtain ⟨_, _, r, e, _⟩ := Paired.at_ h2 hi
    exact ⟨r, e⟩
  have s5 := s4 _ _ h1
  refine L2.Paired.mapP h2 fun p v ⟨r', e, hr'⟩ => ⟨r', e, ?_⟩
  have ne : r' ≠ D := fun e => by
    rw [e, h1] at hr'
    have e2 : items = [.int (p.1 : Int), vv p.2] := by injection (Option.some.inj hr')
    obtain ⟨_, q⟩ := allr (.int (p.1 : Int)) (by rw [e2]; simp)
    cases q
  rw [upd_ne ne]
  exact s4 _ _ hr'
theorem w_neT {K : PySem.W.Frag} {H : Hp} {Q : VK} {t p : Addr} {xs : List V} (h1 : SqT K H t xs) (h2 : SqT K H p xs) (hf : xs.all flatV = true) (sh : SeqAt.shaped (.tuple (xs.map pd)) = true) (q : Q (.bl false) H) : rNeD K (.ref t) (.ref p) H Q :=
  w_neD (.tup h1 (pds_dp hf)) (.tup h2 (pds_dp hf)) sh sh (by rw [eqv_self sh]; exact q)
theorem w_eqT {K : PySem.W.Frag} {H : Hp} {Q : VK} {t p : Addr} {xs : List V} (h1 : SqT K H t xs) (h2 : SqT K H p xs) (hf : xs.all flatV = true) (sh : SeqAt.shaped (.tuple (xs.map pd)) = true) (q : Q (.bl true) H) : rEqD K (.ref t) (.ref p) H Q :=
  w_eqD (.tup h1 (pds_dp hf)) (.tup h2 (pds_dp hf)) sh sh (by rw [eqv_self sh]; exact q)
theorem tag_shaped {z : Str} (i : Int) (h : PyData.strOk z = true) : SeqAt.shaped (.tuple ([V.str z, .int i].map pd)) = true := by
  refine shaped_tup ?_ ?_
  · show PyData.canLayAll0 [PyData.str z, .int i] = true
    simp [PyData.canLayAll0, h, PyData.canLay0]
  · show PyData.depthAll [PyData.str z, .int i] ≤ 3
    simp [PyData.depthAll, PyData.depth]
theorem one_shaped {z : Str} (h : PyData.strOk z = true) : SeqAt.shaped (.tuple ([V.str z].map pd)) = true := by
  refine shaped_tup ?_ ?_
  · show PyData.canLayAll0 [PyData.str z] = true
    simp [PyData.canLayAll0, PyData.canLay0, h]
  · show PyData.depthAll [PyData.str z] ≤ 3
    simp [PyData.depthAll, PyData.depth]
theorem vv_like (K : PySem.W.Frag) {n : Nat} (v : Val) : LkOk (n + 1) (pd (vv v)) := by cases v <;> trivial
end TB

set_option maxHeartbeats 4000000
/-! outcomes, bounds, others: promises -/
namespace TB
open PySem PySem.Spec PyProof.Rows L2 TW LamX NdefX
theorem paired_mem {α β : Type} {F G : α → β → Prop} : ∀ {l₁ : List α} {l₂ : List β}, Paired F l₁ l₂ → (∀ a b, b ∈ l₂ → F a b → G a b) → Paired G l₁ l₂
  | _, _, .nil, _ => .nil
  | _, _, .cons h t, k => .cons (k _ _ List.mem_cons_self h) (paired_mem t fun a b hb => k a b (List.mem_cons_of_mem _ hb))
theorem eqV_vv (x y : Val) : eqV (vv x) (vv y) = decide (x = y) := by
  have ii : ∀ i j : Int, (i == j) = decide (Val.int i = Val.int j) := fun i j => by
    by_cases h : i = j
    · rw [h]; simp
    · rw [decide_eq_false (fun e => h (Val.int.inj e))]; exact beq_eq_false_iff_ne.mpr h
  cases x <;> cases y <;> first
    | exact ii _ _
    | decide +kernel
    | exact (decide_eq_false (fun e => by cases e)).symm
theorem inV_vv (x : Val) (L : List Val) : inV (vv x) (L.map vv) = decide (x ∈ L) := by
  unfold inV
  rw [List.any_map]
  have e : ((fun y => eqV y (vv x)) ∘ vv) = fun y : Val => decide (y = x) := funext fun y => eqV_vv y x
  rw [e]
  by_cases h : x ∈ L
  · rw [decide_eq_true h]; exact List.any_eq_true.mpr ⟨x, h, by simp⟩
  · rw [decide_eq_false h]; exact List.any_eq_false.mpr fun y hy => by simp; rintro rfl; exact h hy
theorem flat_vv (L : List Val) : (L.map vv).all flatV = true := by
  rw [List.all_map]; exact List.all_eq_true.mpr fun v _ => vv_flat v
theorem w_inVv {K : PySem.W.Frag} {H : Hp} {Q : VK} {p : Addr} {x : Val} {L : List Val} (h : SqL K H p (L.map vv)) (q : Q (.bl (decide (x ∈ L))) H) : rIn K false (vv x) (.ref p) H Q := w_inL h (vv_flat x) (flat_vv L) (by rw [inV_vv]; exact q)
/-- rows of results -/
def OutL (H : Hp) (D : Addr) (l : List (Option Val)) : Prop := ∃ items, H D = some (.lst items) ∧ Paired (fun o v => ∃ r, v = .ref r ∧ H r = some (.lst (optL o))) l items
theorem OutL.same {H H' : Hp} {D : Addr} {l : List (Option Val)} (h : OutL H D l) (s : Same H H') : OutL H' D l := by
  obtain ⟨items, h1, h2⟩ := h
  exact ⟨items, s _ _ h1, L2.Paired.mapP h2 fun _ _ ⟨r, e, hr⟩ => ⟨r, e, s _ _ hr⟩⟩
theorem OutL.at1 {K : PySem.W.Frag} {H : Hp} {D : Addr} {l : List (Option Val)} (h : OutL H D l) : ∃ items, H D = some (.lst items) ∧ items.length = l.length ∧ ∀ (i : Nat) (v : V), items[i]? = some v → ∃ o r, l[i]? = some o ∧ v = .ref r ∧ H r = some (.lst (optL o)) := by
  obtain ⟨items, h1, h2⟩ := h
  refine ⟨items, h1, h2.length.symm, fun i v hi => ?_⟩
  obtain ⟨o, ho, r, e, hr⟩ := Paired.at_ h2 hi
  exact ⟨o, r, ho, e, hr⟩
theorem OutL.add {H1 H H4 : Hp} {D r : Addr} {l : List (Option Val)} {i : Nat} {o : Option Val} (hD : H1 D = none) (s : Same H1 H) (h : OutL H D (l.take i)) (hp : l[i]? = some o) (hl : l.length ≤ 100000) (s4 : Same H H4) (hr : H4 r = some (.lst (optL o))) (hn : H r = none) :
    ∃ a, H4 D = some (.lst a) ∧ a.length < sizeLine ∧ (Same H1 (upd H4 D (.lst (a ++ [.ref r]))) ∧ OutL (upd H4 D (.lst (a ++ [.ref r]))) D (l.take (i + 1))) := by
  obtain ⟨items, h1, h2⟩ := h
  have hlen := h2.length
  rw [List.length_take] at hlen
  have nrD : r ≠ D := fun e => by rw [e, h1] at hn; cases hn
  refine ⟨items, s4 _ _ h1, len_lt (by omega), fun b o hb => by rw [upd_ne (ne_of_none hb hD)]; exact s4 _ _ (s _ _ hb), items ++ [.ref r], upd_same, ?_⟩
  rw [List.take_succ, hp]
  refine Paired.app ?_ (.cons ⟨r, rfl, by rw [upd_ne nrD]; exact hr⟩ .nil)
  have allr : ∀ v ∈ items, ∃ r, v = .ref r := fun v hv => by
    obtain ⟨i, hi⟩ := List.mem_iff_getElem?.mp hv
    obtain ⟨_, _, r, e, _⟩ := Paired.at_ h2 hi
    exact ⟨r, e⟩
  have ne0 : ∀ (o' : Option Val) (r' : Addr) (v : V), v ∈ items → v = .ref r' → H r' = some (.lst (optL o')) → r' ≠ D := fun o' r' v hv e hr' z => by
    rw [z, h1] at hr'
    have e2 : items = optL o' := by injection (Option.some.inj hr')
    rw [e2] at hv
    cases o' with
    | none => cases hv
    | some x =>
      simp only [optL, List.mem_cons, List.not_mem_nil, or_false] at hv
      rw [e] at hv
      cases x <;> cases hv
  obtain hm : ∀ v ∈ items, v ∈ items := fun v h => h
  exact paired_mem h2 fun o' v hv ⟨r', e, hr'⟩ => ⟨r', e, by rw [upd_ne (ne0 o' r' v hv e hr')]; exact s4 _ _ hr'⟩
theorem pt_truK {X : Cx} (K : PySem.W.Frag) (h : X.K = K) {a : Expr} {ta : TE} (ha : PE X a ta) (he : ∀ whole, isTrue a X.env whole = (do let v ← whole; standAt a.pos; holding [v] (truthy v))) : PT X a (tTru K ta) := h ▸ pt_tru ha he
/-! promises -/
def nearN (ss : List Stp) : List Int := numsOf' (outsOf ss (nearL ss))
theorem outs_len {ss : List Stp} (ok : ∀ s ∈ ss, s.ok) (hl : ss.length ≤ 100) : (outsOf ss (nearL ss)).length ≤ 50000 := by
  have h1 := List.length_filterMap_le (TW.run ss) (nearL ss)
  have h2 : (nearL ss).length = _ := vals_len (look ss)
  have := look_eq ok; have := reach_le ok; have := per_le ok
  show (List.filterMap _ _).length ≤ _
  omega
def spSlope (K : PySem.W.Frag) : Sp := fun vs H Q _ => ∃ (c : Addr) (side : Int) (ss : List Stp), vs = [.ref c, .int side] ∧ ChainS K H c ss ∧ (∀ s ∈ ss, s.ok) ∧ ss.length ≤ 100 ∧ (side = 1 ∨ side = -1) ∧ ∀ H', Same H H' → Q (.int (slp ss side)) H'
def spOutcomes (K : PySem.W.Frag) : Sp := fun vs H Q _ => ∃ (c : Addr) (ss : List Stp), vs = [.ref c] ∧ ChainS K H c ss ∧ (∀ s ∈ ss, s.ok) ∧ ss.length ≤ 100 ∧ NewL ((outsOf ss (nearL ss)).map vv) H Q
def LowP (ss : List Stp) (lo : V) : Prop := (noLow ss = true ∧ lo = .str "none") ∨ (noLow ss = false ∧ ∃ M, lo = .int M ∧ M ∈ nearN ss ∧ ∀ a ∈ nearN ss, M ≤ a)
def HighP (ss : List Stp) (hi : V) : Prop := (noHigh ss = true ∧ hi = .str "none") ∨ (noHigh ss = false ∧ ∃ M, hi = .int M ∧ M ∈ nearN ss ∧ ∀ a ∈ nearN ss, a ≤ M)
def BndP (ss : List Stp) (lo hi : V) : Prop := (nearN ss = [] ∧ lo = .non ∧ hi = .non) ∨ (nearN ss ≠ [] ∧ LowP ss lo ∧ HighP ss hi)
def spBounds (K : PySem.W.Frag) : Sp := fun vs H Q _ => ∃ (c : Addr) (ss : List Stp), vs = [.ref c] ∧ ChainS K H c ss ∧ (∀ s ∈ ss, s.ok) ∧ ss.length ≤ 100 ∧ ∀ p lo hi H', Same H H' → H' p = some (.tup [lo, hi]) → BndP ss lo hi → Q (.ref p) H'
def wordsIn (L : List Val) : List Val := ([.non, .a, .b, .c] : List Val).filter fun w => decide (w ∈ L)
def spOthers (K : PySem.W.Frag) : Sp := fun vs H Q _ => ∃ (c : Addr) (ss : List Stp), vs = [.ref c] ∧ ChainS K H c ss ∧ (∀ s ∈ ss, s.ok) ∧ ss.length ≤ 100 ∧ NewL ((wordsIn (outsOf ss (nearL ss))).map vv) H Q
end TB

set_option maxHeartbeats 4000000
/-! walks: states in the heap, promises -/
namespace TB
open PySem PySem.Spec PyProof.Rows L2 TW LamX NdefX
section
variable {P : Program} {w : World} {σ : L2.St} {H : Hp} {Q : VK} {ty td tv : TE} {D : Ends} {a : Addr}
def rNg (P : Program) (w : World) (x y : V) (H : Hp) (Q : VK) : Prop := ∃ a v, x = .ref a ∧ NGet P w H a y (some v) ∧ Q v H
def rNi (P : Program) (w : World) (y x : V) (H : Hp) (Q : VK) : Prop := ∃ a o, x = .ref a ∧ NGet P w H a y o ∧ Q (.bl o.isSome) H
def rNn (P : Program) (w : World) (y x : V) (H : Hp) (Q : VK) : Prop := ∃ a o, x = .ref a ∧ NGet P w H a y o ∧ Q (.bl (!o.isSome)) H
def rNp (P : Program) (w : World) (x y v : V) (H : Hp) (R : Hp → Prop) : Prop := ∃ a H4, x = .ref a ∧ NPut P w H a y v H4 ∧ R H4
theorem w_nGet (h : td σ H fun x H1 => ty σ H1 fun y H2 => rNg P w x y H2 Q) : tNGet P w td ty σ H Q := h
theorem w_nIn (h : ty σ H fun y H1 => td σ H1 fun x H2 => rNi P w y x H2 Q) : tNIn P w ty td σ H Q := h
theorem w_nNot (h : ty σ H fun y H1 => td σ H1 fun x H2 => rNn P w y x H2 Q) : tNNotIn P w ty td σ H Q := h
theorem w_nPut (h : tv σ H fun v H1 => td σ H1 fun x H2 => ty σ H2 fun y H3 => rNp P w x y v H3 (D.nx σ)) : sNPut P w td ty tv D σ H := h
theorem w_newS (h : ∀ p, H p = none → Q (.ref p) (upd H p (SeenO P w p []))) : tNewS P w σ H Q := h
theorem w_newM (h : ∀ p, H p = none → Q (.ref p) (upd H p (MarkO P w p []))) : tNewM P w σ H Q := h
end
theorem while_fuel {c : TT} {tb : TS} {D : Ends} {σ : L2.St} {H : Hp} (Pv : Nat → L2.St → Hp → Prop) (m0 : Nat) (h0 : Pv m0 σ H)
    (hs : ∀ m σ H, Pv m σ H → c σ H fun b H1 => if b = true then tb { D with nx := fun σ' H' => ∃ m', m' < m ∧ Pv m' σ' H', ct := fun σ' H' => ∃ m', m' < m ∧ Pv m' σ' H', bk := D.nx } σ H1 else D.nx σ H1)
    (mono : ∀ σ H Q Q', (∀ b H1, Q b H1 → Q' b H1) → c σ H Q → c σ H Q') : tWhile c tb D σ H := by
  refine ⟨fun m σ H => Pv m σ H, ⟨_, h0⟩, ?_⟩
  intro m σ H p
  refine mono σ H _ _ (fun b H1 q => ?_) (hs m σ H p)
  cases b with
  | true => exact ⟨_, fun σ' H' h => h, q⟩
  | false => exact q
theorem true_mono : ∀ (σ : L2.St) (H : Hp) (Q Q' : Bool → Hp → Prop), (∀ b H1, Q b H1 → Q' b H1) → tB (tC (.bl true)) σ H Q → tB (tC (.bl true)) σ H Q' := fun σ H Q Q' h hq => by
  obtain ⟨k, e, q⟩ := hq
  exact ⟨k, e, h _ _ q⟩
theorem w_absI {H : Hp} {Q : VK} {i : Int} (q : Q (.int (iabs i)) H) : rAbs [.int i] H Q := ⟨i, rfl, q⟩
def seenK (l : List (Val × Int)) : List (Leaf × V) := l.map fun p => (lf p.1, V.int p.2)
theorem seen_val (l : List (Val × Int)) (v : Val) : valV (seenK l) (lf v) = (lookE l v).map V.int := by
  unfold seenK
  induction l with
  | nil => rfl
  | cons p l ih =>
    rw [List.map_cons]
    unfold lookE
    rw [List.find?_cons]
    by_cases e : p.1 = v
    · rw [valV_pos (by rw [e]), decide_eq_true e]; rfl
    · rw [valV_neg (fun z => e (lf_inj z)), decide_eq_false e]
      exact ih
theorem seen_put {l : List (Val × Int)} {v : Val} (h : lookE l v = none) (n : Int) : putK (seenK l) (lf v) (V.int n) = seenK (l ++ [(v, n)]) := by
  rw [putK_new _ (by rw [seen_val, h]; rfl)]
  unfold seenK
  rw [List.map_append]
  rfl
theorem seenK_len (l : List (Val × Int)) : (seenK l).length = l.length := List.length_map _
def wFs (t : Addr) (v : Val) (n : Int) (sd : Addr) (far per : Int) (md : Addr) : List (Str × V) := [("steps", .ref t), ("value", vv v), ("times", .int n), ("seen", .ref sd), ("far", .int far), ("period", .int per), ("marks", .ref md)]
def MarkS (H : Hp) (l : List (Mark × Int × Int)) (ms : List MK) : Prop := Paired (fun k m => m.1 = k.1 ∧ H m.2.1 = some (.tup [.bl k.1.1, .int k.1.2]) ∧ H m.2.2 = some (.tup [.int k.2.1, .int k.2.2])) l ms
theorem MarkS.find {H : Hp} {l : List (Mark × Int × Int)} {ms : List MK} (h : MarkS H l ms) (p : Mark) : (lookE l p = none ∧ findM ms p = none) ∨ ∃ size time t, lookE l p = some (size, time) ∧ findM ms p = some t ∧ H t = some (.tup [.int size, .int time]) := by
  unfold MarkS at h
  induction h with
  | nil => exact .inl ⟨rfl, rfl⟩
  | @cons k m l₁ l₂ f _ ih =>
    obtain ⟨e, h1, h2⟩ := f
    unfold lookE findM at *
    rw [List.find?_cons, List.find?_cons]
    by_cases q : k.1 = p
    · rw [decide_eq_true q, decide_eq_true (e.trans q)]
      exact .inr ⟨_, _, _, rfl, rfl, h2⟩
    · rw [decide_eq_false q, decide_eq_false (fun z => q (e.symm.trans z))]
      exact ih
theorem MarkS.ok {H : Hp} {l : List (Mark × Int × Int)} {ms : List MK} (h : MarkS H l ms) : MarksOk H ms := by
  unfold MarkS at h
  induction h with
  | nil => intro m hm; cases hm
  | @cons k m l₁ l₂ f _ ih =>
    intro m' hm
    rcases List.mem_cons.mp hm with e | e
    · subst e; rw [f.1]; exact f.2.1
    · exact ih m' e
theorem MarkS.moves {H H' : Hp} {l : List (Mark × Int × Int)} {ms : List MK} (h : MarkS H l ms) (k : ∀ b xs, H b = some (.tup xs) → H' b = some (.tup xs)) : MarkS H' l ms := L2.Paired.mapP h fun _ _ ⟨e, h1, h2⟩ => ⟨e, k _ _ h1, k _ _ h2⟩
theorem w_inSeen {P : Program} {w : World} {H : Hp} {Q : VK} {sd : Addr} {l : List (Val × Int)} {v : Val} (h : H sd = some (SeenO P w sd (seenK l))) (q : Q (.bl (lookE l v).isSome) H) : rNi P w (vv v) (.ref sd) H Q :=
  ⟨sd, _, rfl, .inl ⟨_, v, h, rfl, rfl⟩, by rw [seen_val, Option.isSome_map]; exact q⟩
theorem w_getSeen {P : Program} {w : World} {H : Hp} {Q : VK} {sd : Addr} {l : List (Val × Int)} {v : Val} {n : Int} (h : H sd = some (SeenO P w sd (seenK l))) (e : lookE l v = some n) (q : Q (.int n) H) : rNg P w (.ref sd) (vv v) H Q :=
  ⟨sd, .int n, rfl, .inl ⟨_, v, h, rfl, by rw [seen_val, e]; rfl⟩, q⟩
theorem w_putSeen {P : Program} {w : World} {H : Hp} {R : Hp → Prop} {sd : Addr} {l : List (Val × Int)} {v : Val} {n : Int} (h : H sd = some (SeenO P w sd (seenK l))) (e : lookE l v = none) (hl : l.length ≤ 2000000) (q : R (upd H sd (SeenO P w sd (seenK (l ++ [(v, n)]))))) : rNp P w (.ref sd) (vv v) (.int n) H R :=
  ⟨sd, _, rfl, .inl ⟨_, v, h, rfl, by rw [seenK_len, sizeLine_eq]; omega, rfl⟩, by rw [seen_put e]; exact q⟩
theorem w_notMark {P : Program} {w : World} {H : Hp} {Q : VK} {md b : Addr} {l : List (Mark × Int × Int)} {ms : List MK} {p : Mark} (h : H md = some (MarkO P w md ms)) (hm : MarkS H l ms) (hb : H b = some (.tup [.bl p.1, .int p.2])) (q : Q (.bl (!(lookE l p).isSome)) H) : rNn P w (.ref b) (.ref md) H Q := by
  refine ⟨md, _, rfl, .inr ⟨ms, p, b, h, hm.ok, rfl, hb, rfl⟩, ?_⟩
  rcases hm.find p with ⟨a, c⟩ | ⟨_, _, _, a, c, _⟩
  · rw [c]; rw [a] at q; exact q
  · rw [c]; rw [a] at q; exact q
theorem w_getMark {P : Program} {w : World} {H : Hp} {Q : VK} {md b : Addr} {l : List (Mark × Int × Int)} {ms : List MK} {p : Mark} {size time : Int} (h : H md = some (MarkO P w md ms)) (hm : MarkS H l ms) (hb : H b = some (.tup [.bl p.1, .int p.2])) (e : lookE l p = some (size, time)) (q : ∀ t, H t = some (.tup [.int size, .int time]) → Q (.ref t) H) : rNg P w (.ref md) (.ref b) H Q := by
  rcases hm.find p with ⟨a, c⟩ | ⟨s', t', t, a, c, ht⟩
  · rw [a] at e; cases e
  · rw [a] at e
    cases e
    exact ⟨md, .ref t, rfl, .inr ⟨ms, p, b, h, hm.ok, rfl, hb, by rw [c]; rfl⟩, q t ht⟩
theorem w_putMark {P : Program} {w : World} {H : Hp} {R : Hp → Prop} {md b t : Addr} {l : List (Mark × Int × Int)} {ms : List MK} {p : Mark} (h : H md = some (MarkO P w md ms)) (hm : MarkS H l ms) (hb : H b = some (.tup [.bl p.1, .int p.2])) (e : lookE l p = none) (hl : ms.length ≤ 2000000) (q : R (upd H md (MarkO P w md (ms ++ [(p, b, t)])))) : rNp P w (.ref md) (.ref b) (.ref t) H R := by
  rcases hm.find p with ⟨a, c⟩ | ⟨_, _, _, a, c, _⟩
  · exact ⟨md, _, rfl, .inr ⟨ms, p, b, t, h, hm.ok, rfl, rfl, hb, c, by rw [sizeLine_eq]; omega, rfl⟩, q⟩
  · rw [a] at e; cases e
/-- the heap without an instance -/
def offH (H : Hp) (x : Addr) : Hp := fun b => if b = x then none else H b
theorem SqT.offI {K : PySem.W.Frag} {H : Hp} {x a C dx : Addr} {fs : List (Str × V)} {xs : List V} (hx : H x = some (.ins C dx fs)) (h : SqT K H a xs) : SqT K (offH H x) a xs := by
  have key : ∀ o, H a = some o → (∀ C dx fs, o ≠ .ins C dx fs) → offH H x a = some o := fun o h n => by
    unfold offH
    rw [if_neg (fun e => by rw [e, hx] at h; exact n _ _ _ (Option.some.inj h).symm)]
    exact h
  rcases h with (h | ⟨o, h⟩) | h
  · exact .inl (.inl (key _ h (fun _ _ _ z => by cases z)))
  · exact .inl (.inr ⟨o, key _ h (fun _ _ _ z => by cases z)⟩)
  · exact .inr h
theorem StepsT.offI {K : PySem.W.Frag} {H : Hp} {x a C dx : Addr} {fs : List (Str × V)} {ss : List Stp} (hx : H x = some (.ins C dx fs)) (h : StepsT K H a ss) : StepsT K (offH H x) a ss := by
  obtain ⟨items, h1, h2⟩ := h
  exact ⟨items, SqT.offI hx h1, L2.Paired.mapP h2 fun _ _ ⟨u, e, hu⟩ => ⟨u, e, SqT.offI hx hu⟩⟩
theorem offH_upd {H H1 : Hp} {x : Addr} {o : HO} (s : Same (offH H x) H1) : Same (offH H x) (upd H1 x o) := fun b u h => by
  have n : b ≠ x := fun e => by rw [e] at h; unfold offH at h; rw [if_pos rfl] at h; cases h
  rw [upd_ne n]; exact s b u h
theorem offH_self {H : Hp} {x : Addr} : Same (offH H x) H := fun b u h => by
  unfold offH at h
  split at h
  · cases h
  · exact h
theorem offH_at {H : Hp} {x b : Addr} {o : HO} (n : b ≠ x) (h : H b = some o) : offH H x b = some o := by unfold offH; rw [if_neg n]; exact h
theorem ChainS.offI {K : PySem.W.Frag} {H : Hp} {x c C dx : Addr} {ss : List Stp} (hx : H x = some (.ins C dx [])) (h : ChainS K H c ss) : ChainS K (offH H x) c ss := by
  obtain ⟨dc, t, h1, h2⟩ := h
  exact ⟨dc, t, offH_at (fun e => by rw [e, hx] at h1; injection (Option.some.inj h1) with _ _ e; cases e) h1, StepsT.offI hx h2⟩
/-- a walk in the heap; H0 is the heap that knows nothing of it -/
def WalkS (P : Program) (w : World) (K : PySem.W.Frag) (H0 H : Hp) (x : Addr) (ss : List Stp) (st : WSt) : Prop := ∃ dx t sd md, ∃ ms : List MK, (Same H0 H ∧ H0 x = none ∧ H0 sd = none ∧ H0 md = none ∧ sd ≠ md) ∧
  H x = some (.ins (He.ga K "Walk") dx (wFs t st.v st.n sd (begO ss) (per ss) md)) ∧ StepsT K H0 t ss ∧ H sd = some (SeenO P w sd (seenK st.seen)) ∧ H md = some (MarkO P w md ms) ∧ MarkS H st.marks ms
theorem WalkS.same {P : Program} {w : World} {K : PySem.W.Frag} {H0 H H' : Hp} {x : Addr} {ss : List Stp} {st : WSt} (h : WalkS P w K H0 H x ss st) (s : Same H H') : WalkS P w K H0 H' x ss st := by
  obtain ⟨dx, t, sd, md, ms, ⟨a, b, c, d, e⟩, h1, h2, h3, h4, h5⟩ := h
  exact ⟨dx, t, sd, md, ms, ⟨Same.trans a s, b, c, d, e⟩, s _ _ h1, h2, s _ _ h3, s _ _ h4, h5.moves fun b xs q => s _ _ q⟩
section
variable {P : Program} {w : World} {K : PySem.W.Frag} {H0 H : Hp} {x dx t sd md : Addr} {ss : List Stp} {v : Val} {n : Int} {seen : List (Val × Int)} {marks : List (Mark × Int × Int)} {ms : List MK}
theorem walk_setM {ms' : List MK} {l' : List (Mark × Int × Int)} (h0 : Same H0 H ∧ H0 x = none ∧ H0 sd = none ∧ H0 md = none ∧ sd ≠ md) (h1 : H x = some (.ins (He.ga K "Walk") dx (wFs t v n sd (begO ss) (per ss) md))) (h2 : StepsT K H0 t ss) (h3 : H sd = some (SeenO P w sd (seenK seen))) (h4 : H md = some (MarkO P w md ms)) (hm : MarkS H l' ms') :
    WalkS P w K H0 (upd H md (MarkO P w md ms')) x ss ⟨v, n, seen, l'⟩ := by
  obtain ⟨a, b, c, d, e⟩ := h0
  have nx : x ≠ md := fun q => by rw [q, h4] at h1; cases h1
  refine ⟨dx, t, sd, md, ms', ⟨fun y o h => ?_, b, c, d, e⟩, by rw [upd_ne nx]; exact h1, h2, by rw [upd_ne e]; exact h3, upd_same, hm.moves fun y xs h => ?_⟩
  · rw [upd_ne (fun q => by rw [q, d] at h; cases h)]; exact a y o h
  · rw [upd_ne (fun q => by rw [q, h4] at h; cases h)]; exact h
theorem walk_setS {seen' : List (Val × Int)} (h0 : Same H0 H ∧ H0 x = none ∧ H0 sd = none ∧ H0 md = none ∧ sd ≠ md) (h1 : H x = some (.ins (He.ga K "Walk") dx (wFs t v n sd (begO ss) (per ss) md))) (h2 : StepsT K H0 t ss) (h3 : H sd = some (SeenO P w sd (seenK seen))) (h4 : H md = some (MarkO P w md ms)) (hm : MarkS H marks ms) :
    WalkS P w K H0 (upd H sd (SeenO P w sd (seenK seen'))) x ss ⟨v, n, seen', marks⟩ := by
  obtain ⟨a, b, c, d, e⟩ := h0
  have nx : x ≠ sd := fun q => by rw [q, h3] at h1; cases h1
  refine ⟨dx, t, sd, md, ms, ⟨fun y o h => ?_, b, c, d, e⟩, by rw [upd_ne nx]; exact h1, h2, upd_same, by rw [upd_ne (Ne.symm e)]; exact h4, hm.moves fun y xs h => ?_⟩
  · rw [upd_ne (fun q => by rw [q, c] at h; cases h)]; exact a y o h
  · rw [upd_ne (fun q => by rw [q, h3] at h; cases h)]; exact h
theorem walk_setF {v' : Val} {n' : Int} (h0 : Same H0 H ∧ H0 x = none ∧ H0 sd = none ∧ H0 md = none ∧ sd ≠ md) (h1 : H x = some (.ins (He.ga K "Walk") dx (wFs t v n sd (begO ss) (per ss) md))) (h2 : StepsT K H0 t ss) (h3 : H sd = some (SeenO P w sd (seenK seen))) (h4 : H md = some (MarkO P w md ms)) (hm : MarkS H marks ms) :
    WalkS P w K H0 (upd H x (.ins (He.ga K "Walk") dx (wFs t v' n' sd (begO ss) (per ss) md))) x ss ⟨v', n', seen, marks⟩ := by
  obtain ⟨a, b, c, d, e⟩ := h0
  have n1 : sd ≠ x := fun q => by rw [← q, h3] at h1; cases h1
  have n2 : md ≠ x := fun q => by rw [← q, h4] at h1; cases h1
  refine ⟨dx, t, sd, md, ms, ⟨fun y o h => ?_, b, c, d, e⟩, upd_same, h2, by rw [upd_ne n1]; exact h3, by rw [upd_ne n2]; exact h4, hm.moves fun y xs h => ?_⟩
  · rw [upd_ne (fun q => by rw [q, b] at h; cases h)]; exact a y o h
  · rw [upd_ne (fun q => by rw [q, h1] at h; cases h)]; exact h
/-- a new dict for what is seen -/
theorem walk_newS {sd' : Addr} (h0 : Same H0 H ∧ H0 x = none ∧ H0 sd = none ∧ H0 md = none ∧ sd ≠ md) (h1 : H x = some (.ins (He.ga K "Walk") dx (wFs t v n sd (begO ss) (per ss) md))) (h2 : StepsT K H0 t ss) (h4 : H md = some (MarkO P w md ms)) (hm : MarkS H marks ms) (hs : H sd' = none) :
    WalkS P w K H0 (upd (upd H sd' (SeenO P w sd' [])) x (.ins (He.ga K "Walk") dx (wFs t v n sd' (begO ss) (per ss) md))) x ss ⟨v, n, [], marks⟩ := by
  obtain ⟨a, b, c, d, e⟩ := h0
  have n1 : sd' ≠ x := fun q => by rw [q, h1] at hs; cases hs
  have n2 : md ≠ x := fun q => by rw [← q, h4] at h1; cases h1
  have n3 : sd' ≠ md := fun q => by rw [q, h4] at hs; cases hs
  have s := Same.new (o := SeenO P w sd' []) hs
  refine ⟨dx, t, sd', md, ms, ⟨fun y o h => ?_, b, same_free' a hs, d, n3⟩, upd_same, h2, by rw [upd_ne n1]; exact upd_same, by rw [upd_ne n2, upd_ne (Ne.symm n3)]; exact h4, hm.moves fun y xs h => ?_⟩
  · rw [upd_ne (fun q => by rw [q, b] at h; cases h)]; exact s _ _ (a y o h)
  · rw [upd_ne (fun q => by rw [q, h1] at h; cases h)]; exact s _ _ h
/-- a new dict for the marks -/
theorem walk_newM {md' : Addr} (h0 : Same H0 H ∧ H0 x = none ∧ H0 sd = none ∧ H0 md = none ∧ sd ≠ md) (h1 : H x = some (.ins (He.ga K "Walk") dx (wFs t v n sd (begO ss) (per ss) md))) (h2 : StepsT K H0 t ss) (h3 : H sd = some (SeenO P w sd (seenK seen))) (hs : H md' = none) :
    WalkS P w K H0 (upd (upd H md' (MarkO P w md' [])) x (.ins (He.ga K "Walk") dx (wFs t v n sd (begO ss) (per ss) md'))) x ss ⟨v, n, seen, []⟩ := by
  obtain ⟨a, b, c, d, e⟩ := h0
  have n1 : md' ≠ x := fun q => by rw [q, h1] at hs; cases hs
  have n2 : sd ≠ x := fun q => by rw [← q, h3] at h1; cases h1
  have n3 : sd ≠ md' := fun q => by rw [← q, h3] at hs; cases hs
  have s := Same.new (o := MarkO P w md' []) hs
  refine ⟨dx, t, sd, md', [], ⟨fun y o h => ?_, b, c, same_free' a hs, n3⟩, upd_same, h2, by rw [upd_ne n2, upd_ne n3]; exact h3, by rw [upd_ne n1]; exact upd_same, .nil⟩
  · rw [upd_ne (fun q => by rw [q, b] at h; cases h)]; exact s _ _ (a y o h)
end
def fateT : Fate → List V
  | .rests v n => [.str "rests", vv v, .int n]
  | .turns n => [.str "turns", .int n]
  | .runs => [.str "runs"]
  | .refused n => [.str "refused", .int n]
theorem fateT_shaped (f : Fate) : SeqAt.shaped (.tuple ((fateT f).map pd)) = true := by
  cases f with
  | rests v n =>
    refine shaped_tup ?_ ?_
    · have := pd_vv_lay v
      have h2 : PyData.strOk "rests" = true := by decide +kernel
      show PyData.canLayAll0 [PyData.str "rests", pd (vv v), .int n] = true
      simp only [PyData.canLayAll0, this, h2, PyData.canLay0, Bool.and_self, Bool.and_true]
    · have := pd_lay (v := vv v)
      show PyData.depthAll [PyData.str "rests", pd (vv v), .int n] ≤ 3
      simp only [PyData.depthAll, this, PyData.depth]
      omega
  | turns n => exact tag_shaped n (by decide +kernel)
  | runs => exact one_shaped (by decide +kernel)
  | refused n => exact tag_shaped n (by decide +kernel)
theorem fateT_flat (f : Fate) : (fateT f).all flatV = true := by
  cases f with
  | rests v n =>
    show (true && (flatV (vv v) && (true && true))) = true
    rw [vv_flat]; rfl
  | _ => rfl
def spIsFar (P : Program) (w : World) (K : PySem.W.Frag) : Sp := fun vs H Q _ => ∃ x ss st H0, vs = [.ref x] ∧ WalkS P w K H0 H x ss st ∧ Q (.bl (isFar ss st.v)) H
def spMark (P : Program) (w : World) (K : PySem.W.Frag) : Sp := fun vs H Q _ => ∃ x ss st H0 i, vs = [.ref x] ∧ WalkS P w K H0 H x ss st ∧ (∀ s ∈ ss, s.ok) ∧ st.v = .int i ∧ NewT [.bl (markOf ss i).1, .int (markOf ss i).2] H Q
def spLookFar (P : Program) (w : World) (K : PySem.W.Frag) : Sp := fun vs H Q _ => ∃ x ss st H0 i cnt, vs = [.ref x] ∧ WalkS P w K H0 H x ss st ∧ (∀ s ∈ ss, s.ok) ∧ ss.length ≤ 5 ∧ st.v = .int i ∧ iabs i > begO ss ∧ WInv ss cnt st ∧ cnt ≤ 1000000 ∧ ∀ H', WalkS P w K H0 H' x ss (lookFar ss st i).2 → Q (.bl (lookFar ss st i).1) H'
def spEnd (P : Program) (w : World) (K : PySem.W.Frag) : Sp := fun vs H Q _ => ∃ x ss st H0 cnt k f, vs = [.ref x] ∧ WalkS P w K H0 H x ss st ∧ (∀ s ∈ ss, s.ok) ∧ ss.length ≤ 5 ∧ WInv ss cnt st ∧ cnt + k ≤ 1000000 ∧ wrun ss k st = some f ∧ ∀ p H', Same H0 H' → H0 p = none → H' p = some (.tup (fateT f)) → Q (.ref p) H'
def spWalk0 (P : Program) (w : World) (K : PySem.W.Frag) : Sp := fun vs H Q _ => ∃ x c v ss dx, vs = [.ref x, .ref c, vv v] ∧ H x = some (.ins (He.ga K "Walk") dx []) ∧ ChainS K H c ss ∧ (∀ s ∈ ss, s.ok) ∧ ss.length ≤ 5 ∧ ∀ H', WalkS P w K (offH H x) H' x ss (st0 v) → Q .non H'
def spFate (P : Program) (w : World) (K : PySem.W.Frag) : Sp := fun vs H Q _ => ∃ c v ss k f, vs = [.ref c, vv v] ∧ ChainS K H c ss ∧ (∀ s ∈ ss, s.ok) ∧ ss.length ≤ 5 ∧ k ≤ 1000000 ∧ wrun ss k (st0 v) = some f ∧ NewT (fateT f) H Q
theorem go_fate {P : Program} {w : World} {K : PySem.W.Frag} {H : Hp} {Q : VK} {E : XK} {c : Addr} {v : Val} {ss : List Stp} {f : Fate} (hc : ChainS K H c ss) (ok : ∀ s ∈ ss, s.ok) (hl : ss.length ≤ 5) (hf : ∃ k ≤ 1000, wrun ss k (st0 v) = some f) (q : ∀ p H', Same H H' → H p = none → H' p = some (.tup (fateT f)) → Q (.ref p) H') : spFate P w K [.ref c, vv v] H Q E := by
  obtain ⟨k, hk, e⟩ := hf
  exact ⟨c, v, ss, k, f, rfl, hc, ok, hl, by omega, e, q⟩
end TB

set_option maxHeartbeats 4000000
namespace TB
open PySem PySem.Spec PyProof.Rows L2 TW LamX NdefX
local macro_rules | `(tactic| walk_at "same") => `(tactic| first
  | exact Same.refl _
  | assumption
  | ((with_reducible refine' Same.trans ?sa (Same.new ?sb)); (case sb => assumption); (case sa => walk_at "same"))
  | ((with_reducible refine' Same.trans ?sa ?sb); (case sb => assumption); (case sa => walk_at "same"))
  | fail)
local macro_rules | `(tactic| walk_at "at") => `(tactic| first
  | assumption
  | exact upd_same
  | ((with_reducible refine' Same.get (Same.new ?sb) ?sa); (case sb => assumption); (case sa => walk_at "at"))
  | ((with_reducible refine' Same.get ?sb ?sa); (case sb => assumption); (case sa => walk_at "at"))
  | ((with_reducible refine' SameX.get ?sb ?sn ?sa); (case sb => assumption); (case sn => assumption); (case sa => walk_at "at"))
  | fail)
local macro_rules | `(tactic| walk_at "sq") => `(tactic| first
  | assumption
  | ((with_reducible refine' tupAt ?sa); (case sa => walk_at "at"))
  | ((with_reducible refine' lstAt ?sa); (case sa => walk_at "at"))
  | ((with_reducible refine' Same.tup (Same.new ?sb) ?sa); (case sb => assumption); (case sa => walk_at "sq"))
  | ((with_reducible refine' Same.lst (Same.new ?sb) ?sa); (case sb => assumption); (case sa => walk_at "sq"))
  | ((with_reducible refine' Same.tup ?sb ?sa); (case sb => assumption); (case sa => walk_at "sq"))
  | ((with_reducible refine' Same.lst ?sb ?sa); (case sb => assumption); (case sa => walk_at "sq"))
  | fail)
local macro_rules | `(tactic| walk_at "ix") => `(tactic| first
  | with_reducible exact atI_0
  | with_reducible exact atI_1
  | with_reducible exact atI_2
  | with_reducible exact atI_3
  | assumption
  | exact rfl)
local macro_rules | `(tactic| walk_at "dr") => `(tactic| first
  | assumption
  | ((with_reducible refine' DrawsAt.same ?sa (Same.new ?sb)); (case sb => assumption); (case sa => walk_at "dr"))
  | ((with_reducible refine' DrawsAt.same ?sa ?sb); (case sb => assumption); (case sa => walk_at "dr"))
  | fail)
local macro_rules | `(tactic| walk_at "sx") => `(tactic| first
  | exact SameX.refl _ _
  | assumption
  | ((with_reducible refine' SameX.new ?sa ?sb); (case sb => assumption); (case sa => walk_at "sx"))
  | ((with_reducible refine' SameX.trans ?sa ?sb); (case sb => assumption); (case sa => walk_at "sx"))
  | ((with_reducible refine' SameX.trans ?sa (SameX.of ?sb)); (case sb => assumption); (case sa => walk_at "sx"))
  | fail)
local macro_rules | `(tactic| walk_at "x1") => `(tactic| fail)
local macro_rules | `(tactic| walk_at "w1") => `(tactic| first
  | ((with_reducible refine' w_var ?hv ?_); (case hv => exact rfl))
  | with_reducible refine' w_c ?_
  | with_reducible refine' w_op ?_
  | with_reducible refine' w_seq ?_
  | with_reducible refine' w_asg ?_
  | with_reducible refine' w_gname ?_
  | with_reducible refine' w_ret ?_
  | with_reducible refine' w_retN ?_
  | with_reducible refine' w_drop ?_
  | with_reducible refine' w_next ?_
  | with_reducible refine' w_nil ?_
  | with_reducible refine' w_cons ?_
  | with_reducible refine' w_cb ?_
  | with_reducible refine' w_call ?_
  | with_reducible refine' w_callS ?_
  | with_reducible refine' w_un ?_
  | with_reducible refine' w_I0 ?_
  | with_reducible refine' w_U ?_
  | ((with_reducible refine' w_eq ?hv ?_); (case hv => exact rfl))
  | ((with_reducible refine' w_ne ?hv ?_); (case hv => exact rfl))
  | with_reducible refine' w_test ?_
  | with_reducible refine' w_tB ?_
  | with_reducible refine' w_bl ?_
  | with_reducible refine' w_blA ?_
  | with_reducible refine' w_and ?_
  | with_reducible refine' w_or ?_
  | with_reducible refine' w_not ?_
  | with_reducible refine' w_andV ?_
  | with_reducible refine' w_orV ?_
  | with_reducible refine' w_notV ?_
  | with_reducible refine' w_if ?_
  | with_reducible refine' w_ifS ?_
  | with_reducible refine' w_T ?_
  | with_reducible refine' w_F ?_
  | with_reducible refine' w_NT ?_
  | with_reducible refine' w_NF ?_
  | with_reducible refine' w_tup ?_
  | with_reducible refine' w_lst ?_
  | with_reducible refine' w_chain ?_
  | with_reducible refine' w_rfl ?_
  | ((with_reducible refine' w_szn ?hl ?_); (case hl => simp only [List.length_cons, List.length_nil]; decide); intro _ _)
  | ((with_reducible refine' w_isiF ?hv ?hw ?_); (case hv => first | assumption | rfl); (case hw => decide))
  | with_reducible refine' w_slice ?_
  | with_reducible refine' w_nopart ?_
  | with_reducible refine' w_part ?_
  | with_reducible refine' w_partI ?_
  | with_reducible refine' w_lc ?_
  | with_reducible refine' w_for ?_
  | with_reducible refine' w_iZip ?_
  | with_reducible refine' w_iEnum ?_
  | with_reducible refine' w_iList ?_
  | with_reducible refine' w_iTup ?_
  | with_reducible refine' w_iR1 ?_
  | with_reducible refine' w_iR2 ?_
  | with_reducible refine' w_gcons ?_
  | ((with_reducible refine' w_gunl ?hv ?hw ?_); (case hv => walk_at "sq"); (case hw => exact rfl))
  | with_reducible refine' w_gnil ?_
  | ((with_reducible refine' w_gtupH ?hv ?hw ?_); (case hv => walk_at "at"); (case hw => exact rfl))
  | ((with_reducible refine' w_wipe (σ := wipe _ _) ?hv ?_); (case hv => exact rfl))
  | with_reducible refine' w_yes ?_
  | with_reducible refine' w_tru ?_
  | with_reducible refine' w_rs ?_
  | with_reducible refine' w_mkO ?_
  | ((with_reducible refine' w_exc1 ?_); intro _ _)
  | with_reducible refine' w_make ?_
  | with_reducible refine' w_makeS ?_
  | with_reducible refine' w_fldG ?_
  | with_reducible refine' w_setF ?_
  | ((with_reducible refine' w_ixT ?hv ?hw ?_); (case hv => walk_at "sq"); (case hw => walk_at "ix"))
  | ((with_reducible refine' w_ixL ?hv ?hw ?_); (case hv => walk_at "sq"); (case hw => walk_at "ix"))
  | ((with_reducible refine' w_lenT ?hv ?_); (case hv => walk_at "sq"))
  | ((with_reducible refine' w_lenL ?hv ?_); (case hv => walk_at "sq"))
  | ((with_reducible refine' w_I ?hc ?_); (case hc => first | (exact cmul_r (by omega) (by omega)) | (exact cmul_l (by omega) (by omega)) | (show (0 : Int) < _; first | assumption | omega) | (exact ⟨by first | assumption | omega, by first | assumption | omega⟩) | (exact ⟨by omega, by omega, by omega⟩)))
  | with_reducible refine' w_int1 ?_
  | with_reducible refine' w_bm ?_
  | with_reducible refine' w_tryA ?_
  | with_reducible refine' w_tryO ?_
  | with_reducible refine' w_insS ?_
  | with_reducible refine' w_xfG ?_
  | ((with_reducible refine' w_cat ?ha ?hb ?hl ?_); (case ha => walk_at "at"); (case hb => walk_at "at"); (case hl => simp only [List.length_cons, List.length_nil, List.length_append]; decide); intro _ _)
  | with_reducible refine' w_gsub ?_
  | ((with_reducible refine' w_setL ?hv ?hw ?_); (case hv => walk_at "at"); (case hw => exact rfl))
  | walk_at "x1"
  | fail)
local macro_rules | `(tactic| walk_at "w") => `(tactic| repeat' walk_at "w1")
local macro_rules | `(tactic| walk_at "a1") => `(tactic| first
  | with_reducible refine' w_tupR ?_
  | with_reducible refine' w_lstR ?_
  | ((with_reducible refine' w_tupA ?hl ?_); (case hl => simp only [List.length_cons, List.length_nil]; decide); intro _ _ _ _ _)
  | ((with_reducible refine' w_lstA ?hl ?_); (case hl => simp only [List.length_cons, List.length_nil]; decide); intro _ _ _ _ _)
  | ((with_reducible refine' w_catA ?ha ?hb ?hl ?_); (case ha => walk_at "at"); (case hb => walk_at "at"); (case hl => simp only [List.length_cons, List.length_nil, List.length_append]; decide); intro _ _ _ _ _)
  | walk_at "w1"
  | fail)
local macro_rules | `(tactic| walk_at "wa") => `(tactic| repeat' walk_at "a1")

local macro_rules | `(tactic| walk_at "x1") => `(tactic| first
  | with_reducible refine' w_mO ?_
  | with_reducible refine' w_gfld ?_
  | with_reducible refine' w_fldaug ?_
  | with_reducible refine' w_nGet ?_
  | with_reducible refine' w_nIn ?_
  | with_reducible refine' w_nNot ?_
  | with_reducible refine' w_nPut ?_
  | with_reducible refine' w_abs ?_
  | ((with_reducible refine' w_newS ?_); intro _ _)
  | ((with_reducible refine' w_newM ?_); intro _ _)
  | fail)
theorem sc_Walk___init__ : FnScope ["self", "chain", "value"] ["self", "chain", "value"] (defScope s_Walk___init__) := ⟨rfl, rfl, rfl, by decide +kernel, rfl, by decide +kernel, by decide +kernel⟩
theorem sc_Walk_is_far : FnScope ["self"] ["self"] (defScope s_Walk_is_far) := ⟨rfl, rfl, rfl, by decide +kernel, rfl, by decide +kernel, by decide +kernel⟩
theorem sc_Walk_mark : FnScope ["self"] ["self"] (defScope s_Walk_mark) := ⟨rfl, rfl, rfl, by decide +kernel, rfl, by decide +kernel, by decide +kernel⟩
section
variable {P : Program} {w : World} {K : PySem.W.Frag} {mg : Str → Option Value} {base : Heap}
theorem ok_is_far (T : Fx w K mg) (c_is_number : Cal P w K mg base 1 "is_number" ["value"] spIsN) : Op P w K mg base 2 (He.ga K "Walk") "is_far" ["self"] (spIsFar P w K) := by
  refine op_of T.me_Walk_is_far T.k_Walk (mt_of T.f_Walk_is_far sc_Walk_is_far (fun vs H Q E h => ?_) (fun _ _ _ _ _ _ us hl => match us, hl with | [_], _ => rfl) (fun f cdv A outer s H vs Q E hr h => ?_))
  · obtain ⟨_, _, _, _, rfl, _⟩ := h; rfl
  · obtain ⟨x, ss, st, H0, rfl, hw, k⟩ := h
    refine ⟨_, (pss_one (ps_ret (pe_and (pe_cal c_is_number hr (by first | decide | omega) rfl (pa_cons (pe_fld (pv 0) rfl) pa_nil)) (pe_one (pe_cmpR (op_gt) (pe_callB call_absR (by rfl) T.b_abs (show bootBuiltins "abs" = some (.builtin "abs") from by decide +kernel) (pa_cons (pe_fld (pv 0) rfl) pa_nil)) (pe_fld (pv 0) rfl) (nomark _)))))), ?_⟩
    obtain ⟨dx, t, sd, md, ms, h0, h1, h2, h3, h4, h5⟩ := id hw
    walk_at "w"
    refine w_fld h1 T.k_Walk T.n_Walk_value rfl ?_
    walk_at "w"
    refine go_isN (vv_flat _) ?_
    refine ⟨_, rfl, ?_⟩
    cases hv : st.v with
    | int i =>
      rw [hv] at h1 k
      refine w_bT rfl ?_
      walk_at "w"
      refine w_fld h1 T.k_Walk T.n_Walk_value rfl ?_
      walk_at "w"
      refine w_abs (i := i) ?_
      walk_at "w"
      refine w_fld h1 T.k_Walk T.n_Walk_far rfl ?_
      walk_at "w"
      exact k
    | _ =>
      rw [hv] at k
      refine w_bF rfl ?_
      exact k
theorem ok_mark (T : Fx w K mg) : Op P w K mg base 1 (He.ga K "Walk") "mark" ["self"] (spMark P w K) := by
  refine op_of T.me_Walk_mark T.k_Walk (mt_of T.f_Walk_mark sc_Walk_mark (fun vs H Q E h => ?_) (fun _ _ _ _ _ _ us hl => match us, hl with | [_], _ => rfl) (fun f cdv A outer s H vs Q E hr h => ?_))
  · obtain ⟨_, _, _, _, _, rfl, _⟩ := h; rfl
  · obtain ⟨x, ss, st, H0, i, rfl, hw, ok, hv, k⟩ := h
    refine ⟨_, (pss_one (ps_ret (pe_tup (pa_cons (pe_cmpR (op_gt) (pe_fld (pv 0) rfl) pe_int (nomark _)) (pa_cons (pe_op (op_mod) (pe_fld (pv 0) rfl) (pe_fld (pv 0) rfl)) pa_nil))))), ?_⟩
    obtain ⟨dx, t, sd, md, ms, h0, h1, h2, h3, h4, h5⟩ := id hw
    rw [hv] at h1
    have hp := per_pos ok
    walk_at "w"
    refine w_fld h1 T.k_Walk T.n_Walk_value rfl ?_
    walk_at "w"
    show rI0 _ (V.int i) (V.int 0) _ _
    walk_at "w"
    refine w_fld h1 T.k_Walk T.n_Walk_value rfl ?_
    walk_at "w"
    refine w_fld h1 T.k_Walk T.n_Walk_period rfl ?_
    refine w_I (i := i) (j := per ss) hp ?_
    walk_at "w"
    exact k _ _ (Same.new ‹_›) ‹_› upd_same
theorem ok_Walk (T : Fx w K mg) (c_reach_of : Cal P w K mg base 1 "reach_of" ["steps"] (spReach K)) (c_period_of : Cal P w K mg base 2 "period_of" ["steps"] (spPeriod K)) : Mak P w K mg base 3 "Walk" ["self", "chain", "value"] (spWalk0 P w K) := by
  refine mak_of T.mk_Walk T.g_Walk (mt_of T.f_Walk___init__ sc_Walk___init__ (fun vs H Q E h => ?_) (fun _ _ _ _ _ _ us hl => match us, hl with | [_, _, _], _ => rfl) (fun f cdv A outer s H vs Q E hr h => ?_))
  · obtain ⟨x, c, v, ss, dx, rfl, _⟩ := h; rfl
  · obtain ⟨x, c, v, ss, dx, rfl, hx, hc, ok, hl, k⟩ := h
    refine ⟨_, (pss_cons (ps_fld (pv 0) (pe_fld (pv 1) rfl) rfl) (pss_cons (ps_fld (pv 0) (pv 2) rfl) (pss_cons (ps_fld (pv 0) pe_int rfl) (pss_cons (ps_fld (pv 0) pe_newS rfl) (pss_cons (ps_fld (pv 0) (pe_op (op_add) (pe_op (op_add) (pe_cal c_reach_of hr (by first | decide | omega) rfl (pa_cons (pe_fld (pv 1) rfl) pa_nil)) (pe_cal c_period_of hr (by first | decide | omega) rfl (pa_cons (pe_fld (pv 1) rfl) pa_nil))) pe_int) rfl) (pss_cons (ps_fld (pv 0) (pe_cal c_period_of hr (by first | decide | omega) rfl (pa_cons (pe_fld (pv 1) rfl) pa_nil)) rfl) (pss_one (ps_fld (pv 0) pe_newM rfl)))))))), ?_⟩
    obtain ⟨dc, t, h1, h2⟩ := id hc
    have nxc : c ≠ x := fun e => by rw [e, hx] at h1; injection (Option.some.inj h1) with _ _ e; cases e
    walk_at "w"
    refine w_fld h1 T.k_Chain T.n_Chain_steps rfl ?_
    walk_at "w"
    refine w_put1 hx T.k_Walk T.n_Walk_steps (by decide) ?_
    walk_at "w"
    refine w_put1 (fs := [("steps", .ref t)]) (dx := dx) (C := He.ga K "Walk") upd_same T.k_Walk T.n_Walk_value (by simp) ?_
    walk_at "w"
    refine w_put1 (fs := [("steps", .ref t), ("value", vv v)]) (dx := dx) (C := He.ga K "Walk") upd_same T.k_Walk T.n_Walk_times (by simp) ?_
    walk_at "w"
    rename_i sd hsd
    have hcO := hc.offI hx
    have sA : Same (offH H x) (upd (upd (upd H x (HO.ins (He.ga K "Walk") dx (putF "steps" (.ref t) []))) x (HO.ins (He.ga K "Walk") dx (putF "value" (vv v) [("steps", .ref t)]))) x (HO.ins (He.ga K "Walk") dx (putF "times" (.int 0) [("steps", .ref t), ("value", vv v)]))) := offH_upd (offH_upd (offH_upd offH_self))
    have xA : (upd (upd (upd H x (HO.ins (He.ga K "Walk") dx (putF "steps" (.ref t) []))) x (HO.ins (He.ga K "Walk") dx (putF "value" (vv v) [("steps", .ref t)]))) x (HO.ins (He.ga K "Walk") dx (putF "times" (.int 0) [("steps", .ref t), ("value", vv v)]))) x = some (.ins (He.ga K "Walk") dx [("steps", .ref t), ("value", vv v), ("times", .int 0)]) := upd_same
    generalize (upd (upd (upd H x (HO.ins (He.ga K "Walk") dx (putF "steps" (.ref t) []))) x (HO.ins (He.ga K "Walk") dx (putF "value" (vv v) [("steps", .ref t)]))) x (HO.ins (He.ga K "Walk") dx (putF "times" (.int 0) [("steps", .ref t), ("value", vv v)]))) = H3 at hsd sA xA ⊢
    show rSetF K "seen" (.ref x) (.ref sd) (upd H3 sd (SeenO P w sd [])) _ _
    have nsx : sd ≠ x := fun e => by rw [e, xA] at hsd; cases hsd
    refine w_put1 (fs := [("steps", .ref t), ("value", vv v), ("times", .int 0)]) (dx := dx) (C := He.ga K "Walk") (by rw [upd_ne (Ne.symm nsx)]; exact xA) T.k_Walk T.n_Walk_seen (by simp) ?_
    have hsd0 : offH H x sd = none := same_free' sA hsd
    have sB : Same (offH H x) (upd (upd H3 sd (SeenO P w sd [])) x (HO.ins (He.ga K "Walk") dx (putF "seen" (.ref sd) [("steps", .ref t), ("value", vv v), ("times", .int 0)]))) := offH_upd (Same.trans sA (Same.new hsd))
    have xB : (upd (upd H3 sd (SeenO P w sd [])) x (HO.ins (He.ga K "Walk") dx (putF "seen" (.ref sd) [("steps", .ref t), ("value", vv v), ("times", .int 0)]))) x = some (.ins (He.ga K "Walk") dx [("steps", .ref t), ("value", vv v), ("times", .int 0), ("seen", .ref sd)]) := upd_same
    have dB : (upd (upd H3 sd (SeenO P w sd [])) x (HO.ins (He.ga K "Walk") dx (putF "seen" (.ref sd) [("steps", .ref t), ("value", vv v), ("times", .int 0)]))) sd = some (SeenO P w sd []) := by rw [upd_ne nsx]; exact upd_same
    generalize (upd (upd H3 sd (SeenO P w sd [])) x (HO.ins (He.ga K "Walk") dx (putF "seen" (.ref sd) [("steps", .ref t), ("value", vv v), ("times", .int 0)]))) = H4 at sB xB dB ⊢
    obtain ⟨dcB, tB, h1B, h2B⟩ := id (hcO.same sB)
    walk_at "w"
    refine w_fld h1B T.k_Chain T.n_Chain_steps rfl ?_
    walk_at "w"
    refine go_reach h2B ok (by omega) fun H5 s5 => ?_
    obtain ⟨dcC, tC, h1C, h2C⟩ := id (hcO.same (Same.trans sB s5))
    walk_at "w"
    refine w_fld h1C T.k_Chain T.n_Chain_steps rfl ?_
    walk_at "w"
    refine go_period h2C ok (by omega) fun H6 s6 => ?_
    have s56 := Same.trans s5 s6
    walk_at "w"
    refine w_put1 (s56 _ _ xB) T.k_Walk T.n_Walk_far (by simp) ?_
    have sD : Same (offH H x) (upd H6 x (HO.ins (He.ga K "Walk") dx (putF "far" (.int (reach ss + per ss + 5)) [("steps", .ref t), ("value", vv v), ("times", .int 0), ("seen", .ref sd)]))) := offH_upd (Same.trans sB s56)
    have xD : (upd H6 x (HO.ins (He.ga K "Walk") dx (putF "far" (.int (reach ss + per ss + 5)) [("steps", .ref t), ("value", vv v), ("times", .int 0), ("seen", .ref sd)]))) x = some (.ins (He.ga K "Walk") dx [("steps", .ref t), ("value", vv v), ("times", .int 0), ("seen", .ref sd), ("far", .int (begO ss))]) := upd_same
    have dD : (upd H6 x (HO.ins (He.ga K "Walk") dx (putF "far" (.int (reach ss + per ss + 5)) [("steps", .ref t), ("value", vv v), ("times", .int 0), ("seen", .ref sd)]))) sd = some (SeenO P w sd []) := by rw [upd_ne nsx]; exact s56 _ _ dB
    generalize (upd H6 x (HO.ins (He.ga K "Walk") dx (putF "far" (.int (reach ss + per ss + 5)) [("steps", .ref t), ("value", vv v), ("times", .int 0), ("seen", .ref sd)]))) = H7 at sD xD dD ⊢
    obtain ⟨dcD, tD, h1D, h2D⟩ := id (hcO.same sD)
    walk_at "w"
    refine w_fld h1D T.k_Chain T.n_Chain_steps rfl ?_
    walk_at "w"
    refine go_period h2D ok (by omega) fun H8 s8 => ?_
    walk_at "w"
    refine w_put1 (s8 _ _ xD) T.k_Walk T.n_Walk_period (by simp) ?_
    walk_at "w"
    rename_i md hmd
    have sE : Same (offH H x) (upd H8 x (HO.ins (He.ga K "Walk") dx (putF "period" (.int (per ss)) [("steps", .ref t), ("value", vv v), ("times", .int 0), ("seen", .ref sd), ("far", .int (begO ss))]))) := offH_upd (Same.trans sD s8)
    have xE : (upd H8 x (HO.ins (He.ga K "Walk") dx (putF "period" (.int (per ss)) [("steps", .ref t), ("value", vv v), ("times", .int 0), ("seen", .ref sd), ("far", .int (begO ss))]))) x = some (.ins (He.ga K "Walk") dx [("steps", .ref t), ("value", vv v), ("times", .int 0), ("seen", .ref sd), ("far", .int (begO ss)), ("period", .int (per ss))]) := upd_same
    have dE : (upd H8 x (HO.ins (He.ga K "Walk") dx (putF "period" (.int (per ss)) [("steps", .ref t), ("value", vv v), ("times", .int 0), ("seen", .ref sd), ("far", .int (begO ss))]))) sd = some (SeenO P w sd []) := by rw [upd_ne nsx]; exact s8 _ _ dD
    show rSetF K "marks" (.ref x) (.ref md) (upd (upd H8 x (HO.ins (He.ga K "Walk") dx (putF "period" (.int (per ss)) [("steps", .ref t), ("value", vv v), ("times", .int 0), ("seen", .ref sd), ("far", .int (begO ss))]))) md (MarkO P w md [])) _ _
    generalize (upd H8 x (HO.ins (He.ga K "Walk") dx (putF "period" (.int (per ss)) [("steps", .ref t), ("value", vv v), ("times", .int 0), ("seen", .ref sd), ("far", .int (begO ss))]))) = H9 at hmd sE xE dE ⊢
    have nmx : md ≠ x := fun e => by rw [e, xE] at hmd; cases hmd
    have nms : sd ≠ md := fun e => by rw [← e, dE] at hmd; cases hmd
    refine w_put1 (fs := [("steps", .ref t), ("value", vv v), ("times", .int 0), ("seen", .ref sd), ("far", .int (begO ss)), ("period", .int (per ss))]) (dx := dx) (C := He.ga K "Walk") (by rw [upd_ne (Ne.symm nmx)]; exact xE) T.k_Walk T.n_Walk_marks (by simp) ?_
    obtain ⟨dcE, tE, h1E, h2E⟩ := id hcO
    have ht : tE = t := by
      rw [offH_at nxc h1] at h1E
      injection (Option.some.inj h1E) with _ _ e
      cases e
      rfl
    subst ht
    refine k _ ⟨dx, tE, sd, md, [], ⟨offH_upd (Same.trans sE (Same.new hmd)), by unfold offH; rw [if_pos rfl], hsd0, same_free' sE hmd, nms⟩, upd_same, h2E, ?_, ?_, .nil⟩
    · rw [upd_ne nsx, upd_ne nms]; exact dE
    · rw [upd_ne nmx]; exact upd_same
end
end TB

set_option maxHeartbeats 4000000
namespace TB
open PySem PySem.Spec PyProof.Rows L2 TW LamX NdefX
local macro_rules | `(tactic| walk_at "same") => `(tactic| first
  | exact Same.refl _
  | assumption
  | ((with_reducible refine' Same.trans ?sa (Same.new ?sb)); (case sb => assumption); (case sa => walk_at "same"))
  | ((with_reducible refine' Same.trans ?sa ?sb); (case sb => assumption); (case sa => walk_at "same"))
  | fail)
local macro_rules | `(tactic| walk_at "at") => `(tactic| first
  | assumption
  | exact upd_same
  | ((with_reducible refine' Same.get (Same.new ?sb) ?sa); (case sb => assumption); (case sa => walk_at "at"))
  | ((with_reducible refine' Same.get ?sb ?sa); (case sb => assumption); (case sa => walk_at "at"))
  | ((with_reducible refine' SameX.get ?sb ?sn ?sa); (case sb => assumption); (case sn => assumption); (case sa => walk_at "at"))
  | fail)
local macro_rules | `(tactic| walk_at "sq") => `(tactic| first
  | assumption
  | ((with_reducible refine' tupAt ?sa); (case sa => walk_at "at"))
  | ((with_reducible refine' lstAt ?sa); (case sa => walk_at "at"))
  | ((with_reducible refine' Same.tup (Same.new ?sb) ?sa); (case sb => assumption); (case sa => walk_at "sq"))
  | ((with_reducible refine' Same.lst (Same.new ?sb) ?sa); (case sb => assumption); (case sa => walk_at "sq"))
  | ((with_reducible refine' Same.tup ?sb ?sa); (case sb => assumption); (case sa => walk_at "sq"))
  | ((with_reducible refine' Same.lst ?sb ?sa); (case sb => assumption); (case sa => walk_at "sq"))
  | fail)
local macro_rules | `(tactic| walk_at "ix") => `(tactic| first
  | with_reducible exact atI_0
  | with_reducible exact atI_1
  | with_reducible exact atI_2
  | with_reducible exact atI_3
  | assumption
  | exact rfl)
local macro_rules | `(tactic| walk_at "dr") => `(tactic| first
  | assumption
  | ((with_reducible refine' DrawsAt.same ?sa (Same.new ?sb)); (case sb => assumption); (case sa => walk_at "dr"))
  | ((with_reducible refine' DrawsAt.same ?sa ?sb); (case sb => assumption); (case sa => walk_at "dr"))
  | fail)
local macro_rules | `(tactic| walk_at "sx") => `(tactic| first
  | exact SameX.refl _ _
  | assumption
  | ((with_reducible refine' SameX.new ?sa ?sb); (case sb => assumption); (case sa => walk_at "sx"))
  | ((with_reducible refine' SameX.trans ?sa ?sb); (case sb => assumption); (case sa => walk_at "sx"))
  | ((with_reducible refine' SameX.trans ?sa (SameX.of ?sb)); (case sb => assumption); (case sa => walk_at "sx"))
  | fail)
local macro_rules | `(tactic| walk_at "x1") => `(tactic| fail)
local macro_rules | `(tactic| walk_at "w1") => `(tactic| first
  | ((with_reducible refine' w_var ?hv ?_); (case hv => exact rfl))
  | with_reducible refine' w_c ?_
  | with_reducible refine' w_op ?_
  | with_reducible refine' w_seq ?_
  | with_reducible refine' w_asg ?_
  | with_reducible refine' w_gname ?_
  | with_reducible refine' w_ret ?_
  | with_reducible refine' w_retN ?_
  | with_reducible refine' w_drop ?_
  | with_reducible refine' w_next ?_
  | with_reducible refine' w_nil ?_
  | with_reducible refine' w_cons ?_
  | with_reducible refine' w_cb ?_
  | with_reducible refine' w_call ?_
  | with_reducible refine' w_callS ?_
  | with_reducible refine' w_un ?_
  | with_reducible refine' w_I0 ?_
  | with_reducible refine' w_U ?_
  | ((with_reducible refine' w_eq ?hv ?_); (case hv => exact rfl))
  | ((with_reducible refine' w_ne ?hv ?_); (case hv => exact rfl))
  | with_reducible refine' w_test ?_
  | with_reducible refine' w_tB ?_
  | with_reducible refine' w_bl ?_
  | with_reducible refine' w_blA ?_
  | with_reducible refine' w_and ?_
  | with_reducible refine' w_or ?_
  | with_reducible refine' w_not ?_
  | with_reducible refine' w_andV ?_
  | with_reducible refine' w_orV ?_
  | with_reducible refine' w_notV ?_
  | with_reducible refine' w_if ?_
  | with_reducible refine' w_ifS ?_
  | with_reducible refine' w_T ?_
  | with_reducible refine' w_F ?_
  | with_reducible refine' w_NT ?_
  | with_reducible refine' w_NF ?_
  | with_reducible refine' w_tup ?_
  | with_reducible refine' w_lst ?_
  | with_reducible refine' w_chain ?_
  | with_reducible refine' w_rfl ?_
  | ((with_reducible refine' w_szn ?hl ?_); (case hl => simp only [List.length_cons, List.length_nil]; decide); intro _ _)
  | ((with_reducible refine' w_isiF ?hv ?hw ?_); (case hv => first | assumption | rfl); (case hw => decide))
  | with_reducible refine' w_slice ?_
  | with_reducible refine' w_nopart ?_
  | with_reducible refine' w_part ?_
  | with_reducible refine' w_partI ?_
  | with_reducible refine' w_lc ?_
  | with_reducible refine' w_for ?_
  | with_reducible refine' w_iZip ?_
  | with_reducible refine' w_iEnum ?_
  | with_reducible refine' w_iList ?_
  | with_reducible refine' w_iTup ?_
  | with_reducible refine' w_iR1 ?_
  | with_reducible refine' w_iR2 ?_
  | with_reducible refine' w_gcons ?_
  | ((with_reducible refine' w_gunl ?hv ?hw ?_); (case hv => walk_at "sq"); (case hw => exact rfl))
  | with_reducible refine' w_gnil ?_
  | ((with_reducible refine' w_gtupH ?hv ?hw ?_); (case hv => walk_at "at"); (case hw => exact rfl))
  | ((with_reducible refine' w_wipe (σ := wipe _ _) ?hv ?_); (case hv => exact rfl))
  | with_reducible refine' w_yes ?_
  | with_reducible refine' w_tru ?_
  | with_reducible refine' w_rs ?_
  | with_reducible refine' w_mkO ?_
  | ((with_reducible refine' w_exc1 ?_); intro _ _)
  | with_reducible refine' w_make ?_
  | with_reducible refine' w_makeS ?_
  | with_reducible refine' w_fldG ?_
  | with_reducible refine' w_setF ?_
  | ((with_reducible refine' w_ixT ?hv ?hw ?_); (case hv => walk_at "sq"); (case hw => walk_at "ix"))
  | ((with_reducible refine' w_ixL ?hv ?hw ?_); (case hv => walk_at "sq"); (case hw => walk_at "ix"))
  | ((with_reducible refine' w_lenT ?hv ?_); (case hv => walk_at "sq"))
  | ((with_reducible refine' w_lenL ?hv ?_); (case hv => walk_at "sq"))
  | ((with_reducible refine' w_I ?hc ?_); (case hc => first | (exact cmul_r (by omega) (by omega)) | (exact cmul_l (by omega) (by omega)) | (show (0 : Int) < _; first | assumption | omega) | (exact ⟨by first | assumption | omega, by first | assumption | omega⟩) | (exact ⟨by omega, by omega, by omega⟩)))
  | with_reducible refine' w_int1 ?_
  | with_reducible refine' w_bm ?_
  | with_reducible refine' w_tryA ?_
  | with_reducible refine' w_tryO ?_
  | with_reducible refine' w_insS ?_
  | with_reducible refine' w_xfG ?_
  | ((with_reducible refine' w_cat ?ha ?hb ?hl ?_); (case ha => walk_at "at"); (case hb => walk_at "at"); (case hl => simp only [List.length_cons, List.length_nil, List.length_append]; decide); intro _ _)
  | with_reducible refine' w_gsub ?_
  | ((with_reducible refine' w_setL ?hv ?hw ?_); (case hv => walk_at "at"); (case hw => exact rfl))
  | walk_at "x1"
  | fail)
local macro_rules | `(tactic| walk_at "w") => `(tactic| repeat' walk_at "w1")
local macro_rules | `(tactic| walk_at "a1") => `(tactic| first
  | with_reducible refine' w_tupR ?_
  | with_reducible refine' w_lstR ?_
  | ((with_reducible refine' w_tupA ?hl ?_); (case hl => simp only [List.length_cons, List.length_nil]; decide); intro _ _ _ _ _)
  | ((with_reducible refine' w_lstA ?hl ?_); (case hl => simp only [List.length_cons, List.length_nil]; decide); intro _ _ _ _ _)
  | ((with_reducible refine' w_catA ?ha ?hb ?hl ?_); (case ha => walk_at "at"); (case hb => walk_at "at"); (case hl => simp only [List.length_cons, List.length_nil, List.length_append]; decide); intro _ _ _ _ _)
  | walk_at "w1"
  | fail)
local macro_rules | `(tactic| walk_at "wa") => `(tactic| repeat' walk_at "a1")

local macro_rules | `(tactic| walk_at "x1") => `(tactic| first
  | with_reducible refine' w_mO ?_
  | with_reducible refine' w_gfld ?_
  | with_reducible refine' w_fldaug ?_
  | with_reducible refine' w_nGet ?_
  | with_reducible refine' w_nIn ?_
  | with_reducible refine' w_nNot ?_
  | with_reducible refine' w_nPut ?_
  | ((with_reducible refine' w_newS ?_); intro _ _)
  | ((with_reducible refine' w_newM ?_); intro _ _)
  | fail)
theorem sc_Walk_look_far : FnScope ["self", "size", "time", "nearer", "margin", "many"] ["self"] (defScope s_Walk_look_far) := ⟨rfl, rfl, rfl, by decide +kernel, rfl, by decide +kernel, by decide +kernel⟩
section
variable {P : Program} {w : World} {K : PySem.W.Frag} {mg : Str → Option Value} {base : Heap}
theorem ok_look_far (T : Fx w K mg) (o_Walk_mark : Op P w K mg base 1 (He.ga K "Walk") "mark" ["self"] (spMark P w K)) : Op P w K mg base 3 (He.ga K "Walk") "look_far" ["self"] (spLookFar P w K) := by
  refine op_of T.me_Walk_look_far T.k_Walk (mt_of T.f_Walk_look_far sc_Walk_look_far (fun vs H Q E h => ?_) (fun _ _ _ _ _ _ us hl => match us, hl with | [_], _ => rfl) (fun f cdv A outer s H vs Q E hr h => ?_))
  · obtain ⟨_, _, _, _, _, _, rfl, _⟩ := h; rfl
  · obtain ⟨x, ss, st, H0, i, cnt, rfl, hw, ok, hl, hv, hi, hI, hc, k⟩ := h
    have hu := hu_of hr
    refine ⟨_, (pss_cons (ps_if (pt_cmp (pc_nnotin hu (pe_mO0 o_Walk_mark hr (by first | decide | omega) (fun σ => atL σ) (pv 0)) (pe_fld (pv 0) rfl))) (pss_cons (ps_nput hu (pe_fld (pv 0) rfl) (pe_mO0 o_Walk_mark hr (by first | decide | omega) (fun σ => atL σ) (pv 0)) (pe_tup (pa_cons (pe_callB call_absR (by rfl) T.b_abs (show bootBuiltins "abs" = some (.builtin "abs") from by decide +kernel) (pa_cons (pe_fld (pv 0) rfl) pa_nil)) (pa_cons (pe_fld (pv 0) rfl) pa_nil))) rfl) (pss_one (ps_ret pe_bl))) pss_nil) (pss_cons (ps_asg (pe_nget hu (pe_fld (pv 0) rfl) (pe_mO0 o_Walk_mark hr (by first | decide | omega) (fun σ => atL σ) (pv 0)) (fun _ _ => rfl)) (pg_tup rfl (pgs_cons (pg_name (i := 1) sc_Walk_look_far.nd rfl (Or.inl rfl)) (pgs_cons (pg_name (i := 2) sc_Walk_look_far.nd rfl (Or.inl rfl)) pgs_nil)))) (pss_cons (ps_if (pt_cmpR (op_gt) (pe_callB call_absR (by rfl) T.b_abs (show bootBuiltins "abs" = some (.builtin "abs") from by decide +kernel) (pa_cons (pe_fld (pv 0) rfl) pa_nil)) (pv 1) (nomark _)) (pss_one (ps_ret pe_bl)) pss_nil) (pss_cons (ps_set (i := 3) sc_Walk_look_far.nd rfl (Or.inl rfl) (pe_op (op_sub) (pv 1) (pe_callB call_absR (by rfl) T.b_abs (show bootBuiltins "abs" = some (.builtin "abs") from by decide +kernel) (pa_cons (pe_fld (pv 0) rfl) pa_nil)))) (pss_cons (ps_set (i := 4) sc_Walk_look_far.nd rfl (Or.inl rfl) (pe_op (op_add) (pe_fld (pv 0) rfl) (pe_op (op_mul) (pe_op (op_add) (pe_op (op_sub) (pe_fld (pv 0) rfl) (pv 2)) pe_int) (pe_fld (pv 0) rfl)))) (pss_cons (ps_if (PW.pt (pw_and (pt_cmpR (op_gt) (pv 3) pe_int (nomark _)) (pw_and1 (pt_cmpR (op_gt) (pe_op (op_sub) (pe_callB call_absR (by rfl) T.b_abs (show bootBuiltins "abs" = some (.builtin "abs") from by decide +kernel) (pa_cons (pe_fld (pv 0) rfl) pa_nil)) (pv 4)) (pv 3) (nomark _))))) (pss_cons (ps_set (i := 5) sc_Walk_look_far.nd rfl (Or.inl rfl) (pe_op (op_fdivN) (pe_op (op_sub) (pe_callB call_absR (by rfl) T.b_abs (show bootBuiltins "abs" = some (.builtin "abs") from by decide +kernel) (pa_cons (pe_fld (pv 0) rfl) pa_nil)) (pv 4)) (pv 3))) (pss_cons (ps_fldaug (pv 0) (pe_op (op_mul) (pv 5) (pe_op (op_sub) (pe_fld (pv 0) rfl) (pv 2))) in_add) (pss_cons (ps_fld (pv 0) (pe_ifExp (pt_cmpR (op_gt) (pe_fld (pv 0) rfl) pe_int (nomark _)) (pe_op (op_sub) (pe_fld (pv 0) rfl) (pe_op (op_mul) (pv 5) (pv 3))) (pe_op (op_add) (pe_fld (pv 0) rfl) (pe_op (op_mul) (pv 5) (pv 3)))) rfl) (pss_one (ps_fld (pv 0) pe_newS rfl))))) pss_nil) (pss_cons (ps_fld (pv 0) pe_newM rfl) (pss_one (ps_ret pe_bl))))))))), ?_⟩
    obtain ⟨dx, t, sd, md, ms, h0, h1, h2, h3, h4, h5⟩ := id hw
    walk_at "w"
    refine w_mOG h1 rfl ?_
    walk_at "w"
    refine ⟨x, ss, st, H0, i, rfl, hw, ok, hv, fun b1 H1 s1 f1 q1 => ?_⟩
    have hw1 := hw.same s1
    obtain ⟨a0, i1, i3, i4, i5⟩ : (Same H0 H1) ∧ H1 x = some (.ins (He.ga K "Walk") dx (wFs t st.v st.n sd (begO ss) (per ss) md)) ∧ H1 sd = some (SeenO P w sd (seenK st.seen)) ∧ H1 md = some (MarkO P w md ms) ∧ MarkS H1 st.marks ms := ⟨Same.trans h0.1 s1, s1 _ _ h1, s1 _ _ h3, s1 _ _ h4, h5.moves fun b xs q => s1 _ _ q⟩
    walk_at "w"
    refine w_fld i1 T.k_Walk T.n_Walk_marks rfl ?_
    refine w_notMark i4 i5 q1 ?_
    refine ⟨_, rfl, ?_⟩
    have hp := per_pos ok
    have hr0 := reach_nn ss
    have hrl := reach_le ok
    have hpl := per_le ok
    have hkey : (markOf ss i) = ((markOf ss i).1, (markOf ss i).2) := rfl
    cases e : lookE st.marks (markOf ss i) with
    | none =>
      refine w_bT rfl ?_
      have kl : lookFar ss st i = (false, { st with marks := st.marks ++ [(markOf ss i, iabs i, st.n)] }) := by unfold lookFar; rw [e]
      rw [kl] at k
      walk_at "w"
      refine w_fld i1 T.k_Walk T.n_Walk_value rfl ?_
      walk_at "w"
      rw [hv]
      refine w_absI (i := i) ?_
      walk_at "w"
      refine w_fld i1 T.k_Walk T.n_Walk_times rfl ?_
      walk_at "w"
      rename_i tv htv
      have s2 := Same.new (o := .tup [.int (iabs i), .int st.n]) htv
      refine w_fld (s2 _ _ i1) T.k_Walk T.n_Walk_marks rfl ?_
      walk_at "w"
      refine w_mOG (m := "mark") (s2 _ _ i1) rfl ?_
      walk_at "w"
      refine ⟨x, ss, st, H0, i, rfl, hw1.same s2, ok, hv, fun b2 H2 s3 f3 q3 => ?_⟩
      have s23 := Same.trans s2 s3
      have ml : ms.length = st.marks.length := i5.length.symm
      walk_at "w"
      refine w_putMark (s23 _ _ i4) (i5.moves fun b xs q => s23 _ _ q) q3 e (by rw [ml]; have := hI.marks; omega) ?_
      walk_at "w"
      exact k _ (walk_setM ⟨Same.trans a0 s23, h0.2⟩ (s23 _ _ i1) h2 (s23 _ _ i3) (s23 _ _ i4) (Paired.app (i5.moves fun b xs q => s23 _ _ q) (.cons ⟨rfl, q3, s3 _ _ upd_same⟩ .nil)))
    | some p =>
      obtain ⟨size, time⟩ := p
      refine w_bF rfl ?_
      walk_at "w"
      refine w_fld i1 T.k_Walk T.n_Walk_marks rfl ?_
      walk_at "w"
      refine w_mOG (m := "mark") i1 rfl ?_
      walk_at "w"
      refine ⟨x, ss, st, H0, i, rfl, hw1, ok, hv, fun b2 H2 s2 f2 q2 => ?_⟩
      have i12 := s2 _ _ i1
      have i42 := s2 _ _ i4
      have i52 := i5.moves fun b xs q => s2 _ _ q
      have i32 := s2 _ _ i3
      have a02 := Same.trans a0 s2
      refine w_getMark i42 i52 q2 e fun tm htm => ?_
      have htm' := tupAt (K := K) htm
      walk_at "w"
      refine w_fld i12 T.k_Walk T.n_Walk_value rfl ?_
      walk_at "w"
      rw [hv]
      refine w_absI (i := i) ?_
      walk_at "w"
      have hmem := lookE_mem e
      have htime := hI.time _ hmem
      have hsize := hI.size i hv hi _ hmem
      dsimp only at htime hsize
      show if decide (iabs i > size) = true then _ else _
      refine w_d2 (fun e1 => ?_) (fun e1 => ?_)
      · have kl : lookFar ss st i = (true, st) := by unfold lookFar; rw [e]; dsimp only; rw [if_pos e1]
        rw [kl] at k
        walk_at "w"
        exact k _ (hw1.same s2)
      · walk_at "w"
        refine w_fld i12 T.k_Walk T.n_Walk_value rfl ?_
        walk_at "w"
        rw [hv]
        refine w_absI (i := i) ?_
        walk_at "w"
        refine w_fld i12 T.k_Walk T.n_Walk_far rfl ?_
        walk_at "w"
        refine w_fld i12 T.k_Walk T.n_Walk_times rfl ?_
        walk_at "w"
        refine w_fld i12 T.k_Walk T.n_Walk_far rfl ?_
        have hbeg : begO ss ≤ 1000 := by unfold begO; omega
        have hbeg0 : 0 < begO ss := by unfold begO; omega
        have hnear : size - iabs i ≤ 400000000 := by
          have c1 := iabs_cases (size - iabs i)
          have h7 : (st.n - time) * reach ss ≤ (st.n - time) * 400 := Int.mul_le_mul_of_nonneg_left (by omega) htime.1
          have h8 : (cnt : Int) ≤ 1000000 := by omega
          omega
        refine w_I (C := CMul) (i := st.n - time + 1) (j := begO ss) (.inr ⟨by omega, by omega⟩) ?_
        walk_at "w"
        have fin : (lookFar ss st i = (false, { st with marks := [] })) → ∀ md', H2 md' = none → Q (.bl false) (upd (upd H2 md' (MarkO P w md' [])) x (.ins (He.ga K "Walk") dx (wFs t st.v st.n sd (begO ss) (per ss) md'))) := fun kl md' hm => by
          rw [kl] at k
          exact k _ (walk_newM ⟨a02, h0.2⟩ i12 h2 i32 hm)
        refine w_d2 (fun e2 => ?_) (fun e2 => ?_)
        · walk_at "w"
          refine w_fld i12 T.k_Walk T.n_Walk_value rfl ?_
          walk_at "w"
          rw [hv]
          refine w_absI (i := i) ?_
          walk_at "w"
          refine w_d2 (fun e3 => ?_) (fun e3 => ?_)
          · walk_at "w"
            refine w_fld i12 T.k_Walk T.n_Walk_value rfl ?_
            walk_at "w"
            rw [hv]
            refine w_absI (i := i) ?_
            walk_at "w"
            have h9 : ((size - iabs i).natAbs : Int) = size - iabs i := Int.natAbs_of_nonneg (by omega)
            have kl : lookFar ss st i = (false, ⟨.int (jumpTo i (Int.fdiv (iabs i - (begO ss + (st.n - time + 1) * begO ss)) (size - iabs i)) (size - iabs i)), st.n + Int.fdiv (iabs i - (begO ss + (st.n - time + 1) * begO ss)) (size - iabs i) * (st.n - time), [], []⟩) := by
              unfold lookFar; rw [e]; dsimp only; rw [if_neg e1, if_pos ⟨by omega, by omega⟩]
            rw [kl] at k
            generalize Int.fdiv (iabs i - (begO ss + (st.n - time + 1) * begO ss)) (size - iabs i) = many at k ⊢
            refine ⟨x, _, dx, _, _, rfl, i12, T.k_Walk, T.n_Walk_times, rfl, ?_⟩
            walk_at "w"
            refine w_fld i12 T.k_Walk T.n_Walk_times rfl ?_
            walk_at "w"
            refine ⟨_, _, rfl, rfl, dx, _, i12, by simp [wFs], ?_⟩
            have ws1 := walk_setF (v' := st.v) (n' := st.n + many * (st.n - time)) ⟨a02, h0.2⟩ i12 h2 i32 i42 i52
            rw [show putF ("times" : Str) (V.int (st.n + many * (st.n - time))) (wFs t st.v st.n sd (begO ss) (per ss) md) = wFs t st.v (st.n + many * (st.n - time)) sd (begO ss) (per ss) md from rfl]
            generalize upd H2 x (.ins (He.ga K "Walk") dx (wFs t st.v (st.n + many * (st.n - time)) sd (begO ss) (per ss) md)) = H3 at ws1 ⊢
            obtain ⟨dx1, t1, sd1, md1, ms1, b0, b1', b2', b3, b4, b5⟩ := id ws1
            dsimp only at b1' b3 b5
            rw [hv] at b1'
            have last : ∀ (v' : Int) (H4 : Hp), v' = jumpTo i many (size - iabs i) → WalkS P w K H0 H4 x ss ⟨.int v', st.n + many * (st.n - time), st.seen, st.marks⟩ → sFld K (tVar 0) (tNewS P w) "seen" { nx := tSeq (sFld K (tVar 0) (tNewM P w) "marks") (tRet (tC (.bl false))) { nx := fun σ H' => Q .non H', rt := Q }, rt := Q } [some (.ref x), some (.int size), some (.int time), some (.int (size - iabs i)), some (.int (begO ss + (st.n - time + 1) * begO ss)), some (.int many)] H4 := fun v' H4 ev ws2 => by
              obtain ⟨dx2, t2, sd2, md2, ms2, c0, c1', c2', c3, c4, c5⟩ := id ws2
              dsimp only at c1' c3 c5
              walk_at "w"
              rename_i sd3 hsd3
              have nx3 : x ≠ sd3 := ne_of_none c1' hsd3
              have ws3 := walk_newS c0 c1' c2' c4 c5 hsd3
              refine w_put1 (by rw [upd_ne nx3]; exact c1') T.k_Walk T.n_Walk_seen (by simp [wFs]) ?_
              rw [show putF ("seen" : Str) (V.ref sd3) (wFs t2 (.int v') (st.n + many * (st.n - time)) sd2 (begO ss) (per ss) md2) = wFs t2 (.int v') (st.n + many * (st.n - time)) sd3 (begO ss) (per ss) md2 from rfl]
              generalize upd (upd H4 sd3 (SeenO P w sd3 [])) x (.ins (He.ga K "Walk") dx2 (wFs t2 (.int v') (st.n + many * (st.n - time)) sd3 (begO ss) (per ss) md2)) = H5 at ws3 ⊢
              obtain ⟨dx3, t3, sd4, md3, ms3, d0, d1, d2, d3, d4, d5⟩ := id ws3
              dsimp only at d1 d3 d5
              walk_at "w"
              rename_i md4 hmd4
              have nx4 : x ≠ md4 := ne_of_none d1 hmd4
              have ws4 := walk_newM d0 d1 d2 d3 hmd4
              refine w_put1 (by rw [upd_ne nx4]; exact d1) T.k_Walk T.n_Walk_marks (by simp [wFs]) ?_
              walk_at "w"
              rw [ev] at ws4
              subst ev
              exact k _ ws4
            walk_at "w"
            refine w_fld b1' T.k_Walk T.n_Walk_value rfl ?_
            walk_at "w"
            show rI0 _ (V.int i) (V.int 0) _ _
            walk_at "w"
            refine w_d2 (fun e4 => ?_) (fun e4 => ?_)
            · walk_at "w"
              refine w_fld b1' T.k_Walk T.n_Walk_value rfl ?_
              walk_at "w"
              show rI0 _ (V.int i) (V.int (many * (size - iabs i))) _ _
              walk_at "w"
              have ws2 := walk_setF (v' := .int (i - many * (size - iabs i))) (n' := st.n + many * (st.n - time)) b0 b1' b2' b3 b4 b5
              refine w_put1 b1' T.k_Walk T.n_Walk_value (by simp [wFs]) ?_
              exact last _ _ (by unfold jumpTo; rw [if_pos (by omega)]) ws2
            · walk_at "w"
              refine w_fld b1' T.k_Walk T.n_Walk_value rfl ?_
              walk_at "w"
              show rI0 _ (V.int i) (V.int (many * (size - iabs i))) _ _
              walk_at "w"
              have ws2 := walk_setF (v' := .int (i + many * (size - iabs i))) (n' := st.n + many * (st.n - time)) b0 b1' b2' b3 b4 b5
              refine w_put1 b1' T.k_Walk T.n_Walk_value (by simp [wFs]) ?_
              exact last _ _ (by unfold jumpTo; rw [if_neg (by omega)]) ws2
          · refine w_next ?_
            walk_at "w"
            rename_i md' hmd'
            have nmx : x ≠ md' := ne_of_none i12 hmd'
            refine w_put1 (by rw [upd_ne nmx]; exact i12) T.k_Walk T.n_Walk_marks (by simp [wFs]) ?_
            walk_at "w"
            have kl : lookFar ss st i = (false, { st with marks := [] }) := by unfold lookFar; rw [e]; dsimp only; rw [if_neg e1, if_neg (fun q => e3 (by omega))]
            exact fin kl _ hmd'
        · refine w_next ?_
          walk_at "w"
          rename_i md' hmd'
          have nmx : x ≠ md' := ne_of_none i12 hmd'
          refine w_put1 (by rw [upd_ne nmx]; exact i12) T.k_Walk T.n_Walk_marks (by simp [wFs]) ?_
          walk_at "w"
          have kl : lookFar ss st i = (false, { st with marks := [] }) := by unfold lookFar; rw [e]; dsimp only; rw [if_neg e1, if_neg (fun q => e2 (by omega))]
          exact fin kl _ hmd'
end
end TB

set_option maxHeartbeats 4000000
namespace TB
open PySem PySem.Spec PyProof.Rows L2 TW LamX NdefX
local macro_rules | `(tactic| walk_at "same") => `(tactic| first
  | exact Same.refl _
  | assumption
  | ((with_reducible refine' Same.trans ?sa (Same.new ?sb)); (case sb => assumption); (case sa => walk_at "same"))
  | ((with_reducible refine' Same.trans ?sa ?sb); (case sb => assumption); (case sa => walk_at "same"))
  | fail)
local macro_rules | `(tactic| walk_at "at") => `(tactic| first
  | assumption
  | exact upd_same
  | ((with_reducible refine' Same.get (Same.new ?sb) ?sa); (case sb => assumption); (case sa => walk_at "at"))
  | ((with_reducible refine' Same.get ?sb ?sa); (case sb => assumption); (case sa => walk_at "at"))
  | ((with_reducible refine' SameX.get ?sb ?sn ?sa); (case sb => assumption); (case sn => assumption); (case sa => walk_at "at"))
  | fail)
local macro_rules | `(tactic| walk_at "sq") => `(tactic| first
  | assumption
  | ((with_reducible refine' tupAt ?sa); (case sa => walk_at "at"))
  | ((with_reducible refine' lstAt ?sa); (case sa => walk_at "at"))
  | ((with_reducible refine' Same.tup (Same.new ?sb) ?sa); (case sb => assumption); (case sa => walk_at "sq"))
  | ((with_reducible refine' Same.lst (Same.new ?sb) ?sa); (case sb => assumption); (case sa => walk_at "sq"))
  | ((with_reducible refine' Same.tup ?sb ?sa); (case sb => assumption); (case sa => walk_at "sq"))
  | ((with_reducible refine' Same.lst ?sb ?sa); (case sb => assumption); (case sa => walk_at "sq"))
  | fail)
local macro_rules | `(tactic| walk_at "ix") => `(tactic| first
  | with_reducible exact atI_0
  | with_reducible exact atI_1
  | with_reducible exact atI_2
  | with_reducible exact atI_3
  | assumption
  | exact rfl)
local macro_rules | `(tactic| walk_at "dr") => `(tactic| first
  | assumption
  | ((with_reducible refine' DrawsAt.same ?sa (Same.new ?sb)); (case sb => assumption); (case sa => walk_at "dr"))
  | ((with_reducible refine' DrawsAt.same ?sa ?sb); (case sb => assumption); (case sa => walk_at "dr"))
  | fail)
local macro_rules | `(tactic| walk_at "sx") => `(tactic| first
  | exact SameX.refl _ _
  | assumption
  | ((with_reducible refine' SameX.new ?sa ?sb); (case sb => assumption); (case sa => walk_at "sx"))
  | ((with_reducible refine' SameX.trans ?sa ?sb); (case sb => assumption); (case sa => walk_at "sx"))
  | ((with_reducible refine' SameX.trans ?sa (SameX.of ?sb)); (case sb => assumption); (case sa => walk_at "sx"))
  | fail)
local macro_rules | `(tactic| walk_at "x1") => `(tactic| fail)
local macro_rules | `(tactic| walk_at "w1") => `(tactic| first
  | ((with_reducible refine' w_var ?hv ?_); (case hv => exact rfl))
  | with_reducible refine' w_c ?_
  | with_reducible refine' w_op ?_
  | with_reducible refine' w_seq ?_
  | with_reducible refine' w_asg ?_
  | with_reducible refine' w_gname ?_
  | with_reducible refine' w_ret ?_
  | with_reducible refine' w_retN ?_
  | with_reducible refine' w_drop ?_
  | with_reducible refine' w_next ?_
  | with_reducible refine' w_nil ?_
  | with_reducible refine' w_cons ?_
  | with_reducible refine' w_cb ?_
  | with_reducible refine' w_call ?_
  | with_reducible refine' w_callS ?_
  | with_reducible refine' w_un ?_
  | with_reducible refine' w_I0 ?_
  | with_reducible refine' w_U ?_
  | ((with_reducible refine' w_eq ?hv ?_); (case hv => exact rfl))
  | ((with_reducible refine' w_ne ?hv ?_); (case hv => exact rfl))
  | with_reducible refine' w_test ?_
  | with_reducible refine' w_tB ?_
  | with_reducible refine' w_bl ?_
  | with_reducible refine' w_blA ?_
  | with_reducible refine' w_and ?_
  | with_reducible refine' w_or ?_
  | with_reducible refine' w_not ?_
  | with_reducible refine' w_andV ?_
  | with_reducible refine' w_orV ?_
  | with_reducible refine' w_notV ?_
  | with_reducible refine' w_if ?_
  | with_reducible refine' w_ifS ?_
  | with_reducible refine' w_T ?_
  | with_reducible refine' w_F ?_
  | with_reducible refine' w_NT ?_
  | with_reducible refine' w_NF ?_
  | with_reducible refine' w_tup ?_
  | with_reducible refine' w_lst ?_
  | with_reducible refine' w_chain ?_
  | with_reducible refine' w_rfl ?_
  | ((with_reducible refine' w_szn ?hl ?_); (case hl => simp only [List.length_cons, List.length_nil]; decide); intro _ _)
  | ((with_reducible refine' w_isiF ?hv ?hw ?_); (case hv => first | assumption | rfl); (case hw => decide))
  | with_reducible refine' w_slice ?_
  | with_reducible refine' w_nopart ?_
  | with_reducible refine' w_part ?_
  | with_reducible refine' w_partI ?_
  | with_reducible refine' w_lc ?_
  | with_reducible refine' w_for ?_
  | with_reducible refine' w_iZip ?_
  | with_reducible refine' w_iEnum ?_
  | with_reducible refine' w_iList ?_
  | with_reducible refine' w_iTup ?_
  | with_reducible refine' w_iR1 ?_
  | with_reducible refine' w_iR2 ?_
  | with_reducible refine' w_gcons ?_
  | ((with_reducible refine' w_gunl ?hv ?hw ?_); (case hv => walk_at "sq"); (case hw => exact rfl))
  | with_reducible refine' w_gnil ?_
  | ((with_reducible refine' w_gtupH ?hv ?hw ?_); (case hv => walk_at "at"); (case hw => exact rfl))
  | ((with_reducible refine' w_wipe (σ := wipe _ _) ?hv ?_); (case hv => exact rfl))
  | with_reducible refine' w_yes ?_
  | with_reducible refine' w_tru ?_
  | with_reducible refine' w_rs ?_
  | with_reducible refine' w_mkO ?_
  | ((with_reducible refine' w_exc1 ?_); intro _ _)
  | with_reducible refine' w_make ?_
  | with_reducible refine' w_makeS ?_
  | with_reducible refine' w_fldG ?_
  | with_reducible refine' w_setF ?_
  | ((with_reducible refine' w_ixT ?hv ?hw ?_); (case hv => walk_at "sq"); (case hw => walk_at "ix"))
  | ((with_reducible refine' w_ixL ?hv ?hw ?_); (case hv => walk_at "sq"); (case hw => walk_at "ix"))
  | ((with_reducible refine' w_lenT ?hv ?_); (case hv => walk_at "sq"))
  | ((with_reducible refine' w_lenL ?hv ?_); (case hv => walk_at "sq"))
  | ((with_reducible refine' w_I ?hc ?_); (case hc => first | (exact cmul_r (by omega) (by omega)) | (exact cmul_l (by omega) (by omega)) | (show (0 : Int) < _; first | assumption | omega) | (exact ⟨by first | assumption | omega, by first | assumption | omega⟩) | (exact ⟨by omega, by omega, by omega⟩)))
  | with_reducible refine' w_int1 ?_
  | with_reducible refine' w_bm ?_
  | with_reducible refine' w_tryA ?_
  | with_reducible refine' w_tryO ?_
  | with_reducible refine' w_insS ?_
  | with_reducible refine' w_xfG ?_
  | ((with_reducible refine' w_cat ?ha ?hb ?hl ?_); (case ha => walk_at "at"); (case hb => walk_at "at"); (case hl => simp only [List.length_cons, List.length_nil, List.length_append]; decide); intro _ _)
  | with_reducible refine' w_gsub ?_
  | ((with_reducible refine' w_setL ?hv ?hw ?_); (case hv => walk_at "at"); (case hw => exact rfl))
  | walk_at "x1"
  | fail)
local macro_rules | `(tactic| walk_at "w") => `(tactic| repeat' walk_at "w1")
local macro_rules | `(tactic| walk_at "a1") => `(tactic| first
  | with_reducible refine' w_tupR ?_
  | with_reducible refine' w_lstR ?_
  | ((with_reducible refine' w_tupA ?hl ?_); (case hl => simp only [List.length_cons, List.length_nil]; decide); intro _ _ _ _ _)
  | ((with_reducible refine' w_lstA ?hl ?_); (case hl => simp only [List.length_cons, List.length_nil]; decide); intro _ _ _ _ _)
  | ((with_reducible refine' w_catA ?ha ?hb ?hl ?_); (case ha => walk_at "at"); (case hb => walk_at "at"); (case hl => simp only [List.length_cons, List.length_nil, List.length_append]; decide); intro _ _ _ _ _)
  | walk_at "w1"
  | fail)
local macro_rules | `(tactic| walk_at "wa") => `(tactic| repeat' walk_at "a1")

local macro_rules | `(tactic| walk_at "x1") => `(tactic| first
  | with_reducible refine' w_mO ?_
  | with_reducible refine' w_gfld ?_
  | with_reducible refine' w_fldaug ?_
  | with_reducible refine' w_nGet ?_
  | with_reducible refine' w_nIn ?_
  | with_reducible refine' w_nNot ?_
  | with_reducible refine' w_nPut ?_
  | ((with_reducible refine' w_newM ?_); intro _ _)
  | fail)
theorem sc_Walk_end : FnScope ["self", "first", "told"] ["self"] (defScope s_Walk_end) := ⟨rfl, rfl, rfl, by decide +kernel, rfl, by decide +kernel, by decide +kernel⟩
theorem sc_fate : FnScope ["chain", "value"] ["chain", "value"] (defScope s_fate) := ⟨rfl, rfl, rfl, by decide +kernel, rfl, by decide +kernel, by decide +kernel⟩
section
variable {P : Program} {w : World} {K : PySem.W.Frag} {mg : Str → Option Value} {base : Heap}
theorem ok_end (T : Fx w K mg) (o_Walk_is_far : Op P w K mg base 2 (He.ga K "Walk") "is_far" ["self"] (spIsFar P w K)) (o_Walk_look_far : Op P w K mg base 3 (He.ga K "Walk") "look_far" ["self"] (spLookFar P w K)) (c_result : Cal P w K mg base 4 "result" ["steps", "value"] (spResult K)) : Op P w K mg base 5 (He.ga K "Walk") "end" ["self"] (spEnd P w K) := by
  refine op_of T.me_Walk_end T.k_Walk (mt_of T.f_Walk_end sc_Walk_end (fun vs H Q E h => ?_) (fun _ _ _ _ _ _ us hl => match us, hl with | [_], _ => rfl) (fun f cdv A outer s H vs Q E hr h => ?_))
  · obtain ⟨_, _, _, _, _, _, _, rfl, _⟩ := h; rfl
  · obtain ⟨x, ss, st, H0, cnt, kk0, ft, rfl, hw, ok, hl, hI, hc, hrun, k⟩ := h
    have hu := hu_of hr
    refine ⟨_, (pss_one (ps_while (passes_of rfl) (pt_val pe_bl) (pss_cons (ps_if (pt_cmp (pc_nin hu (pe_fld (pv 0) rfl) (pe_fld (pv 0) rfl))) (pss_cons (ps_set (i := 1) sc_Walk_end.nd rfl (Or.inl rfl) (pe_nget hu (pe_fld (pv 0) rfl) (pe_fld (pv 0) rfl) (fun _ _ => rfl))) (pss_cons (ps_if (pt_cmpR (op_eq) (pe_op (op_sub) (pe_fld (pv 0) rfl) (pv 1)) pe_int (nomark _)) (pss_one (ps_ret (pe_tup (pa_cons pe_str (pa_cons (pe_fld (pv 0) rfl) (pa_cons (pv 1) pa_nil)))))) pss_nil) (pss_one (ps_ret (pe_tup (pa_cons pe_str (pa_cons (pv 1) pa_nil))))))) pss_nil) (pss_cons (ps_if (pt_val (pe_mO0 o_Walk_is_far hr (by first | decide | omega) (fun σ => atL σ) (pv 0))) (pss_one (ps_if (pt_val (pe_mO0 o_Walk_look_far hr (by first | decide | omega) (fun σ => atL σ) (pv 0))) (pss_one (ps_ret (pe_tup (pa_cons pe_str pa_nil)))) pss_nil)) (pss_one (ps_fld (pv 0) pe_newM rfl))) (pss_cons (ps_nput hu (pe_fld (pv 0) rfl) (pe_fld (pv 0) rfl) (pe_fld (pv 0) rfl) rfl) (pss_cons (ps_set (i := 2) sc_Walk_end.nd rfl (Or.inl rfl) (pe_cal c_result hr (by first | decide | omega) rfl (pa_cons (pe_fld (pv 0) rfl) (pa_cons (pe_fld (pv 0) rfl) pa_nil)))) (pss_cons (ps_if (pt_not (pt_tru (pv 2) (by intro _; rfl))) (pss_one (ps_ret (pe_tup (pa_cons pe_str (pa_cons (pe_fld (pv 0) rfl) pa_nil))))) pss_nil) (pss_cons (ps_fld (pv 0) (pe_ix ix_list (pv 2) pe_int (fun _ _ => rfl)) rfl) (pss_one (ps_fldaug (pv 0) pe_int in_add)))))))))), ?_⟩
    walk_at "w"
    refine while_fuel (fun k σ H' => ∃ o1 o2 st cnt, σ = [some (.ref x), o1, o2] ∧ WalkS P w K H0 H' x ss st ∧ WInv ss cnt st ∧ cnt + k ≤ 1000000 ∧ wrun ss k st = some ft) kk0 ⟨_, _, st, cnt, rfl, hw, hI, hc, hrun⟩ (fun k0 σ H1 p => ?_) true_mono
    obtain ⟨o1, o2, st, cnt, rfl, hw, hI, hc, hrun⟩ := p
    obtain ⟨dx, t, sd, md, ms, h0, h1, h2, h3, h4, h5⟩ := id hw
    cases k0 with
    | zero => cases hrun
    | succ k0 =>
    have hn : wrun ss (k0 + 1) st = match wnext ss st with | .inl f => some f | .inr st' => wrun ss k0 st' := rfl
    rw [hrun] at hn
    walk_at "w"
    refine w_fld h1 T.k_Walk T.n_Walk_value rfl ?_
    walk_at "w"
    refine w_fld h1 T.k_Walk T.n_Walk_seen rfl ?_
    refine w_inSeen h3 ?_
    refine ⟨_, rfl, ?_⟩
    cases es : lookE st.seen st.v with
    | some first =>
      have hw2 : wnext ss st = .inl (if st.n - first = 1 then .rests st.v first else .turns first) := by unfold wnext; rw [es]
      rw [hw2] at hn
      have hn := Option.some.inj hn
      refine w_bT rfl ?_
      walk_at "w"
      refine w_fld h1 T.k_Walk T.n_Walk_seen rfl ?_
      walk_at "w"
      refine w_fld h1 T.k_Walk T.n_Walk_value rfl ?_
      refine w_getSeen h3 es ?_
      walk_at "w"
      refine w_fld h1 T.k_Walk T.n_Walk_times rfl ?_
      walk_at "w"
      refine w_d2 (fun e1 => ?_) (fun e1 => ?_)
      · rw [if_pos (V.int.inj e1)] at hn
        walk_at "w"
        refine w_fld h1 T.k_Walk T.n_Walk_value rfl ?_
        walk_at "w"
        rename_i p hp
        exact k p _ (Same.trans h0.1 (Same.new hp)) (same_free' h0.1 hp) (by rw [hn]; exact upd_same)
      · rw [if_neg (fun z => e1 (by rw [z]))] at hn
        walk_at "w"
        rename_i p hp
        exact k p _ (Same.trans h0.1 (Same.new hp)) (same_free' h0.1 hp) (by rw [hn]; exact upd_same)
    | none =>
      refine w_bF rfl ?_
      walk_at "w"
      refine w_mOG (m := "is_far") h1 rfl ?_
      walk_at "w"
      refine ⟨x, ss, st, H0, rfl, hw, ?_⟩
      refine' w_join _ (fun σ H' => ∃ o1 o2, σ = [some (.ref x), o1, o2] ∧ WalkS P w K H0 H' x ss (looked ss st).2 ∧ (looked ss st).1 = false) ?main ?cont
      case main =>
        intro cont
        refine ⟨_, rfl, ?_⟩
        rcases look_cases ss st with ⟨i, hv, hi, el⟩ | ⟨hno, el⟩
        · refine w_bT (by rw [hv]; exact decide_eq_true hi) ?_
          walk_at "w"
          refine w_mOG (m := "look_far") h1 rfl ?_
          walk_at "w"
          refine ⟨x, ss, st, H0, i, cnt, rfl, hw, ok, hl, hv, hi, hI, by omega, fun H2 hw2 => ?_⟩
          rw [← el] at hw2 ⊢
          refine ⟨_, rfl, ?_⟩
          cases eb : (looked ss st).1 with
          | true =>
            refine w_bT rfl ?_
            have hw3 : wnext ss st = .inl .runs := by unfold wnext; rw [es]; dsimp only; rw [if_pos eb]
            rw [hw3] at hn
            have hn := Option.some.inj hn
            walk_at "w"
            rename_i p hp
            obtain ⟨dx1, t1, sd1, md1, ms1, b0, b1, b2, b3, b4, b5⟩ := id hw2
            exact k p _ (Same.trans b0.1 (Same.new hp)) (same_free' b0.1 hp) (by rw [hn]; exact upd_same)
          | false =>
            refine w_bF rfl ?_
            refine w_next ?_
            exact cont _ _ ⟨_, _, rfl, hw2, eb⟩
        · refine w_bF (by cases e : st.v with | int i => exact decide_eq_false (hno i e) | _ => rfl) ?_
          have wfin : ∀ md', H1 md' = none → WalkS P w K H0 (upd (upd H1 md' (MarkO P w md' [])) x (.ins (He.ga K "Walk") dx (wFs t st.v st.n sd (begO ss) (per ss) md'))) x ss (looked ss st).2 := fun md' hm => by
            rw [el]
            exact walk_newM h0 h1 h2 h3 hm
          refine w_setF ?_
          refine w_newM fun md' hmd' => ?_
          refine w_var rfl ?_
          have nmx : x ≠ md' := ne_of_none h1 hmd'
          refine w_put1 (by rw [upd_ne nmx]; exact h1) T.k_Walk T.n_Walk_marks (by simp [wFs]) ?_
          exact cont _ _ ⟨_, _, rfl, wfin md' hmd', by rw [el]⟩
      case cont =>
        rintro σ H2 ⟨o1, o2, rfl, hw2, hl1⟩
        have hfr := look_fresh (ss := ss) es
        have hln := look_len (ss := ss) (st := st)
        have hsn := hI.seen
        have hnx : wnext ss st = match TW.run ss (looked ss st).2.v with | none => .inl (.refused (looked ss st).2.n) | some v' => .inr ⟨v', (looked ss st).2.n + 1, (looked ss st).2.seen ++ [((looked ss st).2.v, (looked ss st).2.n)], (looked ss st).2.marks⟩ := by
          unfold wnext; rw [es]; dsimp only; rw [if_neg (by rw [hl1]; decide)]
          all_goals (cases TW.run ss (looked ss st).2.v <;> rfl)
        have hnext : ∀ st', wnext ss st = .inr st' → WInv ss (cnt + 1) st' := fun st' e => winv_next ok hI e
        generalize (looked ss st).2 = st1 at hw2 hfr hln hnx ⊢
        obtain ⟨dx1, t1, sd1, md1, ms1, b0, b1, b2, b3, b4, b5⟩ := id hw2
        walk_at "w"
        refine w_fld b1 T.k_Walk T.n_Walk_times rfl ?_
        walk_at "w"
        refine w_fld b1 T.k_Walk T.n_Walk_seen rfl ?_
        walk_at "w"
        refine w_fld b1 T.k_Walk T.n_Walk_value rfl ?_
        refine w_putSeen (P := P) (w := w) b3 hfr (by omega) ?_
        have ws3 := walk_setS (seen' := st1.seen ++ [(st1.v, st1.n)]) b0 b1 b2 b3 b4 b5
        generalize upd H2 sd1 (SeenO P w sd1 (seenK (st1.seen ++ [(st1.v, st1.n)]))) = H3 at ws3 ⊢
        obtain ⟨dx2, t2, sd2, md2, ms2, c0, c1, c2, c3, c4, c5⟩ := id ws3
        walk_at "w"
        refine w_fld c1 T.k_Walk T.n_Walk_steps rfl ?_
        walk_at "w"
        refine w_fld c1 T.k_Walk T.n_Walk_value rfl ?_
        walk_at "w"
        refine go_result (c2.same c0.1) ok (by omega) fun l4 H4 s4 f4 q4 => ?_
        have ws4 := ws3.same s4
        obtain ⟨dx3, t3, sd3, md3, ms3, d0, d1, d2, d3, d4, d5⟩ := id ws4
        dsimp only at c1 d1 d3 d5 q4
        walk_at "w"
        refine w_trO (lstAt q4) ?_
        cases er : TW.run ss st1.v with
        | none =>
          rw [er] at hnx q4
          rw [hnx] at hn
          have hn := Option.some.inj hn
          refine w_bT rfl ?_
          walk_at "w"
          refine w_fld d1 T.k_Walk T.n_Walk_times rfl ?_
          walk_at "w"
          rename_i p hp
          exact k p _ (Same.trans d0.1 (Same.new hp)) (same_free' d0.1 hp) (by rw [hn]; exact upd_same)
        | some v' =>
          rw [er] at hnx q4
          have hnv := hnext _ hnx
          rw [hnx] at hn
          refine w_bF rfl ?_
          have ql4 : SqL K H4 l4 [vv v'] := lstAt q4
          walk_at "w"
          refine w_put1 d1 T.k_Walk T.n_Walk_value (by simp [wFs]) ?_
          have ws5 := walk_setF (v' := v') (n' := st1.n) d0 d1 d2 d3 d4 d5
          rw [show putF ("value" : Str) (vv v') (wFs t3 st1.v st1.n sd3 (begO ss) (per ss) md3) = wFs t3 v' st1.n sd3 (begO ss) (per ss) md3 from rfl]
          generalize upd H4 x (.ins (He.ga K "Walk") dx3 (wFs t3 v' st1.n sd3 (begO ss) (per ss) md3)) = H5 at ws5 ⊢
          obtain ⟨dx4, t4, sd4, md4, ms4, e0, e1, e2, e3, e4, e5⟩ := id ws5
          dsimp only at e1 e3 e5
          walk_at "w"
          refine ⟨x, _, dx4, _, _, rfl, e1, T.k_Walk, T.n_Walk_times, rfl, ?_⟩
          walk_at "w"
          refine ⟨_, _, rfl, rfl, dx4, _, e1, by simp [wFs], ?_⟩
          have ws6 := walk_setF (v' := v') (n' := st1.n + 1) e0 e1 e2 e3 e4 e5
          exact ⟨k0, by omega, _, _, _, cnt + 1, rfl, ws6, hnv, by omega, hn.symm⟩
theorem ok_fate (T : Fx w K mg) (c_check_value : Cal P w K mg base 3 "check_value" ["value"] (spCheck K)) (c_Walk : Mak P w K mg base 3 "Walk" ["self", "chain", "value"] (spWalk0 P w K)) (o_Walk_end : Op P w K mg base 5 (He.ga K "Walk") "end" ["self"] (spEnd P w K)) : Cal P w K mg base 6 "fate" ["chain", "value"] (spFate P w K) := by
  refine cal_of T.f_fate sc_fate (fun vs H Q E h => ?_) (fun _ _ _ _ _ _ us hl => match us, hl with | [_, _], _ => rfl) (fun f cdv A outer s H vs Q E hr h => ?_)
  · obtain ⟨_, _, _, _, _, rfl, _⟩ := h; rfl
  · obtain ⟨c, v, ss, k0, ft, rfl, hc, ok, hl, hk, hrun, k⟩ := h
    refine ⟨_, (pss_cons (ps_expr (pe_calX c_check_value hr (by first | decide | omega) rfl (takes_of rfl rfl rfl rfl) (fun _ _ _ _ h => h) (pa_cons (pv 1) pa_nil))) (pss_one (ps_ret (pe_mO0 o_Walk_end hr (by first | decide | omega) (fun σ => atL σ) (pe_mak c_Walk hr (by first | decide | omega) rfl (pa_cons (pv 0) (pa_cons (pv 1) pa_nil))))))), ?_⟩
    walk_at "w"
    refine go_check (.inl ⟨v, rfl⟩) (fun _ => ?_) (fun h => by rw [isVal_vv] at h; cases h)
    walk_at "w"
    intro x dx hx hdx ndx
    have sN : Same H (upd (upd H dx (.own x)) x (.ins (He.ga K "Walk") dx [])) := Same.trans (Same.new hdx) (Same.new (by rw [upd_ne (Ne.symm ndx)]; exact hx))
    have xN : (upd (upd H dx (.own x)) x (.ins (He.ga K "Walk") dx [])) x = some (.ins (He.ga K "Walk") dx []) := upd_same
    show spWalk0 P w K _ (upd (upd H dx (.own x)) x (.ins (He.ga K "Walk") dx [])) _ _
    generalize upd (upd H dx (.own x)) x (.ins (He.ga K "Walk") dx []) = HN at sN xN ⊢
    have sO : Same H (offH HN x) := fun b o h => offH_at (fun e => by rw [e, hx] at h; cases h) (sN _ _ h)
    refine ⟨x, c, v, ss, dx, rfl, xN, hc.same sN, ok, hl, fun H' ws => ⟨rfl, ?_⟩⟩
    obtain ⟨dx1, t1, sd1, md1, ms1, b0, b1, b2, b3, b4, b5⟩ := id ws
    refine w_mOG (m := "end") b1 rfl ?_
    walk_at "w"
    exact ⟨x, ss, st0 v, offH HN x, 0, k0, ft, rfl, ws, ok, hl, winv0 ss v, by omega, hrun, fun p H2 s2 hp q2 => k p _ (Same.trans sO s2) (same_free' sO hp) q2⟩
end
end TB

set_option maxHeartbeats 4000000
/-! fates of great values that come nearer by the same each time -/
namespace TW
theorem wrun_inr {ss : List Stp} {k : Nat} {st st' : WSt} (h : wnext ss st = .inr st') : wrun ss (k + 1) st = wrun ss k st' := by
  show (match wnext ss st with | .inl f => some f | .inr st' => wrun ss k st') = _
  rw [h]
theorem wrun_inl {ss : List Stp} {k : Nat} {st : WSt} {f : Fate} (h : wnext ss st = .inl f) : wrun ss (k + 1) st = some f := by
  show (match wnext ss st with | .inl f => some f | .inr st' => wrun ss k st') = _
  rw [h]
theorem iabs_s {s h : Int} (hs : s = 1 ∨ s = -1) : iabs (s * h) = iabs h := by
  have a := iabs_cases h; have b := iabs_cases (s * h)
  rcases hs with rfl | rfl <;> omega
def seenD (s d h0 n0 : Int) (K : Nat) : List (Val × Int) := (List.range K).map fun j : Nat => (Val.int (s * (h0 - d * (j : Int))), n0 + (j : Int))
theorem seenD_succ (s d h0 n0 : Int) (K : Nat) : seenD s d h0 n0 (K + 1) = seenD s d h0 n0 K ++ [(.int (s * (h0 - d * (K : Int))), n0 + (K : Int))] := by
  unfold seenD
  rw [List.range_succ, List.map_append]
  rfl
theorem lookE_none {κ β : Type} [DecidableEq κ] {l : List (κ × β)} {k : κ} (h : ∀ p ∈ l, p.1 ≠ k) : lookE l k = none := by
  unfold lookE
  rw [List.find?_eq_none.mpr fun p hp => by simpa using h p hp]
  rfl
theorem lookE_snoc {κ β : Type} [DecidableEq κ] {l : List (κ × β)} {k : κ} {b : β} (h : ∀ p ∈ l, p.1 ≠ k) : lookE (l ++ [(k, b)]) k = some b := by
  unfold lookE
  rw [List.find?_append, List.find?_eq_none.mpr fun p hp => by simpa using h p hp]
  simp
theorem seenD_mem {s d h0 n0 y : Int} {K : Nat} (hs : s = 1 ∨ s = -1) (h : ∀ j : Nat, j < K → y ≠ h0 - d * (j : Int)) : ∀ p ∈ seenD s d h0 n0 K, p.1 ≠ .int (s * y) := by
  intro p hp
  obtain ⟨j, hj, rfl⟩ := List.mem_map.mp hp
  have := h j (List.mem_range.mp hj)
  intro e
  have e := Val.int.inj e
  rcases hs with rfl | rfl <;> omega
def linS (s d h0 n0 : Int) (K : Nat) (M : List (Mark × Int × Int)) : WSt := ⟨.int (s * (h0 - d * (K : Int))), n0 + (K : Int), seenD s d h0 n0 K, M⟩
/-- the marks behind a round: none, or the last place, far out -/
def MOk (s d h0 n0 B : Int) (K : Nat) (M : List (Mark × Int × Int)) : Prop := M = [] ∨ (1 ≤ K ∧ h0 - d * (K : Int) + d > B ∧ M = [((decide (s > 0), 0), h0 - d * (K : Int) + d, n0 + (K : Int) - 1)])
theorem mark_s {ss : List Stp} {s y : Int} (hs : s = 1 ∨ s = -1) (hp : per ss = 1) (hy : 0 < y) : markOf ss (s * y) = (decide (s > 0), 0) := by
  unfold markOf
  rw [hp, Int.emod_one]
  congr 1
  rcases hs with rfl | rfl
  · exact decide_eq_decide.mpr (by omega)
  · exact decide_eq_decide.mpr (by omega)
theorem wnext_near {ss : List Stp} {v : Val} {n : Int} {seen : List (Val × Int)} {M : List (Mark × Int × Int)} {v' : Val} (h1 : lookE seen v = none) (h2 : ∀ i, v = .int i → ¬ iabs i > begO ss) (h3 : run ss v = some v') : wnext ss ⟨v, n, seen, M⟩ = .inr ⟨v', n + 1, seen ++ [(v, n)], []⟩ := by
  rcases look_cases ss ⟨v, n, seen, M⟩ with ⟨i, hv, hi, _⟩ | ⟨_, el⟩
  · exact absurd hi (h2 i hv)
  · unfold wnext
    dsimp only
    rw [h1, el]
    dsimp only
    rw [if_neg (by decide), h3]
theorem wnext_add {ss : List Stp} {i : Int} {n : Int} {seen : List (Val × Int)} {M : List (Mark × Int × Int)} {v' : Val} (h1 : lookE seen (.int i) = none) (h2 : iabs i > begO ss) (h4 : lookE M (markOf ss i) = none) (h3 : run ss (.int i) = some v') : wnext ss ⟨.int i, n, seen, M⟩ = .inr ⟨v', n + 1, seen ++ [(.int i, n)], M ++ [(markOf ss i, iabs i, n)]⟩ := by
  rcases look_cases ss ⟨.int i, n, seen, M⟩ with ⟨j, hv, hi, el⟩ | ⟨hno, _⟩
  · cases hv
    have e4 : lookFar ss ⟨.int i, n, seen, M⟩ i = (false, ⟨.int i, n, seen, M ++ [(markOf ss i, iabs i, n)]⟩) := by
      unfold lookFar
      dsimp only
      rw [h4]
    unfold wnext
    dsimp only
    rw [h1, el, e4]
    dsimp only
    rw [if_neg (by decide), h3]
  · exact absurd h2 (hno i rfl)
theorem wnext_runs {ss : List Stp} {i : Int} {n size time : Int} {seen : List (Val × Int)} {M : List (Mark × Int × Int)} (h1 : lookE seen (.int i) = none) (h2 : iabs i > begO ss) (h4 : lookE M (markOf ss i) = some (size, time)) (h5 : iabs i > size) : wnext ss ⟨.int i, n, seen, M⟩ = .inl .runs := by
  rcases look_cases ss ⟨.int i, n, seen, M⟩ with ⟨j, hv, hi, el⟩ | ⟨hno, _⟩
  · cases hv
    have e4 : (lookFar ss ⟨.int i, n, seen, M⟩ i).1 = true := by
      unfold lookFar
      dsimp only
      rw [h4]
      dsimp only
      rw [if_pos h5]
    unfold wnext
    dsimp only
    rw [h1, el]
    dsimp only
    rw [if_pos e4]
  · exact absurd h2 (hno i rfl)
theorem wnext_back {ss : List Stp} {i : Int} {n size time : Int} {seen : List (Val × Int)} {M : List (Mark × Int × Int)} {v' : Val} (h1 : lookE seen (.int i) = none) (h2 : iabs i > begO ss) (h4 : lookE M (markOf ss i) = some (size, time)) (h5 : ¬ iabs i > size) (h6 : ¬ iabs i - (begO ss + (n - time + 1) * begO ss) > size - iabs i) (h3 : run ss (.int i) = some v') : wnext ss ⟨.int i, n, seen, M⟩ = .inr ⟨v', n + 1, seen ++ [(.int i, n)], []⟩ := by
  rcases look_cases ss ⟨.int i, n, seen, M⟩ with ⟨j, hv, hi, el⟩ | ⟨hno, _⟩
  · cases hv
    have e4 : lookFar ss ⟨.int i, n, seen, M⟩ i = (false, ⟨.int i, n, seen, []⟩) := by
      unfold lookFar
      dsimp only
      rw [h4]
      dsimp only
      rw [if_neg h5, if_neg (fun q => h6 q.2)]
    unfold wnext
    dsimp only
    rw [h1, el, e4]
    dsimp only
    rw [if_neg (by decide), h3]
  · exact absurd h2 (hno i rfl)
theorem wnext_jump {ss : List Stp} {i : Int} {n size time : Int} {seen : List (Val × Int)} {M : List (Mark × Int × Int)} {v' : Val} (h1 : lookE seen (.int i) = none) (h2 : iabs i > begO ss) (h4 : lookE M (markOf ss i) = some (size, time)) (h5 : 0 < size - iabs i) (h6 : iabs i - (begO ss + (n - time + 1) * begO ss) > size - iabs i)
    (h3 : run ss (.int (jumpTo i (Int.fdiv (iabs i - (begO ss + (n - time + 1) * begO ss)) (size - iabs i)) (size - iabs i))) = some v') :
    wnext ss ⟨.int i, n, seen, M⟩ = .inr ⟨v', n + Int.fdiv (iabs i - (begO ss + (n - time + 1) * begO ss)) (size - iabs i) * (n - time) + 1, [(.int (jumpTo i (Int.fdiv (iabs i - (begO ss + (n - time + 1) * begO ss)) (size - iabs i)) (size - iabs i)), n + Int.fdiv (iabs i - (begO ss + (n - time + 1) * begO ss)) (size - iabs i) * (n - time))], []⟩ := by
  rcases look_cases ss ⟨.int i, n, seen, M⟩ with ⟨j, hv, hi, el⟩ | ⟨hno, _⟩
  · cases hv
    have e4 : lookFar ss ⟨.int i, n, seen, M⟩ i = (false, ⟨.int (jumpTo i (Int.fdiv (iabs i - (begO ss + (n - time + 1) * begO ss)) (size - iabs i)) (size - iabs i)), n + Int.fdiv (iabs i - (begO ss + (n - time + 1) * begO ss)) (size - iabs i) * (n - time), [], []⟩) := by
      unfold lookFar
      dsimp only
      rw [h4]
      dsimp only
      rw [if_neg (by omega), if_pos ⟨h5, h6⟩]
    unfold wnext
    dsimp only
    rw [h1, el, e4]
    dsimp only
    rw [if_neg (by decide), h3]
    rfl
  · exact absurd h2 (hno i rfl)
theorem wnext_seen {ss : List Stp} {v : Val} {n first : Int} {seen : List (Val × Int)} {M : List (Mark × Int × Int)} (h1 : lookE seen v = some first) : wnext ss ⟨v, n, seen, M⟩ = .inl (if n - first = 1 then .rests v first else .turns first) := by
  unfold wnext
  dsimp only
  rw [h1]
section
variable {ss : List Stp} {s d h0 n0 B : Int} (hs : s = 1 ∨ s = -1) (hp : per ss = 1) (hB : begO ss = B) (hd : 0 < d) (hdB : d < B) (h3 : h0 ≤ 3 * B + d)
theorem dmul {d : Int} (hd : 0 < d) {j K : Nat} (h : j < K) : d * (j : Int) < d * (K : Int) := Int.mul_lt_mul_of_pos_left (by omega) hd
theorem dsucc (d : Int) (K : Nat) : d * ((K + 1 : Nat) : Int) = d * (K : Int) + d := by rw [Int.natCast_add, Int.mul_add]; simp
include hs hp hB hd hdB h3
theorem lin_next {K : Nat} {M : List (Mark × Int × Int)} (hM : MOk s d h0 n0 B K M) (hlo : -B ≤ h0 - d * (K : Int)) (hr : run ss (.int (s * (h0 - d * (K : Int)))) = some (.int (s * (h0 - d * ((K + 1 : Nat) : Int))))) :
    ∃ M', MOk s d h0 n0 B (K + 1) M' ∧ wnext ss (linS s d h0 n0 K M) = .inr (linS s d h0 n0 (K + 1) M') ∧ (h0 - d * (K : Int) ≤ B → M' = []) := by
  have e1 := dsucc d K
  have hnone : lookE (seenD s d h0 n0 K) (.int (s * (h0 - d * (K : Int)))) = none := lookE_none (seenD_mem hs fun j hj => by have := dmul hd hj; omega)
  have hia := iabs_s (h := h0 - d * (K : Int)) hs
  have hc := iabs_cases (h0 - d * (K : Int))
  have fin : ∀ M', (⟨.int (s * (h0 - d * ((K + 1 : Nat) : Int))), n0 + (K : Int) + 1, seenD s d h0 n0 K ++ [(.int (s * (h0 - d * (K : Int))), n0 + (K : Int))], M'⟩ : WSt) = linS s d h0 n0 (K + 1) M' := fun M' => by
    unfold linS
    rw [seenD_succ]
    congr 1
    omega
  by_cases hy : h0 - d * (K : Int) > B
  · have hmk := mark_s (ss := ss) (y := h0 - d * (K : Int)) hs hp (by omega)
    rcases hM with rfl | ⟨k1, hlast, rfl⟩
    · refine ⟨[((decide (s > 0), 0), h0 - d * (K : Int), n0 + (K : Int))], .inr ⟨by omega, by omega, ?_⟩, ?_, fun h => by omega⟩
      · congr 3
        · omega
        · omega
      · have := wnext_add (ss := ss) (n := n0 + (K : Int)) (M := []) hnone (by rw [hia, hB]; omega) rfl hr
        rw [hmk, hia] at this
        rw [show iabs (h0 - d * (K : Int)) = h0 - d * (K : Int) by omega] at this
        unfold linS at fin ⊢
        rw [← fin]
        exact this
    · refine ⟨[], .inl rfl, ?_, fun _ => rfl⟩
      have hk0 : d ≤ d * (K : Int) := by
        have : (1 : Int) ≤ (K : Int) := by omega
        have := Int.mul_le_mul_of_nonneg_left this (Int.le_of_lt hd)
        omega
      have := wnext_back (ss := ss) (n := n0 + (K : Int)) (M := [((decide (s > 0), 0), h0 - d * (K : Int) + d, n0 + (K : Int) - 1)]) (size := h0 - d * (K : Int) + d) (time := n0 + (K : Int) - 1) hnone (by rw [hia, hB]; omega) (by rw [hmk]; simp [lookE]) (by rw [hia]; omega) (by
        rw [hia, hB, show n0 + (K : Int) - (n0 + (K : Int) - 1) + 1 = 2 by omega]; omega) hr
      rw [fin] at this
      exact this
  · refine ⟨[], .inl rfl, ?_, fun _ => rfl⟩
    have := wnext_near (ss := ss) (n := n0 + (K : Int)) (M := M) hnone (fun i hi => by cases hi; rw [hia, hB]; omega) hr
    rw [fin] at this
    exact this
/-- many rounds -/
theorem lin_many (j : Nat) : ∀ {K : Nat} {M : List (Mark × Int × Int)}, MOk s d h0 n0 B K M → (∀ i : Nat, K ≤ i → i < K + j → -B ≤ h0 - d * (i : Int) ∧ run ss (.int (s * (h0 - d * (i : Int)))) = some (.int (s * (h0 - d * ((i + 1 : Nat) : Int))))) →
    ∃ M', MOk s d h0 n0 B (K + j) M' ∧ (∀ f, wrun ss (j + f) (linS s d h0 n0 K M) = wrun ss f (linS s d h0 n0 (K + j) M')) ∧ (1 ≤ j → h0 - d * ((K + j : Nat) : Int) + d ≤ B → M' = []) := by
  induction j with
  | zero => exact fun {K M} hM _ => ⟨M, hM, fun f => by rw [Nat.zero_add]; rfl, fun h => by omega⟩
  | succ j ih =>
    intro K M hM h
    obtain ⟨h1, h2⟩ := h K (Nat.le_refl _) (by omega)
    obtain ⟨M1, m1, m2, m3⟩ := lin_next hs hp hB hd hdB h3 hM h1 h2
    obtain ⟨M', a, b, c⟩ := ih m1 fun i hi1 hi2 => h i (by omega) (by omega)
    have ek : K + 1 + j = K + (j + 1) := by omega
    rw [ek] at a b c
    refine ⟨M', a, fun f => ?_, fun _ hle => ?_⟩
    · rw [show j + 1 + f = (j + f) + 1 by omega, wrun_inr m2]
      exact b f
    · by_cases hj : 1 ≤ j
      · exact c hj hle
      · have : j = 0 := by omega
        subst this
        rcases a with a | ⟨_, q, _⟩
        · exact a
        · omega
end
end TW

set_option maxHeartbeats 4000000
/-! heights far out: a monotone map that goes with the period -/
namespace TW
theorem rounded_mono {n n' m : Int} {w : Way} (hm : 0 < m) (h : n ≤ n') : rounded n m w ≤ rounded n' m w := by
  have a0 := Int.emod_nonneg n (Int.ne_of_gt hm); have a1 := Int.emod_lt_of_pos n hm; have a2 := Int.mul_ediv_add_emod n m
  have b0 := Int.emod_nonneg n' (Int.ne_of_gt hm); have b1 := Int.emod_lt_of_pos n' hm; have b2 := Int.mul_ediv_add_emod n' m
  have hq : n / m ≤ n' / m := Int.ediv_le_ediv hm h
  rcases Int.lt_or_eq_of_le hq with hq | hq
  · have c : m * (n / m) + m ≤ m * (n' / m) := by
      have := Int.mul_le_mul_of_nonneg_left (show n / m + 1 ≤ n' / m by omega) (Int.le_of_lt hm)
      rw [Int.mul_add, Int.mul_one] at this
      exact this
    cases w
    · show n - n % m ≤ n' - n' % m; omega
    · show (if n % m = 0 then n else n - n % m + m) ≤ (if n' % m = 0 then n' else n' - n' % m + m)
      split <;> split <;> omega
    · show (if n % m = 0 ∨ 2 * (n % m) < m then n - n % m else n - n % m + m) ≤ (if n' % m = 0 ∨ 2 * (n' % m) < m then n' - n' % m else n' - n' % m + m)
      split <;> split <;> omega
  · rw [← hq] at b2
    cases w
    · show n - n % m ≤ n' - n' % m; omega
    · show (if n % m = 0 then n else n - n % m + m) ≤ (if n' % m = 0 then n' else n' - n' % m + m)
      split <;> split <;> omega
    · show (if n % m = 0 ∨ 2 * (n % m) < m then n - n % m else n - n % m + m) ≤ (if n' % m = 0 ∨ 2 * (n' % m) < m then n' - n' % m else n' - n' % m + m)
      split <;> split <;> omega
/-- on a side: y' is as far out as y, or farther -/
def Out (y y' : Int) : Prop := (0 < y ∧ y ≤ y') ∨ (y < 0 ∧ y' ≤ y)
theorem mono1 {s : Stp} (ok : s.ok) {y y' z z' : Int} {e : Bool} (h : s.reach < iabs y) (ho : Out y y') (m : s.lin (decide (0 < y)) = some e) (e1 : step1 s (.int y) = some (.int z)) (e2 : step1 s (.int y') = some (.int z')) : Out z z' := by
  have hy := iabs_cases y
  have hr := sreach_nn s
  cases s with
  | clamp a b => cases m
  | fold k => cases m
  | blank a b => cases m
  | refuse a b => cases m
  | least a =>
    have hp : 0 < y := by
      by_cases q : 0 < y
      · exact q
      · simp [Stp.lin, q] at m
    cases e1; cases e2
    have ha := iabs_cases a
    simp only [Stp.reach] at h
    unfold Out at *; omega
  | most a =>
    have hp : ¬ 0 < y := fun q => by simp [Stp.lin, q] at m
    cases e1; cases e2
    have ha := iabs_cases a
    simp only [Stp.reach] at h
    unfold Out at *; omega
  | round k w =>
    cases e1; cases e2
    have hk := okM_pos' ok
    have n1 := rounded_near (n := y) (w := w) hk
    have n2 := iabs_cases (rounded y k w - y)
    have hk2 := iabs_cases k
    simp only [Stp.reach] at h
    rcases ho with ⟨p, q⟩ | ⟨p, q⟩
    · have := rounded_mono (w := w) hk q
      unfold Out; omega
    · have := rounded_mono (w := w) hk q
      unfold Out; omega
  | shift d =>
    cases e1; cases e2
    have hd := iabs_cases d
    simp only [Stp.reach] at h
    unfold Out at *; omega
  | mirror =>
    have e1 := Val.int.inj (Option.some.inj (show some (Val.int (if y < 0 then -y else y)) = some (.int z) from e1))
    have e2 := Val.int.inj (Option.some.inj (show some (Val.int (if y' < 0 then -y' else y')) = some (.int z') from e2))
    subst e1; subst e2
    rcases ho with ⟨p, q⟩ | ⟨p, q⟩
    · rw [if_neg (by omega), if_neg (by omega)]; exact .inl ⟨p, q⟩
    · rw [if_pos (by omega), if_pos (by omega)]; exact .inl ⟨by omega, by omega⟩
  | turn =>
    cases e1; cases e2
    unfold Out at *; omega
  | fill v =>
    have e1 := Option.some.inj (show some (if Val.int y = .non then v else .int y) = some (.int z) from e1)
    have e2 := Option.some.inj (show some (if Val.int y' = .non then v else .int y') = some (.int z') from e2)
    rw [if_neg (by simp)] at e1 e2
    cases e1; cases e2
    exact ho
  | replace v u =>
    have e1 := Option.some.inj (show some (if Val.int y = v then u else .int y) = some (.int z) from e1)
    have e2 := Option.some.inj (show some (if Val.int y' = v then u else .int y') = some (.int z') from e2)
    have hu := size_nn u
    have hy' := iabs_cases y'
    rw [if_neg (by rintro rfl; have h3 : iabs y + u.size < iabs y := h; omega)] at e1
    rw [if_neg (by rintro rfl; have h3 : iabs y' + u.size < iabs y := h; unfold Out at ho; omega)] at e2
    cases e1; cases e2
    exact ho
  | void k =>
    cases k with
    | number => cases m
    | _ => cases e1; cases e2; exact ho
  | bar k =>
    cases k with
    | number => cases m
    | _ => cases e1; cases e2; exact ho
theorem Out.far {y y' r : Int} (h : Out y y') (hr : r < iabs y) : r < iabs y' := by
  have := iabs_cases y; have := iabs_cases y'
  unfold Out at h; omega
theorem Out.dec {y y' : Int} (h : Out y y') : decide (0 < y') = decide (0 < y) := decide_eq_decide.mpr (by unfold Out at h; omega)
/-- a step far out, in numbers -/
theorem shift1 {s : Stp} (ok : s.ok) {y : Int} {e : Bool} (h : s.reach < iabs y) (m : s.lin (decide (0 < y)) = some e) : ∃ z, step1 s (.int y) = some (.int z) ∧ iabs (z - sg e y) ≤ s.reach := by
  rcases lin1 s ok y s.mod (Int.dvd_refl _) h with ⟨m1, _⟩ | ⟨z, f, m1, hz, ho⟩
  · rw [m] at m1; cases m1
  · rw [m] at m1
    cases m1
    have a0 := ho 0 (side0 (by have := sreach_nn s; omega)) (Int.dvd_zero _)
    have e0 : sg e 0 = 0 := by cases e <;> rfl
    rw [Int.add_zero, e0, Int.add_zero] at a0
    exact ⟨z, a0, hz⟩
theorem monoC : ∀ {ss : List Stp} {y y' z z' : Int} {e : Bool}, (∀ s ∈ ss, s.ok) → reach ss < iabs y → Out y y' → lin ss (decide (0 < y)) = some e → run ss (.int y) = some (.int z) → run ss (.int y') = some (.int z') → Out z z'
  | [], y, y', z, z', e, _, _, ho, _, e1, e2 => by
    have e1 := Val.int.inj (Option.some.inj e1)
    have e2 := Val.int.inj (Option.some.inj e2)
    subst e1; subst e2
    exact ho
  | s :: ss, y, y', z, z', e, ok, h, ho, m, e1, e2 => by
    have hr : s.reach < iabs y := by have := reach_nn ss; simp only [reach] at h; omega
    have ok1 := ok s List.mem_cons_self
    have ok2 : ∀ s ∈ ss, s.ok := fun s hs => ok s (List.mem_cons_of_mem _ hs)
    cases m1 : s.lin (decide (0 < y)) with
    | none => simp [lin, m1] at m
    | some f =>
      obtain ⟨u, a1, hu⟩ := shift1 ok1 hr m1
      obtain ⟨u', a2, hu'⟩ := shift1 ok1 (ho.far hr) (by rw [ho.dec]; exact m1)
      rw [run_cons, a1] at e1
      rw [run_cons, a2] at e2
      have hO := mono1 ok1 hr ho m1 a1 a2
      have hs := sg_pos hu hr
      have hz2 : reach ss < iabs u := by
        have hy := iabs_cases y; have h1 := iabs_cases (u - sg f y); have h2 := iabs_cases u
        simp only [reach] at h
        cases f <;> simp only [sg] at * <;> simp at * <;> omega
      have m2 : ∃ g, lin ss (decide (0 < u)) = some g := by
        rw [hs]
        simp only [lin, m1, Option.bind_some] at m
        cases q : lin ss (f == decide (0 < y)) with
        | none => rw [q] at m; cases m
        | some g => exact ⟨g, rfl⟩
      obtain ⟨g, m2⟩ := m2
      exact monoC ok2 hz2 hO m2 e1 e2
/-! ### the map of heights -/
def sgn (b : Bool) : Int := if b = true then 1 else -1
def bas (ss : List Stp) (h : Int) : Int := reach ss + 1 + (h - reach ss - 1) % per ss
def hat (ss : List Stp) (b : Bool) (h : Int) : Int := (match run ss (.int (sgn b * bas ss h)) with
  | some (.int z) => iabs z
  | _ => bas ss h) + (h - bas ss h)
theorem sgn_cases (b : Bool) : (b = true ∧ sgn b = 1) ∨ (b = false ∧ sgn b = -1) := by cases b <;> simp [sgn]
theorem sgn_abs {b : Bool} {h : Int} : iabs (sgn b * h) = iabs h := iabs_s (by cases b <;> simp [sgn])
theorem sgn_pos {b : Bool} {h : Int} (hh : 0 < h) : decide (0 < sgn b * h) = b := by
  rcases sgn_cases b with ⟨rfl, e⟩ | ⟨rfl, e⟩ <;> rw [e]
  · exact decide_eq_true (by omega)
  · exact decide_eq_false (by omega)
section
variable {ss : List Stp} (ok : ∀ s ∈ ss, s.ok)
include ok
theorem bas_facts (h : Int) : reach ss < bas ss h ∧ bas ss h ≤ reach ss + per ss ∧ ∃ c, h = bas ss h + per ss * c := by
  have hp := per_pos ok
  have a := Int.emod_nonneg (h - reach ss - 1) (Int.ne_of_gt hp)
  have b := Int.emod_lt_of_pos (h - reach ss - 1) hp
  have c := Int.mul_ediv_add_emod (h - reach ss - 1) (per ss)
  unfold bas
  exact ⟨by omega, by omega, (h - reach ss - 1) / per ss, by omega⟩
theorem bas_per (h c : Int) : bas ss (h + per ss * c) = bas ss h := by
  unfold bas
  rw [show h + per ss * c - reach ss - 1 = (h - reach ss - 1) + per ss * c by omega, Int.add_mul_emod_self_left]
theorem hat_per (b : Bool) (h c : Int) : hat ss b (h + per ss * c) = hat ss b h + per ss * c := by
  unfold hat
  rw [bas_per ok]
  omega
theorem hat_run {b e : Bool} (m : lin ss b = some e) {h : Int} (hh : reach ss < h) : run ss (.int (sgn b * h)) = some (.int (sgn (e == b) * hat ss b h)) ∧ 0 < hat ss b h ∧ iabs (hat ss b h - h) ≤ reach ss := by
  obtain ⟨b1, b2, c, hc⟩ := bas_facts ok h
  have hp := per_pos ok
  have hr := reach_nn ss
  have hc0 : 0 ≤ c := by
    by_cases q : 0 ≤ c
    · exact q
    · have : per ss * c ≤ per ss * (-1) := Int.mul_le_mul_of_nonneg_left (by omega) (Int.le_of_lt hp)
      omega
  have hpc : 0 ≤ per ss * c := Int.mul_nonneg (Int.le_of_lt hp) hc0
  have ab := sgn_abs (b := b) (h := bas ss h)
  have cb := iabs_cases (bas ss h)
  have hd : decide (0 < sgn b * bas ss h) = b := sgn_pos (by omega)
  rcases farL ss (per ss) ok (fun s hs => per_dvd ok hs) (sgn b * bas ss h) (by omega) with ⟨m1, _⟩ | ⟨z, f, m1, hz, ho⟩
  · rw [hd, m] at m1; cases m1
  · rw [hd, m] at m1
    cases m1
    have e0 : sg e 0 = 0 := by cases e <;> rfl
    have a0 := ho 0 (side0 (by omega)) (Int.dvd_zero _)
    rw [Int.add_zero, e0, Int.add_zero] at a0
    have a0 : run ss (.int (sgn b * bas ss h)) = some (.int z) := a0
    have a1 := ho (sgn b * (per ss * c)) (by
      rcases sgn_cases b with ⟨_, q⟩ | ⟨_, q⟩ <;> rw [q]
      · left; omega
      · right; omega) (by
      rcases sgn_cases b with ⟨_, q⟩ | ⟨_, q⟩ <;> rw [q]
      · exact ⟨c, by omega⟩
      · exact ⟨-c, by rw [Int.mul_neg]; omega⟩)
    have ehat : hat ss b h = iabs z + (h - bas ss h) := by unfold hat; rw [a0]
    have cz := iabs_cases z
    have cz2 := iabs_cases (z - sg e (sgn b * bas ss h))
    have cz3 := iabs_cases (hat ss b h - h)
    have ev : sgn b * bas ss h + sgn b * (per ss * c) = sgn b * h := by rcases sgn_cases b with ⟨_, q⟩ | ⟨_, q⟩ <;> rw [q] <;> omega
    have a1 : run ss (.int (sgn b * bas ss h + sgn b * (per ss * c))) = some (.int (z + sg e (sgn b * (per ss * c)))) := a1
    rw [ev] at a1
    rw [a1, ehat]
    have hh2 : h - bas ss h = per ss * c := by omega
    rw [ehat, hh2] at cz3
    rw [hh2]
    generalize per ss * c = t at *
    generalize bas ss h = g at *
    cases b <;> cases e <;> simp only [sg, sgn] at * <;> simp at * <;> refine ⟨?_, ?_, ?_⟩ <;> omega
theorem hat_mono {b e : Bool} (m : lin ss b = some e) {h h' : Int} (hh : h ≤ h') : hat ss b h ≤ hat ss b h' := by
  have hp := per_pos ok
  have hr := reach_nn ss
  -- lifted above the reach
  obtain ⟨N, hN⟩ : ∃ N : Int, reach ss < h + per ss * N := by
    have hq := iabs_cases h
    refine ⟨reach ss + iabs h + 1, ?_⟩
    have : 1 * (reach ss + iabs h + 1) ≤ per ss * (reach ss + iabs h + 1) := Int.mul_le_mul_of_nonneg_right (by omega) (by omega)
    omega
  have p1 := hat_per ok b h N
  have p2 := hat_per ok b h' N
  obtain ⟨r1, g1, _⟩ := hat_run ok m hN
  obtain ⟨r2, g2, _⟩ := hat_run ok m (h := h' + per ss * N) (by omega)
  generalize per ss * N = T at *
  have hO : Out (sgn b * (h + T)) (sgn b * (h' + T)) := by
    rcases sgn_cases b with ⟨_, q⟩ | ⟨_, q⟩ <;> rw [q] <;> unfold Out <;> omega
  have := monoC ok (by rw [sgn_abs]; have := iabs_cases (h + T); omega) hO (by rw [sgn_pos (by omega)]; exact m) r1 r2
  unfold Out at this
  rcases sgn_cases (e == b) with ⟨_, q⟩ | ⟨_, q⟩ <;> rw [q] at this <;> omega
end
end TW

set_option maxHeartbeats 4000000
/-! rotation: what goes up by a period does not come down by one -/
namespace TW
def FX (ss : List Stp) (x : Bool × Int) : Bool × Int := match lin ss x.1 with
  | none => x
  | some e => (e == x.1, hat ss x.1 x.2)
def itr (ss : List Stp) : Nat → Bool × Int → Bool × Int
  | 0, x => x
  | n + 1, x => itr ss n (FX ss x)
theorem itr_add (ss : List Stp) : ∀ (m n : Nat) (x : Bool × Int), itr ss (m + n) x = itr ss n (itr ss m x)
  | 0, n, x => by rw [Nat.zero_add]; rfl
  | m + 1, n, x => by rw [show m + 1 + n = (m + n) + 1 by omega]; exact itr_add ss m n (FX ss x)
theorem itr_succ (ss : List Stp) (n : Nat) (x : Bool × Int) : itr ss (n + 1) x = FX ss (itr ss n x) := itr_add ss n 1 x
theorem FX_none {ss : List Stp} {x : Bool × Int} (m : lin ss x.1 = none) : FX ss x = x := by unfold FX; rw [m]
theorem FX_some {ss : List Stp} {x : Bool × Int} {e : Bool} (m : lin ss x.1 = some e) : FX ss x = (e == x.1, hat ss x.1 x.2) := by unfold FX; rw [m]
theorem FX_side {ss : List Stp} {x y : Bool × Int} (h : x.1 = y.1) : (FX ss x).1 = (FX ss y).1 := by
  cases m : lin ss x.1 with
  | none => rw [FX_none m, FX_none (h ▸ m), h]
  | some e => rw [FX_some m, FX_some (h ▸ m), h]
theorem itr_side {ss : List Stp} : ∀ (n : Nat) {x y : Bool × Int}, x.1 = y.1 → (itr ss n x).1 = (itr ss n y).1
  | 0, _, _, h => h
  | n + 1, _, _, h => itr_side n (FX_side h)
theorem stay {ss : List Stp} {x : Bool × Int} (h : (FX ss x).1 = x.1) : ∀ n, (itr ss n x).1 = x.1
  | 0 => rfl
  | n + 1 => (itr_side n h).trans (stay h n)
section
variable {ss : List Stp} (ok : ∀ s ∈ ss, s.ok)
include ok
theorem FX_per (b : Bool) (h c : Int) : FX ss (b, h + per ss * c) = ((FX ss (b, h)).1, (FX ss (b, h)).2 + per ss * c) := by
  cases m : lin ss b with
  | none => rw [FX_none (x := (b, h + per ss * c)) m, FX_none (x := (b, h)) m]
  | some e => rw [FX_some (x := (b, h + per ss * c)) m, FX_some (x := (b, h)) m, hat_per ok]
theorem itr_per (n : Nat) : ∀ (b : Bool) (h c : Int), itr ss n (b, h + per ss * c) = ((itr ss n (b, h)).1, (itr ss n (b, h)).2 + per ss * c) := by
  induction n with
  | zero => exact fun _ _ _ => rfl
  | succ n ih =>
      intro b h c
      show itr ss n (FX ss (b, h + per ss * c)) = _
      rw [FX_per ok]
      exact ih _ _ c
theorem FX_mono {b : Bool} {h h' : Int} (hh : h ≤ h') : (FX ss (b, h)).2 ≤ (FX ss (b, h')).2 := by
  cases m : lin ss b with
  | none => rw [FX_none (x := (b, h)) m, FX_none (x := (b, h')) m]; exact hh
  | some e => rw [FX_some (x := (b, h)) m, FX_some (x := (b, h')) m]; exact hat_mono ok m hh
theorem itr_mono (n : Nat) : ∀ {b : Bool} {h h' : Int}, h ≤ h' → (itr ss n (b, h)).2 ≤ (itr ss n (b, h')).2 := by
  induction n with
  | zero => exact fun h => h
  | succ n ih =>
      intro b h h' hh
      show (itr ss n (FX ss (b, h))).2 ≤ (itr ss n (FX ss (b, h'))).2
      have a := FX_mono ok (b := b) hh
      have s : (FX ss (b, h)).1 = (FX ss (b, h')).1 := FX_side rfl
      have e : FX ss (b, h') = ((FX ss (b, h)).1, (FX ss (b, h')).2) := by rw [s]
      rw [e]
      exact ih a
theorem FX_near (x : Bool × Int) : iabs ((FX ss x).2 - x.2) ≤ reach ss := by
  cases m : lin ss x.1 with
  | none => rw [FX_none m, Int.sub_self]; exact reach_nn ss
  | some e =>
    rw [FX_some m]
    obtain ⟨b1, b2, c, hc⟩ := bas_facts ok x.2
    obtain ⟨_, _, h3⟩ := hat_run ok m b1
    have h4 := hat_per ok x.1 (bas ss x.2) c
    rw [← hc] at h4
    show iabs (hat ss x.1 x.2 - x.2) ≤ _
    rw [h4]
    rw [show hat ss x.1 (bas ss x.2) + per ss * c - x.2 = hat ss x.1 (bas ss x.2) - bas ss x.2 by omega]
    exact h3
theorem itr_near (n : Nat) : ∀ x : Bool × Int, iabs ((itr ss n x).2 - x.2) ≤ (n : Int) * reach ss := by
  induction n with
  | zero => exact fun x => by show iabs (x.2 - x.2) ≤ _; rw [Int.sub_self]; simp [iabs]
  | succ n ih =>
      intro x
      have a := FX_near ok x
      have b := ih (FX ss x)
      have c1 := iabs_cases ((FX ss x).2 - x.2); have c2 := iabs_cases ((itr ss n (FX ss x)).2 - (FX ss x).2); have c3 := iabs_cases ((itr ss n (FX ss x)).2 - x.2)
      show iabs ((itr ss n (FX ss x)).2 - x.2) ≤ ((n + 1 : Nat) : Int) * reach ss
      rw [Int.natCast_add, Int.add_mul]
      simp only [Int.natCast_one, Int.one_mul]
      omega
theorem down_many {b : Bool} {w c : Int} {k : Nat} (h : itr ss k (b, w) = (b, w - per ss * c)) : ∀ (j : Nat) , itr ss (k * j) (b, w) = (b, w - per ss * (c * (j : Int)))
  | 0 => by simp [itr]
  | j + 1 => by
    rw [Nat.mul_succ, itr_add, down_many h j]
    have := itr_per ok k b w (-(c * (j : Int)))
    rw [Int.mul_neg, h] at this
    rw [show w - per ss * (c * (j : Int)) = w + -(per ss * (c * (j : Int))) by omega, this]
    dsimp only
    congr 1
    rw [show ((j + 1 : Nat) : Int) = (j : Int) + 1 by omega, Int.mul_add, Int.mul_one, Int.mul_add]
    omega
theorem up_many {b : Bool} {a a' : Int} {n : Nat} (h : itr ss n (b, a) = (b, a')) (ha : a + per ss ≤ a') : ∀ (j : Nat), (itr ss (n * j) (b, a)).1 = b ∧ a + per ss * (j : Int) ≤ (itr ss (n * j) (b, a)).2
  | 0 => by simp [itr]
  | j + 1 => by
    obtain ⟨h1, h2⟩ := up_many h ha j
    rw [Nat.mul_succ, itr_add]
    have e : itr ss (n * j) (b, a) = (b, (itr ss (n * j) (b, a)).2) := Prod.ext h1 rfl
    rw [e]
    have m := itr_mono ok n (b := b) h2
    have p := itr_per ok n b a (j : Int)
    rw [h] at p
    rw [p] at m
    dsimp only at m
    have s : (itr ss n (b, (itr ss (n * j) (b, a)).2)).1 = b := by
      have := itr_side (ss := ss) n (x := (b, (itr ss (n * j) (b, a)).2)) (y := (b, a)) rfl
      rw [h] at this
      exact this
    refine ⟨s, ?_⟩
    rw [show ((j + 1 : Nat) : Int) = (j : Int) + 1 by omega, Int.mul_add, Int.mul_one]
    omega
/-- the rotation lemma -/
theorem rot {b : Bool} {a a' w c : Int} {n k : Nat} (hk : 1 ≤ k) (h1 : itr ss n (b, a) = (b, a')) (ha : a + per ss ≤ a') (h2 : itr ss k (b, w) = (b, w - per ss * c)) (hc : 1 ≤ c) : False := by
  have hp := per_pos ok
  have cw := iabs_cases (a - w)
  -- a stands below w lifted by m periods
  have hm : a ≤ w + per ss * iabs (a - w) := by
    have : 1 * iabs (a - w) ≤ per ss * iabs (a - w) := Int.mul_le_mul_of_nonneg_right (by omega) (iabs_nn _)
    omega
  obtain ⟨J, hJ⟩ : ∃ J : Nat, (J : Int) = iabs (w + per ss * iabs (a - w) - a) + 1 := ⟨(iabs (w + per ss * iabs (a - w) - a) + 1).toNat, by have := iabs_nn (w + per ss * iabs (a - w) - a); omega⟩
  obtain ⟨u1, u2⟩ := up_many ok h1 ha (k * J)
  have d := down_many ok h2 (n * J)
  have mo := itr_mono ok (n * (k * J)) (b := b) hm
  have pe := itr_per ok (n * (k * J)) b w (iabs (a - w))
  rw [pe] at mo
  have ex : n * (k * J) = k * (n * J) := by rw [← Nat.mul_assoc, ← Nat.mul_assoc, Nat.mul_comm n k]
  rw [ex] at mo u2
  rw [d] at mo
  dsimp only at mo
  have hkJ : (J : Int) ≤ ((k * J : Nat) : Int) := by
    have : 1 * J ≤ k * J := Nat.mul_le_mul_right J hk
    omega
  have h3 : 1 * ((k * J : Nat) : Int) ≤ per ss * ((k * J : Nat) : Int) := Int.mul_le_mul_of_nonneg_right (by omega) (Int.natCast_nonneg _)
  have h4 : 0 ≤ per ss * (c * ((n * J : Nat) : Int)) := Int.mul_nonneg (Int.le_of_lt hp) (Int.mul_nonneg (by omega) (Int.natCast_nonneg _))
  have c2 := iabs_cases (w + per ss * iabs (a - w) - a)
  omega
/-- with a window that goes down, the whole orbit stays low -/
theorem low_orbit {x0 : Bool × Int} {b : Bool} {w c : Int} {n1 k : Nat} (hk : 1 ≤ k) (hw : itr ss n1 x0 = (b, w)) (h2 : itr ss k (b, w) = (b, w - per ss * c)) (hc : 1 ≤ c) (n : Nat) :
    (itr ss n x0).2 ≤ x0.2 + 2 * reach ss + per ss ∧ ((itr ss n x0).1 = b → (itr ss n x0).2 < x0.2 + reach ss + per ss) := by
  have hp := per_pos ok
  have hr := reach_nn ss
  -- the orbit comes to side b again and again
  have again : ∀ j : Nat, (itr ss (n1 + k * j) x0).1 = b := fun j => by rw [itr_add, hw, down_many ok h2 j]
  have noStay : ∀ N : Nat, (itr ss N x0).1 ≠ b → (itr ss (N + 1) x0).1 = b := fun N hN => by
    by_cases q : (itr ss (N + 1) x0).1 = (itr ss N x0).1
    · exfalso
      rw [itr_succ] at q
      have st := stay q
      have ag := again (N + 1)
      have le : N ≤ n1 + k * (N + 1) := by
        have : 1 * (N + 1) ≤ k * (N + 1) := Nat.mul_le_mul_right _ hk
        omega
      obtain ⟨r, hr⟩ := Nat.exists_eq_add_of_le le
      rw [hr, itr_add, st r] at ag
      exact hN ag
    · cases h1 : (itr ss (N + 1) x0).1 <;> cases h2 : (itr ss N x0).1 <;> cases b <;> simp_all
  -- the first place on side b
  obtain ⟨ny, hny, y, hy, hyl⟩ : ∃ ny : Nat, ny ≤ 1 ∧ ∃ y : Int, itr ss ny x0 = (b, y) ∧ y ≤ x0.2 + reach ss := by
    by_cases q : x0.1 = b
    · exact ⟨0, by omega, x0.2, by show x0 = _; rw [← q], by omega⟩
    · have := noStay 0 q
      have nr := FX_near ok x0
      have cc := iabs_cases ((FX ss x0).2 - x0.2)
      refine ⟨1, by omega, (itr ss 1 x0).2, Prod.ext this rfl, ?_⟩
      show (FX ss x0).2 ≤ _
      omega
  have onb : ∀ N : Nat, (itr ss N x0).1 = b → (itr ss N x0).2 < x0.2 + reach ss + per ss := fun N hN => by
    by_cases q : ny ≤ N
    · obtain ⟨r, hr⟩ := Nat.exists_eq_add_of_le q
      have e : itr ss N x0 = itr ss r (b, y) := by rw [hr, itr_add, hy]
      by_cases z : y + per ss ≤ (itr ss N x0).2
      · exact (rot ok hk (a := y) (n := r) (by rw [← e]; exact Prod.ext hN rfl) z h2 hc).elim
      · omega
    · have : N = 0 := by omega
      subst this
      show x0.2 < _
      omega
  refine ⟨?_, onb n⟩
  by_cases q : (itr ss n x0).1 = b
  · have := onb n q; omega
  · cases n with
    | zero => show x0.2 ≤ _; omega
    | succ n =>
      by_cases q2 : (itr ss n x0).1 = b
      · have a := onb n q2
        rw [itr_succ]
        have nr := FX_near ok (itr ss n x0)
        have cc := iabs_cases ((FX ss (itr ss n x0)).2 - (itr ss n x0).2)
        omega
      · exact absurd (noStay n q2) q
end
end TW

set_option maxHeartbeats 4000000
/-! every walk ends -/
namespace TW
def posOf (v : Int) : Bool × Int := (decide (0 < v), iabs v)
theorem pos_val {v : Int} (h : 0 < iabs v) : v = sgn (posOf v).1 * (posOf v).2 := by
  have c := iabs_cases v
  unfold posOf sgn
  by_cases q : 0 < v
  · simp [q]; omega
  · simp [q]; omega
theorem round_far {ss : List Stp} {st st' : WSt} {i : Int} (hv : st.v = .int i) (hf : iabs i > begO ss) (h : wnext ss st = .inr st') : lookE st.seen (.int i) = none ∧
    ((lookE st.marks (markOf ss i) = none ∧ ∃ v', run ss (.int i) = some v' ∧ st' = ⟨v', st.n + 1, st.seen ++ [(.int i, st.n)], st.marks ++ [(markOf ss i, iabs i, st.n)]⟩) ∨
    ∃ size time, lookE st.marks (markOf ss i) = some (size, time) ∧ iabs i ≤ size ∧
      ((¬ (size - iabs i > 0 ∧ iabs i - (begO ss + (st.n - time + 1) * begO ss) > size - iabs i) ∧ ∃ v', run ss (.int i) = some v' ∧ st' = ⟨v', st.n + 1, st.seen ++ [(.int i, st.n)], []⟩) ∨
      (size - iabs i > 0 ∧ iabs i - (begO ss + (st.n - time + 1) * begO ss) > size - iabs i ∧ ∃ v' n', run ss (.int (jumpTo i (Int.fdiv (iabs i - (begO ss + (st.n - time + 1) * begO ss)) (size - iabs i)) (size - iabs i))) = some v' ∧ st' = ⟨v', n' + 1, [] ++ [(.int (jumpTo i (Int.fdiv (iabs i - (begO ss + (st.n - time + 1) * begO ss)) (size - iabs i)) (size - iabs i)), n')], []⟩))) := by
  obtain ⟨sv, sn, sseen, smarks⟩ := st
  dsimp only at hv
  subst hv
  dsimp only
  unfold wnext at h
  dsimp only at h
  cases e1 : lookE sseen (.int i) with
  | some f => rw [e1] at h; cases h
  | none =>
    refine ⟨rfl, ?_⟩
    rw [e1] at h
    dsimp only at h
    rcases look_cases ss ⟨.int i, sn, sseen, smarks⟩ with ⟨j, hj, _, el⟩ | ⟨hno, _⟩
    · cases hj
      cases e2 : lookE smarks (markOf ss i) with
      | none =>
        have eL : lookFar ss ⟨.int i, sn, sseen, smarks⟩ i = (false, ⟨.int i, sn, sseen, smarks ++ [(markOf ss i, iabs i, sn)]⟩) := by
          unfold lookFar; dsimp only; rw [e2]
        rw [el, eL] at h
        dsimp only at h
        rw [if_neg (by decide)] at h
        cases e3 : run ss (.int i) with
        | none => rw [e3] at h; cases h
        | some v' =>
          rw [e3] at h
          exact .inl ⟨rfl, v', rfl, (Sum.inr.inj h).symm⟩
      | some p =>
        obtain ⟨size, time⟩ := p
        refine .inr ⟨size, time, rfl, ?_⟩
        by_cases q : iabs i > size
        · have eL : lookFar ss ⟨.int i, sn, sseen, smarks⟩ i = (true, ⟨.int i, sn, sseen, smarks⟩) := by
            unfold lookFar; dsimp only; rw [e2]; dsimp only; rw [if_pos q]
          rw [el, eL] at h
          dsimp only at h
          rw [if_pos rfl] at h
          cases h
        · refine ⟨by omega, ?_⟩
          by_cases q2 : size - iabs i > 0 ∧ iabs i - (begO ss + (sn - time + 1) * begO ss) > size - iabs i
          · have eL : lookFar ss ⟨.int i, sn, sseen, smarks⟩ i = (false, ⟨.int (jumpTo i (Int.fdiv (iabs i - (begO ss + (sn - time + 1) * begO ss)) (size - iabs i)) (size - iabs i)), sn + Int.fdiv (iabs i - (begO ss + (sn - time + 1) * begO ss)) (size - iabs i) * (sn - time), [], []⟩) := by
              unfold lookFar; dsimp only; rw [e2]; dsimp only; rw [if_neg q, if_pos q2]
            rw [el, eL] at h
            dsimp only at h
            rw [if_neg (by decide)] at h
            cases e3 : run ss (.int (jumpTo i (Int.fdiv (iabs i - (begO ss + (sn - time + 1) * begO ss)) (size - iabs i)) (size - iabs i))) with
            | none => rw [e3] at h; cases h
            | some v' =>
              rw [e3] at h
              exact .inr ⟨q2.1, q2.2, v', _, rfl, (Sum.inr.inj h).symm⟩
          · have eL : lookFar ss ⟨.int i, sn, sseen, smarks⟩ i = (false, ⟨.int i, sn, sseen, []⟩) := by
              unfold lookFar; dsimp only; rw [e2]; dsimp only; rw [if_neg q, if_neg q2]
            rw [el, eL] at h
            dsimp only at h
            rw [if_neg (by decide)] at h
            cases e3 : run ss (.int i) with
            | none => rw [e3] at h; cases h
            | some v' =>
              rw [e3] at h
              exact .inl ⟨q2, v', rfl, (Sum.inr.inj h).symm⟩
    · exact absurd hf (hno i rfl)
theorem round_near {ss : List Stp} {st st' : WSt} (hn : ∀ i, st.v = .int i → ¬ iabs i > begO ss) (h : wnext ss st = .inr st') : lookE st.seen st.v = none ∧ ∃ v', run ss st.v = some v' ∧ st' = ⟨v', st.n + 1, st.seen ++ [(st.v, st.n)], []⟩ := by
  unfold wnext at h
  cases e1 : lookE st.seen st.v with
  | some f => rw [e1] at h; cases h
  | none =>
    refine ⟨rfl, ?_⟩
    rw [e1] at h
    dsimp only at h
    rcases look_cases ss st with ⟨j, hj, hf, _⟩ | ⟨_, el⟩
    · exact absurd hf (hn j hj)
    · rw [el] at h
      dsimp only at h
      rw [if_neg (by decide)] at h
      cases e3 : run ss st.v with
      | none => rw [e3] at h; cases h
      | some v' =>
        rw [e3] at h
        exact ⟨v', rfl, (Sum.inr.inj h).symm⟩
section
variable {ss : List Stp} (ok : ∀ s ∈ ss, s.ok)
include ok
theorem step_far {i j : Int} (hi : iabs i > begO ss) (hj : iabs j > begO ss) (h : run ss (.int i) = some (.int j)) : posOf j = FX ss (posOf i) := by
  have hp := per_pos ok
  have hr := reach_nn ss
  have hR : reach ss < iabs i := by unfold begO at hi; omega
  cases m : lin ss (posOf i).1 with
  | none =>
    have := const_size ok hR m h
    simp only [Val.size] at this
    unfold begO at hj
    omega
  | some e =>
    obtain ⟨h1, h2, _⟩ := hat_run ok m (h := (posOf i).2) hR
    rw [← pos_val (by omega), h] at h1
    have hj := Val.int.inj (Option.some.inj h1)
    rw [FX_some m]
    have hs := sgn_pos (b := e == (posOf i).1) h2
    rw [← hj] at hs
    have ha := sgn_abs (b := e == (posOf i).1) (h := hat ss (posOf i).1 (posOf i).2)
    rw [← hj] at ha
    have c := iabs_cases (hat ss (posOf i).1 (posOf i).2)
    show (decide (0 < j), iabs j) = _
    rw [hs, ha]
    congr 1
    omega
theorem mark_eq {i j : Int} (hi : 0 < iabs i) (hj : 0 < iabs j) (h : markOf ss i = markOf ss j) : (posOf i).1 = (posOf j).1 ∧ ∃ c, iabs i = iabs j + per ss * c := by
  unfold markOf at h
  have h1 := congrArg Prod.fst h
  have h2 := congrArg Prod.snd h
  dsimp only at h1 h2
  refine ⟨h1, ?_⟩
  have ci := iabs_cases i; have cj := iabs_cases j
  have hiff : (i > 0) ↔ (j > 0) := decide_eq_decide.mp h1
  have di := Int.mul_ediv_add_emod i (per ss)
  have dj := Int.mul_ediv_add_emod j (per ss)
  by_cases q : 0 < i
  · refine ⟨i / per ss - j / per ss, ?_⟩
    rw [Int.mul_sub]
    omega
  · refine ⟨j / per ss - i / per ss, ?_⟩
    rw [Int.mul_sub]
    omega
end
/-- an excursion: places far out, one behind the other, from x0 -/
structure Exc (ss : List Stp) (x0 : Bool × Int) (n : Nat) (i : Int) (st : WSt) : Prop where
  pos : posOf i = itr ss n x0
  mks : ∀ m ∈ st.marks, ∃ (w : Int) (n1 k1 : Nat), m.1 = markOf ss w ∧ m.2.1 = iabs w ∧ m.2.2 = st.n - (k1 : Int) ∧ 1 ≤ k1 ∧ n1 + k1 = n ∧ itr ss n1 x0 = posOf w ∧ iabs w > begO ss ∧ ∃ t, (Val.int w, t) ∈ st.seen
  nd : (st.marks.map (·.1)).Nodup
/-- a window that goes down -/
def Win (ss : List Stp) (x0 : Bool × Int) (n1 k : Nat) (b : Bool) (w c : Int) : Prop := 1 ≤ k ∧ 1 ≤ c ∧ itr ss n1 x0 = (b, w) ∧ itr ss k (b, w) = (b, w - per ss * c)
section
variable {ss : List Stp} (ok : ∀ s ∈ ss, s.ok)
include ok
/-- a repeated mark that does not end the walk is a window that goes down -/
theorem exc_win {x0 : Bool × Int} {n : Nat} {i : Int} {st : WSt} {size time : Int} (hv : st.v = .int i) (hf : iabs i > begO ss) (E : Exc ss x0 n i st) (hs : lookE st.seen (.int i) = none) (hm : lookE st.marks (markOf ss i) = some (size, time)) (hle : iabs i ≤ size) :
    ∃ (n1 k1 : Nat) (c : Int), n1 + k1 = n ∧ time = st.n - (k1 : Int) ∧ size = iabs i + per ss * c ∧ Win ss x0 n1 k1 (posOf i).1 size c := by
  have hp := per_pos ok
  have hr := reach_nn ss
  obtain ⟨w, n1, k1, h1, h2, h3, h4, h5, h6, h7, t, h8⟩ := E.mks _ (lookE_mem hm)
  dsimp only at h1 h2 h3
  obtain ⟨a, c, b⟩ := mark_eq ok (by unfold begO at *; omega) (by unfold begO at *; omega) h1
  have bz : iabs w = iabs i + per ss * -c := by rw [Int.mul_neg]; omega
  have hne : w ≠ i := fun e => by
    rw [e] at h8
    unfold lookE at hs
    have := Option.map_eq_none_iff.mp hs
    exact (List.find?_eq_none.mp this) _ h8 (decide_eq_true rfl)
  have hc : 1 ≤ -c := by
    by_cases q : 1 ≤ -c
    · exact q
    · exfalso
      have h9 : 0 ≤ per ss * -c := by omega
      by_cases z : -c = 0
      · rw [z, Int.mul_zero] at bz
        have ci := iabs_cases i; have cw := iabs_cases w
        have hd : (0 < i) ↔ (0 < w) := decide_eq_decide.mp a
        omega
      · have : per ss * -c ≤ per ss * -1 := Int.mul_le_mul_of_nonneg_left (by omega) (Int.le_of_lt hp)
        omega
  refine ⟨n1, k1, -c, h5, h3, by omega, h4, hc, ?_, ?_⟩
  · rw [h6, h2, a]; rfl
  · have e : posOf w = ((posOf i).1, size) := by rw [h2, a]; rfl
    rw [← e, ← h6, ← itr_add, h5, ← E.pos, h2]
    show posOf i = ((posOf i).1, iabs w - per ss * -c)
    rw [bz]
    unfold posOf
    congr 1
    omega
theorem marks_few {x0 : Bool × Int} {n : Nat} {i : Int} {st : WSt} (E : Exc ss x0 n i st) : (st.marks.length : Int) ≤ 2 * per ss := by
  have hp := per_pos ok
  have hp2 := per_le ok
  -- marks are pairs of a bool and a remainder
  have hsub : ∀ m ∈ st.marks.map (·.1), m ∈ (List.range (per ss).toNat).map (fun r : Nat => (true, (r : Int))) ++ (List.range (per ss).toNat).map (fun r : Nat => (false, (r : Int))) := fun m hm => by
    obtain ⟨q, hq, rfl⟩ := List.mem_map.mp hm
    obtain ⟨w, _, _, h1, _⟩ := E.mks q hq
    have a := Int.emod_nonneg w (Int.ne_of_gt hp)
    have b := Int.emod_lt_of_pos w hp
    rw [h1]
    unfold markOf
    by_cases z : w > 0
    · rw [decide_eq_true z]
      exact List.mem_append_left _ (List.mem_map.mpr ⟨(w % per ss).toNat, List.mem_range.mpr (by omega), by congr 1; omega⟩)
    · rw [decide_eq_false z]
      exact List.mem_append_right _ (List.mem_map.mpr ⟨(w % per ss).toNat, List.mem_range.mpr (by omega), by congr 1; omega⟩)
  have := List.Nodup.length_le_of_subset E.nd hsub
  rw [List.length_map, List.length_append, List.length_map, List.length_map, List.length_range] at this
  omega
end
end TW

set_option maxHeartbeats 4000000
/-! every walk ends: the count -/
namespace TW
theorem valsLen (n : Nat) : (vals n).length = 4 + (2 * n + 1) := by
  unfold vals
  rw [List.length_append, List.length_map, numsTo_len]
  rfl
theorem keys_none {l : List (Val × Int)} {v : Val} (h : lookE l v = none) {u : Val} {t : Int} (hu : (u, t) ∈ l) : u ≠ v := fun e => by
  unfold lookE at h
  have := Option.map_eq_none_iff.mp h
  exact (List.find?_eq_none.mp this) _ hu (decide_eq_true e)
section
variable {ss : List Stp} (ok : ∀ s ∈ ss, s.ok)
theorem exc_start {j n : Int} {seen : List (Val × Int)} : Exc ss (posOf j) 0 j ⟨.int j, n, seen, []⟩ := ⟨rfl, fun m hm => (nomatch hm), List.nodup_nil⟩
include ok
theorem exc_add {x0 : Bool × Int} {n : Nat} {i j : Int} {st : WSt} (hf : iabs i > begO ss) (E : Exc ss x0 n i st) (hj : iabs j > begO ss) (hr : run ss (.int i) = some (.int j)) (hm : lookE st.marks (markOf ss i) = none) :
    Exc ss x0 (n + 1) j ⟨.int j, st.n + 1, st.seen ++ [(.int i, st.n)], st.marks ++ [(markOf ss i, iabs i, st.n)]⟩ := by
  refine ⟨by rw [step_far ok hf hj hr, E.pos, ← itr_succ], fun m hm' => ?_, ?_⟩
  · rcases List.mem_append.mp hm' with q | q
    · obtain ⟨w, n1, k1, h1, h2, h3, h4, h5, h6, h7, t, h8⟩ := E.mks m q
      exact ⟨w, n1, k1 + 1, h1, h2, by show m.2.2 = st.n + 1 - ((k1 + 1 : Nat) : Int); omega, by omega, by omega, h6, h7, t, List.mem_append_left _ h8⟩
    · have := List.mem_singleton.mp q
      subst this
      exact ⟨i, n, 1, rfl, rfl, by show st.n = st.n + 1 - ((1 : Nat) : Int); omega, by omega, rfl, E.pos.symm, hf, st.n, List.mem_append_right _ (List.mem_singleton.mpr rfl)⟩
  · show ((st.marks ++ [(markOf ss i, iabs i, st.n)]).map (·.1)).Nodup
    rw [List.map_append]
    refine List.nodup_append.mpr ⟨E.nd, by simp, fun a ha b hb e => ?_⟩
    obtain ⟨m, hm1, rfl⟩ := List.mem_map.mp ha
    have hb := List.mem_singleton.mp (show b ∈ [markOf ss i] from hb)
    unfold lookE at hm
    have := Option.map_eq_none_iff.mp hm
    exact (List.find?_eq_none.mp this) _ hm1 (decide_eq_true (e.trans hb))
theorem exc_reset {x0 : Bool × Int} {n : Nat} {i j : Int} {st : WSt} (hf : iabs i > begO ss) (E : Exc ss x0 n i st) (hj : iabs j > begO ss) (hr : run ss (.int i) = some (.int j)) {m : Int} {seen : List (Val × Int)} : Exc ss x0 (n + 1) j ⟨.int j, m, seen, []⟩ :=
  ⟨by rw [step_far ok hf hj hr, E.pos, ← itr_succ], fun m hm => (nomatch hm), List.nodup_nil⟩
end
/-- behind a near visit -/
structure Ph2 (ss : List Stp) (st : WSt) (new : List Val) : Prop where
  nd : new.Nodup
  sz : ∀ u ∈ new, u.size ≤ 60000
  inn : ∀ u ∈ new, ∃ t, (u, t) ∈ st.seen
  ex : ∀ i, st.v = .int i → iabs i > begO ss → ∃ x0 n, x0.2 ≤ begO ss + reach ss ∧ Exc ss x0 n i st ∧ (n = st.marks.length ∨ ∃ n1 k b w c, Win ss x0 n1 k b w c)
section
variable {ss : List Stp} (ok : ∀ s ∈ ss, s.ok) (hl : ss.length ≤ 5)
include ok hl
theorem ph2_next {st st' : WSt} {new : List Val} (Q : Ph2 ss st new) (h : wnext ss st = .inr st') : Ph2 ss st' (new ++ [st.v]) := by
  have hp := per_pos ok
  have hp2 := per_le ok
  have hr := reach_nn ss
  have hrl := reach_le ok
  have hB : begO ss = reach ss + per ss + 5 := rfl
  have base : lookE st.seen st.v = none → st.v.size ≤ 60000 → ∀ v' n' M, (∀ i, v' = .int i → iabs i > begO ss → ∃ x0 n, x0.2 ≤ begO ss + reach ss ∧ Exc ss x0 n i ⟨v', n', st.seen ++ [(st.v, st.n)], M⟩ ∧ (n = M.length ∨ ∃ n1 k b w c, Win ss x0 n1 k b w c)) → Ph2 ss ⟨v', n', st.seen ++ [(st.v, st.n)], M⟩ (new ++ [st.v]) := fun hs hsz v' n' M he => by
    refine ⟨List.nodup_append.mpr ⟨Q.nd, by simp, fun a ha b hb e => ?_⟩, fun u hu => ?_, fun u hu => ?_, he⟩
    · have hb := List.mem_singleton.mp hb
      obtain ⟨t, ht⟩ := Q.inn a ha
      exact keys_none hs ht (e.trans hb)
    · rcases List.mem_append.mp hu with q | q
      · exact Q.sz u q
      · rw [List.mem_singleton.mp q]; exact hsz
    · rcases List.mem_append.mp hu with q | q
      · obtain ⟨t, ht⟩ := Q.inn u q
        exact ⟨t, List.mem_append_left _ ht⟩
      · rw [List.mem_singleton.mp q]; exact ⟨st.n, List.mem_append_right _ (List.mem_singleton.mpr rfl)⟩
  by_cases hfar : ∃ i, st.v = .int i ∧ iabs i > begO ss
  · obtain ⟨i, hv, hf⟩ := hfar
    obtain ⟨x0, n, hx0, E, hE⟩ := Q.ex i hv hf
    have hpos : iabs i = (itr ss n x0).2 := by rw [← E.pos]; rfl
    have hsz : iabs i ≤ 60000 := by
      rcases hE with e | ⟨n1, k, b, w, c, w1, w2, w3, w4⟩
      · have mf := marks_few ok E
        have ne := itr_near ok n x0
        have ci := iabs_cases ((itr ss n x0).2 - x0.2)
        have : (n : Int) * reach ss ≤ 120 * reach ss := Int.mul_le_mul_of_nonneg_right (by omega) hr
        omega
      · have := (low_orbit ok w1 w3 w4 w2 n).1
        omega
    obtain ⟨hs, hr⟩ := round_far hv hf h
    have hs' : lookE st.seen st.v = none := by rw [hv]; exact hs
    have hsz' : st.v.size ≤ 60000 := by rw [hv]; exact hsz
    rcases hr with ⟨hm, v', e3, rfl⟩ | ⟨size, time, hm, hle, ⟨_, v', e3, rfl⟩ | ⟨hq, hj, _⟩⟩
    · have := base hs' hsz' v' (st.n + 1) (st.marks ++ [(markOf ss i, iabs i, st.n)]) fun j hj hjf => by
        subst hj
        refine ⟨x0, n + 1, hx0, ?_, ?_⟩
        · have := exc_add ok hf E hjf e3 hm
          rw [hv]
          exact this
        · rcases hE with e | e
          · left; rw [List.length_append, e]; rfl
          · exact .inr e
      rw [hv] at this ⊢
      exact this
    · obtain ⟨n1, k1, c, g1, g2, g3, g4⟩ := exc_win ok hv hf E hs hm hle
      have := base hs' hsz' v' (st.n + 1) [] fun j hj hjf => by
        subst hj
        exact ⟨x0, n + 1, hx0, exc_reset ok hf E hjf e3, .inr ⟨_, _, _, _, _, g4⟩⟩
      rw [hv] at this ⊢
      exact this
    · exfalso
      obtain ⟨n1, k1, c, g1, g2, g3, w1, w2, w3, w4⟩ := exc_win ok hv hf E hs hm hle
      have lo := (low_orbit ok w1 w3 w4 w2 n).2 (by rw [← E.pos])
      rw [← hpos] at lo
      have hk : (1 : Int) ≤ (k1 : Int) := by omega
      have : (1 + 1) * begO ss ≤ (st.n - time + 1) * begO ss := Int.mul_le_mul_of_nonneg_right (by omega) (by omega)
      omega
  · have hn : ∀ i, st.v = .int i → ¬ iabs i > begO ss := fun i hi hf => hfar ⟨i, hi, hf⟩
    obtain ⟨hs, v', e3, rfl⟩ := round_near hn h
    have hvs : st.v.size ≤ begO ss := by
      cases e : st.v with
      | int i => have := hn i e; show iabs i ≤ _; omega
      | _ => show (0 : Int) ≤ _; omega
    refine base hs (by omega) v' (st.n + 1) [] fun j hj hjf => ?_
    subst hj
    have : iabs j ≤ st.v.size + reach ss := run_size ok e3
    exact ⟨posOf j, 0, by show iabs j ≤ _; have := hvs; omega, exc_start, .inl rfl⟩
theorem ph2_halts : ∀ (m : Nat) {st : WSt} {new : List Val}, Ph2 ss st new → 120006 ≤ new.length + m → ∃ k ≤ m, ∃ f, wrun ss k st = some f
  | 0, st, new, Q, h => by
    exfalso
    have hsub : ∀ u ∈ new, u ∈ vals 60000 := fun u hu => mem_vals.mpr (Q.sz u hu)
    have h1 := List.Nodup.length_le_of_subset Q.nd hsub
    have h2 := valsLen 60000
    omega
  | m + 1, st, new, Q, h => by
    cases e : wnext ss st with
    | inl f => exact ⟨1, by omega, f, wrun_inl e⟩
    | inr st' =>
      obtain ⟨k, hk, f, hf⟩ := ph2_halts m (ph2_next ok hl Q e) (by rw [List.length_append]; show 120006 ≤ new.length + 1 + m; omega)
      exact ⟨k + 1, by omega, f, by rw [wrun_inr e]; exact hf⟩
omit ok hl in
theorem ph2_start {st : WSt} (hn : ∀ i, st.v = .int i → ¬ iabs i > begO ss) : Ph2 ss st [] := ⟨List.nodup_nil, fun _ h => (nomatch h), fun _ h => (nomatch h), fun i hi hf => absurd hf (hn i hi)⟩
end
end TW

set_option maxHeartbeats 4000000
/-! every walk ends: the first excursion -/
namespace TW
theorem jump_abs {i m d : Int} (h : 0 ≤ m * d) (h2 : m * d < iabs i) : iabs (jumpTo i m d) = iabs i - m * d ∧ decide (0 < jumpTo i m d) = decide (0 < i) := by
  have ci := iabs_cases i
  have cj := iabs_cases (jumpTo i m d)
  unfold jumpTo at *
  by_cases q : i > 0
  · rw [if_pos q] at cj ⊢
    exact ⟨by omega, decide_eq_decide.mpr (by omega)⟩
  · rw [if_neg q] at cj ⊢
    exact ⟨by omega, decide_eq_decide.mpr (by omega)⟩
/-- behind the first event: u0 is the place of the event, n rounds ago -/
structure Ph1 (ss : List Stp) (u0 : Bool × Int) (n : Nat) (i : Int) (st : WSt) : Prop where
  pos : ∃ J, 0 ≤ J ∧ (posOf i).1 = (itr ss n u0).1 ∧ iabs i + per ss * J = (itr ss n u0).2
  mks : ∀ m ∈ st.marks, ∃ w : Int, m.1 = markOf ss w ∧ m.2.1 = iabs w ∧ iabs w > begO ss ∧ m.2.2 ≤ st.n
section
variable {ss : List Stp} (ok : ∀ s ∈ ss, s.ok) (hl : ss.length ≤ 5)
include ok hl
theorem ph1_count {u0 : Bool × Int} {n k : Nat} {i c : Int} {st : WSt} (Q : Ph1 ss u0 n i st) (hk : 1 ≤ k) (hk2 : (k : Int) ≤ 2 * per ss) (hc : 1 ≤ c) (hw : itr ss k u0 = (u0.1, u0.2 - per ss * c)) (hu : u0.2 ≤ 105000) : n ≤ 307000 := by
  have hp := per_pos ok
  have hp2 := per_le ok
  have hr := reach_nn ss
  have hrl := reach_le ok
  obtain ⟨J, hJ, _, hpos⟩ := Q.pos
  have dm := Nat.div_add_mod n k
  have hmod := Nat.mod_lt n hk
  have d := down_many ok (b := u0.1) (w := u0.2) hw (n / k)
  have e : itr ss n u0 = itr ss (n % k) (u0.1, u0.2 - per ss * (c * ((n / k : Nat) : Int))) := by
    rw [← d, ← itr_add, dm]
  have ne := itr_near ok (n % k) (u0.1, u0.2 - per ss * (c * ((n / k : Nat) : Int)))
  rw [← e] at ne
  have ci := iabs_cases ((itr ss n u0).2 - (u0.2 - per ss * (c * ((n / k : Nat) : Int))))
  dsimp only at ne
  have hJ0 : 0 ≤ per ss * J := Int.mul_nonneg (Int.le_of_lt hp) hJ
  have h1 : ((n % k : Nat) : Int) * reach ss ≤ 120 * reach ss := Int.mul_le_mul_of_nonneg_right (by omega) hr
  have h2 : per ss * (1 * ((n / k : Nat) : Int)) ≤ per ss * (c * ((n / k : Nat) : Int)) := Int.mul_le_mul_of_nonneg_left (Int.mul_le_mul_of_nonneg_right hc (Int.natCast_nonneg _)) (Int.le_of_lt hp)
  rw [Int.one_mul] at h2
  have hi := iabs_nn i
  have h3 : per ss * ((n / k : Nat) : Int) ≤ 153000 := by omega
  -- n < k (n / k) + k
  have h4 : (k : Int) * ((n / k : Nat) : Int) ≤ 2 * per ss * ((n / k : Nat) : Int) := Int.mul_le_mul_of_nonneg_right hk2 (Int.natCast_nonneg _)
  have h5 : 2 * per ss * ((n / k : Nat) : Int) = 2 * (per ss * ((n / k : Nat) : Int)) := Int.mul_assoc ..
  have h6 : (n : Int) = (k : Int) * ((n / k : Nat) : Int) + ((n % k : Nat) : Int) := by rw [← Int.natCast_mul, ← Int.natCast_add, dm]
  omega
theorem ph1_step {u0 : Bool × Int} {n : Nat} {i j : Int} {J n' : Int} (hJ : 0 ≤ J) (hs : (posOf i).1 = (itr ss n u0).1) (hp : iabs i + per ss * J = (itr ss n u0).2) (hf : iabs i > begO ss) (hj : iabs j > begO ss) (hr : run ss (.int i) = some (.int j)) : ∃ J, 0 ≤ J ∧ (posOf j).1 = (itr ss (n + 1) u0).1 ∧ iabs j + per ss * J = (itr ss (n + 1) u0).2 := by
  have a := step_far ok hf hj hr
  have e : itr ss n u0 = ((posOf i).1, iabs i + per ss * J) := Prod.ext hs.symm hp.symm
  rw [itr_succ, e, FX_per ok]
  refine ⟨J, hJ, ?_, ?_⟩
  · rw [a]; rfl
  · have := congrArg Prod.snd a
    show iabs j + per ss * J = (FX ss ((posOf i).1, iabs i)).2 + per ss * J
    rw [show iabs j = (posOf j).2 from rfl, this]
    rfl
theorem ph1_next {u0 : Bool × Int} {n : Nat} {i : Int} {st st' : WSt} (hv : st.v = .int i) (hf : iabs i > begO ss) (Q : Ph1 ss u0 n i st) (h : wnext ss st = .inr st') : ∀ j, st'.v = .int j → iabs j > begO ss → Ph1 ss u0 (n + 1) j st' := by
  have hp := per_pos ok
  have hB : begO ss = reach ss + per ss + 5 := rfl
  have hrn := reach_nn ss
  intro j hj hjf
  obtain ⟨J, hJ, p1, p2⟩ := Q.pos
  obtain ⟨hs, hr⟩ := round_far hv hf h
  rcases hr with ⟨hm, v', e3, rfl⟩ | ⟨size, time, hm, hle, ⟨_, v', e3, rfl⟩ | ⟨hq, hjm, v', n', e3, rfl⟩⟩
  · have hj : v' = .int j := hj
    subst hj
    refine ⟨ph1_step ok hl (n' := 0) hJ p1 p2 hf hjf e3, fun m hm' => ?_⟩
    rcases List.mem_append.mp hm' with q | q
    · obtain ⟨w, a, b, c, d⟩ := Q.mks m q
      exact ⟨w, a, b, c, by show m.2.2 ≤ st.n + 1; omega⟩
    · have := List.mem_singleton.mp q
      subst this
      exact ⟨i, rfl, rfl, hf, by show st.n ≤ st.n + 1; omega⟩
  · have hj : v' = .int j := hj
    subst hj
    exact ⟨ph1_step ok hl (n' := 0) hJ p1 p2 hf hjf e3, fun m hm' => (nomatch hm')⟩
  · have hj : v' = .int j := hj
    subst hj
    obtain ⟨w, a, b, c, d⟩ := Q.mks _ (lookE_mem hm)
    dsimp only at a b d
    obtain ⟨_, cc, hcc⟩ := mark_eq ok (by omega) (by omega) a
    -- the jump is a multiple of the period
    have hq2 : size - iabs i = per ss * -cc := by rw [Int.mul_neg]; omega
    have hcp : 0 < -cc := by
      by_cases z : 0 < -cc
      · exact z
      · have : per ss * -cc ≤ per ss * 0 := Int.mul_le_mul_of_nonneg_left (by omega) (Int.le_of_lt hp)
        rw [Int.mul_zero] at this
        omega
    have hmar : (0 + 1) * begO ss ≤ (st.n - time + 1) * begO ss := Int.mul_le_mul_of_nonneg_right (by omega) (by omega)
    generalize hM : begO ss + (st.n - time + 1) * begO ss = mar at hjm e3 ⊢
    generalize hD : size - iabs i = dd at hq hjm e3 hq2 ⊢
    have fd : Int.fdiv (iabs i - mar) dd = (iabs i - mar) / dd := Int.fdiv_eq_ediv_of_nonneg _ (by omega)
    have f0 : 0 ≤ (iabs i - mar) / dd := Int.ediv_nonneg (by omega) (by omega)
    have f1 : (iabs i - mar) / dd * dd ≤ iabs i - mar := Int.ediv_mul_le _ (by omega)
    rw [fd] at e3
    generalize (iabs i - mar) / dd = many at f0 f1 e3
    have f2 : 0 ≤ many * dd := Int.mul_nonneg f0 (by omega)
    obtain ⟨g1, g2⟩ := jump_abs (i := i) f2 (by omega)
    have hmd : many * dd = per ss * (many * -cc) := by rw [hq2, Int.mul_left_comm]
    refine ⟨ph1_step ok hl (n' := 0) (i := jumpTo i many dd) (J := J + many * -cc) ?_ ?_ ?_ (by omega) hjf e3, fun m hm' => (nomatch hm')⟩
    · have := Int.mul_nonneg f0 (Int.le_of_lt hcp)
      omega
    · rw [← p1]; exact g2
    · rw [g1, Int.mul_add, ← p2]
      omega
theorem ph1_halts {u0 : Bool × Int} {k : Nat} {c : Int} (hk : 1 ≤ k) (hk2 : (k : Int) ≤ 2 * per ss) (hc : 1 ≤ c) (hw : itr ss k u0 = (u0.1, u0.2 - per ss * c)) (hu : u0.2 ≤ 105000) :
    ∀ (m : Nat) {n : Nat} {i : Int} {st : WSt}, st.v = .int i → iabs i > begO ss → Ph1 ss u0 n i st → 307001 ≤ n + m → ∃ K ≤ m + 120006, ∃ f, wrun ss K st = some f
  | 0, n, i, st, hv, hf, Q, h => by
    have := ph1_count ok hl Q hk hk2 hc hw hu
    omega
  | m + 1, n, i, st, hv, hf, Q, h => by
    cases e : wnext ss st with
    | inl f => exact ⟨1, by omega, f, wrun_inl e⟩
    | inr st' =>
      by_cases hfar : ∃ j, st'.v = .int j ∧ iabs j > begO ss
      · obtain ⟨j, hj, hjf⟩ := hfar
        obtain ⟨K, hK, f, hf'⟩ := ph1_halts hk hk2 hc hw hu m hj hjf (ph1_next ok hl hv hf Q e j hj hjf) (by omega)
        exact ⟨K + 1, by omega, f, by rw [wrun_inr e]; exact hf'⟩
      · obtain ⟨K, hK, f, hf'⟩ := ph2_halts ok hl 120006 (st := st') (new := []) (ph2_start fun j hj hjf => hfar ⟨j, hj, hjf⟩) (by simp)
        exact ⟨K + 1, by omega, f, by rw [wrun_inr e]; exact hf'⟩
theorem first_halts : ∀ (m : Nat) {x0 : Bool × Int} {n : Nat} {i : Int} {st : WSt}, st.v = .int i → iabs i > begO ss → Exc ss x0 n i st → n = st.marks.length → 121 ≤ n + m → ∃ K ≤ m + 430000, ∃ f, wrun ss K st = some f
  | 0, x0, n, i, st, hv, hf, E, hn, h => by
    have := marks_few ok E
    have := per_le ok
    omega
  | m + 1, x0, n, i, st, hv, hf, E, hn, h => by
    have hp := per_pos ok
    have hp2 := per_le ok
    have hB : begO ss = reach ss + per ss + 5 := rfl
    have hrn := reach_nn ss
    have hrl := reach_le ok
    cases e : wnext ss st with
    | inl f => exact ⟨1, by omega, f, wrun_inl e⟩
    | inr st' =>
      by_cases hfar : ∃ j, st'.v = .int j ∧ iabs j > begO ss
      · obtain ⟨j, hj, hjf⟩ := hfar
        have few := marks_few ok E
        obtain ⟨hs, hr⟩ := round_far hv hf e
        -- the end, once a window is known at the place behind the look
        have fin : ∀ (u : Int) (k1 : Nat) (c : Int) (s1 : Int), 1 ≤ k1 → (k1 : Int) ≤ 2 * per ss → 1 ≤ c → iabs u > begO ss → iabs u ≤ 105000 → itr ss k1 ((posOf u).1, iabs u + per ss * s1) = ((posOf u).1, iabs u + per ss * s1 - per ss * c) → run ss (.int u) = some (.int j) → st'.marks = [] → ∃ K ≤ m + 1 + 430000, ∃ f, wrun ss K st = some f := fun u k1 c s1 q1 q2 q3 q4 q5 q6 q7 q8 => by
          have w : itr ss k1 (posOf u) = ((posOf u).1, (posOf u).2 - per ss * c) := by
            have := itr_per ok k1 (posOf u).1 (iabs u) s1
            rw [q6] at this
            refine Prod.ext (congrArg Prod.fst this).symm ?_
            have h2 := congrArg Prod.snd this
            dsimp only at h2
            show (itr ss k1 ((posOf u).1, iabs u)).2 = iabs u - per ss * c
            omega
          have P1 : Ph1 ss (posOf u) 1 j st' := ⟨by
            obtain ⟨J, a, b, c⟩ := ph1_step ok hl (n' := 0) (u0 := posOf u) (n := 0) (J := 0) (Int.le_refl 0) rfl (by rw [Int.mul_zero, Int.add_zero]; rfl) q4 hjf q7
            exact ⟨J, a, b, c⟩, fun m hm => by rw [q8] at hm; cases hm⟩
          obtain ⟨K, hK, f, hf'⟩ := ph1_halts ok hl q1 q2 q3 w q5 307000 hj hjf P1 (by omega)
          exact ⟨K + 1, by omega, f, by rw [wrun_inr e]; exact hf'⟩
        rcases hr with ⟨hm, v', e3, rfl⟩ | ⟨size, time, hm, hle, ⟨hnj, v', e3, rfl⟩ | ⟨hq, hjm, v', n', e3, rfl⟩⟩
        · have hj : v' = .int j := hj
          subst hj
          obtain ⟨K, hK, f, hf'⟩ := first_halts m rfl hjf (exc_add ok hf E hjf e3 hm) (by rw [hn, List.length_append]; rfl) (by omega)
          exact ⟨K + 1, by omega, f, by rw [wrun_inr e]; exact hf'⟩
        · have hj : v' = .int j := hj
          subst hj
          obtain ⟨n1, k1, c, g1, g2, g3, w1, w2, w3, w4⟩ := exc_win ok hv hf E hs hm hle
          have hk2 : (k1 : Int) ≤ 2 * per ss := by omega
          have near := itr_near ok k1 ((posOf i).1, size)
          rw [w4] at near
          have cn := iabs_cases ((((posOf i).1, size - per ss * c) : Bool × Int).2 - (((posOf i).1, size) : Bool × Int).2)
          dsimp only at near cn
          have h1 : (k1 : Int) * reach ss ≤ 120 * reach ss := Int.mul_le_mul_of_nonneg_right (by omega) hrn
          have h2 : (st.n - time + 1) * begO ss ≤ 121 * begO ss := Int.mul_le_mul_of_nonneg_right (by omega) (by omega)
          have hpc : 0 < per ss * c := Int.mul_pos hp (by omega)
          refine fin i k1 c c w1 hk2 w2 hf ?_ ?_ e3 rfl
          · by_cases z : iabs i - (begO ss + (st.n - time + 1) * begO ss) > size - iabs i
            · exact absurd ⟨by omega, z⟩ hnj
            · omega
          · rw [← g3]; exact w4
        · have hj : v' = .int j := hj
          subst hj
          obtain ⟨n1, k1, c, g1, g2, g3, w1, w2, w3, w4⟩ := exc_win ok hv hf E hs hm hle
          have hk2 : (k1 : Int) ≤ 2 * per ss := by omega
          have near := itr_near ok k1 ((posOf i).1, size)
          rw [w4] at near
          have cn := iabs_cases ((((posOf i).1, size - per ss * c) : Bool × Int).2 - (((posOf i).1, size) : Bool × Int).2)
          dsimp only at near cn
          have h1 : (k1 : Int) * reach ss ≤ 120 * reach ss := Int.mul_le_mul_of_nonneg_right (by omega) hrn
          have h2 : (st.n - time + 1) * begO ss ≤ 121 * begO ss := Int.mul_le_mul_of_nonneg_right (by omega) (by omega)
          have h3 : (0 + 1) * begO ss ≤ (st.n - time + 1) * begO ss := Int.mul_le_mul_of_nonneg_right (by omega) (by omega)
          have hpc : 0 < per ss * c := Int.mul_pos hp (by omega)
          have hD : size - iabs i = per ss * c := by omega
          rw [hD] at hjm e3
          generalize hM : begO ss + (st.n - time + 1) * begO ss = mar at hjm e3
          have fd : Int.fdiv (iabs i - mar) (per ss * c) = (iabs i - mar) / (per ss * c) := Int.fdiv_eq_ediv_of_nonneg _ (by omega)
          have f0 : 0 ≤ (iabs i - mar) / (per ss * c) := Int.ediv_nonneg (by omega) (by omega)
          have f1 : (iabs i - mar) / (per ss * c) * (per ss * c) ≤ iabs i - mar := Int.ediv_mul_le _ (by omega)
          have f3 := Int.emod_lt_of_pos (iabs i - mar) hpc
          have f4 := Int.mul_ediv_add_emod (iabs i - mar) (per ss * c)
          rw [Int.mul_comm] at f4
          rw [fd] at e3
          generalize (iabs i - mar) / (per ss * c) = many at f0 f1 f4 e3
          have f2 : 0 ≤ many * (per ss * c) := Int.mul_nonneg f0 (by omega)
          obtain ⟨u1, u2⟩ := jump_abs (i := i) f2 (by omega)
          have hmd : many * (per ss * c) = per ss * (many * c) := Int.mul_left_comm ..
          refine fin (jumpTo i many (per ss * c)) k1 c (many * c + c) w1 hk2 w2 (by omega) (by omega) ?_ e3 rfl
          have hsd : (posOf (jumpTo i many (per ss * c))).1 = (posOf i).1 := u2
          rw [hsd, show iabs (jumpTo i many (per ss * c)) + per ss * (many * c + c) = size by rw [Int.mul_add]; omega]
          exact w4
      · obtain ⟨K, hK, f, hf'⟩ := ph2_halts ok hl 120006 (st := st') (new := []) (ph2_start fun j hj hjf => hfar ⟨j, hj, hjf⟩) (by simp)
        exact ⟨K + 1, by omega, f, by rw [wrun_inr e]; exact hf'⟩
/-- every walk ends -/
theorem walk_ends (v : Val) : ∃ K ≤ 500000, ∃ f, wrun ss K (st0 v) = some f := by
  by_cases hfar : ∃ i, v = .int i ∧ iabs i > begO ss
  · obtain ⟨i, rfl, hf⟩ := hfar
    obtain ⟨K, hK, f, hf'⟩ := first_halts ok hl 121 (x0 := posOf i) (n := 0) (i := i) (st := st0 (.int i)) rfl hf exc_start rfl (by omega)
    exact ⟨K, by omega, f, hf'⟩
  · obtain ⟨K, hK, f, hf'⟩ := ph2_halts ok hl 120006 (st := st0 v) (new := []) (ph2_start fun j hj hjf => hfar ⟨j, hj, hjf⟩) (by simp)
    exact ⟨K, by omega, f, hf'⟩
end
end TW

set_option maxHeartbeats 4000000
/-! mirrored chains -/
namespace TW
def Val.neg : Val → Val
  | .int i => .int (-i)
  | v => v
theorem neg_neg (v : Val) : v.neg.neg = v := by
  cases v with
  | int i => show Val.int (- -i) = _; rw [Int.neg_neg]
  | _ => rfl
theorem neg_inj {v w : Val} (h : v.neg = w.neg) : v = w := by rw [← neg_neg v, h, neg_neg]
def Way.neg : Way → Way
  | .down => .up
  | .up => .down
  | .near => .near
def Stp.neg : Stp → Stp
  | .clamp a b => .clamp (-b) (-a)
  | .least a => .most (-a)
  | .most a => .least (-a)
  | .shift d => .shift (-d)
  | .round m w => .round m w.neg
  | .replace v w => .replace v.neg w.neg
  | .blank a b => .blank (-b) (-a)
  | .refuse a b => .refuse (-b) (-a)
  | s => s
/-- the steps that law k19 draws -/
def Stp.pln : Stp → Prop
  | .clamp a b => lawR a b
  | .shift d => -10 ≤ d ∧ d ≤ 10
  | .round m w => (m = 2 ∨ m = 3 ∨ m = 5) ∧ (w = .down ∨ w = .up)
  | .least a => -10 ≤ a ∧ a ≤ 10
  | .most a => -10 ≤ a ∧ a ≤ 10
  | .replace v w => ∃ a b, v = .int a ∧ w = .int b ∧ lawR a b
  | .turn => True
  | .blank a b => lawR a b
  | .refuse a b => lawR a b
  | _ => False
theorem pln_ok {s : Stp} (h : s.pln) : s.ok := by
  cases s with
  | replace v w => obtain ⟨a, b, rfl, rfl, h⟩ := h; simp only [Stp.ok, okV, okI, lawR] at *; omega
  | turn => trivial
  | round m w => obtain ⟨h, _⟩ := h; simp only [Stp.ok, okM]; omega
  | clamp a b => simp only [Stp.pln, Stp.ok, okI, lawR] at *; omega
  | blank a b => simp only [Stp.pln, Stp.ok, okI, lawR] at *; omega
  | refuse a b => simp only [Stp.pln, Stp.ok, okI, lawR] at *; omega
  | shift d => simp only [Stp.pln, Stp.ok] at *; omega
  | least d => simp only [Stp.pln, Stp.ok, okI] at *; omega
  | most d => simp only [Stp.pln, Stp.ok, okI] at *; omega
  | _ => exact h.elim
theorem pln_neg_ok {s : Stp} (h : s.pln) : s.neg.ok := by
  cases s with
  | replace v w => obtain ⟨a, b, rfl, rfl, h⟩ := h; simp only [Stp.neg, Val.neg, Stp.ok, okV, okI, lawR] at *; omega
  | turn => trivial
  | round m w => obtain ⟨h, _⟩ := h; simp only [Stp.neg, Stp.ok, okM]; omega
  | clamp a b => simp only [Stp.neg, Stp.pln, Stp.ok, okI, lawR] at *; omega
  | blank a b => simp only [Stp.neg, Stp.pln, Stp.ok, okI, lawR] at *; omega
  | refuse a b => simp only [Stp.neg, Stp.pln, Stp.ok, okI, lawR] at *; omega
  | shift d => simp only [Stp.neg, Stp.pln, Stp.ok] at *; omega
  | least d => simp only [Stp.neg, Stp.pln, Stp.ok, okI] at *; omega
  | most d => simp only [Stp.neg, Stp.pln, Stp.ok, okI] at *; omega
  | _ => exact h.elim
theorem neg1 {s : Stp} (h : s.pln) (x : Val) : step1 s.neg x.neg = (step1 s x).map Val.neg := by
  cases s with
  | replace v w =>
    obtain ⟨a, b, rfl, rfl, h⟩ := h
    show some (if x.neg = (Val.int a).neg then (Val.int b).neg else x.neg) = some (if x = .int a then Val.int b else x).neg
    by_cases e : x = .int a
    · rw [if_pos e, if_pos (by rw [e])]
    · rw [if_neg e, if_neg (fun z => e (neg_inj z))]
  | clamp a b =>
    cases x with
    | int n => show some (Val.int (min (max (-n) (-b)) (-a))) = some (Val.int (-(min (max n a) b))); unfold Stp.pln lawR at h; congr 2; omega
    | _ => rfl
  | shift d =>
    cases x with
    | int n => show some (Val.int (-n + -d)) = some (Val.int (-(n + d))); congr 2; omega
    | _ => rfl
  | least a =>
    cases x with
    | int n => show some (Val.int (min (-n) (-a))) = some (Val.int (-(max n a))); congr 2; omega
    | _ => rfl
  | most a =>
    cases x with
    | int n => show some (Val.int (max (-n) (-a))) = some (Val.int (-(min n a))); congr 2; omega
    | _ => rfl
  | turn =>
    cases x with
    | int n => rfl
    | _ => rfl
  | blank a b =>
    cases x with
    | int n =>
      show some (if -b ≤ -n ∧ -n ≤ -a then Val.int (-n) else .non) = some (if a ≤ n ∧ n ≤ b then Val.int n else .non).neg
      by_cases e : a ≤ n ∧ n ≤ b
      · rw [if_pos e, if_pos (by omega)]; rfl
      · rw [if_neg e, if_neg (by omega)]; rfl
    | _ => rfl
  | refuse a b =>
    cases x with
    | int n =>
      show (if -b ≤ -n ∧ -n ≤ -a then some (Val.int (-n)) else none) = (if a ≤ n ∧ n ≤ b then some (Val.int n) else none).map Val.neg
      by_cases e : a ≤ n ∧ n ≤ b
      · rw [if_pos e, if_pos (by omega)]; rfl
      · rw [if_neg e, if_neg (by omega)]; rfl
    | _ => rfl
  | round m w =>
    cases x with
    | int n =>
      obtain ⟨hm, hw⟩ := h
      show some (Val.int (rounded (-n) m w.neg)) = some (Val.int (-(rounded n m w)))
      congr 2
      rcases hw with rfl | rfl
      · show (if (-n) % m = 0 then -n else -n - (-n) % m + m) = -(n - n % m)
        rcases hm with rfl | rfl | rfl <;> split <;> omega
      · show -n - (-n) % m = -(if n % m = 0 then n else n - n % m + m)
        rcases hm with rfl | rfl | rfl <;> split <;> omega
    | _ => rfl
  | _ => exact h.elim
def negC (ss : List Stp) : List Stp := ss.map Stp.neg
theorem neg_run : ∀ {ss : List Stp}, (∀ s ∈ ss, s.pln) → ∀ x : Val, run (negC ss) x.neg = (run ss x).map Val.neg
  | [], _, x => rfl
  | s :: ss, h, x => by
    show run (s.neg :: negC ss) x.neg = _
    rw [run_cons, run_cons, neg1 (h s List.mem_cons_self)]
    cases e : step1 s x with
    | none => rfl
    | some y => exact neg_run (fun s hs => h s (List.mem_cons_of_mem _ hs)) y
theorem neg_trace : ∀ {ss : List Stp}, (∀ s ∈ ss, s.pln) → ∀ x : Val, trace (negC ss) x.neg = (trace ss x).map Val.neg
  | [], _, x => rfl
  | s :: ss, h, x => by
    have h1 := neg1 (h s List.mem_cons_self) x
    cases e : step1 s x with
    | none =>
      rw [trace_stop e]
      exact trace_stop (by rw [h1, e]; rfl)
    | some y =>
      rw [trace_cons e, List.map_cons, ← neg_trace (fun s hs => h s (List.mem_cons_of_mem _ hs)) y]
      exact trace_cons (by rw [h1, e]; rfl)
theorem negs_ok {ss : List Stp} (h : ∀ s ∈ ss, s.pln) : ∀ s ∈ negC ss, s.ok := fun s hs => by
  obtain ⟨t, ht, rfl⟩ := List.mem_map.mp hs
  exact pln_neg_ok (h t ht)
theorem plns_ok {ss : List Stp} (h : ∀ s ∈ ss, s.pln) : ∀ s ∈ ss, s.ok := fun s hs => pln_ok (h s hs)
theorem iabs_neg (n : Int) : iabs (-n) = iabs n := by have := iabs_cases n; have := iabs_cases (-n); omega
theorem neg_size (v : Val) : v.neg.size = v.size := by
  cases v with
  | int i => exact iabs_neg i
  | _ => rfl
theorem neg_reach1 (s : Stp) : s.neg.reach = s.reach := by
  cases s with
  | clamp a b => show iabs (-b) + iabs (-a) = iabs a + iabs b; rw [iabs_neg, iabs_neg, Int.add_comm]
  | least a => exact iabs_neg a
  | most a => exact iabs_neg a
  | shift a => exact iabs_neg a
  | blank a b => show iabs (-b) + iabs (-a) = iabs a + iabs b; rw [iabs_neg, iabs_neg, Int.add_comm]
  | refuse a b => show iabs (-b) + iabs (-a) = iabs a + iabs b; rw [iabs_neg, iabs_neg, Int.add_comm]
  | replace v w => show v.neg.size + w.neg.size = _; rw [neg_size, neg_size]; rfl
  | _ => rfl
theorem neg_reach : ∀ ss : List Stp, reach (negC ss) = reach ss
  | [] => rfl
  | s :: ss => by show s.neg.reach + reach (negC ss) = s.reach + reach ss; rw [neg_reach1, neg_reach ss]
theorem neg_perN : ∀ (ss : List Stp) (p : Nat), perN p (negC ss) = perN p ss
  | [], p => rfl
  | s :: ss, p => by
    show perN p (s.neg :: negC ss) = perN p (s :: ss)
    have h : s.neg.isMod = s.isMod ∧ s.neg.mod = s.mod := by cases s <;> exact ⟨rfl, rfl⟩
    unfold perN
    rw [h.1, h.2]
    exact neg_perN ss _
theorem neg_per (ss : List Stp) : per (negC ss) = per ss := by unfold per; rw [neg_perN]
theorem neg_beg (ss : List Stp) : begO (negC ss) = begO ss := by unfold begO; rw [neg_reach, neg_per]
end TW

set_option maxHeartbeats 4000000
/-! the machine, mirrored -/
namespace TW
theorem neg_mod (x P : Int) : (-x) % P = (-(x % P)) % P := by
  have h := Int.mul_ediv_add_emod x P
  have e : -x = -(x % P) + P * (-(x / P)) := by rw [Int.mul_neg]; omega
  rw [e, Int.add_mul_emod_self_left]
def negM (P : Int) (m : Mark) : Mark := (!m.1, (-m.2) % P)
def negW (ss : List Stp) (st : WSt) : WSt := ⟨st.v.neg, st.n, st.seen.map (fun p => (p.1.neg, p.2)), st.marks.map (fun m => (negM (per ss) m.1, m.2))⟩
def negF : Fate → Fate
  | .rests v n => .rests v.neg n
  | f => f
theorem mark_neg2 (ss : List Stp) {i : Int} (hi : i ≠ 0) : markOf (negC ss) (-i) = negM (per ss) (markOf ss i) := by
  unfold markOf negM
  rw [neg_per]
  refine Prod.ext ?_ (neg_mod i (per ss))
  show decide (-i > 0) = !decide (i > 0)
  by_cases q : i > 0
  · rw [decide_eq_true q, decide_eq_false (by omega)]; rfl
  · rw [decide_eq_false q, decide_eq_true (by omega)]; rfl
theorem negM_inj {ss : List Stp} {w i : Int} (h : negM (per ss) (markOf ss w) = negM (per ss) (markOf ss i)) : markOf ss w = markOf ss i := by
  have h1 := congrArg Prod.fst h
  have h2 := congrArg Prod.snd h
  unfold negM markOf at h1 h2
  dsimp only at h1 h2
  unfold markOf
  refine Prod.ext ?_ ?_
  · show decide (w > 0) = decide (i > 0)
    cases a : decide (w > 0) <;> cases b : decide (i > 0) <;> rw [a, b] at h1 <;> first | rfl | cases h1
  · show w % per ss = i % per ss
    have a := neg_mod (-w) (per ss)
    have b := neg_mod (-i) (per ss)
    rw [Int.neg_neg, neg_mod w, h2, ← neg_mod i] at a
    rw [Int.neg_neg] at b
    rw [a, b]
theorem lookE_map {κ β : Type} [DecidableEq κ] {f : κ → κ} {l : List (κ × β)} {k : κ} (h : ∀ p ∈ l, f p.1 = f k → p.1 = k) : lookE (l.map fun p => (f p.1, p.2)) (f k) = lookE l k := by
  induction l with
  | nil => rfl
  | cons p l ih =>
    have ih := ih fun q hq => h q (List.mem_cons_of_mem _ hq)
    unfold lookE at *
    rw [List.map_cons, List.find?_cons, List.find?_cons]
    by_cases e : p.1 = k
    · rw [decide_eq_true e, decide_eq_true (show f p.1 = f k by rw [e])]; rfl
    · rw [decide_eq_false e, decide_eq_false (fun z => e (h p List.mem_cons_self z))]
      exact ih
def MInv (ss : List Stp) (st : WSt) : Prop := ∀ m ∈ st.marks, ∃ w, m.1 = markOf ss w
theorem seen_neg (ss : List Stp) (st : WSt) (v : Val) : lookE (negW ss st).seen v.neg = lookE st.seen v := lookE_map (f := Val.neg) fun p _ e => neg_inj e
theorem marks_neg {ss : List Stp} {st : WSt} (I : MInv ss st) {i : Int} (hi : i ≠ 0) : lookE (negW ss st).marks (markOf (negC ss) (-i)) = lookE st.marks (markOf ss i) := by
  rw [mark_neg2 ss hi]
  refine lookE_map (f := negM (per ss)) fun p hp e => ?_
  obtain ⟨w, hw⟩ := I p hp
  rw [hw] at e ⊢
  exact negM_inj e
theorem jump_neg {i : Int} (hi : i ≠ 0) (m d : Int) : jumpTo (-i) m d = -(jumpTo i m d) := by
  unfold jumpTo
  by_cases q : i > 0
  · rw [if_pos q, if_neg (by omega)]; omega
  · rw [if_neg q, if_pos (by omega)]; omega
theorem lookFar_neg {ss : List Stp} {st : WSt} (I : MInv ss st) {i : Int} (hi : i ≠ 0) : lookFar (negC ss) (negW ss st) (-i) = ((lookFar ss st i).1, negW ss (lookFar ss st i).2) := by
  have hm := marks_neg I hi
  unfold lookFar
  rw [hm, iabs_neg, neg_beg]
  cases lookE st.marks (markOf ss i) with
  | none =>
    dsimp only
    refine Prod.ext rfl ?_
    show (⟨st.v.neg, st.n, _, _⟩ : WSt) = negW ss ⟨st.v, st.n, st.seen, st.marks ++ [(markOf ss i, iabs i, st.n)]⟩
    unfold negW
    dsimp only
    rw [List.map_append, mark_neg2 ss hi]
    rfl
  | some p =>
    obtain ⟨size, time⟩ := p
    dsimp only
    by_cases q : iabs i > size
    · rw [if_pos q, if_pos q]
    · rw [if_neg q, if_neg q]
      by_cases q2 : size - iabs i > 0 ∧ iabs i - (begO ss + (st.n - time + 1) * begO ss) > size - iabs i
      · have q3 : size - iabs i > 0 ∧ iabs i - (begO ss + ((negW ss st).n - time + 1) * begO ss) > size - iabs i := q2
        rw [if_pos q2, if_pos q3]
        refine Prod.ext rfl ?_
        show (⟨.int (jumpTo (-i) _ _), _, [], []⟩ : WSt) = negW ss ⟨.int (jumpTo i _ _), _, [], []⟩
        rw [jump_neg hi]
        rfl
      · have q3 : ¬ (size - iabs i > 0 ∧ iabs i - (begO ss + ((negW ss st).n - time + 1) * begO ss) > size - iabs i) := q2
        rw [if_neg q2, if_neg q3]
        rfl
theorem looked_neg {ss : List Stp} (ok : ∀ s ∈ ss, s.ok) {st : WSt} (I : MInv ss st) : looked (negC ss) (negW ss st) = ((looked ss st).1, negW ss (looked ss st).2) := by
  have hp := per_pos ok
  have hr := reach_nn ss
  have hB : begO ss = reach ss + per ss + 5 := rfl
  obtain ⟨v, n, seen, marks⟩ := st
  cases v with
  | int i =>
    show (if iabs (-i) > begO (negC ss) then lookFar (negC ss) (negW ss ⟨.int i, n, seen, marks⟩) (-i) else _) = ((if iabs i > begO ss then lookFar ss ⟨.int i, n, seen, marks⟩ i else (false, _)).1, negW ss (if iabs i > begO ss then lookFar ss ⟨.int i, n, seen, marks⟩ i else (false, _)).2)
    rw [iabs_neg, neg_beg]
    by_cases q : iabs i > begO ss
    · rw [if_pos q, if_pos q]
      have c := iabs_cases i
      exact lookFar_neg I (by omega)
    · rw [if_neg q, if_neg q]; rfl
  | _ => rfl
theorem wnext_neg {ss : List Stp} (hp : ∀ s ∈ ss, s.pln) {st : WSt} (I : MInv ss st) : wnext (negC ss) (negW ss st) = (match wnext ss st with | .inl f => .inl (negF f) | .inr st' => .inr (negW ss st')) := by
  have ok := plns_ok hp
  have e1 := seen_neg ss st st.v
  have e2 := looked_neg ok I
  cases es : lookE st.seen st.v with
  | some first =>
    rw [es] at e1
    have a : wnext (negC ss) (negW ss st) = .inl (if st.n - first = 1 then .rests st.v.neg first else .turns first) := wnext_seen (ss := negC ss) (v := st.v.neg) (n := st.n) (M := (negW ss st).marks) e1
    have b : wnext ss st = .inl (if st.n - first = 1 then .rests st.v first else .turns first) := wnext_seen (ss := ss) (v := st.v) (n := st.n) (M := st.marks) es
    rw [a, b]
    dsimp only
    split <;> rfl
  | none =>
    rw [es] at e1
    have a : wnext (negC ss) (negW ss st) = if (looked (negC ss) (negW ss st)).1 = true then .inl .runs else match run (negC ss) (looked (negC ss) (negW ss st)).2.v with
      | none => .inl (.refused (looked (negC ss) (negW ss st)).2.n)
      | some v' => .inr ⟨v', (looked (negC ss) (negW ss st)).2.n + 1, (looked (negC ss) (negW ss st)).2.seen ++ [((looked (negC ss) (negW ss st)).2.v, (looked (negC ss) (negW ss st)).2.n)], (looked (negC ss) (negW ss st)).2.marks⟩ := by
      unfold wnext
      have e1' : lookE (negW ss st).seen (negW ss st).v = none := e1
      rw [e1']
      all_goals (cases run (negC ss) (looked (negC ss) (negW ss st)).2.v <;> rfl)
    have b : wnext ss st = if (looked ss st).1 = true then .inl .runs else match run ss (looked ss st).2.v with
      | none => .inl (.refused (looked ss st).2.n)
      | some v' => .inr ⟨v', (looked ss st).2.n + 1, (looked ss st).2.seen ++ [((looked ss st).2.v, (looked ss st).2.n)], (looked ss st).2.marks⟩ := by
      unfold wnext
      rw [es]
      all_goals (cases run ss (looked ss st).2.v <;> rfl)
    rw [a, b, e2]
    generalize looked ss st = lk
    obtain ⟨bb, lk⟩ := lk
    dsimp only
    cases bb with
    | true => rfl
    | false =>
      rw [if_neg (by decide), if_neg (by decide)]
      have hr : run (negC ss) (negW ss lk).v = (run ss lk.v).map Val.neg := neg_run hp lk.v
      rw [hr]
      cases run ss lk.v with
      | none => rfl
      | some v' =>
        show (Sum.inr _ : Fate ⊕ WSt) = Sum.inr _
        congr 1
        unfold negW
        dsimp only
        rw [List.map_append]
        rfl
theorem minv_next {ss : List Stp} {st st' : WSt} (I : MInv ss st) (h : wnext ss st = .inr st') : MInv ss st' := by
  by_cases hfar : ∃ i, st.v = .int i ∧ iabs i > begO ss
  · obtain ⟨i, hv, hf⟩ := hfar
    obtain ⟨_, hr⟩ := round_far hv hf h
    rcases hr with ⟨_, v', _, rfl⟩ | ⟨_, _, _, _, ⟨_, v', _, rfl⟩ | ⟨_, _, v', n', _, rfl⟩⟩
    · intro m hm
      rcases List.mem_append.mp hm with q | q
      · exact I m q
      · rw [List.mem_singleton.mp q]; exact ⟨i, rfl⟩
    · exact fun m hm => (nomatch hm)
    · exact fun m hm => (nomatch hm)
  · obtain ⟨_, v', _, rfl⟩ := round_near (fun i hi hf => hfar ⟨i, hi, hf⟩) h
    exact fun m hm => (nomatch hm)
theorem wrun_neg {ss : List Stp} (hp : ∀ s ∈ ss, s.pln) : ∀ (k : Nat) {st : WSt}, MInv ss st → wrun (negC ss) k (negW ss st) = (wrun ss k st).map negF
  | 0, _, _ => rfl
  | k + 1, st, I => by
    have e := wnext_neg hp I
    cases h : wnext ss st with
    | inl f =>
      rw [h] at e
      rw [wrun_inl h, wrun_inl e]
      rfl
    | inr st' =>
      rw [h] at e
      rw [wrun_inr h, wrun_inr e]
      exact wrun_neg hp k (minv_next I h)
/-- a value and its opposite have opposite fates -/
theorem fates_neg {ss : List Stp} (hp : ∀ s ∈ ss, s.pln) (hl : ss.length ≤ 5) (v : Val) : ∃ K ≤ 500000, ∃ f, wrun ss K (st0 v) = some f ∧ wrun (negC ss) K (st0 v.neg) = some (negF f) := by
  obtain ⟨K, hK, f, hf⟩ := walk_ends (plns_ok hp) hl v
  refine ⟨K, hK, f, hf, ?_⟩
  have := wrun_neg hp K (st := st0 v) (fun m hm => (nomatch hm))
  rw [hf] at this
  exact this
end TW

set_option maxHeartbeats 4000000
/-! law k19: promises -/
namespace TB
open PySem PySem.Spec PyProof.Rows L2 TW LamX NdefX
def spPlain : Sp := fun vs H Q _ => ∃ d cells, vs = [.ref d] ∧ DrawsAt H d cells ∧ ∀ t s H', Stp.pln s → H' t = some (.tup (parts s)) → H t = none → SameX d H H' → DrawsAt H' d cells → Q (.ref t) H'
theorem go_plain {H : Hp} {Q : VK} {E : XK} {d : Addr} {cells : Cells} (hd : DrawsAt H d cells) (q : ∀ t s H', Stp.pln s → H' t = some (.tup (parts s)) → H t = none → SameX d H H' → DrawsAt H' d cells → Q (.ref t) H') : spPlain [.ref d] H Q E := ⟨d, cells, rfl, hd, q⟩
structure LstPln (H0 : Hp) (d : Addr) (cells : Cells) (D : Addr) (n : Nat) (H : Hp) : Prop where
  sx : SameX d H0 H
  dr : DrawsAt H d cells
  ex : ∃ ss items, ss.length = n ∧ (∀ s ∈ ss, Stp.pln s) ∧ H D = some (.lst items) ∧ StepsAt H ss items
theorem LstPln.new {H0 : Hp} {d : Addr} {cells : Cells} {D : Addr} (dr : DrawsAt H0 d cells) (hD : H0 D = none) : LstPln H0 d cells D 0 (upd H0 D (.lst [])) :=
  ⟨.of (Same.new hD), dr.same (Same.new hD), [], [], rfl, fun _ h => (List.not_mem_nil h).elim, upd_same, .nil⟩
theorem LstPln.add {H0 H H' : Hp} {d D t : Addr} {cells : Cells} {n : Nat} {s : Stp} (dr0 : DrawsAt H0 d cells) (hD : H0 D = none) (h : LstPln H0 d cells D n H) (hs : s.pln) (ht : H' t = some (.tup (parts s))) (sx : SameX d H H') (dr : DrawsAt H' d cells) (hn : n < 100000) :
    ∃ a, H' D = some (.lst a) ∧ a.length < sizeLine ∧ LstPln H0 d cells D (n + 1) (upd H' D (.lst (a ++ [.ref t]))) := by
  obtain ⟨sx1, dr1, ss, items, hl, hs1, hi, hp⟩ := h
  have nD := dr0.ne hD
  have e1 : H' D = some (.lst items) := sx _ _ nD hi
  have hlen := hp.length
  refine ⟨items, e1, len_lt (by omega), ?_⟩
  refine ⟨fun b o nb hb => ?_, dr.upd nD (dr0.neC hD), ss ++ [s], items ++ [.ref t], by simp [hl], fun x hx => ?_, upd_same, ?_⟩
  · rw [upd_ne (ne_of_none hb hD)]
    exact sx _ _ nb (sx1 _ _ nb hb)
  · rcases List.mem_append.mp hx with hx | hx
    · exact hs1 x hx
    · rw [List.mem_singleton] at hx; rw [hx]; exact hs
  · refine PySem.Paired.snoc (StepsAt.upd (hp.sameX dr1 sx) e1) ⟨t, rfl, ?_⟩
    rw [upd_ne (fun q => by rw [q, e1] at ht; cases ht)]
    exact ht
theorem LstPln.lst {K : PySem.W.Frag} {H0 H : Hp} {d D : Addr} {cells : Cells} {n : Nat} (h : LstPln H0 d cells D n H) (dr0 : DrawsAt H0 d cells) (hD : H0 D = none) : ∃ ss, ss.length = n ∧ (∀ s ∈ ss, Stp.pln s) ∧ LSt K H d D ss := by
  obtain ⟨sx1, dr1, ss, items, hl, hs1, hi, hp⟩ := h
  exact ⟨ss, hl, hs1, dr0.ne hD, items, hi, StepsP.of hp⟩
/-- a step, mirrored -/
def spTurned (K : PySem.W.Frag) : Sp := fun vs H Q _ => ∃ t s, vs = [.ref t] ∧ SqT K H t (parts s) ∧ s.pln ∧ ∀ p H', Same H H' → SqT K H' p (parts s.neg) → Q (.ref p) H'
def nw : Val → Prop
  | .non => True
  | .int _ => True
  | _ => False
/-- what is told, mirrored -/
inductive OppR : List V → List V → Prop where
  | done (v : Val) (h : nw v) : OppR [.str "done", vv v] [.str "done", vv v.neg]
  | rests (v : Val) (n : Int) (h : nw v) : OppR [.str "rests", vv v, .int n] [.str "rests", vv v.neg, .int n]
  | other (z : Str) (l : List V) (h1 : z ≠ "done") (h2 : z ≠ "rests") : OppR (.str z :: l) (.str z :: l)
def spOpp (K : PySem.W.Frag) : Sp := fun vs H Q _ => ∃ t xs ys, vs = [.ref t] ∧ SqT K H t xs ∧ OppR xs ys ∧ ∀ p H', Same H H' → SqT K H' p ys → Q (.ref p) H'
theorem nw_step {s : Stp} (h : s.pln) {x y : Val} (hx : nw x) (e : step1 s x = some y) : nw y := by
  cases s with
  | replace v w =>
    obtain ⟨a, b, rfl, rfl, _⟩ := h
    have e := (Option.some.inj e).symm
    subst e
    by_cases q : x = .int a
    · rw [if_pos q]; trivial
    · rw [if_neg q]; exact hx
  | blank a b =>
    cases x with
    | int n =>
      have e := (Option.some.inj e).symm
      subst e
      by_cases q : a ≤ n ∧ n ≤ b
      · rw [if_pos q]; trivial
      · rw [if_neg q]; trivial
    | _ => cases e; exact hx
  | refuse a b =>
    cases x with
    | int n =>
      have e : (if a ≤ n ∧ n ≤ b then some (Val.int n) else none) = some y := e
      by_cases q : a ≤ n ∧ n ≤ b
      · rw [if_pos q] at e; cases e; trivial
      · rw [if_neg q] at e; cases e
    | _ => cases e; exact hx
  | clamp a b => cases x <;> (cases e; first | trivial | exact hx)
  | least a => cases x <;> (cases e; first | trivial | exact hx)
  | most a => cases x <;> (cases e; first | trivial | exact hx)
  | shift a => cases x <;> (cases e; first | trivial | exact hx)
  | round a b => cases x <;> (cases e; first | trivial | exact hx)
  | turn => cases x <;> (cases e; first | trivial | exact hx)
  | _ => exact h.elim
theorem nw_run : ∀ {ss : List Stp}, (∀ s ∈ ss, s.pln) → ∀ {x y : Val}, nw x → TW.run ss x = some y → nw y
  | [], _, x, y, hx, e => by
    have := Option.some.inj e
    rw [← this]; exact hx
  | s :: ss, h, x, y, hx, e => by
    rw [run_cons] at e
    cases e1 : step1 s x with
    | none => rw [e1] at e; cases e
    | some z =>
      rw [e1] at e
      exact nw_run (fun s hs => h s (List.mem_cons_of_mem _ hs)) (nw_step (h s List.mem_cons_self) hx e1) e
theorem nw_last : ∀ {ss : List Stp}, (∀ s ∈ ss, s.pln) → ∀ {x : Val}, nw x → nw ((trace ss x).getLastD x)
  | [], _, x, hx => hx
  | s :: ss, h, x, hx => by
    cases e1 : step1 s x with
    | none => rw [trace_stop e1]; exact hx
    | some z =>
      rw [trace_cons e1, List.getLastD_cons]
      exact nw_last (fun s hs => h s (List.mem_cons_of_mem _ hs)) (nw_step (h s List.mem_cons_self) hx e1)
theorem last_map {α β : Type} (f : α → β) : ∀ (l : List α) (x : α), (l.map f).getLastD (f x) = f (l.getLastD x)
  | [], x => rfl
  | y :: l, x => by rw [List.map_cons, List.getLastD_cons, List.getLastD_cons]; exact last_map f l y
theorem opp_out {ss : List Stp} (h : ∀ s ∈ ss, s.pln) {x : Val} (hx : nw x) : OppR (outT ss x) (outT (negC ss) x.neg) := by
  unfold outT
  rw [neg_trace h, List.length_map, show (negC ss).length = ss.length from List.length_map _, last_map]
  by_cases q : (trace ss x).length < ss.length
  · rw [if_pos q, if_pos q]
    exact .other "refused" [.int ((trace ss x).length : Int)] (by decide +kernel) (by decide +kernel)
  · rw [if_neg q, if_neg q]
    exact .done _ (nw_last h hx)
theorem opp_fate {f : Fate} (h : ∀ v n, f = .rests v n → nw v) : OppR (fateT f) (fateT (negF f)) := by
  cases f with
  | rests v n => exact .rests v n (h v n rfl)
  | turns n => exact .other "turns" _ (by decide +kernel) (by decide +kernel)
  | runs => exact .other "runs" _ (by decide +kernel) (by decide +kernel)
  | refused n => exact .other "refused" _ (by decide +kernel) (by decide +kernel)
/-- no words on the way -/
theorem nw_wnext {ss : List Stp} (h : ∀ s ∈ ss, s.pln) {st : WSt} (hv : nw st.v) : (∀ v n, wnext ss st = .inl (.rests v n) → nw v) ∧ ∀ st', wnext ss st = .inr st' → nw st'.v := by
  constructor
  · intro v n e
    cases es : lookE st.seen st.v with
    | some first =>
      have b : wnext ss st = .inl (if st.n - first = 1 then .rests st.v first else .turns first) := wnext_seen (ss := ss) (v := st.v) (n := st.n) (M := st.marks) es
      rw [b] at e
      have e := Sum.inl.inj e
      by_cases q : st.n - first = 1
      · rw [if_pos q] at e; cases e; exact hv
      · rw [if_neg q] at e; cases e
    | none =>
      unfold wnext at e
      rw [es] at e
      dsimp only at e
      split at e
      · cases e
      · split at e <;> cases e
  · intro st' e
    by_cases hfar : ∃ i, st.v = .int i ∧ iabs i > begO ss
    · obtain ⟨i, hi, hf⟩ := hfar
      obtain ⟨_, hr⟩ := round_far hi hf e
      rcases hr with ⟨_, v', e3, rfl⟩ | ⟨_, _, _, _, ⟨_, v', e3, rfl⟩ | ⟨_, _, v', n', e3, rfl⟩⟩
      · exact nw_run h (x := .int i) trivial e3
      · exact nw_run h (x := .int i) trivial e3
      · exact nw_run h (x := .int _) trivial e3
    · obtain ⟨_, v', e3, rfl⟩ := round_near (fun i hi hf => hfar ⟨i, hi, hf⟩) e
      exact nw_run h hv e3
theorem nw_fate {ss : List Stp} (h : ∀ s ∈ ss, s.pln) : ∀ (k : Nat) {st : WSt} {v : Val} {n : Int}, nw st.v → wrun ss k st = some (.rests v n) → nw v
  | 0, _, _, _, _, e => by cases e
  | k + 1, st, v, n, hv, e => by
    obtain ⟨a, b⟩ := nw_wnext h hv
    cases q : wnext ss st with
    | inl f =>
      rw [wrun_inl q] at e
      have := Option.some.inj e
      subst this
      exact a v n q
    | inr st' =>
      rw [wrun_inr q] at e
      exact nw_fate h k (b st' q) e
/-- the turned steps so far -/
def TurnL (K : PySem.W.Frag) (H1 H : Hp) (D : Addr) (l : List Stp) : Prop := Same H1 H ∧ ∃ items, H D = some (.lst items) ∧ StepsP K H l items
theorem TurnL.add {K : PySem.W.Frag} {H1 H H4 : Hp} {D p : Addr} {l : List Stp} {i : Nat} {s : Stp} (hD : H1 D = none) (h : TurnL K H1 H D (l.take i)) (hp : l[i]? = some s) (hl : l.length ≤ 1000) (s4 : Same H H4) (ht : SqT K H4 p (parts s)) :
    ∃ a, H4 D = some (.lst a) ∧ a.length < sizeLine ∧ TurnL K H1 (upd H4 D (.lst (a ++ [.ref p]))) D (l.take (i + 1)) := by
  obtain ⟨sm, items, h1, h2⟩ := h
  have hlen := h2.length
  rw [List.length_take] at hlen
  have e1 := s4 _ _ h1
  refine ⟨items, e1, len_lt (by omega), fun b o hb => by rw [upd_ne (ne_of_none hb hD)]; exact s4 _ _ (sm _ _ hb), items ++ [.ref p], upd_same, ?_⟩
  rw [List.take_succ, hp]
  exact Paired.app (StepsP.updL (StepsP.same h2 s4) e1) (.cons ⟨p, rfl, SqT.nl ht (NL.upd e1)⟩ .nil)
theorem alike_neg {ss ts : List Stp} (h1 : ∀ s ∈ ss, s.pln) (h2 : ∀ s ∈ ts, s.pln) : alikeB ss ts = alikeB (negC ss) (negC ts) := by
  have a := alike_iff (plns_ok h1) (plns_ok h2)
  have b := alike_iff (negs_ok h1) (negs_ok h2)
  have c : (∀ v, TW.run ss v = TW.run ts v) ↔ ∀ v, TW.run (negC ss) v = TW.run (negC ts) v := by
    constructor
    · intro h v
      rw [← neg_neg v, neg_run h1, neg_run h2, h]
    · intro h v
      have := h v.neg
      rw [neg_run h1, neg_run h2] at this
      cases e1 : TW.run ss v <;> cases e2 : TW.run ts v <;> rw [e1, e2] at this
      · cases this
      · cases this
      · rw [neg_inj (Option.some.inj this)]
  cases x : alikeB ss ts <;> cases y : alikeB (negC ss) (negC ts) <;> first
    | rfl
    | (exfalso; have := (b.trans (c.symm.trans a.symm)).mp y; rw [x] at this; cases this)
    | (exfalso; have := (a.trans (c.trans b.symm)).mp x; rw [y] at this; cases this)
theorem outT_shaped (ss : List Stp) (x : Val) : SeqAt.shaped (.tuple ((outT ss x).map pd)) = true := by
  unfold outT
  split
  · exact tag_shaped _ (by decide +kernel)
  · refine shaped_tup ?_ ?_
    · have := pd_vv_lay ((trace ss x).getLastD x)
      have h2 : PyData.strOk "done" = true := by decide +kernel
      show PyData.canLayAll0 [PyData.str "done", pd (vv _)] = true
      simp only [PyData.canLayAll0, this, h2, PyData.canLay0, Bool.and_self, Bool.and_true]
    · have := pd_lay (v := vv ((trace ss x).getLastD x))
      show PyData.depthAll [PyData.str "done", pd (vv _)] ≤ 3
      simp only [PyData.depthAll, this, PyData.depth]
      omega
end TB

set_option maxHeartbeats 4000000
namespace TB
open PySem PySem.Spec PyProof.Rows L2 TW LamX NdefX
local macro_rules | `(tactic| walk_at "same") => `(tactic| first
  | exact Same.refl _
  | assumption
  | ((with_reducible refine' Same.trans ?sa (Same.new ?sb)); (case sb => assumption); (case sa => walk_at "same"))
  | ((with_reducible refine' Same.trans ?sa ?sb); (case sb => assumption); (case sa => walk_at "same"))
  | fail)
local macro_rules | `(tactic| walk_at "at") => `(tactic| first
  | assumption
  | exact upd_same
  | ((with_reducible refine' Same.get (Same.new ?sb) ?sa); (case sb => assumption); (case sa => walk_at "at"))
  | ((with_reducible refine' Same.get ?sb ?sa); (case sb => assumption); (case sa => walk_at "at"))
  | ((with_reducible refine' SameX.get ?sb ?sn ?sa); (case sb => assumption); (case sn => assumption); (case sa => walk_at "at"))
  | fail)
local macro_rules | `(tactic| walk_at "sq") => `(tactic| first
  | assumption
  | ((with_reducible refine' tupAt ?sa); (case sa => walk_at "at"))
  | ((with_reducible refine' lstAt ?sa); (case sa => walk_at "at"))
  | ((with_reducible refine' Same.tup (Same.new ?sb) ?sa); (case sb => assumption); (case sa => walk_at "sq"))
  | ((with_reducible refine' Same.lst (Same.new ?sb) ?sa); (case sb => assumption); (case sa => walk_at "sq"))
  | ((with_reducible refine' Same.tup ?sb ?sa); (case sb => assumption); (case sa => walk_at "sq"))
  | ((with_reducible refine' Same.lst ?sb ?sa); (case sb => assumption); (case sa => walk_at "sq"))
  | fail)
local macro_rules | `(tactic| walk_at "ix") => `(tactic| first
  | with_reducible exact atI_0
  | with_reducible exact atI_1
  | with_reducible exact atI_2
  | with_reducible exact atI_3
  | assumption
  | exact rfl)
local macro_rules | `(tactic| walk_at "dr") => `(tactic| first
  | assumption
  | ((with_reducible refine' DrawsAt.same ?sa (Same.new ?sb)); (case sb => assumption); (case sa => walk_at "dr"))
  | ((with_reducible refine' DrawsAt.same ?sa ?sb); (case sb => assumption); (case sa => walk_at "dr"))
  | fail)
local macro_rules | `(tactic| walk_at "sx") => `(tactic| first
  | exact SameX.refl _ _
  | assumption
  | ((with_reducible refine' SameX.new ?sa ?sb); (case sb => assumption); (case sa => walk_at "sx"))
  | ((with_reducible refine' SameX.trans ?sa ?sb); (case sb => assumption); (case sa => walk_at "sx"))
  | ((with_reducible refine' SameX.trans ?sa (SameX.of ?sb)); (case sb => assumption); (case sa => walk_at "sx"))
  | fail)
local macro_rules | `(tactic| walk_at "x1") => `(tactic| fail)
local macro_rules | `(tactic| walk_at "w1") => `(tactic| first
  | ((with_reducible refine' w_var ?hv ?_); (case hv => exact rfl))
  | with_reducible refine' w_c ?_
  | with_reducible refine' w_op ?_
  | with_reducible refine' w_seq ?_
  | with_reducible refine' w_asg ?_
  | with_reducible refine' w_gname ?_
  | with_reducible refine' w_ret ?_
  | with_reducible refine' w_retN ?_
  | with_reducible refine' w_drop ?_
  | with_reducible refine' w_next ?_
  | with_reducible refine' w_nil ?_
  | with_reducible refine' w_cons ?_
  | with_reducible refine' w_cb ?_
  | with_reducible refine' w_call ?_
  | with_reducible refine' w_callS ?_
  | with_reducible refine' w_un ?_
  | with_reducible refine' w_I0 ?_
  | with_reducible refine' w_U ?_
  | ((with_reducible refine' w_eq ?hv ?_); (case hv => exact rfl))
  | ((with_reducible refine' w_ne ?hv ?_); (case hv => exact rfl))
  | with_reducible refine' w_test ?_
  | with_reducible refine' w_tB ?_
  | with_reducible refine' w_bl ?_
  | with_reducible refine' w_blA ?_
  | with_reducible refine' w_and ?_
  | with_reducible refine' w_or ?_
  | with_reducible refine' w_not ?_
  | with_reducible refine' w_andV ?_
  | with_reducible refine' w_orV ?_
  | with_reducible refine' w_notV ?_
  | with_reducible refine' w_if ?_
  | with_reducible refine' w_ifS ?_
  | with_reducible refine' w_T ?_
  | with_reducible refine' w_F ?_
  | with_reducible refine' w_NT ?_
  | with_reducible refine' w_NF ?_
  | with_reducible refine' w_tup ?_
  | with_reducible refine' w_lst ?_
  | with_reducible refine' w_chain ?_
  | with_reducible refine' w_rfl ?_
  | ((with_reducible refine' w_szn ?hl ?_); (case hl => simp only [List.length_cons, List.length_nil]; decide); intro _ _)
  | ((with_reducible refine' w_isiF ?hv ?hw ?_); (case hv => first | assumption | rfl); (case hw => decide))
  | with_reducible refine' w_slice ?_
  | with_reducible refine' w_nopart ?_
  | with_reducible refine' w_part ?_
  | with_reducible refine' w_partI ?_
  | with_reducible refine' w_lc ?_
  | with_reducible refine' w_for ?_
  | with_reducible refine' w_iZip ?_
  | with_reducible refine' w_iEnum ?_
  | with_reducible refine' w_iList ?_
  | with_reducible refine' w_iTup ?_
  | with_reducible refine' w_iR1 ?_
  | with_reducible refine' w_iR2 ?_
  | with_reducible refine' w_gcons ?_
  | ((with_reducible refine' w_gunl ?hv ?hw ?_); (case hv => walk_at "sq"); (case hw => exact rfl))
  | with_reducible refine' w_gnil ?_
  | ((with_reducible refine' w_gtupH ?hv ?hw ?_); (case hv => walk_at "at"); (case hw => exact rfl))
  | ((with_reducible refine' w_wipe (σ := wipe _ _) ?hv ?_); (case hv => exact rfl))
  | with_reducible refine' w_yes ?_
  | with_reducible refine' w_tru ?_
  | with_reducible refine' w_rs ?_
  | with_reducible refine' w_mkO ?_
  | ((with_reducible refine' w_exc1 ?_); intro _ _)
  | with_reducible refine' w_make ?_
  | with_reducible refine' w_makeS ?_
  | with_reducible refine' w_fldG ?_
  | with_reducible refine' w_setF ?_
  | ((with_reducible refine' w_ixT ?hv ?hw ?_); (case hv => walk_at "sq"); (case hw => walk_at "ix"))
  | ((with_reducible refine' w_ixL ?hv ?hw ?_); (case hv => walk_at "sq"); (case hw => walk_at "ix"))
  | ((with_reducible refine' w_lenT ?hv ?_); (case hv => walk_at "sq"))
  | ((with_reducible refine' w_lenL ?hv ?_); (case hv => walk_at "sq"))
  | ((with_reducible refine' w_I ?hc ?_); (case hc => first | (exact cmul_r (by omega) (by omega)) | (exact cmul_l (by omega) (by omega)) | (show (0 : Int) < _; first | assumption | omega) | (exact ⟨by first | assumption | omega, by first | assumption | omega⟩) | (exact ⟨by omega, by omega, by omega⟩)))
  | with_reducible refine' w_int1 ?_
  | with_reducible refine' w_bm ?_
  | with_reducible refine' w_tryA ?_
  | with_reducible refine' w_tryO ?_
  | with_reducible refine' w_insS ?_
  | with_reducible refine' w_xfG ?_
  | ((with_reducible refine' w_cat ?ha ?hb ?hl ?_); (case ha => walk_at "at"); (case hb => walk_at "at"); (case hl => simp only [List.length_cons, List.length_nil, List.length_append]; decide); intro _ _)
  | with_reducible refine' w_gsub ?_
  | ((with_reducible refine' w_setL ?hv ?hw ?_); (case hv => walk_at "at"); (case hw => exact rfl))
  | walk_at "x1"
  | fail)
local macro_rules | `(tactic| walk_at "w") => `(tactic| repeat' walk_at "w1")
local macro_rules | `(tactic| walk_at "a1") => `(tactic| first
  | with_reducible refine' w_tupR ?_
  | with_reducible refine' w_lstR ?_
  | ((with_reducible refine' w_tupA ?hl ?_); (case hl => simp only [List.length_cons, List.length_nil]; decide); intro _ _ _ _ _)
  | ((with_reducible refine' w_lstA ?hl ?_); (case hl => simp only [List.length_cons, List.length_nil]; decide); intro _ _ _ _ _)
  | ((with_reducible refine' w_catA ?ha ?hb ?hl ?_); (case ha => walk_at "at"); (case hb => walk_at "at"); (case hl => simp only [List.length_cons, List.length_nil, List.length_append]; decide); intro _ _ _ _ _)
  | walk_at "w1"
  | fail)
local macro_rules | `(tactic| walk_at "wa") => `(tactic| repeat' walk_at "a1")

theorem sc__law_plain : FnScope ["_law_draws", "_law_low", "_law_high", "_law_at"] ["_law_draws"] (defScope s__law_plain) := ⟨rfl, rfl, rfl, by decide +kernel, rfl, by decide +kernel, by decide +kernel⟩
theorem sc__law_turned : FnScope ["_law_step_here"] ["_law_step_here"] (defScope s__law_turned) := ⟨rfl, rfl, rfl, by decide +kernel, rfl, by decide +kernel, by decide +kernel⟩
theorem sc__law_opposite : FnScope ["_law_told"] ["_law_told"] (defScope s__law_opposite) := ⟨rfl, rfl, rfl, by decide +kernel, rfl, by decide +kernel, by decide +kernel⟩
section
variable {P : Program} {w : World} {K : PySem.W.Frag} {mg : Str → Option Value} {base : Heap}
theorem ok_plain (T : Fx w K mg) (c__law_draw : Cal P w K mg base 1 "_law_draw" ["_law_draws", "_law_many"] spDraw) (c__law_range : Cal P w K mg base 2 "_law_range" ["_law_draws"] spRange) : Cal P w K mg base 3 "_law_plain" ["_law_draws"] spPlain := by
  refine cal_of T.f__law_plain sc__law_plain (fun vs H Q E h => ?_) (fun _ _ _ _ _ _ us hl => match us, hl with | [_], _ => rfl) (fun f cdv A outer s H vs Q E hr h => ?_)
  · obtain ⟨d, cells, rfl, _⟩ := h; rfl
  · obtain ⟨d, cells, rfl, hd, k⟩ := h
    refine ⟨_, (pss_cons (ps_asg (pe_cal c__law_range hr (by first | decide | omega) rfl (pa_cons (pv 0) pa_nil)) (pg_unl rfl (pgs_cons (pg_name (i := 1) sc__law_plain.nd rfl (Or.inl rfl)) (pgs_cons (pg_name (i := 2) sc__law_plain.nd rfl (Or.inl rfl)) pgs_nil)))) (pss_cons (ps_set (i := 3) sc__law_plain.nd rfl (Or.inl rfl) (pe_cal c__law_draw hr (by first | decide | omega) rfl (pa_cons (pv 0) (pa_cons pe_int pa_nil)))) (pss_cons (ps_if (pt_cmpR (op_eq) (pv 3) pe_int (nomark _)) (pss_one (ps_ret (pe_tup (pa_cons pe_str (pa_cons (pv 1) (pa_cons (pv 2) pa_nil)))))) pss_nil) (pss_cons (ps_if (pt_cmpR (op_eq) (pv 3) pe_int (nomark _)) (pss_one (ps_ret (pe_tup (pa_cons pe_str (pa_cons (pv 1) pa_nil))))) pss_nil) (pss_cons (ps_if (pt_cmpR (op_eq) (pv 3) pe_int (nomark _)) (pss_one (ps_ret (pe_tup (pa_cons pe_str (pa_cons (pe_ix ix_list (pe_lst (pa_cons pe_int (pa_cons pe_int (pa_cons pe_int pa_nil)))) (pe_cal c__law_draw hr (by first | decide | omega) rfl (pa_cons (pv 0) (pa_cons pe_int pa_nil))) (fun _ _ => rfl)) (pa_cons (pe_ix ix_list (pe_lst (pa_cons pe_str (pa_cons pe_str pa_nil))) (pe_cal c__law_draw hr (by first | decide | omega) rfl (pa_cons (pv 0) (pa_cons pe_int pa_nil))) (fun _ _ => rfl)) pa_nil)))))) pss_nil) (pss_cons (ps_if (pt_cmpR (op_eq) (pv 3) pe_int (nomark _)) (pss_one (ps_ret (pe_tup (pa_cons (pe_ix ix_list (pe_lst (pa_cons pe_str (pa_cons pe_str pa_nil))) (pe_cal c__law_draw hr (by first | decide | omega) rfl (pa_cons (pv 0) (pa_cons pe_int pa_nil))) (fun _ _ => rfl)) (pa_cons (pv 1) pa_nil))))) pss_nil) (pss_cons (ps_if (pt_cmpR (op_eq) (pv 3) pe_int (nomark _)) (pss_one (ps_ret (pe_tup (pa_cons pe_str (pa_cons (pv 1) (pa_cons (pv 2) pa_nil)))))) pss_nil) (pss_cons (ps_if (pt_cmpR (op_eq) (pv 3) pe_int (nomark _)) (pss_one (ps_ret (pe_tup (pa_cons pe_str pa_nil)))) pss_nil) (pss_one (ps_ret (pe_tup (pa_cons (pe_ix ix_list (pe_lst (pa_cons pe_str (pa_cons pe_str pa_nil))) (pe_cal c__law_draw hr (by first | decide | omega) rfl (pa_cons (pv 0) (pa_cons pe_int pa_nil))) (fun _ _ => rfl)) (pa_cons (pv 1) (pa_cons (pv 2) pa_nil)))))))))))))), ?_⟩
    have fin : ∀ (s : Stp) (H2 : Hp) (p : Addr), Stp.pln s → SameX d H H2 → DrawsAt H2 d cells → H2 p = none → Q (.ref p) (upd H2 p (.tup (parts s))) := fun s H2 p hs sx dr hp =>
      k p s _ hs upd_same (SameX.free sx dr hp) (SameX.new sx hp) (dr.same (Same.new hp))
    walk_at "w"
    refine go_range hd ?_
    intro l lo hi H2 hlo hl lf sx2 hd2
    have hlr : lawR lo hi := hlo
    obtain ⟨h1, h2, h3, h4⟩ := hlo
    walk_at "w"
    refine go_draw (by decide) (by decide) hd2 fun r H1 r0 r1 sx1 hd1 => ?_
    walk_at "w"
    refine w_d2 (fun e1 => ?_) (fun e1 => ?_)
    · walk_at "w"
      exact fin (.clamp lo hi) _ _ hlr (by walk_at "sx") (by walk_at "dr") ‹_›
    walk_at "w"
    refine w_d2 (fun e2 => ?_) (fun e2 => ?_)
    · walk_at "w"
      exact fin (.shift lo) _ _ ⟨h1, h2⟩ (by walk_at "sx") (by walk_at "dr") ‹_›
    walk_at "w"
    refine w_d2 (fun e3 => ?_) (fun e3 => ?_)
    · walk_at "w"
      rename_i p3 hp3
      have hne3 := hd1.ne hp3
      refine go_draw (by decide) (by decide) (hd1.same (Same.new hp3)) fun q3 H3 q30 q31 sx3 hd3 => ?_
      obtain ⟨v3, hv3, hm3⟩ := pick (xs := [V.int 2, .int 3, .int 5]) q30 q31
      refine w_ixL (lstAt (sx3 _ _ hne3 upd_same)) hv3 ?_
      obtain ⟨m, rfl, hm⟩ : ∃ m : Int, v3 = .int m ∧ (m = 2 ∨ m = 3 ∨ m = 5) := by
        simp only [List.mem_cons, List.not_mem_nil, or_false] at hm3
        rcases hm3 with rfl | rfl | rfl
        · exact ⟨2, rfl, by omega⟩
        · exact ⟨3, rfl, by omega⟩
        · exact ⟨5, rfl, by omega⟩
      walk_at "w"
      rename_i p4 hp4
      have hne4 := hd3.ne hp4
      refine go_draw (by decide) (by decide) (hd3.same (Same.new hp4)) fun q4 H4 q40 q41 sx4 hd4 => ?_
      obtain ⟨v4, hv4, hm4⟩ := pick (xs := [V.str "down", .str "up"]) q40 q41
      refine w_ixL (lstAt (sx4 _ _ hne4 upd_same)) hv4 ?_
      obtain ⟨u, rfl, hu⟩ : ∃ u : Way, v4 = .str (wv u) ∧ (u = .down ∨ u = .up) := by
        simp only [List.mem_cons, List.not_mem_nil, or_false] at hm4
        rcases hm4 with rfl | rfl
        · exact ⟨.down, rfl, .inl rfl⟩
        · exact ⟨.up, rfl, .inr rfl⟩
      walk_at "w"
      exact fin (.round m u) _ _ ⟨hm, hu⟩ (by walk_at "sx") (by walk_at "dr") ‹_›
    walk_at "w"
    refine w_d2 (fun e4 => ?_) (fun e4 => ?_)
    · walk_at "w"
      rename_i p3 hp3
      have hne3 := hd1.ne hp3
      refine go_draw (by decide) (by decide) (hd1.same (Same.new hp3)) fun q3 H3 q30 q31 sx3 hd3 => ?_
      obtain ⟨v3, hv3, hm3⟩ := pick (xs := [V.str "least", .str "most"]) q30 q31
      refine w_ixL (lstAt (sx3 _ _ hne3 upd_same)) hv3 ?_
      simp only [List.mem_cons, List.not_mem_nil, or_false] at hm3
      rcases hm3 with rfl | rfl
      · walk_at "w"
        exact fin (.least lo) _ _ ⟨h1, h2⟩ (by walk_at "sx") (by walk_at "dr") ‹_›
      · walk_at "w"
        exact fin (.most lo) _ _ ⟨h1, h2⟩ (by walk_at "sx") (by walk_at "dr") ‹_›
    walk_at "w"
    refine w_d2 (fun e5 => ?_) (fun e5 => ?_)
    · walk_at "w"
      exact fin (.replace (.int lo) (.int hi)) _ _ ⟨lo, hi, rfl, rfl, hlr⟩ (by walk_at "sx") (by walk_at "dr") ‹_›
    walk_at "w"
    refine w_d2 (fun e6 => ?_) (fun e6 => ?_)
    · walk_at "w"
      exact fin .turn _ _ trivial (by walk_at "sx") (by walk_at "dr") ‹_›
    walk_at "w"
    rename_i p3 hp3
    have hne3 := hd1.ne hp3
    refine go_draw (by decide) (by decide) (hd1.same (Same.new hp3)) fun q3 H3 q30 q31 sx3 hd3 => ?_
    obtain ⟨v3, hv3, hm3⟩ := pick (xs := [V.str "blank", .str "refuse"]) q30 q31
    refine w_ixL (lstAt (sx3 _ _ hne3 upd_same)) hv3 ?_
    simp only [List.mem_cons, List.not_mem_nil, or_false] at hm3
    rcases hm3 with rfl | rfl
    · walk_at "w"
      exact fin (.blank lo hi) _ _ hlr (by walk_at "sx") (by walk_at "dr") ‹_›
    · walk_at "w"
      exact fin (.refuse lo hi) _ _ hlr (by walk_at "sx") (by walk_at "dr") ‹_›
theorem ok_opp (T : Fx w K mg) : Cal P w K mg base 1 "_law_opposite" ["_law_told"] (spOpp K) := by
  refine cal_of T.f__law_opposite sc__law_opposite (fun vs H Q E h => ?_) (fun _ _ _ _ _ _ us hl => match us, hl with | [_], _ => rfl) (fun f cdv A outer s H vs Q E hr h => ?_)
  · obtain ⟨_, _, _, rfl, _⟩ := h; rfl
  · obtain ⟨t, xs, ys, rfl, ht, ho, k⟩ := h
    refine ⟨_, (pss_cons (ps_if (PW.pt (pw_and (pt_cmpR (op_eq) (pe_ix ix_tup (pv 0) pe_int (fun _ _ => rfl)) pe_str (nomark _)) (pw_and1 (pt_cmpR (op_notN) (pe_ix ix_tup (pv 0) pe_int (fun _ _ => rfl)) pe_non (nomark _))))) (pss_one (ps_ret (pe_tup (pa_cons pe_str (pa_cons (pe_op (op_sub) pe_int (pe_ix ix_tup (pv 0) pe_int (fun _ _ => rfl))) pa_nil))))) pss_nil) (pss_cons (ps_if (PW.pt (pw_and (pt_cmpR (op_eq) (pe_ix ix_tup (pv 0) pe_int (fun _ _ => rfl)) pe_str (nomark _)) (pw_and1 (pt_cmpR (op_notN) (pe_ix ix_tup (pv 0) pe_int (fun _ _ => rfl)) pe_non (nomark _))))) (pss_one (ps_ret (pe_tup (pa_cons pe_str (pa_cons (pe_op (op_sub) pe_int (pe_ix ix_tup (pv 0) pe_int (fun _ _ => rfl))) (pa_cons (pe_ix ix_tup (pv 0) pe_int (fun _ _ => rfl)) pa_nil)))))) pss_nil) (pss_one (ps_ret (pv 0))))), ?_⟩
    cases ho with
    | done v hv =>
      cases v with
      | int i =>
        have hq : SqT K H t [.str "done", .int i] := ht
        walk_at "w"
        refine w_dT rfl ?_
        walk_at "w"
        refine w_nT (by intro e; cases e) ?_
        walk_at "w"
        refine k _ _ (Same.new ‹_›) (tupAt ?_)
        rw [upd_same]
        show some (HO.tup [V.str "done", .int (0 - i)]) = some (.tup [V.str "done", .int (-i)])
        rw [Int.zero_sub]
      | non =>
        have hq : SqT K H t [.str "done", .non] := ht
        walk_at "w"
        refine w_dT rfl ?_
        walk_at "w"
        refine w_nF rfl ?_
        walk_at "w"
        refine w_dF (by intro e; injection e with e; revert e; decide +kernel) ?_
        walk_at "w"
        exact k _ _ (Same.refl _) ht
      | _ => exact hv.elim
    | rests v n hv =>
      cases v with
      | int i =>
        have hq : SqT K H t [.str "rests", .int i, .int n] := ht
        walk_at "w"
        refine w_dF (by intro e; injection e with e; revert e; decide +kernel) ?_
        walk_at "w"
        refine w_dT rfl ?_
        walk_at "w"
        refine w_nT (by intro e; cases e) ?_
        walk_at "w"
        refine k _ _ (Same.new ‹_›) (tupAt ?_)
        rw [upd_same]
        show some (HO.tup [V.str "rests", .int (0 - i), .int n]) = some (.tup [V.str "rests", .int (-i), .int n])
        rw [Int.zero_sub]
      | non =>
        have hq : SqT K H t [.str "rests", .non, .int n] := ht
        walk_at "w"
        refine w_dF (by intro e; injection e with e; revert e; decide +kernel) ?_
        walk_at "w"
        refine w_dT rfl ?_
        walk_at "w"
        refine w_nF rfl ?_
        walk_at "w"
        exact k _ _ (Same.refl _) ht
      | _ => exact hv.elim
    | other z l e1 e2 =>
      walk_at "w"
      refine w_dF (fun e => e1 (V.str.inj e)) ?_
      walk_at "w"
      refine w_dF (fun e => e2 (V.str.inj e)) ?_
      walk_at "w"
      exact k _ _ (Same.refl _) ht
theorem ok_turned (T : Fx w K mg) : Cal P w K mg base 1 "_law_turned" ["_law_step_here"] (spTurned K) := by
  refine cal_of T.f__law_turned sc__law_turned (fun vs H Q E h => ?_) (fun _ _ _ _ _ _ us hl => match us, hl with | [_], _ => rfl) (fun f cdv A outer s H vs Q E hr h => ?_)
  · obtain ⟨_, _, rfl, _⟩ := h; rfl
  · obtain ⟨t, st, rfl, ht, hp, k⟩ := h
    refine ⟨_, (pss_cons (ps_if (pt_cmpR (op_in_seq) (pe_ix ix_tup (pv 0) pe_int (fun _ _ => rfl)) (pe_tup (pa_cons pe_str (pa_cons pe_str (pa_cons pe_str pa_nil)))) (by rfl)) (pss_one (ps_ret (pe_tup (pa_cons (pe_ix ix_tup (pv 0) pe_int (fun _ _ => rfl)) (pa_cons (pe_op (op_sub) pe_int (pe_ix ix_tup (pv 0) pe_int (fun _ _ => rfl))) (pa_cons (pe_op (op_sub) pe_int (pe_ix ix_tup (pv 0) pe_int (fun _ _ => rfl))) pa_nil)))))) pss_nil) (pss_cons (ps_if (pt_cmpR (op_eq) (pe_ix ix_tup (pv 0) pe_int (fun _ _ => rfl)) pe_str (nomark _)) (pss_one (ps_ret (pe_tup (pa_cons pe_str (pa_cons (pe_op (op_sub) pe_int (pe_ix ix_tup (pv 0) pe_int (fun _ _ => rfl))) pa_nil))))) pss_nil) (pss_cons (ps_if (pt_cmpR (op_eq) (pe_ix ix_tup (pv 0) pe_int (fun _ _ => rfl)) pe_str (nomark _)) (pss_one (ps_ret (pe_tup (pa_cons pe_str (pa_cons (pe_ix ix_tup (pv 0) pe_int (fun _ _ => rfl)) (pa_cons (pe_ix ix_list (pe_lst (pa_cons pe_str (pa_cons pe_str pa_nil))) (pe_callTy call_intR (by rfl) T.b_int (show bootBuiltins "int" = some (.type "int") from by decide +kernel) (pa_cons (pe_cmpR (op_eq) (pe_ix ix_tup (pv 0) pe_int (fun _ _ => rfl)) pe_str (nomark _)) pa_nil)) (fun _ _ => rfl)) pa_nil)))))) pss_nil) (pss_cons (ps_if (pt_cmpR (op_in_seq) (pe_ix ix_tup (pv 0) pe_int (fun _ _ => rfl)) (pe_tup (pa_cons pe_str (pa_cons pe_str pa_nil))) (by rfl)) (pss_one (ps_ret (pe_tup (pa_cons (pe_ix ix_list (pe_lst (pa_cons pe_str (pa_cons pe_str pa_nil))) (pe_callTy call_intR (by rfl) T.b_int (show bootBuiltins "int" = some (.type "int") from by decide +kernel) (pa_cons (pe_cmpR (op_eq) (pe_ix ix_tup (pv 0) pe_int (fun _ _ => rfl)) pe_str (nomark _)) pa_nil)) (fun _ _ => rfl)) (pa_cons (pe_op (op_sub) pe_int (pe_ix ix_tup (pv 0) pe_int (fun _ _ => rfl))) pa_nil))))) pss_nil) (pss_cons (ps_if (pt_cmpR (op_eq) (pe_ix ix_tup (pv 0) pe_int (fun _ _ => rfl)) pe_str (nomark _)) (pss_one (ps_ret (pe_tup (pa_cons pe_str (pa_cons (pe_op (op_sub) pe_int (pe_ix ix_tup (pv 0) pe_int (fun _ _ => rfl))) (pa_cons (pe_op (op_sub) pe_int (pe_ix ix_tup (pv 0) pe_int (fun _ _ => rfl))) pa_nil)))))) pss_nil) (pss_one (ps_ret (pv 0)))))))), ?_⟩
    cases st with
    | clamp a b =>
      have hq : SqT K H t [.str "clamp", .int a, .int b] := ht
      walk_at "w"
      refine w_inTs (l := ["clamp", "blank", "refuse"]) (tupAt (by walk_at "at")) rfl ?_
      rw [show inW (.str "clamp") ["clamp", "blank", "refuse"] = true from by decide +kernel]
      refine ⟨_, rfl, ?_⟩
      refine w_bT rfl ?_
      walk_at "w"
      refine k _ _ (by walk_at "same") (tupAt (K := K) ?_)
      rw [upd_same]
      show some (HO.tup [.str "clamp", .int (0 - b), .int (0 - a)]) = some (.tup [.str "clamp", .int (-b), .int (-a)])
      rw [Int.zero_sub, Int.zero_sub]
    | blank a b =>
      have hq : SqT K H t [.str "blank", .int a, .int b] := ht
      walk_at "w"
      refine w_inTs (l := ["clamp", "blank", "refuse"]) (tupAt (by walk_at "at")) rfl ?_
      rw [show inW (.str "blank") ["clamp", "blank", "refuse"] = true from by decide +kernel]
      refine ⟨_, rfl, ?_⟩
      refine w_bT rfl ?_
      walk_at "w"
      refine k _ _ (by walk_at "same") (tupAt (K := K) ?_)
      rw [upd_same]
      show some (HO.tup [.str "blank", .int (0 - b), .int (0 - a)]) = some (.tup [.str "blank", .int (-b), .int (-a)])
      rw [Int.zero_sub, Int.zero_sub]
    | refuse a b =>
      have hq : SqT K H t [.str "refuse", .int a, .int b] := ht
      walk_at "w"
      refine w_inTs (l := ["clamp", "blank", "refuse"]) (tupAt (by walk_at "at")) rfl ?_
      rw [show inW (.str "refuse") ["clamp", "blank", "refuse"] = true from by decide +kernel]
      refine ⟨_, rfl, ?_⟩
      refine w_bT rfl ?_
      walk_at "w"
      refine k _ _ (by walk_at "same") (tupAt (K := K) ?_)
      rw [upd_same]
      show some (HO.tup [.str "refuse", .int (0 - b), .int (0 - a)]) = some (.tup [.str "refuse", .int (-b), .int (-a)])
      rw [Int.zero_sub, Int.zero_sub]
    | shift a =>
      have hq : SqT K H t [.str "shift", .int a] := ht
      walk_at "w"
      refine w_inTs (l := ["clamp", "blank", "refuse"]) (tupAt (by walk_at "at")) rfl ?_
      rw [show inW (.str "shift") ["clamp", "blank", "refuse"] = false from by decide +kernel]
      refine ⟨_, rfl, ?_⟩
      refine w_bF rfl ?_
      walk_at "w"
      refine w_dT rfl ?_
      walk_at "w"
      refine k _ _ (by walk_at "same") (tupAt (K := K) ?_)
      rw [upd_same]
      show some (HO.tup [.str "shift", .int (0 - a)]) = some (.tup [.str "shift", .int (-a)])
      rw [Int.zero_sub]
    | least a =>
      have hq : SqT K H t [.str "least", .int a] := ht
      walk_at "w"
      refine w_inTs (l := ["clamp", "blank", "refuse"]) (tupAt (by walk_at "at")) rfl ?_
      rw [show inW (.str "least") ["clamp", "blank", "refuse"] = false from by decide +kernel]
      refine ⟨_, rfl, ?_⟩
      refine w_bF rfl ?_
      walk_at "w"
      refine w_dF (by intro e; injection e with e; revert e; decide +kernel) ?_
      walk_at "w"
      refine w_dF (by intro e; injection e with e; revert e; decide +kernel) ?_
      walk_at "w"
      refine w_inTs (l := ["least", "most"]) (tupAt (by walk_at "at")) rfl ?_
      rw [show inW (.str "least") ["least", "most"] = true from by decide +kernel]
      refine ⟨_, rfl, ?_⟩
      refine w_bT rfl ?_
      walk_at "w"
      rw [show decide (V.str "least" = V.str "least") = true from decide_eq_true rfl]
      refine .inr ⟨_, rfl, ?_⟩
      refine w_ixL (v := .str "most") (lstAt upd_same) rfl ?_
      walk_at "w"
      refine k _ _ (by walk_at "same") (tupAt (K := K) ?_)
      rw [upd_same]
      show some (HO.tup [.str "most", .int (0 - a)]) = some (.tup [.str "most", .int (-a)])
      rw [Int.zero_sub]
    | most a =>
      have hq : SqT K H t [.str "most", .int a] := ht
      walk_at "w"
      refine w_inTs (l := ["clamp", "blank", "refuse"]) (tupAt (by walk_at "at")) rfl ?_
      rw [show inW (.str "most") ["clamp", "blank", "refuse"] = false from by decide +kernel]
      refine ⟨_, rfl, ?_⟩
      refine w_bF rfl ?_
      walk_at "w"
      refine w_dF (by intro e; injection e with e; revert e; decide +kernel) ?_
      walk_at "w"
      refine w_dF (by intro e; injection e with e; revert e; decide +kernel) ?_
      walk_at "w"
      refine w_inTs (l := ["least", "most"]) (tupAt (by walk_at "at")) rfl ?_
      rw [show inW (.str "most") ["least", "most"] = true from by decide +kernel]
      refine ⟨_, rfl, ?_⟩
      refine w_bT rfl ?_
      walk_at "w"
      rw [show decide (V.str "most" = V.str "least") = false from decide_eq_false (by intro e; injection e with e; revert e; decide +kernel)]
      refine .inr ⟨_, rfl, ?_⟩
      refine w_ixL (v := .str "least") (lstAt upd_same) rfl ?_
      walk_at "w"
      refine k _ _ (by walk_at "same") (tupAt (K := K) ?_)
      rw [upd_same]
      show some (HO.tup [.str "least", .int (0 - a)]) = some (.tup [.str "least", .int (-a)])
      rw [Int.zero_sub]
    | turn =>
      have hq : SqT K H t [.str "turn"] := ht
      walk_at "w"
      refine w_inTs (l := ["clamp", "blank", "refuse"]) (tupAt (by walk_at "at")) rfl ?_
      rw [show inW (.str "turn") ["clamp", "blank", "refuse"] = false from by decide +kernel]
      refine ⟨_, rfl, ?_⟩
      refine w_bF rfl ?_
      walk_at "w"
      refine w_dF (by intro e; injection e with e; revert e; decide +kernel) ?_
      walk_at "w"
      refine w_dF (by intro e; injection e with e; revert e; decide +kernel) ?_
      walk_at "w"
      refine w_inTs (l := ["least", "most"]) (tupAt (by walk_at "at")) rfl ?_
      rw [show inW (.str "turn") ["least", "most"] = false from by decide +kernel]
      refine ⟨_, rfl, ?_⟩
      refine w_bF rfl ?_
      walk_at "w"
      refine w_dF (by intro e; injection e with e; revert e; decide +kernel) ?_
      walk_at "w"
      exact k _ _ (by walk_at "same") (Same.tup (by walk_at "same") hq)
    | replace v u =>
      obtain ⟨a, b, rfl, rfl, _⟩ := hp
      have hq : SqT K H t [.str "replace", .int a, .int b] := ht
      walk_at "w"
      refine w_inTs (l := ["clamp", "blank", "refuse"]) (tupAt (by walk_at "at")) rfl ?_
      rw [show inW (.str "replace") ["clamp", "blank", "refuse"] = false from by decide +kernel]
      refine ⟨_, rfl, ?_⟩
      refine w_bF rfl ?_
      walk_at "w"
      refine w_dF (by intro e; injection e with e; revert e; decide +kernel) ?_
      walk_at "w"
      refine w_dF (by intro e; injection e with e; revert e; decide +kernel) ?_
      walk_at "w"
      refine w_inTs (l := ["least", "most"]) (tupAt (by walk_at "at")) rfl ?_
      rw [show inW (.str "replace") ["least", "most"] = false from by decide +kernel]
      refine ⟨_, rfl, ?_⟩
      refine w_bF rfl ?_
      walk_at "w"
      refine w_dT rfl ?_
      walk_at "w"
      refine k _ _ (by walk_at "same") (tupAt (K := K) ?_)
      rw [upd_same]
      show some (HO.tup [.str "replace", .int (0 - a), .int (0 - b)]) = some (.tup [.str "replace", .int (-a), .int (-b)])
      rw [Int.zero_sub, Int.zero_sub]
    | round m u =>
      obtain ⟨_, hu⟩ := hp
      have hq : SqT K H t [.str "round", .int m, .str (wv u)] := ht
      walk_at "w"
      refine w_inTs (l := ["clamp", "blank", "refuse"]) (tupAt (by walk_at "at")) rfl ?_
      rw [show inW (.str "round") ["clamp", "blank", "refuse"] = false from by decide +kernel]
      refine ⟨_, rfl, ?_⟩
      refine w_bF rfl ?_
      walk_at "w"
      refine w_dF (by intro e; injection e with e; revert e; decide +kernel) ?_
      walk_at "w"
      refine w_dT rfl ?_
      walk_at "w"
      rcases hu with rfl | rfl
      · show rInt1 [V.bl (decide (V.str "down" = V.str "down"))] _ _
        rw [show decide (V.str "down" = V.str "down") = true from decide_eq_true rfl]
        refine .inr ⟨_, rfl, ?_⟩
        refine w_ixL (v := .str "up") (lstAt upd_same) rfl ?_
        walk_at "w"
        refine k _ _ (by walk_at "same") (tupAt (K := K) ?_)
        rw [upd_same]
        show some (HO.tup [.str "round", .int m, .str "up"]) = some (.tup [.str "round", .int m, .str "up"])
        rfl
      · show rInt1 [V.bl (decide (V.str "up" = V.str "down"))] _ _
        rw [show decide (V.str "up" = V.str "down") = false from decide_eq_false (by intro e; injection e with e; revert e; decide +kernel)]
        refine .inr ⟨_, rfl, ?_⟩
        refine w_ixL (v := .str "down") (lstAt upd_same) rfl ?_
        walk_at "w"
        refine k _ _ (by walk_at "same") (tupAt (K := K) ?_)
        rw [upd_same]
        show some (HO.tup [.str "round", .int m, .str "down"]) = some (.tup [.str "round", .int m, .str "down"])
        rfl
    | _ => exact hp.elim
end
end TB

set_option maxHeartbeats 4000000
namespace TB
open PySem PySem.Spec PyProof.Rows L2 TW LamX NdefX
local macro_rules | `(tactic| walk_at "same") => `(tactic| first
  | exact Same.refl _
  | assumption
  | ((with_reducible refine' Same.trans ?sa (Same.new ?sb)); (case sb => assumption); (case sa => walk_at "same"))
  | ((with_reducible refine' Same.trans ?sa ?sb); (case sb => assumption); (case sa => walk_at "same"))
  | fail)
local macro_rules | `(tactic| walk_at "at") => `(tactic| first
  | assumption
  | exact upd_same
  | ((with_reducible refine' Same.get (Same.new ?sb) ?sa); (case sb => assumption); (case sa => walk_at "at"))
  | ((with_reducible refine' Same.get ?sb ?sa); (case sb => assumption); (case sa => walk_at "at"))
  | ((with_reducible refine' SameX.get ?sb ?sn ?sa); (case sb => assumption); (case sn => assumption); (case sa => walk_at "at"))
  | fail)
local macro_rules | `(tactic| walk_at "sq") => `(tactic| first
  | assumption
  | ((with_reducible refine' tupAt ?sa); (case sa => walk_at "at"))
  | ((with_reducible refine' lstAt ?sa); (case sa => walk_at "at"))
  | ((with_reducible refine' Same.tup (Same.new ?sb) ?sa); (case sb => assumption); (case sa => walk_at "sq"))
  | ((with_reducible refine' Same.lst (Same.new ?sb) ?sa); (case sb => assumption); (case sa => walk_at "sq"))
  | ((with_reducible refine' Same.tup ?sb ?sa); (case sb => assumption); (case sa => walk_at "sq"))
  | ((with_reducible refine' Same.lst ?sb ?sa); (case sb => assumption); (case sa => walk_at "sq"))
  | fail)
local macro_rules | `(tactic| walk_at "ix") => `(tactic| first
  | with_reducible exact atI_0
  | with_reducible exact atI_1
  | with_reducible exact atI_2
  | with_reducible exact atI_3
  | assumption
  | exact rfl)
local macro_rules | `(tactic| walk_at "dr") => `(tactic| first
  | assumption
  | ((with_reducible refine' DrawsAt.same ?sa (Same.new ?sb)); (case sb => assumption); (case sa => walk_at "dr"))
  | ((with_reducible refine' DrawsAt.same ?sa ?sb); (case sb => assumption); (case sa => walk_at "dr"))
  | fail)
local macro_rules | `(tactic| walk_at "sx") => `(tactic| first
  | exact SameX.refl _ _
  | assumption
  | ((with_reducible refine' SameX.new ?sa ?sb); (case sb => assumption); (case sa => walk_at "sx"))
  | ((with_reducible refine' SameX.trans ?sa ?sb); (case sb => assumption); (case sa => walk_at "sx"))
  | ((with_reducible refine' SameX.trans ?sa (SameX.of ?sb)); (case sb => assumption); (case sa => walk_at "sx"))
  | fail)
local macro_rules | `(tactic| walk_at "x1") => `(tactic| fail)
local macro_rules | `(tactic| walk_at "w1") => `(tactic| first
  | ((with_reducible refine' w_var ?hv ?_); (case hv => exact rfl))
  | with_reducible refine' w_c ?_
  | with_reducible refine' w_op ?_
  | with_reducible refine' w_seq ?_
  | with_reducible refine' w_asg ?_
  | with_reducible refine' w_gname ?_
  | with_reducible refine' w_ret ?_
  | with_reducible refine' w_retN ?_
  | with_reducible refine' w_drop ?_
  | with_reducible refine' w_next ?_
  | with_reducible refine' w_nil ?_
  | with_reducible refine' w_cons ?_
  | with_reducible refine' w_cb ?_
  | with_reducible refine' w_call ?_
  | with_reducible refine' w_callS ?_
  | with_reducible refine' w_un ?_
  | with_reducible refine' w_I0 ?_
  | with_reducible refine' w_U ?_
  | ((with_reducible refine' w_eq ?hv ?_); (case hv => exact rfl))
  | ((with_reducible refine' w_ne ?hv ?_); (case hv => exact rfl))
  | with_reducible refine' w_test ?_
  | with_reducible refine' w_tB ?_
  | with_reducible refine' w_bl ?_
  | with_reducible refine' w_blA ?_
  | with_reducible refine' w_and ?_
  | with_reducible refine' w_or ?_
  | with_reducible refine' w_not ?_
  | with_reducible refine' w_andV ?_
  | with_reducible refine' w_orV ?_
  | with_reducible refine' w_notV ?_
  | with_reducible refine' w_if ?_
  | with_reducible refine' w_ifS ?_
  | with_reducible refine' w_T ?_
  | with_reducible refine' w_F ?_
  | with_reducible refine' w_NT ?_
  | with_reducible refine' w_NF ?_
  | with_reducible refine' w_tup ?_
  | with_reducible refine' w_lst ?_
  | with_reducible refine' w_chain ?_
  | with_reducible refine' w_rfl ?_
  | ((with_reducible refine' w_szn ?hl ?_); (case hl => simp only [List.length_cons, List.length_nil]; decide); intro _ _)
  | ((with_reducible refine' w_isiF ?hv ?hw ?_); (case hv => first | assumption | rfl); (case hw => decide))
  | with_reducible refine' w_slice ?_
  | with_reducible refine' w_nopart ?_
  | with_reducible refine' w_part ?_
  | with_reducible refine' w_partI ?_
  | with_reducible refine' w_lc ?_
  | with_reducible refine' w_for ?_
  | with_reducible refine' w_iZip ?_
  | with_reducible refine' w_iEnum ?_
  | with_reducible refine' w_iList ?_
  | with_reducible refine' w_iTup ?_
  | with_reducible refine' w_iR1 ?_
  | with_reducible refine' w_iR2 ?_
  | with_reducible refine' w_gcons ?_
  | ((with_reducible refine' w_gunl ?hv ?hw ?_); (case hv => walk_at "sq"); (case hw => exact rfl))
  | with_reducible refine' w_gnil ?_
  | ((with_reducible refine' w_gtupH ?hv ?hw ?_); (case hv => walk_at "at"); (case hw => exact rfl))
  | ((with_reducible refine' w_wipe (σ := wipe _ _) ?hv ?_); (case hv => exact rfl))
  | with_reducible refine' w_yes ?_
  | with_reducible refine' w_tru ?_
  | with_reducible refine' w_rs ?_
  | with_reducible refine' w_mkO ?_
  | ((with_reducible refine' w_exc1 ?_); intro _ _)
  | with_reducible refine' w_make ?_
  | with_reducible refine' w_makeS ?_
  | with_reducible refine' w_fldG ?_
  | with_reducible refine' w_setF ?_
  | ((with_reducible refine' w_ixT ?hv ?hw ?_); (case hv => walk_at "sq"); (case hw => walk_at "ix"))
  | ((with_reducible refine' w_ixL ?hv ?hw ?_); (case hv => walk_at "sq"); (case hw => walk_at "ix"))
  | ((with_reducible refine' w_lenT ?hv ?_); (case hv => walk_at "sq"))
  | ((with_reducible refine' w_lenL ?hv ?_); (case hv => walk_at "sq"))
  | ((with_reducible refine' w_I ?hc ?_); (case hc => first | (exact cmul_r (by omega) (by omega)) | (exact cmul_l (by omega) (by omega)) | (show (0 : Int) < _; first | assumption | omega) | (exact ⟨by first | assumption | omega, by first | assumption | omega⟩) | (exact ⟨by omega, by omega, by omega⟩)))
  | with_reducible refine' w_int1 ?_
  | with_reducible refine' w_bm ?_
  | with_reducible refine' w_tryA ?_
  | with_reducible refine' w_tryO ?_
  | with_reducible refine' w_insS ?_
  | with_reducible refine' w_xfG ?_
  | ((with_reducible refine' w_cat ?ha ?hb ?hl ?_); (case ha => walk_at "at"); (case hb => walk_at "at"); (case hl => simp only [List.length_cons, List.length_nil, List.length_append]; decide); intro _ _)
  | with_reducible refine' w_gsub ?_
  | ((with_reducible refine' w_setL ?hv ?hw ?_); (case hv => walk_at "at"); (case hw => exact rfl))
  | walk_at "x1"
  | fail)
local macro_rules | `(tactic| walk_at "w") => `(tactic| repeat' walk_at "w1")
local macro_rules | `(tactic| walk_at "a1") => `(tactic| first
  | with_reducible refine' w_tupR ?_
  | with_reducible refine' w_lstR ?_
  | ((with_reducible refine' w_tupA ?hl ?_); (case hl => simp only [List.length_cons, List.length_nil]; decide); intro _ _ _ _ _)
  | ((with_reducible refine' w_lstA ?hl ?_); (case hl => simp only [List.length_cons, List.length_nil]; decide); intro _ _ _ _ _)
  | ((with_reducible refine' w_catA ?ha ?hb ?hl ?_); (case ha => walk_at "at"); (case hb => walk_at "at"); (case hl => simp only [List.length_cons, List.length_nil, List.length_append]; decide); intro _ _ _ _ _)
  | walk_at "w1"
  | fail)
local macro_rules | `(tactic| walk_at "wa") => `(tactic| repeat' walk_at "a1")

theorem sc_law : FnScope ["_law_script", "_law_draws", "_law_k", "_law_steps_here", "_law_second", "_law_one", "_law_two", "_law_value_here", "_law_step_here"] ["_law_script"] (defScope s_law) := ⟨rfl, rfl, rfl, by decide +kernel, rfl, by decide +kernel, by decide +kernel⟩
section
variable {P : Program} {w : World} {K : PySem.W.Frag} {mg : Str → Option Value} {base : Heap}
theorem ok_law (T : Fx w K mg) (c__law_begin : Cal P w K mg base 1 "_law_begin" ["_law_script"] (spBegin K)) (c__law_draw : Cal P w K mg base 1 "_law_draw" ["_law_draws", "_law_many"] spDraw) (c__law_plain : Cal P w K mg base 3 "_law_plain" ["_law_draws"] spPlain) (c__law_turned : Cal P w K mg base 1 "_law_turned" ["_law_step_here"] (spTurned K)) (c__law_opposite : Cal P w K mg base 1 "_law_opposite" ["_law_told"] (spOpp K))
    (c_Chain : Mak P w K mg base 5 "Chain" ["self", "steps"] (spChain K)) (c_run : Cal P w K mg base 5 "run" ["chain", "value"] (spRun K)) (c_fate : Cal P w K mg base 6 "fate" ["chain", "value"] (spFate P w K)) (c_alike : Cal P w K mg base 8 "alike" ["one", "two"] (spYes2 K (cloT K) alikeB)) :
    ∀ fd, FunD K "law" "law" (defArgs s_law) (defBody s_law) (defScope s_law) [] [] (He.ga K "law") fd → FnOk P w K mg base (L2.CX P w) 12 (He.ga K "law") fd ["_law_script"] (spLawT K (cloT K)) := by
  refine fn_fd sc_law (fun vs H Q E h => ?_) (fun f cdv A outer s H vs Q E hr h => ?_)
  · obtain ⟨a, ns, rfl, _⟩ := h; rfl
  · obtain ⟨l0, ns, rfl, h0, tb, k⟩ := h
    refine ⟨_, (pss_cons (ps_set (i := 1) sc_law.nd rfl (Or.inr rfl) (pe_cal c__law_begin hr (by first | decide | omega) rfl (pa_cons (pv 0) pa_nil))) (pss_cons (ps_setLc (i := 3) (own := [("_law_k", 2)]) (g := gName 2) (tt := tYes) (by rfl) sc_law.nd rfl rfl (sw_true rfl rfl rfl (by decide +kernel)) (pi_range1 rfl T.b_range (pa_cons (pe_op (op_add) pe_int (pe_cal c__law_draw hr (by first | decide | omega) rfl (pa_cons (pv 1) (pa_cons pe_int pa_nil)))) pa_nil)) (blkOk_by (own := [("_law_k", 2)]) (N := ["_law_script", "_law_draws", "_law_k", "_law_steps_here", "_law_second", "_law_one", "_law_two", "_law_value_here", "_law_step_here"]) (sc := defScope s_law) (by decide +kernel)) (fun _ _ _ _ _ => pg_name (i := 2) sc_law.nd rfl (Or.inl rfl)) (fun _ _ _ _ _ => pts_nil) (fun _ _ _ _ _ => (pe_cal c__law_plain hr (by first | decide | omega) rfl (pa_cons (pv 1) pa_nil)))) (pss_cons (ps_setLc (i := 4) (own := [("_law_k", 2)]) (g := gName 2) (tt := tYes) (by rfl) sc_law.nd rfl rfl (sw_true rfl rfl rfl (by decide +kernel)) (pi_range1 rfl T.b_range (pa_cons (pe_op (op_add) pe_int (pe_cal c__law_draw hr (by first | decide | omega) rfl (pa_cons (pv 1) (pa_cons pe_int pa_nil)))) pa_nil)) (blkOk_by (own := [("_law_k", 2)]) (N := ["_law_script", "_law_draws", "_law_k", "_law_steps_here", "_law_second", "_law_one", "_law_two", "_law_value_here", "_law_step_here"]) (sc := defScope s_law) (by decide +kernel)) (fun _ _ _ _ _ => pg_name (i := 2) sc_law.nd rfl (Or.inl rfl)) (fun _ _ _ _ _ => pts_nil) (fun _ _ _ _ _ => (pe_cal c__law_plain hr (by first | decide | omega) rfl (pa_cons (pv 1) pa_nil)))) (pss_cons (ps_set (i := 5) sc_law.nd rfl (Or.inl rfl) (pe_mak c_Chain hr (by first | decide | omega) rfl (pa_cons (pv 3) pa_nil))) (pss_cons (ps_set (i := 6) sc_law.nd rfl (Or.inl rfl) (pe_mak c_Chain hr (by first | decide | omega) rfl (pa_cons (pe_lc (own := [("_law_step_here", 8)]) (g := gName 8) (tt := tYes) (by rfl) sc_law.nd (pi_list (pv 3)) (blkOk_by (own := [("_law_step_here", 8)]) (N := ["_law_script", "_law_draws", "_law_k", "_law_steps_here", "_law_second", "_law_one", "_law_two", "_law_value_here", "_law_step_here"]) (sc := defScope s_law) (by decide +kernel)) (fun _ _ _ _ _ => pg_name (i := 8) sc_law.nd rfl (Or.inl rfl)) (fun _ _ _ _ _ => pts_nil) (fun _ _ _ _ _ => (pe_cal c__law_turned hr (by first | decide | omega) rfl (pa_cons (pv 8) pa_nil)))) pa_nil))) (pss_cons (ps_for (passes_of rfl) rfl (pi_range1 rfl T.b_range (pa_cons pe_int pa_nil)) (pg_name (i := 2) sc_law.nd rfl (Or.inl rfl)) (pss_cons (ps_set (i := 7) sc_law.nd rfl (Or.inl rfl) (pe_op (op_sub) (pe_cal c__law_draw hr (by first | decide | omega) rfl (pa_cons (pv 1) (pa_cons pe_int pa_nil))) pe_int)) (pss_cons (ps_if (pt_cmpR (op_gt) (pv 2) pe_int (nomark _)) (pss_one (ps_set (i := 7) sc_law.nd rfl (Or.inl rfl) (pe_op (op_add) (pe_op (op_mul) (pv 7) (pe_op (op_pow) pe_int pe_int)) (pv 2)))) pss_nil) (pss_cons (ps_if (pt_cmpR (op_neD hr.units) (pe_cal c_run hr (by first | decide | omega) rfl (pa_cons (pv 6) (pa_cons (pe_op (op_sub) pe_int (pv 7)) pa_nil))) (pe_cal c__law_opposite hr (by first | decide | omega) rfl (pa_cons (pe_cal c_run hr (by first | decide | omega) rfl (pa_cons (pv 5) (pa_cons (pv 7) pa_nil))) pa_nil)) (nomark _)) (pss_one (ps_ret pe_bl)) pss_nil) (pss_one (ps_if (pt_cmpR (op_neD hr.units) (pe_cal c_fate hr (by first | decide | omega) rfl (pa_cons (pv 6) (pa_cons (pe_op (op_sub) pe_int (pv 7)) pa_nil))) (pe_cal c__law_opposite hr (by first | decide | omega) rfl (pa_cons (pe_cal c_fate hr (by first | decide | omega) rfl (pa_cons (pv 5) (pa_cons (pv 7) pa_nil))) pa_nil)) (nomark _)) (pss_one (ps_ret pe_bl)) pss_nil)))))) (pss_one (ps_ret (pe_cmpR (op_eq) (pe_cal c_alike hr (by first | decide | omega) rfl (pa_cons (pv 5) (pa_cons (pe_mak c_Chain hr (by first | decide | omega) rfl (pa_cons (pv 4) pa_nil)) pa_nil))) (pe_cal c_alike hr (by first | decide | omega) rfl (pa_cons (pv 6) (pa_cons (pe_mak c_Chain hr (by first | decide | omega) rfl (pa_cons (pe_lc (own := [("_law_step_here", 8)]) (g := gName 8) (tt := tYes) (by rfl) sc_law.nd (pi_list (pv 4)) (blkOk_by (own := [("_law_step_here", 8)]) (N := ["_law_script", "_law_draws", "_law_k", "_law_steps_here", "_law_second", "_law_one", "_law_two", "_law_value_here", "_law_step_here"]) (sc := defScope s_law) (by decide +kernel)) (fun _ _ _ _ _ => pg_name (i := 8) sc_law.nd rfl (Or.inl rfl)) (fun _ _ _ _ _ => pts_nil) (fun _ _ _ _ _ => (pe_cal c__law_turned hr (by first | decide | omega) rfl (pa_cons (pv 8) pa_nil)))) pa_nil)) pa_nil))) (nomark _)))))))))), ?_⟩
    walk_at "w"
    refine go_begin h0 ?_
    intro d c0 H1 hd0 s1 dr1
    have tb1 := NdefX.TabsN.ext tb s1
    walk_at "w"
    refine go_draw (by decide) (by decide) dr1 fun ra H2 ra0 ra1 sx2 dr2 => ?_
    have tb2 := TabsN.nl tb1 (NL.x sx2 dr1)
    walk_at "w"
    refine w_iR1G (by omega) (by omega) ?_
    intro Do hDo
    refine lc_it (walk_range (lo := 0) (n := (1 + ra).toNat)) (Qd := fun H => _) (fun i H' => LstPln H2 d (c0, ns) Do i H') (.new dr2 hDo) (fun _ _ _ _ => trivial) (fun i x H4 H5 hi p y => ?_) (fun H4 p => ?_)
    · obtain ⟨rfl, rfl⟩ := y
      have hd2 := p.dr
      walk_at "w"
      refine go_plain hd2 fun t s5 H6 hs ht _ sx6 hd6 => ?_
      exact p.add dr2 hDo hs ht sx6 hd6 (by omega)
    · obtain ⟨ss, hlen, hpl, ls4⟩ := p.lst (K := K) dr2 hDo
      have dr4 := p.dr
      have tb4 := TabsN.nl tb2 (NL.x p.sx dr2)
      walk_at "w"
      refine go_draw (by decide) (by decide) dr4 fun rb H5 rb0 rb1 sx5 dr5 => ?_
      have ls5 := ls4.sameX sx5 dr4
      have tb5 := TabsN.nl tb4 (NL.x sx5 dr4)
      walk_at "w"
      refine w_iR1G (by omega) (by omega) ?_
      intro Dp hDp
      refine lc_it (walk_range (lo := 0) (n := (1 + rb).toNat)) (Qd := fun H => _) (fun i H' => LstPln H5 d (c0, ns) Dp i H') (.new dr5 hDp) (fun _ _ _ _ => trivial) (fun i x H6 H7 hi p y => ?_) (fun H6 p => ?_)
      · obtain ⟨rfl, rfl⟩ := y
        have hd2 := p.dr
        walk_at "w"
        refine go_plain hd2 fun t s5 H8 hs ht _ sx6 hd6 => ?_
        exact p.add dr5 hDp hs ht sx6 hd6 (by omega)
      · obtain ⟨ts, hlen2, hpl2, lt6⟩ := p.lst (K := K) dr5 hDp
        have ls6 := ls5.sameX p.sx dr5
        have dr6 := p.dr
        have tb6 := TabsN.nl tb5 (NL.x p.sx dr5)
        have ok1 := plns_ok hpl
        have ok2 := plns_ok hpl2
        have ok3 := negs_ok hpl
        have ok4 := negs_ok hpl2
        obtain ⟨nD, items, hi6, hp6⟩ := id ls6
        walk_at "w"
        refine go_ChainS (.inl (lstAt hi6)) hp6 ok1 (by omega) (fun _ c1 H7 hc1 s7 ch7 => ?_) (fun h => absurd h (by omega))
        have ls7 := ls6.same s7
        have lt7 := lt6.same s7
        have dr7 := dr6.same s7
        have tb7 := NdefX.TabsN.ext tb6 s7
        have hi7 := s7 _ _ hi6
        have hp7 := StepsP.same hp6 s7
        have hnl : (negC ss).length = ss.length := List.length_map _
        have hnl2 : (negC ts).length = ts.length := List.length_map _
        have hil := hp7.length
        walk_at "w"
        refine w_iLG (lstAt hi7) ?_
        refine w_lcP (walk_list (xs := items)) (fun D' i H' => TurnL K H7 H' D' ((negC ss).take i)) (fun D' hD' => ⟨Same.new hD', [], upd_same, .nil⟩) (fun D' i H' _ p => lstAt (p.1 _ _ hi7)) (fun D' i x H8 H9 hD' hi' p hy => ?_) (fun D' H8 hD' p => ?_)
        · obtain ⟨rfl, hv⟩ := hy
          obtain ⟨s, hs, t, rfl, hts⟩ := Paired.at_ hp7 hv
          walk_at "w"
          refine ⟨t, s, rfl, Same.tup p.1 hts, hpl s (List.mem_of_getElem? hs), fun q H10 s10 hq => ?_⟩
          exact p.add hD' (by unfold negC; rw [List.getElem?_map, hs]; rfl) (by omega) s10 hq
        · obtain ⟨s8, it8, hi8, hp8⟩ := p
          rw [show items.length = (negC ss).length by omega, List.take_length] at hp8
          walk_at "w"
          refine go_ChainS (.inl (lstAt hi8)) hp8 ok3 (by omega) (fun _ c2 H9 hc2 s9 ch9 => ?_) (fun h => absurd h (by omega))
          have s79 := Same.trans s8 s9
          have ch1 := ch7.same s79
          have lt9 := lt7.same s79
          have dr9 := dr7.same s79
          have tb9 := NdefX.TabsN.ext tb7 s79
          walk_at "w"
          refine w_iR1G (by omega) (by omega) ?_
          refine w_forW (walk_range (lo := 0) (n := (8 : Int).toNat)) (fun i σ H' => (∃ o2 o7 o8, σ = [some (.ref l0), some (.ref d), o2, some (.ref Do), some (.ref Dp), some (.ref c1), some (.ref c2), o7, o8]) ∧ LSt K H' d Dp ts ∧ ChainS K H' c1 ss ∧ ChainS K H' c2 (negC ss) ∧ TabsN (cloT K) H' ∧ DrawsAt H' d (c0, ns))
            ⟨⟨_, _, _, rfl⟩, lt9, ch1, ch9, tb9, dr9⟩ (fun _ _ _ _ _ => trivial) (fun i v σ HA HB hi' p hy => ?_) (fun σ HA p => ?_)
          · obtain ⟨⟨o2, o7, o8, rfl⟩, ltA, chA, cgA, tbA, drA⟩ := p
            obtain ⟨rfl, rfl⟩ := hy
            walk_at "w"
            refine go_draw (by decide) (by decide) drA fun rv HC rv0 rv1 sxC drC => ?_
            have ltC := ltA.sameX sxC drA
            have chC := chA.sameX sxC drA
            have cgC := cgA.sameX sxC drA
            have tbC := TabsN.nl tbA (NL.x sxC drA)
            walk_at "w"
            refine' w_join _ (fun σ H' => H' = HC ∧ ∃ x : Int, σ = [some (.ref l0), some (.ref d), some (.int (0 + (i : Int))), some (.ref Do), some (.ref Dp), some (.ref c1), some (.ref c2), some (.int x), o8]) ?main ?cont
            case main =>
              intro cont
              refine w_d2 (fun e1 => ?_) (fun e1 => ?_)
              · refine w_asg ?_
                refine w_op ?_
                refine w_op ?_
                refine w_var rfl ?_
                refine w_op ?_
                refine w_c ?_
                refine w_c ?_
                refine w_I ⟨by decide, by decide, by decide⟩ ?_
                refine w_I (C := CMul) (.inl ⟨by omega, by omega⟩) ?_
                refine w_var rfl ?_
                refine w_I0 ?_
                refine w_gname ?_
                exact cont _ _ ⟨rfl, _, rfl⟩
              · refine w_next ?_
                exact cont _ _ ⟨rfl, _, rfl⟩
            case cont =>
              rintro σ HD ⟨rfl, x, rfl⟩
              have ex : Val.int (0 - x) = (Val.int x).neg := by show _ = Val.int (-x); rw [Int.zero_sub]
              walk_at "w"
              refine go_run (x := .int (0 - x)) cgC ok3 (by omega) fun p1 HE s1' f1 q1 => ?_
              walk_at "w"
              refine go_run (x := .int x) (chC.same s1') ok1 (by omega) fun p2 HF s2' f2 q2 => ?_
              walk_at "w"
              refine ⟨p2, _, _, rfl, tupAt q2, opp_out hpl (x := .int x) trivial, fun p3 HG s3' q3 => ?_⟩
              rw [ex] at q1
              refine w_neT (tupAt ((Same.trans s2' s3') _ _ q1)) q3 (outT_flat _ _) (outT_shaped _ _) ?_
              refine ⟨_, rfl, ?_⟩
              refine w_bF rfl ?_
              have sG := Same.trans s1' (Same.trans s2' s3')
              have chG := chC.same sG
              have cgG := cgC.same sG
              obtain ⟨kf, hkf, ft, hft, hft2⟩ := fates_neg hpl (by omega) (.int x)
              walk_at "w"
              refine ⟨c2, .int (0 - x), negC ss, kf, negF ft, rfl, cgG, ok3, by omega, by omega, by rw [ex]; exact hft2, fun p4 HI s4' f4 q4 => ?_⟩
              walk_at "w"
              refine ⟨c1, .int x, ss, kf, ft, rfl, chG.same s4', ok1, by omega, by omega, hft, fun p5 HJ s5' f5 q5 => ?_⟩
              walk_at "w"
              refine ⟨p5, _, _, rfl, tupAt q5, opp_fate (fun v n e => nw_fate hpl kf (st := st0 (.int x)) trivial (e ▸ hft)), fun p6 HK s6' q6 => ?_⟩
              refine w_neT (tupAt ((Same.trans s5' s6') _ _ q4)) q6 (fateT_flat _) (fateT_shaped _) ?_
              refine ⟨_, rfl, ?_⟩
              refine w_bF rfl ?_
              have sK := Same.trans sG (Same.trans s4' (Same.trans s5' s6'))
              walk_at "w"
              exact ⟨⟨_, _, _, rfl⟩, ltC.same sK, chC.same sK, cgC.same sK, NdefX.TabsN.ext tbC sK, drC.same sK⟩
          · obtain ⟨⟨o2, o7, o8, rfl⟩, ltA, chA, cgA, tbA, drA⟩ := p
            obtain ⟨nDp, itemsT, eT, hpT⟩ := id ltA
            walk_at "w"
            refine go_ChainS (.inl (lstAt eT)) hpT ok2 (by omega) (fun _ c3 HB hc3 sB ch3 => ?_) (fun h => absurd h (by omega))
            walk_at "w"
            refine go_yes2 (chA.same sB) ch3 ok1 ok2 (by omega) (by omega) (NdefX.TabsN.ext tbA sB) fun HC eC tbC => ?_
            have eBC := (LamX.ExtN.of sB).trans eC
            have eTC := eBC _ _ eT (fun ps z => by cases z)
            have hpC := StepsP.ext hpT eBC
            have cgC := cgA.ext eBC
            have hil2 := hpC.length
            walk_at "w"
            refine w_iLG (lstAt eTC) ?_
            refine w_lcP (walk_list (xs := itemsT)) (fun D' i H' => TurnL K HC H' D' ((negC ts).take i)) (fun D' hD' => ⟨Same.new hD', [], upd_same, .nil⟩) (fun D' i H' _ p => lstAt (p.1 _ _ eTC)) (fun D' i x H8 H9 hD' hi' p hy => ?_) (fun D' H8 hD' p => ?_)
            · obtain ⟨rfl, hv⟩ := hy
              obtain ⟨s, hs, t, rfl, hts⟩ := Paired.at_ hpC hv
              walk_at "w"
              refine ⟨t, s, rfl, Same.tup p.1 hts, hpl2 s (List.mem_of_getElem? hs), fun q H10 s10 hq => ?_⟩
              exact p.add hD' (by unfold negC; rw [List.getElem?_map, hs]; rfl) (by omega) s10 hq
            · obtain ⟨s8, it8, hi8, hp8⟩ := p
              rw [show itemsT.length = (negC ts).length by omega, List.take_length] at hp8
              walk_at "w"
              refine go_ChainS (.inl (lstAt hi8)) hp8 ok4 (by omega) (fun _ c4 H9 hc4 s9 ch4 => ?_) (fun h => absurd h (by omega))
              have s89 := Same.trans s8 s9
              walk_at "w"
              refine go_yes2 (cgC.same s89) ch4 ok3 ok4 (by omega) (by omega) (NdefX.TabsN.ext tbC s89) fun HE eE tbE => ?_
              walk_at "w"
              rw [alike_neg hpl hpl2, decide_eq_true rfl]
              exact k _
end
end TB

set_option maxHeartbeats 0
namespace TB
open PySem PySem.Spec PyProof.Rows L2 TW LamX NdefX
section
variable {P : Program} {w : World} {K : PySem.W.Frag} {mg : Str → Option Value} {base : Heap}
theorem law_cal (T : Fx w K mg) (tb : ∀ x, (x, none) ∈ cloFns → TabB base mg (He.codeOf K (x, none)) (tabA K x)) : ∀ fd, FunD K "law" "law" (defArgs s_law) (defBody s_law) (defScope s_law) [] [] (He.ga K "law") fd → FnOk P w K mg base (L2.CX P w) 12 (He.ga K "law") fd ["_law_script"] (spLawT K (cloT K)) := by
  have k1 := ok_is_number (P := P) (base := base) T
  have k2 := ok_is_small T k1
  have k3 := ok_is_part T k1 k2
  have k4 := ok_is_step T k3
  have k5 := ok_Chain T k4 (ok_BadStep T)
  have d1 := ok_draw (P := P) (base := base) T
  have d3 := ok_range T d1
  have d4 := ok_plain T d1 d3
  have r1 := ok_stepped T k1 (ok_kind_of T k1) (ok_is_same T) (ok_of_number T (ok_rounded T))
  have r2 := ok_followed T r1
  have r3 := ok_result T r1
  have c1 := ok_check_value T (ok_is_value T (ok_is_number2 (P := P) (base := base) T))
  have pe := ok_period (P := P) (base := base) T (ok_gcd T)
  have re := ok_reach (P := P) (base := base) T
  have v1 := ok_valuesFor (P := P) (base := base) T re pe (ok_numsTo T)
  have f1 := ok_first T v1
  have w1 := ok_Walk (P := P) (base := base) T re pe
  have w2 := ok_end T (ok_is_far T k1) (ok_look_far T (ok_mark T)) r3
  exact ok_law T (ok_begin T) d1 d4 (ok_turned T) (ok_opp T) k5 (ok_run T c1 r2) (ok_fate T c1 w1 w2) (ok_alike T (ok_parting T (tb _ (by simp [cloFns])) f1 r3))
end
theorem no_out {P : Program} {w : World} (H : Hp) (s : Shared) (e : Value) (s' : Shared) (h : L2.CX P w [] H s (fun _ _ _ => False) e s') : False := by
  obtain ⟨_, _, _, _, _, _, _, _, _, _, _, _, q⟩ := h
  exact q
end TB
open PySem PySem.W PySem.Calls PyProof.Rows
theorem PySem.Challenge.cw_twiceonce_k19_whole_mirrored_chains_holds : PySem.Challenge.rw_twiceonce_k19_whole_mirrored_chains.Holds := by
  w_on; o_law
  refine HandSHeadRun.head_any (r := TB.hdR) (q := view TB.hdR.prog [50]) (H := TB.hdK) (ob := TB.hdOb) (M := 8000) (loose := TB.hdLoose) (d := HandSHeadRun.topDef TB.hdR.prog 50) (kwd := []) TB.hdOb_eq
    (by kernel_rfl) (fun s => by kernel_rfl) TB.hdRun (by kernel_rfl) (by kernel_rfl) (by kernel_rfl) (by rfl) (by first | assumption | decide +kernel) (by decide +kernel) ⟨rfl, rfl, rfl, rfl, rfl, by decide +kernel⟩ ?hw ?hc
  case hw => w_witness2
  case hc =>
    refine LamX.walk_ofTsE (l := PySem.Challenge.rw_twiceonce_k19_whole_mirrored_chains) (n := 63) (k := 12) (x := "_law_script") (CX := fun w => L2.CX PySem.Challenge.rw_twiceonce_k19_whole_mirrored_chains.prog w) rfl (by decide) (by kernel_rfl) ⟨rfl, by decide, by decide⟩ ?F (fun w H s e s' => TB.no_out H s e s')
    intro w mg fa h Y G hmg0
    obtain ⟨K, KX, c⟩ := Y
    have T := TB.fx_of KX G c
    have hmg : mg ("law" : PySem.Str) = some (.ref fa) := by
      have e : (HandSHeadRun.topDef TB.hdR.prog 50).name = ("law" : PySem.Str) := by kernel_rfl
      rw [← e]
      exact hmg0
    obtain ⟨gl, fd, F⟩ := T.f_law
    have ef := hmg.symm.trans gl
    cases ef
    refine ⟨K, KX, fd, TB.cloFns.map (He.cT K), TB.spLawT K (TB.cloT K), fun _ hp => ?_, fun _ hp => ?_, fun _ hp => ?_, fun s v => L2.FunD.bindsA (ps := ["_law_script"]) F (fun _ _ _ _ _ _ us hl => match us, hl with | [_], _ => rfl) s [v] rfl, fun H a ns _ _ ht hS => ⟨a, ns, rfl, hS, TB.tabs_nil (fun p hp => by obtain ⟨q, hq, e⟩ := TB.cloT_tab hp; rw [e]; exact ht _ (List.mem_map.mpr ⟨q, hq, rfl⟩)), fun _ => rfl⟩, fun base _ _ tb => TB.law_cal (P := PySem.Challenge.rw_twiceonce_k19_whole_mirrored_chains.prog) (base := base) T (fun x hx => tb _ (List.mem_map.mpr ⟨(x, none), hx, rfl⟩)) fd F⟩
    · obtain ⟨q, hq, e⟩ := List.mem_map.mp hp; rw [← e]; exact c.empty q hq
    · obtain ⟨q, hq, e⟩ := List.mem_map.mp hp; rw [← e]; exact c.out q hq
    · obtain ⟨q, hq, e⟩ := List.mem_map.mp hp; rw [← e]; exact PySem.W.codeHd_of_K KX (c.hd q hq)

