import PyProof.Rows.All
import Wide.All
import OpenK.AllK
import Wide.FinOn
import KE.KStateDown
import HandS.ForMost
import HandS.More
import HandS.Star
import HandS.MethStar
import HandS.Defaults
import HandS.Property
import HandS.IsInst
import HandS.Slots
import HandS.SlotsOwn
import HandS.HeadHook1
import HandS.HeadHook2
import HandS.HeadNt
import KE.KSuper
import HandS.Head0
import HandS.Head1
import HandS.Head2
import KE.KIsAll
import HandS.Zip
import HandS.Strs
import HandS.SetFor
import KE.GoesMore
import KE.GoesEnum
import PyProof.Rows.SetFrom
import HandS.NoneIn
import HandS.TupAny
import HandS.Style
import HandS.Flow
import HandS.Walk
import HandS.Wide
import HandS.Conv
import HandS.Codes
import HandS.GenCall
import HandS.GenYield
import HandS.GenList
import HandS.TupLen
import KE.KDictDisplayH
import HandS.ReCall
import KE.KWithOwn
import PyProof.ReprRoads
import PyProof.P3Eq
import PyProof.Rows.RegReprOcc
import HandS.HeadEnd
import PySem.Challenge.RW_statusrules_k70_whole_monitors_and_rules
set_option Elab.async false
set_option linter.all false
set_option maxRecDepth 100000
set_option maxHeartbeats 0
/-! Own rules of the layer, first part: calls by FnR, properties, own operators, own subscripts. -/
namespace SRO
open PySem PySem.Spec PyProof.Rows L2
section
variable {X : Cx} {CX : CXT} {k : Nat} {f g p' C : Addr} {sp : Sp} {E : XK} {x m fl : Str} {p pos apos : Pos} {e o : Expr} {es : List Expr} {ta te : TE} {t : TA}

/-- x(e, ..), x a def of the module -/
def tCallR (sp : Sp) (E : XK) (t : TA) : TE := fun σ H Q => t σ H fun vs H1 => sp vs H1 Q E
theorem pe_callR (F : FnR X.prog X.w X.K X.mg X.base CX k f sp) (hr : Room k X.A) (hg : Gl X x) (hm : X.mg x = some (.ref f)) (hk : PySem.W.keepIn X.K (.ref f) = true) (hx : Passes CX X E) (ha : PA X (e :: es) t)
    (hd : (x == ("__debug__" : Str)) = false := by decide)
    (he : starEach (e :: es) X.env = (false, eval e X.env) :: starEach es X.env := by rfl) (hpl : (backTo pos (starEach es X.env)).any (·.1) = false := by rfl) : PE X (.Call (.Name x p) (e :: es) [] pos) (tCallR sp E t) := by
  refine ⟨fun pins s σ H Q I h => ?_⟩
  refine wpAny_Call_Name_kw (ld_glob I hg hm ?_ hd)
  refine PySem.W.callWith_K (h₀ := X.base) I.ok.mod.kin hk (thn (ha.run pos pins s σ H _ I h) fun us s1 ⟨vs, H1, I1, r, q⟩ => ⟨I1.kIn, ?_⟩) he hpl
  exact wpAny_call (run_fnR F hr hx I1 r q)
/-- o.m(e, ..) -/
def tMethR (C : Addr) (m : Str) (sp : Sp) (E : XK) (ta : TE) (t : TA) : TE := fun σ H Q => ta σ H fun x H1 => ∃ a dx fs, x = .ref a ∧ H1 a = some (.ins C dx fs) ∧ fs.lookup m = none ∧ t σ H1 fun vs H2 => sp (.ref a :: vs) H2 Q E
theorem pe_methR {pl : Sem Bool} (he : PE X o ta) (c : Cls X.K C) (hm : Meth X.K C m f) (F : FnR X.prog X.w X.K X.mg X.base CX k f sp) (hr : Room k X.A) (hx : Passes CX X E) (ha : PA X (e :: es) t)
    (hst : starEach (e :: es) X.env = (false, eval e X.env) :: starEach es X.env := by rfl) (hpl : (backTo pos (starEach es X.env)).any (·.1) = false := by rfl)
    (ht : eval (.Call (.Attribute o m apos) (e :: es) [] pos) X.env = (do
      let ov ← eval o X.env
      standAt apos.atName
      let (f, first) ← holding [ov] (getMethod ov m pl)
      callWith pos f first (backTo pos (starEach (e :: es) X.env)) (backToKw pos (keywordEach [] X.env))) := by rfl) :
    PE X (.Call (.Attribute o m apos) (e :: es) [] pos) (tMethR C m sp E ta t) := by
  refine ⟨fun pins s σ H Q I h => ?_⟩
  refine PySem.W.methodCall_KW (pl := pl) (thn (he.run pins s σ H _ I h) fun u s1 ⟨x, H1, I1, rx, a, dx, fs, ex, ea, l, q⟩ => ?_) ht
  subst ex
  obtain rfl : u = Value.ref a := rx
  refine getmeth_ok I1 ea c hm l ?_
  refine PySem.W.callWith_K (first := [.ref a]) (h₀ := X.base) I.ok.mod.kin hm.kp (thn (ha.run pos pins s1 σ H1 _ I1 q) fun us s2 ⟨vs, H2, I2, r, q2⟩ => ⟨I2.kIn, ?_⟩) hst hpl
  exact wpAny_call (run_fnR (us := .ref a :: us) (vs := .ref a :: vs) F hr hx I2 (.cons rfl r) q2)
/-- o.m() -/
theorem pe_methR0 {pl : Sem Bool} (he : PE X o ta) (c : Cls X.K C) (hm : Meth X.K C m f) (F : FnR X.prog X.w X.K X.mg X.base CX k f sp) (hr : Room k X.A) (hx : Passes CX X E)
    (ht : eval (.Call (.Attribute o m apos) [] [] pos) X.env = (do
      let ov ← eval o X.env
      standAt apos.atName
      let (f, first) ← holding [ov] (getMethod ov m pl)
      callWith pos f first (backTo pos (starEach [] X.env)) (backToKw pos (keywordEach [] X.env))) := by rfl) :
    PE X (.Call (.Attribute o m apos) [] [] pos) (tMethR C m sp E ta tNil) := by
  refine ⟨fun pins s σ H Q I h => ?_⟩
  refine PySem.W.methodCall_KW (pl := pl) (thn (he.run pins s σ H _ I h) fun u s1 ⟨x, H1, I1, rx, a, dx, fs, ex, ea, l, q⟩ => ?_) ht
  subst ex
  obtain rfl : u = Value.ref a := rx
  refine getmeth_ok I1 ea c hm l ?_
  exact PySem.W.callWith_K0 (first := [.ref a]) I1.kIn hm.kp (wpAny_call (run_fnR (us := [.ref a]) (vs := [.ref a]) F hr hx I1 (.cons rfl .nil) q))
/-- o.m(*y): the bound method is made first -/
theorem starcall1_of {M : Model} {A : Around} {E : Value → Shared → Prop} {s : Shared} {env : Env} {o e2 : Expr} {m : Str} {p apos pos : Pos} {Q : Value → Shared → Prop} (hbase : attributeBase o m env (eval o env) = eval o env)
    (hst : starEach [.Starred e2 p] env = [(true, eval e2 env)])
    (h : wpAny M A (eval o env) (fun ov s₁ => wpAny M A (getAttr ov m true) (fun f s₂ => wpAny M A (callWith pos f [] (backTo pos [(true, eval e2 env)]) []) Q E s₂) E s₁) E s) :
    wpAny M A (eval (.Call (.Attribute o m apos) [.Starred e2 p] [] pos) env) Q E s := by
  have hke : backToKw pos (keywordEach [] env) = [] := rfl
  have hform : methodCallForm ([Expr.Starred e2 p].length + ([] : List Keyword).length) (backTo pos [(true, eval e2 env)]) [] = false := rfl
  have hpos : methodCallPos false o env apos pos = pure pos := rfl
  have hcal : ∀ ov, calleeOf false o env ov m = (getAttr ov m true >>= fun v => pure (v, [])) := fun _ => rfl
  rw [arm_eval_Call, hbase, hst, hke]
  refine wpAny_bind (wpAny_mono h (fun ov s₁ h₁ => ?_) fun _ _ x => x)
  refine wpAny_bind (wpAny_standAt ?_)
  unfold methodCall
  rw [hform, hpos, hcal]
  refine wpAny_bind (wpAny_holding (wpAny_bind (wpAny_mono h₁ (fun f s₂ h₂ => wpAny_pure ?_) fun _ _ x => x)))
  exact wpAny_bind (wpAny_pure h₂)
def tMethS1 (K : PySem.W.Frag) (C : Addr) (m : Str) (g : Addr) (sp : Sp) (E : XK) (ta t2 : TE) : TE := fun σ H Q => ta σ H fun x H1 => ∃ a dx fs, x = .ref a ∧ H1 a = some (.ins C dx fs) ∧ fs.lookup m = none ∧
  ∀ q, H1 q = none → t2 σ (upd H1 q (.met g a)) fun y2 H3 => ∃ b vs, y2 = .ref b ∧ (SqT K H3 b vs ∨ SqL K H3 b vs) ∧ H3 q = some (.met g a) ∧ sp (.ref a :: vs) H3 Q E
theorem pe_methS1 {e2 : Expr} {t2 : TE} (he : PE X o ta) (c : Cls X.K C) (b : BMeth X.K C m g) (F : FnR X.prog X.w X.K X.mg X.base CX k g sp) (hr : Room k X.A)
    (hx : Passes CX X E) (h2 : PE X e2 t2) (hbase : attributeBase o m X.env (eval o X.env) = eval o X.env := by rfl)
    (hst : starEach [.Starred e2 p] X.env = [(true, eval e2 X.env)] := by rfl) : PE X (.Call (.Attribute o m apos) [.Starred e2 p] [] pos) (tMethS1 X.K C m g sp E ta t2) := by
  refine ⟨fun pins s σ H Q I h => ?_⟩
  refine starcall1_of hbase hst (thn (he.run pins s σ H _ I h) fun u s1 ⟨x, H1, I1, rx, a, dx, fs, ex, ea, l, q⟩ => ?_)
  subst ex
  obtain rfl : u = Value.ref a := rx
  refine getbound_ok I1 ea c b l fun q1 s2 hq1 I2 => ?_
  refine PySem.W.ks_call (P := PySem.W.MethP X.K q1 g (.ref a)) rfl (PySem.W.keeps_M b.fi) (PySem.W.ks_lone (thn (h2.run pins s2 σ _ _ I2 (q q1 hq1)) fun v2 s4 ⟨y2, H3, I4, ry2, t, vs, ey, ht, hm, hsp⟩ => ?_))
  subst ey
  obtain rfl : v2 = Value.ref t := ry2
  refine StX.star_any I4 ht fun us s5 I5 rv => ?_
  show PySem.W.MethP X.K q1 g (.ref a) s5.heap ∧ wpAny (model X.prog X.w) X.A (call (.ref q1) us []) (EP X pins σ Q) X.xe s5
  exact ⟨met_P I5 hm, wpAny_call (PySem.W.method_call (met_P I5 hm).1 (run_fnR (us := Value.ref a :: us) (vs := V.ref a :: vs) F hr hx I5 (.cons rfl rv) hsp))⟩

/-- o.f, a property -/
def tPropR (C : Addr) (sp : Sp) (E : XK) (ta : TE) : TE := fun σ H Q => ta σ H fun x H1 => ∃ a dx fs, x = .ref a ∧ H1 a = some (.ins C dx fs) ∧ sp [.ref a] H1 Q E
theorem pe_propR (he : PE X o ta) (c : Cls X.K C) (hp : PropOf X.K C fl p' g) (F : FnR X.prog X.w X.K X.mg X.base CX k g sp) (hr : Room (k + 1) X.A) (hx : Passes CX X.nox E)
    (hab : attributeBase o fl X.env (eval o X.env) = eval o X.env := by rfl) : PE X (.Attribute o fl pos) (tPropR C sp E ta) := by
  refine ⟨fun pins s σ H Q I h => ?_⟩
  refine attr_of hab (thn (he.run pins s σ H _ I h) fun u s1 ⟨x, H1, I1, rx, a, dx, fs, ex, ea, q⟩ => ?_)
  subst ex
  obtain rfl : u = Value.ref a := rx
  obtain ⟨mA, O, _, _, _, _⟩ := ins_get I1.hok ea
  obtain ⟨od, J, _⟩ := O.look
  obtain ⟨rest, hrec⟩ := hp.rec_
  have I2 := I1.tok (s1.toks + 1)
  have hc : (PySem.W.clsIn X.K C).isSome = true := by
    obtain ⟨cd, hc, _⟩ := PySem.W.any_some c.hd
    rw [hc]
    rfl
  refine PySem.W.get_bind I1.kIn J (PySem.W.plainGet_of (c.get fl)).1 (PySem.W.findObj_data hc hp.at_ hp.get hp.tak) (PySem.W.plainGet_of (c.get fl)).2 (wpAny_call (PySem.W.prop_get (s := { s1 with toks := s1.toks + 1 }) I1.kIn hrec ?_))
  refine codeAny_mono (F X.A.in1 X.stack { s1 with toks := s1.toks + 1 } H1 [.ref a] [.ref a] Q E hr.in1 I2.env0.in1 (.cons rfl .nil) q) fun r s' hq => ?_
  cases r with
  | error er => exact False.elim (hx pins σ H1 { s1 with toks := s1.toks + 1 } er s' (I2.wish _) hq)
  | ok fl =>
    cases fl with
    | ret u =>
      obtain ⟨v, H', I3, rv, q3⟩ := I2.after hq
      show wpAny _ _ (handedOut u) _ _ _
      rw [PySem.W.handedOut_of (handed_of rv)]
      exact wpAny_pure ⟨v, H', I3, rv, q3⟩
    | next => exact False.elim hq
    | brk => exact False.elim hq
    | cont => exact False.elim hq

/-! ### own operators -/
theorem inst_of {pins : List (Addr × Obj)} {σ : L2.St} {H : Hp} {s : Shared} {a dx : Addr} {fs : List (Str × V)} (I : Inv X pins σ H s) (e : H a = some (.ins C dx fs)) : ∃ ox od, PySem.W.InstAt s.heap a ox C od := by
  obtain ⟨mA, O, _⟩ := ins_get I.hok e
  obtain ⟨od, J, _⟩ := O.look
  exact ⟨_, _, J⟩
/-- x op y, both instances of the class at C whose def for op is at g -/
def rOwn2 (C : Addr) (sp : Sp) (E : XK) : R2 := fun x y H Q => ∃ a dx fs b dy gs, x = .ref a ∧ y = .ref b ∧ H a = some (.ins C dx fs) ∧ H b = some (.ins C dy gs) ∧ sp [.ref a, .ref b] H Q E
theorem op_cmpR {op : CmpOp} (hop : ∀ a b, compareOp op a b = richCompare op a b) (hn : PySem.W.notFirst X.K C (.ref C) = true) (hs : PySem.W.findIn X.K (.ref C) (cmpInfo op).2.1 = some (some (.ref g))) (hf : PySem.W.isFn X.K (.ref g) = true) (F : FnR X.prog X.w X.K X.mg X.base CX k g sp)
    (hr : Room k X.A) (hx : Passes CX X E) : OpR X (compareOp op) (rOwn2 C sp E) := by
  intro pins s σ H x y v u Q I rx ry h
  obtain ⟨a, dx, vs, b, dy, ws, rfl, rfl, ha, hb, q⟩ := h
  cases (show v = Value.ref a from rx)
  cases (show u = Value.ref b from ry)
  obtain ⟨_, _, J⟩ := inst_of I ha
  obtain ⟨_, _, J'⟩ := inst_of I hb
  obtain ⟨m, hF⟩ := I.fr
  rw [hop]
  refine PySem.W.cmp_K (op := op) (tb := .ref C) hr.units0 hF I.ok.mod.kin J J'.type hn hs hf ?_
  refine wpAny_mono (wpAny_call (run_fnR (us := [.ref a, .ref b]) (vs := [.ref a, .ref b]) F hr hx I (.cons rfl (.cons rfl .nil)) q)) (fun w s' z => ?_) fun _ _ x => x
  obtain ⟨z', H', I', rz, qz⟩ := z
  exact SlX.cmpback rz ⟨z', H', I', rz, qz⟩
theorem op_binR {op : Operator} (hc : PySem.W.selfFirst X.K C = true) (hs : PySem.W.findIn X.K (.ref C) (PySem.dunder op.info.2) = some (some (.ref g))) (hf : PySem.W.isFn X.K (.ref g) = true) (F : FnR X.prog X.w X.K X.mg X.base CX k g sp)
    (hr : Room k X.A) (hx : Passes CX X E) : OpR X (binaryOp op) (rOwn2 C sp E) := by
  intro pins s σ H x y v u Q I rx ry h
  obtain ⟨a, dx, vs, b, dy, ws, rfl, rfl, ha, hb, q⟩ := h
  cases (show v = Value.ref a from rx)
  cases (show u = Value.ref b from ry)
  obtain ⟨_, _, J⟩ := inst_of I ha
  obtain ⟨_, _, J'⟩ := inst_of I hb
  obtain ⟨m, hF⟩ := I.fr
  refine PySem.W.binop_K (op := op) hF I.ok.mod.kin J J'.type hc hs hf ?_
  refine wpAny_mono (wpAny_call (run_fnR (us := [.ref a, .ref b]) (vs := [.ref a, .ref b]) F hr hx I (.cons rfl (.cons rfl .nil)) q)) (fun w s' z => ?_) fun _ _ x => x
  obtain ⟨z', H', I', rz, qz⟩ := z
  exact SlX.cmpback rz ⟨z', H', I', rz, qz⟩

/-! ### o[i], o[i] = v of own classes -/
/-- o[i] by an own __getitem__ -/
def tGetR (C : Addr) (sp : Sp) (E : XK) (ta ti : TE) : TE := fun σ H Q => ta σ H fun x H1 => ti σ H1 fun y H2 => ∃ a dx fs, x = .ref a ∧ H2 a = some (.ins C dx fs) ∧ sp [.ref a, y] H2 Q E
theorem pe_getR {i : Expr} {ti : TE} (ho : PE X o ta) (hi : PE X i ti) (hs : PySem.W.findIn X.K (.ref C) "__getitem__" = some (some (.ref g))) (hf : PySem.W.isFn X.K (.ref g) = true) (hfi : PySem.W.fnIn X.K g = true) (F : FnR X.prog X.w X.K X.mg X.base CX k g sp)
    (hr : Room (k + 1) X.A) (hx : Passes CX X.nox E)
    (hsl : ∀ a v, subscripted i true (.ref a) v = runValue (.builtin "lifetime.subscript" ⟨[.ref a, v], []⟩) := by intro _ _; with_unfolding_all rfl) : PE X (.Subscript o i pos) (tGetR C sp E ta ti) := by
  refine ⟨fun pins s σ H Q I h => ?_⟩
  refine Subscript_ (binT ho hi I h fun v u s2 x y H2 I2 rx ry q => ?_)
  obtain ⟨a, dx, fs, rfl, ha, q⟩ := q
  cases (show v = Value.ref a from rx)
  obtain ⟨_, _, J⟩ := inst_of I2 ha
  obtain ⟨m, hF⟩ := I2.fr
  refine PySem.W.sub_K hF I2.ok.mod.kin J hs hfi hf (wpAny_call ?_) (hsl _ _)
  refine codeAny_mono (F X.A.in1 X.stack s2 H2 [.ref a, u] [.ref a, y] Q E hr.in1 I2.env0.in1 (.cons rfl (.cons ry .nil)) q) fun r s' hq => ?_
  cases r with
  | error er => exact False.elim (hx pins σ H2 s2 er s' (I2.wish _) hq)
  | ok fl =>
    cases fl with
    | ret u => exact I2.after hq
    | next => exact False.elim hq
    | brk => exact False.elim hq
    | cont => exact False.elim hq
/-- o[i] = v by an own __setitem__ -/
def rSetR (C : Addr) (sp : Sp) (E : XK) : V → V → V → Hp → (Hp → Prop) → Prop := fun o i v H Q => ∃ a dx fs, o = .ref a ∧ H a = some (.ins C dx fs) ∧ sp [.ref a, i, v] H (fun _ H' => Q H') E
theorem set_R (hq : PySem.W.noSeq X.K C = true) (hs : PySem.W.findIn X.K (.ref C) "__setitem__" = some (some (.ref g))) (hf : PySem.W.isFn X.K (.ref g) = true) (F : FnR X.prog X.w X.K X.mg X.base CX k g sp) (hr : Room k X.A) (hx : Passes CX X E) : PSet X (rSetR C sp E) := by
  intro pins s σ H o i v ov iv u Q I ro ri rv h
  obtain ⟨a, dx, fs, rfl, ha, q⟩ := h
  cases (show ov = Value.ref a from ro)
  obtain ⟨_, _, J⟩ := inst_of I ha
  obtain ⟨m, hF⟩ := I.fr
  refine PySem.W.ksp_setItem hF I.ok.mod.kin J hq hs hf ?_
  refine wpAny_mono (wpAny_call (run_fnR (us := [.ref a, iv, u]) (vs := [.ref a, i, v]) F hr hx I (.cons rfl (.cons ri (.cons rv .nil))) q)) (fun w s' z => ?_) fun _ _ x => x
  obtain ⟨z', H', I', rz, qz⟩ := z
  exact ⟨H', I', qz⟩
end
end SRO
/-! The text by places, and what is known of the written part. Printed by gentxt.py. -/
namespace SRT
open PySem PySem.Spec PyProof.Rows L2
def top (i : Nat) : Stmt := PySem.Challenge.pw_statusrules_k70_whole_monitors_and_rules.main.body.getD i (.Pass ⟨0, 0, 0, 0⟩)
abbrev s_is_integer : Stmt := top 21
abbrev s_is_between : Stmt := top 22
abbrev s_is_made_of : Stmt := top 23
abbrev s_is_row : Stmt := top 24
abbrev s_is_table : Stmt := top 25
abbrev s_reached : Stmt := top 27
abbrev s_row_classes : Stmt := top 28
abbrev s_smallest : Stmt := top 29
abbrev s_statuses_of : Stmt := top 30
abbrev s_first_checks : Stmt := top 31
abbrev s_joined : Stmt := top 32
abbrev s_check_checks : Stmt := top 40
abbrev s_check_number : Stmt := top 41
abbrev s_check_rule : Stmt := top 42
abbrev s_made : Stmt := top 43
abbrev s_is_name : Stmt := top 51
abbrev s_is_sign : Stmt := top 52
abbrev s_check_names : Stmt := top 53
abbrev s_law_cell_at : Stmt := top 60
abbrev s_law_pen : Stmt := top 61
abbrev s_law_draw : Stmt := top 62
abbrev s_law_streak_table : Stmt := top 63
abbrev s_law_ring : Stmt := top 64
abbrev s_law_table : Stmt := top 65
abbrev s_law_few : Stmt := top 66
abbrev s_law_checks : Stmt := top 67
abbrev s_law_same : Stmt := top 68
abbrev s_law_changed : Stmt := top 69
abbrev s_law_watched : Stmt := top 70
abbrev s_law : Stmt := top 71
abbrev s_Rule_init : Stmt := inClass (top 46) 1
abbrev s_Rule_rows : Stmt := inClass (top 46) 6
abbrev s_Rule_call : Stmt := inClass (top 46) 7
abbrev s_Rule_le : Stmt := inClass (top 46) 11
abbrev s_Rule_and : Stmt := inClass (top 46) 15
abbrev s_Trial_init : Stmt := inClass (top 54) 0
abbrev s_Trial_enter : Stmt := inClass (top 54) 1
abbrev s_Trial_exit : Stmt := inClass (top 54) 2
abbrev s_Monitor_init : Stmt := inClass (top 55) 0
abbrev s_Monitor_go_on : Stmt := inClass (top 55) 1
abbrev s_Monitor_later : Stmt := inClass (top 55) 2
abbrev s_Monitor_after : Stmt := inClass (top 55) 5
abbrev s_Monitor_tick : Stmt := inClass (top 55) 6
abbrev s_Monitor_supposing : Stmt := inClass (top 55) 7
abbrev s_Monitor_run : Stmt := inClass (top 55) 8
abbrev s_Monitor_trying : Stmt := inClass (top 55) 10
abbrev s_Monitor_changes : Stmt := inClass (top 55) 11
abbrev s_Monitor_place : Stmt := inClass (top 55) 12
abbrev s_Monitor_with_service : Stmt := inClass (top 55) 13
abbrev s_Monitor_names : Stmt := inClass (top 55) 14
abbrev s_Monitor_ticks : Stmt := inClass (top 55) 15
abbrev s_Monitor_getitem : Stmt := inClass (top 55) 20
abbrev s_Monitor_setitem : Stmt := inClass (top 55) 21
abbrev s_Muting_init : Stmt := inClass (top 56) 0
abbrev s_Muting_muted : Stmt := inClass (top 56) 2
abbrev s_Muting_later : Stmt := inClass (top 56) 3
abbrev s_Tallying_init : Stmt := inClass (top 57) 0
abbrev s_Tallying_tally : Stmt := inClass (top 57) 1
abbrev s_Tallying_later : Stmt := inClass (top 57) 2
abbrev s_MutingTallying_init : Stmt := inClass (top 58) 0
/-- a property's getter -/
def pg (K : PySem.W.Frag) (C : Addr) (m : Str) : Addr := match PySem.W.recIn K (He.ma K C m) "property" with
  | some (.ref g :: _) => g
  | _ => 0
def propB (K : PySem.W.Frag) (C : Addr) (m : Str) : Bool := He.eqO (PySem.W.findIn K (.ref C) m) (some (some (.ref (He.ma K C m)))) && (He.eqO (PySem.W.specialIn K (.ref (He.ma K C m)) "__get__") (some (some (.builtin "property.__get__"))) &&
  (decide (PySem.W.takesIn K (.ref (He.ma K C m)) = some true) && (match PySem.W.recIn K (He.ma K C m) "property" with
    | some (.ref _ :: _) => true
    | _ => false)))
theorem propB_ok {K : PySem.W.Frag} {C : Addr} {m : Str} (h : propB K C m = true) : PropOf K C m (He.ma K C m) (pg K C m) := by
  obtain ⟨h1, h⟩ := He.ba h
  obtain ⟨h2, h⟩ := He.ba h
  obtain ⟨h3, h4⟩ := He.ba h
  refine ⟨He.eqO_ok h1, He.eqO_ok h2, of_decide_eq_true h3, ?_⟩
  unfold pg
  split at h4
  · rename_i g r e
    exact ⟨r, by rw [e]⟩
  · cases h4
/-- a method that can be taken as a value -/
def bmB (K : PySem.W.Frag) (C : Addr) (m : Str) : Bool := He.eqO (PySem.W.specialIn K (.ref (He.ma K C m)) "__get__") (some (some (.builtin "function.__get__"))) && (decide (PySem.W.takesIn K (.ref (He.ma K C m)) = some false) &&
  (!(PySem.W.copiedNames.contains m) && PySem.W.fnIn K (He.ma K C m)))
theorem bmB_ok {K : PySem.W.Frag} {C : Addr} {m : Str} (M : Meth K C m (He.ma K C m)) (h : bmB K C m = true) : BMeth K C m (He.ma K C m) := by
  obtain ⟨h1, h⟩ := He.ba h
  obtain ⟨h2, h⟩ := He.ba h
  obtain ⟨h3, h4⟩ := He.ba h
  refine ⟨M, He.eqO_ok h1, of_decide_eq_true h2, ?_, h4⟩
  cases q : PySem.W.copiedNames.contains m with
  | false => rfl
  | true =>
    rw [q] at h3
    cases h3
/-- what isinstance asks of an instance of the class -/
def isiB (K : PySem.W.Frag) (C : Addr) : Bool := He.eqO (PySem.W.findIn K (.ref C) "__class__") (some (some (.builtin "object.__class__"))) && (He.eqO (PySem.W.specialIn K (.builtin "object.__class__") "__get__") (some (some (.builtin "getset_descriptor.__get__"))) &&
  (decide (PySem.W.takesIn K (.builtin "object.__class__") = some true) && (decide (PySem.W.mroIn K C (.type "object") = some true) && decide (PySem.W.kitOne K (.ref C) (.ref C) = some true))))
structure IsiC (K : PySem.W.Frag) (C : Addr) : Prop where
  ca : PySem.W.findIn K (.ref C) "__class__" = some (some (.builtin "object.__class__"))
  cn : PySem.W.specialIn K (.builtin "object.__class__") "__get__" = some (some (.builtin "getset_descriptor.__get__"))
  ct : PySem.W.takesIn K (.builtin "object.__class__") = some true
  cm : PySem.W.mroIn K C (.type "object") = some true
  kit : PySem.W.kitOne K (.ref C) (.ref C) = some true
theorem isiB_ok {K : PySem.W.Frag} {C : Addr} (h : isiB K C = true) : IsiC K C := by
  obtain ⟨h1, h⟩ := He.ba h
  obtain ⟨h2, h⟩ := He.ba h
  obtain ⟨h3, h⟩ := He.ba h
  obtain ⟨h4, h5⟩ := He.ba h
  exact ⟨He.eqO_ok h1, He.eqO_ok h2, of_decide_eq_true h3, of_decide_eq_true h4, of_decide_eq_true h5⟩
/-- the module's name SIDES: two tuples of an int and a text -/
def sideAt (K : PySem.W.Frag) (i : Nat) : Addr := match K.lookup (He.ga K "SIDES") with
  | some ⟨_, _, .seq its _, _⟩ => (match its.toList[i]? with
    | some (.ref a) => a
    | _ => 0)
  | _ => 0
def tupAt (K : PySem.W.Frag) (a : Addr) (vs : List V) : Bool := match K.lookup a with
  | some ⟨.type c, _, .seq its _, _⟩ => decide (c = "tuple") && (decide (its.size ≤ sizeLine) && He.relAll vs its.toList)
  | _ => false
theorem tupAt_ok {K : PySem.W.Frag} {a : Addr} {vs : List V} (h : tupAt K a vs = true) (H : Hp) : SqT K H a vs := by
  unfold tupAt at h
  split at h
  · rename_i c od its n sl q
    obtain ⟨h1, h2⟩ := He.ba h
    obtain ⟨h3, h4⟩ := He.ba h2
    exact .inr ⟨_, its, n, q, congrArg Value.type (of_decide_eq_true h1), rfl, of_decide_eq_true h3, He.relAll_ok h4⟩
  · cases h
def sidesB (K : PySem.W.Frag) : Bool := tupAt K (He.ga K "SIDES") [.ref (sideAt K 0), .ref (sideAt K 1)] && (tupAt K (sideAt K 0) [.int 1, .str "+"] && tupAt K (sideAt K 1) [.int 2, .str "-"])
/-- a def that closes over __class__: the class that it stands in -/
def cellAt (K : PySem.W.Frag) (f : Addr) : Addr := match K.lookup f with
  | some ⟨_, _, .func fd, _⟩ => (match fd.closure with
    | [(_, c)] => c
    | _ => 0)
  | _ => 0
structure SupD where
  at_ : PySem.W.Frag → Addr
  cls : PySem.W.Frag → Addr
  name : Str
  qual : Str
  params : Arguments
  body : List Stmt
  scope : Scope
abbrev FnS : Type := Option (Str × Str × Arguments × FuncBody × Scope × Addr × Addr)
def fnS (K : PySem.W.Frag) (a : Addr) : FnS := match K.lookup a with
  | some ⟨_, _, .func fd, _⟩ => some (fd.name, fd.qualname, fd.params, fd.body, fd.scope, fd.globals, fd.builtins)
  | _ => none
def SupD.val (d : SupD) : FnS := some (d.name, d.qual, d.params, .stmts d.body, d.scope, mainGlobals, builtinsNs)
def supF (K : PySem.W.Frag) (f : Addr) (q : Str) (kws : List (Str × V)) : Bool := match K.lookup f with
  | some ⟨_, _, .func fd, _⟩ => PySem.W.codeIn K fd.code q && (decide (fd.closure = [(("__class__" : Str), cellAt K f)]) && (He.dflB K fd.defaults [] && (He.kwdB K fd.kwdefaults kws && (match fd.code with
    | .ref cda => (match K.lookup cda with
      | some ⟨_, _, .fields vs, _⟩ => (match (vs[2]? : Option Value) with
        | some (Value.str file _) => (PySem.Challenge.pw_statusrules_k70_whole_monitors_and_rules.main.file : Str) == file
        | _ => false)
      | _ => false)
    | _ => false))))
  | _ => false
def supC (K : PySem.W.Frag) (f D : Addr) : Bool := match K.lookup (cellAt K f) with
  | some ⟨_, _, .cell (some (.ref E)), _⟩ => decide (E = D)
  | _ => false
def supB (K : PySem.W.Frag) (f D : Addr) (q : Str) (kws : List (Str × V)) : Bool := PySem.W.keepIn K (.ref f) && (supF K f q kws && (supC K f D && PySem.W.isClsIn K D))

def defs : List He5.DefA := [
  ⟨fun K => He.ga K "is_integer", "is_integer", "is_integer", defArgs s_is_integer, defBody s_is_integer, defScope s_is_integer, [], []⟩,
  ⟨fun K => He.ga K "is_between", "is_between", "is_between", defArgs s_is_between, defBody s_is_between, defScope s_is_between, [], []⟩,
  ⟨fun K => He.ga K "is_made_of", "is_made_of", "is_made_of", defArgs s_is_made_of, defBody s_is_made_of, defScope s_is_made_of, [], []⟩,
  ⟨fun K => He.ga K "is_row", "is_row", "is_row", defArgs s_is_row, defBody s_is_row, defScope s_is_row, [], []⟩,
  ⟨fun K => He.ga K "is_table", "is_table", "is_table", defArgs s_is_table, defBody s_is_table, defScope s_is_table, [], []⟩,
  ⟨fun K => He.ga K "reached", "reached", "reached", defArgs s_reached, defBody s_reached, defScope s_reached, [], []⟩,
  ⟨fun K => He.ga K "row_classes", "row_classes", "row_classes", defArgs s_row_classes, defBody s_row_classes, defScope s_row_classes, [], []⟩,
  ⟨fun K => He.ga K "smallest", "smallest", "smallest", defArgs s_smallest, defBody s_smallest, defScope s_smallest, [], []⟩,
  ⟨fun K => He.ga K "statuses_of", "statuses_of", "statuses_of", defArgs s_statuses_of, defBody s_statuses_of, defScope s_statuses_of, [], []⟩,
  ⟨fun K => He.ga K "first_checks", "first_checks", "first_checks", defArgs s_first_checks, defBody s_first_checks, defScope s_first_checks, [], []⟩,
  ⟨fun K => He.ga K "joined", "joined", "joined", defArgs s_joined, defBody s_joined, defScope s_joined, [], []⟩,
  ⟨fun K => He.ga K "check_checks", "check_checks", "check_checks", defArgs s_check_checks, defBody s_check_checks, defScope s_check_checks, [], []⟩,
  ⟨fun K => He.ga K "check_number", "check_number", "check_number", defArgs s_check_number, defBody s_check_number, defScope s_check_number, [], []⟩,
  ⟨fun K => He.ga K "check_rule", "check_rule", "check_rule", defArgs s_check_rule, defBody s_check_rule, defScope s_check_rule, [], []⟩,
  ⟨fun K => He.ga K "made", "made", "made", defArgs s_made, defBody s_made, defScope s_made, [], []⟩,
  ⟨fun K => He.ga K "is_name", "is_name", "is_name", defArgs s_is_name, defBody s_is_name, defScope s_is_name, [], []⟩,
  ⟨fun K => He.ga K "is_sign", "is_sign", "is_sign", defArgs s_is_sign, defBody s_is_sign, defScope s_is_sign, [], []⟩,
  ⟨fun K => He.ga K "check_names", "check_names", "check_names", defArgs s_check_names, defBody s_check_names, defScope s_check_names, [], []⟩,
  ⟨fun K => He.ga K "_law_cell_at", "_law_cell_at", "_law_cell_at", defArgs s_law_cell_at, defBody s_law_cell_at, defScope s_law_cell_at, [], []⟩,
  ⟨fun K => He.ga K "_law_pen", "_law_pen", "_law_pen", defArgs s_law_pen, defBody s_law_pen, defScope s_law_pen, [], []⟩,
  ⟨fun K => He.ga K "_law_draw", "_law_draw", "_law_draw", defArgs s_law_draw, defBody s_law_draw, defScope s_law_draw, [], []⟩,
  ⟨fun K => He.ga K "_law_streak_table", "_law_streak_table", "_law_streak_table", defArgs s_law_streak_table, defBody s_law_streak_table, defScope s_law_streak_table, [], []⟩,
  ⟨fun K => He.ga K "_law_ring", "_law_ring", "_law_ring", defArgs s_law_ring, defBody s_law_ring, defScope s_law_ring, [], []⟩,
  ⟨fun K => He.ga K "_law_table", "_law_table", "_law_table", defArgs s_law_table, defBody s_law_table, defScope s_law_table, [], []⟩,
  ⟨fun K => He.ga K "_law_few", "_law_few", "_law_few", defArgs s_law_few, defBody s_law_few, defScope s_law_few, [], []⟩,
  ⟨fun K => He.ga K "_law_checks", "_law_checks", "_law_checks", defArgs s_law_checks, defBody s_law_checks, defScope s_law_checks, [], []⟩,
  ⟨fun K => He.ga K "_law_same", "_law_same", "_law_same", defArgs s_law_same, defBody s_law_same, defScope s_law_same, [], []⟩,
  ⟨fun K => He.ga K "_law_changed", "_law_changed", "_law_changed", defArgs s_law_changed, defBody s_law_changed, defScope s_law_changed, [], []⟩,
  ⟨fun K => He.ga K "_law_watched", "_law_watched", "_law_watched", defArgs s_law_watched, defBody s_law_watched, defScope s_law_watched, [], []⟩,
  ⟨fun K => He.ga K "law", "law", "law", defArgs s_law, defBody s_law, defScope s_law, [], []⟩,
  ⟨fun K => He.ma K (He.ga K "Rule") "__init__", "__init__", "Rule.__init__", defArgs s_Rule_init, defBody s_Rule_init, defScope s_Rule_init, [], []⟩,
  ⟨fun K => pg K (He.ga K "Rule") "rows", "rows", "Rule.rows", defArgs s_Rule_rows, defBody s_Rule_rows, defScope s_Rule_rows, [], []⟩,
  ⟨fun K => He.ma K (He.ga K "Rule") "__call__", "__call__", "Rule.__call__", defArgs s_Rule_call, defBody s_Rule_call, defScope s_Rule_call, [], []⟩,
  ⟨fun K => He.ma K (He.ga K "Rule") "__le__", "__le__", "Rule.__le__", defArgs s_Rule_le, defBody s_Rule_le, defScope s_Rule_le, [], []⟩,
  ⟨fun K => He.ma K (He.ga K "Rule") "__and__", "__and__", "Rule.__and__", defArgs s_Rule_and, defBody s_Rule_and, defScope s_Rule_and, [], []⟩,
  ⟨fun K => He.ma K (He.ga K "Trial") "__init__", "__init__", "Trial.__init__", defArgs s_Trial_init, defBody s_Trial_init, defScope s_Trial_init, [], []⟩,
  ⟨fun K => He.ma K (He.ga K "Trial") "__enter__", "__enter__", "Trial.__enter__", defArgs s_Trial_enter, defBody s_Trial_enter, defScope s_Trial_enter, [], []⟩,
  ⟨fun K => He.ma K (He.ga K "Trial") "__exit__", "__exit__", "Trial.__exit__", defArgs s_Trial_exit, defBody s_Trial_exit, defScope s_Trial_exit, [], []⟩,
  ⟨fun K => He.ma K (He.ga K "Monitor") "__init__", "__init__", "Monitor.__init__", defArgs s_Monitor_init, defBody s_Monitor_init, defScope s_Monitor_init, [], [("quorum", .int 1)]⟩,
  ⟨fun K => He.ma K (He.ga K "Monitor") "go_on", "go_on", "Monitor.go_on", defArgs s_Monitor_go_on, defBody s_Monitor_go_on, defScope s_Monitor_go_on, [], []⟩,
  ⟨fun K => He.ma K (He.ga K "Monitor") "later", "later", "Monitor.later", defArgs s_Monitor_later, defBody s_Monitor_later, defScope s_Monitor_later, [], []⟩,
  ⟨fun K => He.ma K (He.ga K "Monitor") "after", "after", "Monitor.after", defArgs s_Monitor_after, defBody s_Monitor_after, defScope s_Monitor_after, [], []⟩,
  ⟨fun K => He.ma K (He.ga K "Monitor") "tick", "tick", "Monitor.tick", defArgs s_Monitor_tick, defBody s_Monitor_tick, defScope s_Monitor_tick, [], []⟩,
  ⟨fun K => He.ma K (He.ga K "Monitor") "supposing", "supposing", "Monitor.supposing", defArgs s_Monitor_supposing, defBody s_Monitor_supposing, defScope s_Monitor_supposing, [], []⟩,
  ⟨fun K => He.ma K (He.ga K "Monitor") "run", "run", "Monitor.run", defArgs s_Monitor_run, defBody s_Monitor_run, defScope s_Monitor_run, [], []⟩,
  ⟨fun K => He.ma K (He.ga K "Monitor") "trying", "trying", "Monitor.trying", defArgs s_Monitor_trying, defBody s_Monitor_trying, defScope s_Monitor_trying, [], []⟩,
  ⟨fun K => He.ma K (He.ga K "Monitor") "changes", "changes", "Monitor.changes", defArgs s_Monitor_changes, defBody s_Monitor_changes, defScope s_Monitor_changes, [], []⟩,
  ⟨fun K => He.ma K (He.ga K "Monitor") "place", "place", "Monitor.place", defArgs s_Monitor_place, defBody s_Monitor_place, defScope s_Monitor_place, [], []⟩,
  ⟨fun K => He.ma K (He.ga K "Monitor") "with_service", "with_service", "Monitor.with_service", defArgs s_Monitor_with_service, defBody s_Monitor_with_service, defScope s_Monitor_with_service, [], []⟩,
  ⟨fun K => pg K (He.ga K "Monitor") "names", "names", "Monitor.names", defArgs s_Monitor_names, defBody s_Monitor_names, defScope s_Monitor_names, [], []⟩,
  ⟨fun K => pg K (He.ga K "Monitor") "ticks", "ticks", "Monitor.ticks", defArgs s_Monitor_ticks, defBody s_Monitor_ticks, defScope s_Monitor_ticks, [], []⟩,
  ⟨fun K => He.ma K (He.ga K "Monitor") "__getitem__", "__getitem__", "Monitor.__getitem__", defArgs s_Monitor_getitem, defBody s_Monitor_getitem, defScope s_Monitor_getitem, [], []⟩,
  ⟨fun K => He.ma K (He.ga K "Monitor") "__setitem__", "__setitem__", "Monitor.__setitem__", defArgs s_Monitor_setitem, defBody s_Monitor_setitem, defScope s_Monitor_setitem, [], []⟩,
  ⟨fun K => pg K (He.ga K "Muting") "muted", "muted", "Muting.muted", defArgs s_Muting_muted, defBody s_Muting_muted, defScope s_Muting_muted, [], []⟩,
  ⟨fun K => He.ma K (He.ga K "Tallying") "tally", "tally", "Tallying.tally", defArgs s_Tallying_tally, defBody s_Tallying_tally, defScope s_Tallying_tally, [], []⟩]
def sups : List SupD := [
  ⟨fun K => He.ma K (He.ga K "Muting") "__init__", fun K => He.ga K "Muting", "__init__", "Muting.__init__", defArgs s_Muting_init, defBody s_Muting_init, defScope s_Muting_init⟩,
  ⟨fun K => He.ma K (He.ga K "Muting") "later", fun K => He.ga K "Muting", "later", "Muting.later", defArgs s_Muting_later, defBody s_Muting_later, defScope s_Muting_later⟩,
  ⟨fun K => He.ma K (He.ga K "Tallying") "__init__", fun K => He.ga K "Tallying", "__init__", "Tallying.__init__", defArgs s_Tallying_init, defBody s_Tallying_init, defScope s_Tallying_init⟩,
  ⟨fun K => He.ma K (He.ga K "Tallying") "later", fun K => He.ga K "Tallying", "later", "Tallying.later", defArgs s_Tallying_later, defBody s_Tallying_later, defScope s_Tallying_later⟩,
  ⟨fun K => He.ma K (He.ga K "MutingTallying") "__init__", fun K => He.ga K "MutingTallying", "__init__", "MutingTallying.__init__", defArgs s_MutingTallying_init, defBody s_MutingTallying_init, defScope s_MutingTallying_init⟩]
def fa : List He.Fa := [
  .glo "is_integer", .glo "is_between", .glo "is_made_of", .glo "is_row", .glo "is_table", .glo "reached", .glo "row_classes", .glo "smallest",
  .glo "statuses_of", .glo "first_checks", .glo "joined", .glo "check_checks", .glo "check_number", .glo "check_rule", .glo "made", .glo "is_name",
  .glo "is_sign", .glo "check_names", .glo "_law_cell_at", .glo "_law_pen", .glo "_law_draw", .glo "_law_streak_table", .glo "_law_ring", .glo "_law_table",
  .glo "_law_few", .glo "_law_checks", .glo "_law_same", .glo "_law_changed", .glo "_law_watched", .glo "law", .glo "Rule", .glo "Trial",
  .glo "Monitor", .glo "Muting", .glo "Tallying", .glo "MutingTallying", .glo "SIDES", .free "isinstance", .free "int", .free "bool",
  .free "str", .free "tuple", .free "len", .free "all", .free "set", .free "enumerate", .free "range", .free "zip",
  .free "list", .free "max", .free "min", .free "super", .free "repr", .int "MOST_ROWS" 64, .int "MOST_CHECKS" 60, .int "MOST_SERVICES" 6,
  .int "MOST_LETTERS" 8, .str "UP" "U", .str "DOWN" "D", .str "PASS" "+", .str "FAIL" "-", .str "LETTERS" "abcdefghijklmnopqrstuvwxyz", .cls "Rule", .cls "Trial",
  .cls "Monitor", .cls "MutingTallying", .mkr "Rule", .mkr "Trial", .mkr "Monitor", .mkr "MutingTallying", .noat "Rule" "table", .noat "Trial" "monitor",
  .noat "Trial" "house", .noat "Trial" "past", .noat "Monitor" "house", .noat "Monitor" "past", .noat "MutingTallying" "house", .noat "MutingTallying" "past", .meth "Rule" "__call__", .meth "Rule" "__le__",
  .meth "Rule" "__and__", .meth "Trial" "__enter__", .meth "Trial" "__exit__", .meth "Monitor" "go_on", .meth "Monitor" "later", .meth "Monitor" "after", .meth "Monitor" "tick", .meth "Monitor" "supposing",
  .meth "Monitor" "run", .meth "Monitor" "trying", .meth "Monitor" "changes", .meth "Monitor" "place", .meth "Monitor" "with_service", .meth "Monitor" "__getitem__", .meth "Monitor" "__setitem__", .meth "MutingTallying" "go_on",
  .meth "MutingTallying" "later", .meth "MutingTallying" "after", .meth "MutingTallying" "tick", .meth "MutingTallying" "supposing", .meth "MutingTallying" "run", .meth "MutingTallying" "trying", .meth "MutingTallying" "changes", .meth "MutingTallying" "place",
  .meth "MutingTallying" "with_service", .meth "MutingTallying" "__getitem__", .meth "MutingTallying" "__setitem__", .meth "MutingTallying" "tally", .keep "is_integer", .keep "is_between", .keep "is_made_of", .keep "is_row",
  .keep "is_table", .keep "reached", .keep "row_classes", .keep "smallest", .keep "statuses_of", .keep "first_checks", .keep "joined", .keep "check_checks",
  .keep "check_number", .keep "check_rule", .keep "made", .keep "is_name", .keep "is_sign", .keep "check_names", .keep "_law_cell_at", .keep "_law_pen",
  .keep "_law_draw", .keep "_law_streak_table", .keep "_law_ring", .keep "_law_table", .keep "_law_few", .keep "_law_checks", .keep "_law_same", .keep "_law_changed",
  .keep "_law_watched", .keep "law"]
def xs : List (PySem.W.Frag → Bool) := [
  fun K => propB K (He.ga K "Rule") "rows",
  fun K => propB K (He.ga K "Monitor") "names",
  fun K => propB K (He.ga K "Monitor") "ticks",
  fun K => propB K (He.ga K "MutingTallying") "names",
  fun K => propB K (He.ga K "MutingTallying") "ticks",
  fun K => propB K (He.ga K "MutingTallying") "muted",
  fun K => bmB K (He.ga K "Monitor") "tick",
  fun K => bmB K (He.ga K "MutingTallying") "tick",
  fun K => isiB K (He.ga K "Rule"),
  fun K => sidesB K,
  fun K => PySem.W.selfFirst K (He.ga K "Rule"),
  fun K => PySem.W.notFirst K (He.ga K "Rule") (.ref (He.ga K "Rule")),
  fun K => PySem.W.noSeq K (He.ga K "Monitor"),
  fun K => PySem.W.noSeq K (He.ga K "MutingTallying"),
  fun K => PySem.W.fnIn K (He.ma K (He.ga K "Rule") "__call__"),
  fun K => PySem.W.fnIn K (He.ma K (He.ga K "Monitor") "__getitem__"),
  fun K => PySem.W.fnIn K (He.ma K (He.ga K "MutingTallying") "__getitem__"),
  fun K => supB K (He.ma K (He.ga K "Muting") "__init__") (He.ga K "Muting") "Muting.__init__" [("quorum", .int 1)],
  fun K => supB K (He.ma K (He.ga K "Muting") "later") (He.ga K "Muting") "Muting.later" [],
  fun K => supB K (He.ma K (He.ga K "Tallying") "__init__") (He.ga K "Tallying") "Tallying.__init__" [("quorum", .int 1)],
  fun K => supB K (He.ma K (He.ga K "Tallying") "later") (He.ga K "Tallying") "Tallying.later" [],
  fun K => supB K (He.ma K (He.ga K "MutingTallying") "__init__") (He.ga K "MutingTallying") "MutingTallying.__init__" [("quorum", .int 1)],
  fun K => He.eqO (PySem.W.ks_superIn K (He.ga K "MutingTallying") (He.ga K "MutingTallying") "__init__") (some (some (.ref (He.ma K (He.ga K "Muting") "__init__")))),
  fun K => He.eqO (PySem.W.ks_superIn K (He.ga K "MutingTallying") (He.ga K "Muting") "__init__") (some (some (.ref (He.ma K (He.ga K "Tallying") "__init__")))),
  fun K => He.eqO (PySem.W.ks_superIn K (He.ga K "MutingTallying") (He.ga K "Tallying") "__init__") (some (some (.ref (He.ma K (He.ga K "Monitor") "__init__")))),
  fun K => He.eqO (PySem.W.ks_superIn K (He.ga K "MutingTallying") (He.ga K "Muting") "later") (some (some (.ref (He.ma K (He.ga K "Tallying") "later")))),
  fun K => He.eqO (PySem.W.ks_superIn K (He.ga K "MutingTallying") (He.ga K "Tallying") "later") (some (some (.ref (He.ma K (He.ga K "Monitor") "later")))),
  fun K => decide (PySem.W.mroIn K (He.ga K "MutingTallying") (.ref (He.ga K "MutingTallying")) = some true),
  fun K => decide (PySem.W.mroIn K (He.ga K "MutingTallying") (.ref (He.ga K "Muting")) = some true),
  fun K => decide (PySem.W.mroIn K (He.ga K "MutingTallying") (.ref (He.ga K "Tallying")) = some true),
  fun K => He.eqO (PySem.W.nsIn K PySem.cStatics "thirdparty.any") (some none),
  fun K => decide (PySem.W.typeIn K (.ref (He.ma K (He.ga K "Monitor") "__init__")) = some (.type "function")),
  fun K => decide (PySem.W.typeIn K (.ref (He.ma K (He.ga K "Tallying") "__init__")) = some (.type "function")),
  fun K => decide (PySem.W.typeIn K (.ref (He.ma K (He.ga K "Muting") "__init__")) = some (.type "function")),
  fun K => decide (PySem.W.typeIn K (.ref (He.ma K (He.ga K "Monitor") "later")) = some (.type "function")),
  fun K => decide (PySem.W.typeIn K (.ref (He.ma K (He.ga K "Tallying") "later")) = some (.type "function")),
  fun K => decide (He.ma K (He.ga K "MutingTallying") "go_on" = He.ma K (He.ga K "Monitor") "go_on"),
  fun K => decide (He.ma K (He.ga K "MutingTallying") "after" = He.ma K (He.ga K "Monitor") "after"),
  fun K => decide (He.ma K (He.ga K "MutingTallying") "tick" = He.ma K (He.ga K "Monitor") "tick"),
  fun K => decide (He.ma K (He.ga K "MutingTallying") "supposing" = He.ma K (He.ga K "Monitor") "supposing"),
  fun K => decide (He.ma K (He.ga K "MutingTallying") "run" = He.ma K (He.ga K "Monitor") "run"),
  fun K => decide (He.ma K (He.ga K "MutingTallying") "trying" = He.ma K (He.ga K "Monitor") "trying"),
  fun K => decide (He.ma K (He.ga K "MutingTallying") "changes" = He.ma K (He.ga K "Monitor") "changes"),
  fun K => decide (He.ma K (He.ga K "MutingTallying") "place" = He.ma K (He.ga K "Monitor") "place"),
  fun K => decide (He.ma K (He.ga K "MutingTallying") "with_service" = He.ma K (He.ga K "Monitor") "with_service"),
  fun K => decide (He.ma K (He.ga K "MutingTallying") "__getitem__" = He.ma K (He.ga K "Monitor") "__getitem__"),
  fun K => decide (He.ma K (He.ga K "MutingTallying") "__setitem__" = He.ma K (He.ga K "Monitor") "__setitem__"),
  fun K => decide (He.ma K (He.ga K "MutingTallying") "later" = He.ma K (He.ga K "Muting") "later"),
  fun K => decide (He.ma K (He.ga K "MutingTallying") "tally" = He.ma K (He.ga K "Tallying") "tally"),
  fun K => decide (pg K (He.ga K "MutingTallying") "names" = pg K (He.ga K "Monitor") "names"),
  fun K => decide (pg K (He.ga K "MutingTallying") "ticks" = pg K (He.ga K "Monitor") "ticks"),
  fun K => decide (pg K (He.ga K "MutingTallying") "muted" = pg K (He.ga K "Muting") "muted"),
  fun K => !decide (He.ga K "Monitor" = He.ga K "Rule"),
  fun K => !decide (He.ga K "MutingTallying" = He.ga K "Rule"),
  fun K => !decide (He.ga K "Trial" = He.ga K "Rule"),
  fun K => !decide (He.ga K "Trial" = He.ga K "Monitor"),
  fun K => !decide (He.ga K "Trial" = He.ga K "MutingTallying")]
abbrev AlX : Type := Bool × List He.FnW × List FnS
def obsX (K : PySem.W.Frag) : AlX := ((fa.all fun f => f.ok K) && ((xs.all fun f => f K) && defs.all fun d => d.ok K), defs.map fun d => He5.fnA K (d.at_ K), sups.map fun d => fnS K (d.at_ K))
def valX : AlX := (true, defs.map He5.DefA.val, sups.map SupD.val)
def asX : List Addr := [mainGlobals, PySem.cStatics, 474, 473, 723, 722, 872, 871, 791, 790, 843, 842, 528, 527, 183, 181, 182, 380, 636, 644, 757, 540, 736, 802, 854, 731, 797, 849, 190, 189, 197, 196, 202, 201, 209, 208, 214, 213, 228, 227, 233, 232, 238, 237, 245, 244, 252, 251, 259, 258, 290, 289, 297, 296, 304, 303, 311, 310, 485, 484, 492, 491, 497, 496, 881, 880, 888, 887, 895, 894, 900, 899, 905, 904, 910, 909, 917, 916, 924, 923, 931, 930, 936, 935, 941, 940, 946, 945, 337, 336, 379, 378, 387, 386, 415, 414, 443, 442, 511, 510, 518, 517, 525, 524, 545, 544, 552, 551, 559, 558, 578, 577, 583, 582, 588, 587, 595, 594, 609, 608, 616, 615, 623, 622, 630, 629, 635, 634, 643, 642, 680, 679, 687, 686, 756, 755, 817, 816, 744, 743, 765, 764, 810, 809, 825, 824, 862, 861]
def hook : PySem.W.Hook where
  α := AlX
  obs := fun s => obsX (He.frG s.heap.get? asX)
  val := fun _ => valX
  says := fun _ h => ∃ K : PySem.W.Frag, K.In h ∧ obsX K = valX
  of := fun _ _ e => ⟨_, He.frG_in, e⟩
  keeps := fun _ _ _ ⟨K, hK, c⟩ k => ⟨K, PySem.W.Frag.In.keeps hK k, c⟩
def obG (s : PySem.W.SharedT) : AlX := obsX (He.frG (HandSHeadRun.getT s) asX)
theorem obG_eq (s : PySem.W.SharedT) : obG s = hook.obs s.abs := by
  have e : HandSHeadRun.getT s = s.abs.heap.get? := funext (HandSHeadRun.getT_eq s)
  unfold obG
  rw [e] <;> rfl

end SRT
namespace SRH
open PySem PySem.W PySem.Calls PyProof.Rows
abbrev R : OpenRow := OpenLaw.row PySem.Challenge.rw_statusrules_k70_whole_monitors_and_rules
abbrev qv : Program := view R.prog [71]
def namesA : List PySem.Str := [("_wall" : PySem.Str), ("StatusError" : PySem.Str), ("TableError" : PySem.Str), ("ChecksError" : PySem.Str), ("RuleError" : PySem.Str), ("NumberError" : PySem.Str), ("NamesError" : PySem.Str), ("SignsError" : PySem.Str), ("UnknownName" : PySem.Str), ("MonitorError" : PySem.Str), ("NothingToUndo" : PySem.Str), ("TooLarge" : PySem.Str), ("TextError" : PySem.Str), ("UP" : PySem.Str), ("DOWN" : PySem.Str), ("PASS" : PySem.Str), ("FAIL" : PySem.Str), ("SIDES" : PySem.Str), ("MOST_ROWS" : PySem.Str), ("is_integer" : PySem.Str), ("is_between" : PySem.Str), ("is_made_of" : PySem.Str), ("is_row" : PySem.Str), ("is_table" : PySem.Str), ("opposite" : PySem.Str), ("reached" : PySem.Str), ("row_classes" : PySem.Str), ("smallest" : PySem.Str), ("statuses_of" : PySem.Str), ("first_checks" : PySem.Str)]
def namesB : List PySem.Str := [("joined" : PySem.Str), ("mirrored" : PySem.Str), ("ignoring" : PySem.Str), ("held_place" : PySem.Str), ("held" : PySem.Str), ("MOST_CHECKS" : PySem.Str), ("MOST_ADDED" : PySem.Str), ("check_checks" : PySem.Str), ("check_number" : PySem.Str), ("check_rule" : PySem.Str), ("made" : PySem.Str), ("number_in" : PySem.Str), ("row_in" : PySem.Str), ("Rule" : PySem.Str), ("MOST_SERVICES" : PySem.Str), ("MOST_LETTERS" : PySem.Str), ("LETTERS" : PySem.Str), ("is_name" : PySem.Str), ("is_sign" : PySem.Str), ("check_names" : PySem.Str), ("Trial" : PySem.Str), ("Monitor" : PySem.Str), ("Muting" : PySem.Str), ("Tallying" : PySem.Str), ("MutingTallying" : PySem.Str), ("_law_cell_at" : PySem.Str), ("_law_pen" : PySem.Str), ("_law_draw" : PySem.Str), ("_law_streak_table" : PySem.Str), ("_law_ring" : PySem.Str), ("_law_table" : PySem.Str), ("_law_few" : PySem.Str), ("_law_checks" : PySem.Str), ("_law_same" : PySem.Str), ("_law_changed" : PySem.Str), ("_law_watched" : PySem.Str)]
def names : List PySem.Str := namesA ++ namesB
theorem run (w : World) : HandSHeadRun.RunEq R qv SRT.hook SRT.obG 20000 names w := by
  intro os
  kernel_rfl
end SRH
/-! Own rules, second part: enumerate of a tuple, attribute targets, len(set(..)). -/
namespace SRO
open PySem PySem.Spec PyProof.Rows L2

/-! ### enumerate(tuple) -/
set_option maxHeartbeats 1000000 in
theorem meets_enumB1 {v : Value} {o : Obj} {H : Heap → Prop} (B : Begins v o H) :
    Meets (Builtin.«enumerate.__new__» ⟨[.type "enumerate", v], []⟩) (fun _ R s => H s.heap ∧
      R (.ok (.ret (.ref (s.heap.push o).objs.size))) { s with heap := (s.heap.push o).push { cls := .type "enumerate", data := .fields #[.none, .bool false, .ref s.heap.objs.size, rawInt 0, .none, .none] } }) :=
  .of_wp fun prog w A R s h => by
    obtain ⟨hp, g, d, tk, os⟩ := s
    obtain ⟨h1, h⟩ := h
    have hsub := sub_enumerate
    have q1 : ∀ {A' : Around} {E : Value → Shared → Prop} {Q : Value → Shared → Prop}, Q (.ref hp.objs.size) ⟨hp.push o, g, d, tk, os⟩ → wpAny (model prog w) A' (pyIter v) Q E ⟨hp, g, d, tk, os⟩ :=
      fun q => B.iter prog w _ _ ⟨hp, g, d, tk, os⟩ _ h1 q
    wp_walk using q1
    refine wpAny_stack_any fun st => wpAny_pure ?_
    split
    · rename_i c _ _ _ _ _
      cases (c == Value.type "enumerate") <;> (wp_walk using q1; exact ⟨_, rfl, h⟩)
    · wp_walk using q1
      exact ⟨_, rfl, h⟩
section
variable {prog : Program} {w : World} {A : Around} {E : Value → Shared → Prop} {s : Shared}
theorem enum1_begins {v : Value} {o : Obj} {H : Heap → Prop} {Q : Value → Shared → Prop} (B : Begins v o H) (h1 : H s.heap)
    (h : ∀ h', IsEnum h' (s.heap.objs.size + 1) s.heap.objs.size 0 .none → h'.get? s.heap.objs.size = some o → h'.objs.size = s.heap.objs.size + 2 → (∀ b o, s.heap.get? b = some o → h'.get? b = some o) → Q (.ref (s.heap.objs.size + 1)) { s with heap := h' }) :
    wpAny (model prog w) A (call (.type "enumerate") [v]) Q E s := by
  refine callType_new F.called_enumerate (by decide) (F.typeCall_enumerate_1 _) (F.newCall_enumerate_1 _) (fun obj => F.args_object_init_2 obj _) F.entry_enumerate_new (meets_enumB1 B) ⟨h1, ?_⟩
  have hz : (s.heap.push o).objs.size = s.heap.objs.size + 1 := Heap.size_push ..
  show _ ∧ _
  rw [hz]
  have he : IsEnum ((s.heap.push o).push { cls := .type "enumerate", data := .fields #[.none, .bool false, .ref s.heap.objs.size, rawInt 0, .none, .none] }) (s.heap.objs.size + 1) s.heap.objs.size 0 .none := by
    have q := Heap.get?_push_size (s.heap.push o) (o := { cls := .type "enumerate", data := .fields #[.none, .bool false, .ref s.heap.objs.size, rawInt 0, .none, .none] }) rfl
    rw [hz] at q
    exact q
  exact ⟨⟨_, he, rfl⟩, h _ he (Heap.get?_push_of_some _ (Heap.get?_push_size _ B.free)) (by rw [Heap.size_push, hz]) fun b o x => Heap.get?_push_of_some _ (Heap.get?_push_of_some _ x)⟩
end
theorem wpAny_pyNext_enumT_end {prog : Program} {w : World} {A : Around} {E : Value → Shared → Prop} {s : Shared} {e it l : Addr} {i : Nat} {c : Int} {items : Array Value} {old : Value} {Q : Option Value → Shared → Prop} (hh : A.handled = none)
    (he : IsEnum s.heap e it c old) (hit : s.heap.IsTupleIter it l i) (hl : s.heap.IsTuple l items) (hx : items[i]? = none) (hQ : ∀ h', Heap.ExtBut it s.heap h' → Q none { s with heap := h' }) :
    wpAny (model prog w) A (pyNext (.ref e)) Q E s := by
  unfold pyNext
  refine wpAny_bind (wpAny_attempt (wpAny_callSpecial?_slot (name := Str.ofString "__next__") ⟨_, he, rfl⟩ F.slot_enumerate_next (wpAny_call_entry F.slot_enumerate_next ⟨_, he, rfl⟩ F.entry_enumerate_next ?_ (F.args_enumerate_next_1 _))))
  show wpAny _ _ (field (.ref e) 2 >>= _) _ _ _
  refine wpAny_bind (wpAny_field he rfl (x := .ref it) rfl (wpAny_bind (wpAny_nextOf_tuple_end hh hit hl hx fun h' x he' hx' => ?_)))
  obtain ⟨o, ho, hc⟩ := hx'
  exact wpAny_bind (wpAny_isInstance (T := "StopIteration") (b := true) ⟨o, ho, hc⟩ isSubtype_stop (wpAny_pure (hQ _ he')))
/-- the tuple at a as it stands at each turn, each item in a new pair -/
def IteT (K : PySem.W.Frag) (a : Addr) : It :=
  ⟨fun i H => ∃ (xs : List V) (x : V), SqT K H a xs ∧ xs[i]? = some x, fun i H v H' => ∃ T x, v = .ref T ∧ H T = none ∧ H' = upd H T (.tup [.int (i : Nat), x]) ∧ ∀ xs, SqT K H a xs → xs[i]? = some x, fun i H => ∃ xs : List V, SqT K H a xs ∧ xs.length ≤ i⟩
theorem turn_enumT {P : Program} {w : World} {K : PySem.W.Frag} {elts : List Expr} {kk : Nat} {tpos : Pos} (a e it : Addr) :
    Turn P w K (.Tuple elts kk tpos) (IteT K a) [e, it] e (fun i h => (∃ old, IsEnum h e it ((i : Nat) : Int) old) ∧ h.IsTupleIter it a i ∧ e ≠ it ∧ a ≠ it ∧ a ≠ e) where
  mem := by simp
  obj := fun i h st b hb => by
    obtain ⟨⟨old, he⟩, ⟨o, ho, hc, hd⟩, _⟩ := st
    have e' : b = e ∨ b = it := by simpa using hb
    rcases e' with z | z
    · rw [z]; exact ⟨_, he, fun v q => nomatch q⟩
    · rw [z]; exact ⟨o, ho, fun v q => by rw [hd] at q; cases q⟩
  keep := fun i h h' st k => let ⟨⟨old, he⟩, hi, hne⟩ := st; ⟨⟨old, k e (by simp) _ he⟩, hi.at fun o q => k it (by simp) o q, hne⟩
  item := by
    intro X hP hw hK hc i pins s σ H E I hf st hg
    subst hP hw hK
    obtain ⟨⟨old, he⟩, hit, hne, ha1, ha2⟩ := st
    obtain ⟨xs, x, hq, hx⟩ := hg
    obtain ⟨its, rv, p, hz⟩ := I.tuple hq
    obtain ⟨u, hu, ru⟩ := rv.get hx
    have hel : e < s.heap.objs.size := Heap.lt_size he
    have hil : it < s.heap.objs.size := by obtain ⟨_, q, _⟩ := hit; exact Heap.lt_size q
    have hlt : i < its.toArray.size := by
      rw [List.size_toArray]
      exact (List.getElem?_eq_some_iff.mp hu).1
    refine wpAny_pyNext_enum_itemD (Draws.tuple (A := X.A.in1) (I.ok.hd hc) it a ha1 its.toArray) he ⟨hit, p⟩ hlt hne (by simp; exact ⟨hne, Ne.symm ha2⟩) fun u' h' tk hP' ho hst' hT hsz hk => ?_
    have eu : u' = u := by
      have q : its.toArray[i]? = some u := by simpa using hu
      rw [q] at hP'
      exact (Option.some.inj hP').symm
    subst eu
    refine ⟨_, rfl, wpAny_letOwnedTupleGo_enum (s := { s with heap := h', toks := tk + 1 }) ho fun h'' he' sb => ?_⟩
    have hT2 : h''.get? s.heap.objs.size = some { cls := .type "tuple", data := .seq #[.int i tk, u'] } := (sb.2 _ (Nat.ne_of_gt hel)).trans hT
    have new : ObjOk X.prog X.w (upd H s.heap.objs.size (.tup [.int (i : Nat), x])) h'' s.heap.objs.size (.tup [.int (i : Nat), x]) :=
      ⟨by show 2 ≤ sizeLine; decide, [.int i tk, u'], .cons ⟨_, rfl⟩ (.cons ru .nil), ⟨_, hT2, rfl, _, rfl⟩⟩
    have I1 : Inv X pins σ (upd H s.heap.objs.size (.tup [.int (i : Nat), x])) { s with heap := h'', toks := tk + 1 } :=
      I.turnedNew (ch := [e, it]) (fun b ob hb q => (sb.2 b (fun z => hb (by simp [z]))).trans (hk b ob (fun z => hb (by simp [z])) (fun z => hb (by simp [z])) q)) hf (Nat.le_refl _) new
    refine ⟨.ref s.heap.objs.size, _, I1, rfl, ⟨_, x, rfl, I.hok.fresh (Nat.le_refl _), rfl, fun ys hy => by rw [I.tuple_inj hy hq]; exact hx⟩, ⟨⟨u', ?_⟩, hst'.1.at fun o q => (sb.2 it (Ne.symm hne)).trans q, hne, ha1, ha2⟩, fun b hb => ?_⟩
    · have e1 : ((i + 1 : Nat) : Int) = (i : Int) + 1 := by omega
      rw [e1]; exact he'
    · have hb' : b < s.heap.objs.size := by
        have e' : b = e ∨ b = it := by simpa using hb
        rcases e' with z | z
        · rw [z]; exact hel
        · rw [z]; exact hil
      rw [upd_ne (Nat.ne_of_lt hb')]
      exact (hf b hb).1
  done := by
    intro X hP hw hK hc i pins s σ H E I hf st hg
    subst hP hw hK
    obtain ⟨⟨old, he⟩, hit, hne, ha1, ha2⟩ := st
    obtain ⟨xs, hq, hx⟩ := hg
    obtain ⟨its, rv, p, hz⟩ := I.tuple hq
    obtain ⟨f0, f1, f2, f3, f4, f5⟩ := hf it (by simp)
    have hl := rv.length
    exact wpAny_pyNext_enumT_end (I.ok.hd hc) he hit p (by simp; omega) fun h' eb => ⟨rfl, I.turned (t' := s.toks) (fun b o hb q => eb b o hb q) f0 f1 f3 f4 f5⟩
  self := fun A i s Q E st h => let ⟨⟨_, he⟩, _⟩ := st; wpAny_pyIter_enum he h
def iEnumT (K : PySem.W.Frag) (ta : TA) : TI := fun σ H R => ta σ H fun vs H1 => ∃ a xs, vs = [.ref a] ∧ SqT K H1 a xs ∧ R (IteT K a) H1
theorem pi_enumT {X : Cx} {e : Expr} {ta : TA} {p pos tpos : Pos} {elts : List Expr} {kk : Nat} (hg : Gl X "enumerate") (hm : X.mg "enumerate" = none) (ha : PA X [e] ta) (hs : starEach [e] X.env = [(false, eval e X.env)] := by rfl) :
    PI X (.Tuple elts kk tpos) (.Call (.Name "enumerate" p) [e] [] pos) (iEnumT X.K ta) := by
  refine ⟨fun pins s σ H R I h => ?_⟩
  refine Call_ (ld_blt I hg hm boot_enumerate (PyProof.Rows.callWith_type1 (thn (ha.run pos pins s σ H _ I h) fun us s1 ⟨vs, H1, I1, r1, q1⟩ => ?_) hs rfl))
  obtain ⟨a, xs, ex, hq, q⟩ := q1
  subst ex
  cases r1 with
  | cons r rr =>
    cases rr
    cases r
    obtain ⟨its, rv, p', hz⟩ := I1.tuple hq
    have hal : a < s1.heap.objs.size := by
      obtain ⟨o, ho, _⟩ := p'
      exact Heap.lt_size ho
    refine enum1_begins (begins_tuple a its.toArray) p' fun h' he hit hsz hk => wpAny_pyIter_enum he ?_
    have I2 : Inv X pins σ H1 { s1 with heap := h' } := I1.kept (t' := s1.toks) hk
    refine ⟨s1.heap.objs.size + 1, [s1.heap.objs.size + 1, s1.heap.objs.size], _, _, H1, rfl, I2, turn_enumT a (s1.heap.objs.size + 1) s1.heap.objs.size, ⟨⟨.none, he⟩, ⟨_, hit, rfl, rfl⟩, Nat.succ_ne_self _, Nat.ne_of_lt hal, Nat.ne_of_lt (Nat.lt_succ_of_lt hal)⟩, fun b hb => ?_, q⟩
    have e' : b = s1.heap.objs.size + 1 ∨ b = s1.heap.objs.size := by simpa using hb
    have hle : s1.heap.objs.size ≤ b := by
      rcases e' with z | z
      · rw [z]; exact Nat.le_add_right _ _
      · rw [z]; exact Nat.le_refl _
    exact I1.fpOk hle (I1.hok.fresh hle)

/-! ### a target that is an attribute -/
def gFld (K : PySem.W.Frag) (ta : TE) (f : Str) : TG := fun v σ H Q => ta σ H fun x H1 => ∃ a C dx fs, x = .ref a ∧ H1 a = some (.ins C dx fs) ∧ Cls K C ∧ NoAttr K C f ∧ fs.length < 1000 ∧ Q σ (upd H1 a (.ins C dx (putF f v fs)))
theorem pg_fld {X : Cx} {o : Expr} {f : Str} {pos : Pos} {ta : TE} (ho : PE X o ta) : PG X (.Attribute o f pos) (gFld X.K ta f) := by
  refine ⟨fun pins s σ H v u Q I r h => ?_⟩
  rw [assign_Attribute]
  refine wpAny_bind (wpAny_holding (thn (ho.run pins s σ H _ I h) fun ov s1 ⟨x, H1, I1, rx, a, C, dx, fs, ex, ea, c, n, l, q⟩ => ?_))
  subst ex
  obtain rfl : ov = Value.ref a := rx
  refine wpAny_bind (wpAny_standAt (wpAny_bind (wpAny_holding (setattr_ok I1 ea c n l r fun s3 I3 => ?_))))
  exact fun Γ p hΓ => by
    simp only [Sem.wp_release]
    exact ⟨σ, _, I3, q⟩
end SRO
namespace SR
/-! ### tables -/
abbrev Row := Bool × Nat × Nat
abbrev Tbl := List Row
def rowAt (T : Tbl) (i : Nat) : Row := T.getD i (true, 0, 0)
def stat (T : Tbl) (i : Nat) : Bool := (rowAt T i).1
/-- the row behind a check: c says that it passed -/
def nxt (T : Tbl) (i : Nat) (c : Bool) : Nat := if c then (rowAt T i).2.1 else (rowAt T i).2.2
structure Valid (T : Tbl) : Prop where
  pos : 0 < T.length
  rows : ∀ r ∈ T, r.2.1 < T.length ∧ r.2.2 < T.length
def go (T : Tbl) : Nat → List Bool → Nat
  | i, [] => i
  | i, c :: w => go T (nxt T i c) w
def trace (T : Tbl) : Nat → List Bool → List Bool
  | i, [] => [stat T i]
  | i, c :: w => stat T i :: trace T (nxt T i c) w
def beh (T : Tbl) (i : Nat) (w : List Bool) : Bool := stat T (go T i w)

theorem rowAt_mem {T : Tbl} {i : Nat} (h : i < T.length) : rowAt T i ∈ T := by
  unfold rowAt
  rw [List.getD_eq_getElem?_getD, List.getElem?_eq_getElem h]
  exact List.getElem_mem h
theorem rowAt_get {T : Tbl} {i : Nat} (h : i < T.length) : T[i]? = some (rowAt T i) := by
  unfold rowAt
  rw [List.getD_eq_getElem?_getD, List.getElem?_eq_getElem h]
  rfl
theorem rowAt_of {T : Tbl} {i : Nat} {r : Row} (h : T[i]? = some r) : rowAt T i = r := by
  unfold rowAt
  rw [List.getD_eq_getElem?_getD, h]
  rfl
theorem Valid.nxt {T : Tbl} (v : Valid T) {i : Nat} (h : i < T.length) (c : Bool) : nxt T i c < T.length := by
  have := v.rows _ (rowAt_mem h)
  unfold SR.nxt
  cases c
  · exact this.2
  · exact this.1
theorem Valid.go {T : Tbl} (v : Valid T) : ∀ (w : List Bool) {i : Nat}, i < T.length → go T i w < T.length
  | [], _, h => h
  | c :: w, _, h => v.go w (v.nxt h c)
theorem go_append (T : Tbl) : ∀ (w u : List Bool) (i : Nat), go T i (w ++ u) = go T (go T i w) u
  | [], _, _ => rfl
  | c :: w, u, i => go_append T w u (nxt T i c)
theorem trace_length (T : Tbl) : ∀ (w : List Bool) (i : Nat), (trace T i w).length = w.length + 1
  | [], _ => rfl
  | c :: w, i => by
    show (trace T (nxt T i c) w).length + 1 = w.length + 1 + 1
    rw [trace_length T w]
theorem trace_get (T : Tbl) : ∀ (w : List Bool) (i j : Nat), j ≤ w.length → (trace T i w)[j]? = some (beh T i (w.take j))
  | [], i, 0, _ => rfl
  | [], i, j + 1, h => by simp at h
  | c :: w, i, 0, _ => rfl
  | c :: w, i, j + 1, h => by
    show (trace T (nxt T i c) w)[j]? = some (beh T (nxt T i c) (w.take j))
    exact trace_get T w (nxt T i c) j (by simpa using h)
theorem trace_snoc (T : Tbl) : ∀ (w : List Bool) (i : Nat) (c : Bool), trace T i (w ++ [c]) = trace T i w ++ [beh T i (w ++ [c])]
  | [], _, _ => rfl
  | d :: w, i, c => by
    show stat T i :: trace T (nxt T i d) (w ++ [c]) = stat T i :: trace T (nxt T i d) w ++ [beh T (nxt T i d) (w ++ [c])]
    rw [trace_snoc T w]
    rfl
/-- a relation that is kept by the checks -/
theorem sim {T U : Tbl} (R : Nat → Nat → Prop) (hs : ∀ i k, R i k → stat T i = stat U k ∧ ∀ c, R (nxt T i c) (nxt U k c)) : ∀ (w : List Bool) (i k : Nat), R i k → beh T i w = beh U k w
  | [], i, k, h => (hs i k h).1
  | c :: w, i, k, h => sim R hs w _ _ ((hs i k h).2 c)

/-! ### lists without repeats -/
section
variable {α : Type} [DecidableEq α]
theorem nodup_sub_len : ∀ {l m : List α}, l.Nodup → (∀ x ∈ l, x ∈ m) → l.length ≤ m.length
  | [], _, _, _ => Nat.zero_le _
  | a :: l, m, hn, hs => by
    obtain ⟨h1, h2⟩ := List.nodup_cons.mp hn
    have ha := hs a List.mem_cons_self
    have ih := nodup_sub_len (l := l) (m := m.erase a) h2 fun x hx => by
      have hne : x ≠ a := fun e => h1 (e ▸ hx)
      exact (List.mem_erase_of_ne hne).mpr (hs x (List.mem_cons_of_mem _ hx))
    rw [List.length_erase_of_mem ha] at ih
    have hp : 0 < m.length := List.length_pos_of_mem ha
    rw [List.length_cons]
    omega
/-- what a dict of first places, a set, keeps of a list -/
def dstep (σ : List α) (k : α) : List α := if k ∈ σ then σ else σ ++ [k]
def dd (l : List α) : List α := l.foldl dstep []
theorem dd_snoc (l : List α) (a : α) : dd (l ++ [a]) = dstep (dd l) a := by
  unfold dd
  rw [List.foldl_append]
  rfl
theorem dstep_nodup {σ : List α} (h : σ.Nodup) (k : α) : (dstep σ k).Nodup := by
  unfold dstep
  by_cases c : k ∈ σ
  · rw [if_pos c]; exact h
  · rw [if_neg c, List.nodup_append]
    exact ⟨h, by simp, fun x hx y hy e => c (by have := List.mem_singleton.mp hy; rw [← this, ← e]; exact hx)⟩
theorem dstep_mem {σ : List α} {k x : α} : x ∈ dstep σ k ↔ x ∈ σ ∨ x = k := by
  unfold dstep
  by_cases c : k ∈ σ
  · rw [if_pos c]
    exact ⟨.inl, fun h => h.elim id fun e => e ▸ c⟩
  · rw [if_neg c, List.mem_append, List.mem_singleton]
theorem dd_go (l : List α) : ∀ σ : List α, σ.Nodup → (l.foldl dstep σ).Nodup ∧ ∀ x, x ∈ l.foldl dstep σ ↔ x ∈ σ ∨ x ∈ l := by
  induction l with
  | nil => exact fun σ h => ⟨h, fun x => by simp⟩
  | cons a l ih =>
    intro σ h
    obtain ⟨h1, h2⟩ := ih (dstep σ a) (dstep_nodup h a)
    refine ⟨h1, fun x => ?_⟩
    rw [List.foldl_cons, h2 x, dstep_mem, List.mem_cons, or_assoc]
theorem dd_nodup (l : List α) : (dd l).Nodup := (dd_go l [] List.nodup_nil).1
theorem dd_mem {l : List α} {x : α} : x ∈ dd l ↔ x ∈ l := by
  rw [show x ∈ dd l ↔ _ from (dd_go l [] List.nodup_nil).2 x]
  simp
theorem dd_len (l : List α) : (dd l).length ≤ l.length := nodup_sub_len (dd_nodup l) fun _ h => dd_mem.mp h
theorem dd_of_nodup {l : List α} (h : l.Nodup) : (dd l).length = l.length :=
  Nat.le_antisymm (dd_len l) (nodup_sub_len h fun _ q => dd_mem.mpr q)
theorem dd_pos {l : List α} (h : 0 < l.length) : 0 < (dd l).length := by
  cases l with
  | nil => simp at h
  | cons a l => exact List.length_pos_of_mem (dd_mem.mpr (List.mem_cons_self (a := a) (l := l)))
/-- the place of a value -/
def ix (l : List α) (x : α) : Nat := l.idxOf x
theorem ix_lt {l : List α} {x : α} (h : x ∈ l) : ix l x < l.length := List.idxOf_lt_length_iff.mpr h
theorem ix_get {l : List α} {x : α} (h : x ∈ l) : l[ix l x]? = some x := by
  have hl : List.idxOf x l < l.length := ix_lt h
  unfold ix
  rw [List.getElem?_eq_getElem hl, List.getElem_idxOf hl]
theorem ix_head (x : α) (l : List α) : ix (x :: l) x = 0 := by
  unfold ix
  exact List.idxOf_cons_self
theorem ix_append {l m : List α} {x : α} (h : x ∈ l) : ix (l ++ m) x = ix l x := by
  unfold ix
  rw [List.idxOf_append, if_pos h]
theorem ix_new {l : List α} {x : α} (h : x ∉ l) : ix (l ++ [x]) x = l.length := by
  unfold ix
  rw [List.idxOf_append, if_neg h, List.idxOf_cons_self]
  omega
theorem ix_dstep {σ : List α} {k x : α} (h : x ∈ σ) : ix (dstep σ k) x = ix σ x := by
  unfold dstep ix
  by_cases c : k ∈ σ
  · rw [if_pos c]
  · rw [if_neg c, List.idxOf_append, if_pos h]
theorem ix_inj {l : List α} {x y : α} (hx : x ∈ l) (hy : y ∈ l) (h : ix l x = ix l y) : x = y := by
  have h1 := List.getElem_idxOf (List.idxOf_lt_length_iff.mpr hx)
  have h2 := List.getElem_idxOf (List.idxOf_lt_length_iff.mpr hy)
  rw [← h1, ← h2]
  congr 1
end
/-! ### the smallest table -/
/-- the places of the classes: order holds a row a class -/
def placeOf (num : Nat → Nat) (O : List Nat) (c : Nat) : Nat := ix (O.map num) c
def smallTbl (T : Tbl) (num : Nat → Nat) (O : List Nat) : Tbl :=
  O.map fun r => (stat T r, placeOf num O (num (nxt T r true)), placeOf num O (num (nxt T r false)))
/-- one turn of the loop that fills places and order -/
def addO (num : Nat → Nat) (O : List Nat) (a : Nat) : List Nat := if num a ∈ O.map num then O else O ++ [a]
/-- what is known of the classes -/
structure Classes (T : Tbl) (num : Nat → Nat) : Prop where
  st : ∀ i j, i < T.length → j < T.length → num i = num j → stat T i = stat T j
  nx : ∀ i j c, i < T.length → j < T.length → num i = num j → num (nxt T i c) = num (nxt T j c)
/-- what is known of the rows reached -/
structure Reach (T : Tbl) (start : Nat) (L : List Nat) : Prop where
  start : start ∈ L
  lt : ∀ x ∈ L, x < T.length
  cl : ∀ x ∈ L, ∀ c, nxt T x c ∈ L
  nd : L.Nodup
/-- order behind a part of the rows reached -/
structure OrdInv (num : Nat → Nat) (pre O : List Nat) : Prop where
  sub : ∀ x ∈ O, x ∈ pre
  all : ∀ x ∈ pre, num x ∈ O.map num
  len : O.length ≤ pre.length
  nd : (O.map num).Nodup
theorem OrdInv.nil (num : Nat → Nat) : OrdInv num [] [] := ⟨fun _ h => h, fun _ h => by simp at h, Nat.le_refl _, List.nodup_nil⟩
theorem OrdInv.add {num : Nat → Nat} {pre O : List Nat} (h : OrdInv num pre O) (a : Nat) : OrdInv num (pre ++ [a]) (addO num O a) := by
  unfold addO
  by_cases c : num a ∈ O.map num
  · rw [if_pos c]
    refine ⟨fun x hx => List.mem_append_left _ (h.sub x hx), fun x hx => ?_, ?_, h.nd⟩
    · rcases List.mem_append.mp hx with q | q
      · exact h.all x q
      · rw [List.mem_singleton.mp q]; exact c
    · rw [List.length_append]; exact Nat.le_trans h.len (Nat.le_add_right _ _)
  · rw [if_neg c]
    refine ⟨fun x hx => ?_, fun x hx => ?_, ?_, ?_⟩
    · rcases List.mem_append.mp hx with q | q
      · exact List.mem_append_left _ (h.sub x q)
      · exact List.mem_append_right _ q
    · rw [List.map_append]
      rcases List.mem_append.mp hx with q | q
      · exact List.mem_append_left _ (h.all x q)
      · rw [List.mem_singleton.mp q]; exact List.mem_append_right _ (by simp)
    · rw [List.length_append, List.length_append]; exact Nat.add_le_add_right h.len 1
    · rw [List.map_append, List.nodup_append]
      refine ⟨h.nd, by simp, fun x hx y hy e => ?_⟩
      have ey : y = num a := by simpa using hy
      rw [e, ey] at hx
      exact c hx
/-- THE SMALLEST TABLE goes as the table does -/
theorem small_beh {T : Tbl} {num : Nat → Nat} {start : Nat} {L O : List Nat} (C : Classes T num) (R : Reach T start L) (I : OrdInv num L O) (hO0 : O[0]? = some start) (w : List Bool) :
    beh (smallTbl T num O) 0 w = beh T start w := by
  refine Eq.symm (sim (fun i k => i ∈ L ∧ k = placeOf num O (num i)) (fun i k h => ?_) w start 0 ⟨R.start, ?_⟩)
  · obtain ⟨hi, rfl⟩ := h
    have hm := I.all i hi
    have hl := ix_lt hm
    have hl' : placeOf num O (num i) < O.length := by simpa [placeOf] using hl
    have hg := ix_get hm
    obtain ⟨r, hr, er⟩ : ∃ r, O[placeOf num O (num i)]? = some r ∧ num r = num i := by
      rw [List.getElem?_map] at hg
      cases q : O[ix (O.map num) (num i)]? with
      | none => rw [q] at hg; simp at hg
      | some r => rw [q] at hg; exact ⟨r, q, by simpa using hg⟩
    have hrO : r ∈ O := List.mem_of_getElem? hr
    have hrL := I.sub r hrO
    have rowE : rowAt (smallTbl T num O) (placeOf num O (num i)) = (stat T r, placeOf num O (num (nxt T r true)), placeOf num O (num (nxt T r false))) := by
      refine rowAt_of ?_
      unfold smallTbl
      rw [List.getElem?_map, hr]
      rfl
    refine ⟨?_, fun c => ⟨R.cl i hi c, ?_⟩⟩
    · show stat T i = (rowAt _ _).1
      rw [rowE]
      exact C.st i r (R.lt i hi) (R.lt r hrL) er.symm
    · have e : num (nxt T r c) = num (nxt T i c) := C.nx r i c (R.lt r hrL) (R.lt i hi) er
      show (if c = true then (rowAt _ _).2.1 else (rowAt _ _).2.2) = _
      rw [rowE]
      cases c
      · show placeOf num O (num (nxt T r false)) = _
        rw [e]
      · show placeOf num O (num (nxt T r true)) = _
        rw [e]
  · cases O with
    | nil => simp at hO0
    | cons a O =>
      have : a = start := by simpa using hO0
      subst this
      show 0 = ix (num a :: O.map num) (num a)
      exact (ix_head _ _).symm
theorem small_valid {T : Tbl} {num : Nat → Nat} {start : Nat} {L O : List Nat} (R : Reach T start L) (I : OrdInv num L O) (hO0 : O[0]? = some start) : Valid (smallTbl T num O) := by
  have hlen : (smallTbl T num O).length = O.length := by unfold smallTbl; rw [List.length_map]
  refine ⟨?_, fun r hr => ?_⟩
  · rw [hlen]
    cases O with
    | nil => simp at hO0
    | cons a O => simp
  · obtain ⟨x, hx, rfl⟩ := List.mem_map.mp hr
    rw [hlen]
    have hxL := I.sub x hx
    have f : ∀ c, placeOf num O (num (nxt T x c)) < O.length := fun c => by
      have := ix_lt (I.all _ (R.cl x hxL c))
      simpa [placeOf] using this
    exact ⟨f true, f false⟩

/-! ### joined -/
def joinTbl (A B : Tbl) : Tbl := A.flatMap fun a => B.map fun b => (a.1 && b.1, a.2.1 * B.length + b.2.1, a.2.2 * B.length + b.2.2)
theorem joinTbl_length (A B : Tbl) : (joinTbl A B).length = A.length * B.length := by
  unfold joinTbl
  induction A with
  | nil => simp
  | cons a A ih => rw [List.flatMap_cons, List.length_append, List.length_map, ih, List.length_cons, Nat.succ_mul]; omega
theorem joinTbl_get : ∀ {A B : Tbl} {i j : Nat}, i < A.length → j < B.length → (joinTbl A B)[i * B.length + j]? =
    some ((rowAt A i).1 && (rowAt B j).1, (rowAt A i).2.1 * B.length + (rowAt B j).2.1, (rowAt A i).2.2 * B.length + (rowAt B j).2.2)
  | [], B, i, j, hi, _ => by simp at hi
  | a :: A, B, 0, j, _, hj => by
    unfold joinTbl
    rw [List.flatMap_cons, Nat.zero_mul, Nat.zero_add, List.getElem?_append_left (by rw [List.length_map]; exact hj), List.getElem?_map, rowAt_get hj]
    rfl
  | a :: A, B, i + 1, j, hi, hj => by
    have ih := joinTbl_get (A := A) (B := B) (i := i) (j := j) (by simpa using hi) hj
    unfold joinTbl at ih ⊢
    rw [List.flatMap_cons, List.getElem?_append_right (by rw [List.length_map, Nat.succ_mul]; omega), List.length_map]
    rw [show (i + 1) * B.length + j - B.length = i * B.length + j by rw [Nat.succ_mul]; omega, ih]
    rfl
theorem join_valid {A B : Tbl} (va : Valid A) (vb : Valid B) : Valid (joinTbl A B) := by
  have hlt : ∀ {x y}, x < A.length → y < B.length → x * B.length + y < A.length * B.length := fun {x y} hx hy => by
    have : (x + 1) * B.length ≤ A.length * B.length := Nat.mul_le_mul_right _ hx
    rw [Nat.succ_mul] at this
    omega
  refine ⟨?_, fun r hr => ?_⟩
  · rw [joinTbl_length]; exact Nat.mul_pos va.pos vb.pos
  · rw [joinTbl_length]
    unfold joinTbl at hr
    obtain ⟨a, ha, hr⟩ := List.mem_flatMap.mp hr
    obtain ⟨b, hb, rfl⟩ := List.mem_map.mp hr
    exact ⟨hlt (va.rows a ha).1 (vb.rows b hb).1, hlt (va.rows a ha).2 (vb.rows b hb).2⟩
theorem join_beh {A B : Tbl} (va : Valid A) (vb : Valid B) : ∀ (w : List Bool) (i j : Nat), i < A.length → j < B.length → beh (joinTbl A B) (i * B.length + j) w = (beh A i w && beh B j w)
  | [], i, j, hi, hj => by
    show (rowAt (joinTbl A B) (i * B.length + j)).1 = ((rowAt A i).1 && (rowAt B j).1)
    rw [rowAt_of (joinTbl_get hi hj)]
  | c :: w, i, j, hi, hj => by
    have e : nxt (joinTbl A B) (i * B.length + j) c = nxt A i c * B.length + nxt B j c := by
      unfold nxt
      rw [rowAt_of (joinTbl_get hi hj)]
      cases c <;> rfl
    show beh (joinTbl A B) (nxt (joinTbl A B) (i * B.length + j) c) w = (beh A (nxt A i c) w && beh B (nxt B j c) w)
    rw [e]
    exact join_beh va vb w _ _ (va.nxt hi c) (vb.nxt hj c)

/-- a coarser partition with no fewer classes is the same one -/
theorem same_parts {f g : List Int} {n : Nat} (hf : f.length = n) (hg : g.length = n) (hfg : ∀ i j, i < n → j < n → f.getD i 0 = f.getD j 0 → g.getD i 0 = g.getD j 0) (hc : (dd f).length ≤ (dd g).length) :
    ∀ i j, i < n → j < n → g.getD i 0 = g.getD j 0 → f.getD i 0 = f.getD j 0 := by
  intro i j hi hj e
  have gAt : ∀ {y}, y ∈ dd g → g.idxOf y < n ∧ g.getD (g.idxOf y) 0 = y := fun {y} hy => by
    have h1 := List.idxOf_lt_length_iff.mpr (dd_mem.mp hy)
    refine ⟨hg ▸ h1, ?_⟩
    rw [List.getD_eq_getElem?_getD, List.getElem?_eq_getElem h1, List.getElem_idxOf h1]
    rfl
  have fIn : ∀ {x}, x < n → f.getD x 0 ∈ dd f := fun {x} hx => by
    rw [dd_mem, List.getD_eq_getElem?_getD, List.getElem?_eq_getElem (hf ▸ hx)]
    exact List.getElem_mem _
  have gIn : ∀ {x}, x < n → g.getD x 0 ∈ dd g := fun {x} hx => by
    rw [dd_mem, List.getD_eq_getElem?_getD, List.getElem?_eq_getElem (hg ▸ hx)]
    exact List.getElem_mem _
  let reps := (dd g).map fun y => f.getD (g.idxOf y) 0
  have rn : reps.Nodup := by
    show ((dd g).map _).Nodup
    rw [List.Nodup, List.pairwise_map]
    refine List.Pairwise.imp_of_mem ?_ (dd_nodup g)
    intro y z hy hz hne q
    obtain ⟨ly, ey⟩ := gAt hy
    obtain ⟨lz, ez⟩ := gAt hz
    have := hfg _ _ ly lz q
    rw [ey, ez] at this
    exact hne this
  have rs : ∀ v ∈ reps, v ∈ dd f := fun v hv => by
    obtain ⟨y, hy, rfl⟩ := List.mem_map.mp hv
    exact fIn (gAt hy).1
  have rl : reps.length = (dd g).length := List.length_map ..
  have key : ∀ x, x < n → g.getD x 0 = g.getD i 0 → f.getD x 0 = f.getD (g.idxOf (g.getD i 0)) 0 := fun x hx ex => by
    refine Classical.byContradiction fun hne => ?_
    have hni : f.getD x 0 ∉ reps := fun hm => by
      obtain ⟨z, hz, ez⟩ := List.mem_map.mp hm
      obtain ⟨lz, e2⟩ := gAt hz
      have e3 := hfg _ _ lz hx ez
      rw [e2, ex] at e3
      exact hne (by rw [← ez, e3])
    have h1 := nodup_sub_len (l := f.getD x 0 :: reps) (m := dd f) (List.nodup_cons.mpr ⟨hni, rn⟩) fun v hv => by
      rcases List.mem_cons.mp hv with q | q
      · rw [q]; exact fIn hx
      · exact rs v q
    rw [List.length_cons, rl] at h1
    omega
  rw [key i hi rfl, key j hj e.symm]

/-! ### row classes -/
abbrev K3 := Int × Int × Int
def keyAt (T : Tbl) (f : List Int) (i : Nat) : K3 := (f.getD i 0, f.getD (nxt T i true) 0, f.getD (nxt T i false) 0)
def keysTo (T : Tbl) (f : List Int) (i : Nat) : List K3 := dd ((List.range i).map (keyAt T f))
def laterTo (T : Tbl) (f : List Int) (i : Nat) : List Int := (List.range i).map fun j => ((ix (keysTo T f i) (keyAt T f j) : Nat) : Int)
theorem keysTo_succ (T : Tbl) (f : List Int) (i : Nat) : keysTo T f (i + 1) = dstep (keysTo T f i) (keyAt T f i) := by
  unfold keysTo
  rw [List.range_succ, List.map_append, List.map_singleton, dd_snoc]
theorem mem_keysTo {T : Tbl} {f : List Int} {i j : Nat} (h : j < i) : keyAt T f j ∈ keysTo T f i := dd_mem.mpr (List.mem_map.mpr ⟨j, List.mem_range.mpr h, rfl⟩)
theorem keysTo_len (T : Tbl) (f : List Int) (i : Nat) : (keysTo T f i).length ≤ i := by
  have := dd_len ((List.range i).map (keyAt T f))
  rwa [List.length_map, List.length_range] at this
theorem laterTo_succ (T : Tbl) (f : List Int) (i : Nat) : laterTo T f (i + 1) = laterTo T f i ++ [((ix (keysTo T f (i + 1)) (keyAt T f i) : Nat) : Int)] := by
  unfold laterTo
  rw [List.range_succ, List.map_append, List.map_singleton]
  congr 1
  refine List.map_congr_left fun j hj => ?_
  rw [keysTo_succ, ix_dstep (mem_keysTo (List.mem_range.mp hj))]
theorem laterTo_length (T : Tbl) (f : List Int) (i : Nat) : (laterTo T f i).length = i := by unfold laterTo; rw [List.length_map, List.length_range]
theorem laterTo_getD {T : Tbl} {f : List Int} {n i : Nat} (h : i < n) : (laterTo T f n).getD i 0 = ((ix (keysTo T f n) (keyAt T f i) : Nat) : Int) := by
  unfold laterTo
  rw [List.getD_eq_getElem?_getD, List.getElem?_map, List.getElem?_range h]
  rfl
theorem laterTo_iff {T : Tbl} {f : List Int} {n i j : Nat} (hi : i < n) (hj : j < n) : (laterTo T f n).getD i 0 = (laterTo T f n).getD j 0 ↔ keyAt T f i = keyAt T f j := by
  rw [laterTo_getD hi, laterTo_getD hj]
  refine ⟨fun h => ix_inj (mem_keysTo hi) (mem_keysTo hj) (Int.ofNat_inj.mp h), fun h => by rw [h]⟩
/-- what holds between two turns of the loop of row_classes -/
structure RcInv (T : Tbl) (f : List Int) (many : Nat) : Prop where
  len : f.length = T.length
  nn : ∀ v ∈ f, 0 ≤ v
  st : ∀ i j, i < T.length → j < T.length → f.getD i 0 = f.getD j 0 → stat T i = stat T j
  prev : many = 0 ∨ ∃ g : List Int, g.length = T.length ∧ many = (dd g).length ∧ ∀ i j, i < T.length → j < T.length → (f.getD i 0 = f.getD j 0 ↔ keyAt T g i = keyAt T g j)
def rc0 (T : Tbl) : List Int := T.map fun r => if r.1 then 1 else 0
theorem rc0_getD {T : Tbl} {i : Nat} (h : i < T.length) : (rc0 T).getD i 0 = if stat T i then 1 else 0 := by
  unfold rc0
  rw [List.getD_eq_getElem?_getD, List.getElem?_map, rowAt_get h]
  rfl
theorem RcInv.start (T : Tbl) : RcInv T (rc0 T) 0 := by
  refine ⟨by unfold rc0; rw [List.length_map], fun v hv => ?_, fun i j hi hj e => ?_, .inl rfl⟩
  · obtain ⟨r, _, rfl⟩ := List.mem_map.mp hv
    cases r.1 <;> decide
  · rw [rc0_getD hi, rc0_getD hj] at e
    cases h1 : stat T i <;> cases h2 : stat T j <;> rw [h1, h2] at e <;> first | rfl | exact absurd e (by decide)
theorem RcInv.turn {T : Tbl} {f : List Int} {many : Nat} (h : RcInv T f many) : RcInv T (laterTo T f T.length) (dd f).length := by
  refine ⟨laterTo_length T f _, fun v hv => ?_, fun i j hi hj e => ?_, .inr ⟨f, h.len, rfl, fun i j hi hj => laterTo_iff hi hj⟩⟩
  · obtain ⟨j, _, rfl⟩ := List.mem_map.mp hv
    exact Int.natCast_nonneg _
  · have := (laterTo_iff hi hj).mp e
    exact h.st i j hi hj (congrArg (·.1) this)
def numOf (f : List Int) (i : Nat) : Nat := (f.getD i 0).toNat
theorem getD_mem {f : List Int} {i : Nat} (h : i < f.length) : f.getD i 0 ∈ f := by
  rw [List.getD_eq_getElem?_getD, List.getElem?_eq_getElem h]
  exact List.getElem_mem _
theorem numOf_eq {T : Tbl} {f : List Int} {many : Nat} (h : RcInv T f many) {i : Nat} (hi : i < T.length) : ((numOf f i : Nat) : Int) = f.getD i 0 :=
  Int.toNat_of_nonneg (h.nn _ (getD_mem (h.len ▸ hi)))
/-- THE CLASSES at the loop's end -/
theorem RcInv.done {T : Tbl} (v : Valid T) {f : List Int} {many : Nat} (h : RcInv T f many) (e : ¬ many < (dd f).length) : Classes T (numOf f) := by
  have up : ∀ i j, i < T.length → j < T.length → numOf f i = numOf f j → f.getD i 0 = f.getD j 0 := fun i j hi hj q => by
    rw [← numOf_eq h hi, ← numOf_eq h hj, q]
  refine ⟨fun i j hi hj q => h.st i j hi hj (up i j hi hj q), fun i j c hi hj q => ?_⟩
  have hp : 0 < (dd f).length := dd_pos (by rw [h.len]; exact v.pos)
  rcases h.prev with z | ⟨g, lg, em, iff⟩
  · omega
  · have fg : ∀ i j, i < T.length → j < T.length → f.getD i 0 = f.getD j 0 → g.getD i 0 = g.getD j 0 := fun i j hi hj z => congrArg (·.1) ((iff i j hi hj).mp z)
    have gf := same_parts h.len lg fg (by omega)
    have k := (iff i j hi hj).mp (up i j hi hj q)
    have gn : g.getD (nxt T i c) 0 = g.getD (nxt T j c) 0 := by
      cases c
      · exact congrArg (fun z : K3 => z.2.2) k
      · exact congrArg (fun z : K3 => z.2.1) k
    unfold numOf
    rw [gf _ _ (v.nxt hi c) (v.nxt hj c) gn]
end SR
/-! Own rules, third part: len(set(..)) of a list of ints, of a tuple of different texts. -/
namespace SRO
open PySem PySem.Spec PyProof.Rows L2

theorem firstMet_dd (ns : List Int) : PyProof.Rows.firstMet (fun i => ns.getD i 0) ns.length = SR.dd ns := by
  unfold PyProof.Rows.firstMet SR.dd
  have e : (List.range ns.length).map (fun i => ns.getD i 0) = ns := by
    apply List.ext_getElem?
    intro i
    rw [List.getElem?_map]
    by_cases h : i < ns.length
    · rw [List.getElem?_range h, List.getElem?_eq_getElem h]
      simp [List.getElem?_eq_getElem h]
    · rw [List.getElem?_eq_none (by rw [List.length_range]; omega), List.getElem?_eq_none (by omega)]
      rfl
  rw [e]
  congr 1
  funext σ k
  unfold step_dedup SR.dstep
  by_cases h : k ∈ σ
  · rw [if_pos h, if_pos (List.any_eq_true.mpr ⟨k, h, by simp⟩)]
  · rw [if_neg h, if_neg (fun q => h ?_)]
    obtain ⟨x, hx, e⟩ := List.any_eq_true.mp q
    rw [← eq_of_beq e]
    exact hx
/-- len(set(xs)), xs a list of ints -/
def tLenSetL (K : PySem.W.Frag) (ta : TE) : TE := fun σ H Q => ta σ H fun x H1 => ∃ (l : Addr) (ns : List Int), x = .ref l ∧ SqL K H1 l (ns.map V.int) ∧ ns.length ≤ 4000 ∧ Q (.int ((SR.dd ns).length : Nat)) H1
theorem pe_lenSetL {X : Cx} {a : Expr} {ta : TE} {p p2 q pos : Pos} (hg : Gl X "len") (hm : X.mg "len" = none) (hg2 : Gl X "set") (hm2 : X.mg "set" = none) (ha : PE X a ta) (hc : X.calm = true := by rfl)
    (na : starEach [a] X.env = (false, eval a X.env) :: starEach [] X.env := by rfl) : PE X (.Call (.Name "len" p) [.Call (.Name "set" p2) [a] [] q] [] pos) (tLenSetL X.K ta) := by
  refine ⟨fun pins s σ H Q I h => ?_⟩
  refine Call_ (ld_blt I hg hm boot_len (PyProof.Rows.callWith_builtin1 (PyProof.Rows.args_cons ?_ rfl) rfl rfl))
  refine Call_ (ld_blt I hg2 hm2 boot_set (PyProof.Rows.callWith_type1 (PyProof.Rows.args_cons (thn (ha.run pins s σ H _ I h) fun v s1 ⟨x, H1, I1, r1, l, ns, ex, hq, hl, q1⟩ => PyProof.Rows.args_nil ?_) na) na rfl))
  subst ex
  obtain rfl : v = Value.ref l := r1
  obtain ⟨its, r, pl, hz⟩ := I1.list hq
  have hlen : its.toArray.size = ns.length := by rw [List.size_toArray, ← r.length, List.length_map]
  refine call_set_list (I1.ok.hd hc) pl.isList (by simpa using RZ.intsAre_vals r) (by rw [hlen]; unfold scanBound; omega) fun h' tk hS hk => PyProof.Rows.args_nil ?_
  rw [hlen, firstMet_dd] at hS
  obtain ⟨o, es, ep, t, ho, hex, hd, _, _, _, hf, hn⟩ := hS
  have hb : (SR.dd ns).length ≤ 4000 := Nat.le_trans (SR.dd_len ns) hl
  have I2 : Inv X pins σ H1 { s1 with heap := h', toks := tk } := I1.kept fun b o e => hk b o (Heap.lt_size e) e
  exact call_len_set ho hex hd hf (by rw [hn]; omega) ⟨.int (SR.dd ns).length, H1, I2.tok _, ⟨_, by rw [hn]⟩, q1⟩

/-! ### a set of different texts -/
theorem take_any {xs : List Str} {i : Nat} (nd : xs.Nodup) (h : i < xs.length) : (xs.take i).any (· == xs.getD i Str.empty) = false := by
  rw [List.any_eq_false]
  intro y hy e
  have ey : y = xs.getD i Str.empty := eq_of_beq e
  obtain ⟨j, hj, ej⟩ := List.getElem_of_mem hy
  have hj' : j < i := by
    rw [List.length_take] at hj
    omega
  have e1 : xs[j]'(by omega) = xs[i] := by
    rw [List.getElem_take] at ej
    rw [ej, ey, List.getD_eq_getElem?_getD, List.getElem?_eq_getElem h]
    rfl
  have := (List.getElem_inj nd).mp e1
  omega
theorem take_any_succ {xs : List Str} {i : Nat} (h : i < xs.length) (k : Str) : (xs.take (i + 1)).any (· == k) = ((xs.take i).any (· == k) || decide (k = xs.getD i Str.empty)) := by
  have e : xs.take (i + 1) = xs.take i ++ [xs.getD i Str.empty] := by
    rw [List.take_add_one, List.getElem?_eq_getElem h, List.getD_eq_getElem?_getD, List.getElem?_eq_getElem h]
    rfl
  rw [e, List.any_append]
  congr 1
  by_cases c : k = xs.getD i Str.empty
  · rw [c]
    simp
  · rw [decide_eq_false c]
    have z : (xs.getD i Str.empty == k) = false := beq_eq_false_iff_ne.mpr fun q => c q.symm
    rw [List.any_cons, z]
    rfl
section
variable {prog : Program} {w : World} {A : Around} {R : Result → Shared → Prop}
/-- the loop of set(..) over a walk of different texts -/
theorem set_texts_loop {I S : Addr} {fp wr : List Addr} {G : Array GenState → Array GenState → Prop} {P : Nat → Value → Prop} {St : Nat → Shared → Prop} {xs : List Str} (W : WalksS prog w A.in1 I fp wr G xs.length P St) (hSf : S ∉ fp)
    (nd : xs.Nodup) (few : xs.length ≤ 1000) (hval : ∀ i v, P i v → ∃ t, v = .str (xs.getD i Str.empty) t) (left : Nat) :
    ∀ (i : Nat) (s : Shared), i + left = xs.length → St i s → s.heap.SetOf (PySem.strKind prog w) S (fun k => (xs.take i).any (· == k)) i →
      (∀ s', Moved (S :: wr) G s s' → s'.heap.SetOf (PySem.strKind prog w) S (fun k => (xs.take xs.length).any (· == k)) xs.length → R (.ok (.ret .none)) s') →
      codeAny (model prog w) A (.builtin "set.update.loop" ⟨[.ref S, .ref I], []⟩) R s := by
  have out : S ∉ wr := fun z => hSf (W.sub _ z)
  have wider : ∀ b ∈ wr, b ∈ S :: wr := fun b z => List.mem_cons_of_mem _ z
  induction left with
  | zero =>
    intro i s hi hst hS hR
    rw [Nat.add_zero] at hi
    subst hi
    refine codeAny_builtin PyProof.Rows.F.entry_set_update_loop ?_
    rw [Around.under_plainId PyProof.Rows.F.plain_set_update_loop _]
    show wpAny _ A.in1 (pyNext (.ref I) >>= _) _ _ s
    refine wpAny_bind (W.done s _ _ hst fun s' hm => wpAny_pure (hR s' (hm.mono wider) ?_))
    obtain ⟨o, es, ep, t, ho, more⟩ := hS
    exact ⟨o, es, ep, t, hm.heap S _ out ho, more⟩
  | succ left ih =>
    intro i s hi hst hS hR
    have lt : i < xs.length := by omega
    refine codeAny_builtin PyProof.Rows.F.entry_set_update_loop ?_
    rw [Around.under_plainId PyProof.Rows.F.plain_set_update_loop _]
    show wpAny _ A.in1 (pyNext (.ref I) >>= _) _ _ s
    refine wpAny_bind (W.item i s _ _ lt hst fun v s' hP hst' hm => ?_)
    obtain ⟨t, rfl⟩ := hval i v hP
    have hS1 : s'.heap.SetOf (PySem.strKind prog w) S (fun k => (xs.take i).any (· == k)) i := by
      obtain ⟨o, es, ep, tb, ho, more⟩ := hS
      exact ⟨o, es, ep, tb, hm.heap S _ out ho, more⟩
    show wpAny _ A.in1 (holding [Value.str (xs.getD i Str.empty) t] (setAdd S (.str (xs.getD i Str.empty) t)) >>= _) _ _ s'
    unfold setAdd
    refine wpAny_bind (wpAny_holding (wpAny_holding (wpAny_bind ((PySem.strKind prog w).pyHash (k := xs.getD i Str.empty) (strKind_is _ _ _ _) ?_))))
    refine wpAny_setAddHashed_of (knd := PySem.strKind prog w) (s := { s' with toks := s'.toks + 1 }) (strKind_is _ _ _ _) rfl hS1 (by unfold scanBound; omega) fun h' sb hS2 => ?_
    rw [if_neg (by rw [take_any nd lt]; exact Bool.false_ne_true)] at hS2
    have hS3 := SetOf_congr (S' := fun k => (xs.take (i + 1)).any (· == k)) hS2 (fun k => (take_any_succ lt k).symm) rfl
    refine wpAny_pure ⟨plainId_quiet PyProof.Rows.F.plain_set_update_loop _, ih (i + 1) _ (by omega) (W.frame _ s' _ _ hst' (Nat.le_succ _) fun b hb o e => ?_) hS3 fun s2 hm2 hS4 => hR s2 (Moved.trans W.gtrans ((hm.mono wider).then_heap (Nat.le_succ _) fun b o hb e => ?_) hm2) hS4⟩
    · exact (sb.2 b fun z => hSf (z ▸ hb)).trans e
    · exact (sb.2 b fun z => hb (by rw [z]; exact List.mem_cons_self)).trans e
end
abbrev setObj0 (led : Bool) : Obj := { cls := .type "set", dict := none, data := .set #[] 0 (.fresh 0 0 led) }
abbrev tupIt0 (l : Addr) : Obj := { cls := .type "tuple_iterator", data := .fields #[.ref l, .int 0 0] }
section
variable {prog : Program} {w : World} {A : Around} {E : Value → Shared → Prop} {s : Shared}
/-- set(t), t a tuple of different texts -/
theorem set_of_texts {l : Addr} {items : Array Value} {xs : List Str} {Q : Value → Shared → Prop} (hh : A.handled = none) (hl : s.heap.IsTuple l items) (hi : PyProof.Rows.StrsAre items.toList xs) (nd : xs.Nodup) (few : xs.length ≤ 1000)
    (h : ∀ (h' : Heap) (tk : Nat), h'.SetOf (PySem.strKind prog w) s.heap.objs.size (fun k => (xs.take xs.length).any (· == k)) xs.length → (∀ b o, s.heap.get? b = some o → h'.get? b = some o) → Q (.ref s.heap.objs.size) { s with heap := h', toks := tk }) :
    wpAny (model prog w) A (call (.type "set") [.ref l]) Q E s := by
  have size : items.size = xs.length := by rw [← StrsAre.len_eq hi, Array.length_toList]
  obtain ⟨c, tl, hmro⟩ := PySem.F.called_set.mro
  have hmade := PySem.F.called_set.made
  have hsub := PySem.F.called_set.sub
  have h1 := PySem.F.called_set.notType
  have h2 := PySem.F.called_set.canCreate
  have hct := PySem.F.typeCall_set_1 (.ref l)
  refine wpAny_call (codeAny_of_tree ?_)
  show wpAny _ _ (callAny (.type "set") _) _ _ _
  refine wpAny_pure ⟨Code.quiet_builtin _ (by decide +kernel), codeAny_builtin PySem.F.entry_type_call ?_⟩
  rw [Around.under_plain (weight_type_call_type "set" [.ref l] []) rfl]
  repeat (any_goals (first | assumption | wp_step))
  refine codeAny_mono (code_set_new_1 (.ref l) (E := E) (Q₁ := fun obj s₁ => ∃ led : Bool, obj = .ref s.heap.objs.size ∧ s₁ = { s with heap := s.heap.push (setObj0 led) }) fun led => ⟨led, rfl, rfl⟩) fun r s₁ hr => ?_
  match r, hr with
  | .error e, hr => exact hr
  | .ok (.next), hr => exact hr.elim
  | .ok (.brk), hr => exact hr.elim
  | .ok (.cont), hr => exact hr.elim
  | .ok (.ret obj), hr =>
    obtain ⟨led, rfl, rfl⟩ := hr
    have at0 : (s.heap.push (setObj0 led)).get? s.heap.objs.size = some (setObj0 led) := Heap.get?_push_size _ rfl
    have hT : Shared.TypeIs { s with heap := s.heap.push (setObj0 led) } (.ref s.heap.objs.size) "set" := ⟨_, at0, rfl⟩
    have hli := PySem.F.called_set.init.lookup
    have hbi := PySem.F.called_set.init.bind (.ref s.heap.objs.size)
    repeat (any_goals (first | assumption | wp_step))
    refine codeAny_mono (codeAny_call_builtin (R := wants (fun r s₂ => r = .none ∧ ∃ h' tk, s₂ = { s with heap := h', toks := tk } ∧ h'.SetOf (PySem.strKind prog w) s.heap.objs.size (fun k => (xs.take xs.length).any (· == k)) xs.length ∧
      (∀ b o, s.heap.get? b = some o → h'.get? b = some o)) E) PySem.F.called_set.init.plain PySem.F.entry_set_init (check_set_init_1 hT ?_)) fun r₂ s₂ hr₂ => ?_
    · obtain ⟨⟨ocls, od, odata, osl⟩, hol, hcl, nl, hdl⟩ := hl
      obtain rfl : ocls = .type "tuple" := hcl
      obtain rfl : odata = .seq items nl := hdl
      have lt : l < s.heap.objs.size := Heap.lt_size hol
      have hol' := Heap.get?_push_of_some (setObj0 led) hol
      have hsls := PySem.F.sub_tuple_set
      have hslf := PySem.F.sub_tuple_frozenset
      have hne : (Value.type "tuple" == Value.type "dict") = false := by decide
      have tl1 : (s.heap.push (setObj0 led)).IsTuple l items := ⟨_, hol', rfl, nl, rfl⟩
      have sz1 : (s.heap.push (setObj0 led)).objs.size = s.heap.objs.size + 1 := Heap.size_push ..
      unfold Builtin.«set.__init__» noKeywords Builtin.Frozenset.updateFrom
      generalize hPI : pyIter = PI
      wp_walk
      subst hPI
      refine wpAny_pyIter_tuple tl1 (wpAny_bind (wpAny_runValue ?_))
      have apart : l ≠ (s.heap.push (setObj0 led)).objs.size := by rw [sz1]; exact Nat.ne_of_lt (Nat.lt_succ_of_lt lt)
      have W := (Walks.tuple (prog := prog) (w := w) (A := A.in1.in1.in1) (by simp [hh]) (s.heap.push (setObj0 led)).objs.size l apart items).toS
      rw [size] at W
      refine set_texts_loop W (by rw [sz1]; simp only [List.mem_cons, List.not_mem_nil, or_false, not_or]; exact ⟨Nat.ne_of_lt (Nat.lt_succ_self _), Nat.ne_of_gt lt⟩) nd few (fun i v hv => SS.strs_at hi i v (by rw [Array.getElem?_toList]; exact hv)) xs.length 0 _ (Nat.zero_add _) ⟨⟨_, Heap.get?_push_size _ rfl, rfl, rfl⟩, tl1.push _⟩ ?_ fun s' hm hS' => ?_
      · exact SetOf_congr ((PyProof.Rows.setObjOf_fresh (knd := PySem.strKind prog w) led).setOf (Heap.get?_push_of_some _ at0) (by unfold scanBound; omega)) (fun _ => rfl) rfl
      · obtain ⟨h', g', d', tk', os'⟩ := s'
        obtain rfl : g' = s.gens := hm.gens
        obtain rfl : d' = s.drawn := hm.drawn
        obtain rfl : os' = s.os := hm.os
        refine wpAny_pure (wpAny_pure ⟨rfl, h', tk', rfl, hS', fun b o e => ?_⟩)
        have lb := Heap.lt_size e
        refine hm.heap b o ?_ (Heap.get?_push_of_some _ (Heap.get?_push_of_some _ e))
        rw [sz1]
        simp only [List.mem_cons, List.not_mem_nil, or_false, not_or]
        exact ⟨Nat.ne_of_lt lb, Nat.ne_of_lt (Nat.lt_succ_of_lt lb)⟩
    · match r₂, hr₂ with
      | .error e, hr₂ => exact hr₂
      | .ok (.next), hr₂ => exact hr₂.elim
      | .ok (.brk), hr₂ => exact hr₂.elim
      | .ok (.cont), hr₂ => exact hr₂.elim
      | .ok (.ret r), hr₂ =>
        obtain ⟨rfl, h', tk, rfl, hS', hk'⟩ := hr₂
        repeat (any_goals (first | assumption | wp_step))
        exact h _ _ hS' hk'
end
/-- len(set(t)), t a tuple of different texts -/
def tLenSetT (K : PySem.W.Frag) (ta : TE) : TE := fun σ H Q => ta σ H fun x H1 => ∃ (l : Addr) (xs : List Str), x = .ref l ∧ SqT K H1 l (xs.map V.str) ∧ xs.Nodup ∧ xs.length ≤ 1000 ∧ Q (.int (xs.length : Nat)) H1
theorem pe_lenSetT {X : Cx} {a : Expr} {ta : TE} {p p2 q pos : Pos} (hg : Gl X "len") (hm : X.mg "len" = none) (hg2 : Gl X "set") (hm2 : X.mg "set" = none) (ha : PE X a ta) (hc : X.calm = true := by rfl)
    (na : starEach [a] X.env = (false, eval a X.env) :: starEach [] X.env := by rfl) : PE X (.Call (.Name "len" p) [.Call (.Name "set" p2) [a] [] q] [] pos) (tLenSetT X.K ta) := by
  refine ⟨fun pins s σ H Q I h => ?_⟩
  refine Call_ (ld_blt I hg hm boot_len (PyProof.Rows.callWith_builtin1 (PyProof.Rows.args_cons ?_ rfl) rfl rfl))
  refine Call_ (ld_blt I hg2 hm2 boot_set (PyProof.Rows.callWith_type1 (PyProof.Rows.args_cons (thn (ha.run pins s σ H _ I h) fun v s1 ⟨x, H1, I1, r1, l, xs, ex, hq, hnd, hl, q1⟩ => PyProof.Rows.args_nil ?_) na) na rfl))
  subst ex
  obtain rfl : v = Value.ref l := r1
  obtain ⟨its, r, pl, hz⟩ := I1.tuple hq
  refine set_of_texts (I1.ok.hd hc) pl (by simpa using strsAre_of r) hnd hl fun h' tk hS hk => PyProof.Rows.args_nil ?_
  obtain ⟨o, es, ep, t, ho, hex, hd, _, _, _, hf, hn⟩ := hS
  have I2 : Inv X pins σ H1 { s1 with heap := h', toks := tk } := I1.kept hk
  exact call_len_set ho hex hd hf (by rw [hn]; omega) ⟨.int xs.length, H1, I2.tok _, ⟨_, by rw [hn]⟩, q1⟩
end SRO
/-! Own rules, fourth part: defs that close over __class__ and call super(). -/
namespace SRO
open PySem PySem.Spec PyProof.Rows L2

/-! ### calls by positions and keywords -/
/-- f(us, ks = ws) keeps a promise told of both lists -/
def FnK (P : Program) (w : World) (K : PySem.W.Frag) (mg : Str → Option Value) (base : Heap) (CX : CXT) (k : Nat) (f : Addr) (ks : List Str) (sp : List V → Sp) : Prop :=
  ∀ (A : Around) (outer : List Env) (s : Shared) (H : Hp) (us ws : List Value) (vs zs : List V) (Q : VK) (E : XK), Room k A → Env0 P w K mg base A outer s H → Vals vs us → Vals zs ws → zs.length = ks.length → sp zs vs H Q E →
    codeAny (model P w) A (.call (.ref f) ⟨us, ks.zip ws⟩) (CR CX outer P w H s Q E) s
section
variable {X : Cx} {pins : List (Addr × Obj)} {σ : L2.St} {H : Hp} {s : Shared}
theorem run_fnK {CX : CXT} {k : Nat} {f : Addr} {ks : List Str} {sp : List V → Sp} {E : XK} {Q : VK} {us ws : List Value} {vs zs : List V} (F : FnK X.prog X.w X.K X.mg X.base CX k f ks sp) (hr : Room k X.A) (hx : Passes CX X E) (I : Inv X pins σ H s) (r : Vals vs us) (rz : Vals zs ws) (hl : zs.length = ks.length) (h : sp zs vs H Q E) :
    codeAny (model X.prog X.w) X.A (.call (.ref f) ⟨us, ks.zip ws⟩) (wants (EP X pins σ Q) X.xe) s := by
  refine codeAny_mono (F X.A X.stack s H us ws vs zs Q E hr I.env0 r rz hl h) fun r s' hq => ?_
  cases r with
  | error e => exact hx pins σ H s e s' I hq
  | ok fl =>
    cases fl with
    | ret u => exact I.after hq
    | next => exact False.elim hq
    | brk => exact False.elim hq
    | cont => exact False.elim hq
end

/-! ### the context of such a def's body -/
structure SupScope (N P : List Str) (sc : Scope) : Prop where
  kind : sc.kind = .function
  co : sc.isCoroutine = false
  gen : sc.isGenerator = false
  nd : N.Nodup
  pre : N.take P.length = P
  par : ∀ x ∈ P, sc.names.lookup x = some .local
  nocell : ∀ y ∈ sc.names, y.2 ≠ .cell
  fr : ∀ y ∈ sc.names, y.2 = .free → y.1 = ("__class__" : Str)
abbrev envS (qual : Str) (scope : Scope) (L f : Addr) (cd : Value) (cc : Addr) : Env := PySem.W.ksEnv qual scope L f cd cc
def cxS (CX : CXT) (P : Program) (w : World) (K : PySem.W.Frag) (mg : Str → Option Value) (base : Heap) (N : List Str) (qual : Str) (scope : Scope) (f : Addr) (cd : Value) (cc : Addr) (A : Around) (outer : List Env) (s : Shared) (H : Hp) (E : XK) : Cx where
  prog := P
  w := w
  K := K
  mg := mg
  base := base
  A := A.deeper (envS qual scope s.heap.objs.size f cd cc)
  N := N
  s_0 := s
  H_0 := H
  env := envS qual scope s.heap.objs.size f cd cc
  outer := outer
  stack := envS qual scope s.heap.objs.size f cd cc :: outer
  ex := []
  calm := true
  fn := fun _ => false
  pn := []
  xe := fun e s' => wpAny (model P w) (A.deeper (envS qual scope s.heap.objs.size f cd cc)) (leaving (envS qual scope s.heap.objs.size f cd cc) e) (fun _ s'' => CX outer H s E e s'') (fun e' s'' => CX outer H s E e' s'') s'
theorem zip_rev_lookup : ∀ {P : List Str} {us : List Value} {i : Nat} {x : Str} {u : Value}, P.Nodup → P[i]? = some x → us[i]? = some u → (P.zip us).reverse.lookup x = some u
  | [], _, _, _, _, _, h, _ => by simp at h
  | _ :: _, [], _, _, _, _, _, h => by simp at h
  | p :: P, v :: us, i, x, u, nd, h1, h2 => by
    obtain ⟨n1, n2⟩ := List.nodup_cons.mp nd
    rw [List.zip_cons_cons, List.reverse_cons, List.lookup_append]
    cases i with
    | zero =>
      have e1 : p = x := by simpa using h1
      have e2 : v = u := by simpa using h2
      subst e1 e2
      have none : (P.zip us).reverse.lookup p = Option.none := by
        rw [List.lookup_eq_none_iff]
        intro q hq
        have : q.1 ∈ P := (List.of_mem_zip (List.mem_reverse.mp hq)).1
        simp only [beq_eq_false_iff_ne, bne_iff_ne, ne_eq]
        intro e
        exact n1 (e ▸ this)
      rw [none]
      simp
    | succ i =>
      rw [zip_rev_lookup (i := i) n2 (by simpa using h1) (by simpa using h2)]
      rfl
theorem inv_startS {CX : CXT} {P : Program} {w : World} {K : PySem.W.Frag} {mg : Str → Option Value} {base : Heap} {N ps : List Str} {qual : Str} {scope : Scope} {f : Addr} {cd : Value} {cc : Addr} {A : Around} {outer : List Env} {s : Shared} {H : Hp} {E : XK} {us : List Value} {vs : List V} {h0 : Heap} {tk : Nat}
    (S : SupScope N ps scope) (hd : A.handled = none) (e0 : Env0 P w K mg base A outer s H) (hl : vs.length = ps.length) (r : Vals vs us) (hcc : ∃ o v, K.lookup cc = some o ∧ o.data = .cell (some v))
    (hns : h0.Ns s.heap.objs.size (fun x => (ps.zip us).reverse.lookup x)) (hk : ∀ b o, s.heap.get? b = some o → h0.get? b = some o) :
    Inv (cxS CX P w K mg base N qual scope f cd cc A outer s H E) [] (start N vs) H { s with heap := h0, toks := tk } := by
  have hpl : ps.length ≤ N.length := by
    have := congrArg List.length S.pre
    rw [List.length_take] at this
    omega
  obtain ⟨occ, vcc, lcc, dcc⟩ := hcc
  have bcc : base.get? cc = some occ := e0.mod.kin _ _ lcc
  have scc := e0.bs _ _ bcc
  have only : ∀ y c, ([(("__class__" : Str), cc)] : List (Str × Addr)).lookup y = some c → y = ("__class__" : Str) ∧ c = cc := fun y c h => by
    rw [List.lookup_cons] at h
    split at h
    · rename_i q
      exact ⟨eq_of_beq q, (Option.some.inj h).symm⟩
    · cases h
  have noA : ∀ b : Addr, b ∉ ([] : List Addr) := fun b => by simp
  refine ⟨⟨e0.mod, S.kind, rfl, rfl, Nat.le_refl _, fun y z c h1 h2 => ?_, fun y hy => ?_, fun y c h _ => ?_, fun _ => hd, Around.frames_deeper e0.frames, .inr ⟨rfl, rfl⟩, fun b z => absurd z (noA b), e0.bs, e0.bsz, fun b _ _ => noA b, fun b z => absurd z (noA b), e0.funs, e0.frf⟩,
    rfl, e0.bare, Un.kept hk, ⟨_, hns, fun i y v h1 h2 h3 => ?_⟩, fun y c h => ?_, e0.hok.fresh (Nat.le_refl _), fun y c h => ?_, fun p hp => absurd (show p ∈ ([] : List (Addr × Obj)) from hp) (by simp), e0.hok.kept hk, ?_⟩
  · exact (only y c h1).1.trans (only z c h2).1.symm
  · have hy : scope.names.lookup y = some .cell ∨ scope.names.lookup y = some .free := hy
    rcases hy with hy | hy
    · exact absurd rfl (S.nocell _ (PySem.mem_of_lookup hy))
    · have e := S.fr _ (PySem.mem_of_lookup hy) rfl
      exact ⟨cc, by rw [show y = ("__class__" : Str) from e]; rfl⟩
  · exact absurd h (by simp [cxS])
  · have hi : i < vs.length := by
      refine Classical.byContradiction fun hi => ?_
      unfold L2.start at h2
      rw [List.getElem?_append_right (by simpa using hi), List.getElem?_replicate] at h2
      split at h2 <;> cases h2
    have ha : vs[i]? = some v := by
      unfold L2.start at h2
      rw [List.getElem?_append_left (by simpa using hi), List.getElem?_map] at h2
      cases e : vs[i]? with
      | none => rw [e] at h2; cases h2
      | some a => rw [e] at h2; cases h2; rfl
    obtain ⟨u, hu, rv⟩ := r.get ha
    have hp : ps[i]? = some y := by
      rw [← S.pre, List.getElem?_take_of_lt (by omega)]
      exact h1
    have ndP : ps.Nodup := by
      rw [← S.pre]
      exact S.nd.sublist (List.take_sublist _ _)
    exact ⟨u, rv, .inl ⟨S.par y (List.mem_of_getElem? hp), zip_rev_lookup ndP hp hu⟩⟩
  · obtain ⟨_, rfl⟩ := only y c h
    exact ⟨some vcc, occ, hk _ _ scc.1, dcc⟩
  · obtain ⟨_, rfl⟩ := only y c h
    exact scc.2
  · unfold L2.start
    show _ = N.length
    rw [List.length_append, List.length_map, List.length_replicate]
    omega

/-! ### judgements at the def's own code -/
structure PSsAt (X : Cx) (body st : List Stmt) (t : TS) : Prop where
  run : ∀ (pins : List (Addr × Obj)) (s : Shared) (σ : L2.St) (H : Hp) (D : Ends), Inv X pins σ H s → t D σ H → _root_.PySem.wpAt (model X.prog X.w) X.A (.func body X.env) (execs st X.env) (SP X pins D) X.xe s
structure PSAt (X : Cx) (body : List Stmt) (st : Stmt) (t : TS) : Prop where
  run : ∀ (pins : List (Addr × Obj)) (s : Shared) (σ : L2.St) (H : Hp) (D : Ends), Inv X pins σ H s → t D σ H → _root_.PySem.wpAt (model X.prog X.w) X.A (.func body X.env) (exec st X.env) (SP X pins D) X.xe s
structure PEAt (X : Cx) (body : List Stmt) (e : Expr) (t : TE) : Prop where
  run : ∀ (pins : List (Addr × Obj)) (s : Shared) (σ : L2.St) (H : Hp) (Q : VK), Inv X pins σ H s → t σ H Q → _root_.PySem.wpAt (model X.prog X.w) X.A (.func body X.env) (eval e X.env) (EP X pins σ Q) X.xe s
section
variable {X : Cx} {body : List Stmt} {st : Stmt} {rest : List Stmt} {t u : TS} {e : Expr} {te : TE}
theorem psa_cons (a : PSAt X body st t) (b : PSs X rest u) : PSsAt X body (st :: rest) (tSeq t u) := by
  refine ⟨fun pins s σ H D I h => ?_⟩
  refine ks_wpAt_execs_cons (ks_wpAt_mono (a.run pins s σ H _ I h) (fun f s' hf => ?_) fun _ _ x => x)
  cases f with
  | next =>
    obtain ⟨σ', H', I', q⟩ := hf
    exact wpAt_of_wpAny (b.run pins s' σ' H' D I' q)
  | brk => exact hf
  | cont => exact hf
  | ret v => exact hf
theorem psa_one (a : PSAt X body st t) : PSsAt X body [st] (tSeq t tNext) := psa_cons a pss_nil
theorem psa_set {i : Nat} {x : Str} {pos' pos : Pos} (hN : X.N.Nodup) (hi : X.N[i]? = some x) (hx : X.env.scope.names.lookup x = some .local) (he : PEAt X body e te)
    (hs : swapsWith e (some (.Name x pos')) pos.line X.env = pure false := by rfl) : PSAt X body (.Assign [.Name x pos'] e pos) (tAsg te (gName i)) := by
  refine ⟨fun pins s σ H D I h => ?_⟩
  refine ks_wpAt_Assign_Name (ks_wpAt_mono (he.run pins s σ H _ I h) (fun v s1 ⟨y, H1, I1, ry, q⟩ => ?_) fun _ _ x => x) hs
  exact store_ok I1 hN hi (.inl hx) ry (fun s' I' => ⟨_, H1, I', q⟩) (.inr hx)
def tExprS (te : TE) : TS := fun D σ H => te σ H fun _ H1 => D.nx σ H1
theorem psa_expr {pos : Pos} (he : PEAt X body e te) (hi : interactive X.env = false := by rfl) (hs : swapsWith e none pos.line X.env = pure false := by rfl) : PSAt X body (.Expr e pos) (tExprS te) := by
  refine ⟨fun pins s σ H D I h => ?_⟩
  exact ks_wpAt_Expr_any (ks_wpAt_mono (he.run pins s σ H _ I h) (fun v s1 ⟨y, H1, I1, ry, q⟩ => ⟨σ, H1, I1, q⟩) fun _ _ x => x) hi hs
end
/-- what the def's frame and its text say of super() -/
structure SupOk (K : PySem.W.Frag) (P : Program) (env : Env) (sf : Str) (D cc : Addr) : Prop where
  hks : env.kindOf "super" = some .globalImplicit
  hkc : env.kindOf "__class__" = some .free
  cells : env.cells.lookup ("__class__" : Str) = some cc
  slf : env.kindOf sf = some .local
  fn : ∃ f of fd ar, env.func = some f ∧ K.lookup f = some of ∧ of.data = .func fd ∧ (fd.params.posonlyargs ++ fd.params.args).head? = some ar ∧ ar.arg = sf
  cd : ∃ c oc vs file tf, env.code = .ref c ∧ K.lookup c = some oc ∧ oc.data = .fields vs ∧ vs[2]? = some (.str file tf) ∧ ((P.main.file : Str) == file) = true
  cell : ∃ o, K.lookup cc = some o ∧ o.data = .cell (some (.ref D))
  cls : ∃ oD cdD, K.lookup D = some oD ∧ oD.data = .cls cdD
  top : (P.main.scope.names.lookup ("super" : Str)).isSome = false
theorem boot_super' : bootBuiltins "super" = some (.type "super") := by first | boot_by_name | rfl | kernel_rfl
section
variable {X : Cx} {body : List Stmt} {pins : List (Addr × Obj)} {σ : L2.St} {H : Hp} {s : Shared} {self m : Str} {D cc C a dx g : Addr} {fs : List (Str × V)} {i : Nat} {E : Value → Shared → Prop}
theorem super_ok {p0 p1 : Pos} {whole : Sem Value} {Q : Value → Shared → Prop} (S : SupOk X.K X.prog X.env self D cc) (hm : X.mg "super" = none) (hN : X.N[i]? = some self) (I : Inv X pins σ H s) (hσ : σ[i]? = some (some (.ref a))) (ea : H a = some (.ins C dx fs))
    (hsub : PySem.W.mroIn X.K C (.ref D) = some true) (hat : (m == ("__class__" : Str)) = false)
    (h : ∀ so s', s'.heap.get? so = some (PySem.W.ks_superObj D a C) → Inv X pins σ H s' → Q (.ref so) s') :
    _root_.PySem.wpAt (model X.prog X.w) X.A (.func body X.env) (attributeBase (.Call (.Name "super" p0) [] [] p1) m X.env whole) Q E s := by
  obtain ⟨f, of, fd, ar, f1, f2, f3, f4, f5⟩ := S.fn
  obtain ⟨c, oc, vs, file, tf, c1, c2, c3, c4, c5⟩ := S.cd
  obtain ⟨occ, e1, e2⟩ := S.cell
  obtain ⟨oD, cdD, d1, d2⟩ := S.cls
  obtain ⟨_, _, J⟩ := inst_of I ea
  have KX := I.kIn
  obtain ⟨mb, b1, b2⟩ := I.mod.blt
  refine ks_wpAt_super_base S.hks S.hkc hat f1 (KX _ _ f2) f3 f4 c1 (KX _ _ c2) c3 c4 c5 S.top ?_
  refine PySem.W.ks_loadName_global I.ok.kind S.hks (Calls.loadGlobal_builtin (by rw [I.ok.glob]; exact I.mod.glob.keeps I.bk) hm (by rw [I.ok.blt]; exact b1.keeps I.bk) ((b2 "super" (by decide)).trans boot_super') ⟨rfl, ?_⟩)
  refine wpAny_loadName_free I.ok.kind S.hkc S.cells ⟨occ, KX _ _ e1, e2⟩ ?_
  rw [f5]
  obtain ⟨mm, hn, hl⟩ := I.loc
  have vis : Vis X.env.scope self := .inl S.slf
  obtain ⟨u, ru, hu⟩ := hl i self _ hN hσ vis
  obtain rfl : u = Value.ref a := ru
  have hu' : mm self = some (Value.ref a) := by
    rcases hu with ⟨_, q⟩ | ⟨k, _⟩
    · exact q
    · rw [S.slf] at k
      rcases k with k | k <;> cases k
  refine wpAny_loadName_local I.ok.kind S.slf hn hu' ?_
  obtain ⟨hh, gg, dd, tt, os⟩ := s
  refine ks_wpAny_isType_cls (KX _ _ d1) d2 ⟨rfl, ?_⟩
  refine ks_wpAny_call_super (KX _ _ d1) d2 J.at_ J.cls (fun c e => ?_) (PySem.W.looks_mroIn KX hsub) (fun h' e k => ?_)
  · have q := J.no
    unfold PySem.W.notCls at q
    rw [e] at q
    exact Bool.noConfusion q
  · exact h _ _ e (I.kept (t' := tt) k)
/-- what the class of the instance gives behind D, bound -/
theorem supmeth_ok {so : Addr} {pl : Sem Bool} {Q : Value × List Value → Shared → Prop} (I : Inv X pins σ H s) (hso : s.heap.get? so = some (PySem.W.ks_superObj D a C)) (ea : H a = some (.ins C dx fs)) (ho : PySem.W.nsIn X.K cStatics "thirdparty.any" = some none)
    (hm : PySem.W.ks_superIn X.K C D m = some (some (.ref g))) (ht : PySem.W.typeIn X.K (.ref g) = some (.type "function")) (hn : (m == ("__class__" : Str)) = false)
    (h : ∀ q s', H q = none → Inv X pins σ (upd H q (.met g a)) s' → Q (.ref q, []) s') : wpAny (model X.prog X.w) X.A (getMethod (.ref so) m pl) Q E s := by
  have KX := I.kIn
  obtain ⟨_, _, J⟩ := inst_of I ea
  obtain ⟨hh, gg, dd, tt, os⟩ := s
  cases hc : PySem.W.clsIn X.K C with
  | none =>
    unfold PySem.W.ks_superIn at hm
    rw [hc] at hm
    cases hm
  | some cd =>
    unfold PySem.W.ks_superIn at hm
    rw [hc] at hm
    obtain ⟨of, hof, hofc⟩ : ∃ of, hh.get? g = some of ∧ of.cls = .type "function" := by
      have ht' : (X.K.lookup g).map (·.cls) = some (.type "function") := ht
      cases z : X.K.lookup g with
      | none =>
        rw [z] at ht'
        cases ht'
      | some of =>
        rw [z] at ht'
        exact ⟨of, KX _ _ z, Option.some.inj ht'⟩
    refine ks_wpAny_getMethod_super hso (PySem.W.looks_opaque KX ho) (l₀ := cd.mro) (fun A Q E s k q => wpAny_bind ((PySem.W.looks_clsIn KX hc) A _ E s k (wpAny_pure q))) rfl KX hm hof hofc (PySem.W.ks_ne KX J hc) hn ?_
    refine h hh.objs.size _ (I.hok.fresh (Nat.le_refl _)) ?_
    exact I.laid (t' := tt + 1) (a := hh.objs.size) (o := .met g a) (fun b u z => Heap.get?_push_of_some _ z) (Nat.le_refl _)
      (show (hh.push (PySem.W.methodObj (.ref g) (.ref a))).get? hh.objs.size = some (PySem.W.methodObj (.ref g) (.ref a)) from Heap.get?_push_size hh rfl)
/-- super().m(e, ..) -/
def tSup (i : Nat) (C g : Addr) (sp : Sp) (E : XK) (t : TA) : TE := fun σ H Q => ∃ a dx fs, σ[i]? = some (some (.ref a)) ∧ H a = some (.ins C dx fs) ∧ ∀ q, H q = none → t σ (upd H q (.met g a)) fun vs H2 => H2 q = some (.met g a) ∧ sp (.ref a :: vs) H2 Q E
theorem pea_super {CX : CXT} {k : Nat} {sp : Sp} {E : XK} {e : Expr} {es : List Expr} {t : TA} {p0 p1 apos pos : Pos} {pl : Sem Bool} (S : SupOk X.K X.prog X.env self D cc) (hm : X.mg "super" = none) (hN : X.N[i]? = some self) (hsub : PySem.W.mroIn X.K C (.ref D) = some true)
    (ho : PySem.W.nsIn X.K cStatics "thirdparty.any" = some none) (hg : PySem.W.ks_superIn X.K C D m = some (some (.ref g))) (ht : PySem.W.typeIn X.K (.ref g) = some (.type "function")) (hfi : PySem.W.fnIn X.K g = true) (F : FnR X.prog X.w X.K X.mg X.base CX k g sp) (hr : Room k X.A) (hx : Passes CX X E) (ha : PA X (e :: es) t)
    (hn : (m == ("__class__" : Str)) = false := by decide) (hst : starEach (e :: es) X.env = (false, eval e X.env) :: starEach es X.env := by rfl) (hpl : (backTo pos (starEach es X.env)).any (·.1) = false := by rfl)
    (he : eval (.Call (.Attribute (.Call (.Name "super" p0) [] [] p1) m apos) (e :: es) [] pos) X.env = (do
      let ov ← attributeBase (.Call (.Name "super" p0) [] [] p1) m X.env (eval (.Call (.Name "super" p0) [] [] p1) X.env)
      standAt apos.atName
      let (f, first) ← holding [ov] (getMethod ov m pl)
      callWith pos f first (backTo pos (starEach (e :: es) X.env)) []) := by rfl) : PEAt X body (.Call (.Attribute (.Call (.Name "super" p0) [] [] p1) m apos) (e :: es) [] pos) (tSup i C g sp E t) := by
  refine ⟨fun pins s σ H Q I h => ?_⟩
  obtain ⟨a, dx, fs, hσ, ea, h⟩ := h
  refine ks_wpAt_MethodCall (pl := pl) (super_ok S hm hN I hσ ea hsub hn fun so s1 hso I1 => ?_) he
  refine supmeth_ok I1 hso ea ho hg ht hn fun q s2 hq I2 => ?_
  refine callwith_met (a := a) (by rw [hst]; show (false || (backTo pos (starEach es X.env)).any (·.1) || _) = false; rw [hpl]; rfl) hfi ?_
  have z := ha.run pos pins s2 σ _ _ I2 (h q hq)
  rw [hst] at z ⊢
  refine Calls.evalArgs_plain (thn z fun us s3 ⟨vs, H3, I3, r, hq3, hsp⟩ => ?_)
  exact ⟨met_P I3 hq3, wpAny_call (PySem.W.method_call (met_P I3 hq3).1 (run_fnR (us := Value.ref a :: us) (vs := V.ref a :: vs) F hr hx I3 (.cons rfl r) hsp))⟩
end
end SRO
/-! Own rules, fifth part: super().m(e, *y, k = v); how such defs are entered. -/
namespace SRO
open PySem PySem.Spec PyProof.Rows L2
section
variable {X : Cx} {body : List Stmt} {pins : List (Addr × Obj)} {σ : L2.St} {H : Hp} {s : Shared} {self m : Str} {D cc C a dx g : Addr} {fs : List (Str × V)} {i : Nat} {E : Value → Shared → Prop}
theorem superattr_ok {so : Addr} {b : Bool} {Q : Value → Shared → Prop} (I : Inv X pins σ H s) (hso : s.heap.get? so = some (PySem.W.ks_superObj D a C)) (ea : H a = some (.ins C dx fs)) (ho : PySem.W.nsIn X.K cStatics "thirdparty.any" = some none)
    (hm : PySem.W.ks_superIn X.K C D m = some (some (.ref g))) (ht : PySem.W.typeIn X.K (.ref g) = some (.type "function")) (hn : (m == ("__class__" : Str)) = false)
    (h : ∀ q s', H q = none → Inv X pins σ (upd H q (.met g a)) s' → Q (.ref q) s') : wpAny (model X.prog X.w) X.A (getAttr (.ref so) m b) Q E s := by
  have KX := I.kIn
  obtain ⟨_, _, J⟩ := inst_of I ea
  obtain ⟨hh, gg, dd, tt, os⟩ := s
  cases hc : PySem.W.clsIn X.K C with
  | none =>
    unfold PySem.W.ks_superIn at hm
    rw [hc] at hm
    cases hm
  | some cd =>
    unfold PySem.W.ks_superIn at hm
    rw [hc] at hm
    obtain ⟨of, hof, hofc⟩ : ∃ of, hh.get? g = some of ∧ of.cls = .type "function" := by
      have ht' : (X.K.lookup g).map (·.cls) = some (.type "function") := ht
      cases z : X.K.lookup g with
      | none =>
        rw [z] at ht'
        cases ht'
      | some of =>
        rw [z] at ht'
        exact ⟨of, KX _ _ z, Option.some.inj ht'⟩
    have hT : ∀ t', (⟨hh, gg, dd, t', os⟩ : Shared).TypeIs (.ref so) "super" := fun _ => ⟨_, hso, rfl⟩
    unfold getAttr getAttrBy
    refine wpAny_bind (wpAny_mkText (wpAny_holding (wpAny_bind (wpAny_typeOf (hT _) (wpAny_bind (wpAny_of_eq F.ks_slot_super_ga.lookup ?_))))))
    show wpAny _ _ (getAttrByItsOwn (.ref so) (.str m tt) (.type "super") (.builtin "super.__getattribute__") true b) _ _ _
    unfold getAttrByItsOwn hookBefore callGetattribute boundAndCalled
    refine wpAny_bind (wpAny_of_eq (show (if onTheHeap (.type "super") then typeLookup (.type "super") "__getattr__" else pure none) = pure none from rfl) ?_)
    have e0 : (b && onTheHeap (.builtin "super.__getattribute__")) = false := by
      cases b <;> rfl
    rw [e0]
    refine wpAny_bind (wpAny_attempt (wpAny_holding ?_))
    show wpAny _ _ (bindSpecial (.builtin "super.__getattribute__") (.ref so) >>= _) _ _ _
    refine wpAny_bind (wpAny_of_eq (F.ks_slot_super_ga.bind _) ?_)
    refine wpAny_mono (Q := fun v s' => v = .ref hh.objs.size ∧ s' = ⟨hh.push { cls := .type "method", data := .fields #[.ref g, .ref a] }, gg, dd, tt + 1, os⟩) (E := fun _ _ => False)
      (wpAny_call_entry F.ks_slot_super_ga (hT _) F.ks_entry_super_ga (ks_wpAny_super_ga hso (PySem.W.looks_opaque KX ho) (l₀ := cd.mro) (fun A Q E s k q => wpAny_bind ((PySem.W.looks_clsIn KX hc) A _ E s k (wpAny_pure q))) rfl KX hm hof hofc (PySem.W.ks_ne KX J hc) hn ⟨_, rfl, rfl, rfl⟩)
        (F.ks_gaArgs_super _ _)) (fun v s' hv => ?_) fun _ _ z => z.elim
    obtain ⟨rfl, rfl⟩ := hv
    have z := h hh.objs.size _ (I.hok.fresh (Nat.le_refl _)) (I.laid (t' := tt + 1) (a := hh.objs.size) (o := .met g a) (fun b u z => Heap.get?_push_of_some _ z) (Nat.le_refl _)
      (show (hh.push (PySem.W.methodObj (.ref g) (.ref a))).get? hh.objs.size = some (PySem.W.methodObj (.ref g) (.ref a)) from Heap.get?_push_size hh rfl))
    first
      | exact wpAny_pure z
      | exact z
      | exact wpAny_pure (wpAny_pure z)
/-- a call of a bound method, starred and with keywords -/
theorem callwith_metS {q : Addr} {pos : Pos} {args : List (Bool × Sem Value)} {keywords : List (Option Str × Sem Value)} {Q : Value → Shared → Prop} (hst : args.any (·.1) = true) (hf : PySem.W.fnIn X.K g = true)
    (h : wpAny (model X.prog X.w) X.A (evalArgs (.ref q) true args keywords) (fun z s₁ => PySem.W.MethP X.K q g (.ref a) s₁.heap ∧ wpAny (model X.prog X.w) X.A (call (.ref q) z.pos z.kw) Q E s₁) E s) :
    wpAny (model X.prog X.w) X.A (callWith pos (.ref q) [] args keywords) Q E s := by
  unfold callWith
  refine wpAny_bind (wpAny_holding (wpAny_mono h (fun z s₁ h₁ => wpAny_bind (wpAny_standAt ?_)) fun _ _ x => x))
  obtain ⟨k, hk', L⟩ := PySem.W.keeps_M hf _ h₁.1
  simp only [hst, Bool.true_or]
  refine wpAny_bind (L.here ?_)
  have tail : ∀ {t : Sem Value}, wpAny (model X.prog X.w) X.A t Q E s₁ → wpAny (model X.prog X.w) X.A (t >>= fun r => holding [r] point >>= fun _ => pure r) Q E s₁ :=
    fun ht => wpAny_bind (wpAny_mono ht (fun r s₂ hr => wpAny_bind (wpAny_holding (wpAny_point (wpAny_pure hr)))) fun _ _ x => x)
  have marked (mk : Value) : wpAny (model X.prog X.w) X.A (callMarked mk (.ref q) ([] ++ z.pos) z.kw) Q E s₁ := by
    unfold callMarked
    exact Calls.wpAny_keep h₁.2
  rcases hk' with rfl | rfl | rfl <;> dsimp only <;> first | exact tail (marked _) | exact tail (wpAny_operating h₁.2)
/-- super().m(e, *y, k = v) -/
def tSupK (i : Nat) (C g : Addr) (sp : List V → Sp) (E : XK) (n : Nat) (t tk : TA) : TE := fun σ H Q => ∃ a dx fs, σ[i]? = some (some (.ref a)) ∧ H a = some (.ins C dx fs) ∧ ∀ q, H q = none → t σ (upd H q (.met g a)) fun vs H2 => tk σ H2 fun zs H3 =>
  H3 q = some (.met g a) ∧ zs.length = n ∧ sp zs (.ref a :: vs) H3 Q E
theorem pea_superK {CX : CXT} {k : Nat} {ks : List Str} {sp : List V → Sp} {E : XK} {e : Expr} {es : List Expr} {kws : List Keyword} {t tk : TA} {p0 p1 apos pos : Pos} (S : SupOk X.K X.prog X.env self D cc) (hm : X.mg "super" = none) (hN : X.N[i]? = some self)
    (hsub : PySem.W.mroIn X.K C (.ref D) = some true) (ho : PySem.W.nsIn X.K cStatics "thirdparty.any" = some none) (hg : PySem.W.ks_superIn X.K C D m = some (some (.ref g))) (ht : PySem.W.typeIn X.K (.ref g) = some (.type "function")) (hfi : PySem.W.fnIn X.K g = true)
    (F : FnK X.prog X.w X.K X.mg X.base CX k g ks sp) (hr : Room k X.A) (hx : Passes CX X E) (ha : PA X (e :: es) t) (hkw : PK X kws tk)
    (hn : (m == ("__class__" : Str)) = false := by decide) (hst : starEach (e :: es) X.env = (false, eval e X.env) :: starEach es X.env := by rfl) (hstar : (backTo pos (starEach (e :: es) X.env)).any (·.1) = true := by rfl)
    (hform : methodCallForm ((e :: es).length + kws.length) (backTo pos (starEach (e :: es) X.env)) (backToKw pos (keywordEach kws X.env)) = false := by rfl)
    (hall : (backToKw pos (keywordEach kws X.env)).all (·.1.isSome) = true := by rfl) (hks : (backToKw pos (keywordEach kws X.env)).filterMap (·.1) = ks := by rfl) : PEAt X body (.Call (.Attribute (.Call (.Name "super" p0) [] [] p1) m apos) (e :: es) kws pos) (tSupK i C g sp E ks.length t tk) := by
  refine ⟨fun pins s σ H Q I h => ?_⟩
  obtain ⟨a, dx, fs, hσ, ea, h⟩ := h
  rw [arm_eval_Call]
  refine PySem.wpAt_bind (ks_wpAt_mono (super_ok S hm hN I hσ ea hsub hn (Q := fun v s1 => wpAny (model X.prog X.w) X.A (do
    standAt apos.atName
    methodCall (.Call (.Name "super" p0) [] [] p1) m apos pos X.env v ((e :: es).length + kws.length) (backTo pos (starEach (e :: es) X.env)) (backToKw pos (keywordEach kws X.env))) (EP X pins σ Q) X.xe s1) fun so s1 hso I1 => ?_) (fun v s1 q => wpAt_of_wpAny q) fun _ _ x => x)
  refine wpAny_bind (wpAny_standAt ?_)
  unfold methodCall
  rw [hform]
  have hcal : calleeOf false (.Call (.Name "super" p0) [] [] p1) X.env (.ref so) m = (getAttr (.ref so) m true >>= fun v => pure (v, [])) := rfl
  have hpos : methodCallPos false (.Call (.Name "super" p0) [] [] p1) X.env apos pos = pure pos := rfl
  rw [hcal, hpos]
  refine wpAny_bind (wpAny_holding (wpAny_bind (superattr_ok I1 hso ea ho hg ht hn fun q s2 hq I2 => wpAny_pure (wpAny_bind (wpAny_pure ?_)))))
  refine callwith_metS (a := a) hstar hfi ?_
  refine evalArgs_kw2 hall (thn (ha.run pos pins s2 σ _ _ I2 (h q hq)) fun us s3 ⟨vs, H3, I3, r, q3⟩ => thn (hkw.run pos pins s3 σ H3 _ I3 q3) fun ws s4 ⟨zs, H4, I4, rz, hq4, hl, hsp⟩ => ?_) hst
  rw [hks]
  exact ⟨met_P I4 hq4, wpAny_call (PySem.W.method_call (met_P I4 hq4).1 (run_fnK (us := Value.ref a :: us) (vs := V.ref a :: vs) F hr hx I4 (.cons rfl r) rz hl hsp))⟩
end

/-! ### such a def is entered -/
section
variable {CX : CXT} {P : Program} {w : World} {K : PySem.W.Frag} {mg : Str → Option Value} {base : Heap} {k : Nat} {f cc : Addr} {name qual : Str} {params : Arguments} {body : List Stmt} {scope : Scope} {dV kV doc pm cdv ct oc : Value} {an od : Option Addr}
  {osl : Array (Option Value)} {N ps : List Str}
theorem run_sup {A : Around} {outer : List Env} {s : Shared} {H : Hp} {args : Args} {Q : VK} {E : XK} {G : List V → Hp → Prop} (lk : K.lookup f = some ⟨oc, od, .func (PySem.W.ksFn name qual params body scope dV kV doc pm an cdv ct cc), osl⟩) (hcd : PySem.W.codeIn K cdv qual = true)
    (S : SupScope N ps scope) (hcc : ∃ o v, K.lookup cc = some o ∧ o.data = .cell (some v)) (hr : Room (k + 1) A) (e0 : Env0 P w K mg base A outer s H) (hb : StX.Bnd CX P w K mg base (PySem.W.ksFn name qual params body scope dV kV doc pm an cdv ct cc) args ps A outer s H E G)
    (hbody : ∀ (s2 : Shared) (H2 : Hp) (vs : List V), G vs H2 → Room k (A.deeper (envS qual scope s2.heap.objs.size f cdv cc)) →
      ∃ t, PSsAt (cxS CX P w K mg base N qual scope f cdv cc A outer s2 H2 E) body body t ∧ t { nx := fun _ H' => Q .non H', rt := Q } (L2.start N vs) H2) : codeAny (model P w) A (.call (.ref f) args) (CR CX outer P w H s Q E) s := by
  have KX : K.In s.heap := e0.mod.kin.keeps fun b o e => (e0.bs b o e).1
  refine codeAny_call_function hr.depth (KX _ _ lk) rfl S.co S.gen rfl (PySem.W.codeRec_of KX hcd) ?_
  refine hb _ _ _ fun s2 H2 vs us e2 un ho hx r hl g => ?_
  have lim : s2.heap.NoLimit := e0.mod.nolimit.keeps fun b o e => (e2.bs b o e).1
  refine wpAny_newFunctionEnv S.nocell (fun y hy => S.par y.1 (List.of_mem_zip hy).1) (fun h₀ hns hsb => ⟨lim.fresh _ hsb, ks_codeAny_funcAt ?_⟩) S.kind
  have kp : ∀ b o, s2.heap.get? b = some o → h₀.get? b = some o := fun b o e => hsb.extBut b o (Nat.ne_of_lt (Heap.lt_size e)) (Heap.get?_push_of_some _ e)
  obtain ⟨t, ht, hq⟩ := hbody s2 H2 vs g (hr.deeper _)
  have I : Inv (cxS CX P w K mg base N qual scope f cdv cc A outer s2 H2 E) [] (L2.start N vs) H2 { s2 with heap := h₀, toks := s2.toks + (ps.zip us).length } := inv_startS S hr.hd e2 hl r hcc hns kp
  refine ks_wpAt_mono (ht.run [] _ _ _ _ I hq) (fun fl s' hs => ?_) fun e s' hs => ?_
  · have fin : ∀ {σ' : L2.St} {H' : Hp} {v' : V} {u' : Value}, Inv (cxS CX P w K mg base N qual scope f cdv cc A outer s2 H2 E) [] σ' H' s' → RelV v' u' → Q v' H' → CE outer P w H s Q u' s' :=
      fun {σ' H' v' u'} J rv' q => ⟨v', H', J.os.trans ho, J.bare, un.trans J.base, J.hok, rv', q⟩
    cases fl with
    | ret u' =>
      obtain ⟨v', σ', H', J, rv', q⟩ := hs
      exact fin J rv' q
    | next =>
      obtain ⟨σ', H', J, q⟩ := hs
      exact fin (v' := V.non) (u' := Value.none) J rfl q
    | brk =>
      obtain ⟨_, _, _, q⟩ := hs
      exact False.elim q
    | cont =>
      obtain ⟨_, _, _, q⟩ := hs
      exact False.elim q
  · exact wpAny_mono hs (fun _ s'' z => hx e s'' z) fun e' s'' z => hx e' s'' z
end

/-! ### binding -/
section
variable {CX : CXT} {P : Program} {w : World} {K : PySem.W.Frag} {mg : Str → Option Value} {base : Heap} {fd : FuncData} {A : Around} {outer : List Env} {s : Shared} {H : Hp} {E : XK}
/-- plain arguments -/
theorem bnd_plain {ps : List Str} {us : List Value} {vs : List V} {kw : List (Str × Value)} {ys : List Value} {zs : List V} (e0 : Env0 P w K mg base A outer s H) (hb : bindArgs fd ⟨us, kw⟩ = pure (ps.zip ys)) (r : Vals zs ys) (hl : zs.length = ps.length) :
    StX.Bnd CX P w K mg base fd ⟨us, kw⟩ ps A outer s H E (fun vs' H' => vs' = zs ∧ H' = H) := by
  intro A' Ex Q h
  rw [hb]
  exact wpAny_pure (h s H zs ys e0 Un.refl rfl (fun _ _ z => z) r hl ⟨rfl, rfl⟩)
/-- the rest goes into a new tuple, the last of the names -/
theorem bnd_tuple {ps : List Str} {us rest ys : List Value} {zs rs : List V} {kw : List (Str × Value)} {pv : Str} (hCX : StX.CXUp CX) (e0 : Env0 P w K mg base A outer s H)
    (hb : ∀ (M : Model) (A' : Around) (Q : List (Str × Value) → Shared → Prop) (Ex : Value → Shared → Prop), wpAny M A' (newTuple rest >>= fun t => pure (ps.zip ys ++ [(pv, t)])) Q Ex s → wpAny M A' (bindArgs fd ⟨us, kw⟩) Q Ex s)
    (r : Vals zs ys) (rr : Vals rs rest) (hl : zs.length = ps.length) (hz : rs.length ≤ sizeLine) :
    StX.Bnd CX P w K mg base fd ⟨us, kw⟩ (ps ++ [pv]) A outer s H E (fun vs' H' => ∃ p, H p = none ∧ vs' = zs ++ [V.ref p] ∧ H' = upd H p (.tup rs)) := by
  intro A' Ex Q h
  have hn : H s.heap.objs.size = Option.none := e0.hok.fresh (Nat.le_refl _)
  have hl2 : rest.length ≤ sizeLine := by rw [← rr.length]; exact hz
  refine hb _ _ _ _ (wpAny_bind (wpAny_newTuple (wpAny_pure ?_) hl2))
  have new : ObjOk P w (upd H s.heap.objs.size (.tup rs)) (s.heap.push ({ cls := .type "tuple", data := .seq rest.toArray } : Obj)) s.heap.objs.size (.tup rs) := ⟨hz, rest, rr, ⟨_, Heap.get?_push_size _ rfl, rfl, _, rfl⟩⟩
  have un := StX.un_laid (fs := frs outer) (s := s) (o := ({ cls := .type "tuple", data := .seq rest.toArray } : Obj)) (u := .tup rs) hn
  have z := h _ _ (zs ++ [V.ref s.heap.objs.size]) (ys ++ [Value.ref s.heap.objs.size]) (StX.env0_laid e0 new) un rfl (fun e s' => hCX outer s H _ _ E e s' un (fun b o q => Heap.get?_push_of_some _ q) rfl) (r.append (.cons rfl .nil))
    (by rw [List.length_append, List.length_append, hl] <;> rfl) ⟨_, hn, rfl, rfl⟩
  rw [List.zip_append (by rw [← r.length, hl])] at z
  exact z
end
end SRO
/-! What is known of the text behind the top, as one structure; a def's rule. -/
namespace SRT
open PySem PySem.Spec PyProof.Rows L2
abbrev PP : Program := PySem.Challenge.pw_statusrules_k70_whole_monitors_and_rules
structure Txt (K : PySem.W.Frag) (mg : Str → Option Value) : Prop where
  ex : ∃ h : Heap, K.In h ∧ h.Ns mainGlobals mg
  val : obsX K = valX
section
variable {K : PySem.W.Frag} {mg : Str → Option Value}
theorem Txt.ok1 (T : Txt K mg) : ((fa.all fun f => f.ok K) && ((xs.all fun f => f K) && defs.all fun d => d.ok K)) = true := congrArg (fun z : AlX => z.1) T.val
theorem Txt.fact (T : Txt K mg) (i : Nat) {f : He.Fa} (h : fa[i]? = some f) : f.ok K = true := List.all_eq_true.mp (He.ba T.ok1).1 f (List.mem_of_getElem? h)
theorem Txt.x (T : Txt K mg) (i : Nat) {f : PySem.W.Frag → Bool} (h : xs[i]? = some f := by rfl) : f K = true := List.all_eq_true.mp (He.ba (He.ba T.ok1).2).1 f (List.mem_of_getElem? h)
theorem Txt.def_ (T : Txt K mg) (i : Nat) {d : He5.DefA} (h : defs[i]? = some d) : ∃ fd, FunD K d.name d.qual d.params d.body d.scope (d.dvs K) (d.kws K) (d.at_ K) fd := by
  have c2 : d.ok K = true := List.all_eq_true.mp (He.ba (He.ba T.ok1).2).2 d (List.mem_of_getElem? h)
  have e : (defs.map fun d => He5.fnA K (d.at_ K)) = defs.map He5.DefA.val := congrArg (fun z : AlX => z.2.1) T.val
  have e2 : (defs.map fun d => He5.fnA K (d.at_ K))[i]? = (defs.map He5.DefA.val)[i]? := by rw [e]
  rw [List.getElem?_map, List.getElem?_map, h] at e2
  exact He5.DefA.funD (Option.some.inj e2) c2
theorem Txt.sup (T : Txt K mg) (i : Nat) {d : SupD} (h : sups[i]? = some d := by rfl) : fnS K (d.at_ K) = d.val := by
  have e : (sups.map fun d => fnS K (d.at_ K)) = sups.map SupD.val := congrArg (fun z : AlX => z.2.2) T.val
  have e2 : (sups.map fun d => fnS K (d.at_ K))[i]? = (sups.map SupD.val)[i]? := by rw [e]
  rw [List.getElem?_map, List.getElem?_map, h] at e2
  exact Option.some.inj e2
theorem Txt.glo (T : Txt K mg) (i : Nat) {x : Str} (h : fa[i]? = some (.glo x) := by rfl) : mg x = some (.ref (He.ga K x)) := by
  obtain ⟨h', X, G⟩ := T.ex
  exact He.glo_ok X G (T.fact i h)
theorem Txt.free (T : Txt K mg) (i : Nat) {x : Str} (h : fa[i]? = some (.free x) := by rfl) : mg x = none := by
  obtain ⟨h', X, G⟩ := T.ex
  exact He.free_ok X G (T.fact i h)
theorem Txt.int (T : Txt K mg) (i : Nat) {x : Str} {z : Int} (h : fa[i]? = some (.int x z) := by rfl) : ∃ u, mg x = some u ∧ RelV (.int z) u := by
  obtain ⟨h', X, G⟩ := T.ex
  obtain ⟨t, e⟩ := He.int_ok X G (T.fact i h)
  exact ⟨_, e, t, rfl⟩
theorem Txt.str (T : Txt K mg) (i : Nat) {x z : Str} (h : fa[i]? = some (.str x z) := by rfl) : ∃ u, mg x = some u ∧ RelV (.str z) u := by
  obtain ⟨h', X, G⟩ := T.ex
  obtain ⟨t, e⟩ := He.str_ok X G (T.fact i h)
  exact ⟨_, e, t, rfl⟩
theorem Txt.cls (T : Txt K mg) (i : Nat) {x : Str} (h : fa[i]? = some (.cls x) := by rfl) : Cls K (He.ga K x) := He.cls_ok (T.fact i h)
theorem Txt.mkr (T : Txt K mg) (i : Nat) {x : Str} (h : fa[i]? = some (.mkr x) := by rfl) : Mk K (He.ga K x) (He.ma K (He.ga K x) "__init__") := He.mkr_ok (T.fact i h)
theorem Txt.noat (T : Txt K mg) (i : Nat) {x f : Str} (h : fa[i]? = some (.noat x f) := by rfl) : NoAttr K (He.ga K x) f := He.noat_ok (T.fact i h)
theorem Txt.meth (T : Txt K mg) (i : Nat) {x m : Str} (h : fa[i]? = some (.meth x m) := by rfl) : Meth K (He.ga K x) m (He.ma K (He.ga K x) m) := He.meth_ok (T.fact i h)
theorem Txt.keep (T : Txt K mg) (i : Nat) {x : Str} (h : fa[i]? = some (.keep x) := by rfl) : PySem.W.keepIn K (.ref (He.ga K x)) = true := T.fact i h
end
/-- a def's promise from its body's walk -/
theorem defR {P : Program} {w : World} {K : PySem.W.Frag} {mg : Str → Option Value} {base : Heap} {x qual : Str} {params : Arguments} {body : List Stmt} {scope : Scope} {f : Addr} {N ps : List Str} {k : Nat} {sp : Sp}
    (F : ∃ fd, FunD K x qual params body scope [] [] f fd) (S : FnScope N ps scope)
    (bd : ∀ (kV doc pm : Value) (an : Option Addr) (cdv ct : Value) (us : List Value), us.length = ps.length → bindArgs (PySem.W.fnOf x qual params body scope .none kV doc pm an cdv ct) ⟨us, []⟩ = pure (ps.zip us))
    (len : ∀ vs H Q E, sp vs H Q E → vs.length = ps.length)
    (hbody : ∀ (cdv : Value) (A : Around) (outer : List Env) (s : Shared) (H : Hp) (vs : List V) (Q : VK) (E : XK), Room k (A.deeper (envOfC qual scope s.heap.objs.size f cdv)) → sp vs H Q E →
      ∃ t, PSs (cxOf CX0 P w K mg base N qual scope f cdv A outer s H E).nox body t ∧ t { nx := fun _ H' => Q .non H', rt := Q } (L2.start N vs) H) : FnR P w K mg base CX0 (k + 1) f sp := by
  obtain ⟨fd, F⟩ := F
  have F2 : FnOk P w K mg base CX0 (k + 1) f fd ps sp := F.ok S len fun cdv A outer s H vs Q E hr h => by
    obtain ⟨t, h1, h2⟩ := hbody cdv A outer s H vs Q E hr h
    exact ⟨t, h1.nox, h2⟩
  refine (F2.raw (F.bindsN bd) .nil).imp fun vs H Q E h => ?_
  rw [List.append_nil]
  exact h
end SRT
/-! Readings step by step: one lemma a form. -/
namespace SRD
open PySem PySem.Spec PyProof.Rows L2 SRT
theorem boot_isinstance : bootBuiltins "isinstance" = some (.builtin "isinstance") := by decide +kernel
theorem boot_all : bootBuiltins "all" = some (.builtin "all") := by decide +kernel
theorem boot_max : bootBuiltins "max" = some (.builtin "max") := by decide +kernel
theorem boot_min : bootBuiltins "min" = some (.builtin "min") := by decide +kernel
theorem boot_repr : bootBuiltins "repr" = some (.builtin "repr") := by decide +kernel
theorem seqT {K : PySem.W.Frag} {H H' : Hp} {a : Addr} {xs : List V} (e : Same H H') (h : SqT K H a xs) : SqT K H' a xs := by
  rcases h with (h | ⟨o, h⟩) | h
  · exact .inl (.inl (e _ _ h))
  · exact .inl (.inr ⟨o, e _ _ h⟩)
  · exact .inr h
theorem same_new {H : Hp} {p : Addr} {o : HO} (h : H p = none) : Same H (upd H p o) := fun b u e => by
  rw [upd_ne (ne_of_none e h)]
  exact e
section
variable {K : PySem.W.Frag} {σ σ' : L2.St} {H : Hp} {Q : VK} {D : Ends}
theorem s_seq {t u : TS} (h : t { D with nx := u D } σ H) : tSeq t u D σ H := h
theorem s_ifS {c : TT} {t u : TS} (h : c σ H fun b H1 => if b = true then t D σ H1 else u D σ H1) : tIfS c t u D σ H := h
theorem s_next (h : D.nx σ H) : tNext D σ H := h
theorem s_ret {te : TE} (h : te σ H D.rt) : tRet te D σ H := h
theorem s_retN (h : D.rt .non H) : tRetN D σ H := h
theorem s_drop {te : TE} (h : te σ H fun _ H1 => D.nx σ H1) : tDrop te D σ H := h
theorem s_asg {te : TE} {g : TG} (h : te σ H fun x H1 => g x σ H1 D.nx) : tAsg te g D σ H := h
theorem s_par {i j : Nat} {ta : TA} (h : ta σ H fun vs H1 => ∃ v w, vs = [v, w] ∧ D.nx ((σ.set i (some v)).set j (some w)) H1) : tPar i j ta D σ H := h
theorem s_par2 {v w : V} {P : V → V → Prop} (h : P v w) : ∃ v' w', [v, w] = [v', w'] ∧ P v' w' := ⟨_, _, rfl, h⟩
theorem s_par3 {i j l : Nat} {ta : TA} (h : ta σ H fun vs H1 => ∃ u v w, vs = [u, v, w] ∧ D.nx (((σ.set i (some u)).set j (some v)).set l (some w)) H1) : tPar3 i j l ta D σ H := h
theorem s_par33 {u v w : V} {P : V → V → V → Prop} (h : P u v w) : ∃ u' v' w', [u, v, w] = [u', v', w'] ∧ P u' v' w' := ⟨_, _, _, rfl, h⟩
theorem s_gName {i : Nat} {v : V} {Q : L2.St → Hp → Prop} (e : σ.set i (some v) = σ') (h : Q σ' H) : gName i v σ H Q := by
  subst e
  exact h
theorem s_gSub {to ti : TE} {t : TSet} {v : V} {Q : L2.St → Hp → Prop} (h : to σ H fun o H1 => ti σ H1 fun i H2 => t o i v H2 fun H3 => Q σ H3) : gSub to ti t v σ H Q := h
theorem s_gTup {n : Nat} {t : TGs} {a : Addr} {xs : List V} {Q : L2.St → Hp → Prop} (h : SqT K H a xs) (hl : xs.length = n) (q : t xs σ H Q) : gTup K n t (.ref a) σ H Q := ⟨_, _, rfl, h, hl, q⟩
theorem s_gCons {t : TG} {u : TGs} {v : V} {r : List V} {Q : L2.St → Hp → Prop} (h : t v σ H fun σ' H' => u r σ' H' Q) : gCons t u (v :: r) σ H Q := ⟨_, _, rfl, h⟩
theorem s_gNil {Q : L2.St → Hp → Prop} (h : Q σ H) : gNil [] σ H Q := ⟨rfl, h⟩
theorem s_gFld {ta : TE} {f : Str} {v : V} {Q : L2.St → Hp → Prop} (h : ta σ H fun x H1 => ∃ a C dx fs, x = .ref a ∧ H1 a = some (.ins C dx fs) ∧ Cls K C ∧ NoAttr K C f ∧ fs.length < 1000 ∧ Q σ (upd H1 a (.ins C dx (putF f v fs)))) : SRO.gFld K ta f v σ H Q := h
/-- an attribute that is set: what it asks -/
theorem s_setF {a C dx : Addr} {fs : List (Str × V)} {f : Str} {P : Addr → Addr → Addr → List (Str × V) → Prop} (h : H a = some (.ins C dx fs)) (c : Cls K C) (n : NoAttr K C f) (l : fs.length < 1000) (q : P a C dx fs) :
    ∃ a' C dx fs, V.ref a = .ref a' ∧ H a' = some (.ins C dx fs) ∧ Cls K C ∧ NoAttr K C f ∧ fs.length < 1000 ∧ P a' C dx fs := ⟨_, _, _, _, rfl, h, c, n, l, q⟩
theorem s_sFld {ta tv : TE} {f : Str} (h : tv σ H fun y H1 => ta σ H1 fun x H2 => ∃ a C dx fs, x = .ref a ∧ H2 a = some (.ins C dx fs) ∧ Cls K C ∧ NoAttr K C f ∧ fs.length < 1000 ∧ D.nx σ (upd H2 a (.ins C dx (putF f y fs)))) : sFld K ta tv f D σ H := h
theorem s_fld {ta : TE} {f : Str} (h : ta σ H fun x H1 => ∃ a C dx fs v, x = .ref a ∧ H1 a = some (.ins C dx fs) ∧ Cls K C ∧ NoAttr K C f ∧ fs.lookup f = some v ∧ Q v H1) : tFld K ta f σ H Q := h
theorem s_getF {a C dx : Addr} {fs : List (Str × V)} {f : Str} {v : V} {P : V → Prop} (h : H a = some (.ins C dx fs)) (c : Cls K C) (n : NoAttr K C f) (l : fs.lookup f = some v) (q : P v) :
    ∃ a' C dx fs v, V.ref a = .ref a' ∧ H a' = some (.ins C dx fs) ∧ Cls K C ∧ NoAttr K C f ∧ fs.lookup f = some v ∧ P v := ⟨_, _, _, _, _, rfl, h, c, n, l, q⟩
/- expressions -/
theorem s_var {i : Nat} {v : V} (e : σ[i]? = some (some v)) (h : Q v H) : tVar i σ H Q := ⟨v, e, h⟩
theorem s_C {v : V} (h : Q v H) : tC v σ H Q := h
theorem s_op {r : R2} {ta tb : TE} (h : ta σ H fun x H1 => tb σ H1 fun y H2 => r x y H2 Q) : tOp r ta tb σ H Q := h
theorem s_un {r : V → Hp → VK → Prop} {ta : TE} (h : ta σ H fun x H1 => r x H1 Q) : tUn r ta σ H Q := h
theorem s_rI {C : Int → Int → Prop} {g : Int → Int → V} {i j : Int} (c : C i j) (h : Q (g i j) H) : rI C g (.int i) (.int j) H Q := ⟨_, _, rfl, rfl, c, h⟩
theorem s_mod {g : Int → Int → V} {i j : Int} (c : 0 < j) (h : Q (g i j) H) : rI (fun _ j => 0 < j) g (.int i) (.int j) H Q := s_rI c h
theorem s_mul1 {g : Int → Int → V} {i j : Int} (c : -(2 ^ 64) < i ∧ i < 2 ^ 64) (h : Q (g i j) H) : rI CMul g (.int i) (.int j) H Q := s_rI (.inl c) h
theorem s_mul2 {g : Int → Int → V} {i j : Int} (c : -(2 ^ 64) < j ∧ j < 2 ^ 64) (h : Q (g i j) H) : rI CMul g (.int i) (.int j) H Q := s_rI (.inr c) h
theorem s_fdiv {g : Int → Int → V} {i j : Int} (c : 0 < j ∧ j < 1073741824) (h : Q (g i j) H) : rI CDiv g (.int i) (.int j) H Q := s_rI c h
theorem s_rI0 {g : Int → Int → V} {i j : Int} (h : Q (g i j) H) : rI0 g (.int i) (.int j) H Q := ⟨_, _, rfl, rfl, h⟩
theorem s_rU {g : Int → V} {i : Int} (h : Q (g i) H) : rU g (.int i) H Q := ⟨_, rfl, h⟩
theorem s_test {t : TE} {Q : Bool → Hp → Prop} (h : t σ H fun x H' => ∃ k, x = .bl k ∧ Q k H') : tTest t σ H Q := h
theorem s_tB {t : TE} {Q : Bool → Hp → Prop} (h : t σ H fun x H' => ∃ k, x = .bl k ∧ Q k H') : tB t σ H Q := h
theorem s_exB {b : Bool} {P : Bool → Prop} (h : P b) : ∃ k, V.bl b = .bl k ∧ P k := ⟨_, rfl, h⟩
theorem s_not {t : TT} {Q : Bool → Hp → Prop} (h : t σ H fun c H1 => Q (!c) H1) : tNot t σ H Q := h
theorem s_and {t u : TT} {Q : Bool → Hp → Prop} (h : t σ H fun c H1 => if c = true then u σ H1 Q else Q false H1) : tAnd t u σ H Q := h
theorem s_or {t u : TT} {Q : Bool → Hp → Prop} (h : t σ H fun c H1 => if c = true then Q true H1 else u σ H1 Q) : tOr t u σ H Q := h
theorem s_andV {ta tb : TE} (h : ta σ H fun x H1 => ∃ c, x = .bl c ∧ if c = true then tb σ H1 Q else Q (.bl false) H1) : tAndV ta tb σ H Q := h
theorem s_orV {ta tb : TE} (h : ta σ H fun x H1 => ∃ c, x = .bl c ∧ if c = true then Q (.bl true) H1 else tb σ H1 Q) : tOrV ta tb σ H Q := h
theorem s_notV {ta : TE} (h : ta σ H fun x H1 => ∃ c, x = .bl c ∧ Q (.bl (!c)) H1) : tNotV ta σ H Q := h
theorem s_if {t : TT} {ta tb : TE} (h : t σ H fun c H1 => if c = true then ta σ H1 Q else tb σ H1 Q) : tIf t ta tb σ H Q := h
theorem s_chain {r r' : R2} {ta tb tc : TE} (h : ta σ H fun x H1 => tb σ H1 fun y H2 => r x y H2 fun z H3 => ∃ k, z = .bl k ∧ (if k = true then tc σ H3 fun w' H4 => r' y w' H4 Q else Q (.bl false) H3)) : tChain r r' ta tb tc σ H Q := h
theorem s_nil {Q : List V → Hp → Prop} (h : Q [] H) : tNil σ H Q := h
theorem s_cons {ta : TE} {tr : TA} {Q : List V → Hp → Prop} (h : ta σ H fun x H1 => tr σ H1 fun xs H2 => Q (x :: xs) H2) : tCons ta tr σ H Q := h
theorem s_CB {r : List V → Hp → VK → Prop} {t : TA} (h : t σ H fun vs H1 => r vs H1 Q) : tCB r t σ H Q := h
theorem s_tup {t : TA} (h : t σ H fun xs H1 => xs.length ≤ sizeLine ∧ ∀ p, H1 p = none → Q (.ref p) (upd H1 p (.tup xs))) : tTup t σ H Q := h
theorem s_lst {t : TA} (h : t σ H fun xs H1 => xs.length ≤ sizeLine ∧ ∀ p, H1 p = none → Q (.ref p) (upd H1 p (.lst xs))) : tLst t σ H Q := h
theorem s_sz {xs : List V} {R : Prop} (h : Nat.ble xs.length 1000 = true) (r : R) : xs.length ≤ sizeLine ∧ R := ⟨Nat.le_of_lt (small1000 (Nat.le_of_ble_eq_true h)), r⟩
theorem s_callR {sp : Sp} {E : XK} {t : TA} (h : t σ H fun vs H1 => sp vs H1 Q E) : SRO.tCallR sp E t σ H Q := h
theorem s_makeR {C : Addr} {sp : Sp} {E : XK} {t : TA} (h : t σ H fun vs H1 => ∀ x dx, H1 x = none → H1 dx = none → dx ≠ x → sp (.ref x :: vs) (upd (upd H1 dx (.own x)) x (.ins C dx [])) (fun v H2 => v = .non ∧ Q (.ref x) H2) E) : StX.tMakeR C sp E t σ H Q := h
theorem s_methR {C : Addr} {m : Str} {sp : Sp} {E : XK} {ta : TE} {t : TA} (h : ta σ H fun x H1 => ∃ a dx fs, x = .ref a ∧ H1 a = some (.ins C dx fs) ∧ fs.lookup m = none ∧ t σ H1 fun vs H2 => sp (.ref a :: vs) H2 Q E) : SRO.tMethR C m sp E ta t σ H Q := h
theorem s_propR {C : Addr} {sp : Sp} {E : XK} {ta : TE} (h : ta σ H fun x H1 => ∃ a dx fs, x = .ref a ∧ H1 a = some (.ins C dx fs) ∧ sp [.ref a] H1 Q E) : SRO.tPropR C sp E ta σ H Q := h
theorem s_insM {a C dx : Addr} {fs : List (Str × V)} {m : Str} {P : Addr → Prop} (h : H a = some (.ins C dx fs)) (l : fs.lookup m = none) (q : P a) : ∃ a' dx fs, V.ref a = .ref a' ∧ H a' = some (.ins C dx fs) ∧ fs.lookup m = none ∧ P a' := ⟨_, _, _, rfl, h, l, q⟩
theorem s_insP {a C dx : Addr} {fs : List (Str × V)} {P : Addr → Prop} (h : H a = some (.ins C dx fs)) (q : P a) : ∃ a' dx fs, V.ref a = .ref a' ∧ H a' = some (.ins C dx fs) ∧ P a' := ⟨_, _, _, rfl, h, q⟩
/- lists, tuples -/
theorem s_ixL {p : Addr} {xs : List V} {i : Int} {v : V} (h : H p = some (.lst xs)) (e : atI xs i = some v) (q : Q v H) : rIxL K (.ref p) (.int i) H Q := ⟨_, _, _, _, rfl, rfl, SqL.of h, e, q⟩
theorem s_ixT {p : Addr} {xs : List V} {i : Int} {v : V} (h : SqT K H p xs) (e : atI xs i = some v) (q : Q v H) : rIxT K (.ref p) (.int i) H Q := ⟨_, _, _, _, rfl, rfl, h, e, q⟩
theorem s_ixTh {p : Addr} {xs : List V} {i : Int} {v : V} (h : H p = some (.tup xs)) (e : atI xs i = some v) (q : Q v H) : rIxT K (.ref p) (.int i) H Q := ⟨_, _, _, _, rfl, rfl, SqT.of h, e, q⟩
theorem s_setL {p : Addr} {xs ys : List V} {i : Nat} {v : V} {Q : Hp → Prop} (h : H p = some (.lst xs)) (hi : Nat.blt i xs.length = true) (e : xs.set i v = ys) (q : Q (upd H p (.lst ys))) : rSetL (.ref p) (.int (i : Nat)) v H Q := by
  subst e
  have hi' : i < xs.length := Nat.le_of_ble_eq_true hi
  refine ⟨_, _, _, i, rfl, rfl, h, ?_, q⟩
  unfold ixN
  rw [if_pos (Int.natCast_nonneg i), if_pos (by omega)]
  simp
theorem s_setL0 {p : Addr} {x : V} {xs : List V} {v : V} {Q : Hp → Prop} (h : H p = some (.lst (x :: xs))) (q : Q (upd H p (.lst (v :: xs)))) : rSetL (.ref p) (.int 0) v H Q := s_setL (i := 0) h (by rfl) rfl q
theorem s_setL1 {p : Addr} {x y : V} {xs : List V} {v : V} {Q : Hp → Prop} (h : H p = some (.lst (x :: y :: xs))) (q : Q (upd H p (.lst (x :: v :: xs)))) : rSetL (.ref p) (.int 1) v H Q := s_setL (i := 1) h (by rfl) rfl q
theorem s_setL2 {p : Addr} {x y z : V} {xs : List V} {v : V} {Q : Hp → Prop} (h : H p = some (.lst (x :: y :: z :: xs))) (q : Q (upd H p (.lst (x :: y :: v :: xs)))) : rSetL (.ref p) (.int 2) v H Q := s_setL (i := 2) h (by rfl) rfl q
theorem s_lenL {p : Addr} {ys : List V} {P : Addr → List V → Prop} (h : H p = some (.lst ys)) (q : P p ys) : ∃ p' ys, [V.ref p] = [.ref p'] ∧ (SqL K H p' ys ∨ SqT K H p' ys) ∧ P p' ys := ⟨_, _, rfl, .inl (SqL.of h), q⟩
theorem s_lenT {p : Addr} {ys : List V} {P : Addr → List V → Prop} (h : SqT K H p ys) (q : P p ys) : ∃ p' ys, [V.ref p] = [.ref p'] ∧ (SqL K H p' ys ∨ SqT K H p' ys) ∧ P p' ys := ⟨_, _, rfl, .inr h, q⟩
theorem s_tupOf {p : Addr} {ys : List V} {P : List V → Addr → Prop} {R : Addr → Prop} (h : H p = some (.lst ys)) (q : ∀ l, H l = none → P ys l) : ∃ p' ys, [V.ref p] = [.ref p'] ∧ ((SqL K H p' ys ∧ ∀ l, H l = none → P ys l) ∨ (SqT K H p' ys ∧ R p')) :=
  ⟨_, _, rfl, .inl ⟨SqL.of h, q⟩⟩
theorem s_lstOf {p : Addr} {ys : List V} {P : List V → Addr → Prop} (h : H p = some (.lst ys)) (q : ∀ l, H l = none → P ys l) : ∃ p' ys, [V.ref p] = [.ref p'] ∧ (SqL K H p' ys ∨ SqT K H p' ys) ∧ ∀ l, H l = none → P ys l :=
  ⟨_, _, rfl, .inl (SqL.of h), q⟩
theorem s_bm {T : String} {r : V → List V → Hp → VK → Prop} {to : TE} {t : TA} (h : to σ H fun x H1 => tyV K T x H1 ∧ t σ H1 fun xs H2 => r x xs H2 Q) : tBM K T r to t σ H Q := h
theorem s_tyL {a : Addr} {xs : List V} {R : Prop} (h : H a = some (.lst xs)) (r : R) : tyV K "list" (.ref a) H ∧ R := ⟨.inl ⟨rfl, _, SqL.of h⟩, r⟩
theorem s_app {l : Addr} {xs : List V} {y : V} (h : H l = some (.lst xs)) (z : xs.length < sizeLine) (q : Q .non (upd H l (.lst (xs ++ [y])))) : rAppend (.ref l) [y] H Q := ⟨_, _, _, rfl, rfl, h, z, q⟩
theorem s_sl {r : V → Option Int → Option Int → Hp → VK → Prop} {te : TE} {tl th : TO} (h : te σ H fun x H1 => tl σ H1 fun l H2 => th σ H2 fun u H3 => r x l u H3 Q) : tSl r te tl th σ H Q := h
theorem s_noPart {Q : Option Int → Hp → Prop} (h : Q none H) : tNoPart σ H Q := h
theorem s_part {t : TE} {Q : Option Int → Hp → Prop} (h : t σ H fun x H1 => ∃ i, x = .int i ∧ Q (some i) H1) : tPart t σ H Q := h
theorem s_exI {i : Int} {P : Int → Prop} (h : P i) : ∃ j, V.int i = .int j ∧ P j := ⟨_, rfl, h⟩
/- builtins -/
theorem s_int1 {i : Int} {P : Int → Prop} {R : Bool → Prop} (h : P i) : (∃ i', [V.int i] = [.int i'] ∧ P i') ∨ ∃ k, [V.int i] = [.bl k] ∧ R k := .inl ⟨_, rfl, h⟩
theorem s_int1b {b : Bool} {P : Int → Prop} {R : Bool → Prop} (h : R b) : (∃ i', [V.bl b] = [.int i'] ∧ P i') ∨ ∃ k, [V.bl b] = [.bl k] ∧ R k := .inr ⟨_, rfl, h⟩
theorem s_max2 {i j : Int} {P : Int → Int → Prop} (h : P i j) : ∃ i' j', [V.int i, .int j] = [.int i', .int j'] ∧ P i' j' := ⟨_, _, rfl, h⟩

theorem s_lenS {z : Str} {P : Str → Prop} (h : z.length ≤ sizeLine) (q : P z) : ∃ z', [V.str z] = [.str z'] ∧ z'.length ≤ sizeLine ∧ P z' := ⟨_, rfl, h, q⟩
theorem s_ex2s {a b : Str} {P : Str → Str → Prop} (h : P a b) : ∃ i j, V.str a = .str i ∧ V.str b = .str j ∧ P i j := ⟨_, _, rfl, rfl, h⟩
theorem s_isN {R : Prop} (h : R) : V.non = .non ∧ R := ⟨rfl, h⟩

theorem s_eq {x y : V} (s : scal x y = true) (h : Q (.bl (decide (x = y))) H) : rEq x y H Q := ⟨s, h⟩
theorem s_ne {x y : V} (s : scal x y = true) (h : Q (.bl (!decide (x = y))) H) : rNe x y H Q := ⟨s, h⟩
theorem s_ixS {z : Str} {i : Int} {c : Nat} (hz : z.length ≤ sizeLine) (e : atI z.cps.toList i = some c) (q : Q (.str ⟨#[c]⟩) H) : rIxS (.str z) (.int i) H Q := ⟨_, _, _, rfl, rfl, hz, e, q⟩
theorem s_yes {Q : Bool → Hp → Prop} (h : Q true H) : tYes σ H Q := h
end
theorem s_ite {c : Bool} {A B : Prop} (h1 : c = true → A) (h2 : c = false → B) : if c = true then A else B := by
  cases c with
  | true => exact iteT (h1 rfl)
  | false => exact iteF (h2 rfl)
end SRD
/-! Loops, comprehensions, tables in the heap. -/
namespace SRD
open PySem PySem.Spec PyProof.Rows L2 SRT
section
variable {K : PySem.W.Frag} {σ σ' : L2.St} {H : Hp} {Q : VK} {D : Ends}
theorem s_lc {wi : TI} {g : TG} {tt : TT} {te : TE} {vs : List Nat} (h : wi σ H fun J H1 => ∀ D, H1 D = none → ∃ W : Nat → Nat → Hp → Prop, (∃ m, W 0 m (upd H1 D (.lst []))) ∧ ∀ i m H, W i m H →
  (J.stop i H ∧ Q (.ref D) H) ∨ (J.go i H ∧ ∃ Nx : Hp → Prop, (∀ H', Nx H' → ∃ m', m' < m ∧ W (i + 1) m' H') ∧ ∀ x H', J.yld i H x H' → g x (wipe σ vs) H' fun σ2 H2 => wipe σ2 vs = wipe σ vs ∧ tt σ2 H2 fun b H3 =>
    if b = true then te σ2 H3 fun y H4 => ∃ acc, H4 D = some (.lst acc) ∧ acc.length < sizeLine ∧ Nx (upd H4 D (.lst (acc ++ [y]))) else Nx H3)) : tLc wi g tt te vs σ H Q := h
theorem s_for {wi : TI} {g : TG} {tb : TS} (h : wi σ H fun J H1 => ∃ W : Nat → Nat → L2.St → Hp → Prop, (∃ m, W 0 m σ H1) ∧ ∀ i m σ H, W i m σ H →
    (J.stop i H ∧ D.nx σ H) ∨ (J.go i H ∧ ∃ N : L2.St → Hp → Prop, (∀ σ' H', N σ' H' → ∃ m', m' < m ∧ W (i + 1) m' σ' H') ∧ ∀ x H', J.yld i H x H' → g x σ H' fun σ2 H2 => tb { D with nx := N, ct := N, bk := D.nx } σ2 H2)) : tFor wi g tb D σ H := h
theorem s_while {c : TT} {tb : TS} (Pv : Nat → L2.St → Hp → Prop) (h0 : ∃ m, Pv m σ H) (hs : ∀ m σ H, Pv m σ H → c σ H fun b H1 => if b = true then ∃ N : L2.St → Hp → Prop, (∀ σ' H', N σ' H' → ∃ m', m' < m ∧ Pv m' σ' H') ∧ tb { D with nx := N, ct := N, bk := D.nx } σ H1 else D.nx σ H1) :
    tWhile c tb D σ H := ⟨Pv, h0, hs⟩
theorem s_iList {tl : TE} {R : It → Hp → Prop} (h : tl σ H fun x H1 => ∃ a, x = .ref a ∧ (∃ xs, SqL K H1 a xs) ∧ R (Itl K a) H1) : iList K tl σ H R := h
theorem s_iTup {tl : TE} {R : It → Hp → Prop} (h : tl σ H fun x H1 => ∃ a, x = .ref a ∧ (∃ xs, SqT K H1 a xs) ∧ R (Itt K a) H1) : iTup K tl σ H R := h
theorem s_iStr {te : TE} {R : It → Hp → Prop} (h : te σ H fun v H1 => ∃ x, v = .str x ∧ R (Its x) H1) : iStr te σ H R := h
theorem s_itL {a : Addr} {xs : List V} {P : Addr → Prop} (h : H a = some (.lst xs)) (q : P a) : ∃ a', V.ref a = .ref a' ∧ (∃ xs, SqL K H a' xs) ∧ P a' := ⟨_, rfl, ⟨_, SqL.of h⟩, q⟩
theorem s_itT {a : Addr} {xs : List V} {P : Addr → Prop} (h : SqT K H a xs) (q : P a) : ∃ a', V.ref a = .ref a' ∧ (∃ xs, SqT K H a' xs) ∧ P a' := ⟨_, rfl, ⟨_, h⟩, q⟩
theorem s_itS {z : Str} {P : Str → Prop} (q : P z) : ∃ x, V.str z = .str x ∧ P x := ⟨_, rfl, q⟩
theorem s_iRng1 {ta : TA} {R : It → Hp → Prop} (h : ta σ H fun vs H1 => ∃ j : Int, vs = [.int j] ∧ -(2 ^ 62) ≤ j ∧ j < 2 ^ 62 ∧ R (Itr 0 j.toNat) H1) : iRng1 ta σ H R := h
theorem s_iRng2 {ta : TA} {R : It → Hp → Prop} (h : ta σ H fun vs H1 => ∃ i j : Int, vs = [.int i, .int j] ∧ (-(2 ^ 62) ≤ i ∧ i < 2 ^ 62 ∧ -(2 ^ 62) ≤ j ∧ j < 2 ^ 62) ∧ R (Itr i (j - i).toNat) H1) : iRng2 ta σ H R := h
theorem s_rng1 {j : Int} {P : Int → Prop} (h : -(2 ^ 62) ≤ j ∧ j < 2 ^ 62) (q : P j) : ∃ j', [V.int j] = [.int j'] ∧ -(2 ^ 62) ≤ j' ∧ j' < 2 ^ 62 ∧ P j' := ⟨_, rfl, h.1, h.2, q⟩
theorem s_rng2 {i j : Int} {P : Int → Int → Prop} (h : -(2 ^ 62) ≤ i ∧ i < 2 ^ 62 ∧ -(2 ^ 62) ≤ j ∧ j < 2 ^ 62) (q : P i j) : ∃ i' j', [V.int i, .int j] = [.int i', .int j'] ∧ (-(2 ^ 62) ≤ i' ∧ i' < 2 ^ 62 ∧ -(2 ^ 62) ≤ j' ∧ j' < 2 ^ 62) ∧ P i' j' := ⟨_, _, rfl, h, q⟩
theorem s_eqR {α : Type} {x y : α} {R : Prop} (e : x = y) (h : R) : x = y ∧ R := ⟨e, h⟩
theorem s_iteT {A B : Prop} (h : A) : if true = true then A else B := iteT h
theorem s_iteF {A B : Prop} (h : B) : if false = true then A else B := iteF h
theorem s_acc {a : Addr} {acc : List V} {P : List V → Prop} (h : H a = some (.lst acc)) (z : acc.length < sizeLine) (q : P acc) : ∃ acc, H a = some (.lst acc) ∧ acc.length < sizeLine ∧ P acc := ⟨_, h, z, q⟩
theorem s_iEnumT {ta : TA} {R : It → Hp → Prop} (h : ta σ H fun vs H1 => ∃ a xs, vs = [.ref a] ∧ SqT K H1 a xs ∧ R (SRO.IteT K a) H1) : SRO.iEnumT K ta σ H R := h
theorem s_enT {a : Addr} {xs : List V} {P : Addr → Prop} (h : SqT K H a xs) (q : P a) : ∃ a' xs, [V.ref a] = [.ref a'] ∧ SqT K H a' xs ∧ P a' := ⟨_, _, rfl, h, q⟩
theorem for_enumT {a : Addr} {xs : List V} {g : TG} {tb : TS} (Pv : Nat → L2.St → Hp → Prop) (h0 : Pv 0 σ H) (hl : ∀ i σ H, i ≤ xs.length → Pv i σ H → SqT K H a xs)
    (hs : ∀ i x T σ H, xs[i]? = some x → Pv i σ H → H T = none → g (.ref T) σ (upd H T (.tup [.int (i : Nat), x])) fun σ2 H2 => tb { D with nx := Pv (i + 1), ct := Pv (i + 1), bk := D.nx } σ2 H2) (hd : ∀ σ H, Pv xs.length σ H → D.nx σ H) :
    ∃ W : Nat → Nat → L2.St → Hp → Prop, (∃ m, W 0 m σ H) ∧ ∀ i m σ H, W i m σ H →
      ((SRO.IteT K a).stop i H ∧ D.nx σ H) ∨ ((SRO.IteT K a).go i H ∧ ∃ N : L2.St → Hp → Prop, (∀ σ' H', N σ' H' → ∃ m', m' < m ∧ W (i + 1) m' σ' H') ∧ ∀ x H', (SRO.IteT K a).yld i H x H' → g x σ H' fun σ2 H2 => tb { D with nx := N, ct := N, bk := D.nx } σ2 H2) := by
  have w : Walk (SRO.IteT K a) xs.length (fun H => SqT K H a xs) (YPair (fun i => some (.int (i : Nat))) (fun i => xs[i]?)) := by
    refine ⟨fun i _ hi q => ⟨xs, xs[i], q, by simp [hi]⟩, fun _ q => ⟨xs, q, Nat.le_refl _⟩, fun i H v H' _ q y => ?_⟩
    obtain ⟨T, x, h1, h2, h3, h4⟩ := y
    exact ⟨T, .int (i : Nat), x, h1, h2, h3, rfl, h4 xs q⟩
  refine for_it w Pv h0 hl (fun i x σ H H' hi p y => ?_) hd
  obtain ⟨T, x1, x2, rfl, hT, rfl, e1, e2⟩ := y
  cases e1
  exact hs i x2 T σ H e2 p hT
theorem s_join {r : V → List V → Hp → VK → Prop} {to te : TE} (h : to σ H fun x H1 => (∃ a, x = .str a) ∧ te σ H1 fun y H2 => r x [y] H2 Q) : tM1 r to te σ H Q := h
theorem s_isS {a : Str} {R : Prop} (h : R) : (∃ b, V.str a = .str b) ∧ R := ⟨⟨_, rfl⟩, h⟩
end
/-! ### tables -/
def stS (b : Bool) : Str := if b then "U" else "D"
def rowV (r : SR.Row) : List V := [.str (stS r.1), .int (r.2.1 : Nat), .int (r.2.2 : Nat)]
def RowsAt (K : PySem.W.Frag) (H : Hp) (xs : List V) (T : SR.Tbl) : Prop := xs.length = T.length ∧ ∀ (i : Nat) (x : V) (r : SR.Row), xs[i]? = some x → T[i]? = some r → ∃ b, x = .ref b ∧ SqT K H b (rowV r)
def TblAt (K : PySem.W.Frag) (H : Hp) (a : Addr) (T : SR.Tbl) : Prop := ∃ xs, SqT K H a xs ∧ RowsAt K H xs T
section
variable {K : PySem.W.Frag} {H H' : Hp} {xs : List V} {T : SR.Tbl} {a : Addr}
theorem RowsAt.mono (e : Same H H') (h : RowsAt K H xs T) : RowsAt K H' xs T := ⟨h.1, fun i x r hx hr => by
  obtain ⟨b, e1, e2⟩ := h.2 i x r hx hr
  exact ⟨b, e1, seqT e e2⟩⟩
theorem TblAt.mono (e : Same H H') (h : TblAt K H a T) : TblAt K H' a T := by
  obtain ⟨xs, h1, h2⟩ := h
  exact ⟨xs, seqT e h1, h2.mono e⟩
theorem RowsAt.nil : RowsAt K H [] [] := ⟨rfl, fun i x r h => by simp at h⟩
theorem RowsAt.snoc {b : Addr} {r : SR.Row} (h : RowsAt K H xs T) (hb : SqT K H b (rowV r)) : RowsAt K H (xs ++ [.ref b]) (T ++ [r]) := by
  refine ⟨by simp [h.1], fun i x r' hx hr => ?_⟩
  by_cases hi : i < xs.length
  · rw [List.getElem?_append_left hi] at hx
    rw [List.getElem?_append_left (h.1 ▸ hi)] at hr
    exact h.2 i x r' hx hr
  · rw [List.getElem?_append_right (by omega)] at hx
    rw [List.getElem?_append_right (by rw [← h.1]; omega)] at hr
    rw [h.1] at hx
    cases e : i - T.length with
    | zero =>
      rw [e] at hx hr
      simp at hx hr
      subst hx hr
      exact ⟨b, rfl, hb⟩
    | succ n =>
      rw [e] at hx
      simp at hx
theorem RowsAt.get (h : RowsAt K H xs T) {i : Nat} (hi : i < T.length) : ∃ b, xs[i]? = some (.ref b) ∧ SqT K H b (rowV (SR.rowAt T i)) := by
  have hx : xs[i]? = some (xs[i]'(by rw [h.1]; exact hi)) := List.getElem?_eq_getElem _
  obtain ⟨b, e1, e2⟩ := h.2 i _ _ hx (SR.rowAt_get hi)
  exact ⟨b, by rw [hx, e1], e2⟩
end
/-- what was tracked is as it was, but at one place -/
def SameBut (p : Addr) (H H' : Hp) : Prop := ∀ b o, b ≠ p → H b = some o → H' b = some o
theorem SameBut.refl (p : Addr) (H : Hp) : SameBut p H H := fun _ _ _ h => h
theorem SameBut.trans {p : Addr} {H H1 H2 : Hp} (a : SameBut p H H1) (b : SameBut p H1 H2) : SameBut p H H2 := fun c o n h => b c o n (a c o n h)
theorem Same.but {p : Addr} {H H' : Hp} (a : Same H H') : SameBut p H H' := fun c o _ h => a c o h
theorem SameBut.upd (p : Addr) (H : Hp) (u : HO) : SameBut p H (L2.upd H p u) := fun b o n h => by rw [upd_ne n]; exact h
theorem SameBut.free {p q : Addr} {H H' : Hp} (a : SameBut p H H') (n : q ≠ p) (h : H' q = none) : H q = none := by
  cases e : H q with
  | none => rfl
  | some o =>
    rw [a q o n e] at h
    cases h
end SRD
namespace SRD
open PySem PySem.Spec PyProof.Rows L2 SRT
section
variable {σ : L2.St} {H : Hp}
theorem for_rng0 {j : Int} {n : Nat} {g : TG} {tb : TS} {D : Ends} (e : j = (n : Nat)) (Pv : Nat → L2.St → Hp → Prop) (h0 : Pv 0 σ H)
    (hs : ∀ i σ H, i < n → Pv i σ H → g (.int (i : Nat)) σ H fun σ2 H2 => tb { D with nx := Pv (i + 1), ct := Pv (i + 1), bk := D.nx } σ2 H2) (hd : ∀ σ H, Pv n σ H → D.nx σ H) :
    ∃ W : Nat → Nat → L2.St → Hp → Prop, (∃ m, W 0 m σ H) ∧ ∀ i m σ H, W i m σ H →
      ((Itr 0 j.toNat).stop i H ∧ D.nx σ H) ∨ ((Itr 0 j.toNat).go i H ∧ ∃ N : L2.St → Hp → Prop, (∀ σ' H', N σ' H' → ∃ m', m' < m ∧ W (i + 1) m' σ' H') ∧ ∀ x H', (Itr 0 j.toNat).yld i H x H' → g x σ H' fun σ2 H2 => tb { D with nx := N, ct := N, bk := D.nx } σ2 H2) := by
  subst e
  rw [Int.toNat_natCast]
  refine for_range (lo := 0) Pv h0 (fun i σ H hi p => ?_) hd
  rw [Int.zero_add]
  exact hs i σ H hi p
theorem lc_rng0 {j : Int} {n : Nat} {g : TG} {tt : TT} {te : TE} {vs : List Nat} {D : Addr} {Qd : Hp → Prop} (e : j = (n : Nat)) (Pv : Nat → Hp → Prop) (h0 : Pv 0 (upd H D (.lst [])))
    (hs : ∀ i H, i < n → Pv i H → g (.int (i : Nat)) (wipe σ vs) H fun σ2 H2 => wipe σ2 vs = wipe σ vs ∧ tt σ2 H2 fun b H3 =>
      if b = true then te σ2 H3 fun y H4 => ∃ acc, H4 D = some (.lst acc) ∧ acc.length < sizeLine ∧ Pv (i + 1) (upd H4 D (.lst (acc ++ [y]))) else Pv (i + 1) H3) (hd : ∀ H, Pv n H → Qd H) :
    ∃ W : Nat → Nat → Hp → Prop, (∃ m, W 0 m (upd H D (.lst []))) ∧ ∀ i m H, W i m H →
      ((Itr 0 j.toNat).stop i H ∧ Qd H) ∨ ((Itr 0 j.toNat).go i H ∧ ∃ Nx : Hp → Prop, (∀ H', Nx H' → ∃ m', m' < m ∧ W (i + 1) m' H') ∧ ∀ x H', (Itr 0 j.toNat).yld i H x H' → g x (wipe σ vs) H' fun σ2 H2 => wipe σ2 vs = wipe σ vs ∧ tt σ2 H2 fun b H3 =>
        if b = true then te σ2 H3 fun y H4 => ∃ acc, H4 D = some (.lst acc) ∧ acc.length < sizeLine ∧ Nx (upd H4 D (.lst (acc ++ [y]))) else Nx H3) := by
  subst e
  rw [Int.toNat_natCast]
  refine lc_range (lo := 0) Pv h0 (fun i H hi p => ?_) hd
  rw [Int.zero_add]
  exact hs i H hi p
end
/-- a new object at t, then it is put behind the list at D -/
theorem grow {H0 H1 : Hp} {D t : Addr} {xs : List V} {o : HO} (e : Same H0 H1) (h0 : H0 D = none) (hx : H1 D = some (.lst xs)) (ht : H1 t = none) (y : V) :
    Same H0 (upd (upd H1 t o) D (.lst (xs ++ [y]))) ∧ SameBut D H1 (upd (upd H1 t o) D (.lst (xs ++ [y]))) ∧ (upd (upd H1 t o) D (.lst (xs ++ [y]))) t = some o := by
  have n : D ≠ t := ne_of_none hx ht
  have b : SameBut D H1 (upd (upd H1 t o) D (.lst (xs ++ [y]))) := (Same.but (same_new ht)).trans (SameBut.upd _ _ _)
  refine ⟨fun c u hc => b _ _ (fun q => ?_) (e _ _ hc), b, by rw [upd_ne n.symm, upd_same]⟩
  rw [q, h0] at hc
  cases hc
/-- the same without a new object -/
theorem grow0 {H0 H1 : Hp} {D : Addr} {u : HO} (e : Same H0 H1) (h0 : H0 D = none) : Same H0 (upd H1 D u) := fun c o hc => by
  rw [upd_ne (fun q => by rw [q, h0] at hc; cases hc)]
  exact e _ _ hc
end SRD

namespace SRD
open PySem PySem.Spec PyProof.Rows L2 SRT
section
variable {K : PySem.W.Frag} {σ : L2.St} {H : Hp} {Q : VK}
theorem s_isi {x c : V} {t u : Value} {b : Bool} (hc : ClsV c u) (ht : TyX K H x t) (hk : PySem.W.kitOne K t u = some b) (q : Q (.bl b) H) : rIsi K [x, c] H Q := ⟨_, _, _, _, _, rfl, hc, ht, hk, q⟩
theorem isiII {i : Int} (q : Q (.bl true) H) : rIsi K [.int i, .ty "int"] H Q := s_isi (.ty _) (.base (.int _)) (kit_ty (by decide +kernel)) q
theorem isiIB {i : Int} (q : Q (.bl false) H) : rIsi K [.int i, .ty "bool"] H Q := s_isi (.ty _) (.base (.int _)) (kit_ty (by decide +kernel)) q
theorem isiSS {z : Str} (q : Q (.bl true) H) : rIsi K [.str z, .ty "str"] H Q := s_isi (.ty _) (.base (.str _)) (kit_ty (by decide +kernel)) q
theorem tyT {a : Addr} {xs : List V} (h : SqT K H a xs) : TyX K H (.ref a) (.type "tuple") := by
  rcases h with (h | ⟨o, h⟩) | ⟨o, its, n, h1, h2, _⟩
  · exact .base (.tup h)
  · exact .fTuple h
  · exact .kTuple h1 h2
theorem isiTT {a : Addr} {xs : List V} (h : SqT K H a xs) (q : Q (.bl true) H) : rIsi K [.ref a, .ty "tuple"] H Q := s_isi (.ty _) (tyT h) (kit_ty (by decide +kernel)) q
theorem s_allT {a : Addr} {n : Nat} (h : H a = some (.lst (List.replicate n (V.bl true)))) (q : Q (.bl true) H) : rAll K [.ref a] H Q := by
  refine ⟨a, List.replicate n true, rfl, ?_, ?_⟩
  · rw [List.map_replicate]
    exact SqL.of h
  · have e : (List.replicate n true).all id = true := by simp
    rw [e]
    exact q
theorem s_iteT' {c : Bool} {A B : Prop} (e : c = true) (h : A) : if c = true then A else B := by
  rw [e]
  exact iteT h
theorem s_iteF' {c : Bool} {A B : Prop} (e : c = false) (h : B) : if c = true then A else B := by
  rw [e]
  exact iteF h
theorem s_iteNT {A B : Prop} (h : B) : if (!true) = true then A else B := iteF h
theorem s_iteNF {A B : Prop} (h : A) : if (!false) = true then A else B := iteT h
theorem s_notin {R : V → V → Hp → VK → Prop} {x y : V} (h : R x y H Q) : R x y H Q := h
theorem s_sign {c : Nat} {z : Str} {P : Nat → Str → Prop} (h : P c z) : ∃ c' z', V.str ⟨#[c]⟩ = .str ⟨#[c']⟩ ∧ V.str z = .str z' ∧ P c' z' := ⟨_, _, rfl, rfl, h⟩
theorem s_inT {p : Addr} {xs : List V} {x : V} {b : Bool} (h : SqT K H p xs) (f : flatV x = true) (g : xs.all flatV = true) (e : inV x xs = b) (q : Q (.bl b) H) : rIn K false x (.ref p) H Q := ⟨_, _, rfl, .inr h, f, g, by rw [e]; exact q⟩
theorem s_notinT {p : Addr} {xs : List V} {x : V} {b : Bool} (h : SqT K H p xs) (f : flatV x = true) (g : xs.all flatV = true) (e : inV x xs = b) (q : Q (.bl (!b)) H) : rIn K true x (.ref p) H Q := ⟨_, _, rfl, .inr h, f, g, by rw [e]; exact q⟩
theorem lc_str {z : Str} {g : TG} {tt : TT} {te : TE} {vs : List Nat} {D : Addr} {Qd : Hp → Prop} (Pv : Nat → Hp → Prop) (h0 : Pv 0 (upd H D (.lst [])))
    (hs : ∀ i c H, z.cps.toList[i]? = some c → Pv i H → g (.str ⟨#[c]⟩) (wipe σ vs) H fun σ2 H2 => wipe σ2 vs = wipe σ vs ∧ tt σ2 H2 fun b H3 =>
      if b = true then te σ2 H3 fun y H4 => ∃ acc, H4 D = some (.lst acc) ∧ acc.length < sizeLine ∧ Pv (i + 1) (upd H4 D (.lst (acc ++ [y]))) else Pv (i + 1) H3) (hd : ∀ H, Pv z.cps.toList.length H → Qd H) :
    ∃ W : Nat → Nat → Hp → Prop, (∃ m, W 0 m (upd H D (.lst []))) ∧ ∀ i m H, W i m H →
      ((Its z).stop i H ∧ Qd H) ∨ ((Its z).go i H ∧ ∃ Nx : Hp → Prop, (∀ H', Nx H' → ∃ m', m' < m ∧ W (i + 1) m' H') ∧ ∀ x H', (Its z).yld i H x H' → g x (wipe σ vs) H' fun σ2 H2 => wipe σ2 vs = wipe σ vs ∧ tt σ2 H2 fun b H3 =>
        if b = true then te σ2 H3 fun y H4 => ∃ acc, H4 D = some (.lst acc) ∧ acc.length < sizeLine ∧ Nx (upd H4 D (.lst (acc ++ [y]))) else Nx H3) := by
  refine lc_it walk_str Pv h0 (fun _ _ _ _ => trivial) (fun i x H H' hi p y => ?_) (by rw [← Array.length_toList]; exact hd)
  obtain ⟨rfl, c, e, rfl⟩ := y
  exact hs i c H' (by rw [Array.getElem?_toList]; exact e) p
theorem for_str {z : Str} {g : TG} {tb : TS} {D : Ends} (Pv : Nat → L2.St → Hp → Prop) (h0 : Pv 0 σ H)
    (hs : ∀ i c σ H, z.cps.toList[i]? = some c → Pv i σ H → g (.str ⟨#[c]⟩) σ H fun σ2 H2 => tb { D with nx := Pv (i + 1), ct := Pv (i + 1), bk := D.nx } σ2 H2) (hd : ∀ σ H, Pv z.cps.toList.length σ H → D.nx σ H) :
    ∃ W : Nat → Nat → L2.St → Hp → Prop, (∃ m, W 0 m σ H) ∧ ∀ i m σ H, W i m σ H →
      ((Its z).stop i H ∧ D.nx σ H) ∨ ((Its z).go i H ∧ ∃ N : L2.St → Hp → Prop, (∀ σ' H', N σ' H' → ∃ m', m' < m ∧ W (i + 1) m' σ' H') ∧ ∀ x H', (Its z).yld i H x H' → g x σ H' fun σ2 H2 => tb { D with nx := N, ct := N, bk := D.nx } σ2 H2) := by
  refine for_it walk_str Pv h0 (fun _ _ _ _ _ => trivial) (fun i x σ H H' hi p y => ?_) (by rw [← Array.length_toList]; exact hd)
  obtain ⟨rfl, c, e, rfl⟩ := y
  exact hs i c σ H' (by rw [Array.getElem?_toList]; exact e) p
end
end SRD

namespace SRD
open PySem PySem.Spec PyProof.Rows L2 SRT
section
variable {K : PySem.W.Frag} {σ : L2.St} {H : Hp} {Q : VK} {D : Ends}
theorem s_dnotin {ty td : TE} (h : ty σ H fun y H1 => td σ H1 fun x H2 => ∃ a o, x = .ref a ∧ DGet H2 a y o ∧ Q (.bl (!o.isSome)) H2) : tDNotIn ty td σ H Q := h
theorem s_dget {td ty : TE} (h : td σ H fun x H1 => ty σ H1 fun y H2 => ∃ a v, x = .ref a ∧ DGet H2 a y (some v) ∧ Q v H2) : tDGet td ty σ H Q := h
theorem s_dput {td ty tv : TE} (h : tv σ H fun v H1 => td σ H1 fun x H2 => ty σ H2 fun y H3 => ∃ a H4, x = .ref a ∧ DPut H3 a y v H4 ∧ D.nx σ H4) : sDPut td ty tv D σ H := h
theorem s_dnewK (h : ∀ p, H p = none → Q (.ref p) (upd H p (.dK []))) : tDNewK σ H Q := h
theorem s_dnewT (h : ∀ p, H p = none → Q (.ref p) (upd H p (.dT []))) : tDNewT σ H Q := h
theorem s_getK {d : Addr} {n : Int} {kvs : List (Key × V)} {P : Option V → Prop} (h : H d = some (.dK kvs)) (q : P (valV kvs (.inl n))) : ∃ a o, V.ref d = .ref a ∧ DGet H a (.int n) o ∧ P o := ⟨_, _, rfl, DGet.k (k := .inl n) h, q⟩
theorem s_getK' {d : Addr} {n : Int} {kvs : List (Key × V)} {v : V} {P : V → Prop} (h : H d = some (.dK kvs)) (e : valV kvs (.inl n) = some v) (q : P v) : ∃ a v, V.ref d = .ref a ∧ DGet H a (.int n) (some v) ∧ P v := ⟨_, _, rfl, e ▸ DGet.k (k := .inl n) h, q⟩
theorem s_putK {d : Addr} {n : Int} {kvs : List (Key × V)} {v : V} {R : Hp → Prop} (h : H d = some (.dK kvs)) (z : kvs.length < sizeLine) (q : R (upd H d (.dK (putK kvs (.inl n) v)))) : ∃ a H4, V.ref d = .ref a ∧ DPut H a (.int n) v H4 ∧ R H4 := ⟨_, _, rfl, DPut.k (k := .inl n) h z, q⟩
theorem s_getT {d b : Addr} {ks : List Key} {kvs : List (List Key × V)} {P : Option V → Prop} (h : H d = some (.dT kvs)) (hb : H b = some (.tup (ks.map kV))) (q : P (valV kvs ks)) : ∃ a o, V.ref d = .ref a ∧ DGet H a (.ref b) o ∧ P o := ⟨_, _, rfl, DGet.t h hb, q⟩
theorem s_getT' {d b : Addr} {ks : List Key} {kvs : List (List Key × V)} {v : V} {P : V → Prop} (h : H d = some (.dT kvs)) (hb : H b = some (.tup (ks.map kV))) (e : valV kvs ks = some v) (q : P v) : ∃ a v, V.ref d = .ref a ∧ DGet H a (.ref b) (some v) ∧ P v := ⟨_, _, rfl, e ▸ DGet.t h hb, q⟩
theorem s_putT {d b : Addr} {ks : List Key} {kvs : List (List Key × V)} {v : V} {R : Hp → Prop} (h : H d = some (.dT kvs)) (hb : H b = some (.tup (ks.map kV))) (z : kvs.length < sizeLine) (q : R (upd H d (.dT (putK kvs ks v)))) : ∃ a H4, V.ref d = .ref a ∧ DPut H a (.ref b) v H4 ∧ R H4 := ⟨_, _, rfl, DPut.t h hb z, q⟩
theorem s_lenDT {d : Addr} {kvs : List (List Key × V)} {P : Addr → List (List Key × V) → Prop} (h : H d = some (.dT kvs)) (q : P d kvs) : ∃ p kvs, [V.ref d] = [.ref p] ∧ H p = some (.dT kvs) ∧ P p kvs := ⟨_, _, rfl, h, q⟩
theorem s_slT {te : TE} : te σ H Q → te σ H Q := id
end
end SRD
/-! The rules with the written part K given by name. -/
namespace SRD
open PySem PySem.Spec PyProof.Rows L2 SRT
section
variable {X : Cx} {K : PySem.W.Frag}
theorem kix_tup (e : X.K = K := by rfl) : IxR X (rIxT K) := e ▸ ix_tup
theorem kix_list (e : X.K = K := by rfl) : IxR X (rIxL K) := e ▸ ix_list
theorem klen (e : X.K = K := by rfl) : CallR X (.builtin "len") (fun xs H Q => ∃ p ys, xs = [.ref p] ∧ (SqL K H p ys ∨ SqT K H p ys) ∧ Q (.int ys.length) H) := e ▸ call_len_seq
theorem ktupOf (e : X.K = K := by rfl) : CallR X (.type "tuple") (fun xs H Q => ∃ p ys, xs = [.ref p] ∧ ((SqL K H p ys ∧ ∀ l, H l = none → Q (.ref l) (upd H l (.tup ys))) ∨ (SqT K H p ys ∧ Q (.ref p) H))) := e ▸ call_tuple_of
theorem klstOf (e : X.K = K := by rfl) : CallR X (.type "list") (fun xs H Q => ∃ p ys, xs = [.ref p] ∧ (SqL K H p ys ∨ SqT K H p ys) ∧ ∀ l, H l = none → Q (.ref l) (upd H l (.lst ys))) := e ▸ call_list_of
theorem kall (hc : X.calm = true) (e : X.K = K := by rfl) : CallR X (.builtin "all") (rAll K) := e ▸ cr_all hc
theorem kisi (e : X.K = K := by rfl) : CallR X (.builtin "isinstance") (rIsi K) := e ▸ call_isi
theorem kin_seq (e : X.K = K := by rfl) : OpR X (compareOp .In) (rIn K false) := e ▸ op_in_seq
theorem knotIn_seq (e : X.K = K := by rfl) : OpR X (compareOp .NotIn) (rIn K true) := e ▸ op_notIn_seq
theorem ksl_tup (e : X.K = K := by rfl) : SlR X (rSlT K) := e ▸ sl_tup
theorem kcatT (e : X.K = K := by rfl) : OpR X (binaryOp .Add) (rCatT K) := e ▸ op_catT
theorem kcatA (e : X.K = K := by rfl) : OpR X (binaryOp .Add) (rCatA K) := e ▸ op_catA
theorem keqD (hu : X.A.units + 64 < cLine) (e : X.K = K := by rfl) : OpR X (compareOp .Eq) (rEqD K) := e ▸ op_eqD hu
theorem kneD (hu : X.A.units + 64 < cLine) (e : X.K = K := by rfl) : OpR X (compareOp .NotEq) (rNeD K) := e ▸ op_neD hu
theorem kfld {o : Expr} {f : Str} {pos : Pos} {ta : TE} (he : PE X o ta) (hb : attributeBase o f X.env (eval o X.env) = eval o X.env) (e : X.K = K := by rfl) : PE X (.Attribute o f pos) (tFld K ta f) := e ▸ pe_fld he hb
theorem kps_fld {o value : Expr} {f : Str} {pos pos' : Pos} {ta tv : TE} (ha : PE X o ta) (hv : PE X value tv) (hs : swapsWith value (some (.Attribute o f pos')) pos.line X.env = pure false) (e : X.K = K := by rfl) : PS X (.Assign [.Attribute o f pos'] value pos) (sFld K ta tv f) := e ▸ ps_fld ha hv hs
theorem kg_fld {o : Expr} {f : Str} {pos : Pos} {ta : TE} (ho : PE X o ta) (e : X.K = K := by rfl) : PG X (.Attribute o f pos) (SRO.gFld K ta f) := e ▸ SRO.pg_fld ho
theorem kg_tup {es : List Expr} {k : Nat} {t : TGs} {n : Nat} {pos : Pos} (hc : X.calm = true) (h : PGs X es t)
    (hn : (assignEach es X.env).length = n := by rfl) (hst : (assignEach es X.env).findIdx? (·.1) = none := by rfl) (e : X.K = K := by rfl) : PG X (.Tuple es k pos) (gTup K n t) := e ▸ pg_tup hc h hn hst
theorem kbm {T name id : String} {r : V → List V → Hp → VK → Prop} {o e : Expr} {es : List Expr} {to : TE} {t : TA} {apos cpos : Pos} (pa : PlainAttrs T) (slot : Slot T name id) (hty : typeOf (.builtin id) = pure (.type "method_descriptor")) (hm : MtR X id r) (ho : PE X o to) (ha : PA X (e :: es) t)
    (hbase : attributeBase o name X.env (eval o X.env) = eval o X.env := by rfl)
    (hfew : ((backTo cpos (starEach (e :: es) X.env)).all (fun x => !x.1) && (backToKw cpos (keywordEach [] X.env)).all (fun x => x.1.isSome)
      && decide ((e :: es).length + ([] : List Keyword).length + (if ([] : List Keyword).isEmpty then 0 else 1) < 30)) = true := by rfl)
    (hline : (apos.endLine == cpos.line) = true := by rfl) (hs : starEach (e :: es) X.env = (false, eval e X.env) :: starEach es X.env := by rfl) (hplain : (backTo cpos (starEach es X.env)).any (·.1) = false := by rfl) (eK : X.K = K := by rfl) :
    PE X (.Call (.Attribute o name apos) (e :: es) [] cpos) (tBM K T r to t) := eK ▸ pe_bm pa slot hty hm ho ha hbase hfew hline hs hplain
theorem kjoin {o e : Expr} {to te : TE} {apos pos : Pos} (ho : PE X o to) (he : PE X e te) (hs : starEach [e] X.env = [(false, eval e X.env)] := by rfl) (hbase : attributeBase o "join" X.env (eval o X.env) = eval o X.env := by rfl) (hline : (apos.endLine == pos.line) = true := by rfl) (eK : X.K = K := by rfl) :
    PE X (.Call (.Attribute o "join" apos) [e] [] pos) (tM1 (fun x xs H Q => ∃ a p, ∃ ys : List Str, x = .str a ∧ xs = [.ref p] ∧ (SqL K H p (ys.map V.str) ∨ SqT K H p (ys.map V.str)) ∧
      (ys.map (·.length)).sum + ys.length * a.length ≤ 16777216 ∧ Q (.str (Txt.join a ys)) H) to te) := eK ▸ pe_join ho he hs hbase hline
theorem kpi_list {tg l : Expr} {tl : TE} (hl : PE X l tl) (e : X.K = K := by rfl) : PI X tg l (iList K tl) := e ▸ pi_list hl
theorem kpi_tup {tg l : Expr} {tl : TE} (hl : PE X l tl) (e : X.K = K := by rfl) : PI X tg l (iTup K tl) := e ▸ pi_tup hl
theorem s_lenSetT {σ : L2.St} {H : Hp} {Q : VK} {ta : TE} (h : ta σ H fun x H1 => ∃ (l : Addr) (xs : List Str), x = .ref l ∧ SqT K H1 l (xs.map V.str) ∧ xs.Nodup ∧ xs.length ≤ 1000 ∧ Q (.int (xs.length : Nat)) H1) : SRO.tLenSetT K ta σ H Q := h
theorem s_lenSetL {σ : L2.St} {H : Hp} {Q : VK} {ta : TE} (h : ta σ H fun x H1 => ∃ (l : Addr) (ns : List Int), x = .ref l ∧ SqL K H1 l (ns.map V.int) ∧ ns.length ≤ 4000 ∧ Q (.int ((SR.dd ns).length : Nat)) H1) : SRO.tLenSetL K ta σ H Q := h
end
end SRD
local macro_rules
  | `(tactic| ac_rfl) => `(tactic| repeat (first | with_reducible refine SRD.s_seq ?_ | with_reducible refine SRD.s_ifS ?_ | with_reducible refine SRD.s_next ?_ | with_reducible refine SRD.s_ret ?_ | with_reducible refine SRD.s_retN ?_ | with_reducible refine SRD.s_drop ?_ | with_reducible refine SRD.s_asg ?_ | with_reducible refine SRD.s_par ?_ | with_reducible refine SRD.s_par2 ?_ | with_reducible refine SRD.s_par3 ?_ | with_reducible refine SRD.s_par33 ?_ | with_reducible refine SRD.s_gSub ?_ | with_reducible refine SRD.s_gCons ?_ | with_reducible refine SRD.s_gNil ?_ | with_reducible refine SRD.s_gFld ?_ | with_reducible refine SRD.s_sFld ?_ | with_reducible refine SRD.s_fld ?_ | with_reducible refine SRD.s_C ?_ | with_reducible refine SRD.s_op ?_ | with_reducible refine SRD.s_un ?_ | with_reducible refine SRD.s_rI0 ?_ | with_reducible refine SRD.s_rU ?_ | with_reducible refine SRD.s_test ?_ | with_reducible refine SRD.s_tB ?_ | with_reducible refine SRD.s_exB ?_ | with_reducible refine SRD.s_not ?_ | with_reducible refine SRD.s_and ?_ | with_reducible refine SRD.s_or ?_ | with_reducible refine SRD.s_andV ?_ | with_reducible refine SRD.s_orV ?_ | with_reducible refine SRD.s_notV ?_ | with_reducible refine SRD.s_if ?_ | with_reducible refine SRD.s_chain ?_ | with_reducible refine SRD.s_nil ?_ | with_reducible refine SRD.s_cons ?_ | with_reducible refine SRD.s_CB ?_ | with_reducible refine SRD.s_tup ?_ | with_reducible refine SRD.s_lst ?_ | with_reducible refine SRD.s_callR ?_ | with_reducible refine SRD.s_makeR ?_ | with_reducible refine SRD.s_methR ?_ | with_reducible refine SRD.s_propR ?_ | with_reducible refine SRD.s_bm ?_ | with_reducible refine SRD.s_sl ?_ | with_reducible refine SRD.s_noPart ?_ | with_reducible refine SRD.s_part ?_ | with_reducible refine SRD.s_exI ?_ | with_reducible refine SRD.s_int1 ?_ | with_reducible refine SRD.s_int1b ?_ | with_reducible refine SRD.s_max2 ?_ | with_reducible refine SRD.s_ex2s ?_ | with_reducible refine SRD.s_isN ?_ | with_reducible refine SRD.s_yes ?_ | with_reducible refine SRD.s_lc ?_ | with_reducible refine SRD.s_for ?_ | with_reducible refine SRD.s_iList ?_ | with_reducible refine SRD.s_iTup ?_ | with_reducible refine SRD.s_iStr ?_ | with_reducible refine SRD.s_iRng1 ?_ | with_reducible refine SRD.s_iRng2 ?_ | with_reducible refine SRD.s_itS ?_ | with_reducible refine SRD.s_iteT ?_ | with_reducible refine SRD.s_iteF ?_ | with_reducible refine SRD.s_iteNT ?_ | with_reducible refine SRD.s_iteNF ?_ | with_reducible refine SRD.s_iEnumT ?_ | with_reducible refine SRD.s_join ?_ | with_reducible refine SRD.s_isS ?_ | with_reducible refine SRD.s_lenSetT ?_ | with_reducible refine SRD.s_lenSetL ?_ | with_reducible refine SRD.s_dnotin ?_ | with_reducible refine SRD.s_dget ?_ | with_reducible refine SRD.s_dput ?_ | with_reducible refine SRD.s_dnewK ?_ | with_reducible refine SRD.s_dnewT ?_ | with_reducible refine SRD.isiII ?_ | with_reducible refine SRD.isiIB ?_ | with_reducible refine SRD.isiSS ?_ | with_reducible refine SRD.s_sign ?_ | ((with_reducible apply SRD.s_var); (focus (rfl; done))) | ((with_reducible apply SRD.s_gName); (focus (rfl; done))) | ((with_reducible apply SRD.s_sz); (focus (rfl; done))) | ((with_reducible apply SRD.s_ixL); (focus ((first | assumption | exact L2.upd_same | exact (L2.upd_ne (by assumption)).trans (by assumption) | exact (L2.upd_ne (Ne.symm (by assumption))).trans (by assumption)); done)); (focus ((first | assumption | (apply L2.atI_nat; assumption) | (apply L2.atI_nat (j := 0); rfl) | (apply L2.atI_nat (j := 1); rfl) | (apply L2.atI_nat (j := 2); rfl) | (apply L2.atI_nat (j := 3); rfl) | (apply L2.atI_nat (j := 4); rfl) | (apply L2.atI_nat (j := 5); rfl)); done))) | ((with_reducible apply SRD.s_ixT); (focus ((first | assumption | exact L2.SqT.of (by first | assumption | exact L2.upd_same)); done)); (focus ((first | assumption | (apply L2.atI_nat; assumption) | (apply L2.atI_nat (j := 0); rfl) | (apply L2.atI_nat (j := 1); rfl) | (apply L2.atI_nat (j := 2); rfl) | (apply L2.atI_nat (j := 3); rfl) | (apply L2.atI_nat (j := 4); rfl) | (apply L2.atI_nat (j := 5); rfl)); done))) | ((with_reducible apply SRD.s_setL0); (focus ((first | assumption | exact L2.upd_same | exact (L2.upd_ne (by assumption)).trans (by assumption) | exact (L2.upd_ne (Ne.symm (by assumption))).trans (by assumption)); done))) | ((with_reducible apply SRD.s_setL1); (focus ((first | assumption | exact L2.upd_same | exact (L2.upd_ne (by assumption)).trans (by assumption) | exact (L2.upd_ne (Ne.symm (by assumption))).trans (by assumption)); done))) | ((with_reducible apply SRD.s_setL2); (focus ((first | assumption | exact L2.upd_same | exact (L2.upd_ne (by assumption)).trans (by assumption) | exact (L2.upd_ne (Ne.symm (by assumption))).trans (by assumption)); done))) | ((with_reducible apply SRD.s_lenL); (focus ((first | assumption | exact L2.upd_same | exact (L2.upd_ne (by assumption)).trans (by assumption) | exact (L2.upd_ne (Ne.symm (by assumption))).trans (by assumption)); done))) | ((with_reducible apply SRD.s_lenT); (focus ((first | assumption | exact L2.SqT.of (by first | assumption | exact L2.upd_same)); done))) | ((with_reducible apply SRD.s_tupOf); (focus ((first | assumption | exact L2.upd_same | exact (L2.upd_ne (by assumption)).trans (by assumption) | exact (L2.upd_ne (Ne.symm (by assumption))).trans (by assumption)); done))) | ((with_reducible apply SRD.s_lstOf); (focus ((first | assumption | exact L2.upd_same | exact (L2.upd_ne (by assumption)).trans (by assumption) | exact (L2.upd_ne (Ne.symm (by assumption))).trans (by assumption)); done))) | ((with_reducible apply SRD.s_tyL); (focus ((first | assumption | exact L2.upd_same | exact (L2.upd_ne (by assumption)).trans (by assumption) | exact (L2.upd_ne (Ne.symm (by assumption))).trans (by assumption)); done))) | ((with_reducible apply SRD.s_eq); (focus (rfl; done))) | ((with_reducible apply SRD.s_ne); (focus (rfl; done))) | ((with_reducible apply SRD.s_gTup); (focus ((first | assumption | exact L2.SqT.of (by first | assumption | exact L2.upd_same)); done)); (focus (rfl; done))) | ((with_reducible apply SRD.s_getF); (focus ((first | assumption | exact L2.upd_same | exact (L2.upd_ne (by assumption)).trans (by assumption) | exact (L2.upd_ne (Ne.symm (by assumption))).trans (by assumption)); done)); (focus (assumption; done)); (focus (assumption; done)); (focus ((first | rfl); done))) | ((with_reducible apply SRD.s_setF); (focus ((first | assumption | exact L2.upd_same | exact (L2.upd_ne (by assumption)).trans (by assumption) | exact (L2.upd_ne (Ne.symm (by assumption))).trans (by assumption)); done)); (focus (assumption; done)); (focus (assumption; done)); (focus (exact Nat.le_of_ble_eq_true rfl; done))) | ((with_reducible apply SRD.s_insM); (focus ((first | assumption | exact L2.upd_same | exact (L2.upd_ne (by assumption)).trans (by assumption) | exact (L2.upd_ne (Ne.symm (by assumption))).trans (by assumption)); done)); (focus ((first | rfl); done))) | ((with_reducible apply SRD.s_insP); (focus ((first | assumption | exact L2.upd_same | exact (L2.upd_ne (by assumption)).trans (by assumption) | exact (L2.upd_ne (Ne.symm (by assumption))).trans (by assumption)); done))) | ((with_reducible apply SRD.s_itL); (focus ((first | assumption | exact L2.upd_same | exact (L2.upd_ne (by assumption)).trans (by assumption) | exact (L2.upd_ne (Ne.symm (by assumption))).trans (by assumption)); done))) | ((with_reducible apply SRD.s_itT); (focus ((first | assumption | exact L2.SqT.of (by first | assumption | exact L2.upd_same)); done))) | ((with_reducible apply SRD.s_rng1); (focus (omega; done))) | ((with_reducible apply SRD.s_rng2); (focus (omega; done))) | ((with_reducible apply SRD.s_enT); (focus ((first | assumption | exact L2.SqT.of (by first | assumption | exact L2.upd_same)); done))) | ((with_reducible apply SRD.s_acc); (focus ((first | assumption | exact L2.upd_same | exact (L2.upd_ne (by assumption)).trans (by assumption) | exact (L2.upd_ne (Ne.symm (by assumption))).trans (by assumption)); done)); (focus (exact L2.small1000 (by first | omega | (simp only [List.length_append, List.length_cons, List.length_nil, List.length_map, List.length_range]; omega)); done))) | ((with_reducible apply SRD.s_app); (focus ((first | assumption | exact L2.upd_same | exact (L2.upd_ne (by assumption)).trans (by assumption) | exact (L2.upd_ne (Ne.symm (by assumption))).trans (by assumption)); done)); (focus (exact L2.small1000 (by first | omega | (simp only [List.length_append, List.length_cons, List.length_nil, List.length_map, List.length_range]; omega)); done))) | ((with_reducible apply SRD.s_eqR); (focus (rfl; done))) | ((with_reducible apply SRD.isiTT); (focus ((first | assumption | exact L2.SqT.of (by first | assumption | exact L2.upd_same)); done))) | ((with_reducible apply SRD.s_getK); (focus ((first | assumption | exact L2.upd_same | exact (L2.upd_ne (by assumption)).trans (by assumption) | exact (L2.upd_ne (Ne.symm (by assumption))).trans (by assumption)); done))) | ((with_reducible apply SRD.s_getK'); (focus ((first | assumption | exact L2.upd_same | exact (L2.upd_ne (by assumption)).trans (by assumption) | exact (L2.upd_ne (Ne.symm (by assumption))).trans (by assumption)); done)); (focus (assumption; done))) | ((with_reducible apply SRD.s_putK); (focus ((first | assumption | exact L2.upd_same | exact (L2.upd_ne (by assumption)).trans (by assumption) | exact (L2.upd_ne (Ne.symm (by assumption))).trans (by assumption)); done)); (focus (exact L2.small1000 (by first | omega | (simp only [List.length_append, List.length_cons, List.length_nil, List.length_map, List.length_range]; omega)); done))) | ((with_reducible apply SRD.s_getT); (focus ((first | assumption | exact L2.upd_same | exact (L2.upd_ne (by assumption)).trans (by assumption) | exact (L2.upd_ne (Ne.symm (by assumption))).trans (by assumption)); done)); (focus ((first | assumption | exact L2.upd_same | exact (L2.upd_ne (by assumption)).trans (by assumption) | exact (L2.upd_ne (Ne.symm (by assumption))).trans (by assumption)); done))) | ((with_reducible apply SRD.s_getT'); (focus ((first | assumption | exact L2.upd_same | exact (L2.upd_ne (by assumption)).trans (by assumption) | exact (L2.upd_ne (Ne.symm (by assumption))).trans (by assumption)); done)); (focus ((first | assumption | exact L2.upd_same | exact (L2.upd_ne (by assumption)).trans (by assumption) | exact (L2.upd_ne (Ne.symm (by assumption))).trans (by assumption)); done)); (focus (assumption; done))) | ((with_reducible apply SRD.s_putT); (focus ((first | assumption | exact L2.upd_same | exact (L2.upd_ne (by assumption)).trans (by assumption) | exact (L2.upd_ne (Ne.symm (by assumption))).trans (by assumption)); done)); (focus ((first | assumption | exact L2.upd_same | exact (L2.upd_ne (by assumption)).trans (by assumption) | exact (L2.upd_ne (Ne.symm (by assumption))).trans (by assumption)); done)); (focus (exact L2.small1000 (by first | omega | (simp only [List.length_append, List.length_cons, List.length_nil, List.length_map, List.length_range]; omega)); done))) | ((with_reducible apply SRD.s_mod); (focus (omega; done))) | ((with_reducible apply SRD.s_mul2); (focus (omega; done))) | ((with_reducible apply SRD.s_mul1); (focus (omega; done))) | ((with_reducible apply SRD.s_fdiv); (focus (omega; done)))))

/-! The law's own small defs. -/
namespace SRD
open PySem PySem.Spec PyProof.Rows L2 SRT
def PenOk (p : Addr) (H : Hp) : Prop := ∃ x y z : Int, H p = some (.lst [.int x, .int y, .int z]) ∧ 0 ≤ x ∧ 0 ≤ y ∧ y < 2 ^ 32
theorem seqT_but {K : PySem.W.Frag} {H H' : Hp} {p b : Addr} {xs l : List V} (e : SameBut p H H') (hp : H p = some (.lst l)) (h : SqT K H b xs) : SqT K H' b xs := by
  rcases h with (h | ⟨o, h⟩) | h
  · refine .inl (.inl (e _ _ (fun q => ?_) h))
    rw [q, hp] at h
    cases h
  · refine .inl (.inr ⟨o, e _ _ (fun q => ?_) h⟩)
    rw [q, hp] at h
    cases h
  · exact .inr h
theorem RowsAt.but {K : PySem.W.Frag} {H H' : Hp} {p : Addr} {xs l : List V} {T : SR.Tbl} (e : SameBut p H H') (hp : H p = some (.lst l)) (h : RowsAt K H xs T) : RowsAt K H' xs T := ⟨h.1, fun i x r hx hr => by
  obtain ⟨b, e1, e2⟩ := h.2 i x r hx hr
  exact ⟨b, e1, seqT_but e hp e2⟩⟩
theorem PenOk.same {p : Addr} {H H' : Hp} (h : PenOk p H) (e : Same H H') : PenOk p H' := by
  obtain ⟨x, y, z, h1, h2⟩ := h
  exact ⟨x, y, z, e _ _ h1, h2⟩
theorem PenOk.rows {K : PySem.W.Frag} {H H' : Hp} {p : Addr} {xs : List V} {T : SR.Tbl} (h : PenOk p H) (e : SameBut p H H') (r : RowsAt K H xs T) : RowsAt K H' xs T := by
  obtain ⟨x, y, z, h1, h2⟩ := h
  exact r.but e h1
theorem PenOk.at {H H' : Hp} {p a : Addr} {o : HO} (h : PenOk p H) (e : SameBut p H H') (n : a ≠ p) (r : H a = some o) : H' a = some o := e _ _ n r
section
variable {w : World} {K : PySem.W.Frag} {mg : Str → Option Value} {base : Heap}
abbrev N_law_draw : List Str := ["_law_pen_here", "_law_many", "_law_found", "_law_mixed"]
theorem sc_law_draw : FnScope N_law_draw ["_law_pen_here", "_law_many"] (defScope s_law_draw) := ⟨rfl, rfl, rfl, by decide +kernel, rfl, by decide +kernel, by decide +kernel⟩
def spDraw : Sp := fun vs H Q _ => ∃ (p : Addr) (many : Nat), vs = [.ref p, .int (many : Nat)] ∧ PenOk p H ∧ 1 ≤ many ∧ many ≤ 1000 ∧
  ∀ (r : Nat) (H' : Hp), r < many → SameBut p H H' → PenOk p H' → Q (.int (r : Nat)) H'
theorem ok_draw (T : Txt K mg) : FnR PP w K mg base CX0 1 (He.ga K "_law_draw") spDraw := by
  refine defR (T.def_ 20 rfl) sc_law_draw (fun _ _ _ _ _ _ us hl => match us, hl with | [_, _], _ => rfl) ?_ ?_
  · rintro vs H Q E ⟨p, many, rfl, _⟩
    rfl
  rintro cdv A outer s H vs Q E hr ⟨p, many, rfl, ⟨x, y, z, hp, x1, y1, y2⟩, m1, m2, k⟩
  have fin : ∀ (v : Int) (x' y' z' : Int), 0 ≤ x' → 0 ≤ y' → y' < 2 ^ 32 → Q (.int (v % (many : Nat))) (upd H p (.lst [.int x', .int y', .int z'])) := fun v x' y' z' h1 h2 h3 => by
    have b1 := Int.emod_nonneg v (show ((many : Nat) : Int) ≠ 0 by omega)
    have b2 := Int.emod_lt_of_pos v (show (0 : Int) < (many : Nat) by omega)
    have q := k (v % (many : Nat)).toNat _ (by omega) (SameBut.upd p H (.lst [.int x', .int y', .int z'])) ⟨x', y', z', upd_same, h1, h2, h3⟩
    rw [Int.toNat_of_nonneg b1] at q
    exact q
  refine ⟨_, (pss_cons (ps_if (pt_cmpR op_gt (pe_ix (kix_list (K := K)) (pv 0) pe_int (fun _ _ => rfl)) pe_int (nomark _)) (pss_cons (ps_set (i := 2) sc_law_draw.nd rfl (Or.inl rfl) (pe_op op_mod (pe_callTy call_int1 (by rfl) (T.free 38) boot_int (pa_cons (pe_ix (kix_list (K := K)) (pv 0) pe_int (fun _ _ => rfl)) pa_nil)) (pv 1)))
      (pss_cons (ps_asg (pe_op op_fdiv (pe_ix (kix_list (K := K)) (pv 0) pe_int (fun _ _ => rfl)) (pv 1)) (pg_sub (pv 0) pe_int set_list))
      (pss_one (ps_ret (pv 2))))) pss_nil)
      (pss_cons (ps_asg (pe_op op_add (pe_ix (kix_list (K := K)) (pv 0) pe_int (fun _ _ => rfl)) pe_int) (pg_sub (pv 0) pe_int set_list))
      (pss_cons (ps_asg (pe_op op_mod (pe_callTy call_int1 (by rfl) (T.free 38) boot_int (pa_cons (pe_op op_add (pe_op op_add (pe_op op_mul (pe_ix (kix_list (K := K)) (pv 0) pe_int (fun _ _ => rfl)) pe_int) (pe_op op_mul pe_int (pe_ix (kix_list (K := K)) (pv 0) pe_int (fun _ _ => rfl)))) pe_int) pa_nil)) pe_int) (pg_sub (pv 0) pe_int set_list))
      (pss_cons (ps_set (i := 3) sc_law_draw.nd rfl (Or.inl rfl) (pe_op op_mod (pe_callTy call_int1 (by rfl) (T.free 38) boot_int (pa_cons (pe_op op_add (pe_op op_add (pe_op op_mul (pe_ix (kix_list (K := K)) (pv 0) pe_int (fun _ _ => rfl)) (pe_ix (kix_list (K := K)) (pv 0) pe_int (fun _ _ => rfl))) (pe_op op_mul pe_int (pe_ix (kix_list (K := K)) (pv 0) pe_int (fun _ _ => rfl)))) pe_int) pa_nil)) pe_int))
      (pss_cons (ps_set (i := 3) sc_law_draw.nd rfl (Or.inl rfl) (pe_op op_mod (pe_callTy call_int1 (by rfl) (T.free 38) boot_int (pa_cons (pe_op op_add (pe_op op_mul (pv 3) (pv 3)) (pe_op op_mul pe_int (pv 3))) pa_nil)) pe_int))
      (pss_one (ps_ret (pe_op op_mod (pe_callTy call_int1 (by rfl) (T.free 38) boot_int (pa_cons (pe_op op_fdiv (pv 3) pe_int) pa_nil)) (pv 1))))))))), ?_⟩
  ac_rfl
  refine s_ite (fun c => ?_) (fun c => ?_)
  · ac_rfl
    exact fin x (x / (many : Nat)) y z (Int.ediv_nonneg x1 (by omega)) y1 y2
  · ac_rfl
    show Q _ _
    rw [upd_upd]
    exact fin _ x _ _ x1 (by omega) (by omega)
abbrev N_law_cell_at : List Str := ["_law_script", "_law_k"]
theorem sc_law_cell_at : FnScope N_law_cell_at ["_law_script", "_law_k"] (defScope s_law_cell_at) := ⟨rfl, rfl, rfl, by decide +kernel, rfl, by decide +kernel, by decide +kernel⟩
def spCellAt (K : PySem.W.Frag) : Sp := fun vs H Q _ => ∃ (a : Addr) (ns : List Int) (k : Nat), vs = [.ref a, .int (k : Nat)] ∧ SqL K H a (ns.map V.int) ∧ ∀ c : Int, Q (.int c) H
theorem ok_cell_at (T : Txt K mg) : FnR PP w K mg base CX0 1 (He.ga K "_law_cell_at") (spCellAt K) := by
  refine defR (T.def_ 18 rfl) sc_law_cell_at (fun _ _ _ _ _ _ us hl => match us, hl with | [_, _], _ => rfl) ?_ ?_
  · rintro vs H Q E ⟨a, ns, k, rfl, _⟩
    rfl
  rintro cdv A outer s H vs Q E hr ⟨a, ns, k, rfl, hS, q⟩
  refine ⟨_, (pss_cons (ps_if (pt_cmpR op_lt (pv 1) (pe_callB (klen (K := K)) (by rfl) (T.free 42) boot_len (pa_cons (pv 0) pa_nil)) (nomark _)) (pss_one (ps_ret (pe_ix (kix_list (K := K)) (pv 0) (pv 1) (fun _ _ => rfl)))) pss_nil)
      (pss_one (ps_ret pe_int))), ?_⟩
  ac_rfl
  refine ⟨a, _, rfl, .inl hS, ?_⟩
  ac_rfl
  rw [List.length_map]
  refine s_ite (fun c => ?_) (fun c => ?_)
  · have c : (k : Int) < (ns.length : Nat) := of_decide_eq_true c
    have hk : (ns.map V.int)[k]? = some (V.int (ns[k]'(by omega))) := by
      rw [List.getElem?_map, List.getElem?_eq_getElem (by omega)]
      rfl
    ac_rfl
    refine ⟨_, _, _, _, rfl, rfl, hS, atI_nat hk, ?_⟩
    exact q _
  · ac_rfl
    exact q _
abbrev N_law_pen : List Str := ["_law_cell"]
theorem sc_law_pen : FnScope N_law_pen ["_law_cell"] (defScope s_law_pen) := ⟨rfl, rfl, rfl, by decide +kernel, rfl, by decide +kernel, by decide +kernel⟩
def spPen : Sp := fun vs H Q _ => ∃ c : Int, vs = [.int c] ∧ ∀ (p : Addr) (H' : Hp), Same H H' → PenOk p H' → H p = none → Q (.ref p) H'
theorem ok_pen (T : Txt K mg) : FnR PP w K mg base CX0 1 (He.ga K "_law_pen") spPen := by
  refine defR (T.def_ 19 rfl) sc_law_pen (fun _ _ _ _ _ _ us hl => match us, hl with | [_], _ => rfl) ?_ ?_
  · rintro vs H Q E ⟨c, rfl, _⟩
    rfl
  rintro cdv A outer s H vs Q E hr ⟨c, rfl, q⟩
  refine ⟨_, (pss_one (ps_ret (pe_lst (pa_cons (pe_callB (call_max2 rfl) (by rfl) (T.free 49) boot_max (pa_cons pe_int (pa_cons (pe_op op_sub (pv 0) (pe_op op_pow pe_int pe_int)) pa_nil))) (pa_cons (pe_op op_add (pe_op op_mod (pe_callTy call_int1 (by rfl) (T.free 38) boot_int (pa_cons (pv 0) pa_nil)) pe_int) pe_int) (pa_cons pe_int pa_nil)))))), ?_⟩
  ac_rfl
  refine s_rI ⟨by decide, by decide, by decide⟩ ?_
  ac_rfl
  intro p hp
  have h1 := Int.emod_nonneg c (show (2147483629 : Int) ≠ 0 by decide)
  have h2 := Int.emod_lt_of_pos c (show (0 : Int) < 2147483629 by decide)
  refine q p _ (same_new hp) ⟨_, _, _, upd_same, ?_, by omega, by omega⟩ hp
  split <;> omega
abbrev N_law_streak_table : List Str := ["_law_rise", "_law_fall", "_law_found", "_law_at"]
theorem sc_law_streak_table : FnScope N_law_streak_table ["_law_rise", "_law_fall"] (defScope s_law_streak_table) := ⟨rfl, rfl, rfl, by decide +kernel, rfl, by decide +kernel, by decide +kernel⟩
/-- a table is made -/
def spNewT (K : PySem.W.Frag) (n : Nat) : Hp → VK → Prop := fun H Q => ∀ (a : Addr) (T : SR.Tbl) (H' : Hp), Same H H' → TblAt K H' a T → SR.Valid T → T.length ≤ n → H a = none → Q (.ref a) H'
def spStreak (K : PySem.W.Frag) : Sp := fun vs H Q _ => ∃ r f : Nat, vs = [.int (r : Nat), .int (f : Nat)] ∧ 1 ≤ r ∧ r ≤ 2 ∧ 1 ≤ f ∧ f ≤ 2 ∧ spNewT K 4 H Q
def stA (i : Nat) : SR.Tbl := (List.range i).map fun k => (true, 0, k + 1)
def stB (r f i : Nat) : SR.Tbl := (List.range i).map fun k => (false, if k + 1 < r then f + k + 1 else 0, f)
theorem stA_succ (i : Nat) : stA (i + 1) = stA i ++ [(true, 0, i + 1)] := by unfold stA; rw [List.range_succ, List.map_append]; rfl
theorem stB_succ (r f i : Nat) : stB r f (i + 1) = stB r f i ++ [(false, if i + 1 < r then f + i + 1 else 0, f)] := by unfold stB; rw [List.range_succ, List.map_append]; rfl
theorem ok_streak (T : Txt K mg) : FnR PP w K mg base CX0 1 (He.ga K "_law_streak_table") (spStreak K) := by
  refine defR (T.def_ 21 rfl) sc_law_streak_table (fun _ _ _ _ _ _ us hl => match us, hl with | [_, _], _ => rfl) ?_ ?_
  · rintro vs H Q E ⟨r, f, rfl, _⟩
    rfl
  rintro cdv A outer s H vs Q E hr ⟨r, f, rfl, r1, r2, f1, f2, q⟩
  refine ⟨_, (pss_cons (ps_setLc (i := 2) rfl sc_law_streak_table.nd rfl rfl (sw_true rfl rfl rfl (by decide +kernel)) (pi_range1 (by rfl) (T.free 46) (pa_cons (pv 1) pa_nil)) (blkOk_by (own := [("_law_at", 3)]) (N := N_law_streak_table) (sc := defScope s_law_streak_table) (by decide +kernel)) (fun _ _ _ _ _ => (pg_name (i := 3) sc_law_streak_table.nd rfl (Or.inl rfl))) (fun _ _ _ _ _ => pts_nil) (fun _ _ _ _ _ => (pe_tup (pa_cons pe_str (pa_cons pe_int (pa_cons (pe_op op_add (pv 3) pe_int) pa_nil))))))
      (pss_cons (ps_for PassesOwn.never rfl (pi_range1 (by rfl) (T.free 46) (pa_cons (pv 0) pa_nil)) (pg_name (i := 3) sc_law_streak_table.nd rfl (Or.inl rfl)) (pss_one (ps_expr (kbm (K := K) PySem.F.plainAttrs_list PySem.F.slot_list_append PySem.F.type_list_append mt_append (pv 2) (pa_cons (pe_tup (pa_cons pe_str (pa_cons (pe_ifExp (pt_cmpR op_lt (pe_op op_add (pv 3) pe_int) (pv 0) (nomark _)) (pe_op op_add (pe_op op_add (pv 1) (pv 3)) pe_int) pe_int) (pa_cons (pv 1) pa_nil)))) pa_nil)))))
      (pss_one (ps_ret (pe_callTy (ktupOf (K := K)) (by rfl) (T.free 41) boot_tuple (pa_cons (pv 2) pa_nil)))))), ?_⟩
  ac_rfl
  intro D hD
  refine lc_rng0 (n := f) rfl (fun i H' => Same H H' ∧ ∃ xs, H' D = some (.lst xs) ∧ RowsAt K H' xs (stA i)) ⟨same_new hD, [], upd_same, RowsAt.nil⟩ ?_ ?_
  · rintro i H1 hi ⟨e, xs, hx, hrow⟩
    have hl : xs.length = i := by rw [hrow.1]; unfold stA; simp
    ac_rfl
    intro t ht
    have ne := ne_of_none hx ht
    ac_rfl
    obtain ⟨g1, g2, g3⟩ := grow (o := .tup [.str "U", .int 0, .int ((i : Int) + 1)]) e hD hx ht (.ref t)
    refine ⟨g1, _, upd_same, ?_⟩
    rw [stA_succ]
    exact (hrow.but g2 hx).snoc (SqT.of g3)
  rintro H1 ⟨e1, xs, hx, hrow⟩
  ac_rfl
  refine for_rng0 (n := r) rfl (fun i σ H' => ∃ v, σ = [some (.int (r : Nat)), some (.int (f : Nat)), some (.ref D), v] ∧ Same H H' ∧ ∃ xs, H' D = some (.lst xs) ∧ RowsAt K H' xs (stA f ++ stB r f i)) ⟨_, rfl, e1, xs, hx, by rw [show stB r f 0 = [] from rfl, List.append_nil]; exact hrow⟩ ?_ ?_
  · rintro i σ H1 hi ⟨v, rfl, e, xs, hx, hrow⟩
    have hl : xs.length = f + i := by rw [hrow.1]; unfold stA stB; simp
    have fin : ∀ (t : Addr) (z : Nat) , H1 t = none → z = (if i + 1 < r then f + i + 1 else 0) → Same H (upd (upd H1 t (.tup [.str "D", .int (z : Nat), .int (f : Nat)])) D (.lst (xs ++ [.ref t]))) ∧ ∃ ys, (upd (upd H1 t (.tup [.str "D", .int (z : Nat), .int (f : Nat)])) D (.lst (xs ++ [.ref t]))) D = some (.lst ys) ∧ RowsAt K (upd (upd H1 t (.tup [.str "D", .int (z : Nat), .int (f : Nat)])) D (.lst (xs ++ [.ref t]))) ys (stA f ++ stB r f (i + 1)) := by
      intro t z ht hz
      obtain ⟨g1, g2, g3⟩ := grow (o := .tup [.str "D", .int (z : Nat), .int (f : Nat)]) e hD hx ht (.ref t)
      refine ⟨g1, _, upd_same, ?_⟩
      rw [stB_succ, ← List.append_assoc, ← hz]
      exact (hrow.but g2 hx).snoc (SqT.of g3)
    ac_rfl
    refine s_ite (fun c => ?_) (fun c => ?_)
    · have c : (i : Int) + 1 < (r : Nat) := of_decide_eq_true c
      ac_rfl
      intro t ht
      have ne := ne_of_none hx ht
      ac_rfl
      exact ⟨_, rfl, fin t (f + i + 1) ht (by rw [if_pos (by omega)])⟩
    · have c : ¬ (i : Int) + 1 < (r : Nat) := of_decide_eq_false c
      ac_rfl
      intro t ht
      have ne := ne_of_none hx ht
      ac_rfl
      exact ⟨_, rfl, fin t 0 ht (by rw [if_neg (by omega)])⟩
  · rintro σ H1 ⟨v, rfl, e, xs, hx, hrow⟩
    ac_rfl
    intro a ha
    refine q a _ _ (e.trans (same_new ha)) ⟨xs, SqT.of upd_same, hrow.mono (same_new ha)⟩ ⟨?_, ?_⟩ ?_ (e.free ha)
    · unfold stA stB
      simp
      omega
    · intro x hx
      rw [List.length_append]
      have l1 : (stA f).length = f := by unfold stA; simp
      have l2 : (stB r f r).length = r := by unfold stB; simp
      rw [l1, l2]
      rcases List.mem_append.mp hx with h | h
      · unfold stA at h
        obtain ⟨k, hk, rfl⟩ := List.mem_map.mp h
        have := List.mem_range.mp hk
        exact ⟨by show 0 < _; omega, by show k + 1 < _; omega⟩
      · unfold stB at h
        obtain ⟨k, hk, rfl⟩ := List.mem_map.mp h
        have := List.mem_range.mp hk
        refine ⟨?_, by show f < _; omega⟩
        show (if k + 1 < r then f + k + 1 else 0) < _
        split <;> omega
    · unfold stA stB
      simp
      omega
abbrev N_law_ring : List Str := ["_law_signs", "_law_many", "_law_at"]
theorem sc_law_ring : FnScope N_law_ring ["_law_signs"] (defScope s_law_ring) := ⟨rfl, rfl, rfl, by decide +kernel, rfl, by decide +kernel, by decide +kernel⟩
def udC (b : Bool) : Nat := if b then 85 else 68
theorem udC_st (b : Bool) : (⟨#[udC b]⟩ : Str) = stS b := by cases b <;> decide +kernel
def spRing (K : PySem.W.Frag) : Sp := fun vs H Q _ => ∃ (z : Str) (bs : List Bool), vs = [.str z] ∧ z.cps.toList = bs.map udC ∧ 1 ≤ bs.length ∧ bs.length ≤ 4 ∧ spNewT K 4 H Q
def rgT (bs : List Bool) (i : Nat) : SR.Tbl := (List.range i).map fun k => (bs.getD k true, (k + 1) % bs.length, (k + 1) % bs.length)
theorem rgT_succ (bs : List Bool) (i : Nat) : rgT bs (i + 1) = rgT bs i ++ [(bs.getD i true, (i + 1) % bs.length, (i + 1) % bs.length)] := by unfold rgT; rw [List.range_succ, List.map_append]; rfl
theorem ok_ring (T : Txt K mg) : FnR PP w K mg base CX0 1 (He.ga K "_law_ring") (spRing K) := by
  refine defR (T.def_ 22 rfl) sc_law_ring (fun _ _ _ _ _ _ us hl => match us, hl with | [_], _ => rfl) ?_ ?_
  · rintro vs H Q E ⟨z, bs, rfl, _⟩
    rfl
  rintro cdv A outer s H vs Q E hr ⟨z, bs, rfl, hz, b1, b2, q⟩
  have hl : z.length = bs.length := by
    show z.cps.size = _
    rw [← Array.length_toList, hz, List.length_map]
  have hsz : z.length ≤ sizeLine := Nat.le_of_lt (small1000 (by omega))
  refine ⟨_, (pss_cons (ps_set (i := 1) sc_law_ring.nd rfl (Or.inr rfl) (pe_callB call_len_str (by rfl) (T.free 42) boot_len (pa_cons (pv 0) pa_nil)))
      (pss_one (ps_ret (pe_callTy (ktupOf (K := K)) (by rfl) (T.free 41) boot_tuple (pa_cons (pe_lc rfl sc_law_ring.nd (pi_range1 (by rfl) (T.free 46) (pa_cons (pv 1) pa_nil)) (blkOk_by (own := [("_law_at", 2)]) (N := N_law_ring) (sc := defScope s_law_ring) (by decide +kernel)) (fun _ _ _ _ _ => (pg_name (i := 2) sc_law_ring.nd rfl (Or.inl rfl))) (fun _ _ _ _ _ => pts_nil) (fun _ _ _ _ _ => (pe_tup (pa_cons (pe_ix ix_str (pv 0) (pv 2) (fun _ _ => rfl)) (pa_cons (pe_op op_mod (pe_callTy call_int1 (by rfl) (T.free 38) boot_int (pa_cons (pe_op op_add (pv 2) pe_int) pa_nil)) (pv 1)) (pa_cons (pe_op op_mod (pe_callTy call_int1 (by rfl) (T.free 38) boot_int (pa_cons (pe_op op_add (pv 2) pe_int) pa_nil)) (pv 1)) pa_nil)))))) pa_nil))))), ?_⟩
  ac_rfl
  refine s_lenS hsz ?_
  rw [hl]
  ac_rfl
  intro D hD
  refine lc_rng0 (n := bs.length) rfl (fun i H' => Same H H' ∧ ∃ xs, H' D = some (.lst xs) ∧ RowsAt K H' xs (rgT bs i)) ⟨same_new hD, [], upd_same, RowsAt.nil⟩ ?_ ?_
  · rintro i H1 hi ⟨e, xs, hx, hrow⟩
    have hl : xs.length = i := by rw [hrow.1]; unfold rgT; simp
    have hat : atI z.cps.toList ((i : Nat) : Int) = some (udC (bs.getD i true)) := by
      refine atI_nat ?_
      rw [hz, List.getElem?_map, List.getElem?_eq_getElem hi, List.getD_eq_getElem?_getD, List.getElem?_eq_getElem hi]
      rfl
    ac_rfl
    refine s_ixS hsz hat ?_
    rw [udC_st]
    ac_rfl
    intro t ht
    have ne := ne_of_none hx ht
    ac_rfl
    have ev : ((i : Int) + 1) % (bs.length : Nat) = (((i + 1) % bs.length : Nat) : Int) := by push_cast; rfl
    rw [ev]
    obtain ⟨g1, g2, g3⟩ := grow (o := .tup [.str (stS (bs.getD i true)), .int (((i + 1) % bs.length : Nat) : Int), .int (((i + 1) % bs.length : Nat) : Int)]) e hD hx ht (.ref t)
    refine ⟨g1, _, upd_same, ?_⟩
    rw [rgT_succ]
    exact (hrow.but g2 hx).snoc (SqT.of g3)
  rintro H1 ⟨e1, xs, hx, hrow⟩
  ac_rfl
  intro a ha
  have lr : (rgT bs bs.length).length = bs.length := by unfold rgT; simp
  refine q a _ _ (e1.trans (same_new ha)) ⟨xs, SqT.of upd_same, hrow.mono (same_new ha)⟩ ⟨by omega, ?_⟩ (by omega) (e1.free ha)
  intro x hx
  rw [lr]
  unfold rgT at hx
  obtain ⟨k, hk, rfl⟩ := List.mem_map.mp hx
  exact ⟨Nat.mod_lt _ (by omega), Nat.mod_lt _ (by omega)⟩
end
end SRD
/-! The law's drawn tables and checks. -/
namespace SRD
open PySem PySem.Spec PyProof.Rows L2 SRT
theorem growB {p : Addr} {H0 H1 : Hp} {D t : Addr} {xs : List V} {o : HO} (e : SameBut p H0 H1) (h0 : H0 D = none) (hx : H1 D = some (.lst xs)) (ht : H1 t = none) (pk : PenOk p H1) (np : D ≠ p) (y : V) :
    SameBut p H0 (upd (upd H1 t o) D (.lst (xs ++ [y]))) ∧ SameBut D H1 (upd (upd H1 t o) D (.lst (xs ++ [y]))) ∧ (upd (upd H1 t o) D (.lst (xs ++ [y]))) t = some o ∧ PenOk p (upd (upd H1 t o) D (.lst (xs ++ [y]))) := by
  have n : D ≠ t := ne_of_none hx ht
  have b : SameBut D H1 (upd (upd H1 t o) D (.lst (xs ++ [y]))) := (Same.but (same_new ht)).trans (SameBut.upd _ _ _)
  refine ⟨fun c u nc hc => b _ _ (fun q => ?_) (e _ _ nc hc), b, by rw [upd_ne n.symm, upd_same], ?_⟩
  · rw [q, h0] at hc
    cases hc
  · obtain ⟨x, y, z, h1, h2⟩ := pk
    exact ⟨x, y, z, b _ _ np.symm h1, h2⟩
theorem ud_ix {H : Hp} {Q : VK} {r : Nat} (h : r < 2) (q : ∀ b, Q (.str (stS b)) H) : rIxS (.str "UD") (.int (r : Nat)) H Q := by
  have e : r = 0 ∨ r = 1 := by omega
  rcases e with rfl | rfl
  · exact s_ixS (c := 85) (by decide) (by decide +kernel) (by rw [show (⟨#[85]⟩ : Str) = stS true by decide +kernel]; exact q true)
  · exact s_ixS (c := 68) (by decide) (by decide +kernel) (by rw [show (⟨#[68]⟩ : Str) = stS false by decide +kernel]; exact q false)
section
variable {w : World} {K : PySem.W.Frag} {mg : Str → Option Value} {base : Heap}
abbrev N_law_table : List Str := ["_law_pen_here", "_law_many", "_law_way", "_law_found", "_law_wide", "_law_groups", "_law_at", "_law_status", "_law_one", "_law_other", "_law_k"]
theorem sc_law_table : FnScope N_law_table ["_law_pen_here", "_law_many"] (defScope s_law_table) := ⟨rfl, rfl, rfl, by decide +kernel, rfl, by decide +kernel, by decide +kernel⟩
/-- a table is made, the pen turned -/
def spNewP (K : PySem.W.Frag) (p : Addr) (n : Nat) : Hp → VK → Prop := fun H Q => ∀ (a : Addr) (T : SR.Tbl) (H' : Hp), SameBut p H H' → PenOk p H' → TblAt K H' a T → SR.Valid T → T.length ≤ n → Q (.ref a) H'
def spTable (K : PySem.W.Frag) : Sp := fun vs H Q _ => ∃ (p : Addr) (n : Nat), vs = [.ref p, .int (n : Nat)] ∧ PenOk p H ∧ 1 ≤ n ∧ n ≤ 4 ∧ spNewP K p 4 H Q
/-- rows whose ways lie below n -/
def Below (n : Nat) (T : SR.Tbl) : Prop := ∀ r ∈ T, r.2.1 < n ∧ r.2.2 < n
theorem Below.snoc {n : Nat} {T : SR.Tbl} {r : SR.Row} (h : Below n T) (h1 : r.2.1 < n) (h2 : r.2.2 < n) : Below n (T ++ [r]) := fun x hx => by
  rcases List.mem_append.mp hx with q | q
  · exact h x q
  · rw [List.mem_singleton.mp q]
    exact ⟨h1, h2⟩
theorem ok_table (T : Txt K mg) (F_law_draw : FnR PP w K mg base CX0 1 (He.ga K "_law_draw") spDraw) : FnR PP w K mg base CX0 2 (He.ga K "_law_table") (spTable K) := by
  refine defR (T.def_ 23 rfl) sc_law_table (fun _ _ _ _ _ _ us hl => match us, hl with | [_, _], _ => rfl) ?_ ?_
  · rintro vs H Q E ⟨p, n, rfl, _⟩
    rfl
  rintro cdv A outer s H vs Q E hr ⟨p, n, rfl, pk, n1, n2, q⟩
  refine ⟨_, (pss_cons (ps_asg (pe_tup (pa_cons (SRO.pe_callR F_law_draw (hr.mono (by decide)) (by rfl) (T.glo 20) (T.keep 128) pass0 (pa_cons (pv 0) (pa_cons pe_int pa_nil))) (pa_cons (pe_lst pa_nil) (pa_cons (pe_op op_add pe_int (SRO.pe_callR F_law_draw (hr.mono (by decide)) (by rfl) (T.glo 20) (T.keep 128) pass0 (pa_cons (pv 0) (pa_cons (pv 1) pa_nil)))) pa_nil)))) (kg_tup (K := K) (n := 3) rfl (pgs_cons (pg_name (i := 2) sc_law_table.nd rfl (Or.inl rfl)) (pgs_cons (pg_name (i := 3) sc_law_table.nd rfl (Or.inl rfl)) (pgs_cons (pg_name (i := 4) sc_law_table.nd rfl (Or.inr rfl)) pgs_nil)))))
      (pss_cons (ps_setLc (i := 5) rfl sc_law_table.nd rfl rfl (sw_true rfl rfl rfl (by decide +kernel)) (pi_range1 (by rfl) (T.free 46) (pa_cons (pv 4) pa_nil)) (blkOk_by (own := [("_law_k", 10)]) (N := N_law_table) (sc := defScope s_law_table) (by decide +kernel)) (fun _ _ _ _ _ => (pg_name (i := 10) sc_law_table.nd rfl (Or.inl rfl))) (fun _ _ _ _ _ => pts_nil) (fun _ _ _ _ _ => (pe_tup (pa_cons (pe_ix ix_str pe_str (SRO.pe_callR F_law_draw (hr.mono (by decide)) (by rfl) (T.glo 20) (T.keep 128) pass0 (pa_cons (pv 0) (pa_cons pe_int pa_nil))) (fun _ _ => rfl)) (pa_cons (SRO.pe_callR F_law_draw (hr.mono (by decide)) (by rfl) (T.glo 20) (T.keep 128) pass0 (pa_cons (pv 0) (pa_cons (pv 4) pa_nil))) (pa_cons (SRO.pe_callR F_law_draw (hr.mono (by decide)) (by rfl) (T.glo 20) (T.keep 128) pass0 (pa_cons (pv 0) (pa_cons (pv 4) pa_nil))) pa_nil))))))
      (pss_cons (ps_for PassesOwn.never rfl (pi_range1 (by rfl) (T.free 46) (pa_cons (pv 1) pa_nil)) (pg_name (i := 6) sc_law_table.nd rfl (Or.inl rfl)) (pss_cons (ps_set (i := 7) sc_law_table.nd rfl (Or.inl rfl) (pe_ix ix_str pe_str (SRO.pe_callR F_law_draw (hr.mono (by decide)) (by rfl) (T.glo 20) (T.keep 128) pass0 (pa_cons (pv 0) (pa_cons pe_int pa_nil))) (fun _ _ => rfl)))
      (pss_one (ps_if (pt_cmpR op_eq (pv 2) pe_int (nomark _)) (pss_one (ps_expr (kbm (K := K) PySem.F.plainAttrs_list PySem.F.slot_list_append PySem.F.type_list_append mt_append (pv 3) (pa_cons (pe_tup (pa_cons (pv 7) (pa_cons (SRO.pe_callR F_law_draw (hr.mono (by decide)) (by rfl) (T.glo 20) (T.keep 128) pass0 (pa_cons (pv 0) (pa_cons (pv 1) pa_nil))) (pa_cons (SRO.pe_callR F_law_draw (hr.mono (by decide)) (by rfl) (T.glo 20) (T.keep 128) pass0 (pa_cons (pv 0) (pa_cons (pv 1) pa_nil))) pa_nil)))) pa_nil)))) (pss_one (ps_if (pt_cmpR op_eq (pv 2) pe_int (nomark _)) (pss_one (ps_expr (kbm (K := K) PySem.F.plainAttrs_list PySem.F.slot_list_append PySem.F.type_list_append mt_append (pv 3) (pa_cons (pe_tup (pa_cons (pv 7) (pa_cons (pe_op op_mod (pe_callTy call_int1 (by rfl) (T.free 38) boot_int (pa_cons (pe_op op_add (pv 6) pe_int) pa_nil)) (pv 1)) (pa_cons (SRO.pe_callR F_law_draw (hr.mono (by decide)) (by rfl) (T.glo 20) (T.keep 128) pass0 (pa_cons (pv 0) (pa_cons (pe_op op_add (pv 6) pe_int) pa_nil))) pa_nil)))) pa_nil)))) (pss_cons (ps_asg (pe_ix (kix_list (K := K)) (pv 5) (pe_op op_mod (pe_callTy call_int1 (by rfl) (T.free 38) boot_int (pa_cons (pv 6) pa_nil)) (pv 4)) (fun _ _ => rfl)) (kg_tup (K := K) (n := 3) rfl (pgs_cons (pg_name (i := 7) sc_law_table.nd rfl (Or.inl rfl)) (pgs_cons (pg_name (i := 8) sc_law_table.nd rfl (Or.inl rfl)) (pgs_cons (pg_name (i := 9) sc_law_table.nd rfl (Or.inl rfl)) pgs_nil)))))
      (pss_one (ps_expr (kbm (K := K) PySem.F.plainAttrs_list PySem.F.slot_list_append PySem.F.type_list_append mt_append (pv 3) (pa_cons (pe_tup (pa_cons (pv 7) (pa_cons (pe_op op_add (pv 8) (pe_op op_mul (pv 4) (pe_callTy call_int1 (by rfl) (T.free 38) boot_int (pa_cons (pe_and (pe_cmpR op_lt (pe_op op_add (pv 8) (pv 4)) (pv 1) (nomark _)) (pe_one (pe_cmpR op_gt (pv 6) pe_int (nomark _)))) pa_nil)))) (pa_cons (pv 9) pa_nil)))) pa_nil)))))))))))
      (pss_one (ps_ret (pe_callTy (ktupOf (K := K)) (by rfl) (T.free 41) boot_tuple (pa_cons (pv 3) pa_nil))))))), ?_⟩
  ac_rfl
  refine ⟨p, 3, rfl, pk, by decide, by decide, fun way H1 hway e1 pk1 => ?_⟩
  ac_rfl
  intro l hl
  have nlp : l ≠ p := by
    obtain ⟨x, y, z, h1, _⟩ := pk1
    exact (ne_of_none h1 hl).symm
  have l0 : H l = none := e1.free nlp hl
  have pk1' : PenOk p (upd H1 l (.lst [])) := pk1.same (same_new hl)
  ac_rfl
  refine ⟨p, n, rfl, pk1', n1, by omega, fun wd H2 hwd e2 pk2 => ?_⟩
  ac_rfl
  intro t ht
  have ntl : l ≠ t := ne_of_none (e2 _ _ nlp upd_same) ht
  have e20 : SameBut p H H2 := fun b o nb hb => e2 _ _ nb (by rw [upd_ne (ne_of_none (e1 _ _ nb hb) hl)]; exact e1 _ _ nb hb)
  ac_rfl
  have hl3 : (upd H2 t (.tup [.int (way : Nat), .ref l, .int (1 + (wd : Nat))])) l = some (.lst []) := (upd_ne ntl).trans (e2 _ _ nlp upd_same)
  have e30 : SameBut p H (upd H2 t (.tup [.int (way : Nat), .ref l, .int (1 + (wd : Nat))])) := e20.trans (Same.but (same_new ht))
  have pk3 : PenOk p (upd H2 t (.tup [.int (way : Nat), .ref l, .int (1 + (wd : Nat))])) := pk2.same (same_new ht)
  revert hl3 e30 pk3
  generalize upd H2 t (.tup [.int (way : Nat), .ref l, .int (1 + (wd : Nat))]) = H3
  intro hl3 e30 pk3 D hD
  have nDp : D ≠ p := by
    obtain ⟨x, y, z, h1, _⟩ := pk3
    exact (ne_of_none h1 hD).symm
  refine lc_rng0 (n := 1 + wd) (by push_cast; rfl) (fun i H' => SameBut p H3 H' ∧ PenOk p H' ∧ ∃ xs Tg, H' D = some (.lst xs) ∧ RowsAt K H' xs Tg ∧ Tg.length = i ∧ Below (1 + wd) Tg)
    ⟨Same.but (same_new hD), pk3.same (same_new hD), [], [], upd_same, RowsAt.nil, rfl, fun _ h => by simp at h⟩ ?_ ?_
  · rintro i H4 hi ⟨e, pk4, xs, Tg, hx, hrow, hlen, hb⟩
    have hl : xs.length = i := by rw [hrow.1, hlen]
    ac_rfl
    refine ⟨p, 2, rfl, pk4, by decide, by decide, fun r1 H5 hr1 e5 pk5 => ?_⟩
    refine ud_ix hr1 fun b => ?_
    ac_rfl
    refine ⟨p, 1 + wd, by push_cast; rfl, pk5, by omega, by omega, fun r2 H6 hr2 e6 pk6 => ?_⟩
    ac_rfl
    refine ⟨p, 1 + wd, by push_cast; rfl, pk6, by omega, by omega, fun r3 H7 hr3 e7 pk7 => ?_⟩
    ac_rfl
    intro t2 ht2
    have e47 := (e5.trans e6).trans e7
    have hx7 := e47 _ _ nDp hx
    have ne := ne_of_none hx7 ht2
    ac_rfl
    obtain ⟨g1, g2, g3, g4⟩ := growB (o := .tup [.str (stS b), .int (r2 : Nat), .int (r3 : Nat)]) (e.trans e47) hD hx7 ht2 pk7 nDp (.ref t2)
    exact ⟨g1, g4, _, _, upd_same, ((pk4.rows e47 hrow).but g2 hx7).snoc (r := (b, r2, r3)) (SqT.of g3), by rw [List.length_append, hlen]; rfl, hb.snoc hr2 hr3⟩
  rintro H4 ⟨e4, pk4, gs, Tg, hgs, hgrow, hglen, hgb⟩
  have nlD : l ≠ D := ne_of_none hl3 hD
  have hl4 : H4 l = some (.lst []) := e4 _ _ nlp hl3
  ac_rfl
  refine for_rng0 (n := n) rfl (fun i σ H' => ∃ v6 v7 v8 v9, σ = [some (.ref p), some (.int (n : Nat)), some (.int (way : Nat)), some (.ref l), some (.int (1 + (wd : Nat))), some (.ref D), v6, v7, v8, v9, none] ∧ SameBut p H H' ∧ PenOk p H' ∧
      H' D = some (.lst gs) ∧ RowsAt K H' gs Tg ∧ ∃ xs T, H' l = some (.lst xs) ∧ RowsAt K H' xs T ∧ T.length = i ∧ Below n T)
    ⟨_, _, _, _, rfl, e30.trans e4, pk4, hgs, hgrow, [], [], hl4, RowsAt.nil, rfl, fun _ h => by simp at h⟩ ?_ ?_
  · rintro i σ H5 hi ⟨v6, v7, v8, v9, rfl, e5, pk5, hgs5, hgrow5, xs, T, hx, hrow, hlen, hb⟩
    have hl : xs.length = i := by rw [hrow.1, hlen]
    have fin : ∀ (b : Bool) (u v : Nat) (t2 : Addr) (H7 : Hp), SameBut p H5 H7 → PenOk p H7 → H7 t2 = none → u < n → v < n →
        SameBut p H (upd (upd H7 t2 (.tup [.str (stS b), .int (u : Nat), .int (v : Nat)])) l (.lst (xs ++ [.ref t2]))) ∧ PenOk p (upd (upd H7 t2 (.tup [.str (stS b), .int (u : Nat), .int (v : Nat)])) l (.lst (xs ++ [.ref t2]))) ∧
        (upd (upd H7 t2 (.tup [.str (stS b), .int (u : Nat), .int (v : Nat)])) l (.lst (xs ++ [.ref t2]))) D = some (.lst gs) ∧ RowsAt K (upd (upd H7 t2 (.tup [.str (stS b), .int (u : Nat), .int (v : Nat)])) l (.lst (xs ++ [.ref t2]))) gs Tg ∧
        ∃ xs' T', (upd (upd H7 t2 (.tup [.str (stS b), .int (u : Nat), .int (v : Nat)])) l (.lst (xs ++ [.ref t2]))) l = some (.lst xs') ∧ RowsAt K (upd (upd H7 t2 (.tup [.str (stS b), .int (u : Nat), .int (v : Nat)])) l (.lst (xs ++ [.ref t2]))) xs' T' ∧ T'.length = i + 1 ∧ Below n T' := by
      intro b u v t2 H7 e57 pk7 ht2 hu hv
      have hx7 := e57 _ _ nlp hx
      obtain ⟨g1, g2, g3, g4⟩ := growB (o := .tup [.str (stS b), .int (u : Nat), .int (v : Nat)]) (e5.trans e57) l0 hx7 ht2 pk7 nlp (.ref t2)
      exact ⟨g1, g4, g2 _ _ nlD.symm (e57 _ _ nDp hgs5), (pk5.rows e57 hgrow5).but g2 hx7, _, _, upd_same, ((pk5.rows e57 hrow).but g2 hx7).snoc (r := (b, u, v)) (SqT.of g3), by rw [List.length_append, hlen]; rfl, hb.snoc hu hv⟩
    ac_rfl
    refine ⟨p, 2, rfl, pk5, by decide, by decide, fun r1 H6 hr1 e6 pk6 => ?_⟩
    refine ud_ix hr1 fun b => ?_
    ac_rfl
    have hx6 := e6 _ _ nlp hx
    refine s_ite (fun c => ?_) (fun c => ?_)
    · ac_rfl
      refine ⟨p, n, rfl, pk6, by omega, by omega, fun r2 H7 hr2 e7 pk7 => ?_⟩
      ac_rfl
      refine ⟨p, n, rfl, pk7, by omega, by omega, fun r3 H8 hr3 e8 pk8 => ?_⟩
      ac_rfl
      intro t2 ht2
      have e58 := (e6.trans e7).trans e8
      have hx8 := e58 _ _ nlp hx
      have ne := ne_of_none hx8 ht2
      ac_rfl
      exact ⟨_, _, _, _, rfl, fin b r2 r3 t2 H8 e58 pk8 ht2 hr2 hr3⟩
    · ac_rfl
      refine s_ite (fun c => ?_) (fun c => ?_)
      · ac_rfl
        refine ⟨p, i + 1, by push_cast; rfl, pk6, by omega, by omega, fun r3 H8 hr3 e8 pk8 => ?_⟩
        ac_rfl
        intro t2 ht2
        have e58 := e6.trans e8
        have hx8 := e58 _ _ nlp hx
        have ne := ne_of_none hx8 ht2
        ac_rfl
        have ev : ((i : Int) + 1) % (n : Nat) = (((i + 1) % n : Nat) : Int) := by push_cast; rfl
        rw [ev]
        exact ⟨_, _, _, _, rfl, fin b _ r3 t2 H8 e58 pk8 ht2 (Nat.mod_lt _ (by omega)) (by omega)⟩
      · have hj : i % (1 + wd) < Tg.length := by rw [hglen]; exact Nat.mod_lt _ (by omega)
        obtain ⟨gb, hgb1, hgb2⟩ := (pk5.rows e6 hgrow5).get hj
        have hgs6 := e6 _ _ nDp hgs5
        have hbl := hgb _ (SR.rowAt_mem hj)
        revert hgb2 hbl
        generalize SR.rowAt Tg (i % (1 + wd)) = rr
        intro hgb2 hbl
        obtain ⟨rb, ru, rv⟩ := rr
        have hgb2 : SqT K H6 gb [.str (stS rb), .int (ru : Nat), .int (rv : Nat)] := hgb2
        have hbl : ru < 1 + wd ∧ rv < 1 + wd := hbl
        have ej : (i : Int) % (1 + (wd : Nat)) = ((i % (1 + wd) : Nat) : Int) := by push_cast; rfl
        have hat : atI gs ((i : Int) % (1 + (wd : Nat))) = some (.ref gb) := by rw [ej]; exact atI_nat hgb1
        ac_rfl
        refine s_ite (fun c2 => ?_) (fun c2 => ?_)
        · have c2 : (ru : Int) + (1 + (wd : Nat)) < (n : Nat) := of_decide_eq_true c2
          ac_rfl
          intro t2 ht2
          have ne := ne_of_none hx6 ht2
          ac_rfl
          have ev : (ru : Int) + (1 + (wd : Nat)) * (if decide ((0 : Int) < (i : Nat)) = true then 1 else 0) = ((ru + (1 + wd) * (if 0 < i then 1 else 0) : Nat) : Int) := by
            by_cases h : 0 < i
            · rw [if_pos h, if_pos (decide_eq_true (by omega))]
              push_cast
              omega
            · rw [if_neg h, if_neg (fun q => h (by have := of_decide_eq_true q; omega))]
              push_cast
              omega
          rw [ev]
          exact ⟨_, _, _, _, rfl, fin rb _ rv t2 H6 e6 pk6 ht2 (by split <;> omega) (by omega)⟩
        · ac_rfl
          intro t2 ht2
          have ne := ne_of_none hx6 ht2
          ac_rfl
          have ev : (ru : Int) + (1 + (wd : Nat)) * (if false = true then 1 else 0) = ((ru : Nat) : Int) := by simp
          rw [ev]
          exact ⟨_, _, _, _, rfl, fin rb ru rv t2 H6 e6 pk6 ht2 (by omega) (by omega)⟩
  · rintro σ H5 ⟨v6, v7, v8, v9, rfl, e5, pk5, hgs5, hgrow5, xs, T, hx, hrow, hlen, hb⟩
    ac_rfl
    intro a ha
    exact q a T _ (e5.trans (Same.but (same_new ha))) (pk5.same (same_new ha)) ⟨xs, SqT.of upd_same, hrow.mono (same_new ha)⟩ ⟨by omega, by rw [hlen]; exact hb⟩ (by omega)
end
end SRD
/-! The law's drawn rules and checks. -/
namespace SRD
open PySem PySem.Spec PyProof.Rows L2 SRT
/-- checks as a text -/
def ckC (b : Bool) : Nat := if b then 43 else 45
def ckS (w : List Bool) : Str := ⟨(w.map ckC).toArray⟩
theorem ckS_nil : (Str.ofString "" : Str) = ckS [] := by decide +kernel
theorem ckS_list (w : List Bool) : (ckS w).cps.toList = w.map ckC := by unfold ckS; simp
theorem ckS_len (w : List Bool) : (ckS w).length = w.length := by
  show (ckS w).cps.size = _
  unfold ckS
  simp
theorem ckS_snoc (w : List Bool) (c : Bool) : ckS w ++ (⟨#[ckC c]⟩ : Str) = ckS (w ++ [c]) := by
  show (⟨(ckS w).cps ++ #[ckC c]⟩ : Str) = _
  unfold ckS
  simp
theorem ckS_inj {w u : List Bool} (h : ckS w = ckS u) : w = u := by
  have e : (ckS w).cps.toList = (ckS u).cps.toList := by rw [h]
  rw [ckS_list, ckS_list] at e
  exact (List.map_inj_right (f := ckC) (fun a b => by cases a <;> cases b <;> decide)).mp e
theorem pm_ix {H : Hp} {Q : VK} {r : Nat} (h : r < 2) (q : ∀ b, Q (.str (⟨#[ckC b]⟩ : Str)) H) : rIxS (.str "+-") (.int (r : Nat)) H Q := by
  have e : r = 0 ∨ r = 1 := by omega
  rcases e with rfl | rfl
  · exact s_ixS (c := 43) (by decide) (by decide +kernel) (q true)
  · exact s_ixS (c := 45) (by decide) (by decide +kernel) (q false)
section
variable {w : World} {K : PySem.W.Frag} {mg : Str → Option Value} {base : Heap}
abbrev N_law_few : List Str := ["_law_pen_here", "_law_way"]
theorem sc_law_few : FnScope N_law_few ["_law_pen_here"] (defScope s_law_few) := ⟨rfl, rfl, rfl, by decide +kernel, rfl, by decide +kernel, by decide +kernel⟩
def spFew (K : PySem.W.Frag) : Sp := fun vs H Q _ => ∃ p : Addr, vs = [.ref p] ∧ PenOk p H ∧ spNewP K p 4 H Q
theorem ok_few (T : Txt K mg) (F_law_draw : FnR PP w K mg base CX0 1 (He.ga K "_law_draw") spDraw) (F_law_streak_table : FnR PP w K mg base CX0 1 (He.ga K "_law_streak_table") (spStreak K)) (F_law_ring : FnR PP w K mg base CX0 1 (He.ga K "_law_ring") (spRing K))
    (F_law_table : FnR PP w K mg base CX0 2 (He.ga K "_law_table") (spTable K)) : FnR PP w K mg base CX0 3 (He.ga K "_law_few") (spFew K) := by
  refine defR (T.def_ 24 rfl) sc_law_few (fun _ _ _ _ _ _ us hl => match us, hl with | [_], _ => rfl) ?_ ?_
  · rintro vs H Q E ⟨p, rfl, _⟩
    rfl
  rintro cdv A outer s H vs Q E hr ⟨p, rfl, pk, q⟩
  have fin : ∀ H1, SameBut p H H1 → PenOk p H1 → spNewT K 4 H1 Q := fun H1 e1 pk1 a T H' e hT hv hl ha => q a T H' (e1.trans (Same.but e)) (pk1.same e) hT hv hl
  refine ⟨_, (pss_cons (ps_set (i := 1) sc_law_few.nd rfl (Or.inl rfl) (SRO.pe_callR F_law_draw (hr.mono (by decide)) (by rfl) (T.glo 20) (T.keep 128) pass0 (pa_cons (pv 0) (pa_cons pe_int pa_nil))))
      (pss_cons (ps_if (pt_cmpR op_eq (pv 1) pe_int (nomark _)) (pss_one (ps_ret (SRO.pe_callR F_law_streak_table (hr.mono (by decide)) (by rfl) (T.glo 21) (T.keep 129) pass0 (pa_cons (pe_op op_add pe_int (SRO.pe_callR F_law_draw (hr.mono (by decide)) (by rfl) (T.glo 20) (T.keep 128) pass0 (pa_cons (pv 0) (pa_cons pe_int pa_nil)))) (pa_cons (pe_op op_add pe_int (SRO.pe_callR F_law_draw (hr.mono (by decide)) (by rfl) (T.glo 20) (T.keep 128) pass0 (pa_cons (pv 0) (pa_cons pe_int pa_nil)))) pa_nil))))) pss_nil)
      (pss_cons (ps_if (pt_cmpR op_eq (pv 1) pe_int (nomark _)) (pss_one (ps_ret (SRO.pe_callR F_law_ring (hr.mono (by decide)) (by rfl) (T.glo 22) (T.keep 130) pass0 (pa_cons (pe_ix (kix_list (K := K)) (pe_lst (pa_cons pe_str (pa_cons pe_str (pa_cons pe_str (pa_cons pe_str pa_nil))))) (SRO.pe_callR F_law_draw (hr.mono (by decide)) (by rfl) (T.glo 20) (T.keep 128) pass0 (pa_cons (pv 0) (pa_cons pe_int pa_nil))) (fun _ _ => rfl)) pa_nil)))) pss_nil)
      (pss_one (ps_ret (SRO.pe_callR F_law_table (hr.mono (by decide)) (by rfl) (T.glo 23) (T.keep 131) pass0 (pa_cons (pv 0) (pa_cons (pe_op op_add pe_int (SRO.pe_callR F_law_draw (hr.mono (by decide)) (by rfl) (T.glo 20) (T.keep 128) pass0 (pa_cons (pv 0) (pa_cons pe_int pa_nil)))) pa_nil)))))))), ?_⟩
  ac_rfl
  refine ⟨p, 4, rfl, pk, by decide, by decide, fun way H1 hway e1 pk1 => ?_⟩
  ac_rfl
  refine s_ite (fun c => ?_) (fun c => ?_)
  · ac_rfl
    refine ⟨p, 2, rfl, pk1, by decide, by decide, fun r H2 hr2 e2 pk2 => ?_⟩
    ac_rfl
    refine ⟨p, 2, rfl, pk2, by decide, by decide, fun f H3 hf e3 pk3 => ?_⟩
    ac_rfl
    refine ⟨1 + r, 1 + f, by push_cast; rfl, by omega, by omega, by omega, by omega, fin H3 ((e1.trans e2).trans e3) pk3⟩
  · ac_rfl
    refine s_ite (fun c => ?_) (fun c => ?_)
    · ac_rfl
      intro l hl
      have nlp : l ≠ p := by
        obtain ⟨x, y, z, h1, _⟩ := pk1
        exact (ne_of_none h1 hl).symm
      have pk1' : PenOk p (upd H1 l (.lst [.str "UD", .str "UUD", .str "DDU", .str "UDD"])) := pk1.same (same_new hl)
      ac_rfl
      refine ⟨p, 4, rfl, pk1', by decide, by decide, fun r H2 hr2 e2 pk2 => ?_⟩
      have hx := e2 _ _ nlp upd_same
      have e12 : SameBut p H H2 := e1.trans ((Same.but (same_new hl)).trans e2)
      have e : r = 0 ∨ r = 1 ∨ r = 2 ∨ r = 3 := by omega
      rcases e with rfl | rfl | rfl | rfl
      · refine s_ixL hx (atI_nat (j := 0) rfl) ?_
        ac_rfl
        exact ⟨_, [true, false], rfl, by decide +kernel, by decide, by decide, fin H2 e12 pk2⟩
      · refine s_ixL hx (atI_nat (j := 1) rfl) ?_
        ac_rfl
        exact ⟨_, [true, true, false], rfl, by decide +kernel, by decide, by decide, fin H2 e12 pk2⟩
      · refine s_ixL hx (atI_nat (j := 2) rfl) ?_
        ac_rfl
        exact ⟨_, [false, false, true], rfl, by decide +kernel, by decide, by decide, fin H2 e12 pk2⟩
      · refine s_ixL hx (atI_nat (j := 3) rfl) ?_
        ac_rfl
        exact ⟨_, [true, false, false], rfl, by decide +kernel, by decide, by decide, fin H2 e12 pk2⟩
    · ac_rfl
      refine ⟨p, 4, rfl, pk1, by decide, by decide, fun r H2 hr2 e2 pk2 => ?_⟩
      ac_rfl
      exact ⟨p, 1 + r, by push_cast; rfl, pk2, by omega, by omega, fun a T H' e pk' hT hv hl => q a T H' ((e1.trans e2).trans e) pk' hT hv hl⟩
abbrev N_law_checks : List Str := ["_law_pen_here", "_law_most", "_law_size", "_law_way", "_law_found", "_law_k"]
theorem sc_law_checks : FnScope N_law_checks ["_law_pen_here", "_law_most"] (defScope s_law_checks) := ⟨rfl, rfl, rfl, by decide +kernel, rfl, by decide +kernel, by decide +kernel⟩
def spChecks : Sp := fun vs H Q _ => ∃ (p : Addr) (most : Nat), vs = [.ref p, .int (most : Nat)] ∧ PenOk p H ∧ most ≤ 14 ∧ ∀ (u : List Bool) (H' : Hp), SameBut p H H' → PenOk p H' → u.length ≤ most → Q (.str (ckS u)) H'
theorem ok_checks (T : Txt K mg) (F_law_draw : FnR PP w K mg base CX0 1 (He.ga K "_law_draw") spDraw) : FnR PP w K mg base CX0 2 (He.ga K "_law_checks") spChecks := by
  refine defR (T.def_ 25 rfl) sc_law_checks (fun _ _ _ _ _ _ us hl => match us, hl with | [_, _], _ => rfl) ?_ ?_
  · rintro vs H Q E ⟨p, most, rfl, _⟩
    rfl
  rintro cdv A outer s H vs Q E hr ⟨p, most, rfl, pk, m1, q⟩
  refine ⟨_, (pss_cons (ps_par3 (i := 2) (j := 3) (l := 4) rfl sc_law_checks.nd rfl rfl rfl (by decide) (by decide) (by decide) rfl rfl rfl (pa_cons (SRO.pe_callR F_law_draw (hr.mono (by decide)) (by rfl) (T.glo 20) (T.keep 128) pass0 (pa_cons (pv 0) (pa_cons (pe_op op_add (pv 1) pe_int) pa_nil))) (pa_cons (SRO.pe_callR F_law_draw (hr.mono (by decide)) (by rfl) (T.glo 20) (T.keep 128) pass0 (pa_cons (pv 0) (pa_cons pe_int pa_nil))) (pa_cons pe_str pa_nil))) rfl)
      (pss_cons (ps_for PassesOwn.never rfl (pi_range1 (by rfl) (T.free 46) (pa_cons (pv 2) pa_nil)) (pg_name (i := 5) sc_law_checks.nd rfl (Or.inl rfl)) (pss_one (ps_if ((pw_and (pt_cmpR op_gt (pv 3) pe_int (nomark _)) (pw_and (pt_cmpR op_ne (pv 4) pe_str (nomark _)) (pw_and1 (pt_cmpR op_gt (SRO.pe_callR F_law_draw (hr.mono (by decide)) (by rfl) (T.glo 20) (T.keep 128) pass0 (pa_cons (pv 0) (pa_cons (pe_op op_add pe_int (pv 3)) pa_nil))) pe_int (nomark _)))))).pt (pss_one (ps_set (i := 4) sc_law_checks.nd rfl (Or.inl rfl) (pe_op op_add_str (pv 4) (pe_ix ix_str (pv 4) (pe_un un_neg pe_int) (fun _ _ => rfl))))) (pss_one (ps_set (i := 4) sc_law_checks.nd rfl (Or.inl rfl) (pe_op op_add_str (pv 4) (pe_ix ix_str pe_str (SRO.pe_callR F_law_draw (hr.mono (by decide)) (by rfl) (T.glo 20) (T.keep 128) pass0 (pa_cons (pv 0) (pa_cons pe_int pa_nil))) (fun _ _ => rfl))))))))
      (pss_one (ps_ret (pv 4))))), ?_⟩
  ac_rfl
  refine ⟨p, most + 1, by push_cast; rfl, pk, by omega, by omega, fun size H1 hsize e1 pk1 => ?_⟩
  ac_rfl
  refine ⟨p, 3, rfl, pk1, by decide, by decide, fun way H2 hway e2 pk2 => ?_⟩
  ac_rfl
  rw [ckS_nil]
  refine for_rng0 (n := size) rfl (fun i σ H' => ∃ v u, σ = [some (.ref p), some (.int (most : Nat)), some (.int (size : Nat)), some (.int (way : Nat)), some (.str (ckS u)), v] ∧ SameBut p H H' ∧ PenOk p H' ∧ u.length = i) ⟨_, [], rfl, e1.trans e2, pk2, rfl⟩ ?_ ?_
  · rintro i σ H3 hi ⟨v, u, rfl, e3, pk3, hu⟩
    have hz : ∀ c : Bool, (ckS u).length + (⟨#[ckC c]⟩ : Str).length ≤ sizeLine := fun c => by
      rw [ckS_len]
      exact Nat.le_of_lt (small1000 (by show u.length + 1 ≤ 1000; omega))
    ac_rfl
    refine s_ite (fun c1 => ?_) (fun c1 => ?_)
    · ac_rfl
      refine s_ite (fun c2 => ?_) (fun c2 => ?_)
      · ac_rfl
        refine ⟨p, 2 + way, by push_cast; rfl, pk3, by omega, by omega, fun r4 H4 hr4 e4 pk4 => ?_⟩
        ac_rfl
        refine s_ite (fun c3 => ?_) (fun c3 => ?_)
        · have hne : u ≠ [] := fun h => by
            rw [h] at c2
            simp at c2
          obtain ⟨u', c, rfl⟩ : ∃ u' c, u = u' ++ [c] := ⟨u.dropLast, u.getLast hne, (List.dropLast_concat_getLast hne).symm⟩
          have hat : atI (ckS (u' ++ [c])).cps.toList (-1) = some (ckC c) := by
            rw [ckS_list, List.map_append]
            exact atI_last _ _
          ac_rfl
          refine s_ixS (by have := hz c; omega) hat ?_
          ac_rfl
          rw [ckS_snoc]
          refine ⟨hz c, ?_⟩
          ac_rfl
          exact ⟨_, u' ++ [c] ++ [c], rfl, e3.trans e4, pk4, by rw [List.length_append, hu]; rfl⟩
        ·
          ac_rfl
          refine ⟨p, 2, rfl, pk4, by decide, by decide, fun r9 H9 hr9 e9 pk9 => ?_⟩
          refine pm_ix hr9 fun c9 => ?_
          ac_rfl
          rw [ckS_snoc]
          refine ⟨hz c9, ?_⟩
          ac_rfl
          exact ⟨_, u ++ [c9], rfl, (e3.trans e4).trans e9, pk9, by rw [List.length_append, hu]; rfl⟩
      · refine s_iteF ?_
        ac_rfl
        refine ⟨p, 2, rfl, pk3, by decide, by decide, fun r9 H9 hr9 e9 pk9 => ?_⟩
        refine pm_ix hr9 fun c9 => ?_
        ac_rfl
        rw [ckS_snoc]
        refine ⟨hz c9, ?_⟩
        ac_rfl
        exact ⟨_, u ++ [c9], rfl, e3.trans e9, pk9, by rw [List.length_append, hu]; rfl⟩
    · refine s_iteF ?_
      ac_rfl
      refine ⟨p, 2, rfl, pk3, by decide, by decide, fun r9 H9 hr9 e9 pk9 => ?_⟩
      refine pm_ix hr9 fun c9 => ?_
      ac_rfl
      rw [ckS_snoc]
      refine ⟨hz c9, ?_⟩
      ac_rfl
      exact ⟨_, u ++ [c9], rfl, e3.trans e9, pk9, by rw [List.length_append, hu]; rfl⟩
  · rintro σ H3 ⟨v, u, rfl, e3, pk3, hu⟩
    ac_rfl
    exact q u H3 e3 pk3 (by omega)
end
end SRD
/-! Checks of values; statuses. -/
namespace SRD
open PySem PySem.Spec PyProof.Rows L2 SRT
section
variable {w : World} {K : PySem.W.Frag} {mg : Str → Option Value} {base : Heap}
abbrev N_is_integer : List Str := ["value"]
theorem sc_is_integer : FnScope N_is_integer ["value"] (defScope s_is_integer) := ⟨rfl, rfl, rfl, by decide +kernel, rfl, by decide +kernel, by decide +kernel⟩
def spIsInt : Sp := fun vs H Q _ => ∃ i : Int, vs = [.int i] ∧ Q (.bl true) H
theorem ok_is_integer (T : Txt K mg) : FnR PP w K mg base CX0 1 (He.ga K "is_integer") spIsInt := by
  refine defR (T.def_ 0 rfl) sc_is_integer (fun _ _ _ _ _ _ us hl => match us, hl with | [_], _ => rfl) ?_ ?_
  · rintro vs H Q E ⟨i, rfl, _⟩
    rfl
  rintro cdv A outer s H vs Q E hr ⟨i, rfl, q⟩
  refine ⟨_, (pss_one (ps_ret (pe_and (pe_callB (kisi (K := K)) (by rfl) (T.free 37) boot_isinstance (pa_cons (pv 0) (pa_cons (pe_bltn (v := .ty "int") (by rfl) (T.free 38) boot_int rfl) pa_nil))) (pe_one (pe_not (pe_callB (kisi (K := K)) (by rfl) (T.free 37) boot_isinstance (pa_cons (pv 0) (pa_cons (pe_bltn (v := .ty "bool") (by rfl) (T.free 39) boot_bool rfl) pa_nil)))))))), ?_⟩
  ac_rfl
  exact q
abbrev N_is_between : List Str := ["value", "low", "high"]
theorem sc_is_between : FnScope N_is_between ["value", "low", "high"] (defScope s_is_between) := ⟨rfl, rfl, rfl, by decide +kernel, rfl, by decide +kernel, by decide +kernel⟩
def spBetween : Sp := fun vs H Q _ => ∃ i lo hi : Int, vs = [.int i, .int lo, .int hi] ∧ lo ≤ i ∧ i ≤ hi ∧ Q (.bl true) H
theorem ok_is_between (T : Txt K mg) (F_is_integer : FnR PP w K mg base CX0 1 (He.ga K "is_integer") spIsInt) : FnR PP w K mg base CX0 2 (He.ga K "is_between") spBetween := by
  refine defR (T.def_ 1 rfl) sc_is_between (fun _ _ _ _ _ _ us hl => match us, hl with | [_, _, _], _ => rfl) ?_ ?_
  · rintro vs H Q E ⟨i, lo, hi, rfl, _⟩
    rfl
  rintro cdv A outer s H vs Q E hr ⟨i, lo, hi, rfl, h1, h2, q⟩
  refine ⟨_, (pss_one (ps_ret (pe_and (SRO.pe_callR F_is_integer (hr.mono (by decide)) (by rfl) (T.glo 0) (T.keep 108) pass0 (pa_cons (pv 0) pa_nil)) (pe_one (pe_chain op_le op_le (pv 1) (pv 0) (pv 2)))))), ?_⟩
  ac_rfl
  refine ⟨_, rfl, ?_⟩
  ac_rfl
  rw [decide_eq_true h1]
  ac_rfl
  rw [decide_eq_true h2]
  exact q
abbrev N_is_made_of : List Str := ["value", "signs", "sign"]
theorem sc_is_made_of : FnScope N_is_made_of ["value", "signs"] (defScope s_is_made_of) := ⟨rfl, rfl, rfl, by decide +kernel, rfl, by decide +kernel, by decide +kernel⟩
def spMadeOf : Sp := fun vs H Q _ => ∃ z sg : Str, vs = [.str z, .str sg] ∧ z.length ≤ 1000 ∧ (∀ c ∈ z.cps.toList, c ∈ sg.cps.toList) ∧ ∀ H', Same H H' → Q (.bl true) H'
theorem ok_is_made_of (T : Txt K mg) : FnR PP w K mg base CX0 1 (He.ga K "is_made_of") spMadeOf := by
  refine defR (T.def_ 2 rfl) sc_is_made_of (fun _ _ _ _ _ _ us hl => match us, hl with | [_, _], _ => rfl) ?_ ?_
  · rintro vs H Q E ⟨z, sg, rfl, _⟩
    rfl
  rintro cdv A outer s H vs Q E hr ⟨z, sg, rfl, hz, hall, q⟩
  refine ⟨_, (pss_one (ps_ret (pe_and (pe_callB (kisi (K := K)) (by rfl) (T.free 37) boot_isinstance (pa_cons (pv 0) (pa_cons (pe_bltn (v := .ty "str") (by rfl) (T.free 40) boot_str rfl) pa_nil))) (pe_one (pe_callB (kall (K := K) rfl) (by rfl) (T.free 43) boot_all (pa_cons (pe_lc rfl sc_is_made_of.nd (pi_str (pv 0)) (blkOk_by (own := [("sign", 2)]) (N := N_is_made_of) (sc := defScope s_is_made_of) (by decide +kernel)) (fun _ _ _ _ _ => (pg_name (i := 2) sc_is_made_of.nd rfl (Or.inl rfl))) (fun _ _ _ _ _ => pts_nil) (fun _ _ _ _ _ => (pe_cmpR op_in_sign (pv 2) (pv 1) (by rfl)))) pa_nil)))))), ?_⟩
  ac_rfl
  intro D hD
  have hzl : z.cps.toList.length ≤ 1000 := by rw [Array.length_toList]; exact hz
  refine lc_str (fun i H' => Same H H' ∧ H' D = some (.lst (List.replicate i (V.bl true)))) ⟨same_new hD, upd_same⟩ ?_ ?_
  · rintro i c H1 hi ⟨e, hx⟩
    have hl : (List.replicate i (V.bl true)).length ≤ 1000 := by
      have := (List.getElem?_eq_some_iff.mp hi).1
      rw [List.length_replicate]
      omega
    ac_rfl
    rw [decide_eq_true (hall c (List.mem_of_getElem? hi))]
    refine ⟨grow0 e hD, ?_⟩
    rw [upd_same, List.replicate_succ']
  · rintro H1 ⟨e, hx⟩
    ac_rfl
    exact s_allT hx (q H1 e)
abbrev N_is_row : List Str := ["value", "count"]
theorem sc_is_row : FnScope N_is_row ["value", "count"] (defScope s_is_row) := ⟨rfl, rfl, rfl, by decide +kernel, rfl, by decide +kernel, by decide +kernel⟩
def spIsRow (K : PySem.W.Frag) : Sp := fun vs H Q _ => ∃ (b : Addr) (r : SR.Row) (n : Nat), vs = [.ref b, .int (n : Nat)] ∧ SqT K H b (rowV r) ∧ r.2.1 < n ∧ r.2.2 < n ∧ ∀ H', Same H H' → Q (.bl true) H'
theorem ok_is_row (T : Txt K mg) (F_is_between : FnR PP w K mg base CX0 2 (He.ga K "is_between") spBetween) : FnR PP w K mg base CX0 3 (He.ga K "is_row") (spIsRow K) := by
  refine defR (T.def_ 3 rfl) sc_is_row (fun _ _ _ _ _ _ us hl => match us, hl with | [_, _], _ => rfl) ?_ ?_
  · rintro vs H Q E ⟨b, r, n, rfl, _⟩
    rfl
  rintro cdv A outer s H vs Q E hr ⟨b, ⟨rb, r1, r2⟩, n, rfl, hb, hr1, hr2, q⟩
  have hb : SqT K H b [.str (stS rb), .int (r1 : Nat), .int (r2 : Nat)] := hb
  have hr1 : r1 < n := hr1
  have hr2 : r2 < n := hr2
  refine ⟨_, (pss_cons (ps_if ((pw_or (pt_not (pt_val (pe_callB (kisi (K := K)) (by rfl) (T.free 37) boot_isinstance (pa_cons (pv 0) (pa_cons (pe_bltn (v := .ty "tuple") (by rfl) (T.free 41) boot_tuple rfl) pa_nil))))) (pw_or (pt_cmpR op_ne (pe_callB (klen (K := K)) (by rfl) (T.free 42) boot_len (pa_cons (pv 0) pa_nil)) pe_int (nomark _)) (pw_or1 (pt_not (pt_val (pe_callB (kisi (K := K)) (by rfl) (T.free 37) boot_isinstance (pa_cons (pe_ix (kix_tup (K := K)) (pv 0) pe_int (fun _ _ => rfl)) (pa_cons (pe_bltn (v := .ty "str") (by rfl) (T.free 40) boot_str rfl) pa_nil))))))))).pt (pss_one (ps_ret pe_bl)) pss_nil)
      (pss_one (ps_ret (pe_and (pe_cmpR (kin_seq (K := K)) (pe_ix (kix_tup (K := K)) (pv 0) pe_int (fun _ _ => rfl)) (pe_tup (pa_cons (C8.pe_gc (by rfl) (T.str 57)) (pa_cons (C8.pe_gc (by rfl) (T.str 58)) pa_nil))) (by rfl)) (pe_and (SRO.pe_callR F_is_between (hr.mono (by decide)) (by rfl) (T.glo 1) (T.keep 109) pass0 (pa_cons (pe_ix (kix_tup (K := K)) (pv 0) pe_int (fun _ _ => rfl)) (pa_cons pe_int (pa_cons (pe_op op_sub (pv 1) pe_int) pa_nil)))) (pe_one (SRO.pe_callR F_is_between (hr.mono (by decide)) (by rfl) (T.glo 1) (T.keep 109) pass0 (pa_cons (pe_ix (kix_tup (K := K)) (pv 0) pe_int (fun _ _ => rfl)) (pa_cons pe_int (pa_cons (pe_op op_sub (pv 1) pe_int) pa_nil)))))))))), ?_⟩
  ac_rfl
  refine s_iteF' (by simp) ?_
  ac_rfl
  intro t ht
  have hb2 := seqT (same_new (o := .tup [.str "U", .str "D"]) ht) hb
  refine s_inT (SqT.of upd_same) rfl rfl (b := true) (by cases rb <;> decide +kernel) ?_
  ac_rfl
  refine ⟨_, _, _, rfl, by omega, by omega, ?_⟩
  ac_rfl
  refine ⟨_, _, _, rfl, by omega, by omega, ?_⟩
  exact q _ (same_new ht)
abbrev N_is_table : List Str := ["value", "row"]
theorem sc_is_table : FnScope N_is_table ["value"] (defScope s_is_table) := ⟨rfl, rfl, rfl, by decide +kernel, rfl, by decide +kernel, by decide +kernel⟩
def spIsTable (K : PySem.W.Frag) : Sp := fun vs H Q _ => ∃ (a : Addr) (T : SR.Tbl), vs = [.ref a] ∧ TblAt K H a T ∧ SR.Valid T ∧ T.length ≤ 64 ∧ ∀ H', Same H H' → Q (.bl true) H'
theorem ok_is_table (T : Txt K mg) (F_is_row : FnR PP w K mg base CX0 3 (He.ga K "is_row") (spIsRow K)) : FnR PP w K mg base CX0 4 (He.ga K "is_table") (spIsTable K) := by
  refine defR (T.def_ 4 rfl) sc_is_table (fun _ _ _ _ _ _ us hl => match us, hl with | [_], _ => rfl) ?_ ?_
  · rintro vs H Q E ⟨a, T, rfl, _⟩
    rfl
  rintro cdv A outer s H vs Q E hr ⟨a, Tb, rfl, ⟨xs, ha, hrow⟩, hv, hle, q⟩
  have hpos := hv.pos
  have hxl := hrow.1
  refine ⟨_, (pss_cons (ps_if ((pw_or (pt_not (pt_val (pe_callB (kisi (K := K)) (by rfl) (T.free 37) boot_isinstance (pa_cons (pv 0) (pa_cons (pe_bltn (v := .ty "tuple") (by rfl) (T.free 41) boot_tuple rfl) pa_nil))))) (pw_or1 (pt_not (pt_chain op_le op_le pe_int (pe_callB (klen (K := K)) (by rfl) (T.free 42) boot_len (pa_cons (pv 0) pa_nil)) (C8.pe_gc (by rfl) (T.int 53))))))).pt (pss_one (ps_ret pe_bl)) pss_nil)
      (pss_one (ps_ret (pe_callB (kall (K := K) rfl) (by rfl) (T.free 43) boot_all (pa_cons (pe_lc rfl sc_is_table.nd (kpi_tup (K := K) (pv 0)) (blkOk_by (own := [("row", 1)]) (N := N_is_table) (sc := defScope s_is_table) (by decide +kernel)) (fun _ _ _ _ _ => (pg_name (i := 1) sc_is_table.nd rfl (Or.inl rfl))) (fun _ _ _ _ _ => pts_nil) (fun _ _ _ _ _ => (SRO.pe_callR F_is_row (hr.mono (by decide)) (by rfl) (T.glo 3) (T.keep 111) pass0 (pa_cons (pv 1) (pa_cons (pe_callB (klen (K := K)) (by rfl) (T.free 42) boot_len (pa_cons (pv 0) pa_nil)) pa_nil))))) pa_nil))))), ?_⟩
  ac_rfl
  refine s_iteT' (decide_eq_true (by omega)) ?_
  ac_rfl
  rw [decide_eq_true (show (xs.length : Int) ≤ 64 by omega)]
  ac_rfl
  intro D hD
  refine lc_tup (xs := xs) (fun i H' => Same H H' ∧ H' D = some (.lst (List.replicate i (V.bl true)))) ⟨same_new hD, upd_same⟩ (fun i H' _ h => seqT h.1 ha) ?_ ?_
  · rintro i x H1 hi ⟨e, hx⟩
    have hi1 := (List.getElem?_eq_some_iff.mp hi).1
    have hl : (List.replicate i (V.bl true)).length ≤ 1000 := by
      rw [List.length_replicate]
      omega
    obtain ⟨b, hb1, hb2⟩ := hrow.get (i := i) (by omega)
    rw [hb1] at hi
    cases hi
    have hb3 := hv.rows _ (SR.rowAt_mem (T := Tb) (i := i) (by omega))
    have ha1 := seqT e ha
    ac_rfl
    rw [hxl]
    refine ⟨b, SR.rowAt Tb i, Tb.length, rfl, seqT e hb2, hb3.1, hb3.2, fun H2 e2 => ?_⟩
    have hx2 := e2 _ _ hx
    ac_rfl
    refine ⟨grow0 (e.trans e2) hD, ?_⟩
    rw [upd_same, List.replicate_succ']
  · rintro H1 ⟨e, hx⟩
    ac_rfl
    exact s_allT hx (q H1 e)
end
end SRD
/-! Checks that let pass; statuses; the joined table. -/
namespace SRD
open PySem PySem.Spec PyProof.Rows L2 SRT
/-- statuses as a text -/
def txS (bs : List Bool) : Str := ⟨(bs.map udC).toArray⟩
theorem join_st (bs : List Bool) : Txt.join "" (bs.map stS) = txS bs := by
  have e1 : (Str.ofString "" : Str) = SX.S [] := by decide +kernel
  have e2 : bs.map stS = (bs.map fun b => [udC b]).map SX.S := by
    rw [List.map_map]
    refine List.map_congr_left fun b _ => ?_
    cases b <;> decide +kernel
  rw [e1, e2, SX.join_S]
  have e3 : ∀ l : List Bool, TL.joinL [] (l.map fun b => [udC b]) = l.map udC := by
    intro l
    induction l with
    | nil => rfl
    | cons b r ih =>
      cases r with
      | nil => rfl
      | cons c r =>
        rw [List.map_cons, List.map_cons]
        show [udC b] ++ ([] ++ TL.joinL [] ([udC c] :: r.map fun b => [udC b])) = _
        have ih : TL.joinL [] ([udC c] :: r.map fun b => [udC b]) = udC c :: r.map udC := ih
        rw [ih]
        rfl
  rw [e3]
  rfl
theorem st_sum (bs : List Bool) : ((bs.map stS).map (·.length)).sum = bs.length := by
  induction bs with
  | nil => rfl
  | cons b r ih =>
    rw [List.map_cons, List.map_cons, List.sum_cons, ih, List.length_cons]
    have : (stS b).length = 1 := by cases b <;> decide
    omega
theorem ck_eq (b : Bool) : decide (V.str ⟨#[ckC b]⟩ = V.str "+") = b := by cases b <;> decide +kernel
theorem go_snoc (T : SR.Tbl) (w : List Bool) (b : Bool) : SR.go T 0 (w ++ [b]) = SR.nxt T (SR.go T 0 w) b := by rw [SR.go_append]; rfl
section
variable {w : World} {K : PySem.W.Frag} {mg : Str → Option Value} {base : Heap}
abbrev N_check_checks : List Str := ["checks"]
theorem sc_check_checks : FnScope N_check_checks ["checks"] (defScope s_check_checks) := ⟨rfl, rfl, rfl, by decide +kernel, rfl, by decide +kernel, by decide +kernel⟩
def spCheckChecks : Sp := fun vs H Q _ => ∃ u : List Bool, vs = [.str (ckS u)] ∧ u.length ≤ 60 ∧ ∀ H', Same H H' → Q .non H'
theorem ok_check_checks (T : Txt K mg) (F_is_made_of : FnR PP w K mg base CX0 1 (He.ga K "is_made_of") spMadeOf) : FnR PP w K mg base CX0 2 (He.ga K "check_checks") spCheckChecks := by
  refine defR (T.def_ 11 rfl) sc_check_checks (fun _ _ _ _ _ _ us hl => match us, hl with | [_], _ => rfl) ?_ ?_
  · rintro vs H Q E ⟨u, rfl, _⟩
    rfl
  rintro cdv A outer s H vs Q E hr ⟨u, rfl, hu, q⟩
  refine ⟨_, (pss_one (ps_if ((pw_or (pt_not (pt_val (SRO.pe_callR F_is_made_of (hr.mono (by decide)) (by rfl) (T.glo 2) (T.keep 110) pass0 (pa_cons (pv 0) (pa_cons (pe_op op_add_str (C8.pe_gc (by rfl) (T.str 59)) (C8.pe_gc (by rfl) (T.str 60))) pa_nil))))) (pw_or1 (pt_cmpR op_gt (pe_callB call_len_str (by rfl) (T.free 42) boot_len (pa_cons (pv 0) pa_nil)) (C8.pe_gc (by rfl) (T.int 54)) (nomark _))))).pt (pss_one ps_never) pss_nil)), ?_⟩
  ac_rfl
  refine ⟨by decide, ?_⟩
  ac_rfl
  refine ⟨ckS u, _, rfl, by rw [ckS_len]; omega, ?_, fun H1 e1 => ?_⟩
  · intro c hc
    rw [ckS_list] at hc
    obtain ⟨b, _, rfl⟩ := List.mem_map.mp hc
    cases b <;> decide +kernel
  ac_rfl
  refine s_lenS (by rw [ckS_len]; exact Nat.le_of_lt (small1000 (by omega))) ?_
  rw [ckS_len]
  ac_rfl
  refine s_iteF' (decide_eq_false (by omega)) ?_
  ac_rfl
  exact q H1 e1
abbrev N_check_number : List Str := ["value", "low", "high"]
theorem sc_check_number : FnScope N_check_number ["value", "low", "high"] (defScope s_check_number) := ⟨rfl, rfl, rfl, by decide +kernel, rfl, by decide +kernel, by decide +kernel⟩
def spCheckNum : Sp := fun vs H Q _ => ∃ i lo hi : Int, vs = [.int i, .int lo, .int hi] ∧ lo ≤ i ∧ i ≤ hi ∧ Q .non H
theorem ok_check_number (T : Txt K mg) (F_is_between : FnR PP w K mg base CX0 2 (He.ga K "is_between") spBetween) : FnR PP w K mg base CX0 3 (He.ga K "check_number") spCheckNum := by
  refine defR (T.def_ 12 rfl) sc_check_number (fun _ _ _ _ _ _ us hl => match us, hl with | [_, _, _], _ => rfl) ?_ ?_
  · rintro vs H Q E ⟨i, lo, hi, rfl, _⟩
    rfl
  rintro cdv A outer s H vs Q E hr ⟨i, lo, hi, rfl, h1, h2, q⟩
  refine ⟨_, (pss_one (ps_if (pt_not (pt_val (SRO.pe_callR F_is_between (hr.mono (by decide)) (by rfl) (T.glo 1) (T.keep 109) pass0 (pa_cons (pv 0) (pa_cons (pv 1) (pa_cons (pv 2) pa_nil)))))) (pss_one ps_never) pss_nil)), ?_⟩
  ac_rfl
  refine ⟨_, _, _, rfl, h1, h2, ?_⟩
  ac_rfl
  exact q
abbrev N_check_rule : List Str := ["value"]
theorem sc_check_rule : FnScope N_check_rule ["value"] (defScope s_check_rule) := ⟨rfl, rfl, rfl, by decide +kernel, rfl, by decide +kernel, by decide +kernel⟩
def spCheckRule (K : PySem.W.Frag) : Sp := fun vs H Q _ => ∃ (a dx : Addr) (fs : List (Str × V)), vs = [.ref a] ∧ H a = some (.ins (He.ga K "Rule") dx fs) ∧ Q .non H
theorem ok_check_rule (T : Txt K mg) : FnR PP w K mg base CX0 1 (He.ga K "check_rule") (spCheckRule K) := by
  refine defR (T.def_ 13 rfl) sc_check_rule (fun _ _ _ _ _ _ us hl => match us, hl with | [_], _ => rfl) ?_ ?_
  · rintro vs H Q E ⟨a, dx, fs, rfl, _⟩
    rfl
  rintro cdv A outer s H vs Q E hr ⟨a, dx, fs, rfl, ha, q⟩
  have C := isiB_ok (T.x 8)
  refine ⟨_, (pss_one (ps_if (pt_not (pt_val (pe_callB (kisi (K := K)) (by rfl) (T.free 37) boot_isinstance (pa_cons (pv 0) (pa_cons (pe_glob (v := .ref (He.ga K "Rule")) (by rfl) (T.glo 30) rfl) pa_nil))))) (pss_one ps_never) pss_nil)), ?_⟩
  ac_rfl
  refine s_isi (.own _) (.base (.ins ha (T.cls 62) C.ca C.cn C.ct C.cm)) C.kit ?_
  ac_rfl
  exact q
abbrev N_is_name : List Str := ["value"]
theorem sc_is_name : FnScope N_is_name ["value"] (defScope s_is_name) := ⟨rfl, rfl, rfl, by decide +kernel, rfl, by decide +kernel, by decide +kernel⟩
/-- a name: 1 to 8 letters -/
def NameOk (z : Str) : Prop := (∀ c ∈ z.cps.toList, c ∈ ("abcdefghijklmnopqrstuvwxyz" : Str).cps.toList) ∧ 1 ≤ z.length ∧ z.length ≤ 8
def spIsName : Sp := fun vs H Q _ => ∃ z : Str, vs = [.str z] ∧ NameOk z ∧ ∀ H', Same H H' → Q (.bl true) H'
theorem ok_is_name (T : Txt K mg) (F_is_made_of : FnR PP w K mg base CX0 1 (He.ga K "is_made_of") spMadeOf) : FnR PP w K mg base CX0 2 (He.ga K "is_name") spIsName := by
  refine defR (T.def_ 15 rfl) sc_is_name (fun _ _ _ _ _ _ us hl => match us, hl with | [_], _ => rfl) ?_ ?_
  · rintro vs H Q E ⟨z, rfl, _⟩
    rfl
  rintro cdv A outer s H vs Q E hr ⟨z, rfl, ⟨h1, h2, h3⟩, q⟩
  refine ⟨_, (pss_one (ps_ret (pe_and (SRO.pe_callR F_is_made_of (hr.mono (by decide)) (by rfl) (T.glo 2) (T.keep 110) pass0 (pa_cons (pv 0) (pa_cons (C8.pe_gc (by rfl) (T.str 61)) pa_nil))) (pe_one (pe_chain op_le op_le pe_int (pe_callB call_len_str (by rfl) (T.free 42) boot_len (pa_cons (pv 0) pa_nil)) (C8.pe_gc (by rfl) (T.int 56))))))), ?_⟩
  ac_rfl
  refine ⟨z, _, rfl, by omega, h1, fun H1 e1 => ?_⟩
  ac_rfl
  refine s_lenS (z := z) (Nat.le_of_lt (small1000 (by omega))) ?_
  ac_rfl
  rw [decide_eq_true (show (1 : Int) ≤ (z.length : Nat) by omega)]
  ac_rfl
  rw [decide_eq_true (show ((z.length : Nat) : Int) ≤ 8 by omega)]
  exact q H1 e1
abbrev N_is_sign : List Str := ["value"]
theorem sc_is_sign : FnScope N_is_sign ["value"] (defScope s_is_sign) := ⟨rfl, rfl, rfl, by decide +kernel, rfl, by decide +kernel, by decide +kernel⟩
def spIsSign : Sp := fun vs H Q _ => ∃ z : Str, vs = [.str z] ∧ (z = "" ∨ z = "+" ∨ z = "-") ∧ ∀ H', Same H H' → Q (.bl true) H'
theorem ok_is_sign (T : Txt K mg) : FnR PP w K mg base CX0 1 (He.ga K "is_sign") spIsSign := by
  refine defR (T.def_ 16 rfl) sc_is_sign (fun _ _ _ _ _ _ us hl => match us, hl with | [_], _ => rfl) ?_ ?_
  · rintro vs H Q E ⟨z, rfl, _⟩
    rfl
  rintro cdv A outer s H vs Q E hr ⟨z, rfl, hz, q⟩
  refine ⟨_, (pss_one (ps_ret (pe_and (pe_callB (kisi (K := K)) (by rfl) (T.free 37) boot_isinstance (pa_cons (pv 0) (pa_cons (pe_bltn (v := .ty "str") (by rfl) (T.free 40) boot_str rfl) pa_nil))) (pe_one (pe_cmpR (kin_seq (K := K)) (pv 0) (pe_tup (pa_cons pe_str (pa_cons (C8.pe_gc (by rfl) (T.str 59)) (pa_cons (C8.pe_gc (by rfl) (T.str 60)) pa_nil)))) (by rfl)))))), ?_⟩
  ac_rfl
  intro t ht
  refine s_inT (SqT.of upd_same) rfl rfl (b := true) (by rcases hz with rfl | rfl | rfl <;> decide +kernel) ?_
  exact q _ (same_new ht)
abbrev N_check_names : List Str := ["names", "name"]
theorem sc_check_names : FnScope N_check_names ["names"] (defScope s_check_names) := ⟨rfl, rfl, rfl, by decide +kernel, rfl, by decide +kernel, by decide +kernel⟩
def spCheckNames (K : PySem.W.Frag) : Sp := fun vs H Q _ => ∃ (t : Addr) (ns : List Str), vs = [.ref t] ∧ SqT K H t (ns.map V.str) ∧ 1 ≤ ns.length ∧ ns.length ≤ 6 ∧ ns.Nodup ∧ (∀ z ∈ ns, NameOk z) ∧ ∀ H', Same H H' → Q .non H'
theorem ok_check_names (T : Txt K mg) (F_is_name : FnR PP w K mg base CX0 2 (He.ga K "is_name") spIsName) : FnR PP w K mg base CX0 3 (He.ga K "check_names") (spCheckNames K) := by
  refine defR (T.def_ 17 rfl) sc_check_names (fun _ _ _ _ _ _ us hl => match us, hl with | [_], _ => rfl) ?_ ?_
  · rintro vs H Q E ⟨t, ns, rfl, _⟩
    rfl
  rintro cdv A outer s H vs Q E hr ⟨t, ns, rfl, ht, n1, n2, nd, hall, q⟩
  refine ⟨_, (pss_cons (ps_if ((pw_or (pt_not (pt_chain op_le op_le pe_int (pe_callB (klen (K := K)) (by rfl) (T.free 42) boot_len (pa_cons (pv 0) pa_nil)) (C8.pe_gc (by rfl) (T.int 55)))) (pw_or1 (pt_not (pt_val (pe_callB (kall (K := K) rfl) (by rfl) (T.free 43) boot_all (pa_cons (pe_lc rfl sc_check_names.nd (kpi_tup (K := K) (pv 0)) (blkOk_by (own := [("name", 1)]) (N := N_check_names) (sc := defScope s_check_names) (by decide +kernel)) (fun _ _ _ _ _ => (pg_name (i := 1) sc_check_names.nd rfl (Or.inl rfl))) (fun _ _ _ _ _ => pts_nil) (fun _ _ _ _ _ => (SRO.pe_callR F_is_name (hr.mono (by decide)) (by rfl) (T.glo 15) (T.keep 123) pass0 (pa_cons (pv 1) pa_nil)))) pa_nil))))))).pt (pss_one ps_never) pss_nil)
      (pss_one (ps_if (pt_cmpR op_ne (SRO.pe_lenSetT (by rfl) (T.free 42) (by rfl) (T.free 44) (pv 0)) (pe_callB (klen (K := K)) (by rfl) (T.free 42) boot_len (pa_cons (pv 0) pa_nil)) (nomark _)) (pss_one ps_never) pss_nil))), ?_⟩
  ac_rfl
  rw [List.length_map]
  rw [decide_eq_true (show (1 : Int) ≤ (ns.length : Nat) by omega)]
  ac_rfl
  rw [decide_eq_true (show ((ns.length : Nat) : Int) ≤ 6 by omega)]
  ac_rfl
  intro D hD
  refine lc_tup (xs := ns.map V.str) (fun i H' => Same H H' ∧ H' D = some (.lst (List.replicate i (V.bl true)))) ⟨same_new hD, upd_same⟩ (fun i H' _ h => seqT h.1 ht) ?_ ?_
  · rintro i x H1 hi ⟨e, hx⟩
    have hi1 := (List.getElem?_eq_some_iff.mp hi).1
    rw [List.length_map] at hi1
    have hl : (List.replicate i (V.bl true)).length ≤ 1000 := by
      rw [List.length_replicate]
      omega
    rw [List.getElem?_map, List.getElem?_eq_getElem hi1] at hi
    cases hi
    ac_rfl
    refine ⟨_, rfl, hall _ (List.getElem_mem hi1), fun H2 e2 => ?_⟩
    have hx2 := e2 _ _ hx
    ac_rfl
    refine ⟨grow0 (e.trans e2) hD, ?_⟩
    rw [upd_same, List.replicate_succ']
  · rintro H1 ⟨e, hx⟩
    ac_rfl
    refine s_allT hx ?_
    ac_rfl
    refine ⟨t, ns, rfl, seqT e ht, nd, by omega, ?_⟩
    ac_rfl
    refine ⟨t, _, rfl, .inr (seqT e ht), ?_⟩
    rw [List.length_map]
    ac_rfl
    refine s_iteF' (by simp) ?_
    ac_rfl
    exact q H1 e
abbrev N_statuses_of : List Str := ["rows", "checks", "at", "found", "check"]
theorem sc_statuses_of : FnScope N_statuses_of ["rows", "checks"] (defScope s_statuses_of) := ⟨rfl, rfl, rfl, by decide +kernel, rfl, by decide +kernel, by decide +kernel⟩
def spStatuses (K : PySem.W.Frag) : Sp := fun vs H Q _ => ∃ (a : Addr) (T : SR.Tbl) (u : List Bool), vs = [.ref a, .str (ckS u)] ∧ TblAt K H a T ∧ SR.Valid T ∧ u.length ≤ 60 ∧ ∀ H', Same H H' → Q (.str (txS (SR.trace T 0 u))) H'
theorem ok_statuses_of (T : Txt K mg) : FnR PP w K mg base CX0 1 (He.ga K "statuses_of") (spStatuses K) := by
  refine defR (T.def_ 8 rfl) sc_statuses_of (fun _ _ _ _ _ _ us hl => match us, hl with | [_, _], _ => rfl) ?_ ?_
  · rintro vs H Q E ⟨a, T, u, rfl, _⟩
    rfl
  rintro cdv A outer s H vs Q E hr ⟨a, Tb, u, rfl, ⟨xs, ha, hrow⟩, hv, hu, q⟩
  have row : ∀ (g : Nat) (H1 : Hp), Same H H1 → g < Tb.length → ∃ b, atI xs (g : Nat) = some (.ref b) ∧ SqT K H1 b [.str (stS (SR.stat Tb g)), .int ((SR.nxt Tb g true : Nat) : Int), .int ((SR.nxt Tb g false : Nat) : Int)] := fun g H1 e hg => by
    obtain ⟨b, h1, h2⟩ := (hrow.mono e).get hg
    exact ⟨b, atI_nat h1, h2⟩
  obtain ⟨b0, hat0, hb0⟩ := row 0 H (Same.refl H) hv.pos
  have hat0 : atI xs 0 = some (.ref b0) := hat0
  refine ⟨_, (pss_cons (ps_par (i := 2) (j := 3) rfl sc_statuses_of.nd rfl rfl (by decide) rfl rfl (pa_cons pe_int (pa_cons (pe_lst (pa_cons (pe_ix (kix_tup (K := K)) (pe_ix (kix_tup (K := K)) (pv 0) pe_int (fun _ _ => rfl)) pe_int (fun _ _ => rfl)) pa_nil)) pa_nil)) rfl)
      (pss_cons (ps_for PassesOwn.never rfl (pi_str (pv 1)) (pg_name (i := 4) sc_statuses_of.nd rfl (Or.inl rfl)) (pss_cons (ps_set (i := 2) sc_statuses_of.nd rfl (Or.inl rfl) (pe_ix (kix_tup (K := K)) (pe_ix (kix_tup (K := K)) (pv 0) (pv 2) (fun _ _ => rfl)) (pe_ifExp (pt_cmpR op_eq (pv 4) (C8.pe_gc (by rfl) (T.str 59)) (nomark _)) pe_int pe_int) (fun _ _ => rfl)))
      (pss_one (ps_expr (kbm (K := K) PySem.F.plainAttrs_list PySem.F.slot_list_append PySem.F.type_list_append mt_append (pv 3) (pa_cons (pe_ix (kix_tup (K := K)) (pe_ix (kix_tup (K := K)) (pv 0) (pv 2) (fun _ _ => rfl)) pe_int (fun _ _ => rfl)) pa_nil))))))
      (pss_one (ps_ret (kjoin (K := K) pe_str (pv 3)))))), ?_⟩
  ac_rfl
  intro D hD
  ac_rfl
  refine for_str (fun i σ H' => ∃ v, σ = [some (.ref a), some (.str (ckS u)), some (.int ((SR.go Tb 0 (u.take i) : Nat) : Int)), some (.ref D), v] ∧ Same H H' ∧ H' D = some (.lst ((SR.trace Tb 0 (u.take i)).map fun b => V.str (stS b))))
    ⟨_, rfl, same_new hD, upd_same⟩ ?_ ?_
  · rintro i c σ H1 hi ⟨v, rfl, e, hx⟩
    rw [ckS_list, List.getElem?_map] at hi
    obtain ⟨b, hb, rfl⟩ : ∃ b, u[i]? = some b ∧ ckC b = c := by
      cases h : u[i]? with
      | none =>
        rw [h] at hi
        cases hi
      | some b =>
        rw [h] at hi
        exact ⟨b, rfl, Option.some.inj hi⟩
    have hi1 := (List.getElem?_eq_some_iff.mp hb).1
    have etk : u.take (i + 1) = u.take i ++ [b] := by rw [List.take_add_one, hb]; rfl
    have hg := hv.go (u.take i) hv.pos
    obtain ⟨r1, hat1, hr1⟩ := row _ H1 e hg
    have hg2 := hv.nxt hg b
    obtain ⟨r2, hat2, hr2⟩ := row _ H1 e hg2
    have ha1 := seqT e ha
    have hl : ((SR.trace Tb 0 (u.take i)).map fun b => V.str (stS b)).length ≤ 1000 := by
      rw [List.length_map, SR.trace_length, List.length_take]
      omega
    ac_rfl
    rw [ck_eq]
    cases b with
    | true =>
      ac_rfl
      refine ⟨some (.str ⟨#[ckC true]⟩), by rw [etk, go_snoc]; rfl, grow0 e hD, ?_⟩
      rw [upd_same, etk, SR.trace_snoc, List.map_append]
      show _ = some (HO.lst (_ ++ [V.str (stS (SR.beh Tb 0 (u.take i ++ [true])))]))
      unfold SR.beh
      rw [go_snoc]
    | false =>
      ac_rfl
      refine ⟨some (.str ⟨#[ckC false]⟩), by rw [etk, go_snoc]; rfl, grow0 e hD, ?_⟩
      rw [upd_same, etk, SR.trace_snoc, List.map_append]
      show _ = some (HO.lst (_ ++ [V.str (stS (SR.beh Tb 0 (u.take i ++ [false])))]))
      unfold SR.beh
      rw [go_snoc]
  · rintro σ H1 ⟨v, rfl, e, hx⟩
    rw [ckS_list, List.length_map, List.take_length] at hx
    ac_rfl
    refine ⟨_, D, (SR.trace Tb 0 u).map stS, rfl, rfl, .inl (SqL.of (by rw [hx, List.map_map]; rfl)), ?_, ?_⟩
    · rw [st_sum, List.length_map, SR.trace_length]
      show _ + _ * (Str.ofString "").cps.size ≤ _
      have : (Str.ofString "").cps.size = 0 := by decide +kernel
      rw [this]
      omega
    · rw [join_st]
      exact q H1 e
end
end SRD
/-! The joined table; the rows reached. -/
namespace SRD
open PySem PySem.Spec PyProof.Rows L2 SRT
theorem rows_of {K : PySem.W.Frag} {H : Hp} {xs : List V} {T : SR.Tbl} (h : RowsAt K H xs T) {i : Nat} {x : V} (hi : xs[i]? = some x) : ∃ b r, x = .ref b ∧ T[i]? = some r ∧ SqT K H b [.str (stS r.1), .int (r.2.1 : Nat), .int (r.2.2 : Nat)] := by
  have hi1 := (List.getElem?_eq_some_iff.mp hi).1
  rw [h.1] at hi1
  obtain ⟨b, e1, e2⟩ := h.2 i x _ hi (SR.rowAt_get hi1)
  exact ⟨b, _, e1, SR.rowAt_get hi1, e2⟩
theorem st_eq (b : Bool) : decide (V.str (stS b) = V.str "U") = b := by cases b <;> decide +kernel
def jrow (n : Nat) (a b : SR.Row) : SR.Row := (a.1 && b.1, a.2.1 * n + b.2.1, a.2.2 * n + b.2.2)
theorem take_snoc {α : Type} {l : List α} {i : Nat} {x : α} (h : l[i]? = some x) : l.take (i + 1) = l.take i ++ [x] := by rw [List.take_add_one, h]; rfl
section
variable {w : World} {K : PySem.W.Frag} {mg : Str → Option Value} {base : Heap}
abbrev N_joined : List Str := ["one", "other", "is_both", "many", "found", "status", "passed", "failed", "its_status", "its_passed", "its_failed", "ups", "shown"]
theorem sc_joined : FnScope N_joined ["one", "other", "is_both"] (defScope s_joined) := ⟨rfl, rfl, rfl, by decide +kernel, rfl, by decide +kernel, by decide +kernel⟩
def spJoined (K : PySem.W.Frag) : Sp := fun vs H Q _ => ∃ (a b : Addr) (A B : SR.Tbl), vs = [.ref a, .ref b, .bl true] ∧ TblAt K H a A ∧ TblAt K H b B ∧ A.length ≤ 8 ∧ B.length ≤ 8 ∧ (∀ r ∈ A, r.2.1 < 8 ∧ r.2.2 < 8) ∧
  ∀ (c : Addr) (H' : Hp), Same H H' → TblAt K H' c (SR.joinTbl A B) → Q (.ref c) H'
theorem ok_joined (T : Txt K mg) : FnR PP w K mg base CX0 1 (He.ga K "joined") (spJoined K) := by
  refine defR (T.def_ 10 rfl) sc_joined (fun _ _ _ _ _ _ us hl => match us, hl with | [_, _, _], _ => rfl) ?_ ?_
  · rintro vs H Q E ⟨a, b, A, B, rfl, _⟩
    rfl
  rintro cdv Ar outer s H vs Q E hr ⟨a, b, A, B, rfl, ⟨xs, ha, hra⟩, ⟨ys, hb, hrb⟩, lA, lB, bd, q⟩
  refine ⟨_, (pss_cons (ps_set (i := 3) sc_joined.nd rfl (Or.inl rfl) (pe_callB (klen (K := K)) (by rfl) (T.free 42) boot_len (pa_cons (pv 1) pa_nil)))
      (pss_cons (ps_set (i := 4) sc_joined.nd rfl (Or.inl rfl) (pe_lst pa_nil))
      (pss_cons (ps_for PassesOwn.never rfl (kpi_tup (K := K) (pv 0)) (kg_tup (K := K) (n := 3) rfl (pgs_cons (pg_name (i := 5) sc_joined.nd rfl (Or.inl rfl)) (pgs_cons (pg_name (i := 6) sc_joined.nd rfl (Or.inl rfl)) (pgs_cons (pg_name (i := 7) sc_joined.nd rfl (Or.inl rfl)) pgs_nil)))) (pss_one (ps_for PassesOwn.never rfl (kpi_tup (K := K) (pv 1)) (kg_tup (K := K) (n := 3) rfl (pgs_cons (pg_name (i := 8) sc_joined.nd rfl (Or.inl rfl)) (pgs_cons (pg_name (i := 9) sc_joined.nd rfl (Or.inl rfl)) (pgs_cons (pg_name (i := 10) sc_joined.nd rfl (Or.inl rfl)) pgs_nil)))) (pss_cons (ps_set (i := 11) sc_joined.nd rfl (Or.inl rfl) (pe_op op_add (pe_callTy call_int1 (by rfl) (T.free 38) boot_int (pa_cons (pe_cmpR op_eq (pv 5) (C8.pe_gc (by rfl) (T.str 57)) (nomark _)) pa_nil)) (pe_callTy call_int1 (by rfl) (T.free 38) boot_int (pa_cons (pe_cmpR op_eq (pv 8) (C8.pe_gc (by rfl) (T.str 57)) (nomark _)) pa_nil))))
      (pss_cons (ps_set (i := 12) sc_joined.nd rfl (Or.inl rfl) (pe_ifExp ((pw_or (pt_cmpR op_eq (pv 11) pe_int (nomark _)) (pw_or1 ((pw_and (pt_cmpR op_eq (pv 11) pe_int (nomark _)) (pw_and1 (pt_not (pt_val (pv 2)))))).pt))).pt (C8.pe_gc (by rfl) (T.str 57)) (C8.pe_gc (by rfl) (T.str 58))))
      (pss_one (ps_expr (kbm (K := K) PySem.F.plainAttrs_list PySem.F.slot_list_append PySem.F.type_list_append mt_append (pv 4) (pa_cons (pe_tup (pa_cons (pv 12) (pa_cons (pe_op op_add (pe_op op_mul (pv 6) (pv 3)) (pv 9)) (pa_cons (pe_op op_add (pe_op op_mul (pv 7) (pv 3)) (pv 10)) pa_nil)))) pa_nil)))))))))
      (pss_one (ps_ret (pe_callTy (ktupOf (K := K)) (by rfl) (T.free 41) boot_tuple (pa_cons (pv 4) pa_nil))))))), ?_⟩
  ac_rfl
  intro D hD
  have ha2 := seqT (same_new (o := .lst []) hD) ha
  ac_rfl
  rw [hrb.1]
  refine for_tup (xs := xs) (fun i σ H' => ∃ v1 v2 v3 v4 v5 v6 v7 v8, σ = [some (.ref a), some (.ref b), some (.bl true), some (.int (B.length : Nat)), some (.ref D), v1, v2, v3, v4, v5, v6, v7, v8] ∧ Same H H' ∧ ∃ zs, H' D = some (.lst zs) ∧ RowsAt K H' zs (SR.joinTbl (A.take i) B))
    ⟨_, _, _, _, _, _, _, _, rfl, same_new hD, [], upd_same, RowsAt.nil⟩ (fun i σ H' _ ⟨_, _, _, _, _, _, _, _, _, e, _⟩ => seqT e ha) ?_ ?_
  · rintro i x σ H1 hi ⟨v1, v2, v3, v4, v5, v6, v7, v8, rfl, e, zs, hz, hrz⟩
    obtain ⟨ra, ⟨rs, rp, rf⟩, rfl, hA, hra1⟩ := rows_of hra hi
    have hra2 : SqT K H1 ra [.str (stS rs), .int (rp : Nat), .int (rf : Nat)] := seqT e hra1
    have hb1 := seqT e hb
    have hbd := bd _ (List.mem_of_getElem? hA)
    have hbd1 : rp < 8 := hbd.1
    have hbd2 : rf < 8 := hbd.2
    have hi1 := (List.getElem?_eq_some_iff.mp hA).1
    ac_rfl
    refine for_tup (xs := ys) (fun j σ H' => ∃ v4 v5 v6 v7 v8, σ = [some (.ref a), some (.ref b), some (.bl true), some (.int (B.length : Nat)), some (.ref D), some (.str (stS rs)), some (.int (rp : Nat)), some (.int (rf : Nat)), v4, v5, v6, v7, v8] ∧ Same H H' ∧
        ∃ zs, H' D = some (.lst zs) ∧ RowsAt K H' zs (SR.joinTbl (A.take i) B ++ (B.take j).map (jrow B.length (rs, rp, rf)))) ⟨_, _, _, _, _, rfl, e, zs, hz, by rw [List.take_zero, List.map_nil, List.append_nil]; exact hrz⟩ (fun j σ H' _ ⟨_, _, _, _, _, _, e, _⟩ => seqT e hb) ?_ ?_
    · rintro j y σ H2 hj ⟨v4, v5, v6, v7, v8, rfl, e2, zs, hz, hrz⟩
      obtain ⟨rb, ⟨qs, qp, qf⟩, rfl, hB, hrb1⟩ := rows_of hrb hj
      have hrb2 : SqT K H2 rb [.str (stS qs), .int (qp : Nat), .int (qf : Nat)] := seqT e2 hrb1
      have hj1 := (List.getElem?_eq_some_iff.mp hB).1
      have hl : zs.length ≤ 100 := by
        rw [hrz.1, List.length_append, SR.joinTbl_length, List.length_map, List.length_take, List.length_take]
        have h1 : min i A.length ≤ 8 := by omega
        have h2 : min i A.length * B.length ≤ 8 * 8 := Nat.mul_le_mul h1 lB
        omega
      have fin : ∀ (t : Addr) (sh : Bool), H2 t = none → sh = (rs && qs) →
          Same H (upd (upd H2 t (.tup [.str (stS sh), .int ((rp : Int) * (B.length : Nat) + (qp : Nat)), .int ((rf : Int) * (B.length : Nat) + (qf : Nat))])) D (.lst (zs ++ [.ref t]))) ∧
          ∃ zs', (upd (upd H2 t (.tup [.str (stS sh), .int ((rp : Int) * (B.length : Nat) + (qp : Nat)), .int ((rf : Int) * (B.length : Nat) + (qf : Nat))])) D (.lst (zs ++ [.ref t]))) D = some (.lst zs') ∧
            RowsAt K (upd (upd H2 t (.tup [.str (stS sh), .int ((rp : Int) * (B.length : Nat) + (qp : Nat)), .int ((rf : Int) * (B.length : Nat) + (qf : Nat))])) D (.lst (zs ++ [.ref t]))) zs' (SR.joinTbl (A.take i) B ++ (B.take (j + 1)).map (jrow B.length (rs, rp, rf))) := by
        intro t sh ht hsh
        obtain ⟨g1, g2, g3⟩ := grow (o := .tup [.str (stS sh), .int ((rp : Int) * (B.length : Nat) + (qp : Nat)), .int ((rf : Int) * (B.length : Nat) + (qf : Nat))]) e2 hD hz ht (.ref t)
        refine ⟨g1, _, upd_same, ?_⟩
        rw [take_snoc hB, List.map_append, ← List.append_assoc]
        refine (hrz.but g2 hz).snoc (r := jrow B.length (rs, rp, rf) (qs, qp, qf)) ?_
        have e3 : rowV (jrow B.length (rs, rp, rf) (qs, qp, qf)) = [.str (stS sh), .int ((rp : Int) * (B.length : Nat) + (qp : Nat)), .int ((rf : Int) * (B.length : Nat) + (qf : Nat))] := by
          subst hsh
          unfold rowV jrow
          push_cast
          rfl
        rw [e3]
        exact SqT.of g3
      ac_rfl
      rw [st_eq]
      ac_rfl
      rw [st_eq]
      cases rs <;> cases qs
      · ac_rfl
        refine s_iteF' (by decide +kernel) ?_
        ac_rfl
        refine s_iteF' (by decide +kernel) ?_
        ac_rfl
        intro t ht
        have ne := ne_of_none hz ht
        ac_rfl
        exact ⟨_, _, _, _, _, rfl, fin t _ ht rfl⟩
      · ac_rfl
        refine s_iteF' (by decide +kernel) ?_
        ac_rfl
        refine s_iteT' (by decide +kernel) ?_
        ac_rfl
        intro t ht
        have ne := ne_of_none hz ht
        ac_rfl
        exact ⟨_, _, _, _, _, rfl, fin t _ ht rfl⟩
      · ac_rfl
        refine s_iteF' (by decide +kernel) ?_
        ac_rfl
        refine s_iteT' (by decide +kernel) ?_
        ac_rfl
        intro t ht
        have ne := ne_of_none hz ht
        ac_rfl
        exact ⟨_, _, _, _, _, rfl, fin t _ ht rfl⟩
      · ac_rfl
        refine s_iteT' (by decide +kernel) ?_
        ac_rfl
        intro t ht
        have ne := ne_of_none hz ht
        ac_rfl
        exact ⟨_, _, _, _, _, rfl, fin t _ ht rfl⟩
    · rintro σ H2 ⟨v4, v5, v6, v7, v8, rfl, e2, zs, hz, hrz⟩
      refine ⟨_, _, _, _, _, _, _, _, rfl, e2, zs, hz, ?_⟩
      rw [take_snoc hA]
      unfold SR.joinTbl
      rw [List.flatMap_append]
      rw [hrb.1, List.take_length] at hrz
      have ej : jrow B.length (rs, rp, rf) = fun b => (rs && b.1, rp * B.length + b.2.1, rf * B.length + b.2.2) := rfl
      rw [ej] at hrz
      simpa [SR.joinTbl] using hrz
  · rintro σ H1 ⟨v1, v2, v3, v4, v5, v6, v7, v8, rfl, e, zs, hz, hrz⟩
    rw [hra.1, List.take_length] at hrz
    ac_rfl
    intro c hc
    exact q c _ (e.trans (same_new hc)) ⟨zs, SqT.of upd_same, hrz.mono (same_new hc)⟩
end
end SRD
/-! The rows reached. -/
namespace SRD
open PySem PySem.Spec PyProof.Rows L2 SRT
section
variable {K : PySem.W.Frag} {H : Hp} {Q : VK}
theorem s_slLo {a : Addr} {xs ys : List V} {i : Int} {k : Nat} (h : SqT K H a xs) (e : i = (k : Nat)) (hk : 0 < k) (hx : 0 < xs.length) (ey : xs.drop k = ys) (q : ∀ p, H p = none → Q (.ref p) (upd H p (.tup ys))) : rSlT K (.ref a) (some i) none H Q := by
  subst e ey
  have e1 : HT.sIx xs.length 0 (some ((k : Nat) : Int)) = min k xs.length := HT.sIx_nat _ _ _
  have e2 : HT.sIx xs.length xs.length none = xs.length := HT.sIx_none _ _
  refine ⟨a, xs, rfl, h, fun z => ?_, fun p hp => ?_⟩
  · rw [e1] at z
    omega
  · have e3 : cutV xs (some ((k : Nat) : Int)) none = xs.drop k := by
      unfold cutV
      rw [e1, e2]
      by_cases c : k ≤ xs.length
      · rw [Nat.min_eq_left c]
        exact List.take_of_length_le (by rw [List.length_drop]; omega)
      · rw [Nat.min_eq_right (by omega), List.drop_eq_nil_of_le (by omega), List.drop_eq_nil_of_le (by omega), List.take_nil]
    rw [e3]
    exact q p hp
theorem s_slHi {a : Addr} {xs ys : List V} {i : Int} {k : Nat} (h : SqT K H a xs) (e : i = (k : Nat)) (hk : k < xs.length) (ey : xs.take k = ys) (q : ∀ p, H p = none → Q (.ref p) (upd H p (.tup ys))) : rSlT K (.ref a) none (some i) H Q := by
  subst e ey
  have e1 : HT.sIx xs.length xs.length (some ((k : Nat) : Int)) = min k xs.length := HT.sIx_nat _ _ _
  have e2 : HT.sIx xs.length 0 none = 0 := HT.sIx_none _ _
  refine ⟨a, xs, rfl, h, fun z => ?_, fun p hp => ?_⟩
  · rw [e1] at z
    omega
  · have e3 : cutV xs none (some ((k : Nat) : Int)) = xs.take k := by
      unfold cutV
      rw [e1, e2, Nat.min_eq_left (by omega)]
      rfl
    rw [e3]
    exact q p hp
end
theorem seqT_butD {K : PySem.W.Frag} {H H' : Hp} {p b : Addr} {xs : List V} {kvs : List (Key × V)} (e : SameBut p H H') (hp : H p = some (.dK kvs)) (h : SqT K H b xs) : SqT K H' b xs := by
  rcases h with (h | ⟨o, h⟩) | h
  · refine .inl (.inl (e _ _ (fun q => ?_) h))
    rw [q, hp] at h
    cases h
  · refine .inl (.inr ⟨o, e _ _ (fun q => ?_) h⟩)
    rw [q, hp] at h
    cases h
  · exact .inr h
theorem seqT_butE {K : PySem.W.Frag} {H H' : Hp} {p b : Addr} {xs : List V} {kvs : List (List Key × V)} (e : SameBut p H H') (hp : H p = some (.dT kvs)) (h : SqT K H b xs) : SqT K H' b xs := by
  rcases h with (h | ⟨o, h⟩) | h
  · refine .inl (.inl (e _ _ (fun q => ?_) h))
    rw [q, hp] at h
    cases h
  · refine .inl (.inr ⟨o, e _ _ (fun q => ?_) h⟩)
    rw [q, hp] at h
    cases h
  · exact .inr h
/-- the dict of the rows seen -/
def KOk (kvs : List (Key × V)) (L : List Nat) : Prop := (∀ x : Nat, (valV kvs (.inl (x : Int))).isSome = decide (x ∈ L)) ∧ kvs.length = L.length
theorem KOk.add {kvs : List (Key × V)} {L : List Nat} {y : Nat} {v : V} (h : KOk kvs L) (hy : y ∉ L) : KOk (putK kvs (.inl (y : Int)) v) (L ++ [y]) := by
  have hn : valV kvs (.inl (y : Int)) = none := by
    have := h.1 y
    rw [decide_eq_false hy] at this
    cases e : valV kvs (.inl (y : Int)) with
    | none => rfl
    | some u => rw [e] at this; cases this
  refine ⟨fun x => ?_, ?_⟩
  · rw [valV_put]
    by_cases e : x = y
    · subst e
      simp
    · rw [if_neg (fun q => e (by have := Sum.inl.inj q; omega)), h.1 x]
      simp [e]
  · rw [putK_new _ hn, List.length_append, List.length_append, h.2]
    rfl
abbrev iv (x : Nat) : V := .int (x : Nat)
/-- so far: L seen, none twice, all rows of T, s ahead -/
structure RInv (T : SR.Tbl) (s : Nat) (L : List Nat) : Prop where
  nd : L.Nodup
  lt : ∀ x ∈ L, x < T.length
  hd : L[0]? = some s
theorem RInv.len {T : SR.Tbl} {s : Nat} {L : List Nat} (h : RInv T s L) : L.length ≤ T.length := by
  have := SR.nodup_sub_len (m := List.range T.length) h.nd fun x hx => List.mem_range.mpr (h.lt x hx)
  rwa [List.length_range] at this
theorem RInv.add {T : SR.Tbl} {s : Nat} {L : List Nat} (h : RInv T s L) {y : Nat} (hy : y ∉ L) (hl : y < T.length) : RInv T s (L ++ [y]) := by
  refine ⟨List.nodup_append.mpr ⟨h.nd, by simp, fun a ha b hb => ?_⟩, fun x hx => ?_, ?_⟩
  · rw [List.mem_singleton.mp hb]
    intro q
    exact hy (q ▸ ha)
  · rcases List.mem_append.mp hx with q | q
    · exact h.lt x q
    · rw [List.mem_singleton.mp q]
      exact hl
  · rw [List.getElem?_append_left]
    · exact h.hd
    · exact (List.getElem?_eq_some_iff.mp h.hd).1
section
variable {w : World} {K : PySem.W.Frag} {mg : Str → Option Value} {base : Heap}
abbrev N_reached : List Str := ["rows", "start", "found", "known", "at", "later"]
theorem sc_reached : FnScope N_reached ["rows", "start"] (defScope s_reached) := ⟨rfl, rfl, rfl, by decide +kernel, rfl, by decide +kernel, by decide +kernel⟩
def spReached (K : PySem.W.Frag) : Sp := fun vs H Q _ => ∃ (a : Addr) (st : Nat) (T : SR.Tbl), vs = [.ref a, .int (st : Nat)] ∧ TblAt K H a T ∧ SR.Valid T ∧ st < T.length ∧ T.length ≤ 64 ∧
  ∀ (l : Addr) (L : List Nat) (H' : Hp), Same H H' → H' l = some (.lst (L.map iv)) → SR.Reach T st L → L[0]? = some st → L.length ≤ T.length → Q (.ref l) H'
theorem ok_reached (T : Txt K mg) : FnR PP w K mg base CX0 1 (He.ga K "reached") (spReached K) := by
  refine defR (T.def_ 5 rfl) sc_reached (fun _ _ _ _ _ _ us hl => match us, hl with | [_, _], _ => rfl) ?_ ?_
  · rintro vs H Q E ⟨a, st, T, rfl, _⟩
    rfl
  rintro cdv A outer s H vs Q E hr ⟨a, st, Tb, rfl, ⟨xs, ha, hrow⟩, hv, hst, hle, q⟩
  have row : ∀ (g : Nat) (H1 : Hp), Same H H1 → g < Tb.length → ∃ b, atI xs (g : Nat) = some (.ref b) ∧ SqT K H1 b [.str (stS (SR.stat Tb g)), .int ((SR.nxt Tb g true : Nat) : Int), .int ((SR.nxt Tb g false : Nat) : Int)] := fun g H1 e hg => by
    obtain ⟨b, h1, h2⟩ := (hrow.mono e).get hg
    exact ⟨b, atI_nat h1, h2⟩
  refine ⟨_, (pss_cons (ps_set (i := 2) sc_reached.nd rfl (Or.inl rfl) (pe_lst (pa_cons (pv 1) pa_nil)))
      (pss_cons (ps_set (i := 3) sc_reached.nd rfl (Or.inl rfl) (pe_disp (pps_cons (pv 1) pe_bl pps_nil) rfl rfl (by simp) (by decide)))
      (pss_cons (ps_set (i := 4) sc_reached.nd rfl (Or.inl rfl) pe_int)
      (pss_cons (ps_while PassesOwn.never (pt_cmpR op_lt (pv 4) (pe_callB (klen (K := K)) (by rfl) (T.free 42) boot_len (pa_cons (pv 2) pa_nil)) (nomark _)) (pss_cons (ps_for PassesOwn.never rfl (kpi_tup (K := K) (pe_slice (ksl_tup (K := K)) (pe_ix (kix_tup (K := K)) (pv 0) (pe_ix (kix_list (K := K)) (pv 2) (pv 4) (fun _ _ => rfl)) (fun _ _ => rfl)) (po_some pe_int) po_none)) (pg_name (i := 5) sc_reached.nd rfl (Or.inl rfl)) (pss_one (ps_if (pt_cmp (pc_dnotin (hu_of (hr.mono (Nat.zero_le _))) (pv 5) (pv 3))) (pss_cons (ps_dput (hu_of (hr.mono (Nat.zero_le _))) (pv 3) (pv 5) pe_bl rfl)
      (pss_one (ps_expr (kbm (K := K) PySem.F.plainAttrs_list PySem.F.slot_list_append PySem.F.type_list_append mt_append (pv 2) (pa_cons (pv 5) pa_nil))))) pss_nil)))
      (pss_one (ps_set (i := 4) sc_reached.nd rfl (Or.inl rfl) (pe_op op_add (pv 4) pe_int)))))
      (pss_one (ps_ret (pv 2))))))), ?_⟩
  ac_rfl
  intro l hl
  ac_rfl
  intro d hd
  have nld : l ≠ d := ne_of_none upd_same hd
  have hd0 : H d = none := Same.free (same_new hl) hd
  refine s_var rfl ?_
  refine s_C ?_
  refine ⟨upd_same, [(.inl ((st : Nat) : Int), .bl true)], rfl, by simp, ?_⟩
  ac_rfl
  have hs0 : Same H (upd (upd (upd H l (.lst [.int (st : Nat)])) d (.dK [])) d (.dK (mergeK [] [(.inl ((st : Nat) : Int), .bl true)]))) := grow0 (grow0 (same_new hl) hd0) hd0
  refine s_while (fun m σ H' => ∃ L k v, σ = [some (.ref a), some (iv st), some (.ref l), some (.ref d), some (iv k), v] ∧ Same H H' ∧ (∃ kvs, H' l = some (.lst (L.map iv)) ∧ H' d = some (.dK kvs) ∧ KOk kvs L) ∧ RInv Tb st L ∧ k ≤ L.length ∧
      (∀ j x c, j < k → L[j]? = some x → SR.nxt Tb x c ∈ L) ∧ m = Tb.length - k)
    ⟨_, [st], 0, none, rfl, hs0, ⟨[(.inl ((st : Nat) : Int), .bl true)], ?_, upd_same, ?_⟩, ⟨by simp, fun x hx => by rw [List.mem_singleton.mp hx]; exact hst, rfl⟩, Nat.zero_le _, fun j x c hj => absurd hj (Nat.not_lt_zero _), rfl⟩ ?_
  · rw [upd_ne nld, upd_ne nld, upd_same]
    rfl
  · refine ⟨fun x => ?_, rfl⟩
    by_cases e : x = st
    · subst e
      rw [valV_pos rfl]
      simp
    · rw [valV_neg (fun q => e (by have := Sum.inl.inj q; omega)), valV_nil]
      simp [e]
  rintro m σ H1 ⟨L, k, v, rfl, e, ⟨kvs, hx, hkd, hk⟩, hI, hkl, hcl, rfl⟩
  ac_rfl
  rw [List.length_map]
  refine s_ite (fun c => ?_) (fun c => ?_)
  · have c : k < L.length := by have := of_decide_eq_true c; omega
    have hLk : L[k]? = some (L[k]'c) := List.getElem?_eq_getElem c
    revert hLk
    generalize L[k]'c = y
    intro hLk
    have hat : (L.map iv)[k]? = some (iv y) := by rw [List.getElem?_map, hLk]; rfl
    obtain ⟨b, hat1, hb⟩ := row y H1 e (hI.lt y (List.mem_of_getElem? hLk))
    have ha1 := seqT e ha
    refine ⟨_, fun _ _ h => h, ?_⟩
    ac_rfl
    refine s_slLo (k := 1) hb rfl (by decide) (by simp) rfl fun t ht => ?_
    have nlt : l ≠ t := ne_of_none hx ht
    have ndt : d ≠ t := ne_of_none hkd ht
    ac_rfl
    refine for_tup (xs := [iv (SR.nxt Tb y true), iv (SR.nxt Tb y false)]) (fun i σ H' => ∃ M v, σ = [some (.ref a), some (iv st), some (.ref l), some (.ref d), some (iv k), v] ∧ Same H H' ∧ SqT K H' t [iv (SR.nxt Tb y true), iv (SR.nxt Tb y false)] ∧
        (∃ kvs, H' l = some (.lst ((L ++ M).map iv)) ∧ H' d = some (.dK kvs) ∧ KOk kvs (L ++ M)) ∧ RInv Tb st (L ++ M) ∧ (1 ≤ i → SR.nxt Tb y true ∈ L ++ M) ∧ (2 ≤ i → SR.nxt Tb y false ∈ L ++ M))
      ⟨[], _, rfl, e.trans (same_new ht), SqT.of upd_same, ⟨kvs, by rw [upd_ne nlt, List.append_nil]; exact hx, by rw [upd_ne ndt]; exact hkd, by rw [List.append_nil]; exact hk⟩, by rw [List.append_nil]; exact hI, fun h => by omega, fun h => by omega⟩
      (fun i σ H' _ ⟨_, _, _, _, h, _⟩ => h) ?_ ?_
    · rintro i x σ H2 hi ⟨M, v, rfl, e2, ht2, ⟨kvs2, hx2, hkd2, hk2⟩, hI2, h1, h2⟩
      obtain ⟨z, rfl, hz1, hz2⟩ : ∃ z, x = iv z ∧ z < Tb.length ∧ ∀ M' : List Nat, (∀ u ∈ L ++ M, u ∈ M') → z ∈ M' → (1 ≤ i + 1 → SR.nxt Tb y true ∈ M') ∧ (2 ≤ i + 1 → SR.nxt Tb y false ∈ M') := by
        have hy := hI.lt y (List.mem_of_getElem? hLk)
        match i, hi with
        | 0, hi => exact ⟨_, (Option.some.inj hi).symm, hv.nxt hy true, fun M' _ hz => ⟨fun _ => hz, fun h => by omega⟩⟩
        | 1, hi => exact ⟨_, (Option.some.inj hi).symm, hv.nxt hy false, fun M' hs hz => ⟨fun _ => hs _ (h1 (by omega)), fun _ => hz⟩⟩
        | n + 2, hi => simp at hi
      have hlen := hI2.len
      have hl2 : ((L ++ M).map iv).length ≤ 1000 := by rw [List.length_map]; omega
      have hl3 : kvs2.length ≤ 1000 := by rw [hk2.2]; omega
      ac_rfl
      rw [hk2.1 z]
      refine s_ite (fun c2 => ?_) (fun c2 => ?_)
      · have hn : z ∉ L ++ M := by
          intro q
          rw [decide_eq_true q] at c2
          cases c2
        ac_rfl
        obtain ⟨g1, g2⟩ := hz2 (L ++ (M ++ [z])) (fun u hu => by rw [← List.append_assoc]; exact List.mem_append_left _ hu) (by simp)
        have hx3 : (upd H2 d (.dK (putK kvs2 (.inl ((z : Nat) : Int)) (.bl true)))) l = some (.lst ((L ++ M).map iv)) := (upd_ne nld).trans hx2
        refine ⟨M ++ [z], _, rfl, grow0 (grow0 e2 hd0) hl, seqT_but (SameBut.upd l _ _) hx3 (seqT_butD (SameBut.upd d _ _) hkd2 ht2), ⟨_, ?_, Eq.trans (upd_ne nld.symm) upd_same, ?_⟩, ?_, g1, g2⟩
        · rw [upd_same, ← List.append_assoc, List.map_append (l₁ := L ++ M)]
          rfl
        · rw [← List.append_assoc]
          exact hk2.add hn
        · rw [← List.append_assoc]
          exact hI2.add hn hz1
      · have hn : z ∈ L ++ M := by
          by_cases q : z ∈ L ++ M
          · exact q
          · rw [decide_eq_false q] at c2
            cases c2
        ac_rfl
        obtain ⟨g1, g2⟩ := hz2 (L ++ M) (fun _ h => h) hn
        exact ⟨M, _, rfl, e2, ht2, ⟨kvs2, hx2, hkd2, hk2⟩, hI2, g1, g2⟩
    · rintro σ H2 ⟨M, v, rfl, e2, ht2, ⟨kvs2, hx2, hkd2, hk2⟩, hI2, h1, h2⟩
      ac_rfl
      refine ⟨Tb.length - (k + 1), by have := hI.len; omega, L ++ M, k + 1, v, rfl, e2, ⟨kvs2, hx2, hkd2, hk2⟩, hI2, by rw [List.length_append]; omega, ?_, rfl⟩
      intro j x cc hj hjx
      by_cases h : j < k
      · rw [List.getElem?_append_left (by omega)] at hjx
        exact List.mem_append_left _ (hcl j x cc h hjx)
      · have e : j = k := by omega
        subst e
        rw [List.getElem?_append_left (by omega), hLk] at hjx
        cases hjx
        cases cc with
        | true => exact h1 (by simp)
        | false => exact h2 (by simp)
  · have c : k = L.length := by have := of_decide_eq_false c; omega
    ac_rfl
    refine q l L H1 e hx ⟨List.mem_of_getElem? hI.hd, hI.lt, fun x hx c2 => ?_, hI.nd⟩ hI.hd hI.len
    obtain ⟨j, hj, ej⟩ := List.mem_iff_getElem.mp hx
    exact hcl j x c2 (by omega) (by rw [List.getElem?_eq_getElem hj, ej])
end
end SRD
/-! The classes of the rows. -/
namespace SRD
open PySem PySem.Spec PyProof.Rows L2 SRT
def kT (k : SR.K3) : List Key := [.inl k.1, .inl k.2.1, .inl k.2.2]
theorem kT_inj {a b : SR.K3} (h : kT a = kT b) : a = b := by
  obtain ⟨a1, a2, a3⟩ := a
  obtain ⟨b1, b2, b3⟩ := b
  simp only [kT, List.cons.injEq, Sum.inl.injEq, and_true] at h
  obtain ⟨rfl, rfl, rfl⟩ := h
  rfl
/-- the dict of the keys: each with its place -/
def DOk (kvs : List (List Key × V)) (S : List SR.K3) : Prop := (∀ k : SR.K3, valV kvs (kT k) = if k ∈ S then some (.int ((SR.ix S k : Nat) : Int)) else none) ∧ kvs.length = S.length
theorem DOk.nil : DOk [] [] := ⟨fun k => by rw [valV_nil]; simp, rfl⟩
theorem DOk.add {kvs : List (List Key × V)} {S : List SR.K3} {k : SR.K3} (h : DOk kvs S) (hk : k ∉ S) : DOk (putK kvs (kT k) (.int ((kvs.length : Nat) : Int))) (S ++ [k]) := by
  have hn : valV kvs (kT k) = none := by rw [h.1 k, if_neg hk]
  refine ⟨fun j => ?_, ?_⟩
  · rw [valV_put]
    by_cases e : j = k
    · subst e
      rw [if_pos rfl, if_pos (by simp), SR.ix_new hk, h.2]
    · rw [if_neg (fun q => e (kT_inj q)), h.1 j]
      by_cases c : j ∈ S
      · rw [if_pos c, if_pos (List.mem_append_left _ c), SR.ix_append c]
      · rw [if_neg c, if_neg (by simp [c, e])]
  · rw [putK_new _ hn, List.length_append, List.length_append, h.2]
    rfl
section
variable {w : World} {K : PySem.W.Frag} {mg : Str → Option Value} {base : Heap}
abbrev N_row_classes : List Str := ["rows", "found", "many", "numbers", "later", "at", "row", "key"]
theorem sc_row_classes : FnScope N_row_classes ["rows"] (defScope s_row_classes) := ⟨rfl, rfl, rfl, by decide +kernel, rfl, by decide +kernel, by decide +kernel⟩
def spRowClasses (K : PySem.W.Frag) : Sp := fun vs H Q _ => ∃ (a : Addr) (T : SR.Tbl), vs = [.ref a] ∧ TblAt K H a T ∧ SR.Valid T ∧ T.length ≤ 64 ∧
  ∀ (l : Addr) (f : List Int) (H' : Hp), Same H H' → H' l = some (.lst (f.map V.int)) → SR.Classes T (SR.numOf f) → f.length = T.length → (∀ v ∈ f, 0 ≤ v) → Q (.ref l) H'
theorem ok_row_classes (T : Txt K mg) : FnR PP w K mg base CX0 1 (He.ga K "row_classes") (spRowClasses K) := by
  refine defR (T.def_ 6 rfl) sc_row_classes (fun _ _ _ _ _ _ us hl => match us, hl with | [_], _ => rfl) ?_ ?_
  · rintro vs H Q E ⟨a, T, rfl, _⟩
    rfl
  rintro cdv A outer s H vs Q E hr ⟨a, Tb, rfl, ⟨xs, ha, hrow⟩, hv, hle, q⟩
  have hxl := hrow.1
  have row : ∀ (g : Nat) (H1 : Hp), Same H H1 → g < Tb.length → ∃ b, xs[g]? = some (.ref b) ∧ SqT K H1 b [.str (stS (SR.stat Tb g)), .int ((SR.nxt Tb g true : Nat) : Int), .int ((SR.nxt Tb g false : Nat) : Int)] := fun g H1 e hg => by
    obtain ⟨b, h1, h2⟩ := (hrow.mono e).get hg
    exact ⟨b, h1, h2⟩
  refine ⟨_, (pss_cons (ps_setLc (i := 1) rfl sc_row_classes.nd rfl rfl (sw_true rfl rfl rfl (by decide +kernel)) (kpi_tup (K := K) (pv 0)) (blkOk_by (own := [("row", 6)]) (N := N_row_classes) (sc := defScope s_row_classes) (by decide +kernel)) (fun _ _ _ _ _ => (pg_name (i := 6) sc_row_classes.nd rfl (Or.inl rfl))) (fun _ _ _ _ _ => pts_nil) (fun _ _ _ _ _ => (pe_callTy call_int1 (by rfl) (T.free 38) boot_int (pa_cons (pe_cmpR op_eq (pe_ix (kix_tup (K := K)) (pv 6) pe_int (fun _ _ => rfl)) (C8.pe_gc (by rfl) (T.str 57)) (nomark _)) pa_nil))))
      (pss_cons (ps_set (i := 2) sc_row_classes.nd rfl (Or.inl rfl) pe_int)
      (pss_cons (ps_while PassesOwn.never (pt_cmpR op_lt (pv 2) (SRO.pe_lenSetL (by rfl) (T.free 42) (by rfl) (T.free 44) (pv 1)) (nomark _)) (pss_cons (ps_set (i := 2) sc_row_classes.nd rfl (Or.inl rfl) (SRO.pe_lenSetL (by rfl) (T.free 42) (by rfl) (T.free 44) (pv 1)))
      (pss_cons (ps_set (i := 3) sc_row_classes.nd rfl (Or.inl rfl) pe_dnewT)
      (pss_cons (ps_set (i := 4) sc_row_classes.nd rfl (Or.inl rfl) (pe_lst pa_nil))
      (pss_cons (ps_for PassesOwn.never rfl (SRO.pi_enumT (by rfl) (T.free 45) (pa_cons (pv 0) pa_nil)) (kg_tup (K := K) (n := 2) rfl (pgs_cons (pg_name (i := 5) sc_row_classes.nd rfl (Or.inl rfl)) (pgs_cons (pg_name (i := 6) sc_row_classes.nd rfl (Or.inl rfl)) pgs_nil))) (pss_cons (ps_set (i := 7) sc_row_classes.nd rfl (Or.inl rfl) (pe_tup (pa_cons (pe_ix (kix_list (K := K)) (pv 1) (pv 5) (fun _ _ => rfl)) (pa_cons (pe_ix (kix_list (K := K)) (pv 1) (pe_ix (kix_tup (K := K)) (pv 6) pe_int (fun _ _ => rfl)) (fun _ _ => rfl)) (pa_cons (pe_ix (kix_list (K := K)) (pv 1) (pe_ix (kix_tup (K := K)) (pv 6) pe_int (fun _ _ => rfl)) (fun _ _ => rfl)) pa_nil)))))
      (pss_cons (ps_if (pt_cmp (pc_dnotin (hu_of (hr.mono (Nat.zero_le _))) (pv 7) (pv 3))) (pss_one (ps_dput (hu_of (hr.mono (Nat.zero_le _))) (pv 3) (pv 7) (pe_callB call_len_dT (by rfl) (T.free 42) boot_len (pa_cons (pv 3) pa_nil)) rfl)) pss_nil)
      (pss_one (ps_expr (kbm (K := K) PySem.F.plainAttrs_list PySem.F.slot_list_append PySem.F.type_list_append mt_append (pv 4) (pa_cons (pe_dget (hu_of (hr.mono (Nat.zero_le _))) (pv 3) (pv 7) (fun _ _ => rfl)) pa_nil)))))))
      (pss_one (ps_set (i := 1) sc_row_classes.nd rfl (Or.inl rfl) (pv 4))))))))
      (pss_one (ps_ret (pv 1)))))), ?_⟩
  ac_rfl
  intro D hD
  refine lc_tup (xs := xs) (fun i H' => Same H H' ∧ H' D = some (.lst (((SR.rc0 Tb).take i).map V.int))) ⟨same_new hD, upd_same⟩ (fun i H' _ h => seqT h.1 ha) ?_ ?_
  · rintro i x H1 hi ⟨e, hx⟩
    have hi1 : i < Tb.length := by rw [← hxl]; exact (List.getElem?_eq_some_iff.mp hi).1
    obtain ⟨b, hb1, hb2⟩ := row i H1 e hi1
    rw [hb1] at hi
    cases hi
    have hl : (((SR.rc0 Tb).take i).map V.int).length ≤ 1000 := by
      rw [List.length_map, List.length_take]
      omega
    ac_rfl
    rw [st_eq]
    refine ⟨grow0 e hD, ?_⟩
    have eg : (SR.rc0 Tb)[i]? = some (if SR.stat Tb i = true then 1 else 0) := by
      unfold SR.rc0
      rw [List.getElem?_map, SR.rowAt_get hi1]
      rfl
    rw [upd_same, take_snoc eg, List.map_append]
    rfl
  rintro H1 ⟨e, hx⟩
  have hr0 : (SR.rc0 Tb).length = Tb.length := by unfold SR.rc0; rw [List.length_map]
  rw [hxl, ← hr0, List.take_length] at hx
  ac_rfl
  refine s_while (fun m σ H' => ∃ l f many v3 v4 v5 v6 v7, σ = [some (.ref a), some (.ref l), some (iv many), v3, v4, v5, v6, v7] ∧ Same H H' ∧ H' l = some (.lst (f.map V.int)) ∧ SR.RcInv Tb f many ∧ m = Tb.length - many)
    ⟨_, D, SR.rc0 Tb, 0, none, none, none, none, none, rfl, e, hx, SR.RcInv.start Tb, rfl⟩ ?_
  rintro m σ H2 ⟨l, f, many, v3, v4, v5, v6, v7, rfl, e2, hx2, hI, rfl⟩
  have hfl := hI.len
  ac_rfl
  refine ⟨l, f, rfl, SqL.of hx2, by omega, ?_⟩
  ac_rfl
  refine s_ite (fun c => ?_) (fun c => ?_)
  · have c : many < (SR.dd f).length := by have := of_decide_eq_true c; omega
    have hdl := SR.dd_len f
    refine ⟨_, fun _ _ h => h, ?_⟩
    ac_rfl
    refine ⟨l, f, rfl, SqL.of hx2, by omega, ?_⟩
    ac_rfl
    intro d hd
    have nld : l ≠ d := ne_of_none hx2 hd
    ac_rfl
    intro lt hlt
    have nlt : l ≠ lt := ne_of_none ((upd_ne nld).trans hx2) hlt
    have ndt : d ≠ lt := ne_of_none upd_same hlt
    have hd0 : H d = none := Same.free e2 hd
    have hlt0 : H lt = none := Same.free (e2.trans (same_new hd)) hlt
    have e3 : Same H (upd (upd H2 d (.dT [])) lt (.lst [])) := (e2.trans (same_new hd)).trans (same_new hlt)
    have ha3 := seqT e3 ha
    ac_rfl
    refine for_enumT (xs := xs) (fun i σ H' => ∃ v5 v6 v7 kvs, σ = [some (.ref a), some (.ref l), some (iv (SR.dd f).length), some (.ref d), some (.ref lt), v5, v6, v7] ∧ Same H H' ∧ H' l = some (.lst (f.map V.int)) ∧ H' d = some (.dT kvs) ∧
        DOk kvs (SR.keysTo Tb f i) ∧ H' lt = some (.lst ((SR.laterTo Tb f i).map V.int)))
      ⟨_, _, _, [], rfl, e3, (upd_ne nlt).trans ((upd_ne nld).trans hx2), (upd_ne ndt).trans upd_same, DOk.nil, upd_same⟩ (fun i σ H' _ ⟨_, _, _, _, _, h, _⟩ => seqT h ha) ?_ ?_
    · rintro i x P σ H4 hi ⟨v5, v6, v7, kvs, rfl, e4, hx4, hd4, hk4, hlt4⟩ hP
      have hi1 : i < Tb.length := by rw [← hxl]; exact (List.getElem?_eq_some_iff.mp hi).1
      have e5 : Same H (upd H4 P (.tup [.int (i : Nat), x])) := e4.trans (same_new hP)
      obtain ⟨b, hb1, hb2⟩ := row i _ e5 hi1
      rw [hb1] at hi
      cases hi
      have fat : ∀ j, j < Tb.length → (f.map V.int)[j]? = some (.int (f.getD j 0)) := fun j hj => by
        rw [List.getElem?_map, List.getD_eq_getElem?_getD, List.getElem?_eq_getElem (by omega)]
        rfl
      have f1 := fat i hi1
      have f2 := fat _ (hv.nxt hi1 true)
      have f3 := fat _ (hv.nxt hi1 false)
      have nlP : l ≠ P := ne_of_none hx4 hP
      have ndP : d ≠ P := ne_of_none hd4 hP
      have ntP : lt ≠ P := ne_of_none hlt4 hP
      ac_rfl
      intro t ht
      have hx5 : (upd H4 P (.tup [.int (i : Nat), .ref b])) l = some (.lst (f.map V.int)) := (upd_ne nlP).trans hx4
      have hd5 : (upd H4 P (.tup [.int (i : Nat), .ref b])) d = some (.dT kvs) := (upd_ne ndP).trans hd4
      have hlt5 : (upd H4 P (.tup [.int (i : Nat), .ref b])) lt = some (.lst ((SR.laterTo Tb f i).map V.int)) := (upd_ne ntP).trans hlt4
      have nlt5 := ne_of_none hx5 ht
      have ndt5 := ne_of_none hd5 ht
      have ntt5 := ne_of_none hlt5 ht
      have e6 := e5.trans (same_new (o := .tup [.int (f.getD i 0), .int (f.getD (SR.nxt Tb i true) 0), .int (f.getD (SR.nxt Tb i false) 0)]) ht)
      have hx6 := (upd_ne (o := .tup [.int (f.getD i 0), .int (f.getD (SR.nxt Tb i true) 0), .int (f.getD (SR.nxt Tb i false) 0)]) nlt5).trans hx5
      have hd6 := (upd_ne (o := .tup [.int (f.getD i 0), .int (f.getD (SR.nxt Tb i true) 0), .int (f.getD (SR.nxt Tb i false) 0)]) ndt5).trans hd5
      have hlt6 := (upd_ne (o := .tup [.int (f.getD i 0), .int (f.getD (SR.nxt Tb i true) 0), .int (f.getD (SR.nxt Tb i false) 0)]) ntt5).trans hlt5
      have ht6 : (upd (upd H4 P (.tup [.int (i : Nat), .ref b])) t (.tup [.int (f.getD i 0), .int (f.getD (SR.nxt Tb i true) 0), .int (f.getD (SR.nxt Tb i false) 0)])) t = some (.tup ((kT (SR.keyAt Tb f i)).map kV)) := upd_same
      revert e6 hx6 hd6 hlt6 ht6
      generalize upd (upd H4 P (.tup [.int (i : Nat), .ref b])) t (.tup [.int (f.getD i 0), .int (f.getD (SR.nxt Tb i true) 0), .int (f.getD (SR.nxt Tb i false) 0)]) = H6
      intro e6 hx6 hd6 hlt6 ht6
      have hkl : kvs.length ≤ 64 := by
        have := SR.keysTo_len Tb f i
        rw [hk4.2]
        omega
      have hll : ((SR.laterTo Tb f i).map V.int).length ≤ 1000 := by
        rw [List.length_map, SR.laterTo_length]
        omega
      have eS := SR.keysTo_succ Tb f i
      have eL := SR.laterTo_succ Tb f i
      ac_rfl
      rw [hk4.1 (SR.keyAt Tb f i)]
      by_cases c2 : SR.keyAt Tb f i ∈ SR.keysTo Tb f i
      · have eS2 : SR.keysTo Tb f (i + 1) = SR.keysTo Tb f i := by
          rw [eS]
          unfold SR.dstep
          rw [if_pos c2]
        have hval : valV kvs (kT (SR.keyAt Tb f i)) = some (.int ((SR.ix (SR.keysTo Tb f i) (SR.keyAt Tb f i) : Nat) : Int)) := by rw [hk4.1, if_pos c2]
        rw [if_pos c2]
        refine s_iteF' rfl ?_
        ac_rfl
        exact ⟨_, _, _, kvs, rfl, grow0 e6 hlt0, (upd_ne nlt).trans hx6, (upd_ne ndt).trans hd6, by rw [eS2]; exact hk4, by rw [upd_same, eL, eS2, List.map_append]; rfl⟩
      · have eS2 : SR.keysTo Tb f (i + 1) = SR.keysTo Tb f i ++ [SR.keyAt Tb f i] := by
          rw [eS]
          unfold SR.dstep
          rw [if_neg c2]
        have hk5 := hk4.add c2
        have hval : valV (putK kvs (kT (SR.keyAt Tb f i)) (.int ((kvs.length : Nat) : Int))) (kT (SR.keyAt Tb f i)) = some (.int ((SR.ix (SR.keysTo Tb f i ++ [SR.keyAt Tb f i]) (SR.keyAt Tb f i) : Nat) : Int)) := by rw [hk5.1, if_pos (by simp)]
        rw [if_neg c2]
        refine s_iteT' rfl ?_
        ac_rfl
        refine ⟨d, kvs, rfl, hd6, ?_⟩
        ac_rfl
        have ht7 : (upd H6 d (.dT (putK kvs (kT (SR.keyAt Tb f i)) (.int ((kvs.length : Nat) : Int))))) t = some (.tup ((kT (SR.keyAt Tb f i)).map kV)) := (upd_ne ndt5.symm).trans ht6
        have hlt7 : (upd H6 d (.dT (putK kvs (kT (SR.keyAt Tb f i)) (.int ((kvs.length : Nat) : Int))))) lt = some (.lst ((SR.laterTo Tb f i).map V.int)) := (upd_ne ndt.symm).trans hlt6
        have hx7 : (upd H6 d (.dT (putK kvs (kT (SR.keyAt Tb f i)) (.int ((kvs.length : Nat) : Int))))) l = some (.lst (f.map V.int)) := (upd_ne nld).trans hx6
        ac_rfl
        exact ⟨_, _, _, _, rfl, grow0 (grow0 e6 hd0) hlt0, (upd_ne nlt).trans hx7, (upd_ne ndt).trans upd_same, by rw [eS2]; exact hk5, by rw [upd_same, eL, eS2, List.map_append]; rfl⟩
    · rintro σ H4 ⟨v5, v6, v7, kvs, rfl, e4, hx4, hd4, hk4, hlt4⟩
      rw [hxl] at hlt4
      ac_rfl
      exact ⟨Tb.length - (SR.dd f).length, by omega, lt, SR.laterTo Tb f Tb.length, (SR.dd f).length, _, _, _, _, _, rfl, e4, hlt4, hI.turn, rfl⟩
  · ac_rfl
    exact q l f H2 e2 hx2 (hI.done hv (by have := of_decide_eq_false c; omega)) hfl hI.nn
end
end SRD
/-! The smallest table. -/
namespace SRD
open PySem PySem.Spec PyProof.Rows L2 SRT
/-- the dict of the places: each class with its place -/
def POk (kvs : List (Key × V)) (S : List Nat) : Prop := (∀ k : Nat, valV kvs (.inl (k : Int)) = if k ∈ S then some (.int ((SR.ix S k : Nat) : Int)) else none) ∧ kvs.length = S.length
theorem POk.nil : POk [] [] := ⟨fun k => by rw [valV_nil]; simp, rfl⟩
theorem POk.add {kvs : List (Key × V)} {S : List Nat} {k n : Nat} (h : POk kvs S) (hk : k ∉ S) (hn : n = S.length) : POk (putK kvs (.inl (k : Int)) (.int ((n : Nat) : Int))) (S ++ [k]) := by
  have hv : valV kvs (.inl (k : Int)) = none := by rw [h.1 k, if_neg hk]
  refine ⟨fun j => ?_, ?_⟩
  · rw [valV_put]
    by_cases e : j = k
    · subst e
      rw [if_pos rfl, if_pos (by simp), SR.ix_new hk, hn]
    · rw [if_neg (fun q => e (by have := Sum.inl.inj q; omega)), h.1 j]
      by_cases c : j ∈ S
      · rw [if_pos c, if_pos (List.mem_append_left _ c), SR.ix_append c]
      · rw [if_neg c, if_neg (by simp [c, e])]
  · rw [putK_new _ hv, List.length_append, List.length_append, h.2]
    rfl
section
variable {w : World} {K : PySem.W.Frag} {mg : Str → Option Value} {base : Heap}
abbrev N_smallest : List Str := ["rows", "start", "number", "places", "order", "at", "status", "one", "other"]
theorem sc_smallest : FnScope N_smallest ["rows", "start"] (defScope s_smallest) := ⟨rfl, rfl, rfl, by decide +kernel, rfl, by decide +kernel, by decide +kernel⟩
def spSmallest (K : PySem.W.Frag) : Sp := fun vs H Q _ => ∃ (a : Addr) (st : Nat) (T : SR.Tbl), vs = [.ref a, .int (st : Nat)] ∧ TblAt K H a T ∧ SR.Valid T ∧ st < T.length ∧ T.length ≤ 64 ∧
  ∀ (b : Addr) (U : SR.Tbl) (H' : Hp), Same H H' → TblAt K H' b U → SR.Valid U → U.length ≤ T.length → (∀ u, SR.beh U 0 u = SR.beh T st u) → H b = none → Q (.ref b) H'
theorem ok_smallest (T : Txt K mg) (F_row_classes : FnR PP w K mg base CX0 1 (He.ga K "row_classes") (spRowClasses K)) (F_reached : FnR PP w K mg base CX0 1 (He.ga K "reached") (spReached K)) : FnR PP w K mg base CX0 2 (He.ga K "smallest") (spSmallest K) := by
  refine defR (T.def_ 7 rfl) sc_smallest (fun _ _ _ _ _ _ us hl => match us, hl with | [_, _], _ => rfl) ?_ ?_
  · rintro vs H Q E ⟨a, st, T, rfl, _⟩
    rfl
  rintro cdv A outer s H vs Q E hr ⟨a, st, Tb, rfl, ⟨xs, ha, hrow⟩, hv, hst, hle, q⟩
  have hxl := hrow.1
  have row : ∀ (g : Nat) (H1 : Hp), Same H H1 → g < Tb.length → ∃ b, xs[g]? = some (.ref b) ∧ SqT K H1 b [.str (stS (SR.stat Tb g)), .int ((SR.nxt Tb g true : Nat) : Int), .int ((SR.nxt Tb g false : Nat) : Int)] := fun g H1 e hg => by
    obtain ⟨b, h1, h2⟩ := (hrow.mono e).get hg
    exact ⟨b, h1, h2⟩
  refine ⟨_, (pss_cons (ps_set (i := 2) sc_smallest.nd rfl (Or.inr rfl) (SRO.pe_callR F_row_classes (hr.mono (by decide)) (by rfl) (T.glo 6) (T.keep 114) pass0 (pa_cons (pv 0) pa_nil)))
      (pss_cons (ps_set (i := 3) sc_smallest.nd rfl (Or.inr rfl) pe_dnewK)
      (pss_cons (ps_set (i := 4) sc_smallest.nd rfl (Or.inl rfl) (pe_lst pa_nil))
      (pss_cons (ps_for PassesOwn.never rfl (kpi_list (K := K) (SRO.pe_callR F_reached (hr.mono (by decide)) (by rfl) (T.glo 5) (T.keep 113) pass0 (pa_cons (pv 0) (pa_cons (pv 1) pa_nil)))) (pg_name (i := 5) sc_smallest.nd rfl (Or.inl rfl)) (pss_one (ps_if (pt_cmp (pc_dnotin (hu_of (hr.mono (Nat.zero_le _))) (pe_ix (kix_list (K := K)) (pv 2) (pv 5) (fun _ _ => rfl)) (pv 3))) (pss_cons (ps_dput (hu_of (hr.mono (Nat.zero_le _))) (pv 3) (pe_ix (kix_list (K := K)) (pv 2) (pv 5) (fun _ _ => rfl)) (pe_callB (klen (K := K)) (by rfl) (T.free 42) boot_len (pa_cons (pv 4) pa_nil)) rfl)
      (pss_one (ps_expr (kbm (K := K) PySem.F.plainAttrs_list PySem.F.slot_list_append PySem.F.type_list_append mt_append (pv 4) (pa_cons (pe_ix (kix_tup (K := K)) (pv 0) (pv 5) (fun _ _ => rfl)) pa_nil))))) pss_nil)))
      (pss_one (ps_ret (pe_callTy (ktupOf (K := K)) (by rfl) (T.free 41) boot_tuple (pa_cons (pe_lc rfl sc_smallest.nd (kpi_list (K := K) (pv 4)) (blkOk_by (own := [("status", 6), ("one", 7), ("other", 8)]) (N := N_smallest) (sc := defScope s_smallest) (by decide +kernel)) (fun _ _ _ _ _ => (kg_tup (K := K) (n := 3) rfl (pgs_cons (pg_name (i := 6) sc_smallest.nd rfl (Or.inl rfl)) (pgs_cons (pg_name (i := 7) sc_smallest.nd rfl (Or.inl rfl)) (pgs_cons (pg_name (i := 8) sc_smallest.nd rfl (Or.inl rfl)) pgs_nil))))) (fun _ _ _ _ _ => pts_nil) (fun _ _ _ _ _ => (pe_tup (pa_cons (pv 6) (pa_cons (pe_dget (hu_of (hr.mono (Nat.zero_le _))) (pv 3) (pe_ix (kix_list (K := K)) (pv 2) (pv 7) (fun _ _ => rfl)) (fun _ _ => rfl)) (pa_cons (pe_dget (hu_of (hr.mono (Nat.zero_le _))) (pv 3) (pe_ix (kix_list (K := K)) (pv 2) (pv 8) (fun _ _ => rfl)) (fun _ _ => rfl)) pa_nil)))))) pa_nil)))))))), ?_⟩
  ac_rfl
  refine ⟨a, Tb, rfl, ⟨xs, ha, hrow⟩, hv, hle, fun l f H1 e1 hx1 hC hfl hnn => ?_⟩
  have fat : ∀ j, j < Tb.length → (f.map V.int)[j]? = some (.int ((SR.numOf f j : Nat) : Int)) := fun j hj => by
    have h1 : f.getD j 0 ∈ f := SR.getD_mem (by omega)
    have h2 : ((SR.numOf f j : Nat) : Int) = f.getD j 0 := Int.toNat_of_nonneg (hnn _ h1)
    rw [h2, List.getElem?_map, List.getD_eq_getElem?_getD, List.getElem?_eq_getElem (by omega)]
    rfl
  ac_rfl
  intro d hd
  have nld : l ≠ d := ne_of_none hx1 hd
  have hd0 : H d = none := Same.free e1 hd
  ac_rfl
  intro o ho
  have nlo : l ≠ o := ne_of_none ((upd_ne nld).trans hx1) ho
  have ndo : d ≠ o := ne_of_none upd_same ho
  have ho0 : H o = none := Same.free (e1.trans (same_new hd)) ho
  have e2 : Same H (upd (upd H1 d (.dK [])) o (.lst [])) := (e1.trans (same_new hd)).trans (same_new ho)
  have hx2 : (upd (upd H1 d (.dK [])) o (.lst [])) l = some (.lst (f.map V.int)) := (upd_ne nlo).trans ((upd_ne nld).trans hx1)
  have hd2 : (upd (upd H1 d (.dK [])) o (.lst [])) d = some (.dK []) := (upd_ne ndo).trans upd_same
  have ho2 : (upd (upd H1 d (.dK [])) o (.lst [])) o = some (.lst []) := upd_same
  revert e2 hx2 hd2 ho2
  generalize upd (upd H1 d (.dK [])) o (.lst []) = H2
  intro e2 hx2 hd2 ho2
  ac_rfl
  refine ⟨a, st, Tb, rfl, ⟨xs, seqT e2 ha, hrow.mono e2⟩, hv, hst, hle, fun r L H3 e3 hr3 hR hL0 hLl => ?_⟩
  have hx3 := e3 _ _ hx2
  have hd3 := e3 _ _ hd2
  have ho3 := e3 _ _ ho2
  have nrd : r ≠ d := fun z => by rw [z, hd3] at hr3; cases hr3
  have e23 := e2.trans e3
  have nro : r ≠ o := fun z => by
    rw [z, ho3] at hr3
    cases L with
    | nil => cases hL0
    | cons y L => cases hr3
  ac_rfl
  refine for_list (K := K) (xs := L.map iv) (fun i σ H' => ∃ v5 O zs kvs, σ = [some (.ref a), some (iv st), some (.ref l), some (.ref d), some (.ref o), v5, none, none, none] ∧ Same H H' ∧ H' l = some (.lst (f.map V.int)) ∧ H' r = some (.lst (L.map iv)) ∧
      H' d = some (.dK kvs) ∧ H' o = some (.lst zs) ∧ zs.length = O.length ∧ (∀ (j x : Nat), O[j]? = some x → zs[j]? = xs[x]?) ∧ SR.OrdInv (SR.numOf f) (L.take i) O ∧ POk kvs (O.map (SR.numOf f)) ∧ (0 < i → O[0]? = some st))
    ⟨none, [], [], [], rfl, e23, hx3, hr3, hd3, ho3, rfl, fun j x h => by simp at h, SR.OrdInv.nil _, POk.nil, fun h => absurd h (Nat.lt_irrefl _)⟩ (fun i σ H' _ ⟨_, _, _, _, _, _, _, h, _⟩ => SqL.of h) ?_ ?_
  · rintro i x σ H4 hi ⟨v5, O, zs, kvs, rfl, e4, hx4, hr4, hd4, ho4, hzl, hzs, hI, hP, h0⟩
    obtain ⟨y, hy, rfl⟩ : ∃ y, L[i]? = some y ∧ iv y = x := by
      rw [List.getElem?_map] at hi
      cases e : L[i]? with
      | none => rw [e] at hi; cases hi
      | some y => rw [e] at hi; exact ⟨y, rfl, Option.some.inj hi⟩
    have hyl := hR.lt y (List.mem_of_getElem? hy)
    obtain ⟨b, hb1, hb2⟩ := row y H4 e4 hyl
    have fy := fat y hyl
    have hI2 := hI.add y
    have h02 : 0 < i + 1 → (SR.addO (SR.numOf f) O y)[0]? = some st := fun _ => by
      unfold SR.addO
      by_cases z : i = 0
      · subst z
        have hO : O = [] := by
          have := hI.len
          rw [List.take_zero] at this
          exact List.length_eq_zero_iff.mp (Nat.le_zero.mp this)
        subst hO
        rw [if_neg (by simp)]
        rw [hL0] at hy
        exact hy.symm
      · have q := h0 (by omega)
        split
        · exact q
        · rw [List.getElem?_append_left (List.getElem?_eq_some_iff.mp q).1]
          exact q
    have hOl := hI.len
    rw [List.length_take] at hOl
    have hkl : kvs.length ≤ 64 := by
      rw [hP.2, List.length_map]
      omega
    have hzl2 : zs.length ≤ 64 := by omega
    ac_rfl
    rw [hP.1 (SR.numOf f y)]
    by_cases c : SR.numOf f y ∈ O.map (SR.numOf f)
    · have eO : SR.addO (SR.numOf f) O y = O := by
        unfold SR.addO
        rw [if_pos c]
      rw [if_pos c]
      refine s_iteF' rfl ?_
      ac_rfl
      rw [eO] at hI2 h02
      exact ⟨_, O, zs, kvs, rfl, e4, hx4, hr4, hd4, ho4, hzl, hzs, by rw [take_snoc hy]; exact hI2, hP, h02⟩
    · have eO : SR.addO (SR.numOf f) O y = O ++ [y] := by
        unfold SR.addO
        rw [if_neg c]
      rw [if_neg c]
      rw [eO] at hI2 h02
      refine s_iteT' rfl ?_
      ac_rfl
      have ho5 : (upd H4 d (.dK (putK kvs (.inl ((SR.numOf f y : Nat) : Int)) (.int ((zs.length : Nat) : Int))))) o = some (.lst zs) := (upd_ne ndo.symm).trans ho4
      have e5 : Same H (upd H4 d (.dK (putK kvs (.inl ((SR.numOf f y : Nat) : Int)) (.int ((zs.length : Nat) : Int))))) := grow0 e4 hd0
      have ha5 := seqT e5 ha
      ac_rfl
      refine ⟨_, O ++ [y], zs ++ [.ref b], _, rfl, grow0 e5 ho0, (upd_ne nlo).trans ((upd_ne nld).trans hx4), (upd_ne nro).trans ((upd_ne nrd).trans hr4), (upd_ne ndo).trans upd_same, upd_same, by rw [List.length_append, List.length_append, hzl]; rfl, ?_, by rw [take_snoc hy]; exact hI2, ?_, h02⟩
      · intro j x hj
        by_cases h : j < O.length
        · rw [List.getElem?_append_left h] at hj
          rw [List.getElem?_append_left (by omega)]
          exact hzs j x hj
        · rw [List.getElem?_append_right (by omega)] at hj
          rw [List.getElem?_append_right (by omega), hzl]
          cases ej : j - O.length with
          | zero =>
            rw [ej] at hj
            cases Option.some.inj hj
            exact hb1.symm
          | succ n =>
            rw [ej] at hj
            simp at hj
      · rw [List.map_append]
        exact hP.add c (by rw [List.length_map, hzl])
  rintro σ H4 ⟨v5, O, zs, kvs, rfl, e4, hx4, hr4, hd4, ho4, hzl, hzs, hI, hP, h0⟩
  rw [List.length_map, List.take_length] at hI
  rw [List.length_map] at h0
  have hO0 := h0 (List.getElem?_eq_some_iff.mp hL0).1
  have hOl := hI.len
  ac_rfl
  intro D hD
  have hsm : (SR.smallTbl Tb (SR.numOf f) O).length = O.length := by unfold SR.smallTbl; rw [List.length_map]
  have nlD : l ≠ D := ne_of_none hx4 hD
  have ndD : d ≠ D := ne_of_none hd4 hD
  have noD : o ≠ D := ne_of_none ho4 hD
  refine lc_list (K := K) (xs := zs) (fun i H' => Same H H' ∧ H' l = some (.lst (f.map V.int)) ∧ H' d = some (.dK kvs) ∧ H' o = some (.lst zs) ∧ ∃ acc, H' D = some (.lst acc) ∧ RowsAt K H' acc ((SR.smallTbl Tb (SR.numOf f) O).take i))
    ⟨e4.trans (same_new hD), (upd_ne nlD).trans hx4, (upd_ne ndD).trans hd4, (upd_ne noD).trans ho4, [], upd_same, RowsAt.nil⟩ (fun i H' _ h => SqL.of h.2.2.2.1) ?_ ?_
  · rintro i x H5 hi ⟨e5, hx5, hd5, ho5, acc, hac, hra⟩
    have hi1 : i < O.length := by rw [← hzl]; exact (List.getElem?_eq_some_iff.mp hi).1
    have hOi : O[i]? = some (O[i]'hi1) := List.getElem?_eq_getElem hi1
    revert hOi
    generalize O[i]'hi1 = y
    intro hOi
    have hyL := hI.sub y (List.mem_of_getElem? hOi)
    have hyl := hR.lt y hyL
    obtain ⟨b, hb1, hb2⟩ := row y H5 e5 hyl
    rw [hzs i y hOi, hb1] at hi
    cases hi
    have n1 := hR.cl y hyL true
    have n2 := hR.cl y hyL false
    have f1 := fat _ (hR.lt _ n1)
    have f2 := fat _ (hR.lt _ n2)
    have p1 : valV kvs (.inl ((SR.numOf f (SR.nxt Tb y true) : Nat) : Int)) = some (.int ((SR.placeOf (SR.numOf f) O (SR.numOf f (SR.nxt Tb y true)) : Nat) : Int)) := by rw [hP.1, if_pos (hI.all _ n1)]; rfl
    have p2 : valV kvs (.inl ((SR.numOf f (SR.nxt Tb y false) : Nat) : Int)) = some (.int ((SR.placeOf (SR.numOf f) O (SR.numOf f (SR.nxt Tb y false)) : Nat) : Int)) := by rw [hP.1, if_pos (hI.all _ n2)]; rfl
    have hal : acc.length ≤ 100 := by
      rw [hra.1, List.length_take, hsm]
      omega
    ac_rfl
    intro t ht
    have ne := ne_of_none hac ht
    have nlt := ne_of_none hx5 ht
    have ndt := ne_of_none hd5 ht
    have not := ne_of_none ho5 ht
    ac_rfl
    obtain ⟨g1, g2, g3⟩ := grow (o := .tup [.str (stS (SR.stat Tb y)), .int ((SR.placeOf (SR.numOf f) O (SR.numOf f (SR.nxt Tb y true)) : Nat) : Int), .int ((SR.placeOf (SR.numOf f) O (SR.numOf f (SR.nxt Tb y false)) : Nat) : Int)]) e5 (Same.free e4 hD) hac ht (.ref t)
    refine ⟨g1, g2 _ _ nlD hx5, g2 _ _ ndD hd5, g2 _ _ noD ho5, _, upd_same, ?_⟩
    have es : (SR.smallTbl Tb (SR.numOf f) O)[i]? = some (SR.stat Tb y, SR.placeOf (SR.numOf f) O (SR.numOf f (SR.nxt Tb y true)), SR.placeOf (SR.numOf f) O (SR.numOf f (SR.nxt Tb y false))) := by
      unfold SR.smallTbl
      rw [List.getElem?_map, hOi]
      rfl
    rw [take_snoc es]
    exact (hra.but g2 hac).snoc (SqT.of g3)
  rintro H5 ⟨e5, hx5, hd5, ho5, acc, hac, hra⟩
  rw [hzl, ← hsm, List.take_length] at hra
  ac_rfl
  intro c hc
  exact q c _ _ (e5.trans (same_new hc)) ⟨acc, SqT.of upd_same, hra.mono (same_new hc)⟩ (SR.small_valid hR hI hO0) (by rw [hsm]; omega) (fun u => SR.small_beh hC hR hI hO0 u) (Same.free e5 hc)
end
end SRD
/-! Rules. -/
namespace SRD
open PySem PySem.Spec PyProof.Rows L2 SRT
abbrev aRule (K : PySem.W.Frag) : Addr := He.ga K "Rule"
def RuleAt (K : PySem.W.Frag) (H : Hp) (a : Addr) (T : SR.Tbl) : Prop := ∃ dx t, H a = some (.ins (aRule K) dx [("table", .ref t)]) ∧ TblAt K H t T
theorem RuleAt.mono {K : PySem.W.Frag} {H H' : Hp} {a : Addr} {T : SR.Tbl} (e : Same H H') (h : RuleAt K H a T) : RuleAt K H' a T := by
  obtain ⟨dx, t, h1, h2⟩ := h
  exact ⟨dx, t, e _ _ h1, h2.mono e⟩
theorem seqT_butI {K : PySem.W.Frag} {H H' : Hp} {p b C dx : Addr} {fs : List (Str × V)} {xs : List V} (e : SameBut p H H') (hp : H p = some (.ins C dx fs)) (h : SqT K H b xs) : SqT K H' b xs := by
  rcases h with (h | ⟨o, h⟩) | h
  · refine .inl (.inl (e _ _ (fun q => ?_) h))
    rw [q, hp] at h
    cases h
  · refine .inl (.inr ⟨o, e _ _ (fun q => ?_) h⟩)
    rw [q, hp] at h
    cases h
  · exact .inr h
theorem TblAt.butI {K : PySem.W.Frag} {H H' : Hp} {p a C dx : Addr} {fs : List (Str × V)} {T : SR.Tbl} (e : SameBut p H H') (hp : H p = some (.ins C dx fs)) (h : TblAt K H a T) : TblAt K H' a T := by
  obtain ⟨xs, h1, h2⟩ := h
  refine ⟨xs, seqT_butI e hp h1, h2.1, fun i x r hx hr => ?_⟩
  obtain ⟨b, e1, e2⟩ := h2.2 i x r hx hr
  exact ⟨b, e1, seqT_butI e hp e2⟩
section
variable {w : World} {K : PySem.W.Frag} {mg : Str → Option Value} {base : Heap}
abbrev N_Rule_init : List Str := ["self", "table"]
theorem sc_Rule_init : FnScope N_Rule_init ["self", "table"] (defScope s_Rule_init) := ⟨rfl, rfl, rfl, by decide +kernel, rfl, by decide +kernel, by decide +kernel⟩
def spRuleInit (K : PySem.W.Frag) : Sp := fun vs H Q _ => ∃ (a dx t : Addr) (T : SR.Tbl), vs = [.ref a, .ref t] ∧ H a = some (.ins (aRule K) dx []) ∧ TblAt K H t T ∧ SR.Valid T ∧ T.length ≤ 64 ∧
  ∀ (U : SR.Tbl) (H' : Hp), SameBut a H H' → RuleAt K H' a U → SR.Valid U → U.length ≤ T.length → (∀ u, SR.beh U 0 u = SR.beh T 0 u) → Q .non H'
theorem ok_Rule_init (T : Txt K mg) (F_is_table : FnR PP w K mg base CX0 4 (He.ga K "is_table") (spIsTable K)) (F_smallest : FnR PP w K mg base CX0 2 (He.ga K "smallest") (spSmallest K)) : FnR PP w K mg base CX0 5 (He.ma K (aRule K) "__init__") (spRuleInit K) := by
  refine defR (T.def_ 30 rfl) sc_Rule_init (fun _ _ _ _ _ _ us hl => match us, hl with | [_, _], _ => rfl) ?_ ?_
  · rintro vs H Q E ⟨a, dx, t, T, rfl, _⟩
    rfl
  rintro cdv A outer s H vs Q E hr ⟨a, dx, t, Tb, rfl, ha, ht, hv, hle, q⟩
  have c1 := T.cls 62
  have n1 := T.noat 70
  refine ⟨_, (pss_cons (ps_if (pt_not (pt_val (SRO.pe_callR F_is_table (hr.mono (by decide)) (by rfl) (T.glo 4) (T.keep 112) pass0 (pa_cons (pv 1) pa_nil)))) (pss_one ps_never) pss_nil)
      (pss_one (kps_fld (K := K) (pv 0) (SRO.pe_callR F_smallest (hr.mono (by decide)) (by rfl) (T.glo 7) (T.keep 115) pass0 (pa_cons (pv 1) (pa_cons pe_int pa_nil))) rfl))), ?_⟩
  ac_rfl
  refine ⟨t, Tb, rfl, ht, hv, hle, fun H1 e1 => ?_⟩
  ac_rfl
  refine ⟨t, 0, Tb, rfl, ht.mono e1, hv, hv.pos, hle, fun b U H2 e2 hU hv2 hl2 hb hn => ?_⟩
  have ha2 := e2 _ _ (e1 _ _ ha)
  ac_rfl
  exact q U _ ((Same.but (e1.trans e2)).trans (SameBut.upd _ _ _)) ⟨dx, b, upd_same, hU.butI (SameBut.upd _ _ _) ha2⟩ hv2 hl2 hb
abbrev N_Rule_rows : List Str := ["self"]
theorem sc_Rule_rows : FnScope N_Rule_rows ["self"] (defScope s_Rule_rows) := ⟨rfl, rfl, rfl, by decide +kernel, rfl, by decide +kernel, by decide +kernel⟩
def spRuleRows (K : PySem.W.Frag) : Sp := fun vs H Q _ => ∃ (a dx t : Addr), vs = [.ref a] ∧ H a = some (.ins (aRule K) dx [("table", .ref t)]) ∧ Q (.ref t) H
theorem ok_Rule_rows (T : Txt K mg) : FnR PP w K mg base CX0 1 (pg K (aRule K) "rows") (spRuleRows K) := by
  refine defR (T.def_ 31 rfl) sc_Rule_rows (fun _ _ _ _ _ _ us hl => match us, hl with | [_], _ => rfl) ?_ ?_
  · rintro vs H Q E ⟨a, dx, t, rfl, _⟩
    rfl
  rintro cdv A outer s H vs Q E hr ⟨a, dx, t, rfl, ha, q⟩
  have c1 := T.cls 62
  have n1 := T.noat 70
  refine ⟨_, (pss_one (ps_ret (kfld (K := K) (pv 0) rfl))), ?_⟩
  ac_rfl
  exact q
abbrev N_Rule_call : List Str := ["self", "checks"]
theorem sc_Rule_call : FnScope N_Rule_call ["self", "checks"] (defScope s_Rule_call) := ⟨rfl, rfl, rfl, by decide +kernel, rfl, by decide +kernel, by decide +kernel⟩
def spRuleCall (K : PySem.W.Frag) : Sp := fun vs H Q _ => ∃ (a : Addr) (T : SR.Tbl) (u : List Bool), vs = [.ref a, .str (ckS u)] ∧ RuleAt K H a T ∧ SR.Valid T ∧ u.length ≤ 60 ∧ ∀ H', Same H H' → Q (.str (txS (SR.trace T 0 u))) H'
theorem ok_Rule_call (T : Txt K mg) (F_check_checks : FnR PP w K mg base CX0 2 (He.ga K "check_checks") spCheckChecks) (F_statuses_of : FnR PP w K mg base CX0 1 (He.ga K "statuses_of") (spStatuses K)) : FnR PP w K mg base CX0 3 (He.ma K (aRule K) "__call__") (spRuleCall K) := by
  refine defR (T.def_ 32 rfl) sc_Rule_call (fun _ _ _ _ _ _ us hl => match us, hl with | [_, _], _ => rfl) ?_ ?_
  · rintro vs H Q E ⟨a, T, u, rfl, _⟩
    rfl
  rintro cdv A outer s H vs Q E hr ⟨a, Tb, u, rfl, ⟨dx, t, ha, ht⟩, hv, hu, q⟩
  have c1 := T.cls 62
  have n1 := T.noat 70
  refine ⟨_, (pss_cons (ps_expr (SRO.pe_callR F_check_checks (hr.mono (by decide)) (by rfl) (T.glo 11) (T.keep 119) pass0 (pa_cons (pv 1) pa_nil)))
      (pss_one (ps_ret (SRO.pe_callR F_statuses_of (hr.mono (by decide)) (by rfl) (T.glo 8) (T.keep 116) pass0 (pa_cons (kfld (K := K) (pv 0) rfl) (pa_cons (pv 1) pa_nil)))))), ?_⟩
  ac_rfl
  refine ⟨u, rfl, hu, fun H1 e1 => ?_⟩
  have ha1 := e1 _ _ ha
  ac_rfl
  exact ⟨t, Tb, u, rfl, ht.mono e1, hv, hu, fun H2 e2 => q H2 (e1.trans e2)⟩
abbrev N_made : List Str := ["rows", "start", "found"]
theorem sc_made : FnScope N_made ["rows", "start"] (defScope s_made) := ⟨rfl, rfl, rfl, by decide +kernel, rfl, by decide +kernel, by decide +kernel⟩
def spMade (K : PySem.W.Frag) : Sp := fun vs H Q _ => ∃ (t : Addr) (st : Nat) (T : SR.Tbl), vs = [.ref t, .int (st : Nat)] ∧ TblAt K H t T ∧ SR.Valid T ∧ st < T.length ∧ T.length ≤ 64 ∧
  ∀ (c : Addr) (U : SR.Tbl) (H' : Hp), Same H H' → RuleAt K H' c U → SR.Valid U → U.length ≤ T.length → (∀ u, SR.beh U 0 u = SR.beh T st u) → H c = none → Q (.ref c) H'
theorem ok_made (T : Txt K mg) (F_smallest : FnR PP w K mg base CX0 2 (He.ga K "smallest") (spSmallest K)) (F_Rule_init : FnR PP w K mg base CX0 5 (He.ma K (aRule K) "__init__") (spRuleInit K)) : FnR PP w K mg base CX0 7 (He.ga K "made") (spMade K) := by
  refine defR (T.def_ 14 rfl) sc_made (fun _ _ _ _ _ _ us hl => match us, hl with | [_, _], _ => rfl) ?_ ?_
  · rintro vs H Q E ⟨t, st, T, rfl, _⟩
    rfl
  rintro cdv A outer s H vs Q E hr ⟨t, st, Tb, rfl, ht, hv, hst, hle, q⟩
  refine ⟨_, (pss_cons (ps_set (i := 2) sc_made.nd rfl (Or.inl rfl) (SRO.pe_callR F_smallest (hr.mono (by decide)) (by rfl) (T.glo 7) (T.keep 115) pass0 (pa_cons (pv 0) (pa_cons (pv 1) pa_nil))))
      (pss_cons (ps_if (pt_cmpR op_gt (pe_callB (klen (K := K)) (by rfl) (T.free 42) boot_len (pa_cons (pv 2) pa_nil)) (C8.pe_gc (by rfl) (T.int 53)) (nomark _)) (pss_one ps_never) pss_nil)
      (pss_one (ps_ret (StX.pe_makeR (T.mkr 66) F_Rule_init (hr.mono (by decide)) (by rfl) (T.glo 30) pass0 (pa_cons (pv 2) pa_nil)))))), ?_⟩
  ac_rfl
  refine ⟨t, st, Tb, rfl, ht, hv, hst, hle, fun b U H1 e1 hU hvU hlU hbU hn => ?_⟩
  obtain ⟨ys, hys, hyr⟩ := id hU
  have hyl := hyr.1
  ac_rfl
  refine s_iteF' (decide_eq_false (by omega)) ?_
  ac_rfl
  intro x dx hx hdx hne
  have e2 : Same H1 (upd (upd H1 dx (.own x)) x (.ins (aRule K) dx [])) := (same_new hdx).trans (same_new (by rw [upd_ne hne.symm]; exact hx))
  refine ⟨x, dx, b, U, rfl, upd_same, hU.mono e2, hvU, by omega, fun W H2 e3 hW hvW hlW hbW => ⟨rfl, ?_⟩⟩
  have e4 : Same H H2 := fun c o hc => by
    have nc : c ≠ x := fun z => by
      have := e1 _ _ hc
      rw [z, hx] at this
      cases this
    exact e3 _ _ nc (e2 _ _ (e1 _ _ hc))
  exact q x W H2 e4 hW hvW (by omega) (fun u => (hbW u).trans (hbU u)) (Same.free e1 hx)
abbrev N_Rule_and : List Str := ["self", "other"]
theorem sc_Rule_and : FnScope N_Rule_and ["self", "other"] (defScope s_Rule_and) := ⟨rfl, rfl, rfl, by decide +kernel, rfl, by decide +kernel, by decide +kernel⟩
def spRuleAnd (K : PySem.W.Frag) : Sp := fun vs H Q _ => ∃ (a b : Addr) (A B : SR.Tbl), vs = [.ref a, .ref b] ∧ RuleAt K H a A ∧ RuleAt K H b B ∧ SR.Valid A ∧ SR.Valid B ∧ A.length ≤ 4 ∧ B.length ≤ 4 ∧
  ∀ (c : Addr) (U : SR.Tbl) (H' : Hp), Same H H' → RuleAt K H' c U → SR.Valid U → U.length ≤ 16 → (∀ u, SR.beh U 0 u = (SR.beh A 0 u && SR.beh B 0 u)) → H c = none → Q (.ref c) H'
theorem ok_Rule_and (T : Txt K mg) (F_check_rule : FnR PP w K mg base CX0 1 (He.ga K "check_rule") (spCheckRule K)) (F_joined : FnR PP w K mg base CX0 1 (He.ga K "joined") (spJoined K)) (F_made : FnR PP w K mg base CX0 7 (He.ga K "made") (spMade K)) :
    FnR PP w K mg base CX0 8 (He.ma K (aRule K) "__and__") (spRuleAnd K) := by
  refine defR (T.def_ 34 rfl) sc_Rule_and (fun _ _ _ _ _ _ us hl => match us, hl with | [_, _], _ => rfl) ?_ ?_
  · rintro vs H Q E ⟨a, b, A, B, rfl, _⟩
    rfl
  rintro cdv Ar outer s H vs Q E hr ⟨a, b, A, B, rfl, ⟨dx, t, ha, ht⟩, ⟨dy, u, hb, hu⟩, hvA, hvB, lA, lB, q⟩
  have c1 := T.cls 62
  have n1 := T.noat 70
  refine ⟨_, (pss_cons (ps_expr (SRO.pe_callR F_check_rule (hr.mono (by decide)) (by rfl) (T.glo 13) (T.keep 121) pass0 (pa_cons (pv 1) pa_nil)))
      (pss_one (ps_ret (SRO.pe_callR F_made (hr.mono (by decide)) (by rfl) (T.glo 14) (T.keep 122) pass0 (pa_cons (SRO.pe_callR F_joined (hr.mono (by decide)) (by rfl) (T.glo 10) (T.keep 118) pass0 (pa_cons (kfld (K := K) (pv 0) rfl) (pa_cons (kfld (K := K) (pv 1) rfl) (pa_cons pe_bl pa_nil)))) (pa_cons pe_int pa_nil)))))), ?_⟩
  ac_rfl
  refine ⟨b, dy, _, rfl, hb, ?_⟩
  ac_rfl
  refine ⟨t, u, A, B, rfl, ht, hu, by omega, by omega, fun r hr => ?_, fun j H1 e1 hj => ?_⟩
  · have := hvA.rows r hr
    omega
  ac_rfl
  have hle : A.length * B.length ≤ 4 * 4 := Nat.mul_le_mul lA lB
  have hvJ := SR.join_valid hvA hvB
  refine ⟨j, 0, _, rfl, hj, hvJ, hvJ.pos, by rw [SR.joinTbl_length]; omega, fun c U H2 e2 hU hvU hlU hbU hn => ?_⟩
  rw [SR.joinTbl_length] at hlU
  refine q c U H2 (e1.trans e2) hU hvU (by omega) (fun w => ?_) (Same.free e1 hn)
  have := SR.join_beh hvA hvB w 0 0 hvA.pos hvB.pos
  rw [Nat.zero_mul] at this
  rw [hbU w, this]
end
end SRD
/-! Own rules, sixth part: a dict display with one key that is a tuple. -/
namespace SRO
open PySem PySem.Spec PyProof.Rows L2
/-- {k: v}, k a tuple -/
def tDispT (tk tv : TE) : TE := fun σ H Q => ∀ p, H p = none → tPairs [(tk, tv)] σ (upd H p (.dT [])) fun ps H2 => ∃ b ks y, ps = [(.ref b, y)] ∧ H2 p = some (.dT []) ∧ H2 b = some (.tup (ks.map kV)) ∧ Q (.ref p) (upd H2 p (.dT [(ks, y)]))
theorem pe_dispT {X : Cx} {k v : Expr} {pos : Pos} {tk tv : TE} (hu : X.A.units + 1 < cLine) (hk : PE X k tk) (hv : PE X v tv) : PE X (.Dict [some k] [v] pos) (tDispT tk tv) := by
  refine ⟨fun pins s σ H Q I q => ?_⟩
  have hn := I.hok.fresh (Nat.le_refl s.heap.objs.size)
  have I1 := I.laid (a := s.heap.objs.size) (o := .dT []) (h' := s.heap.push { cls := .type "dict", data := .dict #[] }) (t' := s.toks) (fun _ _ q => Heap.get?_push_of_some _ q) (Nat.le_refl _) (dt_empty s.heap I.big)
  rw [arm_eval_Dict, zip_pairTrees [some k] [v] X.env pos rfl rfl, dictDisplay_pairs _ (by simp [pairTrees]) (by simp [pairTrees])]
  refine wpAny_bind (wpAny_standAt (wpAny_bind (wpAny_subDictH (knd := tupleKind (mixKind X.prog X.w)) (Q := fun d s' => wpAny (model X.prog X.w) X.A (pure (Value.ref d)) (EP X pins σ Q) X.xe s') (Nat.lt_of_succ_lt hu) (by simp [pairTrees]) ?_)))
  refine thn ((pps_cons hk hv pps_nil).run pins _ σ _ _ I1 (q _ hn)) fun ws s2 ⟨ps, H2, I2, rel, b, ks, y, ep, e, eb, q2⟩ => ?_
  subst ep
  obtain ⟨⟨u1, u2⟩, rest, rfl⟩ : ∃ w r, ws = w :: r := by
    cases rel with
    | cons h t => exact ⟨_, _, rfl⟩
  cases rel with
  | cons h t =>
    cases t
    obtain ⟨r1, r2⟩ := h
    cases (show u1 = Value.ref b from r1)
    obtain ⟨z, hd, xs, r0, dd⟩ := dt_of I2.hok e
    cases r0
    refine ⟨[(ks, b, u2)], ⟨rfl, rfl, key_of I2.hok eb, trivial⟩, dd, fun h' tk' dd' hs => wpAny_pure ⟨.ref s.heap.objs.size, _, ?_, rfl, q2⟩⟩
    obtain ⟨o, es, ep, hq, h2, h3, h4, _, h5⟩ := dd'
    refine d_write I2 (by rw [e]; exact True.intro) hs ⟨o, hq⟩ ⟨by rw [sizeLine_eq]; simp, hd, [(ks, b, u2)], .cons ⟨rfl, ?_, r2⟩ .nil, o, es, ep, hq, h2, h3, h4, h5⟩
    rw [upd_ne (ne_of eb e (fun z => nomatch z))]
    exact eb
end SRO
/-! The first checks that tell two tables apart: there are none. -/
namespace SRD
open PySem PySem.Spec PyProof.Rows L2 SRT
theorem lay_all : ∀ {ds : List PyData} {n : Nat}, (∀ d ∈ ds, d.canLay0 = true ∧ d.depth ≤ n) → PyData.canLayAll0 ds = true ∧ PyData.depthAll ds ≤ n
  | [], n, _ => ⟨by simp [PyData.canLayAll0], by simp [PyData.depthAll]⟩
  | d :: ds, n, h => by
    obtain ⟨h1, h2⟩ := h d (List.mem_cons_self ..)
    obtain ⟨h3, h4⟩ := lay_all (ds := ds) (n := n) fun e he => h e (List.mem_cons_of_mem _ he)
    refine ⟨?_, ?_⟩
    · simp only [PyData.canLayAll0, h1, h3, Bool.and_self]
    · simp only [PyData.depthAll]
      omega
theorem shaped_list {ds : List PyData} {n : Nat} (hn : n ≤ 60) (h : ∀ d ∈ ds, d.canLay0 = true ∧ d.depth ≤ n) : SeqAt.shaped (.list ds) = true := by
  obtain ⟨h1, h2⟩ := lay_all h
  unfold SeqAt.shaped
  rw [Bool.and_eq_true]
  refine ⟨by simpa only [PyData.canLay0] using h1, decide_eq_true ?_⟩
  simp only [PyData.depth]
  omega
theorem shaped_tuple {ds : List PyData} {n : Nat} (hn : n ≤ 60) (h : ∀ d ∈ ds, d.canLay0 = true ∧ d.depth ≤ n) : SeqAt.shaped (.tuple ds) = true := by
  obtain ⟨h1, h2⟩ := lay_all h
  unfold SeqAt.shaped
  rw [Bool.and_eq_true]
  refine ⟨by simpa only [PyData.canLay0] using h1, decide_eq_true ?_⟩
  simp only [PyData.depth]
  omega
theorem dp_all {K : PySem.W.Frag} {H : Hp} {n : Nat} : ∀ {zs : List V}, (∀ x ∈ zs, ∃ d, Dp K H x d ∧ d.canLay0 = true ∧ d.depth ≤ n) → ∃ ds, DpAll K H zs ds ∧ ds.length = zs.length ∧ ∀ d ∈ ds, d.canLay0 = true ∧ d.depth ≤ n
  | [], _ => ⟨[], .nil, rfl, fun _ h => by simp at h⟩
  | x :: zs, h => by
    obtain ⟨d, h1, h2, h3⟩ := h x (List.mem_cons_self ..)
    obtain ⟨ds, g1, g2, g3⟩ := dp_all (zs := zs) fun y hy => h y (List.mem_cons_of_mem _ hy)
    refine ⟨d :: ds, .cons h1 g1, by rw [List.length_cons, List.length_cons, g2], fun e he => ?_⟩
    rcases List.mem_cons.mp he with rfl | q
    · exact ⟨h2, h3⟩
    · exact g3 e q
/-- a text that can be laid -/
theorem strOk_ck {c : Str} (h : PyData.strOk c = true) (b : Bool) : PyData.strOk (c ++ (⟨#[ckC b]⟩ : Str)) = true := by
  show (c.cps ++ #[ckC b]).all (· < 0x110000) = true
  rw [Array.all_append]
  have h : c.cps.all (· < 0x110000) = true := h
  rw [h]
  cases b <;> decide +kernel
/-- a level: texts and the rows that they lead to -/
def LvAt (K : PySem.W.Frag) (H : Hp) (A B : SR.Tbl) (N : Nat) (zs : List V) : Prop := ∀ x ∈ zs, ∃ (t : Addr) (c : Str) (p g : Nat) (u : List Bool), x = .ref t ∧ SqT K H t [.str c, iv p, iv g] ∧ PyData.strOk c = true ∧ SR.go A 0 u = p ∧ SR.go B 0 u = g ∧ c.length + 1 ≤ N
section
variable {K : PySem.W.Frag} {H H' : Hp} {A B : SR.Tbl} {N : Nat} {zs : List V}
theorem LvAt.mono (h : LvAt K H A B N zs) (e : Same H H') : LvAt K H' A B N zs := fun x hx => by
  obtain ⟨t, c, p, g, u, h1, h2, h3⟩ := h x hx
  exact ⟨t, c, p, g, u, h1, seqT e h2, h3⟩
theorem LvAt.butE {d : Addr} {kvs : List (List Key × V)} (h : LvAt K H A B N zs) (e : SameBut d H H') (hd : H d = some (.dT kvs)) : LvAt K H' A B N zs := fun x hx => by
  obtain ⟨t, c, p, g, u, h1, h2, h3⟩ := h x hx
  exact ⟨t, c, p, g, u, h1, seqT_butE e hd h2, h3⟩
theorem LvAt.butL {d : Addr} {l : List V} (h : LvAt K H A B N zs) (e : SameBut d H H') (hd : H d = some (.lst l)) : LvAt K H' A B N zs := fun x hx => by
  obtain ⟨t, c, p, g, u, h1, h2, h3⟩ := h x hx
  exact ⟨t, c, p, g, u, h1, seqT_but e hd h2, h3⟩
theorem LvAt.le {M : Nat} (h : LvAt K H A B N zs) (l : N ≤ M) : LvAt K H A B M zs := fun x hx => by
  obtain ⟨t, c, p, g, u, h1, h2, h3, h4, h5, h6⟩ := h x hx
  exact ⟨t, c, p, g, u, h1, h2, h3, h4, h5, by omega⟩
theorem LvAt.snoc {t : Addr} {c : Str} {p g : Nat} (h : LvAt K H A B N zs) (ht : SqT K H t [.str c, iv p, iv g]) (hs : PyData.strOk c = true) (u : List Bool) (hp : SR.go A 0 u = p) (hg : SR.go B 0 u = g) (hl : c.length + 1 ≤ N) : LvAt K H A B N (zs ++ [.ref t]) := fun x hx => by
  rcases List.mem_append.mp hx with q | q
  · exact h x q
  · exact ⟨t, c, p, g, u, List.mem_singleton.mp q, ht, hs, hp, hg, hl⟩
end
def pT (k : Nat × Nat) : List Key := [.inl (k.1 : Int), .inl (k.2 : Int)]
theorem pT_inj {a b : Nat × Nat} (h : pT a = pT b) : a = b := by
  obtain ⟨a1, a2⟩ := a
  obtain ⟨b1, b2⟩ := b
  simp only [pT, List.cons.injEq, Sum.inl.injEq, and_true] at h
  obtain ⟨h1, h2⟩ := h
  rw [Int.ofNat_inj.mp h1, Int.ofNat_inj.mp h2]
/-- the pairs seen -/
structure PrOk (A B : SR.Tbl) (kvs : List (List Key × V)) (P : List (Nat × Nat)) : Prop where
  hat : ∀ k : Nat × Nat, (valV kvs (pT k)).isSome = decide (k ∈ P)
  n : kvs.length = P.length
  nd : P.Nodup
  lt : ∀ k ∈ P, k.1 < A.length ∧ k.2 < B.length
theorem PrOk.len {A B : SR.Tbl} {kvs : List (List Key × V)} {P : List (Nat × Nat)} (h : PrOk A B kvs P) : P.length ≤ A.length * B.length := by
  have := SR.nodup_sub_len (m := (List.range A.length).flatMap fun i => (List.range B.length).map fun j => (i, j)) h.nd fun k hk => by
    obtain ⟨h1, h2⟩ := h.lt k hk
    exact List.mem_flatMap.mpr ⟨k.1, List.mem_range.mpr h1, List.mem_map.mpr ⟨k.2, List.mem_range.mpr h2, rfl⟩⟩
  have e : ((List.range A.length).flatMap fun i => (List.range B.length).map fun j => (i, j)).length = A.length * B.length := by
    rw [List.length_flatMap]
    simp only [List.length_map, List.length_range, List.map_const', List.sum_replicate_nat]
  omega
theorem PrOk.add {A B : SR.Tbl} {kvs : List (List Key × V)} {P : List (Nat × Nat)} {k : Nat × Nat} {v : V} (h : PrOk A B kvs P) (hk : k ∉ P) (h1 : k.1 < A.length) (h2 : k.2 < B.length) : PrOk A B (putK kvs (pT k) v) (P ++ [k]) := by
  have hn : valV kvs (pT k) = none := by
    have := h.hat k
    rw [decide_eq_false hk] at this
    cases e : valV kvs (pT k) with
    | none => rfl
    | some u => rw [e] at this; cases this
  refine ⟨fun j => ?_, ?_, ?_, fun j hj => ?_⟩
  · rw [valV_put]
    by_cases e : j = k
    · subst e
      simp
    · rw [if_neg (fun q => e (pT_inj q)), h.hat j]
      simp [e]
  · rw [putK_new _ hn, List.length_append, List.length_append, h.n]
    rfl
  · refine List.nodup_append.mpr ⟨h.nd, by simp, fun a ha b hb => ?_⟩
    rw [List.mem_singleton.mp hb]
    intro q
    exact hk (q ▸ ha)
  · rcases List.mem_append.mp hj with q | q
    · exact h.lt j q
    · rw [List.mem_singleton.mp q]
      exact ⟨h1, h2⟩
section
variable {w : World} {K : PySem.W.Frag} {mg : Str → Option Value} {base : Heap}
abbrev N_first_checks : List Str := ["one", "other", "is_above", "level", "known", "later", "checks", "mine", "its", "side", "check", "pair"]
theorem sc_first_checks : FnScope N_first_checks ["one", "other", "is_above"] (defScope s_first_checks) := ⟨rfl, rfl, rfl, by decide +kernel, rfl, by decide +kernel, by decide +kernel⟩
def spFirst (K : PySem.W.Frag) : Sp := fun vs H Q _ => ∃ (a b : Addr) (A B : SR.Tbl), vs = [.ref a, .ref b, .bl true] ∧ TblAt K H a A ∧ TblAt K H b B ∧ SR.Valid A ∧ SR.Valid B ∧ A.length ≤ 16 ∧ B.length ≤ 16 ∧
  (∀ u, SR.beh A 0 u = true → SR.beh B 0 u = true) ∧ ∀ H', Same H H' → Q .non H'
theorem ok_first_checks (T : Txt K mg) : FnR PP w K mg base CX0 1 (He.ga K "first_checks") (spFirst K) := by
  refine defR (T.def_ 9 rfl) sc_first_checks (fun _ _ _ _ _ _ us hl => match us, hl with | [_, _, _], _ => rfl) ?_ ?_
  · rintro vs H Q E ⟨a, b, A, B, rfl, _⟩
    rfl
  rintro cdv Ar outer s H vs Q E hr ⟨a, b, A, B, rfl, ⟨xa, ha, hxa⟩, ⟨xb, hb, hxb⟩, hvA, hvB, lA, lB, himp, q⟩
  have hsz : A.length * B.length ≤ 256 := Nat.mul_le_mul lA lB
  have row : ∀ (C : SR.Tbl) (xs : List V), RowsAt K H xs C → ∀ (g : Nat) (H1 : Hp), Same H H1 → g < C.length → ∃ b, atI xs (g : Nat) = some (.ref b) ∧ SqT K H1 b [.str (stS (SR.stat C g)), .int ((SR.nxt C g true : Nat) : Int), .int ((SR.nxt C g false : Nat) : Int)] := fun C xs hrow g H1 e hg => by
    obtain ⟨b, h1, h2⟩ := (hrow.mono e).get hg
    exact ⟨b, atI_nat h1, h2⟩
  have hsb := He.ba (show (tupAt K (He.ga K "SIDES") [.ref (sideAt K 0), .ref (sideAt K 1)] && (tupAt K (sideAt K 0) [.int 1, .str "+"] && tupAt K (sideAt K 1) [.int 2, .str "-"])) = true from T.x 9)
  have hsides := tupAt_ok hsb.1
  have hside0 := tupAt_ok (He.ba hsb.2).1
  have hside1 := tupAt_ok (He.ba hsb.2).2
  refine ⟨_, (pss_cons (ps_set (i := 3) sc_first_checks.nd rfl (Or.inl rfl) (pe_lst (pa_cons (pe_tup (pa_cons pe_str (pa_cons pe_int (pa_cons pe_int pa_nil)))) pa_nil)))
      (pss_cons (ps_set (i := 4) sc_first_checks.nd rfl (Or.inl rfl) (SRO.pe_dispT (hu_of (hr.mono (Nat.zero_le _))) (pe_tup (pa_cons pe_int (pa_cons pe_int pa_nil))) pe_bl))
      (pss_cons (ps_while PassesOwn.never (pt_cmpR (kneD (K := K) (hr.mono (Nat.zero_le _)).units) (pv 3) (pe_lst pa_nil) (nomark _)) (pss_cons (ps_set (i := 5) sc_first_checks.nd rfl (Or.inl rfl) (pe_lst pa_nil))
      (pss_cons (ps_for PassesOwn.never rfl (kpi_list (K := K) (pv 3)) (kg_tup (K := K) (n := 3) rfl (pgs_cons (pg_name (i := 6) sc_first_checks.nd rfl (Or.inl rfl)) (pgs_cons (pg_name (i := 7) sc_first_checks.nd rfl (Or.inl rfl)) (pgs_cons (pg_name (i := 8) sc_first_checks.nd rfl (Or.inl rfl)) pgs_nil)))) (pss_cons (ps_if ((pw_and (pt_cmpR op_ne (pe_ix (kix_tup (K := K)) (pe_ix (kix_tup (K := K)) (pv 0) (pv 7) (fun _ _ => rfl)) pe_int (fun _ _ => rfl)) (pe_ix (kix_tup (K := K)) (pe_ix (kix_tup (K := K)) (pv 1) (pv 8) (fun _ _ => rfl)) pe_int (fun _ _ => rfl)) (nomark _)) (pw_and1 ((pw_or (pt_cmpR op_eq (pe_ix (kix_tup (K := K)) (pe_ix (kix_tup (K := K)) (pv 0) (pv 7) (fun _ _ => rfl)) pe_int (fun _ _ => rfl)) (C8.pe_gc (by rfl) (T.str 57)) (nomark _)) (pw_or1 (pt_not (pt_val (pv 2)))))).pt))).pt (pss_one (ps_ret (pv 6))) pss_nil)
      (pss_one (ps_for PassesOwn.never rfl (kpi_tup (K := K) (pe_glob (v := .ref (He.ga K "SIDES")) (by rfl) (T.glo 36) rfl)) (kg_tup (K := K) (n := 2) rfl (pgs_cons (pg_name (i := 9) sc_first_checks.nd rfl (Or.inl rfl)) (pgs_cons (pg_name (i := 10) sc_first_checks.nd rfl (Or.inl rfl)) pgs_nil))) (pss_cons (ps_set (i := 11) sc_first_checks.nd rfl (Or.inl rfl) (pe_tup (pa_cons (pe_ix (kix_tup (K := K)) (pe_ix (kix_tup (K := K)) (pv 0) (pv 7) (fun _ _ => rfl)) (pv 9) (fun _ _ => rfl)) (pa_cons (pe_ix (kix_tup (K := K)) (pe_ix (kix_tup (K := K)) (pv 1) (pv 8) (fun _ _ => rfl)) (pv 9) (fun _ _ => rfl)) pa_nil))))
      (pss_one (ps_if (pt_cmp (pc_dnotin (hu_of (hr.mono (Nat.zero_le _))) (pv 11) (pv 4))) (pss_cons (ps_dput (hu_of (hr.mono (Nat.zero_le _))) (pv 4) (pv 11) pe_bl rfl)
      (pss_one (ps_expr (kbm (K := K) PySem.F.plainAttrs_list PySem.F.slot_list_append PySem.F.type_list_append mt_append (pv 5) (pa_cons (pe_tup (pa_cons (pe_op op_add_str (pv 6) (pv 10)) (pa_cons (pe_ix (kix_tup (K := K)) (pv 11) pe_int (fun _ _ => rfl)) (pa_cons (pe_ix (kix_tup (K := K)) (pv 11) pe_int (fun _ _ => rfl)) pa_nil)))) pa_nil))))) pss_nil)))))))
      (pss_one (ps_set (i := 3) sc_first_checks.nd rfl (Or.inl rfl) (pv 5))))))
      (pss_one (ps_ret pe_non))))), ?_⟩
  ac_rfl
  intro t0 ht0
  ac_rfl
  intro lv hlv
  have nt0 := ne_of_none (b := lv) (upd_same (H := H) (a := t0) (o := .tup [.str "", .int 0, .int 0])) hlv
  ac_rfl
  intro d hd
  refine s_tup ?_
  ac_rfl
  intro t1 ht1
  refine s_C ?_
  have ndt1 : d ≠ t1 := ne_of_none upd_same ht1
  have hd1 : (upd (upd (upd (upd H t0 (.tup [.str "", .int 0, .int 0])) lv (.lst [.ref t0])) d (.dT [])) t1 (.tup [.int 0, .int 0])) d = some (.dT []) := (upd_ne ndt1).trans upd_same
  refine ⟨t1, pT (0, 0), _, rfl, hd1, upd_same, ?_⟩
  have e1 : Same H (upd (upd H t0 (.tup [.str "", .int 0, .int 0])) lv (.lst [.ref t0])) := (same_new ht0).trans (same_new hlv)
  have hd0 : H d = none := Same.free e1 hd
  have hlv0 : H lv = none := Same.free (same_new ht0) hlv
  have e2 : Same H (upd (upd (upd (upd H t0 (.tup [.str "", .int 0, .int 0])) lv (.lst [.ref t0])) d (.dT [])) t1 (.tup [.int 0, .int 0])) := (e1.trans (same_new hd)).trans (same_new ht1)
  have e3 : Same H (upd (upd (upd (upd (upd H t0 (.tup [.str "", .int 0, .int 0])) lv (.lst [.ref t0])) d (.dT [])) t1 (.tup [.int 0, .int 0])) d (.dT [(pT (0, 0), .bl true)])) := grow0 e2 hd0
  have nvd : lv ≠ d := ne_of_none upd_same hd
  have ntd : t0 ≠ d := ne_of_none ((upd_ne nt0).trans upd_same) hd
  have hlv1 : (upd (upd (upd (upd H t0 (.tup [.str "", .int 0, .int 0])) lv (.lst [.ref t0])) d (.dT [])) t1 (.tup [.int 0, .int 0])) lv = some (.lst [.ref t0]) := (same_new ht1) _ _ ((upd_ne nvd).trans upd_same)
  have ht01 : (upd (upd (upd (upd H t0 (.tup [.str "", .int 0, .int 0])) lv (.lst [.ref t0])) d (.dT [])) t1 (.tup [.int 0, .int 0])) t0 = some (.tup [.str "", .int 0, .int 0]) := (same_new ht1) _ _ ((upd_ne ntd).trans ((upd_ne nt0).trans upd_same))
  have hlv2 := (upd_ne (o := .dT [(pT (0, 0), .bl true)]) nvd).trans hlv1
  have ht02 := (upd_ne (o := .dT [(pT (0, 0), .bl true)]) ntd).trans ht01
  have hd2 : (upd (upd (upd (upd (upd H t0 (.tup [.str "", .int 0, .int 0])) lv (.lst [.ref t0])) d (.dT [])) t1 (.tup [.int 0, .int 0])) d (.dT [(pT (0, 0), .bl true)])) d = some (.dT [(pT (0, 0), .bl true)]) := upd_same
  revert e3 hlv2 ht02 hd2
  generalize upd (upd (upd (upd (upd H t0 (.tup [.str "", .int 0, .int 0])) lv (.lst [.ref t0])) d (.dT [])) t1 (.tup [.int 0, .int 0])) d (.dT [(pT (0, 0), .bl true)]) = H3
  intro e3 hlv2 ht02 hd2
  have hP0 : PrOk A B [(pT (0, 0), .bl true)] [(0, 0)] := by
    refine ⟨fun k => ?_, rfl, by simp, fun k hk => ?_⟩
    · by_cases e : k = (0, 0)
      · subst e
        rw [valV_pos rfl]
        simp
      · rw [valV_neg (fun q => e (pT_inj q).symm), valV_nil]
        simp [e]
    · rw [List.mem_singleton.mp hk]
      exact ⟨hvA.pos, hvB.pos⟩
  have hL0 : LvAt K H3 A B 1 [.ref t0] := fun x hx => ⟨t0, _, 0, 0, [], List.mem_singleton.mp hx, SqT.of ht02, by decide +kernel, rfl, rfl, by decide⟩
  ac_rfl
  refine s_while (fun m σ H' => ∃ lv v5 v6 v7 v8 v9 v10 v11 P zs kvs, σ = [some (.ref a), some (.ref b), some (.bl true), some (.ref lv), some (.ref d), v5, v6, v7, v8, v9, v10, v11] ∧ Same H H' ∧ H' lv = some (.lst zs) ∧ LvAt K H' A B P.length zs ∧
      H' d = some (.dT kvs) ∧ PrOk A B kvs P ∧ zs.length ≤ 256 ∧ m = 2 * (256 - P.length) + (if zs = [] then 0 else 1))
    ⟨_, lv, none, none, none, none, none, none, none, [(0, 0)], [.ref t0], _, rfl, e3, hlv2, hL0, hd2, hP0, by simp, rfl⟩ ?_
  clear hL0 hlv2 ht02 hlv1 ht01 e2 e1 hd1 hlv0 nvd ntd
  rintro m σ H1 ⟨lv, v5, v6, v7, v8, v9, v10, v11, P0, zs, kvs0, rfl, e1, hlv1, hzs1, hd1, hP1, hzl, rfl⟩
  ac_rfl
  intro em hem
  obtain ⟨ds, hds1, hds2, hds3⟩ := dp_all (K := K) (H := upd H1 em (.lst [])) (n := 1) (zs := zs) (fun x hx => by
    obtain ⟨t, c, p, g, u, rfl, ht, hc, _⟩ := (hzs1.mono (same_new hem)) x hx
    refine ⟨.tuple [.str c, .int (p : Nat), .int (g : Nat)], .tup ht (.cons (.str _) (.cons (.int _) (.cons (.int _) .nil))), ?_, ?_⟩
    · simp [PyData.canLay0, PyData.canLayAll0, hc]
    · simp [PyData.depth, PyData.depthAll])
  have hlv1' := same_new (o := .lst []) hem _ _ hlv1
  refine ⟨.list ds, .list [], .lst (SqL.of hlv1') hds1, .lst (SqL.of upd_same) .nil, shaped_list (n := 1) (by decide) hds3, by decide, ?_⟩
  ac_rfl
  refine s_ite (fun ct => ?_) (fun ct => ?_)
  · have hne : zs ≠ [] := fun z => by
      subst z
      have : ds = [] := List.length_eq_zero_iff.mp hds2
      subst this
      simp [PyData.eqv, PyData.eqvAll] at ct
    refine ⟨_, fun _ _ h => h, ?_⟩
    have hlN : P0.length ≤ 256 := Nat.le_trans hP1.len hsz
    ac_rfl
    intro lt hlt
    have e2 : Same H (upd (upd H1 em (.lst [])) lt (.lst [])) := (e1.trans (same_new hem)).trans (same_new hlt)
    have hlt0 : H lt = none := Same.free (e1.trans (same_new hem)) hlt
    have nvlt : lv ≠ lt := ne_of_none hlv1' hlt
    have hlv2 := same_new (o := .lst []) hlt _ _ hlv1'
    have hd2 := same_new (o := .lst []) hlt _ _ (same_new (o := .lst []) hem _ _ hd1)
    have hzs2 := (hzs1.mono (same_new (o := .lst []) hem)).mono (same_new (o := .lst []) hlt)
    have hlt2 : (upd (upd H1 em (.lst [])) lt (.lst [])) lt = some (.lst []) := upd_same
    revert e2 hlv2 hd2 hzs2 hlt2
    generalize upd (upd H1 em (.lst [])) lt (.lst []) = H2
    intro e2 hlv2 hd2 hzs2 hlt2
    generalize hN0 : P0.length = N at *
    ac_rfl
    refine for_list (K := K) (xs := zs) (fun i σ H' => ∃ v6 v7 v8 v9 v10 v11 P ws kvs, σ = [some (.ref a), some (.ref b), some (.bl true), some (.ref lv), some (.ref d), some (.ref lt), v6, v7, v8, v9, v10, v11] ∧ Same H H' ∧ H' lv = some (.lst zs) ∧ LvAt K H' A B N zs ∧
      H' d = some (.dT kvs) ∧ PrOk A B kvs P ∧ N ≤ P.length ∧ H' lt = some (.lst ws) ∧ LvAt K H' A B P.length ws ∧ ws.length + N = P.length)
      ⟨_, _, _, _, _, _, P0, [], kvs0, rfl, e2, hlv2, hzs2, hd2, hP1, by omega, hlt2, fun _ h => by simp at h, by simp [hN0]⟩ (fun i σ H' _ ⟨_, _, _, _, _, _, _, _, _, _, _, h, _⟩ => SqL.of h) ?_ ?_
    · rintro i x σ H4 hi ⟨v6, v7, v8, v9, v10, v11, P, ws, kvs, rfl, e4, hlv4, hzs4, hd4, hP, hN, hlt4, hws, hwl⟩
      obtain ⟨t, c, p, g, uu, rfl, ht4, hcs, hp, hg, hcN⟩ := hzs4 x (List.mem_of_getElem? hi)
      have hpl : p < A.length := by rw [← hp]; exact hvA.go uu hvA.pos
      have hgl : g < B.length := by rw [← hg]; exact hvB.go uu hvB.pos
      obtain ⟨rA, hrA1, hrA2⟩ := row A xa hxa p H4 e4 hpl
      obtain ⟨rB, hrB1, hrB2⟩ := row B xb hxb g H4 e4 hgl
      have ha4 := seqT e4 ha
      have hb4 := seqT e4 hb
      have hst : SR.stat A p = true → SR.stat B g = true := fun h => by
        have := himp uu
        unfold SR.beh at this
        rw [hp, hg] at this
        exact this h
      ac_rfl
      refine s_ite (fun cs => ?_) (fun cs => ?_)
      · have hsA : SR.stat A p = false := by
          cases h : SR.stat A p with
          | false => rfl
          | true =>
            rw [h, hst h] at cs
            simp at cs
        ac_rfl
        rw [hsA, show decide (V.str (stS false) = V.str "U") = false by decide +kernel]
        have hsd4 := hsides H4
        ac_rfl
        refine for_tup (K := K) (xs := [.ref (sideAt K 0), .ref (sideAt K 1)]) (fun k σ H' => ∃ v9 v10 v11 P ws kvs, σ = [some (.ref a), some (.ref b), some (.bl true), some (.ref lv), some (.ref d), some (.ref lt), some (.str c), some (iv p), some (iv g), v9, v10, v11] ∧ Same H H' ∧ H' lv = some (.lst zs) ∧ LvAt K H' A B N zs ∧
            H' d = some (.dT kvs) ∧ PrOk A B kvs P ∧ N ≤ P.length ∧ H' lt = some (.lst ws) ∧ LvAt K H' A B P.length ws ∧ ws.length + N = P.length)
          ⟨_, _, _, P, ws, kvs, rfl, e4, hlv4, hzs4, hd4, hP, hN, hlt4, hws, hwl⟩ (fun k σ H' _ _ => hsides H') ?_ ?_
        · rintro k y σ H5 hk ⟨v9, v10, v11, P5, ws5, kvs5, rfl, e5, hlv5, hzs5, hd5, hP5, hN5, hlt5, hws5, hwl5⟩
          obtain ⟨rA5, hrA51, hrA52⟩ := row A xa hxa p H5 e5 hpl
          obtain ⟨rB5, hrB51, hrB52⟩ := row B xb hxb g H5 e5 hgl
          have ha5 := seqT e5 ha
          have hb5 := seqT e5 hb
          have hPl5 : P5.length ≤ 256 := Nat.le_trans hP5.len hsz
          have hkl5 : kvs5.length ≤ 256 := by rw [hP5.n]; exact hPl5
          have hwl6 : ws5.length ≤ 256 := by omega
          match k, hk with
          | 0, hk =>
            cases Option.some.inj hk
            have hsd := hside0 H5
            ac_rfl
            intro t ht
            have hd6 : (upd H5 t (.tup [iv (SR.nxt A p true), iv (SR.nxt B g true)])) d = some (.dT kvs5) := (upd_ne (ne_of_none hd5 ht)).trans hd5
            have hlt6 : (upd H5 t (.tup [iv (SR.nxt A p true), iv (SR.nxt B g true)])) lt = some (.lst ws5) := (upd_ne (ne_of_none hlt5 ht)).trans hlt5
            have hlv6 : (upd H5 t (.tup [iv (SR.nxt A p true), iv (SR.nxt B g true)])) lv = some (.lst zs) := (upd_ne (ne_of_none hlv5 ht)).trans hlv5
            have ht6 : (upd H5 t (.tup [iv (SR.nxt A p true), iv (SR.nxt B g true)])) t = some (.tup ((pT (SR.nxt A p true, SR.nxt B g true)).map kV)) := upd_same
            have e6 : Same H (upd H5 t (.tup [iv (SR.nxt A p true), iv (SR.nxt B g true)])) := e5.trans (same_new ht)
            have hzs6 := hzs5.mono (same_new (o := .tup [iv (SR.nxt A p true), iv (SR.nxt B g true)]) ht)
            have hws6 := hws5.mono (same_new (o := .tup [iv (SR.nxt A p true), iv (SR.nxt B g true)]) ht)
            revert hd6 hlt6 hlv6 ht6 e6 hzs6 hws6
            generalize upd H5 t (.tup [iv (SR.nxt A p true), iv (SR.nxt B g true)]) = H6
            intro hd6 hlt6 hlv6 ht6 e6 hzs6 hws6
            ac_rfl
            rw [hP5.hat]
            by_cases hin : (SR.nxt A p true, SR.nxt B g true) ∈ P5
            · refine s_iteF' (by rw [decide_eq_true hin]; rfl) ?_
              ac_rfl
              exact ⟨_, _, _, P5, ws5, kvs5, rfl, e6, hlv6, hzs6, hd6, hP5, hN5, hlt6, hws6, hwl5⟩
            · refine s_iteT' (by rw [decide_eq_false hin]; rfl) ?_
              ac_rfl
              have hP7 := hP5.add (v := .bl true) hin (hvA.nxt hpl true) (hvB.nxt hgl true)
              have nld : lt ≠ d := fun z => by rw [z, hd6] at hlt6; cases hlt6
              have ntd : t ≠ d := fun z => by rw [z, hd6] at ht6; cases ht6
              have nvd : lv ≠ d := fun z => by rw [z, hd6] at hlv6; cases hlv6
              have hlt7 : (upd H6 d (.dT (putK kvs5 (pT (SR.nxt A p true, SR.nxt B g true)) (.bl true)))) lt = some (.lst ws5) := (upd_ne nld).trans hlt6
              have ht7 : (upd H6 d (.dT (putK kvs5 (pT (SR.nxt A p true, SR.nxt B g true)) (.bl true)))) t = some (.tup [iv (SR.nxt A p true), iv (SR.nxt B g true)]) := (upd_ne ntd).trans ht6
              have hlv7 : (upd H6 d (.dT (putK kvs5 (pT (SR.nxt A p true, SR.nxt B g true)) (.bl true)))) lv = some (.lst zs) := (upd_ne nvd).trans hlv6
              have hzs7 := hzs6.butE (SameBut.upd d H6 (.dT (putK kvs5 (pT (SR.nxt A p true, SR.nxt B g true)) (.bl true)))) hd6
              have hws7 := hws6.butE (SameBut.upd d H6 (.dT (putK kvs5 (pT (SR.nxt A p true, SR.nxt B g true)) (.bl true)))) hd6
              have hd7 : (upd H6 d (.dT (putK kvs5 (pT (SR.nxt A p true, SR.nxt B g true)) (.bl true)))) d = some (.dT (putK kvs5 (pT (SR.nxt A p true, SR.nxt B g true)) (.bl true))) := upd_same
              have e7 : Same H (upd H6 d (.dT (putK kvs5 (pT (SR.nxt A p true, SR.nxt B g true)) (.bl true)))) := grow0 e6 hd0
              revert hlt7 ht7 hlv7 hzs7 hws7 hd7 e7
              generalize upd H6 d (.dT (putK kvs5 (pT (SR.nxt A p true, SR.nxt B g true)) (.bl true))) = H7
              intro hlt7 ht7 hlv7 hzs7 hws7 hd7 e7
              have hcl : c.length + 1 ≤ N := hcN
              have hsn : c.length + (Str.ofString "+").length ≤ sizeLine := Nat.le_of_lt (small1000 (by show c.length + 1 ≤ 1000; omega))
              ac_rfl
              refine ⟨hsn, ?_⟩
              ac_rfl
              intro t2 ht2
              have nlt2 := ne_of_none hlt7 ht2
              have nlv2 := ne_of_none hlv7 ht2
              have nd2 := ne_of_none hd7 ht2
              ac_rfl
              obtain ⟨g1, g2, g3⟩ := grow (o := .tup [.str (c ++ Str.ofString "+"), iv (SR.nxt A p true), iv (SR.nxt B g true)]) e7 hlt0 hlt7 ht2 (.ref t2)
              have nvl : lv ≠ lt := nvlt
              refine ⟨_, _, _, P5 ++ [(SR.nxt A p true, SR.nxt B g true)], ws5 ++ [.ref t2], _, rfl, g1, g2 _ _ nvl hlv7, hzs7.butL g2 hlt7, g2 _ _ nld.symm hd7, hP7, by rw [List.length_append]; omega, upd_same, ?_, by rw [List.length_append, List.length_append]; show ws5.length + 1 + N = P5.length + 1; omega⟩
              refine (LvAt.le (N := P5.length) (hws7.butL g2 hlt7) (by rw [List.length_append]; omega)).snoc (SqT.of g3) (strOk_ck hcs true) (uu ++ [true]) ?_ ?_ ?_
              · rw [go_snoc, hp]
              · rw [go_snoc, hg]
              · show (c.cps ++ (Str.ofString "+").cps).size + 1 ≤ _
                rw [Array.size_append, List.length_append]
                show c.length + 1 + 1 ≤ P5.length + 1
                omega
          | 1, hk =>
            cases Option.some.inj hk
            have hsd := hside1 H5
            ac_rfl
            intro t ht
            have hd6 : (upd H5 t (.tup [iv (SR.nxt A p false), iv (SR.nxt B g false)])) d = some (.dT kvs5) := (upd_ne (ne_of_none hd5 ht)).trans hd5
            have hlt6 : (upd H5 t (.tup [iv (SR.nxt A p false), iv (SR.nxt B g false)])) lt = some (.lst ws5) := (upd_ne (ne_of_none hlt5 ht)).trans hlt5
            have hlv6 : (upd H5 t (.tup [iv (SR.nxt A p false), iv (SR.nxt B g false)])) lv = some (.lst zs) := (upd_ne (ne_of_none hlv5 ht)).trans hlv5
            have ht6 : (upd H5 t (.tup [iv (SR.nxt A p false), iv (SR.nxt B g false)])) t = some (.tup ((pT (SR.nxt A p false, SR.nxt B g false)).map kV)) := upd_same
            have e6 : Same H (upd H5 t (.tup [iv (SR.nxt A p false), iv (SR.nxt B g false)])) := e5.trans (same_new ht)
            have hzs6 := hzs5.mono (same_new (o := .tup [iv (SR.nxt A p false), iv (SR.nxt B g false)]) ht)
            have hws6 := hws5.mono (same_new (o := .tup [iv (SR.nxt A p false), iv (SR.nxt B g false)]) ht)
            revert hd6 hlt6 hlv6 ht6 e6 hzs6 hws6
            generalize upd H5 t (.tup [iv (SR.nxt A p false), iv (SR.nxt B g false)]) = H6
            intro hd6 hlt6 hlv6 ht6 e6 hzs6 hws6
            ac_rfl
            rw [hP5.hat]
            by_cases hin : (SR.nxt A p false, SR.nxt B g false) ∈ P5
            · refine s_iteF' (by rw [decide_eq_true hin]; rfl) ?_
              ac_rfl
              exact ⟨_, _, _, P5, ws5, kvs5, rfl, e6, hlv6, hzs6, hd6, hP5, hN5, hlt6, hws6, hwl5⟩
            · refine s_iteT' (by rw [decide_eq_false hin]; rfl) ?_
              ac_rfl
              have hP7 := hP5.add (v := .bl true) hin (hvA.nxt hpl false) (hvB.nxt hgl false)
              have nld : lt ≠ d := fun z => by rw [z, hd6] at hlt6; cases hlt6
              have ntd : t ≠ d := fun z => by rw [z, hd6] at ht6; cases ht6
              have nvd : lv ≠ d := fun z => by rw [z, hd6] at hlv6; cases hlv6
              have hlt7 : (upd H6 d (.dT (putK kvs5 (pT (SR.nxt A p false, SR.nxt B g false)) (.bl true)))) lt = some (.lst ws5) := (upd_ne nld).trans hlt6
              have ht7 : (upd H6 d (.dT (putK kvs5 (pT (SR.nxt A p false, SR.nxt B g false)) (.bl true)))) t = some (.tup [iv (SR.nxt A p false), iv (SR.nxt B g false)]) := (upd_ne ntd).trans ht6
              have hlv7 : (upd H6 d (.dT (putK kvs5 (pT (SR.nxt A p false, SR.nxt B g false)) (.bl true)))) lv = some (.lst zs) := (upd_ne nvd).trans hlv6
              have hzs7 := hzs6.butE (SameBut.upd d H6 (.dT (putK kvs5 (pT (SR.nxt A p false, SR.nxt B g false)) (.bl true)))) hd6
              have hws7 := hws6.butE (SameBut.upd d H6 (.dT (putK kvs5 (pT (SR.nxt A p false, SR.nxt B g false)) (.bl true)))) hd6
              have hd7 : (upd H6 d (.dT (putK kvs5 (pT (SR.nxt A p false, SR.nxt B g false)) (.bl true)))) d = some (.dT (putK kvs5 (pT (SR.nxt A p false, SR.nxt B g false)) (.bl true))) := upd_same
              have e7 : Same H (upd H6 d (.dT (putK kvs5 (pT (SR.nxt A p false, SR.nxt B g false)) (.bl true)))) := grow0 e6 hd0
              revert hlt7 ht7 hlv7 hzs7 hws7 hd7 e7
              generalize upd H6 d (.dT (putK kvs5 (pT (SR.nxt A p false, SR.nxt B g false)) (.bl true))) = H7
              intro hlt7 ht7 hlv7 hzs7 hws7 hd7 e7
              have hcl : c.length + 1 ≤ N := hcN
              have hsn : c.length + (Str.ofString "-").length ≤ sizeLine := Nat.le_of_lt (small1000 (by show c.length + 1 ≤ 1000; omega))
              ac_rfl
              refine ⟨hsn, ?_⟩
              ac_rfl
              intro t2 ht2
              have nlt2 := ne_of_none hlt7 ht2
              have nlv2 := ne_of_none hlv7 ht2
              have nd2 := ne_of_none hd7 ht2
              ac_rfl
              obtain ⟨g1, g2, g3⟩ := grow (o := .tup [.str (c ++ Str.ofString "-"), iv (SR.nxt A p false), iv (SR.nxt B g false)]) e7 hlt0 hlt7 ht2 (.ref t2)
              have nvl : lv ≠ lt := nvlt
              refine ⟨_, _, _, P5 ++ [(SR.nxt A p false, SR.nxt B g false)], ws5 ++ [.ref t2], _, rfl, g1, g2 _ _ nvl hlv7, hzs7.butL g2 hlt7, g2 _ _ nld.symm hd7, hP7, by rw [List.length_append]; omega, upd_same, ?_, by rw [List.length_append, List.length_append]; show ws5.length + 1 + N = P5.length + 1; omega⟩
              refine (LvAt.le (N := P5.length) (hws7.butL g2 hlt7) (by rw [List.length_append]; omega)).snoc (SqT.of g3) (strOk_ck hcs false) (uu ++ [false]) ?_ ?_ ?_
              · rw [go_snoc, hp]
              · rw [go_snoc, hg]
              · show (c.cps ++ (Str.ofString "-").cps).size + 1 ≤ _
                rw [Array.size_append, List.length_append]
                show c.length + 1 + 1 ≤ P5.length + 1
                omega
          | n + 2, hk => simp at hk
        · rintro σ H5 ⟨v9, v10, v11, P5, ws5, kvs5, rfl, e5, hlv5, hzs5, hd5, hP5, hN5, hlt5, hws5, hwl5⟩
          exact ⟨_, _, _, _, _, _, P5, ws5, kvs5, rfl, e5, hlv5, hzs5, hd5, hP5, hN5, hlt5, hws5, hwl5⟩
      · skip
        have hsd4 := hsides H4
        ac_rfl
        refine for_tup (K := K) (xs := [.ref (sideAt K 0), .ref (sideAt K 1)]) (fun k σ H' => ∃ v9 v10 v11 P ws kvs, σ = [some (.ref a), some (.ref b), some (.bl true), some (.ref lv), some (.ref d), some (.ref lt), some (.str c), some (iv p), some (iv g), v9, v10, v11] ∧ Same H H' ∧ H' lv = some (.lst zs) ∧ LvAt K H' A B N zs ∧
            H' d = some (.dT kvs) ∧ PrOk A B kvs P ∧ N ≤ P.length ∧ H' lt = some (.lst ws) ∧ LvAt K H' A B P.length ws ∧ ws.length + N = P.length)
          ⟨_, _, _, P, ws, kvs, rfl, e4, hlv4, hzs4, hd4, hP, hN, hlt4, hws, hwl⟩ (fun k σ H' _ _ => hsides H') ?_ ?_
        · rintro k y σ H5 hk ⟨v9, v10, v11, P5, ws5, kvs5, rfl, e5, hlv5, hzs5, hd5, hP5, hN5, hlt5, hws5, hwl5⟩
          obtain ⟨rA5, hrA51, hrA52⟩ := row A xa hxa p H5 e5 hpl
          obtain ⟨rB5, hrB51, hrB52⟩ := row B xb hxb g H5 e5 hgl
          have ha5 := seqT e5 ha
          have hb5 := seqT e5 hb
          have hPl5 : P5.length ≤ 256 := Nat.le_trans hP5.len hsz
          have hkl5 : kvs5.length ≤ 256 := by rw [hP5.n]; exact hPl5
          have hwl6 : ws5.length ≤ 256 := by omega
          match k, hk with
          | 0, hk =>
            cases Option.some.inj hk
            have hsd := hside0 H5
            ac_rfl
            intro t ht
            have hd6 : (upd H5 t (.tup [iv (SR.nxt A p true), iv (SR.nxt B g true)])) d = some (.dT kvs5) := (upd_ne (ne_of_none hd5 ht)).trans hd5
            have hlt6 : (upd H5 t (.tup [iv (SR.nxt A p true), iv (SR.nxt B g true)])) lt = some (.lst ws5) := (upd_ne (ne_of_none hlt5 ht)).trans hlt5
            have hlv6 : (upd H5 t (.tup [iv (SR.nxt A p true), iv (SR.nxt B g true)])) lv = some (.lst zs) := (upd_ne (ne_of_none hlv5 ht)).trans hlv5
            have ht6 : (upd H5 t (.tup [iv (SR.nxt A p true), iv (SR.nxt B g true)])) t = some (.tup ((pT (SR.nxt A p true, SR.nxt B g true)).map kV)) := upd_same
            have e6 : Same H (upd H5 t (.tup [iv (SR.nxt A p true), iv (SR.nxt B g true)])) := e5.trans (same_new ht)
            have hzs6 := hzs5.mono (same_new (o := .tup [iv (SR.nxt A p true), iv (SR.nxt B g true)]) ht)
            have hws6 := hws5.mono (same_new (o := .tup [iv (SR.nxt A p true), iv (SR.nxt B g true)]) ht)
            revert hd6 hlt6 hlv6 ht6 e6 hzs6 hws6
            generalize upd H5 t (.tup [iv (SR.nxt A p true), iv (SR.nxt B g true)]) = H6
            intro hd6 hlt6 hlv6 ht6 e6 hzs6 hws6
            ac_rfl
            rw [hP5.hat]
            by_cases hin : (SR.nxt A p true, SR.nxt B g true) ∈ P5
            · refine s_iteF' (by rw [decide_eq_true hin]; rfl) ?_
              ac_rfl
              exact ⟨_, _, _, P5, ws5, kvs5, rfl, e6, hlv6, hzs6, hd6, hP5, hN5, hlt6, hws6, hwl5⟩
            · refine s_iteT' (by rw [decide_eq_false hin]; rfl) ?_
              ac_rfl
              have hP7 := hP5.add (v := .bl true) hin (hvA.nxt hpl true) (hvB.nxt hgl true)
              have nld : lt ≠ d := fun z => by rw [z, hd6] at hlt6; cases hlt6
              have ntd : t ≠ d := fun z => by rw [z, hd6] at ht6; cases ht6
              have nvd : lv ≠ d := fun z => by rw [z, hd6] at hlv6; cases hlv6
              have hlt7 : (upd H6 d (.dT (putK kvs5 (pT (SR.nxt A p true, SR.nxt B g true)) (.bl true)))) lt = some (.lst ws5) := (upd_ne nld).trans hlt6
              have ht7 : (upd H6 d (.dT (putK kvs5 (pT (SR.nxt A p true, SR.nxt B g true)) (.bl true)))) t = some (.tup [iv (SR.nxt A p true), iv (SR.nxt B g true)]) := (upd_ne ntd).trans ht6
              have hlv7 : (upd H6 d (.dT (putK kvs5 (pT (SR.nxt A p true, SR.nxt B g true)) (.bl true)))) lv = some (.lst zs) := (upd_ne nvd).trans hlv6
              have hzs7 := hzs6.butE (SameBut.upd d H6 (.dT (putK kvs5 (pT (SR.nxt A p true, SR.nxt B g true)) (.bl true)))) hd6
              have hws7 := hws6.butE (SameBut.upd d H6 (.dT (putK kvs5 (pT (SR.nxt A p true, SR.nxt B g true)) (.bl true)))) hd6
              have hd7 : (upd H6 d (.dT (putK kvs5 (pT (SR.nxt A p true, SR.nxt B g true)) (.bl true)))) d = some (.dT (putK kvs5 (pT (SR.nxt A p true, SR.nxt B g true)) (.bl true))) := upd_same
              have e7 : Same H (upd H6 d (.dT (putK kvs5 (pT (SR.nxt A p true, SR.nxt B g true)) (.bl true)))) := grow0 e6 hd0
              revert hlt7 ht7 hlv7 hzs7 hws7 hd7 e7
              generalize upd H6 d (.dT (putK kvs5 (pT (SR.nxt A p true, SR.nxt B g true)) (.bl true))) = H7
              intro hlt7 ht7 hlv7 hzs7 hws7 hd7 e7
              have hcl : c.length + 1 ≤ N := hcN
              have hsn : c.length + (Str.ofString "+").length ≤ sizeLine := Nat.le_of_lt (small1000 (by show c.length + 1 ≤ 1000; omega))
              ac_rfl
              refine ⟨hsn, ?_⟩
              ac_rfl
              intro t2 ht2
              have nlt2 := ne_of_none hlt7 ht2
              have nlv2 := ne_of_none hlv7 ht2
              have nd2 := ne_of_none hd7 ht2
              ac_rfl
              obtain ⟨g1, g2, g3⟩ := grow (o := .tup [.str (c ++ Str.ofString "+"), iv (SR.nxt A p true), iv (SR.nxt B g true)]) e7 hlt0 hlt7 ht2 (.ref t2)
              have nvl : lv ≠ lt := nvlt
              refine ⟨_, _, _, P5 ++ [(SR.nxt A p true, SR.nxt B g true)], ws5 ++ [.ref t2], _, rfl, g1, g2 _ _ nvl hlv7, hzs7.butL g2 hlt7, g2 _ _ nld.symm hd7, hP7, by rw [List.length_append]; omega, upd_same, ?_, by rw [List.length_append, List.length_append]; show ws5.length + 1 + N = P5.length + 1; omega⟩
              refine (LvAt.le (N := P5.length) (hws7.butL g2 hlt7) (by rw [List.length_append]; omega)).snoc (SqT.of g3) (strOk_ck hcs true) (uu ++ [true]) ?_ ?_ ?_
              · rw [go_snoc, hp]
              · rw [go_snoc, hg]
              · show (c.cps ++ (Str.ofString "+").cps).size + 1 ≤ _
                rw [Array.size_append, List.length_append]
                show c.length + 1 + 1 ≤ P5.length + 1
                omega
          | 1, hk =>
            cases Option.some.inj hk
            have hsd := hside1 H5
            ac_rfl
            intro t ht
            have hd6 : (upd H5 t (.tup [iv (SR.nxt A p false), iv (SR.nxt B g false)])) d = some (.dT kvs5) := (upd_ne (ne_of_none hd5 ht)).trans hd5
            have hlt6 : (upd H5 t (.tup [iv (SR.nxt A p false), iv (SR.nxt B g false)])) lt = some (.lst ws5) := (upd_ne (ne_of_none hlt5 ht)).trans hlt5
            have hlv6 : (upd H5 t (.tup [iv (SR.nxt A p false), iv (SR.nxt B g false)])) lv = some (.lst zs) := (upd_ne (ne_of_none hlv5 ht)).trans hlv5
            have ht6 : (upd H5 t (.tup [iv (SR.nxt A p false), iv (SR.nxt B g false)])) t = some (.tup ((pT (SR.nxt A p false, SR.nxt B g false)).map kV)) := upd_same
            have e6 : Same H (upd H5 t (.tup [iv (SR.nxt A p false), iv (SR.nxt B g false)])) := e5.trans (same_new ht)
            have hzs6 := hzs5.mono (same_new (o := .tup [iv (SR.nxt A p false), iv (SR.nxt B g false)]) ht)
            have hws6 := hws5.mono (same_new (o := .tup [iv (SR.nxt A p false), iv (SR.nxt B g false)]) ht)
            revert hd6 hlt6 hlv6 ht6 e6 hzs6 hws6
            generalize upd H5 t (.tup [iv (SR.nxt A p false), iv (SR.nxt B g false)]) = H6
            intro hd6 hlt6 hlv6 ht6 e6 hzs6 hws6
            ac_rfl
            rw [hP5.hat]
            by_cases hin : (SR.nxt A p false, SR.nxt B g false) ∈ P5
            · refine s_iteF' (by rw [decide_eq_true hin]; rfl) ?_
              ac_rfl
              exact ⟨_, _, _, P5, ws5, kvs5, rfl, e6, hlv6, hzs6, hd6, hP5, hN5, hlt6, hws6, hwl5⟩
            · refine s_iteT' (by rw [decide_eq_false hin]; rfl) ?_
              ac_rfl
              have hP7 := hP5.add (v := .bl true) hin (hvA.nxt hpl false) (hvB.nxt hgl false)
              have nld : lt ≠ d := fun z => by rw [z, hd6] at hlt6; cases hlt6
              have ntd : t ≠ d := fun z => by rw [z, hd6] at ht6; cases ht6
              have nvd : lv ≠ d := fun z => by rw [z, hd6] at hlv6; cases hlv6
              have hlt7 : (upd H6 d (.dT (putK kvs5 (pT (SR.nxt A p false, SR.nxt B g false)) (.bl true)))) lt = some (.lst ws5) := (upd_ne nld).trans hlt6
              have ht7 : (upd H6 d (.dT (putK kvs5 (pT (SR.nxt A p false, SR.nxt B g false)) (.bl true)))) t = some (.tup [iv (SR.nxt A p false), iv (SR.nxt B g false)]) := (upd_ne ntd).trans ht6
              have hlv7 : (upd H6 d (.dT (putK kvs5 (pT (SR.nxt A p false, SR.nxt B g false)) (.bl true)))) lv = some (.lst zs) := (upd_ne nvd).trans hlv6
              have hzs7 := hzs6.butE (SameBut.upd d H6 (.dT (putK kvs5 (pT (SR.nxt A p false, SR.nxt B g false)) (.bl true)))) hd6
              have hws7 := hws6.butE (SameBut.upd d H6 (.dT (putK kvs5 (pT (SR.nxt A p false, SR.nxt B g false)) (.bl true)))) hd6
              have hd7 : (upd H6 d (.dT (putK kvs5 (pT (SR.nxt A p false, SR.nxt B g false)) (.bl true)))) d = some (.dT (putK kvs5 (pT (SR.nxt A p false, SR.nxt B g false)) (.bl true))) := upd_same
              have e7 : Same H (upd H6 d (.dT (putK kvs5 (pT (SR.nxt A p false, SR.nxt B g false)) (.bl true)))) := grow0 e6 hd0
              revert hlt7 ht7 hlv7 hzs7 hws7 hd7 e7
              generalize upd H6 d (.dT (putK kvs5 (pT (SR.nxt A p false, SR.nxt B g false)) (.bl true))) = H7
              intro hlt7 ht7 hlv7 hzs7 hws7 hd7 e7
              have hcl : c.length + 1 ≤ N := hcN
              have hsn : c.length + (Str.ofString "-").length ≤ sizeLine := Nat.le_of_lt (small1000 (by show c.length + 1 ≤ 1000; omega))
              ac_rfl
              refine ⟨hsn, ?_⟩
              ac_rfl
              intro t2 ht2
              have nlt2 := ne_of_none hlt7 ht2
              have nlv2 := ne_of_none hlv7 ht2
              have nd2 := ne_of_none hd7 ht2
              ac_rfl
              obtain ⟨g1, g2, g3⟩ := grow (o := .tup [.str (c ++ Str.ofString "-"), iv (SR.nxt A p false), iv (SR.nxt B g false)]) e7 hlt0 hlt7 ht2 (.ref t2)
              have nvl : lv ≠ lt := nvlt
              refine ⟨_, _, _, P5 ++ [(SR.nxt A p false, SR.nxt B g false)], ws5 ++ [.ref t2], _, rfl, g1, g2 _ _ nvl hlv7, hzs7.butL g2 hlt7, g2 _ _ nld.symm hd7, hP7, by rw [List.length_append]; omega, upd_same, ?_, by rw [List.length_append, List.length_append]; show ws5.length + 1 + N = P5.length + 1; omega⟩
              refine (LvAt.le (N := P5.length) (hws7.butL g2 hlt7) (by rw [List.length_append]; omega)).snoc (SqT.of g3) (strOk_ck hcs false) (uu ++ [false]) ?_ ?_ ?_
              · rw [go_snoc, hp]
              · rw [go_snoc, hg]
              · show (c.cps ++ (Str.ofString "-").cps).size + 1 ≤ _
                rw [Array.size_append, List.length_append]
                show c.length + 1 + 1 ≤ P5.length + 1
                omega
          | n + 2, hk => simp at hk
        · rintro σ H5 ⟨v9, v10, v11, P5, ws5, kvs5, rfl, e5, hlv5, hzs5, hd5, hP5, hN5, hlt5, hws5, hwl5⟩
          exact ⟨_, _, _, _, _, _, P5, ws5, kvs5, rfl, e5, hlv5, hzs5, hd5, hP5, hN5, hlt5, hws5, hwl5⟩
    · rintro σ H4 ⟨v6, v7, v8, v9, v10, v11, P, ws, kvs, rfl, e4, hlv4, hzs4, hd4, hP, hN, hlt4, hws, hwl⟩
      ac_rfl
      have hPl := hP.len
      refine ⟨2 * (256 - P.length) + (if ws = [] then 0 else 1), ?_, lt, _, _, _, _, _, _, _, P, ws, kvs, rfl, e4, hlt4, hws, hd4, hP, by omega, rfl⟩
      rw [if_neg hne]
      by_cases hw : ws = []
      · rw [if_pos hw]
        omega
      · rw [if_neg hw]
        have : 0 < ws.length := List.length_pos_iff.mpr hw
        omega
  · ac_rfl
    exact q _ (e1.trans (same_new hem))
end
end SRD
/-! One rule at most the other. -/
namespace SRD
open PySem PySem.Spec PyProof.Rows L2 SRT
section
variable {w : World} {K : PySem.W.Frag} {mg : Str → Option Value} {base : Heap}
abbrev N_Rule_le : List Str := ["self", "other"]
theorem sc_Rule_le : FnScope N_Rule_le ["self", "other"] (defScope s_Rule_le) := ⟨rfl, rfl, rfl, by decide +kernel, rfl, by decide +kernel, by decide +kernel⟩
def spRuleLe (K : PySem.W.Frag) : Sp := fun vs H Q _ => ∃ (a b : Addr) (A B : SR.Tbl), vs = [.ref a, .ref b] ∧ RuleAt K H a A ∧ RuleAt K H b B ∧ SR.Valid A ∧ SR.Valid B ∧ A.length ≤ 16 ∧ B.length ≤ 16 ∧ (∀ u, SR.beh A 0 u = true → SR.beh B 0 u = true) ∧ ∀ H', Same H H' → Q (.bl true) H'
theorem ok_Rule_le (T : Txt K mg) (F_first_checks : FnR PP w K mg base CX0 1 (He.ga K "first_checks") (spFirst K)) : FnR PP w K mg base CX0 2 (He.ma K (aRule K) "__le__") (spRuleLe K) := by
  refine defR (T.def_ 33 rfl) sc_Rule_le (fun _ _ _ _ _ _ us hl => match us, hl with | [_, _], _ => rfl) ?_ ?_
  · rintro vs H Q E ⟨a, b, A, B, rfl, _⟩
    rfl
  rintro cdv Ar outer s H vs Q E hr ⟨a, b, A, B, rfl, ⟨dx, t, ha, ht⟩, ⟨dy, u, hb, hu⟩, hvA, hvB, lA, lB, hi, q⟩
  have c1 := T.cls 62
  have n1 := T.noat 70
  have C := isiB_ok (T.x 8)
  refine ⟨_, (pss_cons (ps_if (pt_not (pt_val (pe_callB (kisi (K := K)) (by rfl) (T.free 37) boot_isinstance (pa_cons (pv 1) (pa_cons (pe_glob (v := .ref (He.ga K "Rule")) (by rfl) (T.glo 30) rfl) pa_nil))))) (pss_one ps_never) pss_nil)
      (pss_one (ps_ret (pe_cmpR op_isN (SRO.pe_callR F_first_checks (hr.mono (by decide)) (by rfl) (T.glo 9) (T.keep 117) pass0 (pa_cons (kfld (K := K) (pv 0) rfl) (pa_cons (kfld (K := K) (pv 1) rfl) (pa_cons pe_bl pa_nil)))) pe_non (nomark _))))), ?_⟩
  ac_rfl
  refine s_isi (.own _) (.base (.ins hb c1 C.ca C.cn C.ct C.cm)) C.kit ?_
  ac_rfl
  refine ⟨t, u, A, B, rfl, ht, hu, hvA, hvB, lA, lB, hi, fun H1 e1 => ?_⟩
  ac_rfl
  exact q H1 e1
end
end SRD
/-! Monitors: what stands in the heap. -/
namespace SRD
open PySem PySem.Spec PyProof.Rows L2 SRT
abbrev aMon (K : PySem.W.Frag) : Addr := He.ga K "Monitor"
abbrev aMT (K : PySem.W.Frag) : Addr := He.ga K "MutingTallying"
abbrev aTrial (K : PySem.W.Frag) : Addr := He.ga K "Trial"
/-- a monitor's attributes -/
abbrev mf (h p : V) : List (Str × V) := [("house", h), ("past", p)]
theorem lk_house {h p : V} : (mf h p).lookup ("house" : Str) = some h := by simp [List.lookup]
theorem lk_past {h p : V} : (mf h p).lookup ("past" : Str) = some p := by
  show (match (("past" : Str) == "house") with | true => some h | false => ([("past", p)] : List (Str × V)).lookup ("past" : Str)) = some p
  rw [show (("past" : Str) == "house") = false by decide +kernel]
  simp [List.lookup]
theorem lk_no {h p : V} {m : Str} (h1 : (m == ("house" : Str)) = false) (h2 : (m == ("past" : Str)) = false) : (mf h p).lookup m = none := by
  show (match (m == "house") with | true => some h | false => ([("past", p)] : List (Str × V)).lookup m) = none
  rw [h1]
  show (match (m == "past") with | true => some p | false => none) = none
  rw [h2]
theorem pf_house {h p v : V} : putF "house" v (mf h p) = mf v p := by
  show (if ("house" : Str) = "house" then _ else _) = _
  rw [if_pos rfl]
theorem pf_past {h p v : V} : putF "past" v (mf h p) = mf h v := by
  show (if ("house" : Str) = "past" then _ else (("house" : Str), h) :: (if ("past" : Str) = "past" then _ else _)) = _
  rw [if_neg (by decide +kernel), if_pos rfl]
theorem pf_past1 {h v : V} : putF "past" v [("house", h)] = mf h v := by
  show (if ("house" : Str) = "past" then _ else (("house" : Str), h) :: [("past", v)]) = _
  rw [if_neg (by decide +kernel)]
/-- a service: its name, rule, row, what it counted -/
structure Sv where
  nm : Str
  r : Addr
  T : SR.Tbl
  row : Nat
  p : Nat
  f : Nat
def svV (s : Sv) : List V := [.str s.nm, .ref s.r, .int (s.row : Nat), .int 0, .int (s.p : Nat), .int (s.f : Nat)]
structure SvOk (K : PySem.W.Frag) (H : Hp) (s : Sv) : Prop where
  rule : RuleAt K H s.r s.T
  v : SR.Valid s.T
  lt : s.row < s.T.length
def SvsAt (K : PySem.W.Frag) (H : Hp) (xs : List V) (svs : List Sv) : Prop := xs.length = svs.length ∧ ∀ (i : Nat) (x : V) (s : Sv), xs[i]? = some x → svs[i]? = some s → (∃ b, x = .ref b ∧ SqT K H b (svV s)) ∧ SvOk K H s
def lgV (e : Nat × Str × Bool) : List V := [.int (e.1 : Nat), .str e.2.1, .str (stS e.2.2)]
def LogAt (K : PySem.W.Frag) (H : Hp) (xs : List V) (lg : List (Nat × Str × Bool)) : Prop := xs.length = lg.length ∧ ∀ (i : Nat) (x : V) (e : Nat × Str × Bool), xs[i]? = some x → lg[i]? = some e → ∃ b, x = .ref b ∧ SqT K H b (lgV e)
/-- a state: services, ticks, the log -/
structure Ms where
  svs : List Sv
  tk : Nat
  lg : List (Nat × Str × Bool)
def HouseAt (K : PySem.W.Frag) (H : Hp) (hs : Addr) (S : Ms) : Prop := ∃ (sv lga : Addr) (q : Int) (xs ys : List V), SqT K H hs [.ref sv, .int (S.tk : Nat), .int q, .ref lga] ∧ SqT K H sv xs ∧ SvsAt K H xs S.svs ∧ H lga = some (.tup ys) ∧ LogAt K H ys S.lg
/-- a monitor of the class C at m, its past in the list at pa -/
def MonAt (K : PySem.W.Frag) (H : Hp) (C m pa : Addr) (S : Ms) (pn : Nat) : Prop := ∃ (dx hs : Addr) (past : List V), H m = some (.ins C dx (mf (.ref hs) (.ref pa))) ∧ HouseAt K H hs S ∧ H pa = some (.lst past) ∧ past.length = pn
section
variable {K : PySem.W.Frag} {H H' : Hp}
theorem SvOk.mono {s : Sv} (e : Same H H') (h : SvOk K H s) : SvOk K H' s := ⟨h.rule.mono e, h.v, h.lt⟩
theorem SvsAt.mono {xs : List V} {svs : List Sv} (e : Same H H') (h : SvsAt K H xs svs) : SvsAt K H' xs svs := ⟨h.1, fun i x s hx hs => by
  obtain ⟨⟨b, e1, e2⟩, e3⟩ := h.2 i x s hx hs
  exact ⟨⟨b, e1, seqT e e2⟩, e3.mono e⟩⟩
theorem LogAt.mono {xs : List V} {lg : List (Nat × Str × Bool)} (e : Same H H') (h : LogAt K H xs lg) : LogAt K H' xs lg := ⟨h.1, fun i x s hx hs => by
  obtain ⟨b, e1, e2⟩ := h.2 i x s hx hs
  exact ⟨b, e1, seqT e e2⟩⟩
theorem HouseAt.mono {hs : Addr} {S : Ms} (e : Same H H') (h : HouseAt K H hs S) : HouseAt K H' hs S := by
  obtain ⟨sv, lga, q, xs, ys, h1, h2, h3, h4, h5⟩ := h
  exact ⟨sv, lga, q, xs, ys, seqT e h1, seqT e h2, h3.mono e, e _ _ h4, h5.mono e⟩
theorem MonAt.mono {C m pa : Addr} {S : Ms} {pn : Nat} (e : Same H H') (h : MonAt K H C m pa S pn) : MonAt K H' C m pa S pn := by
  obtain ⟨dx, hs, past, h1, h2, h3, h4⟩ := h
  exact ⟨dx, hs, past, e _ _ h1, h2.mono e, e _ _ h3, h4⟩
theorem SvsAt.nil : SvsAt K H [] [] := ⟨rfl, fun i x s h => by simp at h⟩
theorem SvsAt.get {xs : List V} {svs : List Sv} (h : SvsAt K H xs svs) {i : Nat} {s : Sv} (hs : svs[i]? = some s) : ∃ b, xs[i]? = some (.ref b) ∧ SqT K H b (svV s) ∧ SvOk K H s := by
  have hi : i < xs.length := by rw [h.1]; exact (List.getElem?_eq_some_iff.mp hs).1
  have hx : xs[i]? = some (xs[i]'hi) := List.getElem?_eq_getElem _
  obtain ⟨⟨b, e1, e2⟩, e3⟩ := h.2 i _ _ hx hs
  exact ⟨b, by rw [hx, e1], e2, e3⟩
theorem SvsAt.snoc {xs : List V} {svs : List Sv} {b : Addr} {s : Sv} (h : SvsAt K H xs svs) (hb : SqT K H b (svV s)) (hs : SvOk K H s) : SvsAt K H (xs ++ [.ref b]) (svs ++ [s]) := by
  refine ⟨by simp [h.1], fun i x s' hx hr => ?_⟩
  by_cases hi : i < xs.length
  · rw [List.getElem?_append_left hi] at hx
    rw [List.getElem?_append_left (h.1 ▸ hi)] at hr
    exact h.2 i x s' hx hr
  · rw [List.getElem?_append_right (by omega)] at hx
    rw [List.getElem?_append_right (by rw [← h.1]; omega)] at hr
    rw [h.1] at hx
    cases e : i - svs.length with
    | zero =>
      rw [e] at hx hr
      simp at hx hr
      subst hx hr
      exact ⟨⟨b, rfl, hb⟩, hs⟩
    | succ n =>
      rw [e] at hx
      simp at hx
theorem LogAt.nil : LogAt K H [] [] := ⟨rfl, fun i x s h => by simp at h⟩
theorem LogAt.snoc {xs : List V} {lg : List (Nat × Str × Bool)} {b : Addr} {s : Nat × Str × Bool} (h : LogAt K H xs lg) (hb : SqT K H b (lgV s)) : LogAt K H (xs ++ [.ref b]) (lg ++ [s]) := by
  refine ⟨by simp [h.1], fun i x s' hx hr => ?_⟩
  by_cases hi : i < xs.length
  · rw [List.getElem?_append_left hi] at hx
    rw [List.getElem?_append_left (h.1 ▸ hi)] at hr
    exact h.2 i x s' hx hr
  · rw [List.getElem?_append_right (by omega)] at hx
    rw [List.getElem?_append_right (by rw [← h.1]; omega)] at hr
    rw [h.1] at hx
    cases e : i - lg.length with
    | zero =>
      rw [e] at hx hr
      simp at hx hr
      subst hx hr
      exact ⟨b, rfl, hb⟩
    | succ n =>
      rw [e] at hx
      simp at hx
theorem LogAt.append {xs ys : List V} {lg mg : List (Nat × Str × Bool)} (h : LogAt K H xs lg) (h2 : LogAt K H ys mg) : LogAt K H (xs ++ ys) (lg ++ mg) := by
  refine ⟨by simp [h.1, h2.1], fun i x s' hx hr => ?_⟩
  by_cases hi : i < xs.length
  · rw [List.getElem?_append_left hi] at hx
    rw [List.getElem?_append_left (h.1 ▸ hi)] at hr
    exact h.2 i x s' hx hr
  · rw [List.getElem?_append_right (by omega)] at hx
    rw [List.getElem?_append_right (by rw [← h.1]; omega)] at hr
    rw [h.1] at hx
    exact h2.2 _ x s' hx hr
end
/-- what was tracked is as it was, but at two places -/
def But2 (m p : Addr) (H H' : Hp) : Prop := ∀ b o, b ≠ m → b ≠ p → H b = some o → H' b = some o
theorem But2.refl (m p : Addr) (H : Hp) : But2 m p H H := fun _ _ _ _ h => h
theorem But2.trans {m p : Addr} {H H1 H2 : Hp} (a : But2 m p H H1) (b : But2 m p H1 H2) : But2 m p H H2 := fun c o n k h => b c o n k (a c o n k h)
theorem Same.but2 {m p : Addr} {H H' : Hp} (a : Same H H') : But2 m p H H' := fun c o _ _ h => a c o h
theorem But2.free {m p q : Addr} {H H' : Hp} (a : But2 m p H H') (n : q ≠ m) (k : q ≠ p) (h : H' q = none) : H q = none := by
  cases e : H q with
  | none => rfl
  | some o =>
    rw [a q o n k e] at h
    cases h
section
variable {K : PySem.W.Frag} {H H' : Hp} {m p C dx : Addr} {fs : List (Str × V)} {l : List V}
theorem But2.seqT (e : But2 m p H H') (hm : H m = some (.ins C dx fs)) (hp : H p = some (.lst l)) {b : Addr} {xs : List V} (h : SqT K H b xs) : SqT K H' b xs := by
  rcases h with (h | ⟨o, h⟩) | h
  · refine .inl (.inl (e _ _ (fun q => ?_) (fun q => ?_) h))
    · rw [q, hm] at h
      cases h
    · rw [q, hp] at h
      cases h
  · refine .inl (.inr ⟨o, e _ _ (fun q => ?_) (fun q => ?_) h⟩)
    · rw [q, hm] at h
      cases h
    · rw [q, hp] at h
      cases h
  · exact .inr h
theorem But2.rule (e : But2 m p H H') (hm : H m = some (.ins C dx fs)) (hC : C ≠ aRule K) (hp : H p = some (.lst l)) {a : Addr} {T : SR.Tbl} (h : RuleAt K H a T) : RuleAt K H' a T := by
  obtain ⟨dy, t, h1, xs, h2, h3⟩ := h
  refine ⟨dy, t, e _ _ (fun q => ?_) (fun q => ?_) h1, xs, e.seqT hm hp h2, h3.1, fun i x r hx hr => ?_⟩
  · rw [q, hm] at h1
    cases h1
    exact hC rfl
  · rw [q, hp] at h1
    cases h1
  · obtain ⟨b, e1, e2⟩ := h3.2 i x r hx hr
    exact ⟨b, e1, e.seqT hm hp e2⟩
theorem But2.svs (e : But2 m p H H') (hm : H m = some (.ins C dx fs)) (hC : C ≠ aRule K) (hp : H p = some (.lst l)) {xs : List V} {svs : List Sv} (h : SvsAt K H xs svs) : SvsAt K H' xs svs := ⟨h.1, fun i x s hx hs => by
  obtain ⟨⟨b, e1, e2⟩, e3⟩ := h.2 i x s hx hs
  exact ⟨⟨b, e1, e.seqT hm hp e2⟩, e.rule hm hC hp e3.rule, e3.v, e3.lt⟩⟩
theorem But2.log (e : But2 m p H H') (hm : H m = some (.ins C dx fs)) (hp : H p = some (.lst l)) {xs : List V} {lg : List (Nat × Str × Bool)} (h : LogAt K H xs lg) : LogAt K H' xs lg := ⟨h.1, fun i x s hx hs => by
  obtain ⟨b, e1, e2⟩ := h.2 i x s hx hs
  exact ⟨b, e1, e.seqT hm hp e2⟩⟩
theorem But2.house (e : But2 m p H H') (hm : H m = some (.ins C dx fs)) (hC : C ≠ aRule K) (hp : H p = some (.lst l)) {hs : Addr} {S : Ms} (h : HouseAt K H hs S) : HouseAt K H' hs S := by
  obtain ⟨sv, lga, q, xs, ys, h1, h2, h3, h4, h5⟩ := h
  refine ⟨sv, lga, q, xs, ys, e.seqT hm hp h1, e.seqT hm hp h2, e.svs hm hC hp h3, e _ _ (fun z => ?_) (fun z => ?_) h4, e.log hm hp h5⟩
  · rw [z, hm] at h4
    cases h4
  · rw [z, hp] at h4
    cases h4
end
/-- what the proofs ask of a monitor's class -/
structure MonC (K : PySem.W.Frag) (C : Addr) : Prop where
  cl : Cls K C
  nr : C ≠ aRule K
  nh : NoAttr K C "house"
  np : NoAttr K C "past"
  p_names : PropOf K C "names" (He.ma K C "names") (pg K (aMon K) "names")
  p_ticks : PropOf K C "ticks" (He.ma K C "ticks") (pg K (aMon K) "ticks")
  m_go_on : Meth K C "go_on" (He.ma K (aMon K) "go_on")
  m_later : Meth K C "later" (He.ma K C "later")
  m_after : Meth K C "after" (He.ma K (aMon K) "after")
  m_tick : Meth K C "tick" (He.ma K (aMon K) "tick")
  m_supposing : Meth K C "supposing" (He.ma K (aMon K) "supposing")
  m_run : Meth K C "run" (He.ma K (aMon K) "run")
  m_trying : Meth K C "trying" (He.ma K (aMon K) "trying")
  m_changes : Meth K C "changes" (He.ma K (aMon K) "changes")
  m_place : Meth K C "place" (He.ma K (aMon K) "place")
  m_with_service : Meth K C "with_service" (He.ma K (aMon K) "with_service")
  b_tick : BMeth K C "tick" (He.ma K (aMon K) "tick")
  g_find : PySem.W.findIn K (.ref C) "__getitem__" = some (some (.ref (He.ma K (aMon K) "__getitem__")))
  g_fn : PySem.W.isFn K (.ref (He.ma K (aMon K) "__getitem__")) = true
  g_fi : PySem.W.fnIn K (He.ma K (aMon K) "__getitem__") = true
  nq : PySem.W.noSeq K C = true
  s_find : PySem.W.findIn K (.ref C) "__setitem__" = some (some (.ref (He.ma K (aMon K) "__setitem__")))
  s_fn : PySem.W.isFn K (.ref (He.ma K (aMon K) "__setitem__")) = true
section
variable {K : PySem.W.Frag} {mg : Str → Option Value}
theorem same_ma (T : Txt K mg) (i : Nat) {m : Str} (h : xs[i]? = some fun K => decide (He.ma K (He.ga K "MutingTallying") m = He.ma K (He.ga K "Monitor") m)) : He.ma K (aMT K) m = He.ma K (aMon K) m := of_decide_eq_true (T.x i h)
theorem monC_mon (T : Txt K mg) (nr : aMon K ≠ aRule K) : MonC K (aMon K) where
  cl := T.cls 64
  nr := nr
  nh := T.noat 74
  np := T.noat 75
  p_names := propB_ok (T.x 1)
  p_ticks := propB_ok (T.x 2)
  m_go_on := T.meth 83
  m_later := T.meth 84
  m_after := T.meth 85
  m_tick := T.meth 86
  m_supposing := T.meth 87
  m_run := T.meth 88
  m_trying := T.meth 89
  m_changes := T.meth 90
  m_place := T.meth 91
  m_with_service := T.meth 92
  b_tick := bmB_ok (T.meth 86) (T.x 6)
  g_find := (T.meth 93).at_
  g_fn := (T.meth 93).fn
  g_fi := T.x 15
  nq := T.x 12
  s_find := (T.meth 94).at_
  s_fn := (T.meth 94).fn
theorem pg_names (T : Txt K mg) : pg K (aMT K) "names" = pg K (aMon K) "names" := of_decide_eq_true (T.x 49)
theorem pg_ticks (T : Txt K mg) : pg K (aMT K) "ticks" = pg K (aMon K) "ticks" := of_decide_eq_true (T.x 50)
theorem monC_mt (T : Txt K mg) (nr : aMT K ≠ aRule K) : MonC K (aMT K) where
  cl := T.cls 65
  nr := nr
  nh := T.noat 76
  np := T.noat 77
  p_names := pg_names T ▸ propB_ok (T.x 3)
  p_ticks := pg_ticks T ▸ propB_ok (T.x 4)
  m_go_on := same_ma T 36 rfl ▸ T.meth 95
  m_later := T.meth 96
  m_after := same_ma T 37 rfl ▸ T.meth 97
  m_tick := same_ma T 38 rfl ▸ T.meth 98
  m_supposing := same_ma T 39 rfl ▸ T.meth 99
  m_run := same_ma T 40 rfl ▸ T.meth 100
  m_trying := same_ma T 41 rfl ▸ T.meth 101
  m_changes := same_ma T 42 rfl ▸ T.meth 102
  m_place := same_ma T 43 rfl ▸ T.meth 103
  m_with_service := same_ma T 44 rfl ▸ T.meth 104
  b_tick := same_ma T 38 rfl ▸ bmB_ok (T.meth 98) (T.x 7)
  g_find := same_ma T 45 rfl ▸ (T.meth 105).at_
  g_fn := same_ma T 45 rfl ▸ (T.meth 105).fn
  g_fi := same_ma T 45 rfl ▸ T.x 16
  nq := T.x 13
  s_find := same_ma T 46 rfl ▸ (T.meth 106).at_
  s_fn := same_ma T 46 rfl ▸ (T.meth 106).fn
end
end SRD
local macro_rules
  | `(tactic| ac_rfl) => `(tactic| repeat (first | with_reducible refine SRD.s_seq ?_ | with_reducible refine SRD.s_ifS ?_ | with_reducible refine SRD.s_next ?_ | with_reducible refine SRD.s_ret ?_ | with_reducible refine SRD.s_retN ?_ | with_reducible refine SRD.s_drop ?_ | with_reducible refine SRD.s_asg ?_ | with_reducible refine SRD.s_par ?_ | with_reducible refine SRD.s_par2 ?_ | with_reducible refine SRD.s_par3 ?_ | with_reducible refine SRD.s_par33 ?_ | with_reducible refine SRD.s_gSub ?_ | with_reducible refine SRD.s_gCons ?_ | with_reducible refine SRD.s_gNil ?_ | with_reducible refine SRD.s_gFld ?_ | with_reducible refine SRD.s_sFld ?_ | with_reducible refine SRD.s_fld ?_ | with_reducible refine SRD.s_C ?_ | with_reducible refine SRD.s_op ?_ | with_reducible refine SRD.s_un ?_ | with_reducible refine SRD.s_rI0 ?_ | with_reducible refine SRD.s_rU ?_ | with_reducible refine SRD.s_test ?_ | with_reducible refine SRD.s_tB ?_ | with_reducible refine SRD.s_exB ?_ | with_reducible refine SRD.s_not ?_ | with_reducible refine SRD.s_and ?_ | with_reducible refine SRD.s_or ?_ | with_reducible refine SRD.s_andV ?_ | with_reducible refine SRD.s_orV ?_ | with_reducible refine SRD.s_notV ?_ | with_reducible refine SRD.s_if ?_ | with_reducible refine SRD.s_chain ?_ | with_reducible refine SRD.s_nil ?_ | with_reducible refine SRD.s_cons ?_ | with_reducible refine SRD.s_CB ?_ | with_reducible refine SRD.s_tup ?_ | with_reducible refine SRD.s_lst ?_ | with_reducible refine SRD.s_callR ?_ | with_reducible refine SRD.s_makeR ?_ | with_reducible refine SRD.s_methR ?_ | with_reducible refine SRD.s_propR ?_ | with_reducible refine SRD.s_bm ?_ | with_reducible refine SRD.s_sl ?_ | with_reducible refine SRD.s_noPart ?_ | with_reducible refine SRD.s_part ?_ | with_reducible refine SRD.s_exI ?_ | with_reducible refine SRD.s_int1 ?_ | with_reducible refine SRD.s_int1b ?_ | with_reducible refine SRD.s_max2 ?_ | with_reducible refine SRD.s_ex2s ?_ | with_reducible refine SRD.s_isN ?_ | with_reducible refine SRD.s_yes ?_ | with_reducible refine SRD.s_lc ?_ | with_reducible refine SRD.s_for ?_ | with_reducible refine SRD.s_iList ?_ | with_reducible refine SRD.s_iTup ?_ | with_reducible refine SRD.s_iStr ?_ | with_reducible refine SRD.s_iRng1 ?_ | with_reducible refine SRD.s_iRng2 ?_ | with_reducible refine SRD.s_itS ?_ | with_reducible refine SRD.s_iteT ?_ | with_reducible refine SRD.s_iteF ?_ | with_reducible refine SRD.s_iteNT ?_ | with_reducible refine SRD.s_iteNF ?_ | with_reducible refine SRD.s_iEnumT ?_ | with_reducible refine SRD.s_join ?_ | with_reducible refine SRD.s_isS ?_ | with_reducible refine SRD.s_lenSetT ?_ | with_reducible refine SRD.s_lenSetL ?_ | with_reducible refine SRD.s_dnotin ?_ | with_reducible refine SRD.s_dget ?_ | with_reducible refine SRD.s_dput ?_ | with_reducible refine SRD.s_dnewK ?_ | with_reducible refine SRD.s_dnewT ?_ | with_reducible refine SRD.isiII ?_ | with_reducible refine SRD.isiIB ?_ | with_reducible refine SRD.isiSS ?_ | with_reducible refine SRD.s_sign ?_ | ((with_reducible apply SRD.s_var); (focus (rfl; done))) | ((with_reducible apply SRD.s_gName); (focus (rfl; done))) | ((with_reducible apply SRD.s_sz); (focus (rfl; done))) | ((with_reducible apply SRD.s_ixL); (focus ((first | assumption | exact L2.upd_same | exact (L2.upd_ne (by assumption)).trans (by assumption) | exact (L2.upd_ne (Ne.symm (by assumption))).trans (by assumption)); done)); (focus ((first | assumption | (apply L2.atI_nat; assumption) | (apply L2.atI_nat (j := 0); rfl) | (apply L2.atI_nat (j := 1); rfl) | (apply L2.atI_nat (j := 2); rfl) | (apply L2.atI_nat (j := 3); rfl) | (apply L2.atI_nat (j := 4); rfl) | (apply L2.atI_nat (j := 5); rfl)); done))) | ((with_reducible apply SRD.s_ixT); (focus ((first | assumption | exact L2.SqT.of (by first | assumption | exact L2.upd_same)); done)); (focus ((first | assumption | (apply L2.atI_nat; assumption) | (apply L2.atI_nat (j := 0); rfl) | (apply L2.atI_nat (j := 1); rfl) | (apply L2.atI_nat (j := 2); rfl) | (apply L2.atI_nat (j := 3); rfl) | (apply L2.atI_nat (j := 4); rfl) | (apply L2.atI_nat (j := 5); rfl)); done))) | ((with_reducible apply SRD.s_setL0); (focus ((first | assumption | exact L2.upd_same | exact (L2.upd_ne (by assumption)).trans (by assumption) | exact (L2.upd_ne (Ne.symm (by assumption))).trans (by assumption)); done))) | ((with_reducible apply SRD.s_setL1); (focus ((first | assumption | exact L2.upd_same | exact (L2.upd_ne (by assumption)).trans (by assumption) | exact (L2.upd_ne (Ne.symm (by assumption))).trans (by assumption)); done))) | ((with_reducible apply SRD.s_setL2); (focus ((first | assumption | exact L2.upd_same | exact (L2.upd_ne (by assumption)).trans (by assumption) | exact (L2.upd_ne (Ne.symm (by assumption))).trans (by assumption)); done))) | ((with_reducible apply SRD.s_lenL); (focus ((first | assumption | exact L2.upd_same | exact (L2.upd_ne (by assumption)).trans (by assumption) | exact (L2.upd_ne (Ne.symm (by assumption))).trans (by assumption)); done))) | ((with_reducible apply SRD.s_lenT); (focus ((first | assumption | exact L2.SqT.of (by first | assumption | exact L2.upd_same)); done))) | ((with_reducible apply SRD.s_tupOf); (focus ((first | assumption | exact L2.upd_same | exact (L2.upd_ne (by assumption)).trans (by assumption) | exact (L2.upd_ne (Ne.symm (by assumption))).trans (by assumption)); done))) | ((with_reducible apply SRD.s_lstOf); (focus ((first | assumption | exact L2.upd_same | exact (L2.upd_ne (by assumption)).trans (by assumption) | exact (L2.upd_ne (Ne.symm (by assumption))).trans (by assumption)); done))) | ((with_reducible apply SRD.s_tyL); (focus ((first | assumption | exact L2.upd_same | exact (L2.upd_ne (by assumption)).trans (by assumption) | exact (L2.upd_ne (Ne.symm (by assumption))).trans (by assumption)); done))) | ((with_reducible apply SRD.s_eq); (focus (rfl; done))) | ((with_reducible apply SRD.s_ne); (focus (rfl; done))) | ((with_reducible apply SRD.s_gTup); (focus ((first | assumption | exact L2.SqT.of (by first | assumption | exact L2.upd_same)); done)); (focus (rfl; done))) | ((with_reducible apply SRD.s_getF); (focus ((first | assumption | exact L2.upd_same | exact (L2.upd_ne (by assumption)).trans (by assumption) | exact (L2.upd_ne (Ne.symm (by assumption))).trans (by assumption)); done)); (focus (assumption; done)); (focus (assumption; done)); (focus ((first | exact SRD.lk_house | exact SRD.lk_past | rfl); done))) | ((with_reducible apply SRD.s_setF); (focus ((first | assumption | exact L2.upd_same | exact (L2.upd_ne (by assumption)).trans (by assumption) | exact (L2.upd_ne (Ne.symm (by assumption))).trans (by assumption)); done)); (focus (assumption; done)); (focus (assumption; done)); (focus (exact Nat.le_of_ble_eq_true rfl; done))) | ((with_reducible apply SRD.s_insM); (focus ((first | assumption | exact L2.upd_same | exact (L2.upd_ne (by assumption)).trans (by assumption) | exact (L2.upd_ne (Ne.symm (by assumption))).trans (by assumption)); done)); (focus ((first | exact SRD.lk_no (by decide +kernel) (by decide +kernel) | rfl); done))) | ((with_reducible apply SRD.s_insP); (focus ((first | assumption | exact L2.upd_same | exact (L2.upd_ne (by assumption)).trans (by assumption) | exact (L2.upd_ne (Ne.symm (by assumption))).trans (by assumption)); done))) | ((with_reducible apply SRD.s_itL); (focus ((first | assumption | exact L2.upd_same | exact (L2.upd_ne (by assumption)).trans (by assumption) | exact (L2.upd_ne (Ne.symm (by assumption))).trans (by assumption)); done))) | ((with_reducible apply SRD.s_itT); (focus ((first | assumption | exact L2.SqT.of (by first | assumption | exact L2.upd_same)); done))) | ((with_reducible apply SRD.s_rng1); (focus (omega; done))) | ((with_reducible apply SRD.s_rng2); (focus (omega; done))) | ((with_reducible apply SRD.s_enT); (focus ((first | assumption | exact L2.SqT.of (by first | assumption | exact L2.upd_same)); done))) | ((with_reducible apply SRD.s_acc); (focus ((first | assumption | exact L2.upd_same | exact (L2.upd_ne (by assumption)).trans (by assumption) | exact (L2.upd_ne (Ne.symm (by assumption))).trans (by assumption)); done)); (focus (exact L2.small1000 (by first | omega | (simp only [List.length_append, List.length_cons, List.length_nil, List.length_map, List.length_range]; omega)); done))) | ((with_reducible apply SRD.s_app); (focus ((first | assumption | exact L2.upd_same | exact (L2.upd_ne (by assumption)).trans (by assumption) | exact (L2.upd_ne (Ne.symm (by assumption))).trans (by assumption)); done)); (focus (exact L2.small1000 (by first | omega | (simp only [List.length_append, List.length_cons, List.length_nil, List.length_map, List.length_range]; omega)); done))) | ((with_reducible apply SRD.s_eqR); (focus (rfl; done))) | ((with_reducible apply SRD.isiTT); (focus ((first | assumption | exact L2.SqT.of (by first | assumption | exact L2.upd_same)); done))) | ((with_reducible apply SRD.s_getK); (focus ((first | assumption | exact L2.upd_same | exact (L2.upd_ne (by assumption)).trans (by assumption) | exact (L2.upd_ne (Ne.symm (by assumption))).trans (by assumption)); done))) | ((with_reducible apply SRD.s_getK'); (focus ((first | assumption | exact L2.upd_same | exact (L2.upd_ne (by assumption)).trans (by assumption) | exact (L2.upd_ne (Ne.symm (by assumption))).trans (by assumption)); done)); (focus (assumption; done))) | ((with_reducible apply SRD.s_putK); (focus ((first | assumption | exact L2.upd_same | exact (L2.upd_ne (by assumption)).trans (by assumption) | exact (L2.upd_ne (Ne.symm (by assumption))).trans (by assumption)); done)); (focus (exact L2.small1000 (by first | omega | (simp only [List.length_append, List.length_cons, List.length_nil, List.length_map, List.length_range]; omega)); done))) | ((with_reducible apply SRD.s_getT); (focus ((first | assumption | exact L2.upd_same | exact (L2.upd_ne (by assumption)).trans (by assumption) | exact (L2.upd_ne (Ne.symm (by assumption))).trans (by assumption)); done)); (focus ((first | assumption | exact L2.upd_same | exact (L2.upd_ne (by assumption)).trans (by assumption) | exact (L2.upd_ne (Ne.symm (by assumption))).trans (by assumption)); done))) | ((with_reducible apply SRD.s_getT'); (focus ((first | assumption | exact L2.upd_same | exact (L2.upd_ne (by assumption)).trans (by assumption) | exact (L2.upd_ne (Ne.symm (by assumption))).trans (by assumption)); done)); (focus ((first | assumption | exact L2.upd_same | exact (L2.upd_ne (by assumption)).trans (by assumption) | exact (L2.upd_ne (Ne.symm (by assumption))).trans (by assumption)); done)); (focus (assumption; done))) | ((with_reducible apply SRD.s_putT); (focus ((first | assumption | exact L2.upd_same | exact (L2.upd_ne (by assumption)).trans (by assumption) | exact (L2.upd_ne (Ne.symm (by assumption))).trans (by assumption)); done)); (focus ((first | assumption | exact L2.upd_same | exact (L2.upd_ne (by assumption)).trans (by assumption) | exact (L2.upd_ne (Ne.symm (by assumption))).trans (by assumption)); done)); (focus (exact L2.small1000 (by first | omega | (simp only [List.length_append, List.length_cons, List.length_nil, List.length_map, List.length_range]; omega)); done))) | ((with_reducible apply SRD.s_mod); (focus (omega; done))) | ((with_reducible apply SRD.s_mul2); (focus (omega; done))) | ((with_reducible apply SRD.s_mul1); (focus (omega; done))) | ((with_reducible apply SRD.s_fdiv); (focus (omega; done)))))

/-! Own rules, seventh part: a tuple that is known to have no dict; its method index. -/
namespace SRO
open PySem PySem.Spec PyProof.Rows L2
/-- a tuple object, whole -/
def TupD (a : Addr) (xs : List V) : HO := .ext fun h => xs.length ≤ sizeLine ∧ ∃ (its : List Value) (n : Nat), Vals xs its ∧ h.get? a = some ({ cls := .type "tuple", data := .seq its.toArray n } : Obj)
section
variable {X : Cx} {pins : List (Addr × Obj)} {σ : L2.St} {H : Hp} {s : Shared} {a : Addr} {xs : List V}
theorem tupD_at (I : Inv X pins σ H s) (h : H a = some (TupD a xs)) : xs.length ≤ sizeLine ∧ ∃ (its : List Value) (n : Nat), Vals xs its ∧ s.heap.get? a = some ({ cls := .type "tuple", data := .seq its.toArray n } : Obj) := (I.hok a _ h).1
theorem tupD_is (I : Inv X pins σ H s) (h : H a = some (TupD a xs)) : ∃ its : List Value, Vals xs its ∧ IsTup s.heap a its.toArray := by
  obtain ⟨_, its, n, r, e⟩ := tupD_at I h
  exact ⟨its, r, _, e, rfl, n, rfl⟩
end
/-- tuple(list) -/
theorem call_tupD {X : Cx} : CallR X (.type "tuple") (fun xs H Q => ∃ p ys, xs = [.ref p] ∧ SqL X.K H p ys ∧ ∀ l, H l = none → Q (.ref l) (upd H l (TupD l ys))) := by
  intro pins s σ H xs us Q I r h
  obtain ⟨p, ys, rfl, hq, q⟩ := h
  obtain ⟨u, rfl, rx⟩ : ∃ u, us = [u] ∧ RelV (.ref p) u := by
    cases r with
    | cons a t => cases t; exact ⟨_, rfl, a⟩
  cases rx
  obtain ⟨its, r', pl, hz⟩ := I.list hq
  have hlen := r'.length
  refine call_tuple_list pl.isList (fun h' kp => ?_) (by simp only [List.size_toArray] <;> omega)
  have I1 : Inv X pins σ H { s with heap := h' } := I.kept (t' := s.toks) kp
  have I2 : Inv X pins σ (upd H h'.objs.size (TupD h'.objs.size ys)) { s with heap := h'.push { cls := .type "tuple", data := .seq its.toArray } } :=
    I1.laid (t' := s.toks) (fun b o e => Heap.get?_push_of_some _ e) (Nat.le_refl _)
      (show ObjOk X.prog X.w _ _ _ (TupD h'.objs.size ys) from ⟨⟨hz, its, 0, r', Heap.get?_push_size _ rfl⟩, ⟨_, Heap.get?_push_size _ rfl⟩, fun h1 h2 ⟨hz, its, n, r, e⟩ kp => ⟨hz, its, n, r, kp _ e⟩⟩)
  exact ⟨.ref h'.objs.size, _, I2, rfl, q _ (I1.hok.fresh (Nat.le_refl _))⟩
/-- x not in such a tuple -/
def rNotInTD : R2 := fun x y H Q => ∃ p xs, y = .ref p ∧ H p = some (TupD p xs) ∧ flatV x = true ∧ xs.all flatV = true ∧ Q (.bl (!inV x xs)) H
theorem op_notIn_tupD {X : Cx} : OpR X (compareOp .NotIn) rNotInTD := by
  intro pins s σ H x y v u Q I rx ry h
  obtain ⟨p, xs, rfl, hq, fx, fs, q⟩ := h
  cases ry
  obtain ⟨its, r, pl⟩ := tupD_is I hq
  refine SeqAt.notIn_tupleAt (eqU x) pl (fun w hw => mem_eqAt rx fx r fs w (by simpa using hw)) ⟨.bl _, H, I, rfl, ?_⟩
  rw [show its.toArray.any (eqU x) = its.any (eqU x) by simp, any_eqU r fs]
  exact q
def tyTD (x : V) (H : Hp) : Prop := ∃ a xs, x = .ref a ∧ H a = some (TupD a xs)
theorem ty_tupD {X : Cx} : TyOk X "tuple" tyTD := by
  rintro pins σ H s x v I rx ⟨a, xs, rfl, h⟩
  cases rx
  obtain ⟨_, its, n, r, e⟩ := tupD_at I h
  refine ⟨⟨_, e, rfl⟩, fun b eb => ?_⟩
  cases eb
  exact ⟨_, e, rfl⟩
def rIndexTD : V → List V → Hp → VK → Prop := fun x xs H Q => ∃ p, ∃ ys : List Str, ∃ z j, x = .ref p ∧ xs = [.str z] ∧ H p = some (TupD p (ys.map V.str)) ∧ ys[j]? = some z ∧ (∀ m, m < j → ys[m]? ≠ some z) ∧ Q (.int (j : Nat)) H
theorem mt_index_tupD {X : Cx} : MtR X "tuple.index" rIndexTD := by
  intro pins s σ H x xs v us Q I rx rs h
  obtain ⟨p, ys, z, j, rfl, rfl, hq, hy, hno, q⟩ := h
  cases rx
  obtain ⟨u, rfl, t, rfl⟩ : ∃ u, us = [u] ∧ RelV (.str z) u := by
    cases rs with
    | cons a t => cases t; exact ⟨_, rfl, a⟩
  obtain ⟨its, r, pl⟩ := tupD_is I hq
  obtain ⟨⟨cls, dd, dt, sl⟩, ho, hc, n, hd⟩ := pl
  simp only at hc hd
  subst hc
  subst hd
  have hl : its.toArray.size = ys.length := by rw [List.size_toArray, ← r.length, List.length_map]
  have hj : j < its.toArray.size := by rw [hl]; exact (List.getElem?_eq_some_iff.mp hy).1
  have at' : ∀ (m : Nat) (hm : m < its.toArray.size), ∃ y t', ys[m]? = some y ∧ its.toArray[m] = Value.str y t' := fun m hm => by
    have hm' : m < ys.length := by rw [← hl]; exact hm
    obtain ⟨w, hw, t', hw'⟩ := r.get (i := m) (x := .str ys[m]) (by simp [hm'])
    refine ⟨ys[m], t', List.getElem?_eq_getElem hm', ?_⟩
    have e := (List.getElem?_eq_some_iff.mp hw).2
    rw [← hw', ← e]
    simp
  have fl : (ys.map V.str).all flatV = true := by simp [flatV]
  refine call_meets PySem.F.slot_tuple_index ⟨_, ho, rfl⟩ PySem.F.entry_tuple_index (PySem.F.args_tuple_index_2 _ _) (TI.tuple_indexAt p its.toArray n dd sl (.str z t) (eqU (.str z)) j hj ?_ ?_)
    ⟨ho, fun w hw => mem_eqAt (x := .str z) ⟨t, rfl⟩ rfl r fl w (by simpa using hw), ⟨.int (j : Nat), H, I.tok _, ⟨_, rfl⟩, q⟩⟩
  · obtain ⟨y, t', h1, h2⟩ := at' j hj
    rw [hy] at h1
    cases h1
    rw [h2]
    show (z == z) = true
    exact beq_self_eq_true z
  · intro m hm hmj
    obtain ⟨y, t', h1, h2⟩ := at' m hm
    rw [h2]
    show (y == z) = false
    exact beq_eq_false_iff_ne.mpr fun e => hno m hmj (e ▸ h1)
theorem pe_indexTD {X : Cx} {o e : Expr} {es : List Expr} {to : TE} {t : TA} {apos cpos : Pos} (ho : PE X o to) (ha : PA X (e :: es) t)
    (hbase : attributeBase o "index" X.env (eval o X.env) = eval o X.env := by rfl)
    (hfew : ((backTo cpos (starEach (e :: es) X.env)).all (fun x => !x.1) && (backToKw cpos (keywordEach [] X.env)).all (fun x => x.1.isSome)
      && decide ((e :: es).length + ([] : List Keyword).length + (if ([] : List Keyword).isEmpty then 0 else 1) < 30)) = true := by rfl)
    (hline : (apos.endLine == cpos.line) = true := by rfl) (hs : starEach (e :: es) X.env = (false, eval e X.env) :: starEach es X.env := by rfl) (hplain : (backTo cpos (starEach es X.env)).any (·.1) = false := by rfl) :
    PE X (.Call (.Attribute o "index" apos) (e :: es) [] cpos) (tMG tyTD rIndexTD to t) := pe_mG ty_tupD PySem.F.plainAttrs_tuple PySem.F.slot_tuple_index PySem.F.type_tuple_index mt_index_tupD ho ha hbase hfew hline hs hplain
end SRO
/-! Monitors: the small methods. -/
namespace SRD
open PySem PySem.Spec PyProof.Rows L2 SRT
theorem ktupD {X : Cx} {K : PySem.W.Frag} (e : X.K = K := by rfl) : CallR X (.type "tuple") (fun xs H Q => ∃ p ys, xs = [.ref p] ∧ SqL K H p ys ∧ ∀ l, H l = none → Q (.ref l) (upd H l (SRO.TupD l ys))) := e ▸ SRO.call_tupD
theorem s_mG {σ : L2.St} {H : Hp} {Q : VK} {ty : V → Hp → Prop} {r : V → List V → Hp → VK → Prop} {to : TE} {t : TA} (h : to σ H fun x H1 => ty x H1 ∧ t σ H1 fun xs H2 => r x xs H2 Q) : tMG ty r to t σ H Q := h
theorem s_tupD {K : PySem.W.Frag} {H : Hp} {p : Addr} {ys : List V} {P : List V → Addr → Prop} (h : H p = some (.lst ys)) (q : ∀ l, H l = none → P ys l) : ∃ p' ys, [V.ref p] = [.ref p'] ∧ SqL K H p' ys ∧ ∀ l, H l = none → P ys l := ⟨_, _, rfl, SqL.of h, q⟩
section
variable {w : World} {K : PySem.W.Frag} {mg : Str → Option Value} {base : Heap} {C : Addr}
abbrev N_Monitor_go_on : List Str := ["self", "house"]
theorem sc_Monitor_go_on : FnScope N_Monitor_go_on ["self", "house"] (defScope s_Monitor_go_on) := ⟨rfl, rfl, rfl, by decide +kernel, rfl, by decide +kernel, by decide +kernel⟩
def spGoOn (C : Addr) : Sp := fun vs H Q _ => ∃ (m dx pa hs : Addr) (v0 : V) (past : List V), vs = [.ref m, .ref hs] ∧ H m = some (.ins C dx (mf v0 (.ref pa))) ∧ H pa = some (.lst past) ∧ past.length ≤ 900 ∧
  Q .non (upd (upd H pa (.lst (past ++ [v0]))) m (.ins C dx (mf (.ref hs) (.ref pa))))
theorem ok_go_on (T : Txt K mg) (D : MonC K C) : FnR PP w K mg base CX0 1 (He.ma K (aMon K) "go_on") (spGoOn C) := by
  refine defR (T.def_ 39 rfl) sc_Monitor_go_on (fun _ _ _ _ _ _ us hl => match us, hl with | [_, _], _ => rfl) ?_ ?_
  · rintro vs H Q E ⟨m, dx, pa, hs, v0, past, rfl, _⟩
    rfl
  rintro cdv A outer s H vs Q E hr ⟨m, dx, pa, hs, v0, past, rfl, hm, hp, hl, q⟩
  have c1 := D.cl
  have n1 := D.nh
  have n2 := D.np
  have ne : m ≠ pa := fun z => by rw [z, hp] at hm; cases hm
  refine ⟨_, (pss_cons (ps_expr (kbm (K := K) PySem.F.plainAttrs_list PySem.F.slot_list_append PySem.F.type_list_append mt_append (kfld (K := K) (pv 0) rfl) (pa_cons (kfld (K := K) (pv 0) rfl) pa_nil)))
      (pss_one (kps_fld (K := K) (pv 0) (pv 1) rfl))), ?_⟩
  ac_rfl
  rw [pf_house]
  exact q
abbrev N_Monitor_ticks : List Str := ["self"]
theorem sc_Monitor_ticks : FnScope N_Monitor_ticks ["self"] (defScope s_Monitor_ticks) := ⟨rfl, rfl, rfl, by decide +kernel, rfl, by decide +kernel, by decide +kernel⟩
def spTicks (K : PySem.W.Frag) (C : Addr) : Sp := fun vs H Q _ => ∃ (m pa : Addr) (S : Ms) (pn : Nat), vs = [.ref m] ∧ MonAt K H C m pa S pn ∧ Q (.int (S.tk : Nat)) H
theorem ok_ticks (T : Txt K mg) (D : MonC K C) : FnR PP w K mg base CX0 1 (pg K (aMon K) "ticks") (spTicks K C) := by
  refine defR (T.def_ 50 rfl) sc_Monitor_ticks (fun _ _ _ _ _ _ us hl => match us, hl with | [_], _ => rfl) ?_ ?_
  · rintro vs H Q E ⟨m, pa, S, pn, rfl, _⟩
    rfl
  rintro cdv A outer s H vs Q E hr ⟨m, pa, S, pn, rfl, ⟨dx, hs, past, hm, ⟨sv, lga, qq, xs, ys, h1, h2, h3, h4, h5⟩, hp, hpl⟩, q⟩
  have c1 := D.cl
  have n1 := D.nh
  refine ⟨_, (pss_one (ps_ret (pe_ix (kix_tup (K := K)) (kfld (K := K) (pv 0) rfl) pe_int (fun _ _ => rfl)))), ?_⟩
  ac_rfl
  exact q
abbrev N_Monitor_names : List Str := ["self", "service"]
theorem sc_Monitor_names : FnScope N_Monitor_names ["self"] (defScope s_Monitor_names) := ⟨rfl, rfl, rfl, by decide +kernel, rfl, by decide +kernel, by decide +kernel⟩
def spNames (K : PySem.W.Frag) (C : Addr) : Sp := fun vs H Q _ => ∃ (m pa : Addr) (S : Ms) (pn : Nat), vs = [.ref m] ∧ MonAt K H C m pa S pn ∧ S.svs.length ≤ 6 ∧ ∀ (t : Addr) (H' : Hp), Same H H' → H' t = some (SRO.TupD t ((S.svs.map (·.nm)).map V.str)) → Q (.ref t) H'
theorem ok_names (T : Txt K mg) (D : MonC K C) : FnR PP w K mg base CX0 1 (pg K (aMon K) "names") (spNames K C) := by
  refine defR (T.def_ 49 rfl) sc_Monitor_names (fun _ _ _ _ _ _ us hl => match us, hl with | [_], _ => rfl) ?_ ?_
  · rintro vs H Q E ⟨m, pa, S, pn, rfl, _⟩
    rfl
  rintro cdv A outer s H vs Q E hr ⟨m, pa, S, pn, rfl, ⟨dx, hs, past, hm, ⟨sv, lga, qq, xs, ys, h1, h2, h3, h4, h5⟩, hp, hpl⟩, hle, q⟩
  have c1 := D.cl
  have n1 := D.nh
  have hxl := h3.1
  refine ⟨_, (pss_one (ps_ret (pe_callTy (ktupD (K := K)) (by rfl) (T.free 41) boot_tuple (pa_cons (pe_lc rfl sc_Monitor_names.nd (kpi_tup (K := K) (pe_ix (kix_tup (K := K)) (kfld (K := K) (pv 0) rfl) pe_int (fun _ _ => rfl))) (blkOk_by (own := [("service", 1)]) (N := N_Monitor_names) (sc := defScope s_Monitor_names) (by decide +kernel)) (fun _ _ _ _ _ => (pg_name (i := 1) sc_Monitor_names.nd rfl (Or.inl rfl))) (fun _ _ _ _ _ => pts_nil) (fun _ _ _ _ _ => (pe_ix (kix_tup (K := K)) (pv 1) pe_int (fun _ _ => rfl)))) pa_nil)))), ?_⟩
  ac_rfl
  intro L hL
  refine lc_tup (xs := xs) (fun i H' => Same H H' ∧ H' L = some (.lst (((S.svs.map (·.nm)).map V.str).take i))) ⟨same_new hL, upd_same⟩ (fun i H' _ h => seqT h.1 h2) ?_ ?_
  · rintro i x H1 hi ⟨e, hx⟩
    have hi1 := (List.getElem?_eq_some_iff.mp hi).1
    have hs1 : S.svs[i]? = some (S.svs[i]'(by omega)) := List.getElem?_eq_getElem _
    revert hs1
    generalize S.svs[i]'(by omega) = sx
    intro hs1
    obtain ⟨b, hb1, hb2, hb3⟩ := (h3.mono e).get hs1
    rw [hb1] at hi
    cases hi
    have hb2 : SqT K H1 b [.str sx.nm, .ref sx.r, .int (sx.row : Nat), .int 0, .int (sx.p : Nat), .int (sx.f : Nat)] := hb2
    have hl : (((S.svs.map (·.nm)).map V.str).take i).length ≤ 1000 := by
      rw [List.length_take]
      omega
    ac_rfl
    refine ⟨grow0 e hL, ?_⟩
    have eg : ((S.svs.map (·.nm)).map V.str)[i]? = some (V.str sx.nm) := by rw [List.getElem?_map, List.getElem?_map, hs1]; rfl
    rw [upd_same, take_snoc eg]
  rintro H1 ⟨e, hx⟩
  have : ((S.svs.map (·.nm)).map V.str).length = xs.length := by rw [List.length_map, List.length_map, hxl]
  rw [← this, List.take_length] at hx
  ac_rfl
  refine s_tupD hx fun t ht => ?_
  exact q t _ (e.trans (same_new ht)) upd_same
abbrev N_Monitor_place : List Str := ["self", "name"]
theorem sc_Monitor_place : FnScope N_Monitor_place ["self", "name"] (defScope s_Monitor_place) := ⟨rfl, rfl, rfl, by decide +kernel, rfl, by decide +kernel, by decide +kernel⟩
def spPlace (K : PySem.W.Frag) (C : Addr) : Sp := fun vs H Q _ => ∃ (m pa : Addr) (S : Ms) (pn : Nat) (z : Str) (j : Nat), vs = [.ref m, .str z] ∧ MonAt K H C m pa S pn ∧ S.svs.length ≤ 6 ∧ (S.svs.map (·.nm))[j]? = some z ∧ (∀ i, i < j → (S.svs.map (·.nm))[i]? ≠ some z) ∧
  ∀ (H' : Hp), Same H H' → Q (.int (j : Nat)) H'
theorem ok_place (T : Txt K mg) (D : MonC K C) (F_names : FnR PP w K mg base CX0 1 (pg K (aMon K) "names") (spNames K C)) : FnR PP w K mg base CX0 3 (He.ma K (aMon K) "place") (spPlace K C) := by
  refine defR (T.def_ 47 rfl) sc_Monitor_place (fun _ _ _ _ _ _ us hl => match us, hl with | [_, _], _ => rfl) ?_ ?_
  · rintro vs H Q E ⟨m, pa, S, pn, z, j, rfl, _⟩
    rfl
  rintro cdv A outer s H vs Q E hr ⟨m, pa, S, pn, z, j, rfl, hM, hle, hj, hno, q⟩
  obtain ⟨dx, hs, past, hm, _⟩ := id hM
  refine ⟨_, (pss_cons (ps_if ((pw_or (pt_not (pt_val (pe_callB (kisi (K := K)) (by rfl) (T.free 37) boot_isinstance (pa_cons (pv 1) (pa_cons (pe_bltn (v := .ty "str") (by rfl) (T.free 40) boot_str rfl) pa_nil))))) (pw_or1 (pt_cmpR SRO.op_notIn_tupD (pv 1) (SRO.pe_propR (pv 0) D.cl D.p_names F_names (hr.mono (by decide)) pass0) (by rfl))))).pt (pss_one ps_never) pss_nil)
      (pss_one (ps_ret (SRO.pe_indexTD (SRO.pe_propR (pv 0) D.cl D.p_names F_names (hr.mono (by decide)) pass0) (pa_cons (pv 1) pa_nil))))), ?_⟩
  ac_rfl
  refine ⟨m, pa, S, pn, rfl, hM, hle, fun t H1 e1 ht => ?_⟩
  have hin : inV (.str z) ((S.svs.map (·.nm)).map V.str) = true := by
    unfold inV
    rw [List.any_eq_true]
    exact ⟨.str z, List.mem_map.mpr ⟨z, List.mem_of_getElem? hj, rfl⟩, by simp [eqV]⟩
  refine ⟨t, _, rfl, ht, rfl, by simp [flatV], ?_⟩
  rw [hin]
  ac_rfl
  have hm1 := e1 _ _ hm
  ac_rfl
  refine s_mG ?_
  ac_rfl
  refine ⟨m, pa, S, pn, rfl, hM.mono e1, hle, fun t2 H2 e2 ht2 => ?_⟩
  refine ⟨⟨t2, _, rfl, ht2⟩, ?_⟩
  ac_rfl
  exact ⟨t2, _, z, j, rfl, rfl, ht2, hj, hno, q H2 (e1.trans e2)⟩
end
end SRD
/-! Monitors: a service's row, what is set. -/
namespace SRD
open PySem PySem.Spec PyProof.Rows L2 SRT
/-- a sign: nothing, +, - -/
def sgS : Option Bool → Str
  | none => ""
  | some b => ⟨#[ckC b]⟩
def sstep (tl : Bool) (s : Sv) (o : Option Bool) : Sv := match o with
  | none => s
  | some b => { s with row := SR.nxt s.T s.row b, p := s.p + (if tl && b then 1 else 0), f := s.f + (if tl && !b then 1 else 0) }
theorem SvOk.step {K : PySem.W.Frag} {H : Hp} {s : Sv} (h : SvOk K H s) (tl : Bool) (o : Option Bool) : SvOk K H (sstep tl s o) := by
  cases o with
  | none => exact h
  | some b => exact ⟨h.rule, h.v, h.v.nxt h.lt b⟩
/-- what the rule's table shows at the service's row -/
theorem SvOk.rowAt {K : PySem.W.Frag} {H : Hp} {s : Sv} (h : SvOk K H s) : ∃ dx t xs b, H s.r = some (.ins (aRule K) dx [("table", .ref t)]) ∧ SqT K H t xs ∧ atI xs ((s.row : Nat) : Int) = some (.ref b) ∧
    SqT K H b [.str (stS (SR.stat s.T s.row)), .int ((SR.nxt s.T s.row true : Nat) : Int), .int ((SR.nxt s.T s.row false : Nat) : Int)] := by
  obtain ⟨dx, t, h1, xs, h2, h3⟩ := h.rule
  obtain ⟨b, e1, e2⟩ := h3.get h.lt
  exact ⟨dx, t, xs, b, h1, h2, atI_nat e1, e2⟩
section
variable {w : World} {K : PySem.W.Frag} {mg : Str → Option Value} {base : Heap} {C : Addr}
abbrev N_Monitor_later : List Str := ["self", "service", "sign", "name", "rule", "row", "muted", "passed", "failed"]
theorem sc_Monitor_later : FnScope N_Monitor_later ["self", "service", "sign"] (defScope s_Monitor_later) := ⟨rfl, rfl, rfl, by decide +kernel, rfl, by decide +kernel, by decide +kernel⟩
/-- later: the service behind a sign -/
def spLater (K : PySem.W.Frag) (C : Addr) (tl : Bool) : Sp := fun vs H Q _ => ∃ (m t : Addr) (s : Sv) (o : Option Bool), vs = [.ref m, .ref t, .str (sgS o)] ∧ (∃ dx fs, H m = some (.ins C dx fs)) ∧ SqT K H t (svV s) ∧ SvOk K H s ∧
  ∀ (t' : Addr) (H' : Hp), Same H H' → SqT K H' t' (svV (sstep tl s o)) → Q (.ref t') H'
theorem ok_later (T : Txt K mg) (F_Rule_rows : FnR PP w K mg base CX0 1 (pg K (aRule K) "rows") (spRuleRows K)) : FnR PP w K mg base CX0 3 (He.ma K (aMon K) "later") (spLater K C false) := by
  refine defR (T.def_ 40 rfl) sc_Monitor_later (fun _ _ _ _ _ _ us hl => match us, hl with | [_, _, _], _ => rfl) ?_ ?_
  · rintro vs H Q E ⟨m, t, s, o, rfl, _⟩
    rfl
  rintro cdv A outer s0 H vs Q E hr ⟨m, t, s, o, rfl, _, ht, hs, q⟩
  have ht1 : SqT K H t [.str s.nm, .ref s.r, .int (s.row : Nat), .int 0, .int (s.p : Nat), .int (s.f : Nat)] := ht
  obtain ⟨dx, tb, xs, b, h1, h2, h3, h4⟩ := hs.rowAt
  refine ⟨_, (pss_cons (ps_asg (pv 1) (kg_tup (K := K) (n := 6) rfl (pgs_cons (pg_name (i := 3) sc_Monitor_later.nd rfl (Or.inl rfl)) (pgs_cons (pg_name (i := 4) sc_Monitor_later.nd rfl (Or.inl rfl)) (pgs_cons (pg_name (i := 5) sc_Monitor_later.nd rfl (Or.inl rfl)) (pgs_cons (pg_name (i := 6) sc_Monitor_later.nd rfl (Or.inl rfl)) (pgs_cons (pg_name (i := 7) sc_Monitor_later.nd rfl (Or.inl rfl)) (pgs_cons (pg_name (i := 8) sc_Monitor_later.nd rfl (Or.inl rfl)) pgs_nil))))))))
      (pss_cons (ps_if (pt_cmpR op_ne (pv 2) pe_str (nomark _)) (pss_one (ps_set (i := 5) sc_Monitor_later.nd rfl (Or.inl rfl) (pe_ix (kix_tup (K := K)) (pe_ix (kix_tup (K := K)) (SRO.pe_propR (pv 4) (T.cls 62) (propB_ok (T.x 0)) F_Rule_rows (hr.mono (by decide)) pass0) (pv 5) (fun _ _ => rfl)) (pe_ifExp (pt_cmpR op_eq (pv 2) (C8.pe_gc (by rfl) (T.str 59)) (nomark _)) pe_int pe_int) (fun _ _ => rfl)))) pss_nil)
      (pss_one (ps_ret (pe_tup (pa_cons (pv 3) (pa_cons (pv 4) (pa_cons (pv 5) (pa_cons (pv 6) (pa_cons (pv 7) (pa_cons (pv 8) pa_nil))))))))))), ?_⟩
  ac_rfl
  cases o with
  | none =>
    refine s_iteF' (by decide +kernel) ?_
    ac_rfl
    intro u hu
    exact q u _ (same_new hu) (SqT.of upd_same)
  | some c =>
    refine s_iteT' (by cases c <;> decide +kernel) ?_
    ac_rfl
    refine ⟨s.r, dx, tb, rfl, h1, ?_⟩
    ac_rfl
    rw [show decide (V.str (sgS (some c)) = V.str "+") = c from ck_eq c]
    have fin : ∀ (u : Addr), H u = none → Q (.ref u) (upd H u (.tup [.str s.nm, .ref s.r, .int ((SR.nxt s.T s.row c : Nat) : Int), .int 0, .int (s.p : Nat), .int (s.f : Nat)])) := fun u hu => by
      refine q u _ (same_new hu) ?_
      have e : svV (sstep false s (some c)) = [.str s.nm, .ref s.r, .int ((SR.nxt s.T s.row c : Nat) : Int), .int 0, .int (s.p : Nat), .int (s.f : Nat)] := by
        simp [svV, sstep]
      rw [e]
      exact SqT.of upd_same
    cases c with
    | true =>
      ac_rfl
      intro u hu
      exact fin u hu
    | false =>
      ac_rfl
      intro u hu
      exact fin u hu
abbrev N_Monitor_getitem : List Str := ["self", "name", "service"]
theorem sc_Monitor_getitem : FnScope N_Monitor_getitem ["self", "name"] (defScope s_Monitor_getitem) := ⟨rfl, rfl, rfl, by decide +kernel, rfl, by decide +kernel, by decide +kernel⟩
def spGet (K : PySem.W.Frag) (C : Addr) : Sp := fun vs H Q _ => ∃ (m pa : Addr) (S : Ms) (pn : Nat) (s : Sv) (j : Nat), vs = [.ref m, .str s.nm] ∧ MonAt K H C m pa S pn ∧ S.svs.length ≤ 6 ∧ S.svs[j]? = some s ∧ (∀ i, i < j → (S.svs.map (·.nm))[i]? ≠ some s.nm) ∧
  ∀ (H' : Hp), Same H H' → Q (.str (stS (SR.stat s.T s.row))) H'
theorem ok_getitem (T : Txt K mg) (D : MonC K C) (F_place : FnR PP w K mg base CX0 3 (He.ma K (aMon K) "place") (spPlace K C)) (F_Rule_rows : FnR PP w K mg base CX0 1 (pg K (aRule K) "rows") (spRuleRows K)) : FnR PP w K mg base CX0 4 (He.ma K (aMon K) "__getitem__") (spGet K C) := by
  refine defR (T.def_ 51 rfl) sc_Monitor_getitem (fun _ _ _ _ _ _ us hl => match us, hl with | [_, _], _ => rfl) ?_ ?_
  · rintro vs H Q E ⟨m, pa, S, pn, s, j, rfl, _⟩
    rfl
  rintro cdv A outer s0 H vs Q E hr ⟨m, pa, S, pn, s, j, rfl, hM, hle, hj, hno, q⟩
  obtain ⟨dx, hs, past, hm, ⟨sv, lga, qq, xs, ys, h1, h2, h3, h4, h5⟩, hp, hpl⟩ := id hM
  have c1 := D.cl
  have n1 := D.nh
  refine ⟨_, (pss_cons (ps_set (i := 2) sc_Monitor_getitem.nd rfl (Or.inl rfl) (pe_ix (kix_tup (K := K)) (pe_ix (kix_tup (K := K)) (kfld (K := K) (pv 0) rfl) pe_int (fun _ _ => rfl)) (SRO.pe_methR (pv 0) D.cl D.m_place F_place (hr.mono (by decide)) pass0 (pa_cons (pv 1) pa_nil)) (fun _ _ => rfl)))
      (pss_one (ps_ret (pe_ix (kix_tup (K := K)) (pe_ix (kix_tup (K := K)) (SRO.pe_propR (pe_ix (kix_tup (K := K)) (pv 2) pe_int (fun _ _ => rfl)) (T.cls 62) (propB_ok (T.x 0)) F_Rule_rows (hr.mono (by decide)) pass0) (pe_ix (kix_tup (K := K)) (pv 2) pe_int (fun _ _ => rfl)) (fun _ _ => rfl)) pe_int (fun _ _ => rfl))))), ?_⟩
  ac_rfl
  refine ⟨m, pa, S, pn, s.nm, j, rfl, hM, hle, by rw [List.getElem?_map, hj]; rfl, hno, fun H1 e1 => ?_⟩
  obtain ⟨b, hb1, hb2, hb3⟩ := (h3.mono e1).get hj
  have hb2 : SqT K H1 b [.str s.nm, .ref s.r, .int (s.row : Nat), .int 0, .int (s.p : Nat), .int (s.f : Nat)] := hb2
  have h21 := seqT e1 h2
  obtain ⟨dy, tb, zs, c, g1, g2, g3, g4⟩ := hb3.rowAt
  ac_rfl
  refine ⟨s.r, dy, tb, rfl, g1, ?_⟩
  ac_rfl
  exact q H1 e1
abbrev N_Tallying_tally : List Str := ["self", "name"]
theorem sc_Tallying_tally : FnScope N_Tallying_tally ["self", "name"] (defScope s_Tallying_tally) := ⟨rfl, rfl, rfl, by decide +kernel, rfl, by decide +kernel, by decide +kernel⟩
def spTally (K : PySem.W.Frag) (C : Addr) : Sp := fun vs H Q _ => ∃ (m pa : Addr) (S : Ms) (pn : Nat) (s : Sv) (j : Nat), vs = [.ref m, .str s.nm] ∧ MonAt K H C m pa S pn ∧ S.svs.length ≤ 6 ∧ S.svs[j]? = some s ∧ (∀ i, i < j → (S.svs.map (·.nm))[i]? ≠ some s.nm) ∧
  ∀ (t : Addr) (H' : Hp), Same H H' → H' t = some (.tup [.int (s.p : Nat), .int (s.f : Nat)]) → Q (.ref t) H'
theorem ok_tally (T : Txt K mg) (D : MonC K C) (F_place : FnR PP w K mg base CX0 3 (He.ma K (aMon K) "place") (spPlace K C)) : FnR PP w K mg base CX0 4 (He.ma K (He.ga K "Tallying") "tally") (spTally K C) := by
  refine defR (T.def_ 54 rfl) sc_Tallying_tally (fun _ _ _ _ _ _ us hl => match us, hl with | [_, _], _ => rfl) ?_ ?_
  · rintro vs H Q E ⟨m, pa, S, pn, s, j, rfl, _⟩
    rfl
  rintro cdv A outer s0 H vs Q E hr ⟨m, pa, S, pn, s, j, rfl, hM, hle, hj, hno, q⟩
  obtain ⟨dx, hs, past, hm, ⟨sv, lga, qq, xs, ys, h1, h2, h3, h4, h5⟩, hp, hpl⟩ := id hM
  have c1 := D.cl
  have n1 := D.nh
  refine ⟨_, (pss_one (ps_ret (pe_slice (ksl_tup (K := K)) (pe_ix (kix_tup (K := K)) (pe_ix (kix_tup (K := K)) (kfld (K := K) (pv 0) rfl) pe_int (fun _ _ => rfl)) (SRO.pe_methR (pv 0) D.cl D.m_place F_place (hr.mono (by decide)) pass0 (pa_cons (pv 1) pa_nil)) (fun _ _ => rfl)) (po_some pe_int) po_none))), ?_⟩
  ac_rfl
  refine ⟨m, pa, S, pn, s.nm, j, rfl, hM, hle, by rw [List.getElem?_map, hj]; rfl, hno, fun H1 e1 => ?_⟩
  obtain ⟨b, hb1, hb2, hb3⟩ := (h3.mono e1).get hj
  have h21 := seqT e1 h2
  ac_rfl
  refine s_slLo (k := 4) hb2 rfl (by decide) (by simp [svV]) rfl fun t ht => ?_
  exact q t _ (e1.trans (same_new ht)) upd_same
abbrev N_Muting_muted : List Str := ["self", "service"]
theorem sc_Muting_muted : FnScope N_Muting_muted ["self"] (defScope s_Muting_muted) := ⟨rfl, rfl, rfl, by decide +kernel, rfl, by decide +kernel, by decide +kernel⟩
def spMuted (K : PySem.W.Frag) (C : Addr) : Sp := fun vs H Q _ => ∃ (m pa : Addr) (S : Ms) (pn : Nat), vs = [.ref m] ∧ MonAt K H C m pa S pn ∧ ∀ (t : Addr) (H' : Hp), Same H H' → H' t = some (.tup []) → Q (.ref t) H'
theorem ok_muted (T : Txt K mg) (D : MonC K C) : FnR PP w K mg base CX0 1 (pg K (He.ga K "Muting") "muted") (spMuted K C) := by
  refine defR (T.def_ 53 rfl) sc_Muting_muted (fun _ _ _ _ _ _ us hl => match us, hl with | [_], _ => rfl) ?_ ?_
  · rintro vs H Q E ⟨m, pa, S, pn, rfl, _⟩
    rfl
  rintro cdv A outer s0 H vs Q E hr ⟨m, pa, S, pn, rfl, hM, q⟩
  obtain ⟨dx, hs, past, hm, ⟨sv, lga, qq, xs, ys, h1, h2, h3, h4, h5⟩, hp, hpl⟩ := id hM
  have c1 := D.cl
  have n1 := D.nh
  refine ⟨_, (pss_one (ps_ret (pe_callTy (ktupOf (K := K)) (by rfl) (T.free 41) boot_tuple (pa_cons (pe_lc rfl sc_Muting_muted.nd (kpi_tup (K := K) (pe_ix (kix_tup (K := K)) (kfld (K := K) (pv 0) rfl) pe_int (fun _ _ => rfl))) (blkOk_by (own := [("service", 1)]) (N := N_Muting_muted) (sc := defScope s_Muting_muted) (by decide +kernel)) (fun _ _ _ _ _ => (pg_name (i := 1) sc_Muting_muted.nd rfl (Or.inl rfl))) (fun _ _ _ _ _ => pts_one (pt_cmpR op_gt (pe_ix (kix_tup (K := K)) (pv 1) pe_int (fun _ _ => rfl)) pe_int (nomark _))) (fun _ _ _ _ _ => (pe_ix (kix_tup (K := K)) (pv 1) pe_int (fun _ _ => rfl)))) pa_nil)))), ?_⟩
  ac_rfl
  intro L hL
  refine lc_tup (xs := xs) (fun i H' => Same H H' ∧ H' L = some (.lst [])) ⟨same_new hL, upd_same⟩ (fun i H' _ h => seqT h.1 h2) ?_ ?_
  · rintro i x H1 hi ⟨e, hx⟩
    have hi1 := (List.getElem?_eq_some_iff.mp hi).1
    rw [h3.1] at hi1
    obtain ⟨b, hb1, hb2, hb3⟩ := (h3.mono e).get (List.getElem?_eq_getElem hi1)
    rw [hb1] at hi
    cases hi
    revert hb2
    generalize S.svs[i]'hi1 = sx
    intro hb2
    have hb2 : SqT K H1 b [.str sx.nm, .ref sx.r, .int (sx.row : Nat), .int 0, .int (sx.p : Nat), .int (sx.f : Nat)] := hb2
    ac_rfl
    refine s_iteF' (by decide) ?_
    exact ⟨e, hx⟩
  rintro H1 ⟨e, hx⟩
  ac_rfl
  intro t ht
  exact q t _ (e.trans (same_new ht)) upd_same
end
end SRD
/-! Monitors: a service is replaced. -/
namespace SRD
open PySem PySem.Spec PyProof.Rows L2 SRT
section
variable {K : PySem.W.Frag} {H : Hp} {Q : VK}
theorem s_catA {a b : Addr} {xs ys : List V} (ha : SqT K H a xs) (hb : SqT K H b ys) (hz : xs.length + ys.length ≤ 1000) (q : ∀ (c : Addr) (H' : Hp), Same H H' → SqT K H' c (xs ++ ys) → Q (.ref c) H') : rCatA K (.ref a) (.ref b) H Q := by
  refine ⟨a, b, xs, ys, rfl, rfl, ha, hb, Nat.le_of_lt (small1000 hz), fun e => ?_, fun _ e => ?_, fun _ _ p hp => q p _ (same_new hp) (SqT.of upd_same)⟩
  · subst e
    exact q b H (Same.refl H) hb
  · subst e
    exact q a H (Same.refl H) (by rw [List.append_nil]; exact ha)
theorem s_catT {a b : Addr} {xs ys : List V} (ha : SqT K H a xs) (hb : SqT K H b ys) (hx : xs ≠ []) (hz : xs.length + ys.length ≤ 1000) (q : ∀ (c : Addr) (H' : Hp), Same H H' → SqT K H' c (xs ++ ys) → Q (.ref c) H') : rCatT K (.ref a) (.ref b) H Q := by
  refine ⟨a, b, xs, ys, rfl, rfl, ha, hb, hx, Nat.le_of_lt (small1000 hz), fun e => ?_, fun _ p hp => q p _ (same_new hp) (SqT.of upd_same)⟩
  subst e
  exact q a H (Same.refl H) (by rw [List.append_nil]; exact ha)
end
theorem SvsAt.set {K : PySem.W.Frag} {H : Hp} {xs : List V} {svs : List Sv} {b : Addr} {s : Sv} (h : SvsAt K H xs svs) (j : Nat) (hb : SqT K H b (svV s)) (hs : SvOk K H s) : SvsAt K H (xs.set j (.ref b)) (svs.set j s) := by
  refine ⟨by simp [h.1], fun i x s' hx hr => ?_⟩
  by_cases e : j = i
  · subst e
    have h1 := (List.getElem?_eq_some_iff.mp hx).1
    rw [List.length_set] at h1
    rw [List.getElem?_set_self h1] at hx
    rw [List.getElem?_set_self (by rw [← h.1]; exact h1)] at hr
    cases hx
    cases hr
    exact ⟨⟨b, rfl, hb⟩, hs⟩
  · rw [List.getElem?_set_ne e] at hx hr
    exact h.2 i x s' hx hr
/-- the next state, the last house put to the past -/
theorem mon_next {K : PySem.W.Frag} {H H2 : Hp} {C m pa dx hs hs' : Addr} {past : List V} {S' : Ms} (nr : C ≠ aRule K) (e : Same H H2) (hm : H m = some (.ins C dx (mf (.ref hs) (.ref pa)))) (hp : H pa = some (.lst past)) (h' : HouseAt K H2 hs' S') :
    But2 m pa H (upd (upd H2 pa (.lst (past ++ [.ref hs]))) m (.ins C dx (mf (.ref hs') (.ref pa)))) ∧ MonAt K (upd (upd H2 pa (.lst (past ++ [.ref hs]))) m (.ins C dx (mf (.ref hs') (.ref pa)))) C m pa S' (past.length + 1) := by
  have ne : pa ≠ m := fun z => by rw [z, hm] at hp; cases hp
  have b2 : But2 m pa H2 (upd (upd H2 pa (.lst (past ++ [.ref hs]))) m (.ins C dx (mf (.ref hs') (.ref pa)))) := fun c o n k hc => by rw [upd_ne n, upd_ne k]; exact hc
  exact ⟨(Same.but2 e).trans b2, dx, hs', _, upd_same, b2.house (e _ _ hm) nr (e _ _ hp) h', (upd_ne ne).trans upd_same, by rw [List.length_append]; rfl⟩
section
variable {w : World} {K : PySem.W.Frag} {mg : Str → Option Value} {base : Heap} {C : Addr}
abbrev N_Monitor_with_service : List Str := ["self", "at", "service", "services"]
theorem sc_Monitor_with_service : FnScope N_Monitor_with_service ["self", "at", "service"] (defScope s_Monitor_with_service) := ⟨rfl, rfl, rfl, by decide +kernel, rfl, by decide +kernel, by decide +kernel⟩
def spWith (K : PySem.W.Frag) (C : Addr) : Sp := fun vs H Q _ => ∃ (m pa b : Addr) (S : Ms) (pn j : Nat) (s : Sv), vs = [.ref m, .int (j : Nat), .ref b] ∧ MonAt K H C m pa S pn ∧ j < S.svs.length ∧ S.svs.length ≤ 6 ∧ SqT K H b (svV s) ∧ SvOk K H s ∧
  ∀ (hs' : Addr) (H' : Hp), Same H H' → HouseAt K H' hs' { S with svs := S.svs.set j s } → Q (.ref hs') H'
theorem ok_with_service (T : Txt K mg) (D : MonC K C) : FnR PP w K mg base CX0 1 (He.ma K (aMon K) "with_service") (spWith K C) := by
  refine defR (T.def_ 48 rfl) sc_Monitor_with_service (fun _ _ _ _ _ _ us hl => match us, hl with | [_, _, _], _ => rfl) ?_ ?_
  · rintro vs H Q E ⟨m, pa, b, S, pn, j, s, rfl, _⟩
    rfl
  rintro cdv A outer s0 H vs Q E hr ⟨m, pa, b, S, pn, j, s, rfl, hM, hj, hle, hb, hs, q⟩
  obtain ⟨dx, hs0, past, hm, ⟨sv, lga, qq, xs, ys, h1, h2, h3, h4, h5⟩, hp, hpl⟩ := id hM
  have c1 := D.cl
  have n1 := D.nh
  have hxl := h3.1
  refine ⟨_, (pss_cons (ps_set (i := 3) sc_Monitor_with_service.nd rfl (Or.inl rfl) (pe_ix (kix_tup (K := K)) (kfld (K := K) (pv 0) rfl) pe_int (fun _ _ => rfl)))
      (pss_one (ps_ret (pe_op (kcatT (K := K)) (pe_tup (pa_cons (pe_op (kcatT (K := K)) (pe_op (kcatA (K := K)) (pe_slice (ksl_tup (K := K)) (pv 3) po_none (po_some (pv 1))) (pe_tup (pa_cons (pv 2) pa_nil))) (pe_slice (ksl_tup (K := K)) (pv 3) (po_some (pe_op op_add (pv 1) pe_int)) po_none)) pa_nil)) (pe_slice (ksl_tup (K := K)) (kfld (K := K) (pv 0) rfl) (po_some pe_int) po_none))))), ?_⟩
  ac_rfl
  refine s_slHi (k := j) h2 rfl (by omega) rfl fun t1 ht1 => ?_
  have h21 := seqT (same_new (o := .tup (xs.take j)) ht1) h2
  ac_rfl
  intro t2 ht2
  have e2 : Same H (upd (upd H t1 (.tup (xs.take j))) t2 (.tup [.ref b])) := (same_new ht1).trans (same_new ht2)
  refine s_catA (seqT (same_new ht2) (SqT.of upd_same)) (SqT.of upd_same) (by rw [List.length_take]; show _ + 1 ≤ 1000; omega) fun t3 H3 e3 ht3 => ?_
  have e03 := e2.trans e3
  have h23 := seqT e03 h2
  ac_rfl
  refine s_slLo (k := j + 1) h23 (by push_cast; rfl) (by omega) (by omega) rfl fun t4 ht4 => ?_
  refine s_catT (seqT (same_new ht4) ht3) (SqT.of upd_same) (by simp) (by rw [List.length_append, List.length_take, List.length_drop]; show _ + 1 + _ ≤ 1000; omega) fun t5 H5 e5 ht5 => ?_
  have e05 := (e03.trans (same_new ht4)).trans e5
  ac_rfl
  intro t6 ht6
  have e06 := e05.trans (same_new (o := .tup [.ref t5]) ht6)
  have hm6 := e06 _ _ hm
  have h16 := seqT e06 h1
  ac_rfl
  refine s_slLo (k := 1) h16 rfl (by decide) (by simp) rfl fun t7 ht7 => ?_
  have e07 := e06.trans (same_new (o := .tup [.int (S.tk : Nat), .int qq, .ref lga]) ht7)
  refine s_catT (seqT (same_new ht7) (SqT.of upd_same)) (SqT.of upd_same) (by simp) (by simp) fun t8 H8 e8 ht8 => ?_
  have e08 := e07.trans e8
  have ex : xs.take j ++ [.ref b] ++ xs.drop (j + 1) = xs.set j (.ref b) := by
    rw [List.set_eq_take_append_cons_drop, if_pos (by omega), List.append_assoc]
    rfl
  rw [ex] at ht5
  refine q t8 H8 e08 ⟨t5, lga, qq, _, ys, ht8, seqT (((same_new ht6).trans (same_new ht7)).trans e8) ht5, (h3.mono e08).set j (seqT e08 hb) (hs.mono e08), e08 _ _ h4, h5.mono e08⟩
abbrev N_Monitor_setitem : List Str := ["self", "name", "rule", "at", "service"]
theorem sc_Monitor_setitem : FnScope N_Monitor_setitem ["self", "name", "rule"] (defScope s_Monitor_setitem) := ⟨rfl, rfl, rfl, by decide +kernel, rfl, by decide +kernel, by decide +kernel⟩
def spSet (K : PySem.W.Frag) (C : Addr) : Sp := fun vs H Q _ => ∃ (m pa r : Addr) (S : Ms) (pn j : Nat) (s : Sv) (U : SR.Tbl), vs = [.ref m, .str s.nm, .ref r] ∧ MonAt K H C m pa S pn ∧ pn ≤ 800 ∧ S.svs.length ≤ 6 ∧ S.svs[j]? = some s ∧ (∀ i, i < j → (S.svs.map (·.nm))[i]? ≠ some s.nm) ∧
  RuleAt K H r U ∧ SR.Valid U ∧ ∀ (H' : Hp), But2 m pa H H' → MonAt K H' C m pa { S with svs := S.svs.set j { s with r := r, T := U, row := 0 } } (pn + 1) → Q .non H'
theorem ok_setitem (T : Txt K mg) (D : MonC K C) (F_place : FnR PP w K mg base CX0 3 (He.ma K (aMon K) "place") (spPlace K C)) (F_check_rule : FnR PP w K mg base CX0 1 (He.ga K "check_rule") (spCheckRule K))
    (F_go_on : FnR PP w K mg base CX0 1 (He.ma K (aMon K) "go_on") (spGoOn C)) (F_with_service : FnR PP w K mg base CX0 1 (He.ma K (aMon K) "with_service") (spWith K C)) : FnR PP w K mg base CX0 4 (He.ma K (aMon K) "__setitem__") (spSet K C) := by
  refine defR (T.def_ 52 rfl) sc_Monitor_setitem (fun _ _ _ _ _ _ us hl => match us, hl with | [_, _, _], _ => rfl) ?_ ?_
  · rintro vs H Q E ⟨m, pa, r, S, pn, j, s, U, rfl, _⟩
    rfl
  rintro cdv A outer s0 H vs Q E hr ⟨m, pa, r, S, pn, j, s, U, rfl, hM, hpn, hle, hj, hno, hU, hvU, q⟩
  obtain ⟨dx, hs0, past, hm, ⟨sv, lga, qq, xs, ys, h1, h2, h3, h4, h5⟩, hp, hpl⟩ := id hM
  have c1 := D.cl
  have n1 := D.nh
  refine ⟨_, (pss_cons (ps_set (i := 3) sc_Monitor_setitem.nd rfl (Or.inl rfl) (SRO.pe_methR (pv 0) D.cl D.m_place F_place (hr.mono (by decide)) pass0 (pa_cons (pv 1) pa_nil)))
      (pss_cons (ps_expr (SRO.pe_callR F_check_rule (hr.mono (by decide)) (by rfl) (T.glo 13) (T.keep 121) pass0 (pa_cons (pv 2) pa_nil)))
      (pss_cons (ps_set (i := 4) sc_Monitor_setitem.nd rfl (Or.inl rfl) (pe_ix (kix_tup (K := K)) (pe_ix (kix_tup (K := K)) (kfld (K := K) (pv 0) rfl) pe_int (fun _ _ => rfl)) (pv 3) (fun _ _ => rfl)))
      (pss_one (ps_expr (SRO.pe_methR (pv 0) D.cl D.m_go_on F_go_on (hr.mono (by decide)) pass0 (pa_cons (SRO.pe_methR (pv 0) D.cl D.m_with_service F_with_service (hr.mono (by decide)) pass0 (pa_cons (pv 3) (pa_cons (pe_op (kcatT (K := K)) (pe_tup (pa_cons (pe_ix (kix_tup (K := K)) (pv 4) pe_int (fun _ _ => rfl)) (pa_cons (pv 2) (pa_cons pe_int pa_nil)))) (pe_slice (ksl_tup (K := K)) (pv 4) (po_some pe_int) po_none)) pa_nil))) pa_nil))))))), ?_⟩
  ac_rfl
  refine ⟨m, pa, S, pn, s.nm, j, rfl, hM, hle, by rw [List.getElem?_map, hj]; rfl, hno, fun H1 e1 => ?_⟩
  obtain ⟨dy, t, hr1, ht1⟩ := hU.mono e1
  ac_rfl
  refine ⟨r, dy, _, rfl, hr1, ?_⟩
  have hm1 := e1 _ _ hm
  have h11 := seqT e1 h1
  have h21 := seqT e1 h2
  obtain ⟨b, hb1, hb2, hb3⟩ := (h3.mono e1).get hj
  have hb2 : SqT K H1 b [.str s.nm, .ref s.r, .int (s.row : Nat), .int 0, .int (s.p : Nat), .int (s.f : Nat)] := hb2
  ac_rfl
  intro t1 ht1'
  have hb4 := seqT (same_new (o := .tup [.str s.nm, .ref r, .int 0]) ht1') hb2
  ac_rfl
  refine s_slLo (k := 3) hb4 rfl (by decide) (by simp) rfl fun t2 ht2 => ?_
  refine s_catT (seqT (same_new ht2) (SqT.of upd_same)) (SqT.of upd_same) (by simp) (by simp) fun t3 H3 e3 ht3 => ?_
  have e03 : Same H H3 := ((e1.trans (same_new ht1')).trans (same_new ht2)).trans e3
  have hm3 := e03 _ _ hm
  ac_rfl
  refine ⟨m, pa, t3, S, pn, j, { s with r := r, T := U, row := 0 }, rfl, hM.mono e03, (List.getElem?_eq_some_iff.mp hj).1, hle, ht3, ⟨hU.mono e03, hvU, hvU.pos⟩, fun hs' H4 e4 hh => ?_⟩
  have e04 := e03.trans e4
  ac_rfl
  obtain ⟨g1, g2⟩ := mon_next D.nr e04 hm hp hh
  rw [hpl] at g2
  refine ⟨m, dx, pa, hs', .ref hs0, past, rfl, e04 _ _ hm, e04 _ _ hp, by omega, ?_⟩
  ac_rfl
  exact q _ g1 g2
end
end SRD
/-! Monitors: a tick. -/
namespace SRD
open PySem PySem.Spec PyProof.Rows L2 SRT
section
variable {K : PySem.W.Frag} {σ : L2.St} {H : Hp} {Q : VK}
theorem s_iZip {ta : TA} {R : It → Hp → Prop} (h : ta σ H fun vs H1 => ∃ a b xs ys, vs = [.ref a, .ref b] ∧ ((SqL K H1 a xs ∧ SqL K H1 b ys ∧ R (Itz K a b) H1) ∨ (SqT K H1 a xs ∧ SqT K H1 b ys ∧ R (RZ.ItzT K a b) H1))) : RZ.iZipA K ta σ H R := h
end
/-- what a step tells -/
def chg (s s' : Sv) : List (Str × Bool) := if SR.stat s.T s.row = SR.stat s'.T s'.row then [] else [(s.nm, SR.stat s'.T s'.row)]
def stepAll (tl : Bool) (svs : List Sv) (ss : List (Option Bool)) : List Sv := List.zipWith (sstep tl) svs ss
def chgs (tl : Bool) (svs : List Sv) (ss : List (Option Bool)) : List (Str × Bool) := (List.zipWith (fun s o => chg s (sstep tl s o)) svs ss).flatten
def chV (e : Str × Bool) : List V := [.str e.1, .str (stS e.2)]
def ChAt (K : PySem.W.Frag) (H : Hp) (xs : List V) (lg : List (Str × Bool)) : Prop := xs.length = lg.length ∧ ∀ (i : Nat) (x : V) (e : Str × Bool), xs[i]? = some x → lg[i]? = some e → ∃ b, x = .ref b ∧ SqT K H b (chV e)
section
variable {K : PySem.W.Frag} {H H' : Hp}
theorem ChAt.mono {xs : List V} {lg : List (Str × Bool)} (e : Same H H') (h : ChAt K H xs lg) : ChAt K H' xs lg := ⟨h.1, fun i x s hx hs => by
  obtain ⟨b, e1, e2⟩ := h.2 i x s hx hs
  exact ⟨b, e1, seqT e e2⟩⟩
theorem ChAt.but {p : Addr} {l xs : List V} {lg : List (Str × Bool)} (e : SameBut p H H') (hp : H p = some (.lst l)) (h : ChAt K H xs lg) : ChAt K H' xs lg := ⟨h.1, fun i x s hx hs => by
  obtain ⟨b, e1, e2⟩ := h.2 i x s hx hs
  exact ⟨b, e1, seqT_but e hp e2⟩⟩
theorem RuleAt.but {p a : Addr} {l : List V} {T : SR.Tbl} (e : SameBut p H H') (hp : H p = some (.lst l)) (h : RuleAt K H a T) : RuleAt K H' a T := by
  obtain ⟨dx, t, h1, xs, h2, h3⟩ := h
  exact ⟨dx, t, e _ _ (fun q => by rw [q, hp] at h1; cases h1) h1, xs, seqT_but e hp h2, h3.but e hp⟩
theorem SvsAt.but {p : Addr} {l xs : List V} {svs : List Sv} (e : SameBut p H H') (hp : H p = some (.lst l)) (h : SvsAt K H xs svs) : SvsAt K H' xs svs := ⟨h.1, fun i x s hx hs => by
  obtain ⟨⟨b, e1, e2⟩, e3⟩ := h.2 i x s hx hs
  exact ⟨⟨b, e1, seqT_but e hp e2⟩, e3.rule.but e hp, e3.v, e3.lt⟩⟩
theorem ChAt.nil : ChAt K H [] [] := ⟨rfl, fun i x s h => by simp at h⟩
theorem ChAt.snoc {xs : List V} {lg : List (Str × Bool)} {b : Addr} {s : Str × Bool} (h : ChAt K H xs lg) (hb : SqT K H b (chV s)) : ChAt K H (xs ++ [.ref b]) (lg ++ [s]) := by
  refine ⟨by simp [h.1], fun i x s' hx hr => ?_⟩
  by_cases hi : i < xs.length
  · rw [List.getElem?_append_left hi] at hx
    rw [List.getElem?_append_left (h.1 ▸ hi)] at hr
    exact h.2 i x s' hx hr
  · rw [List.getElem?_append_right (by omega)] at hx
    rw [List.getElem?_append_right (by rw [← h.1]; omega)] at hr
    rw [h.1] at hx
    cases e : i - lg.length with
    | zero =>
      rw [e] at hx hr
      simp at hx hr
      subst hx hr
      exact ⟨b, rfl, hb⟩
    | succ n =>
      rw [e] at hx
      simp at hx
end
theorem chgs_len (tl : Bool) : ∀ (svs : List Sv) (ss : List (Option Bool)), (chgs tl svs ss).length ≤ svs.length
  | [], ss => by simp [chgs]
  | s :: svs, [] => by simp [chgs]
  | s :: svs, o :: ss => by
    have h := chgs_len tl svs ss
    unfold chgs at h ⊢
    rw [List.zipWith_cons_cons, List.flatten_cons, List.length_append, List.length_cons]
    have : (chg s (sstep tl s o)).length ≤ 1 := by unfold chg; split <;> simp
    omega
theorem stepAll_snoc {tl : Bool} {svs : List Sv} {ss : List (Option Bool)} {i : Nat} {s : Sv} {o : Option Bool} (hs : svs[i]? = some s) (ho : ss[i]? = some o) : stepAll tl (svs.take (i + 1)) (ss.take (i + 1)) = stepAll tl (svs.take i) (ss.take i) ++ [sstep tl s o] := by
  unfold stepAll
  have h1 := (List.getElem?_eq_some_iff.mp hs).1
  have h2 := (List.getElem?_eq_some_iff.mp ho).1
  rw [take_snoc hs, take_snoc ho, List.zipWith_append (by rw [List.length_take, List.length_take]; omega)]
  rfl
theorem chgs_snoc {tl : Bool} {svs : List Sv} {ss : List (Option Bool)} {i : Nat} {s : Sv} {o : Option Bool} (hs : svs[i]? = some s) (ho : ss[i]? = some o) : chgs tl (svs.take (i + 1)) (ss.take (i + 1)) = chgs tl (svs.take i) (ss.take i) ++ chg s (sstep tl s o) := by
  unfold chgs
  have h1 := (List.getElem?_eq_some_iff.mp hs).1
  have h2 := (List.getElem?_eq_some_iff.mp ho).1
  rw [take_snoc hs, take_snoc ho, List.zipWith_append (by rw [List.length_take, List.length_take]; omega), List.flatten_append]
  simp
theorem st_ne (a b : Bool) : (!decide (V.str (stS a) = V.str (stS b))) = (a != b) := by cases a <;> cases b <;> decide +kernel
theorem sstep_r (tl : Bool) (s : Sv) (o : Option Bool) : (sstep tl s o).r = s.r ∧ (sstep tl s o).T = s.T ∧ (sstep tl s o).nm = s.nm := by cases o <;> exact ⟨rfl, rfl, rfl⟩
section
variable {w : World} {K : PySem.W.Frag} {mg : Str → Option Value} {base : Heap} {C : Addr} {tl : Bool}
abbrev N_Monitor_after : List Str := ["self", "signs", "services", "found", "changed", "service", "sign", "later"]
theorem sc_Monitor_after : FnScope N_Monitor_after ["self", "signs"] (defScope s_Monitor_after) := ⟨rfl, rfl, rfl, by decide +kernel, rfl, by decide +kernel, by decide +kernel⟩
def sgV (o : Option Bool) : V := .str (sgS o)
def spAfter (K : PySem.W.Frag) (C : Addr) (tl : Bool) : Sp := fun vs H Q _ => ∃ (m pa sg : Addr) (S : Ms) (pn : Nat) (ss : List (Option Bool)), vs = [.ref m, .ref sg] ∧ MonAt K H C m pa S pn ∧ SqT K H sg (ss.map sgV) ∧ ss.length = S.svs.length ∧ S.svs.length ≤ 6 ∧
  ∀ (t sv ch : Addr) (xs zs : List V) (H' : Hp), Same H H' → H' t = some (.tup [.ref sv, .ref ch]) → SqT K H' sv xs → SvsAt K H' xs (stepAll tl S.svs ss) → H' ch = some (.lst zs) → ChAt K H' zs (chgs tl S.svs ss) → H ch = none → Q (.ref t) H'
theorem ok_after (T : Txt K mg) (D : MonC K C) (F_is_sign : FnR PP w K mg base CX0 1 (He.ga K "is_sign") spIsSign) (F_later : FnR PP w K mg base CX0 5 (He.ma K C "later") (spLater K C tl)) (F_Rule_rows : FnR PP w K mg base CX0 1 (pg K (aRule K) "rows") (spRuleRows K)) :
    FnR PP w K mg base CX0 6 (He.ma K (aMon K) "after") (spAfter K C tl) := by
  refine defR (T.def_ 41 rfl) sc_Monitor_after (fun _ _ _ _ _ _ us hl => match us, hl with | [_, _], _ => rfl) ?_ ?_
  · rintro vs H Q E ⟨m, pa, sg, S, pn, ss, rfl, _⟩
    rfl
  rintro cdv A outer s0 H vs Q E hr ⟨m, pa, sg, S, pn, ss, rfl, hM, hsg, hsl, hle, q⟩
  obtain ⟨dx, hs0, past, hm, ⟨sv, lga, qq, xs, ys, h1, h2, h3, h4, h5⟩, hp, hpl⟩ := id hM
  have c1 := D.cl
  have n1 := D.nh
  have hxl := h3.1
  refine ⟨_, (pss_cons (ps_set (i := 2) sc_Monitor_after.nd rfl (Or.inl rfl) (pe_ix (kix_tup (K := K)) (kfld (K := K) (pv 0) rfl) pe_int (fun _ _ => rfl)))
      (pss_cons (ps_if ((pw_or (pt_cmpR op_ne (pe_callB (klen (K := K)) (by rfl) (T.free 42) boot_len (pa_cons (pv 1) pa_nil)) (pe_callB (klen (K := K)) (by rfl) (T.free 42) boot_len (pa_cons (pv 2) pa_nil)) (nomark _)) (pw_or1 (pt_not (pt_val (pe_callB (kall (K := K) rfl) (by rfl) (T.free 43) boot_all (pa_cons (pe_lc rfl sc_Monitor_after.nd (kpi_tup (K := K) (pv 1)) (blkOk_by (own := [("sign", 6)]) (N := N_Monitor_after) (sc := defScope s_Monitor_after) (by decide +kernel)) (fun _ _ _ _ _ => (pg_name (i := 6) sc_Monitor_after.nd rfl (Or.inl rfl))) (fun _ _ _ _ _ => pts_nil) (fun _ _ _ _ _ => (SRO.pe_callR F_is_sign (hr.mono (by decide)) (by rfl) (T.glo 16) (T.keep 124) pass0 (pa_cons (pv 6) pa_nil)))) pa_nil))))))).pt (pss_one ps_never) pss_nil)
      (pss_cons (ps_par (i := 3) (j := 4) rfl sc_Monitor_after.nd rfl rfl (by decide) rfl rfl (pa_cons (pe_lst pa_nil) (pa_cons (pe_lst pa_nil) pa_nil)) rfl)
      (pss_cons (ps_for PassesOwn.never rfl (RZ.pi_zipA (by rfl) (T.free 47) (pa_cons (pv 2) (pa_cons (pv 1) pa_nil))) (kg_tup (K := K) (n := 2) rfl (pgs_cons (pg_name (i := 5) sc_Monitor_after.nd rfl (Or.inl rfl)) (pgs_cons (pg_name (i := 6) sc_Monitor_after.nd rfl (Or.inl rfl)) pgs_nil))) (pss_cons (ps_set (i := 7) sc_Monitor_after.nd rfl (Or.inl rfl) (SRO.pe_methR (pv 0) D.cl D.m_later F_later (hr.mono (by decide)) pass0 (pa_cons (pv 5) (pa_cons (pv 6) pa_nil))))
      (pss_cons (ps_expr (kbm (K := K) PySem.F.plainAttrs_list PySem.F.slot_list_append PySem.F.type_list_append mt_append (pv 3) (pa_cons (pv 7) pa_nil)))
      (pss_one (ps_if (pt_cmpR op_ne (pe_ix (kix_tup (K := K)) (pe_ix (kix_tup (K := K)) (SRO.pe_propR (pe_ix (kix_tup (K := K)) (pv 7) pe_int (fun _ _ => rfl)) (T.cls 62) (propB_ok (T.x 0)) F_Rule_rows (hr.mono (by decide)) pass0) (pe_ix (kix_tup (K := K)) (pv 7) pe_int (fun _ _ => rfl)) (fun _ _ => rfl)) pe_int (fun _ _ => rfl)) (pe_ix (kix_tup (K := K)) (pe_ix (kix_tup (K := K)) (SRO.pe_propR (pe_ix (kix_tup (K := K)) (pv 5) pe_int (fun _ _ => rfl)) (T.cls 62) (propB_ok (T.x 0)) F_Rule_rows (hr.mono (by decide)) pass0) (pe_ix (kix_tup (K := K)) (pv 5) pe_int (fun _ _ => rfl)) (fun _ _ => rfl)) pe_int (fun _ _ => rfl)) (nomark _)) (pss_one (ps_expr (kbm (K := K) PySem.F.plainAttrs_list PySem.F.slot_list_append PySem.F.type_list_append mt_append (pv 4) (pa_cons (pe_tup (pa_cons (pe_ix (kix_tup (K := K)) (pv 7) pe_int (fun _ _ => rfl)) (pa_cons (pe_ix (kix_tup (K := K)) (pe_ix (kix_tup (K := K)) (SRO.pe_propR (pe_ix (kix_tup (K := K)) (pv 7) pe_int (fun _ _ => rfl)) (T.cls 62) (propB_ok (T.x 0)) F_Rule_rows (hr.mono (by decide)) pass0) (pe_ix (kix_tup (K := K)) (pv 7) pe_int (fun _ _ => rfl)) (fun _ _ => rfl)) pe_int (fun _ _ => rfl)) pa_nil))) pa_nil)))) pss_nil)))))
      (pss_one (ps_ret (pe_tup (pa_cons (pe_callTy (ktupOf (K := K)) (by rfl) (T.free 41) boot_tuple (pa_cons (pv 3) pa_nil)) (pa_cons (pv 4) pa_nil))))))))), ?_⟩
  ac_rfl
  refine s_iteF' (by rw [List.length_map, hsl, hxl]; simp) ?_
  ac_rfl
  intro L hL
  refine lc_tup (xs := ss.map sgV) (fun i H' => Same H H' ∧ H' L = some (.lst (List.replicate i (V.bl true)))) ⟨same_new hL, upd_same⟩ (fun i H' _ h => seqT h.1 hsg) ?_ ?_
  · rintro i x H1 hi ⟨e, hx⟩
    have hi1 := (List.getElem?_eq_some_iff.mp hi).1
    rw [List.length_map] at hi1
    have hl : (List.replicate i (V.bl true)).length ≤ 1000 := by
      rw [List.length_replicate]
      omega
    rw [List.getElem?_map, List.getElem?_eq_getElem hi1] at hi
    cases hi
    generalize ss[i]'hi1 = o
    ac_rfl
    refine ⟨sgS o, rfl, ?_, fun H2 e2 => ?_⟩
    · cases o with
      | none => exact .inl rfl
      | some b => cases b
                  · exact .inr (.inr (by decide +kernel))
                  · exact .inr (.inl (by decide +kernel))
    have hx2 := e2 _ _ hx
    ac_rfl
    refine ⟨grow0 (e.trans e2) hL, ?_⟩
    rw [upd_same, List.replicate_succ']
  rintro H1 ⟨e1, hx1⟩
  ac_rfl
  refine s_allT hx1 ?_
  ac_rfl
  intro fd hfd
  ac_rfl
  intro ch hch
  have nfc : fd ≠ ch := ne_of_none upd_same hch
  have e2 : Same H (upd (upd H1 fd (.lst [])) ch (.lst [])) := (e1.trans (same_new hfd)).trans (same_new hch)
  have hfd0 : H fd = none := Same.free e1 hfd
  have hch0 : H ch = none := Same.free (e1.trans (same_new hfd)) hch
  ac_rfl
  refine s_iZip ?_
  ac_rfl
  refine ⟨sv, sg, xs, ss.map sgV, rfl, .inr ⟨seqT e2 h2, seqT e2 hsg, ?_⟩⟩
  refine RZ.for_zipT (xs := xs) (ys := ss.map sgV) (by rw [hxl, List.length_map, hsl]) (fun i σ H' => ∃ v5 v6 v7 fs zs, σ = [some (.ref m), some (.ref sg), some (.ref sv), some (.ref fd), some (.ref ch), v5, v6, v7] ∧ Same H H' ∧ H' fd = some (.lst fs) ∧ SvsAt K H' fs (stepAll tl (S.svs.take i) (ss.take i)) ∧
      H' ch = some (.lst zs) ∧ ChAt K H' zs (chgs tl (S.svs.take i) (ss.take i)))
    ⟨none, none, none, [], [], rfl, e2, (upd_ne nfc).trans upd_same, SvsAt.nil, upd_same, ChAt.nil⟩ (fun i σ H' ⟨_, _, _, _, _, _, e, _⟩ => ⟨seqT e h2, seqT e hsg⟩) ?_ ?_
  · rintro i x y P σ H4 hi hiy ⟨v5, v6, v7, fs, zs, rfl, e4, hf4, hfs, hc4, hcs⟩ hP
    have hi1 := (List.getElem?_eq_some_iff.mp hi).1
    have hs1 : S.svs[i]? = some (S.svs[i]'(by omega)) := List.getElem?_eq_getElem _
    have ho1 : ss[i]? = some (ss[i]'(by omega)) := List.getElem?_eq_getElem _
    revert hs1 ho1
    generalize S.svs[i]'(by omega) = sx
    generalize ss[i]'(by omega) = o
    intro hs1 ho1
    rw [List.getElem?_map, ho1] at hiy
    cases hiy
    have e5 : Same H (upd H4 P (.tup [x, sgV o])) := e4.trans (same_new hP)
    obtain ⟨b, hb1, hb2, hb3⟩ := (h3.mono e5).get hs1
    rw [hb1] at hi
    cases hi
    have nfP := ne_of_none hf4 hP
    have ncP := ne_of_none hc4 hP
    have hm5 := e5 _ _ hm
    ac_rfl
    refine ⟨m, b, sx, o, rfl, ⟨dx, _, hm5⟩, hb2, hb3, fun t' H6 e6 ht6 => ?_⟩
    have e06 := e5.trans e6
    have hf6 := e6 _ _ ((upd_ne nfP).trans hf4)
    have hc6 := e6 _ _ ((upd_ne ncP).trans hc4)
    have hfs6 := (hfs.mono (same_new (o := .tup [.ref b, sgV o]) hP)).mono e6
    have hcs6 := (hcs.mono (same_new (o := .tup [.ref b, sgV o]) hP)).mono e6
    have hfl : fs.length ≤ 100 := by
      rw [hfs.1]
      unfold stepAll
      rw [List.length_zipWith, List.length_take, List.length_take]
      omega
    have hzl : zs.length ≤ 100 := by
      rw [hcs.1]
      have := chgs_len tl (S.svs.take i) (ss.take i)
      rw [List.length_take] at this
      omega
    have e7 : Same H (upd H6 fd (.lst (fs ++ [.ref t']))) := grow0 e06 hfd0
    have hc7 : (upd H6 fd (.lst (fs ++ [.ref t']))) ch = some (.lst zs) := (upd_ne nfc.symm).trans hc6
    have hf7 : (upd H6 fd (.lst (fs ++ [.ref t']))) fd = some (.lst (fs ++ [.ref t'])) := upd_same
    have ht7 := seqT_but (SameBut.upd fd H6 (.lst (fs ++ [.ref t']))) hf6 ht6
    have hfs7 := hfs6.but (SameBut.upd fd H6 (.lst (fs ++ [.ref t']))) hf6
    have hcs7 := hcs6.but (SameBut.upd fd H6 (.lst (fs ++ [.ref t']))) hf6
    ac_rfl
    revert e7 hc7 hf7 ht7 hfs7 hcs7
    generalize upd H6 fd (.lst (fs ++ [.ref t'])) = H7
    intro e7 hc7 hf7 ht7 hfs7 hcs7
    obtain ⟨b2, hb21, hb22, hok⟩ := (h3.mono e7).get hs1
    rw [hb1] at hb21
    cases hb21
    have hok' := hok.step tl o
    have hfs8 := hfs7.snoc ht7 hok'
    rw [← stepAll_snoc hs1 ho1] at hfs8
    have ecs : chgs tl (S.svs.take (i + 1)) (ss.take (i + 1)) = chgs tl (S.svs.take i) (ss.take i) ++ chg sx (sstep tl sx o) := chgs_snoc hs1 ho1
    obtain ⟨er, eT, en⟩ := sstep_r tl sx o
    revert ht7 hok' ecs er eT en
    generalize sstep tl sx o = s'
    intro ht7 hok' ecs er eT en
    have ht7 : SqT K H7 t' [.str s'.nm, .ref s'.r, .int (s'.row : Nat), .int 0, .int (s'.p : Nat), .int (s'.f : Nat)] := ht7
    have hb22 : SqT K H7 b [.str sx.nm, .ref sx.r, .int (sx.row : Nat), .int 0, .int (sx.p : Nat), .int (sx.f : Nat)] := hb22
    obtain ⟨dy, tb, zs1, d1, g1, g2, g3, g4⟩ := hok'.rowAt
    obtain ⟨dz, tc, zs2, d2, k1, k2, k3, k4⟩ := hok.rowAt
    ac_rfl
    refine ⟨s'.r, dy, tb, rfl, g1, ?_⟩
    ac_rfl
    refine ⟨sx.r, dz, tc, rfl, k1, ?_⟩
    ac_rfl
    rw [st_ne]
    refine s_ite (fun c => ?_) (fun c => ?_)
    · have ech : chg sx s' = [(s'.nm, SR.stat s'.T s'.row)] := by
        unfold chg
        rw [if_neg (fun z => by rw [z] at c; simp at c), en]
      ac_rfl
      refine ⟨s'.r, dy, tb, rfl, g1, ?_⟩
      ac_rfl
      intro t2 ht2
      have nft := ne_of_none hf7 ht2
      have nct := ne_of_none hc7 ht2
      ac_rfl
      obtain ⟨r1, r2, r3⟩ := grow (o := .tup [.str s'.nm, .str (stS (SR.stat s'.T s'.row))]) e7 hch0 hc7 ht2 (.ref t2)
      exact ⟨_, _, _, _, _, rfl, r1, r2 _ _ nfc hf7, hfs8.but r2 hc7, upd_same, by rw [ecs, ech]; exact (hcs7.but r2 hc7).snoc (SqT.of r3)⟩
    · have ech : chg sx s' = [] := by
        unfold chg
        rw [if_pos (by cases h1 : SR.stat sx.T sx.row <;> cases h2 : SR.stat s'.T s'.row <;> rw [h1, h2] at c <;> simp at c ⊢)]
      ac_rfl
      exact ⟨_, _, _, _, _, rfl, e7, hf7, hfs8, hc7, by rw [ecs, ech, List.append_nil]; exact hcs7⟩
  · rintro σ H4 ⟨v5, v6, v7, fs, zs, rfl, e4, hf4, hfs, hc4, hcs⟩
    rw [hxl, List.take_length, ← hsl, List.take_length] at hfs hcs
    ac_rfl
    intro u hu
    have nfu := ne_of_none hf4 hu
    have ncu := ne_of_none hc4 hu
    ac_rfl
    intro t ht
    have e5 := (same_new (o := .tup fs) hu).trans (same_new (o := .tup [.ref u, .ref ch]) ht)
    exact q t u ch fs zs _ (e4.trans e5) upd_same (seqT (same_new ht) (SqT.of upd_same)) (hfs.mono e5) (e5 _ _ hc4) (hcs.mono e5) hch0
end
end SRD
/-! Monitors: tick, supposing. -/
namespace SRD
open PySem PySem.Spec PyProof.Rows L2 SRT
/-- a def with a star parameter -/
theorem defStar {P : Program} {w : World} {K : PySem.W.Frag} {mg : Str → Option Value} {base : Heap} {x qual : Str} {params : Arguments} {body : List Stmt} {scope : Scope} {f : Addr} {N ps : List Str} {pv : Str} {k : Nat} {sp : Sp}
    (F : ∃ fd, FunD K x qual params body scope [] [] f fd) (S : FnScope N (ps ++ [pv]) scope)
    (bd : ∀ (kV doc pm : Value) (an : Option Addr) (cdv ct : Value) (us rest : List Value), us.length = ps.length → bindArgs (PySem.W.fnOf x qual params body scope .none kV doc pm an cdv ct) ⟨us ++ rest, []⟩ = (newTuple rest >>= fun t => pure (ps.zip us ++ [(pv, t)])))
    (hbody : ∀ (cdv : Value) (A : Around) (outer : List Env) (s : Shared) (H : Hp) (vs : List V) (Q : VK) (E : XK), Room k (A.deeper (envOfC qual scope s.heap.objs.size f cdv)) → sp vs H Q E →
      ∃ t, PSs (cxOf CX0 P w K mg base N qual scope f cdv A outer s H E).nox body t ∧ t { nx := fun _ H' => Q .non H', rt := Q } (L2.start N vs) H) :
    FnR P w K mg base CX0 (k + 1) f (fun vs H Q E => ∃ ws rest, vs = ws ++ rest ∧ ws.length = ps.length ∧ rest.length ≤ sizeLine ∧ ∀ p, H p = Option.none → sp (ws ++ [V.ref p]) (upd H p (.tup rest)) Q E) := by
  obtain ⟨fd, oc, od, dV, kV, doc, pm, an, cdv, ct, osl, rfl, lk, hcd, hD, _⟩ := F.imp fun _ h => h.ex
  rcases hD with ⟨_, rfl⟩ | ⟨e, _⟩
  · exact StX.fn_star lk hcd S StX.cxUp_none (bd kV doc pm an cdv ct) fun A outer s H vs Q E hr h => by
      obtain ⟨t, h1, h2⟩ := hbody cdv A outer s H vs Q E hr h
      exact ⟨t, h1.nox, h2⟩
  · exact absurd rfl e
theorem s_catAh {K : PySem.W.Frag} {H : Hp} {Q : VK} {a b : Addr} {xs ys : List V} (ha : H a = some (.tup xs)) (hb : H b = some (.tup ys)) (hz : xs.length + ys.length ≤ 1000) (q : ∀ (c : Addr) (H' : Hp), Same H H' → H' c = some (.tup (xs ++ ys)) → Q (.ref c) H') : rCatA K (.ref a) (.ref b) H Q := by
  refine ⟨a, b, xs, ys, rfl, rfl, SqT.of ha, SqT.of hb, Nat.le_of_lt (small1000 hz), fun e => ?_, fun _ e => ?_, fun _ _ p hp => q p _ (same_new hp) upd_same⟩
  · subst e
    exact q b H (Same.refl H) hb
  · subst e
    exact q a H (Same.refl H) (by rw [List.append_nil]; exact ha)
def Ms.tick (tl : Bool) (S : Ms) (ss : List (Option Bool)) : Ms := ⟨stepAll tl S.svs ss, S.tk + 1, S.lg ++ (chgs tl S.svs ss).map fun e => (S.tk + 1, e.1, e.2)⟩
/-- the names told -/
def nmsV (cs : List (Str × Bool)) : List V := cs.map fun e => .str e.1
theorem ChAt.get {K : PySem.W.Frag} {H : Hp} {xs : List V} {cs : List (Str × Bool)} (h : ChAt K H xs cs) {i : Nat} {x : V} (hx : xs[i]? = some x) : ∃ b e, x = .ref b ∧ cs[i]? = some e ∧ SqT K H b [.str e.1, .str (stS e.2)] := by
  have hi := (List.getElem?_eq_some_iff.mp hx).1
  rw [h.1] at hi
  have he : cs[i]? = some (cs[i]'hi) := List.getElem?_eq_getElem hi
  obtain ⟨b, e1, e2⟩ := h.2 i x _ hx he
  exact ⟨b, _, e1, he, e2⟩
section
variable {w : World} {K : PySem.W.Frag} {mg : Str → Option Value} {base : Heap} {C : Addr} {tl : Bool}
abbrev N_Monitor_tick : List Str := ["self", "signs", "services", "changed", "ticks", "log", "name", "status"]
theorem sc_Monitor_tick : FnScope N_Monitor_tick ["self", "signs"] (defScope s_Monitor_tick) := ⟨rfl, rfl, rfl, by decide +kernel, rfl, by decide +kernel, by decide +kernel⟩
def spTickI (K : PySem.W.Frag) (C : Addr) (tl : Bool) : Sp := fun vs H Q _ => ∃ (m pa sg : Addr) (S : Ms) (pn : Nat) (ss : List (Option Bool)), vs = [.ref m, .ref sg] ∧ MonAt K H C m pa S pn ∧ SqT K H sg (ss.map sgV) ∧ ss.length = S.svs.length ∧ S.svs.length ≤ 6 ∧ pn ≤ 800 ∧ S.lg.length ≤ 800 ∧
  ∀ (t : Addr) (H' : Hp), But2 m pa H H' → MonAt K H' C m pa (S.tick tl ss) (pn + 1) → H' t = some (.tup (nmsV (chgs tl S.svs ss))) → Q (.ref t) H'
def spTick (K : PySem.W.Frag) (C : Addr) (tl : Bool) : Sp := fun vs H Q _ => ∃ (m pa : Addr) (S : Ms) (pn : Nat) (ss : List (Option Bool)), vs = .ref m :: ss.map sgV ∧ MonAt K H C m pa S pn ∧ ss.length = S.svs.length ∧ S.svs.length ≤ 6 ∧ pn ≤ 800 ∧ S.lg.length ≤ 800 ∧
  ∀ (t : Addr) (H' : Hp), But2 m pa H H' → MonAt K H' C m pa (S.tick tl ss) (pn + 1) → H' t = some (.tup (nmsV (chgs tl S.svs ss))) → Q (.ref t) H'
theorem ok_tick (T : Txt K mg) (D : MonC K C) (F_after : FnR PP w K mg base CX0 6 (He.ma K (aMon K) "after") (spAfter K C tl)) (F_go_on : FnR PP w K mg base CX0 1 (He.ma K (aMon K) "go_on") (spGoOn C)) : FnR PP w K mg base CX0 7 (He.ma K (aMon K) "tick") (spTick K C tl) := by
  refine (defStar (ps := ["self"]) (pv := "signs") (sp := spTickI K C tl) (k := 6) (T.def_ 42 rfl) sc_Monitor_tick (fun _ _ _ _ _ _ us rest hl => match us, rest, hl with | [_], [], _ => rfl | [_], _ :: _, _ => rfl) ?_).imp ?_
  rotate_left
  · rintro vs H Q E ⟨m, pa, S, pn, ss, rfl, hM, hsl, hle, hpn, hlg, q⟩
    refine ⟨[.ref m], ss.map sgV, rfl, rfl, by rw [List.length_map]; exact Nat.le_of_lt (small1000 (by omega)), fun p hp => ⟨m, pa, p, S, pn, ss, rfl, hM.mono (same_new hp), SqT.of upd_same, hsl, hle, hpn, hlg, fun t H' b hM' ht => q t H' ((Same.but2 (same_new hp)).trans b) hM' ht⟩⟩
  rintro cdv A outer s0 H vs Q E hr ⟨m, pa, sg, S, pn, ss, rfl, hM, hsg, hsl, hle, hpn, hlg, q⟩
  obtain ⟨dx, hs0, past, hm, ⟨sv, lga, qq, xs, ys, h1, h2, h3, h4, h5⟩, hp, hpl⟩ := id hM
  have c1 := D.cl
  have n1 := D.nh
  refine ⟨_, (pss_cons (ps_asg (SRO.pe_methR (pv 0) D.cl D.m_after F_after (hr.mono (by decide)) pass0 (pa_cons (pv 1) pa_nil)) (kg_tup (K := K) (n := 2) rfl (pgs_cons (pg_name (i := 2) sc_Monitor_tick.nd rfl (Or.inl rfl)) (pgs_cons (pg_name (i := 3) sc_Monitor_tick.nd rfl (Or.inl rfl)) pgs_nil))))
      (pss_cons (ps_set (i := 4) sc_Monitor_tick.nd rfl (Or.inr rfl) (pe_op op_add (pe_ix (kix_tup (K := K)) (kfld (K := K) (pv 0) rfl) pe_int (fun _ _ => rfl)) pe_int))
      (pss_cons (ps_set (i := 5) sc_Monitor_tick.nd rfl (Or.inl rfl) (pe_op (kcatA (K := K)) (pe_ix (kix_tup (K := K)) (kfld (K := K) (pv 0) rfl) pe_int (fun _ _ => rfl)) (pe_callTy (ktupOf (K := K)) (by rfl) (T.free 41) boot_tuple (pa_cons (pe_lc rfl sc_Monitor_tick.nd (kpi_list (K := K) (pv 3)) (blkOk_by (own := [("name", 6), ("status", 7)]) (N := N_Monitor_tick) (sc := defScope s_Monitor_tick) (by decide +kernel)) (fun _ _ _ _ _ => (kg_tup (K := K) (n := 2) rfl (pgs_cons (pg_name (i := 6) sc_Monitor_tick.nd rfl (Or.inl rfl)) (pgs_cons (pg_name (i := 7) sc_Monitor_tick.nd rfl (Or.inl rfl)) pgs_nil)))) (fun _ _ _ _ _ => pts_nil) (fun _ _ _ _ _ => (pe_tup (pa_cons (pv 4) (pa_cons (pv 6) (pa_cons (pv 7) pa_nil)))))) pa_nil))))
      (pss_cons (ps_expr (SRO.pe_methR (pv 0) D.cl D.m_go_on F_go_on (hr.mono (by decide)) pass0 (pa_cons (pe_tup (pa_cons (pv 2) (pa_cons (pv 4) (pa_cons (pe_ix (kix_tup (K := K)) (kfld (K := K) (pv 0) rfl) pe_int (fun _ _ => rfl)) (pa_cons (pv 5) pa_nil))))) pa_nil)))
      (pss_one (ps_ret (pe_callTy (ktupOf (K := K)) (by rfl) (T.free 41) boot_tuple (pa_cons (pe_lc rfl sc_Monitor_tick.nd (kpi_list (K := K) (pv 3)) (blkOk_by (own := [("name", 6), ("status", 7)]) (N := N_Monitor_tick) (sc := defScope s_Monitor_tick) (by decide +kernel)) (fun _ _ _ _ _ => (kg_tup (K := K) (n := 2) rfl (pgs_cons (pg_name (i := 6) sc_Monitor_tick.nd rfl (Or.inl rfl)) (pgs_cons (pg_name (i := 7) sc_Monitor_tick.nd rfl (Or.inl rfl)) pgs_nil)))) (fun _ _ _ _ _ => pts_nil) (fun _ _ _ _ _ => (pv 6))) pa_nil)))))))), ?_⟩
  ac_rfl
  refine ⟨m, pa, sg, S, pn, ss, rfl, hM, hsg, hsl, hle, fun t sv' ch xs' zs H1 e1 ht hsv hsvs hch hcs hnew0 => ?_⟩
  have hm1 := e1 _ _ hm
  have h11 := seqT e1 h1
  have hcl := chgs_len tl S.svs ss
  have hzl := hcs.1
  have hchm : ch ≠ m := fun z => by rw [z, hm1] at hch; cases hch
  have hlga1 := e1 _ _ h4
  have hchpa : ch ≠ pa := fun z => by rw [z, hp] at hnew0; cases hnew0
  ac_rfl
  intro D1 hD1
  have nchD := ne_of_none hch hD1
  refine lc_list (K := K) (xs := zs) (fun i H' => Same H1 H' ∧ H' ch = some (.lst zs) ∧ ∃ acc, H' D1 = some (.lst acc) ∧ LogAt K H' acc (((chgs tl S.svs ss).take i).map fun e => (S.tk + 1, e.1, e.2)))
    ⟨same_new hD1, (upd_ne nchD).trans hch, [], upd_same, LogAt.nil⟩ (fun i H' _ h => SqL.of h.2.1) ?_ ?_
  · rintro i x H2 hi ⟨e2, hch2, acc, hac, hlog⟩
    obtain ⟨b, ev, rfl, hev, hb⟩ := (hcs.mono e2).get hi
    have hal : acc.length ≤ 100 := by
      rw [hlog.1, List.length_map, List.length_take]
      omega
    ac_rfl
    intro t2 ht2
    have ne := ne_of_none hac ht2
    ac_rfl
    obtain ⟨g1, g2, g3⟩ := grow (o := .tup [.int ((S.tk : Int) + 1), .str ev.1, .str (stS ev.2)]) e2 hD1 hac ht2 (.ref t2)
    refine ⟨g1, g2 _ _ nchD hch2, _, upd_same, ?_⟩
    rw [take_snoc hev, List.map_append]
    have hl2 : LogAt K (upd (upd H2 t2 (.tup [.int ((S.tk : Int) + 1), .str ev.1, .str (stS ev.2)])) D1 (.lst (acc ++ [.ref t2]))) acc (((chgs tl S.svs ss).take i).map fun e => (S.tk + 1, e.1, e.2)) := ⟨hlog.1, fun j y e hy he => by
      obtain ⟨c, c1, c2⟩ := hlog.2 j y e hy he
      exact ⟨c, c1, seqT_but g2 hac c2⟩⟩
    refine hl2.snoc (s := (S.tk + 1, ev.1, ev.2)) ?_
    have el : lgV (S.tk + 1, ev.1, ev.2) = [.int ((S.tk : Int) + 1), .str ev.1, .str (stS ev.2)] := by
      unfold lgV
      push_cast
      rfl
    rw [el]
    exact SqT.of g3
  rintro H2 ⟨e2, hch2, acc, hac, hlog⟩
  rw [hzl, List.take_length] at hlog
  ac_rfl
  intro t3 ht3
  have e13 := e2.trans (same_new (o := .tup acc) ht3)
  have hyl := h5.1
  refine s_catAh (e13 _ _ hlga1) upd_same (by rw [h5.1, hlog.1, List.length_map]; omega) fun t4 H4 e4 ht4 => ?_
  have e14 := e13.trans e4
  have e04 := e1.trans e14
  have hm4 := e14 _ _ hm1
  have h14 := seqT e14 h11
  ac_rfl
  intro t5 ht5
  have e05 := e04.trans (same_new (o := .tup [.ref sv', .int ((S.tk : Int) + 1), .int qq, .ref t4]) ht5)
  have e15 := e14.trans (same_new (o := .tup [.ref sv', .int ((S.tk : Int) + 1), .int qq, .ref t4]) ht5)
  have hh : HouseAt K (upd H4 t5 (.tup [.ref sv', .int ((S.tk : Int) + 1), .int qq, .ref t4])) t5 (S.tick tl ss) :=
    ⟨sv', t4, qq, xs', ys ++ acc, SqT.of (by rw [upd_same]; show _ = some (HO.tup [_, .int ((S.tk + 1 : Nat) : Int), _, _]); rw [Int.natCast_add]; rfl), seqT e15 hsv, hsvs.mono e15, same_new ht5 _ _ ht4, (h5.mono e05).append (hlog.mono (((same_new ht3).trans e4).trans (same_new ht5)))⟩
  obtain ⟨g1, g2⟩ := mon_next D.nr e05 hm hp hh
  rw [hpl] at g2
  have hm5 := e05 _ _ hm
  ac_rfl
  refine ⟨m, dx, pa, t5, .ref hs0, past, rfl, hm5, e05 _ _ hp, by omega, ?_⟩
  have hch5 := e15 _ _ hch
  have hch6 : (upd (upd (upd H4 t5 (.tup [.ref sv', .int ((S.tk : Int) + 1), .int qq, .ref t4])) pa (.lst (past ++ [.ref hs0]))) m (.ins C dx (mf (.ref t5) (.ref pa)))) ch = some (.lst zs) := by
    have n2 : ch ≠ pa := hchpa
    rw [upd_ne hchm, upd_ne n2]
    exact hch5
  have hcs5 := hcs.mono e15
  have hcs6 : ChAt K (upd (upd (upd H4 t5 (.tup [.ref sv', .int ((S.tk : Int) + 1), .int qq, .ref t4])) pa (.lst (past ++ [.ref hs0]))) m (.ins C dx (mf (.ref t5) (.ref pa)))) zs (chgs tl S.svs ss) := by
    have b2 : But2 m pa (upd H4 t5 (.tup [.ref sv', .int ((S.tk : Int) + 1), .int qq, .ref t4])) (upd (upd (upd H4 t5 (.tup [.ref sv', .int ((S.tk : Int) + 1), .int qq, .ref t4])) pa (.lst (past ++ [.ref hs0]))) m (.ins C dx (mf (.ref t5) (.ref pa)))) := fun c o n k hc => by rw [upd_ne n, upd_ne k]; exact hc
    exact ⟨hcs5.1, fun j y e hy he => by
      obtain ⟨c, c1, c2⟩ := hcs5.2 j y e hy he
      exact ⟨c, c1, b2.seqT hm5 (e05 _ _ hp) c2⟩⟩
  revert g1 g2 hch6 hcs6
  generalize upd (upd (upd H4 t5 (.tup [.ref sv', .int ((S.tk : Int) + 1), .int qq, .ref t4])) pa (.lst (past ++ [.ref hs0]))) m (.ins C dx (mf (.ref t5) (.ref pa))) = H6
  intro g1 g2 hch6 hcs6
  ac_rfl
  intro D2 hD2
  have nch2 := ne_of_none hch6 hD2
  refine lc_list (K := K) (xs := zs) (fun i H' => Same H6 H' ∧ H' ch = some (.lst zs) ∧ H' D2 = some (.lst ((nmsV (chgs tl S.svs ss)).take i)))
    ⟨same_new hD2, (upd_ne nch2).trans hch6, upd_same⟩ (fun i H' _ h => SqL.of h.2.1) ?_ ?_
  · rintro i x H7 hi ⟨e7, hch7, hac7⟩
    obtain ⟨b, ev, rfl, hev, hb⟩ := (hcs6.mono e7).get hi
    have hal : ((nmsV (chgs tl S.svs ss)).take i).length ≤ 100 := by
      rw [List.length_take]
      unfold nmsV
      rw [List.length_map]
      omega
    ac_rfl
    refine ⟨grow0 e7 hD2, (upd_ne nch2).trans hch7, ?_⟩
    have eg : (nmsV (chgs tl S.svs ss))[i]? = some (V.str ev.1) := by
      unfold nmsV
      rw [List.getElem?_map, hev]
      rfl
    rw [upd_same, take_snoc eg]
  rintro H7 ⟨e7, hch7, hac7⟩
  have eln : (nmsV (chgs tl S.svs ss)).length = zs.length := by unfold nmsV; rw [List.length_map, hzl]
  rw [← eln, List.take_length] at hac7
  ac_rfl
  intro t8 ht8
  have e8 := e7.trans (same_new (o := .tup (nmsV (chgs tl S.svs ss))) ht8)
  exact q t8 _ (g1.trans (Same.but2 e8)) (g2.mono e8) upd_same
abbrev N_Monitor_supposing : List Str := ["self", "signs", "name", "status"]
theorem sc_Monitor_supposing : FnScope N_Monitor_supposing ["self", "signs"] (defScope s_Monitor_supposing) := ⟨rfl, rfl, rfl, by decide +kernel, rfl, by decide +kernel, by decide +kernel⟩
def spSupI (K : PySem.W.Frag) (C : Addr) (tl : Bool) : Sp := fun vs H Q _ => ∃ (m pa sg : Addr) (S : Ms) (pn : Nat) (ss : List (Option Bool)), vs = [.ref m, .ref sg] ∧ MonAt K H C m pa S pn ∧ SqT K H sg (ss.map sgV) ∧ ss.length = S.svs.length ∧ S.svs.length ≤ 6 ∧
  ∀ (t : Addr) (H' : Hp), Same H H' → H' t = some (.tup (nmsV (chgs tl S.svs ss))) → Q (.ref t) H'
def spSup (K : PySem.W.Frag) (C : Addr) (tl : Bool) : Sp := fun vs H Q _ => ∃ (m pa : Addr) (S : Ms) (pn : Nat) (ss : List (Option Bool)), vs = .ref m :: ss.map sgV ∧ MonAt K H C m pa S pn ∧ ss.length = S.svs.length ∧ S.svs.length ≤ 6 ∧
  ∀ (t : Addr) (H' : Hp), Same H H' → H' t = some (.tup (nmsV (chgs tl S.svs ss))) → Q (.ref t) H'
theorem ok_supposing (T : Txt K mg) (D : MonC K C) (F_after : FnR PP w K mg base CX0 6 (He.ma K (aMon K) "after") (spAfter K C tl)) : FnR PP w K mg base CX0 7 (He.ma K (aMon K) "supposing") (spSup K C tl) := by
  refine (defStar (ps := ["self"]) (pv := "signs") (sp := spSupI K C tl) (k := 6) (T.def_ 43 rfl) sc_Monitor_supposing (fun _ _ _ _ _ _ us rest hl => match us, rest, hl with | [_], [], _ => rfl | [_], _ :: _, _ => rfl) ?_).imp ?_
  rotate_left
  · rintro vs H Q E ⟨m, pa, S, pn, ss, rfl, hM, hsl, hle, q⟩
    refine ⟨[.ref m], ss.map sgV, rfl, rfl, by rw [List.length_map]; exact Nat.le_of_lt (small1000 (by omega)), fun p hp => ⟨m, pa, p, S, pn, ss, rfl, hM.mono (same_new hp), SqT.of upd_same, hsl, hle, fun t H' b ht => q t H' ((same_new hp).trans b) ht⟩⟩
  rintro cdv A outer s0 H vs Q E hr ⟨m, pa, sg, S, pn, ss, rfl, hM, hsg, hsl, hle, q⟩
  obtain ⟨dx, hs0, past, hm, _⟩ := id hM
  refine ⟨_, (pss_one (ps_ret (pe_callTy (ktupOf (K := K)) (by rfl) (T.free 41) boot_tuple (pa_cons (pe_lc rfl sc_Monitor_supposing.nd (kpi_list (K := K) (pe_ix (kix_tup (K := K)) (SRO.pe_methR (pv 0) D.cl D.m_after F_after (hr.mono (by decide)) pass0 (pa_cons (pv 1) pa_nil)) pe_int (fun _ _ => rfl))) (blkOk_by (own := [("name", 2), ("status", 3)]) (N := N_Monitor_supposing) (sc := defScope s_Monitor_supposing) (by decide +kernel)) (fun _ _ _ _ _ => (kg_tup (K := K) (n := 2) rfl (pgs_cons (pg_name (i := 2) sc_Monitor_supposing.nd rfl (Or.inl rfl)) (pgs_cons (pg_name (i := 3) sc_Monitor_supposing.nd rfl (Or.inl rfl)) pgs_nil)))) (fun _ _ _ _ _ => pts_nil) (fun _ _ _ _ _ => (pv 2))) pa_nil)))), ?_⟩
  ac_rfl
  refine ⟨m, pa, sg, S, pn, ss, rfl, hM, hsg, hsl, hle, fun t sv' ch xs' zs H1 e1 ht hsv hsvs hch hcs hnew0 => ?_⟩
  have hcl := chgs_len tl S.svs ss
  have hzl := hcs.1
  ac_rfl
  intro D2 hD2
  have nch2 := ne_of_none hch hD2
  refine lc_list (K := K) (xs := zs) (fun i H' => Same H1 H' ∧ H' ch = some (.lst zs) ∧ H' D2 = some (.lst ((nmsV (chgs tl S.svs ss)).take i)))
    ⟨same_new hD2, (upd_ne nch2).trans hch, upd_same⟩ (fun i H' _ h => SqL.of h.2.1) ?_ ?_
  · rintro i x H7 hi ⟨e7, hch7, hac7⟩
    obtain ⟨b, ev, rfl, hev, hb⟩ := (hcs.mono e7).get hi
    have hal : ((nmsV (chgs tl S.svs ss)).take i).length ≤ 100 := by
      rw [List.length_take]
      unfold nmsV
      rw [List.length_map]
      omega
    ac_rfl
    refine ⟨grow0 e7 hD2, (upd_ne nch2).trans hch7, ?_⟩
    have eg : (nmsV (chgs tl S.svs ss))[i]? = some (V.str ev.1) := by
      unfold nmsV
      rw [List.getElem?_map, hev]
      rfl
    rw [upd_same, take_snoc eg]
  rintro H7 ⟨e7, hch7, hac7⟩
  have eln : (nmsV (chgs tl S.svs ss)).length = zs.length := by unfold nmsV; rw [List.length_map, hzl]
  rw [← eln, List.take_length] at hac7
  ac_rfl
  intro t8 ht8
  exact q t8 _ ((e1.trans e7).trans (same_new ht8)) upd_same
end
end SRD
/-! Own rules, eighth part: with, of an own class; nothing is raised within. -/
namespace SRO
open PySem PySem.Spec PyProof.Rows L2
def tWith (C : Addr) (spE spX : Sp) (tc : TE) (tb : TS) : TS := fun D σ H => tc σ H fun x H1 => ∃ a dx fs, x = .ref a ∧ H1 a = some (.ins C dx fs) ∧
  spE [.ref a] H1 (fun _ H2 => tb { nx := fun σ' H' => spX [.ref a, .non, .non, .non] H' (fun _ H'' => D.nx σ' H'') E0, rt := fun _ _ => False } σ H2) E0
theorem ps_with {X : Cx} {CX : CXT} {k : Nat} {C fe fx : Addr} {spE spX : Sp} {ctx : Expr} {body : List Stmt} {pos : Pos} {tc : TE} {tb : TS} (hc : PE X ctx tc)
    (he : PySem.W.findIn X.K (.ref C) "__enter__" = some (some (.ref fe))) (hfe : PySem.W.isFn X.K (.ref fe) = true) (hx : PySem.W.findIn X.K (.ref C) "__exit__" = some (some (.ref fx))) (hfx : PySem.W.isFn X.K (.ref fx) = true)
    (Fe : FnR X.prog X.w X.K X.mg X.base CX k fe spE) (Fx : FnR X.prog X.w X.K X.mg X.base CX k fx spX) (hr : Room k X.A) (hp : Passes CX X E0) (hb : PSs X.nox body tb) : PS X (.With [⟨ctx, none⟩] body pos) (tWith C spE spX tc tb) := by
  refine ⟨fun pins s σ H D I h => ?_⟩
  refine PySem.W.kw_exec0 (thn (hc.run pins s σ H _ I h) fun u s1 ⟨x, H1, I1, rx, a, dx, fs, ex, ea, q⟩ => ?_)
  subst ex
  obtain rfl : u = Value.ref a := rx
  obtain ⟨_, _, J⟩ := inst_of I1 ea
  obtain ⟨m, hF⟩ := I1.fr
  refine PySem.W.kw_in0 hF I.ok.mod.kin J he hfe hx hfx ?_
  refine wpAny_mono (wpAny_call (run_fnR (us := [.ref a]) (vs := [.ref a]) Fe hr hp I1 (.cons rfl .nil) q)) (fun w s2 z => ?_) fun _ _ z => z
  obtain ⟨v2, H2, I2, rv2, q2⟩ := z
  refine wpAny_mono (hb.run pins s2 σ H2 _ (I2.wish _) q2) (fun fl s3 z0 => ?_) fun _ _ z => z
  have z := SP.unwish z0
  cases fl with
  | next =>
    obtain ⟨σ3, H3, I3, q3⟩ := z
    refine wpAny_mono (wpAny_call (run_fnR (us := [.ref a, .none, .none, .none]) (vs := [.ref a, .non, .non, .non]) Fx hr hp I3 (.cons rfl (.cons rfl (.cons rfl (.cons rfl .nil)))) q3)) (fun w4 s4 z4 => ?_) fun _ _ z => z
    obtain ⟨v4, H4, I4, rv4, q4⟩ := z4
    exact ⟨σ3, H4, I4, q4⟩
  | ret v =>
    obtain ⟨_, _, _, _, _, q3⟩ := z
    exact False.elim q3
  | brk =>
    obtain ⟨_, _, _, q3⟩ := z
    exact False.elim q3
  | cont =>
    obtain ⟨_, _, _, q3⟩ := z
    exact False.elim q3
end SRO
/-! Trials; several ticks. -/
namespace SRD
open PySem PySem.Spec PyProof.Rows L2 SRT
abbrev tf (m h p : V) : List (Str × V) := [("monitor", m), ("house", h), ("past", p)]
theorem lk_tmon {m h p : V} : (tf m h p).lookup ("monitor" : Str) = some m := by simp [List.lookup]
theorem pt_house {m h : V} : putF "house" h [("monitor", m)] = ([("monitor", m), ("house", h)] : List (Str × V)) := by
  show (if ("monitor" : Str) = "house" then _ else (("monitor" : Str), m) :: [("house", h)]) = _
  rw [if_neg (by decide +kernel)]
theorem pt_past {m h p : V} : putF "past" p [("monitor", m), ("house", h)] = tf m h p := by
  show (if ("monitor" : Str) = "past" then _ else (("monitor" : Str), m) :: (if ("house" : Str) = "past" then _ else (("house" : Str), h) :: [("past", p)])) = _
  rw [if_neg (by decide +kernel), if_neg (by decide +kernel)]
theorem pt_house3 {m h p h' : V} : putF "house" h' (tf m h p) = tf m h' p := by
  show (if ("monitor" : Str) = "house" then _ else (("monitor" : Str), m) :: (if ("house" : Str) = "house" then _ else _)) = _
  rw [if_neg (by decide +kernel), if_pos rfl]
theorem pt_past3 {m h p p' : V} : putF "past" p' (tf m h p) = tf m h p' := by
  show (if ("monitor" : Str) = "past" then _ else (("monitor" : Str), m) :: (if ("house" : Str) = "past" then _ else (("house" : Str), h) :: (if ("past" : Str) = "past" then _ else _))) = _
  rw [if_neg (by decide +kernel), if_neg (by decide +kernel), if_pos rfl]
section
variable {w : World} {K : PySem.W.Frag} {mg : Str → Option Value} {base : Heap} {C : Addr} {tl : Bool}
abbrev N_Trial_init : List Str := ["self", "monitor"]
theorem sc_Trial_init : FnScope N_Trial_init ["self", "monitor"] (defScope s_Trial_init) := ⟨rfl, rfl, rfl, by decide +kernel, rfl, by decide +kernel, by decide +kernel⟩
def spTrialInit (K : PySem.W.Frag) (C : Addr) : Sp := fun vs H Q _ => ∃ (t dt m dx pa : Addr) (h : V) (past : List V), vs = [.ref t, .ref m] ∧ H t = some (.ins (aTrial K) dt []) ∧ H m = some (.ins C dx (mf h (.ref pa))) ∧ H pa = some (.lst past) ∧
  ∀ (l : Addr) (H' : Hp), SameBut t H H' → H' t = some (.ins (aTrial K) dt (tf (.ref m) h (.ref l))) → Q .non H'
theorem ok_Trial_init (T : Txt K mg) (D : MonC K C) : FnR PP w K mg base CX0 1 (He.ma K (aTrial K) "__init__") (spTrialInit K C) := by
  refine defR (T.def_ 35 rfl) sc_Trial_init (fun _ _ _ _ _ _ us hl => match us, hl with | [_, _], _ => rfl) ?_ ?_
  · rintro vs H Q E ⟨t, dt, m, dx, pa, h, past, rfl, _⟩
    rfl
  rintro cdv A outer s0 H vs Q E hr ⟨t, dt, m, dx, pa, h, past, rfl, ht, hm, hp, q⟩
  have c1 := D.cl
  have n1 := D.nh
  have n2 := D.np
  have c2 := T.cls 63
  have n3 := T.noat 71
  have n4 := T.noat 72
  have n5 := T.noat 73
  have ntm : m ≠ t := fun z => by rw [z, ht] at hm; cases hm
  have ntp : pa ≠ t := fun z => by rw [z, ht] at hp; cases hp
  refine ⟨_, (pss_cons (kps_fld (K := K) (pv 0) (pv 1) rfl)
      (pss_one (ps_asg (pe_tup (pa_cons (kfld (K := K) (pv 1) rfl) (pa_cons (pe_callTy (klstOf (K := K)) (by rfl) (T.free 48) boot_list (pa_cons (kfld (K := K) (pv 1) rfl) pa_nil)) pa_nil))) (kg_tup (K := K) (n := 2) rfl (pgs_cons (kg_fld (K := K) (pv 0)) (pgs_cons (kg_fld (K := K) (pv 0)) pgs_nil)))))), ?_⟩
  ac_rfl
  have hm1 : (upd H t (.ins (aTrial K) dt (putF "monitor" (.ref m) []))) m = some (.ins C dx (mf h (.ref pa))) := (upd_ne ntm).trans hm
  have hp1 : (upd H t (.ins (aTrial K) dt (putF "monitor" (.ref m) []))) pa = some (.lst past) := (upd_ne ntp).trans hp
  have ht1 : (upd H t (.ins (aTrial K) dt (putF "monitor" (.ref m) []))) t = some (.ins (aTrial K) dt [("monitor", .ref m)]) := upd_same
  have e1 : SameBut t H (upd H t (.ins (aTrial K) dt (putF "monitor" (.ref m) []))) := SameBut.upd _ _ _
  revert hm1 hp1 ht1 e1
  generalize upd H t (.ins (aTrial K) dt (putF "monitor" (.ref m) [])) = H1
  intro hm1 hp1 ht1 e1
  ac_rfl
  intro l hl
  have nml := ne_of_none hm1 hl
  have ntl := ne_of_none ht1 hl
  ac_rfl
  intro u hu
  have ntu := ne_of_none ((upd_ne ntl).trans ht1) hu
  have ht2 : (upd (upd H1 l (.lst past)) u (.tup [h, .ref l])) t = some (.ins (aTrial K) dt [("monitor", .ref m)]) := (upd_ne ntu).trans ((upd_ne ntl).trans ht1)
  have e2 : SameBut t H (upd (upd H1 l (.lst past)) u (.tup [h, .ref l])) := e1.trans (Same.but ((same_new hl).trans (same_new hu)))
  ac_rfl
  show Q .non _
  rw [pt_house, pt_past]
  refine q l _ ((e2.trans (SameBut.upd _ _ _)).trans (SameBut.upd _ _ _)) upd_same
abbrev N_Trial_enter : List Str := ["self"]
theorem sc_Trial_enter : FnScope N_Trial_enter ["self"] (defScope s_Trial_enter) := ⟨rfl, rfl, rfl, by decide +kernel, rfl, by decide +kernel, by decide +kernel⟩
def spEnter (K : PySem.W.Frag) (C : Addr) : Sp := fun vs H Q _ => ∃ (t dt m dx pa : Addr) (h h0 p0 : V) (past : List V), vs = [.ref t] ∧ H t = some (.ins (aTrial K) dt (tf (.ref m) h0 p0)) ∧ H m = some (.ins C dx (mf h (.ref pa))) ∧ H pa = some (.lst past) ∧
  ∀ (H' : Hp), SameBut t H H' → Q (.ref t) H'
theorem ok_Trial_enter (T : Txt K mg) (D : MonC K C) : FnR PP w K mg base CX0 1 (He.ma K (aTrial K) "__enter__") (spEnter K C) := by
  refine defR (T.def_ 36 rfl) sc_Trial_enter (fun _ _ _ _ _ _ us hl => match us, hl with | [_], _ => rfl) ?_ ?_
  · rintro vs H Q E ⟨t, dt, m, dx, pa, h, h0, p0, past, rfl, _⟩
    rfl
  rintro cdv A outer s0 H vs Q E hr ⟨t, dt, m, dx, pa, h, h0, p0, past, rfl, ht, hm, hp, q⟩
  have c1 := D.cl
  have n1 := D.nh
  have n2 := D.np
  have c2 := T.cls 63
  have n3 := T.noat 71
  have n4 := T.noat 72
  have n5 := T.noat 73
  refine ⟨_, (pss_cons (ps_asg (pe_tup (pa_cons (kfld (K := K) (kfld (K := K) (pv 0) rfl) rfl) (pa_cons (pe_callTy (klstOf (K := K)) (by rfl) (T.free 48) boot_list (pa_cons (kfld (K := K) (kfld (K := K) (pv 0) rfl) rfl) pa_nil)) pa_nil))) (kg_tup (K := K) (n := 2) rfl (pgs_cons (kg_fld (K := K) (pv 0)) (pgs_cons (kg_fld (K := K) (pv 0)) pgs_nil))))
      (pss_one (ps_ret (pv 0)))), ?_⟩
  ac_rfl
  intro l hl
  have ntl := ne_of_none ht hl
  ac_rfl
  intro u hu
  have ntu := ne_of_none ((upd_ne ntl).trans ht) hu
  have ht2 : (upd (upd H l (.lst past)) u (.tup [h, .ref l])) t = some (.ins (aTrial K) dt (tf (.ref m) h0 p0)) := (upd_ne ntu).trans ((upd_ne ntl).trans ht)
  have e2 : SameBut t H (upd (upd H l (.lst past)) u (.tup [h, .ref l])) := Same.but ((same_new hl).trans (same_new hu))
  ac_rfl
  exact q _ ((e2.trans (SameBut.upd _ _ _)).trans (SameBut.upd _ _ _))
abbrev N_Trial_exit : List Str := ["self", "kind", "value", "trace"]
theorem sc_Trial_exit : FnScope N_Trial_exit ["self", "kind", "value", "trace"] (defScope s_Trial_exit) := ⟨rfl, rfl, rfl, by decide +kernel, rfl, by decide +kernel, by decide +kernel⟩
def spExit : Sp := fun vs H Q _ => ∃ (t : Addr), vs = [.ref t, .non, .non, .non] ∧ Q .non H
theorem ok_Trial_exit (T : Txt K mg) : FnR PP w K mg base CX0 1 (He.ma K (aTrial K) "__exit__") spExit := by
  refine defR (T.def_ 37 rfl) sc_Trial_exit (fun _ _ _ _ _ _ us hl => match us, hl with | [_, _, _, _], _ => rfl) ?_ ?_
  · rintro vs H Q E ⟨t, rfl, _⟩
    rfl
  rintro cdv A outer s0 H vs Q E hr ⟨t, rfl, q⟩
  refine ⟨_, (pss_one (ps_if (pt_cmpR op_notN (pv 1) pe_non (nomark _)) (pss_cons (kps_fld (K := K) (kfld (K := K) (pv 0) rfl) (kfld (K := K) (pv 0) rfl) rfl)
      (pss_one (kps_fld (K := K) (kfld (K := K) (pv 0) rfl) (kfld (K := K) (pv 0) rfl) rfl))) pss_nil)), ?_⟩
  ac_rfl
  refine s_iteF' (by decide) ?_
  ac_rfl
  exact q
abbrev N_Monitor_trying : List Str := ["self"]
theorem sc_Monitor_trying : FnScope N_Monitor_trying ["self"] (defScope s_Monitor_trying) := ⟨rfl, rfl, rfl, by decide +kernel, rfl, by decide +kernel, by decide +kernel⟩
def spTrying (K : PySem.W.Frag) (C : Addr) : Sp := fun vs H Q _ => ∃ (m dx pa : Addr) (h : V) (past : List V), vs = [.ref m] ∧ H m = some (.ins C dx (mf h (.ref pa))) ∧ H pa = some (.lst past) ∧
  ∀ (x dt : Addr) (l : V) (H' : Hp), Same H H' → H' x = some (.ins (aTrial K) dt (tf (.ref m) h l)) → H x = none → Q (.ref x) H'
theorem ok_trying (T : Txt K mg) (D : MonC K C) (F_Trial_init : FnR PP w K mg base CX0 1 (He.ma K (aTrial K) "__init__") (spTrialInit K C)) : FnR PP w K mg base CX0 3 (He.ma K (aMon K) "trying") (spTrying K C) := by
  refine defR (T.def_ 45 rfl) sc_Monitor_trying (fun _ _ _ _ _ _ us hl => match us, hl with | [_], _ => rfl) ?_ ?_
  · rintro vs H Q E ⟨m, dx, pa, h, past, rfl, _⟩
    rfl
  rintro cdv A outer s0 H vs Q E hr ⟨m, dx, pa, h, past, rfl, hm, hp, q⟩
  refine ⟨_, (pss_one (ps_ret (StX.pe_makeR (T.mkr 67) F_Trial_init (hr.mono (by decide)) (by rfl) (T.glo 31) pass0 (pa_cons (pv 0) pa_nil)))), ?_⟩
  ac_rfl
  intro x dt hx hdt hne
  have e2 : Same H (upd (upd H dt (.own x)) x (.ins (aTrial K) dt [])) := (same_new hdt).trans (same_new (by rw [upd_ne hne.symm]; exact hx))
  refine ⟨x, dt, m, dx, pa, h, past, rfl, upd_same, e2 _ _ hm, e2 _ _ hp, fun l H' e3 hx3 => ⟨rfl, ?_⟩⟩
  exact q x dt _ H' (fun c o hc => e3 _ _ (fun z => by rw [z, hx] at hc; cases hc) (e2 _ _ hc)) hx3 hx
/-- a list elsewhere is changed -/
theorem MonAt.butL {K : PySem.W.Frag} {H H' : Hp} {C m pa fd : Addr} {S : Ms} {pn : Nat} {l : List V} (h : MonAt K H C m pa S pn) (e : SameBut fd H H') (hf : H fd = some (.lst l)) (n1 : fd ≠ m) (n2 : fd ≠ pa) : MonAt K H' C m pa S pn := by
  obtain ⟨dx, hs, past, h1, ⟨sv, lga, q, xs, ys, g1, g2, g3, g4, g5⟩, h3, h4⟩ := h
  refine ⟨dx, hs, past, e _ _ n1.symm h1, ⟨sv, lga, q, xs, ys, seqT_but e hf g1, seqT_but e hf g2, g3.but e hf, e _ _ (fun z => by rw [z, hf] at g4; cases g4) g4, g5.1, fun i x s hx hs => ?_⟩, e _ _ n2.symm h3, h4⟩
  obtain ⟨b, e1, e2⟩ := g5.2 i x s hx hs
  exact ⟨b, e1, seqT_but e hf e2⟩
/-- several rounds -/
def Ms.run (tl : Bool) (S : Ms) (rs : List (List (Option Bool))) : Ms := rs.foldl (fun S ss => S.tick tl ss) S
theorem run_snoc (tl : Bool) (S : Ms) (rs : List (List (Option Bool))) (ss : List (Option Bool)) : S.run tl (rs ++ [ss]) = (S.run tl rs).tick tl ss := by
  unfold Ms.run
  rw [List.foldl_append]
  rfl
theorem tick_len (tl : Bool) (S : Ms) (ss : List (Option Bool)) (h : ss.length = S.svs.length) : (S.tick tl ss).svs.length = S.svs.length := by
  show (List.zipWith _ _ _).length = _
  rw [List.length_zipWith, h, Nat.min_self]
theorem run_len (tl : Bool) : ∀ (rs : List (List (Option Bool))) (S : Ms), (∀ ss ∈ rs, ss.length = S.svs.length) → (S.run tl rs).svs.length = S.svs.length ∧ (S.run tl rs).lg.length ≤ S.lg.length + S.svs.length * rs.length
  | [], S, _ => ⟨rfl, by simp [Ms.run]⟩
  | ss :: rs, S, h => by
    have h3 := h ss (List.mem_cons_self ..)
    have h5 := tick_len tl S ss h3
    obtain ⟨h1, h2⟩ := run_len tl rs (S.tick tl ss) fun x hx => by rw [h5]; exact h x (List.mem_cons_of_mem _ hx)
    rw [h5] at h1 h2
    refine ⟨h1, ?_⟩
    have h4 := chgs_len tl S.svs ss
    have h6 : (S.tick tl ss).lg.length ≤ S.lg.length + S.svs.length := by
      show (S.lg ++ List.map _ _).length ≤ _
      rw [List.length_append, List.length_map]
      omega
    rw [List.length_cons, Nat.mul_add, Nat.mul_one]
    show ((S.tick tl ss).run tl rs).lg.length ≤ _
    omega
theorem s_methS1 {K : PySem.W.Frag} {C : Addr} {n : Str} {g : Addr} {sp : Sp} {E : XK} {ta t2 : TE} {σ : L2.St} {H : Hp} {Q : V → Hp → Prop} (h : ta σ H fun x H1 => ∃ a dx fs, x = .ref a ∧ H1 a = some (.ins C dx fs) ∧ fs.lookup n = none ∧
    ∀ q, H1 q = none → t2 σ (upd H1 q (.met g a)) fun y2 H3 => ∃ b vs, y2 = .ref b ∧ (SqT K H3 b vs ∨ SqL K H3 b vs) ∧ H3 q = some (.met g a) ∧ sp (.ref a :: vs) H3 Q E) : SRO.tMethS1 K C n g sp E ta t2 σ H Q := h
abbrev N_Monitor_run : List Str := ["self", "rounds", "found", "signs"]
theorem sc_Monitor_run : FnScope N_Monitor_run ["self", "rounds"] (defScope s_Monitor_run) := ⟨rfl, rfl, rfl, by decide +kernel, rfl, by decide +kernel, by decide +kernel⟩
def spRunI (K : PySem.W.Frag) (C : Addr) (tl : Bool) : Sp := fun vs H Q _ => ∃ (m pa rt : Addr) (S : Ms) (pn : Nat) (rs : List (Addr × List (Option Bool))), vs = [.ref m, .ref rt] ∧ MonAt K H C m pa S pn ∧ SqT K H rt (rs.map fun r => .ref r.1) ∧ (∀ r ∈ rs, SqT K H r.1 (r.2.map sgV) ∧ r.2.length = S.svs.length) ∧
  rs.length ≤ 2 ∧ S.svs.length ≤ 6 ∧ pn ≤ 700 ∧ S.lg.length ≤ 700 ∧
  ∀ (t : Addr) (ws : List V) (H' : Hp), But2 m pa H H' → MonAt K H' C m pa (S.run tl (rs.map (·.2))) (pn + rs.length) → H' t = some (.tup ws) → ws.length = rs.length → Q (.ref t) H'
def spRun (K : PySem.W.Frag) (C : Addr) (tl : Bool) : Sp := fun vs H Q _ => ∃ (m pa : Addr) (S : Ms) (pn : Nat) (rs : List (Addr × List (Option Bool))), vs = .ref m :: rs.map (fun r => .ref r.1) ∧ MonAt K H C m pa S pn ∧ (∀ r ∈ rs, SqT K H r.1 (r.2.map sgV) ∧ r.2.length = S.svs.length) ∧
  rs.length ≤ 2 ∧ S.svs.length ≤ 6 ∧ pn ≤ 700 ∧ S.lg.length ≤ 700 ∧
  ∀ (t : Addr) (ws : List V) (H' : Hp), But2 m pa H H' → MonAt K H' C m pa (S.run tl (rs.map (·.2))) (pn + rs.length) → H' t = some (.tup ws) → ws.length = rs.length → Q (.ref t) H'
theorem ok_run (T : Txt K mg) (D : MonC K C) (F_trying : FnR PP w K mg base CX0 3 (He.ma K (aMon K) "trying") (spTrying K C)) (F_Trial_enter : FnR PP w K mg base CX0 1 (He.ma K (aTrial K) "__enter__") (spEnter K C)) (F_Trial_exit : FnR PP w K mg base CX0 1 (He.ma K (aTrial K) "__exit__") spExit)
    (F_tick : FnR PP w K mg base CX0 7 (He.ma K (aMon K) "tick") (spTick K C tl)) : FnR PP w K mg base CX0 8 (He.ma K (aMon K) "run") (spRun K C tl) := by
  refine (defStar (ps := ["self"]) (pv := "rounds") (sp := spRunI K C tl) (k := 7) (T.def_ 44 rfl) sc_Monitor_run (fun _ _ _ _ _ _ us rest hl => match us, rest, hl with | [_], [], _ => rfl | [_], _ :: _, _ => rfl) ?_).imp ?_
  rotate_left
  · rintro vs H Q E ⟨m, pa, S, pn, rs, rfl, hM, hrs, hrl, hle, hpn, hlg, q⟩
    refine ⟨[.ref m], _, rfl, rfl, by rw [List.length_map]; exact Nat.le_of_lt (small1000 (by omega)), fun p hp => ⟨m, pa, p, S, pn, rs, rfl, hM.mono (same_new hp), SqT.of upd_same, fun r hr => ⟨seqT (same_new hp) (hrs r hr).1, (hrs r hr).2⟩, hrl, hle, hpn, hlg, fun t ws H' b hM' ht hw => q t ws H' ((Same.but2 (same_new hp)).trans b) hM' ht hw⟩⟩
  rintro cdv A outer s0 H vs Q E hr ⟨m, pa, rt, S, pn, rs, rfl, hM, hrt, hrs, hrl, hle, hpn, hlg, q⟩
  obtain ⟨dx, hs0, past, hm, hhs, hp, hpl⟩ := id hM
  refine ⟨_, (pss_cons (ps_set (i := 2) sc_Monitor_run.nd rfl (Or.inl rfl) (pe_lst pa_nil))
      (pss_cons (SRO.ps_with (SRO.pe_methR0 (pv 0) D.cl D.m_trying F_trying (hr.mono (by decide)) pass0) (T.meth 81).at_ (T.meth 81).fn (T.meth 82).at_ (T.meth 82).fn F_Trial_enter F_Trial_exit (hr.mono (by decide)) pass0 (pss_one (ps_for PassesOwn.never rfl (kpi_tup (K := K) (pv 1)) (pg_name (i := 3) sc_Monitor_run.nd rfl (Or.inl rfl)) (pss_cons (ps_if (pt_not (pt_val (pe_callB (kisi (K := K)) (by rfl) (T.free 37) boot_isinstance (pa_cons (pv 3) (pa_cons (pe_bltn (v := .ty "tuple") (by rfl) (T.free 41) boot_tuple rfl) pa_nil))))) (pss_one ps_never) pss_nil)
      (pss_one (ps_expr (kbm (K := K) PySem.F.plainAttrs_list PySem.F.slot_list_append PySem.F.type_list_append mt_append (pv 2) (pa_cons (SRO.pe_methS1 (pv 0) D.cl D.b_tick F_tick (hr.mono (by decide)) pass0 (pv 3)) pa_nil))))))))
      (pss_one (ps_ret (pe_callTy (ktupOf (K := K)) (by rfl) (T.free 41) boot_tuple (pa_cons (pv 2) pa_nil)))))), ?_⟩
  ac_rfl
  intro fd hfd
  have e1 := same_new (o := .lst []) hfd
  have hm1 := e1 _ _ hm
  have nfm : fd ≠ m := (ne_of_none hm hfd).symm
  have nfp : fd ≠ pa := (ne_of_none hp hfd).symm
  ac_rfl
  show SRO.tMethR C "trying" (spTrying K C) E0 (tVar 0) tNil _ _ _
  ac_rfl
  refine ⟨m, dx, pa, _, past, rfl, hm1, e1 _ _ hp, fun x dt l H2 e2 hx hxn => ?_⟩
  have e12 := e1.trans e2
  have hm2 := e12 _ _ hm
  have nxm : x ≠ m := fun z => by rw [z] at hxn; exact absurd (hxn.symm.trans hm1) (by simp)
  have nxf : fd ≠ x := fun z => by rw [← z, upd_same] at hxn; cases hxn
  refine ⟨x, dt, _, rfl, hx, ?_⟩
  refine ⟨x, dt, m, dx, pa, _, _, l, past, rfl, hx, hm2, e12 _ _ hp, fun H3 e3 => ?_⟩
  have hfd3 := e3 _ _ nxf (e2 _ _ (upd_same (H := H) (a := fd) (o := .lst [])))
  have e03 : Same H H3 := fun c o hc => e3 _ _ (fun z => by rw [z] at hc; exact absurd (hxn.symm.trans (e1 _ _ hc)) (by simp)) (e12 _ _ hc)
  have hrt3 := seqT e03 hrt
  ac_rfl
  refine for_tup (K := K) (xs := rs.map fun r => .ref r.1) (fun i σ H' => ∃ v ws, σ = [some (.ref m), some (.ref rt), some (.ref fd), v] ∧ But2 m pa H H' ∧ MonAt K H' C m pa (S.run tl ((rs.map (·.2)).take i)) (pn + i) ∧ H' fd = some (.lst ws) ∧ ws.length = i)
    ⟨none, [], rfl, Same.but2 e03, hM.mono e03, hfd3, rfl⟩ (fun i σ H' _ ⟨_, _, _, b, _⟩ => b.seqT hm hp hrt) ?_ ?_
  · rintro i y σ H4 hi ⟨v, ws, rfl, b4, hM4, hf4, hwl⟩
    have hi1 := (List.getElem?_eq_some_iff.mp hi).1
    rw [List.length_map] at hi1
    have hr1 : rs[i]? = some (rs[i]'hi1) := List.getElem?_eq_getElem hi1
    rw [List.getElem?_map, hr1] at hi
    cases hi
    revert hr1
    generalize rs[i]'hi1 = r
    intro hr1
    obtain ⟨g1, g2⟩ := hrs r (List.mem_of_getElem? hr1)
    have g4 := b4.seqT hm hp g1
    obtain ⟨dx4, hs4, past4, hm4, _, hp4, _⟩ := id hM4
    have hrl1 : ((rs.map (·.2)).take i).length ≤ 2 := by rw [List.length_take]; omega
    obtain ⟨l1, l2⟩ := run_len tl ((rs.map (·.2)).take i) S (fun ss hss => by
      obtain ⟨r', hr', rfl⟩ := List.mem_map.mp (List.mem_of_mem_take hss)
      exact (hrs r' hr').2)
    have l3 : S.svs.length * ((rs.map (·.2)).take i).length ≤ 6 * 2 := Nat.mul_le_mul hle hrl1
    ac_rfl
    refine s_methS1 ?_
    ac_rfl
    intro qq hqq
    have hf5 : (upd H4 qq (.met (He.ma K (aMon K) "tick") m)) fd = some (.lst ws) := (upd_ne (ne_of_none hf4 hqq)).trans hf4
    ac_rfl
    refine ⟨r.1, r.2.map sgV, rfl, .inl (seqT (same_new hqq) g4), upd_same, ?_⟩
    refine ⟨m, pa, _, pn + i, r.2, rfl, hM4.mono (same_new hqq), by rw [l1]; exact g2, by omega, by omega, by omega, fun t H6 b6 hM6 ht6 => ?_⟩
    have hf6 := b6 _ _ nfm nfp hf5
    have hwl2 : ws.length ≤ 100 := by omega
    ac_rfl
    have b46 : But2 m pa H4 H6 := (Same.but2 (same_new hqq)).trans b6
    have b7 : But2 m pa H (upd H6 fd (.lst (ws ++ [.ref t]))) := fun c o n k hc => by
      have ncf : c ≠ fd := ne_of_none hc hfd
      rw [upd_ne ncf]
      exact b46 _ _ n k (b4 _ _ n k hc)
    refine ⟨_, ws ++ [.ref t], rfl, b7, ?_, upd_same, by rw [List.length_append, hwl]; rfl⟩
    have er : (rs.map (·.2)).take (i + 1) = (rs.map (·.2)).take i ++ [r.2] := take_snoc (by rw [List.getElem?_map, hr1]; rfl)
    rw [er, run_snoc]
    exact hM6.butL (SameBut.upd _ _ _) hf6 nfm nfp
  · rintro σ H4 ⟨v, ws, rfl, b4, hM4, hf4, hwl⟩
    rw [List.length_map] at hM4 hwl
    have e9 : (rs.map (·.2)).take rs.length = rs.map (·.2) := by
      have := List.take_length (l := rs.map (·.2))
      rwa [List.length_map] at this
    rw [e9] at hM4
    refine ⟨x, rfl, ?_⟩
    ac_rfl
    intro t ht
    exact q t ws _ (b4.trans (Same.but2 (same_new ht))) (hM4.mono (same_new ht)) upd_same hwl
end
end SRD
local macro_rules
  | `(tactic| ac_rfl) => `(tactic| repeat (first | with_reducible refine SRD.s_seq ?_ | with_reducible refine SRD.s_ifS ?_ | with_reducible refine SRD.s_next ?_ | with_reducible refine SRD.s_ret ?_ | with_reducible refine SRD.s_retN ?_ | with_reducible refine SRD.s_drop ?_ | with_reducible refine SRD.s_asg ?_ | with_reducible refine SRD.s_par ?_ | with_reducible refine SRD.s_par2 ?_ | with_reducible refine SRD.s_par3 ?_ | with_reducible refine SRD.s_par33 ?_ | with_reducible refine SRD.s_gSub ?_ | with_reducible refine SRD.s_gCons ?_ | with_reducible refine SRD.s_gNil ?_ | with_reducible refine SRD.s_gFld ?_ | with_reducible refine SRD.s_sFld ?_ | with_reducible refine SRD.s_fld ?_ | with_reducible refine SRD.s_C ?_ | with_reducible refine SRD.s_op ?_ | with_reducible refine SRD.s_un ?_ | with_reducible refine SRD.s_rI0 ?_ | with_reducible refine SRD.s_rU ?_ | with_reducible refine SRD.s_test ?_ | with_reducible refine SRD.s_tB ?_ | with_reducible refine SRD.s_exB ?_ | with_reducible refine SRD.s_not ?_ | with_reducible refine SRD.s_and ?_ | with_reducible refine SRD.s_or ?_ | with_reducible refine SRD.s_andV ?_ | with_reducible refine SRD.s_orV ?_ | with_reducible refine SRD.s_notV ?_ | with_reducible refine SRD.s_if ?_ | with_reducible refine SRD.s_chain ?_ | with_reducible refine SRD.s_nil ?_ | with_reducible refine SRD.s_cons ?_ | with_reducible refine SRD.s_CB ?_ | with_reducible refine SRD.s_tup ?_ | with_reducible refine SRD.s_lst ?_ | with_reducible refine SRD.s_callR ?_ | with_reducible refine SRD.s_makeR ?_ | with_reducible refine SRD.s_methR ?_ | with_reducible refine SRD.s_propR ?_ | with_reducible refine SRD.s_bm ?_ | with_reducible refine SRD.s_sl ?_ | with_reducible refine SRD.s_noPart ?_ | with_reducible refine SRD.s_part ?_ | with_reducible refine SRD.s_exI ?_ | with_reducible refine SRD.s_int1 ?_ | with_reducible refine SRD.s_int1b ?_ | with_reducible refine SRD.s_max2 ?_ | with_reducible refine SRD.s_ex2s ?_ | with_reducible refine SRD.s_isN ?_ | with_reducible refine SRD.s_yes ?_ | with_reducible refine SRD.s_lc ?_ | with_reducible refine SRD.s_for ?_ | with_reducible refine SRD.s_iList ?_ | with_reducible refine SRD.s_iTup ?_ | with_reducible refine SRD.s_iStr ?_ | with_reducible refine SRD.s_iRng1 ?_ | with_reducible refine SRD.s_iRng2 ?_ | with_reducible refine SRD.s_itS ?_ | with_reducible refine SRD.s_iteT ?_ | with_reducible refine SRD.s_iteF ?_ | with_reducible refine SRD.s_iteNT ?_ | with_reducible refine SRD.s_iteNF ?_ | with_reducible refine SRD.s_iEnumT ?_ | with_reducible refine SRD.s_join ?_ | with_reducible refine SRD.s_isS ?_ | with_reducible refine SRD.s_lenSetT ?_ | with_reducible refine SRD.s_lenSetL ?_ | with_reducible refine SRD.s_dnotin ?_ | with_reducible refine SRD.s_dget ?_ | with_reducible refine SRD.s_dput ?_ | with_reducible refine SRD.s_dnewK ?_ | with_reducible refine SRD.s_dnewT ?_ | with_reducible refine SRD.isiII ?_ | with_reducible refine SRD.isiIB ?_ | with_reducible refine SRD.isiSS ?_ | with_reducible refine SRD.s_sign ?_ | ((with_reducible apply SRD.s_var); (focus (rfl; done))) | ((with_reducible apply SRD.s_gName); (focus (rfl; done))) | ((with_reducible apply SRD.s_sz); (focus (rfl; done))) | ((with_reducible apply SRD.s_ixL); (focus ((first | assumption | exact L2.upd_same | exact (L2.upd_ne (by assumption)).trans (by assumption) | exact (L2.upd_ne (Ne.symm (by assumption))).trans (by assumption)); done)); (focus ((first | assumption | (apply L2.atI_nat; assumption) | (apply L2.atI_nat (j := 0); rfl) | (apply L2.atI_nat (j := 1); rfl) | (apply L2.atI_nat (j := 2); rfl) | (apply L2.atI_nat (j := 3); rfl) | (apply L2.atI_nat (j := 4); rfl) | (apply L2.atI_nat (j := 5); rfl)); done))) | ((with_reducible apply SRD.s_ixT); (focus ((first | assumption | exact L2.SqT.of (by first | assumption | exact L2.upd_same)); done)); (focus ((first | assumption | (apply L2.atI_nat; assumption) | (apply L2.atI_nat (j := 0); rfl) | (apply L2.atI_nat (j := 1); rfl) | (apply L2.atI_nat (j := 2); rfl) | (apply L2.atI_nat (j := 3); rfl) | (apply L2.atI_nat (j := 4); rfl) | (apply L2.atI_nat (j := 5); rfl)); done))) | ((with_reducible apply SRD.s_setL0); (focus ((first | assumption | exact L2.upd_same | exact (L2.upd_ne (by assumption)).trans (by assumption) | exact (L2.upd_ne (Ne.symm (by assumption))).trans (by assumption)); done))) | ((with_reducible apply SRD.s_setL1); (focus ((first | assumption | exact L2.upd_same | exact (L2.upd_ne (by assumption)).trans (by assumption) | exact (L2.upd_ne (Ne.symm (by assumption))).trans (by assumption)); done))) | ((with_reducible apply SRD.s_setL2); (focus ((first | assumption | exact L2.upd_same | exact (L2.upd_ne (by assumption)).trans (by assumption) | exact (L2.upd_ne (Ne.symm (by assumption))).trans (by assumption)); done))) | ((with_reducible apply SRD.s_lenL); (focus ((first | assumption | exact L2.upd_same | exact (L2.upd_ne (by assumption)).trans (by assumption) | exact (L2.upd_ne (Ne.symm (by assumption))).trans (by assumption)); done))) | ((with_reducible apply SRD.s_lenT); (focus ((first | assumption | exact L2.SqT.of (by first | assumption | exact L2.upd_same)); done))) | ((with_reducible apply SRD.s_tupOf); (focus ((first | assumption | exact L2.upd_same | exact (L2.upd_ne (by assumption)).trans (by assumption) | exact (L2.upd_ne (Ne.symm (by assumption))).trans (by assumption)); done))) | ((with_reducible apply SRD.s_lstOf); (focus ((first | assumption | exact L2.upd_same | exact (L2.upd_ne (by assumption)).trans (by assumption) | exact (L2.upd_ne (Ne.symm (by assumption))).trans (by assumption)); done))) | ((with_reducible apply SRD.s_tyL); (focus ((first | assumption | exact L2.upd_same | exact (L2.upd_ne (by assumption)).trans (by assumption) | exact (L2.upd_ne (Ne.symm (by assumption))).trans (by assumption)); done))) | ((with_reducible apply SRD.s_eq); (focus (rfl; done))) | ((with_reducible apply SRD.s_ne); (focus (rfl; done))) | ((with_reducible apply SRD.s_gTup); (focus ((first | assumption | exact L2.SqT.of (by first | assumption | exact L2.upd_same)); done)); (focus (rfl; done))) | ((with_reducible apply SRD.s_getF); (focus ((first | assumption | exact L2.upd_same | exact (L2.upd_ne (by assumption)).trans (by assumption) | exact (L2.upd_ne (Ne.symm (by assumption))).trans (by assumption)); done)); (focus (assumption; done)); (focus (assumption; done)); (focus ((first | exact SRD.lk_house | exact SRD.lk_past | exact SRD.lk_tmon | rfl); done))) | ((with_reducible apply SRD.s_setF); (focus ((first | assumption | exact L2.upd_same | exact (L2.upd_ne (by assumption)).trans (by assumption) | exact (L2.upd_ne (Ne.symm (by assumption))).trans (by assumption)); done)); (focus (assumption; done)); (focus (assumption; done)); (focus (exact Nat.le_of_ble_eq_true rfl; done))) | ((with_reducible apply SRD.s_insM); (focus ((first | assumption | exact L2.upd_same | exact (L2.upd_ne (by assumption)).trans (by assumption) | exact (L2.upd_ne (Ne.symm (by assumption))).trans (by assumption)); done)); (focus ((first | exact SRD.lk_no (by decide +kernel) (by decide +kernel) | rfl); done))) | ((with_reducible apply SRD.s_insP); (focus ((first | assumption | exact L2.upd_same | exact (L2.upd_ne (by assumption)).trans (by assumption) | exact (L2.upd_ne (Ne.symm (by assumption))).trans (by assumption)); done))) | ((with_reducible apply SRD.s_itL); (focus ((first | assumption | exact L2.upd_same | exact (L2.upd_ne (by assumption)).trans (by assumption) | exact (L2.upd_ne (Ne.symm (by assumption))).trans (by assumption)); done))) | ((with_reducible apply SRD.s_itT); (focus ((first | assumption | exact L2.SqT.of (by first | assumption | exact L2.upd_same)); done))) | ((with_reducible apply SRD.s_rng1); (focus (omega; done))) | ((with_reducible apply SRD.s_rng2); (focus (omega; done))) | ((with_reducible apply SRD.s_enT); (focus ((first | assumption | exact L2.SqT.of (by first | assumption | exact L2.upd_same)); done))) | ((with_reducible apply SRD.s_acc); (focus ((first | assumption | exact L2.upd_same | exact (L2.upd_ne (by assumption)).trans (by assumption) | exact (L2.upd_ne (Ne.symm (by assumption))).trans (by assumption)); done)); (focus (exact L2.small1000 (by first | omega | (simp only [List.length_append, List.length_cons, List.length_nil, List.length_map, List.length_range]; omega)); done))) | ((with_reducible apply SRD.s_app); (focus ((first | assumption | exact L2.upd_same | exact (L2.upd_ne (by assumption)).trans (by assumption) | exact (L2.upd_ne (Ne.symm (by assumption))).trans (by assumption)); done)); (focus (exact L2.small1000 (by first | omega | (simp only [List.length_append, List.length_cons, List.length_nil, List.length_map, List.length_range]; omega)); done))) | ((with_reducible apply SRD.s_eqR); (focus (rfl; done))) | ((with_reducible apply SRD.isiTT); (focus ((first | assumption | exact L2.SqT.of (by first | assumption | exact L2.upd_same)); done))) | ((with_reducible apply SRD.s_getK); (focus ((first | assumption | exact L2.upd_same | exact (L2.upd_ne (by assumption)).trans (by assumption) | exact (L2.upd_ne (Ne.symm (by assumption))).trans (by assumption)); done))) | ((with_reducible apply SRD.s_getK'); (focus ((first | assumption | exact L2.upd_same | exact (L2.upd_ne (by assumption)).trans (by assumption) | exact (L2.upd_ne (Ne.symm (by assumption))).trans (by assumption)); done)); (focus (assumption; done))) | ((with_reducible apply SRD.s_putK); (focus ((first | assumption | exact L2.upd_same | exact (L2.upd_ne (by assumption)).trans (by assumption) | exact (L2.upd_ne (Ne.symm (by assumption))).trans (by assumption)); done)); (focus (exact L2.small1000 (by first | omega | (simp only [List.length_append, List.length_cons, List.length_nil, List.length_map, List.length_range]; omega)); done))) | ((with_reducible apply SRD.s_getT); (focus ((first | assumption | exact L2.upd_same | exact (L2.upd_ne (by assumption)).trans (by assumption) | exact (L2.upd_ne (Ne.symm (by assumption))).trans (by assumption)); done)); (focus ((first | assumption | exact L2.upd_same | exact (L2.upd_ne (by assumption)).trans (by assumption) | exact (L2.upd_ne (Ne.symm (by assumption))).trans (by assumption)); done))) | ((with_reducible apply SRD.s_getT'); (focus ((first | assumption | exact L2.upd_same | exact (L2.upd_ne (by assumption)).trans (by assumption) | exact (L2.upd_ne (Ne.symm (by assumption))).trans (by assumption)); done)); (focus ((first | assumption | exact L2.upd_same | exact (L2.upd_ne (by assumption)).trans (by assumption) | exact (L2.upd_ne (Ne.symm (by assumption))).trans (by assumption)); done)); (focus (assumption; done))) | ((with_reducible apply SRD.s_putT); (focus ((first | assumption | exact L2.upd_same | exact (L2.upd_ne (by assumption)).trans (by assumption) | exact (L2.upd_ne (Ne.symm (by assumption))).trans (by assumption)); done)); (focus ((first | assumption | exact L2.upd_same | exact (L2.upd_ne (by assumption)).trans (by assumption) | exact (L2.upd_ne (Ne.symm (by assumption))).trans (by assumption)); done)); (focus (exact L2.small1000 (by first | omega | (simp only [List.length_append, List.length_cons, List.length_nil, List.length_map, List.length_range]; omega)); done))) | ((with_reducible apply SRD.s_mod); (focus (omega; done))) | ((with_reducible apply SRD.s_mul2); (focus (omega; done))) | ((with_reducible apply SRD.s_mul1); (focus (omega; done))) | ((with_reducible apply SRD.s_fdiv); (focus (omega; done)))))

/-! Own rules, ninth part: defs with super(). -/
namespace SRD
open PySem PySem.Spec PyProof.Rows L2 SRT SRO
structure SupFn (K : PySem.W.Frag) (d : SupD) (kws : List (Str × V)) (cc : Addr) (kV doc pm cdv ct oc : Value) (an od : Option Addr) (osl : Array (Option Value)) : Prop where
  lk : K.lookup (d.at_ K) = some ⟨oc, od, .func (PySem.W.ksFn d.name d.qual d.params d.body d.scope .none kV doc pm an cdv ct cc), osl⟩
  cd : PySem.W.codeIn K cdv d.qual = true
  kw : KwdV K kV kws
  file : ∃ c o2 vs file tf, cdv = .ref c ∧ K.lookup c = some o2 ∧ o2.data = .fields vs ∧ vs[2]? = some (.str file tf) ∧ ((PP.main.file : Str) == file) = true
  cell : ∃ o, K.lookup cc = some o ∧ o.data = .cell (some (.ref (d.cls K)))
  cls : ∃ oD cdD, K.lookup (d.cls K) = some oD ∧ oD.data = .cls cdD
theorem Txt.supFn {K : PySem.W.Frag} {mg : Str → Option Value} (T : Txt K mg) (i : Nat) {d : SupD} {kws : List (Str × V)} (h : sups[i]? = some d) (hx : supB K (d.at_ K) (d.cls K) d.qual kws = true) :
    ∃ cc kV doc pm cdv ct oc an od osl, SupFn K d kws cc kV doc pm cdv ct oc an od osl := by
  have e := T.sup i h
  obtain ⟨_, h1⟩ := He.ba hx
  obtain ⟨h2, h1⟩ := He.ba h1
  obtain ⟨h3, h4⟩ := He.ba h1
  unfold fnS at e
  unfold supF at h2
  cases q : K.lookup (d.at_ K) with
  | none =>
    rw [q] at e
    cases e
  | some o =>
    obtain ⟨oc, od, dt, osl⟩ := o
    rw [q] at h2 e
    cases dt with
    | func fd =>
      obtain ⟨n1, n2, n3, n4, n5, n6, n7, n8, n9, n10, n11, n12, n13, n14, n15⟩ := fd
      have e2 : (some (n1, n2, n3, n4, n5, n6, n15) : FnS) = some (d.name, d.qual, d.params, .stmts d.body, d.scope, mainGlobals, builtinsNs) := e
      simp only [Option.some.injEq, Prod.mk.injEq] at e2
      obtain ⟨r1, r2, r3, r4, r5, r6, r7⟩ := e2
      subst r1 r2 r3 r4 r5 r6 r7
      obtain ⟨c1, h2⟩ := He.ba h2
      obtain ⟨c2, h2⟩ := He.ba h2
      obtain ⟨c3, h2⟩ := He.ba h2
      obtain ⟨c4, c5⟩ := He.ba h2
      have c2 : n7 = [(("__class__" : Str), cellAt K (d.at_ K))] := of_decide_eq_true c2
      subst c2
      have c6 : n8 = .none := by
        rcases He.dflB_ok c3 with ⟨_, rfl⟩ | ⟨z, _⟩
        · rfl
        · exact absurd rfl z
      subst c6
      refine ⟨cellAt K (d.at_ K), n9, n10, n11, n13, n14, oc, n12, od, osl, q, c1, He.kwdB_ok c4, ?_, ?_, ?_⟩
      · dsimp only at c5
        split at c5
        · split at c5
          · rename_i l
            split at c5
            · rename_i v
              exact ⟨_, _, _, _, _, rfl, l, rfl, v, c5⟩
            · cases c5
          · cases c5
        · cases c5
      · unfold supC at h3
        split at h3
        · rename_i l
          have z := of_decide_eq_true h3
          subst z
          exact ⟨_, l, rfl⟩
        · cases h3
      · unfold PySem.W.isClsIn PySem.W.clsIn at h4
        split at h4
        · rename_i l
          exact ⟨_, _, l, rfl⟩
        · cases h4
    | _ => cases e
theorem SupFn.ok {K : PySem.W.Frag} {d : SupD} {kws : List (Str × V)} {cc : Addr} {kV doc pm cdv ct oc : Value} {an od : Option Addr} {osl : Array (Option Value)} (F : SupFn K d kws cc kV doc pm cdv ct oc an od osl) {L : Addr} {sf : Str}
    (hks : (envS d.qual d.scope L (d.at_ K) cdv cc).kindOf "super" = some .globalImplicit) (hkc : (envS d.qual d.scope L (d.at_ K) cdv cc).kindOf "__class__" = some .free) (hsl : (envS d.qual d.scope L (d.at_ K) cdv cc).kindOf sf = some .local)
    (hp : ∃ ar, (d.params.posonlyargs ++ d.params.args).head? = some ar ∧ ar.arg = sf) : SupOk K PP (envS d.qual d.scope L (d.at_ K) cdv cc) sf (d.cls K) cc := by
  obtain ⟨ar, p1, p2⟩ := hp
  obtain ⟨c, o2, vs, file, tf, f1, f2, f3, f4, f5⟩ := F.file
  exact ⟨hks, hkc, rfl, hsl, ⟨_, _, _, ar, rfl, F.lk, rfl, p1, p2⟩, ⟨c, o2, vs, file, tf, f1, f2, f3, f4, f5⟩, F.cell, F.cls, by decide +kernel⟩
/-- a def with super(): its promise -/
theorem defS {w : World} {K : PySem.W.Frag} {mg : Str → Option Value} {base : Heap} {N ps : List Str} {k : Nat} {sp : Sp} {sf : Str} (T : Txt K mg) (i : Nat) {d : SupD} {kws : List (Str × V)} (h : sups[i]? = some d) (hx : supB K (d.at_ K) (d.cls K) d.qual kws = true) (S : SupScope N ps d.scope)
    (hks : ∀ L f cdv cc, (envS d.qual d.scope L f cdv cc).kindOf "super" = some .globalImplicit ∧ (envS d.qual d.scope L f cdv cc).kindOf "__class__" = some .free ∧ (envS d.qual d.scope L f cdv cc).kindOf sf = some .local)
    (hp : ∃ ar, (d.params.posonlyargs ++ d.params.args).head? = some ar ∧ ar.arg = sf)
    (bd : ∀ (kV doc pm : Value) (an : Option Addr) (cdv ct : Value) (cc : Addr) (us : List Value), us.length = ps.length → bindArgs (PySem.W.ksFn d.name d.qual d.params d.body d.scope .none kV doc pm an cdv ct cc) ⟨us, []⟩ = pure (ps.zip us))
    (len : ∀ vs H Q E, sp vs H Q E → vs.length = ps.length)
    (hbody : ∀ (cdv : Value) (cc : Addr) (A : Around) (outer : List Env) (s : Shared) (H : Hp) (vs : List V) (Q : VK) (E : XK), Room k (A.deeper (envS d.qual d.scope s.heap.objs.size (d.at_ K) cdv cc)) → SupOk K PP (envS d.qual d.scope s.heap.objs.size (d.at_ K) cdv cc) sf (d.cls K) cc → sp vs H Q E →
      ∃ t, PSsAt (cxS CX0 PP w K mg base N d.qual d.scope (d.at_ K) cdv cc A outer s H E) d.body d.body t ∧ t { nx := fun _ H' => Q .non H', rt := Q } (L2.start N vs) H) : FnR PP w K mg base CX0 (k + 1) (d.at_ K) sp := by
  obtain ⟨cc, kV, doc, pm, cdv, ct, oc, an, od, osl, F⟩ := Txt.supFn T i h hx
  intro A outer s H us vs Q E hr e0 r hsp
  obtain ⟨o, hl, hd⟩ := F.cell
  refine run_sup F.lk F.cd S ⟨o, _, hl, hd⟩ hr e0 (bnd_plain (vs := vs) (zs := vs) e0 (bd kV doc pm an cdv ct cc us (by rw [← r.length]; exact len _ _ _ _ hsp)) r (len _ _ _ _ hsp)) fun s2 H2 vs2 g hr2 => ?_
  obtain ⟨rfl, rfl⟩ := g
  exact hbody cdv cc A outer s2 _ _ Q E hr2 (F.ok (hks _ _ _ _).1 (hks _ _ _ _).2.1 (hks _ _ _ _).2.2 hp) hsp
end SRD
/-! Defs with super(): later. -/
namespace SRD
open PySem PySem.Spec PyProof.Rows L2 SRT
section
variable {w : World} {K : PySem.W.Frag} {mg : Str → Option Value} {base : Heap}
abbrev N_Tallying_later : List Str := ["self", "service", "sign", "found"]
theorem sc_Tallying_later : SRO.SupScope N_Tallying_later ["self", "service", "sign"] (defScope s_Tallying_later) := ⟨rfl, rfl, rfl, by decide +kernel, rfl, by decide +kernel, by decide +kernel, by decide +kernel⟩
theorem sgS_pass (o : Option Bool) : decide (V.str (sgS o) = V.str "+") = (o == some true) := by
  rcases o with _ | _ | _ <;> decide +kernel
theorem sgS_fail (o : Option Bool) : decide (V.str (sgS o) = V.str "-") = (o == some false) := by
  rcases o with _ | _ | _ <;> decide +kernel
theorem ok_Tallying_later (T : Txt K mg) (FI_Monitor_later : PySem.W.fnIn K (He.ma K (aMon K) "later") = true) (F_Monitor_later : FnR PP w K mg base CX0 3 (He.ma K (aMon K) "later") (spLater K (aMT K) false)) : FnR PP w K mg base CX0 4 (He.ma K (He.ga K "Tallying") "later") (spLater K (aMT K) true) := by
  refine defS (sf := "self") T 3 rfl (T.x 20) sc_Tallying_later (fun _ _ _ _ => ⟨rfl, rfl, rfl⟩) ⟨_, rfl, rfl⟩ (fun _ _ _ _ _ _ _ us hl => match us, hl with | [_, _, _], _ => rfl) ?_ ?_
  · rintro vs H Q E ⟨m, t, s, o, rfl, _⟩
    rfl
  rintro cdv cc A outer s0 H vs Q E hr SO ⟨m, t, s, o, rfl, hm, ht, hs, q⟩
  obtain ⟨dx, fs, hm⟩ := hm
  refine ⟨_, (SRO.psa_cons (SRO.psa_set (i := 3) sc_Tallying_later.nd rfl rfl (SRO.pea_super (i := 0) SO (T.free 51) (by rfl) (of_decide_eq_true (T.x 29)) (He.eqO_ok (T.x 30)) (He.eqO_ok (T.x 26)) (of_decide_eq_true (T.x 34)) FI_Monitor_later F_Monitor_later (hr.mono (by decide)) pass0 (pa_cons (pv 1) (pa_cons (pv 2) pa_nil))))
      (pss_one (ps_ret (pe_op (kcatT (K := K)) (pe_slice (ksl_tup (K := K)) (pv 3) po_none (po_some pe_int)) (pe_tup (pa_cons (pe_op op_add (pe_ix (kix_tup (K := K)) (pv 3) pe_int (fun _ _ => rfl)) (pe_callTy call_int1 (by rfl) (T.free 38) boot_int (pa_cons (pe_cmpR op_eq (pv 2) (C8.pe_gc (by rfl) (T.str 59)) (nomark _)) pa_nil))) (pa_cons (pe_op op_add (pe_ix (kix_tup (K := K)) (pv 3) pe_int (fun _ _ => rfl)) (pe_callTy call_int1 (by rfl) (T.free 38) boot_int (pa_cons (pe_cmpR op_eq (pv 2) (C8.pe_gc (by rfl) (T.str 60)) (nomark _)) pa_nil))) pa_nil))))))), ?_⟩
  refine ⟨m, dx, fs, rfl, hm, fun b hb => ?_⟩
  have e1 := same_new (o := .met (He.ma K (aMon K) "later") m) hb
  ac_rfl
  refine ⟨upd_same, ?_⟩
  refine ⟨m, t, s, o, rfl, ⟨dx, fs, e1 _ _ hm⟩, seqT e1 ht, hs.mono e1, fun t' H' e2 ht' => ?_⟩
  have ht1 : SqT K H' t' [.str s.nm, .ref s.r, .int ((sstep false s o).row : Nat), .int 0, .int (s.p : Nat), .int (s.f : Nat)] := by
    have e : svV (sstep false s o) = [.str s.nm, .ref s.r, .int ((sstep false s o).row : Nat), .int 0, .int (s.p : Nat), .int (s.f : Nat)] := by
      cases o <;> simp [svV, sstep]
    rwa [e] at ht'
  ac_rfl
  refine s_slHi (k := 4) ht1 rfl (by simp) rfl fun t1 ht1' => ?_
  have ht2 := seqT (same_new (o := .tup [.str s.nm, .ref s.r, .int ((sstep false s o).row : Nat), .int 0]) ht1') ht1
  ac_rfl
  rw [sgS_pass, sgS_fail]
  intro p hp
  refine s_catT (seqT (same_new hp) (SqT.of upd_same)) (SqT.of upd_same) (by simp) (by simp) fun t3 H3 e3 ht3 => ?_
  have e9 : Same H H3 := (((e1.trans e2).trans (same_new ht1')).trans (same_new hp)).trans e3
  refine q t3 H3 e9 ?_
  have e : svV (sstep true s o) = List.take 4 [V.str s.nm, V.ref s.r, V.int ((sstep false s o).row : Nat), V.int 0, V.int (s.p : Nat), V.int (s.f : Nat)] ++ [V.int ((s.p : Int) + if (o == some true) = true then 1 else 0), V.int ((s.f : Int) + if (o == some false) = true then 1 else 0)] := by
    rcases o with _ | _ | _ <;> simp [svV, sstep]
  rw [e]
  exact ht3
abbrev N_Muting_later : List Str := ["self", "service", "sign", "found"]
theorem sc_Muting_later : SRO.SupScope N_Muting_later ["self", "service", "sign"] (defScope s_Muting_later) := ⟨rfl, rfl, rfl, by decide +kernel, rfl, by decide +kernel, by decide +kernel, by decide +kernel⟩
theorem ok_Muting_later (T : Txt K mg) (FI_Tallying_later : PySem.W.fnIn K (He.ma K (He.ga K "Tallying") "later") = true) (F_Tallying_later : FnR PP w K mg base CX0 4 (He.ma K (He.ga K "Tallying") "later") (spLater K (aMT K) true)) : FnR PP w K mg base CX0 5 (He.ma K (He.ga K "Muting") "later") (spLater K (aMT K) true) := by
  refine defS (sf := "self") T 1 rfl (T.x 18) sc_Muting_later (fun _ _ _ _ => ⟨rfl, rfl, rfl⟩) ⟨_, rfl, rfl⟩ (fun _ _ _ _ _ _ _ us hl => match us, hl with | [_, _, _], _ => rfl) ?_ ?_
  · rintro vs H Q E ⟨m, t, s, o, rfl, _⟩
    rfl
  rintro cdv cc A outer s0 H vs Q E hr SO ⟨m, t, s, o, rfl, hm, ht, hs, q⟩
  obtain ⟨dx, fs, hm⟩ := hm
  refine ⟨_, (SRO.psa_cons (SRO.psa_set (i := 3) sc_Muting_later.nd rfl rfl (SRO.pea_super (i := 0) SO (T.free 51) (by rfl) (of_decide_eq_true (T.x 28)) (He.eqO_ok (T.x 30)) (He.eqO_ok (T.x 25)) (of_decide_eq_true (T.x 35)) FI_Tallying_later F_Tallying_later (hr.mono (by decide)) pass0 (pa_cons (pv 1) (pa_cons (pv 2) pa_nil))))
      (pss_one (ps_ret (pe_op (kcatT (K := K)) (pe_op (kcatT (K := K)) (pe_slice (ksl_tup (K := K)) (pv 3) po_none (po_some pe_int)) (pe_tup (pa_cons (pe_callB (call_max2 rfl) (by rfl) (T.free 49) boot_max (pa_cons pe_int (pa_cons (pe_op op_sub (pe_ix (kix_tup (K := K)) (pv 3) pe_int (fun _ _ => rfl)) pe_int) pa_nil))) pa_nil))) (pe_slice (ksl_tup (K := K)) (pv 3) (po_some pe_int) po_none))))), ?_⟩
  refine ⟨m, dx, fs, rfl, hm, fun b hb => ?_⟩
  have e1 := same_new (o := .met (He.ma K (He.ga K "Tallying") "later") m) hb
  ac_rfl
  refine ⟨upd_same, ?_⟩
  refine ⟨m, t, s, o, rfl, ⟨dx, fs, e1 _ _ hm⟩, seqT e1 ht, hs.mono e1, fun t' H' e2 ht' => ?_⟩
  have ht1 : SqT K H' t' [.str (sstep true s o).nm, .ref (sstep true s o).r, .int ((sstep true s o).row : Nat), .int 0, .int ((sstep true s o).p : Nat), .int ((sstep true s o).f : Nat)] := ht'
  ac_rfl
  refine s_slHi (k := 3) ht1 rfl (by simp) rfl fun t1 ht1' => ?_
  have n1 : Same H' _ := same_new (o := .tup [.str (sstep true s o).nm, .ref (sstep true s o).r, .int ((sstep true s o).row : Nat)]) ht1'
  have ht2 := seqT n1 ht1
  ac_rfl
  intro p hp
  refine s_catT (seqT (same_new hp) (SqT.of upd_same)) (SqT.of upd_same) (by simp) (by simp) fun t3 H3 e3 ht3 => ?_
  have e9 : Same H H3 := (((e1.trans e2).trans n1).trans (same_new hp)).trans e3
  have ht5 : SqT K H3 t' [.str (sstep true s o).nm, .ref (sstep true s o).r, .int ((sstep true s o).row : Nat), .int 0, .int ((sstep true s o).p : Nat), .int ((sstep true s o).f : Nat)] := seqT e3 (seqT (same_new hp) ht2)
  ac_rfl
  refine s_slLo (k := 4) ht5 rfl (by decide) (by simp) rfl fun t4 ht4 => ?_
  refine s_catT (seqT (same_new ht4) ht3) (SqT.of upd_same) (by simp) (by simp) fun t6 H6 e6 ht6 => ?_
  exact q t6 H6 ((e9.trans (same_new ht4)).trans e6) ht6
end
end SRD
/-! How monitors are made. -/
namespace SRD
open PySem PySem.Spec PyProof.Rows L2 SRT
/-- a fresh monitor's state -/
def Ms.new (r : Addr) (T : SR.Tbl) (ns : List Str) : Ms := ⟨ns.map fun n => ⟨n, r, T, 0, 0, 0⟩, 0, []⟩
section
variable {w : World} {K : PySem.W.Frag} {mg : Str → Option Value} {base : Heap}
/-- what a monitor's making promises -/
def InitP (K : PySem.W.Frag) (C m r : Addr) (ns : List Str) (H : Hp) (Q : VK) : Prop := ∃ (dm : Addr) (U : SR.Tbl), H m = some (.ins C dm []) ∧ RuleAt K H r U ∧ SR.Valid U ∧ 1 ≤ ns.length ∧ ns.length ≤ 6 ∧ ns.Nodup ∧ (∀ z ∈ ns, NameOk z) ∧
  ∀ (pa : Addr) (H' : Hp), SameBut m H H' → MonAt K H' C m pa (Ms.new r U ns) 0 → H pa = none → Q .non H'
theorem InitP.mono {C m r : Addr} {ns : List Str} {H H1 : Hp} {Q : VK} (h : InitP K C m r ns H Q) (e : Same H H1) : InitP K C m r ns H1 Q := by
  obtain ⟨dm, U, h1, h2, h3, h4, h5, h6, h7, q⟩ := h
  refine ⟨dm, U, e _ _ h1, h2.mono e, h3, h4, h5, h6, h7, fun pa H' e1 hM hp => q pa H' ((Same.but e).trans e1) hM ?_⟩
  cases z : H pa with
  | none => rfl
  | some o => rw [e _ _ z] at hp; cases hp
/-- inside: the names in a tuple -/
def spInitI (K : PySem.W.Frag) (C : Addr) : Sp := fun vs H Q _ => ∃ (m r t : Addr) (ns : List Str), vs = [.ref m, .ref r, .int 1, .ref t] ∧ SqT K H t (ns.map V.str) ∧ InitP K C m r ns H Q
def spInit (K : PySem.W.Frag) (C : Addr) : Sp := fun vs H Q _ => ∃ (m r : Addr) (ns : List Str), vs = .ref m :: .ref r :: ns.map V.str ∧ InitP K C m r ns H Q
def spInitK (K : PySem.W.Frag) (C : Addr) : List V → Sp := fun zs vs H Q E => zs = [.int 1] ∧ spInit K C vs H Q E
abbrev N_Monitor_init : List Str := ["self", "rule", "quorum", "names", "name"]
theorem sc_Monitor_init : FnScope N_Monitor_init ["self", "rule", "quorum", "names"] (defScope s_Monitor_init) := ⟨rfl, rfl, rfl, by decide +kernel, rfl, by decide +kernel, by decide +kernel⟩
theorem walk_Monitor_init (T : Txt K mg) {C : Addr} (c1 : Cls K C) (n1 : NoAttr K C "house") (n2 : NoAttr K C "past") (nr : C ≠ aRule K) (F_check_rule : FnR PP w K mg base CX0 1 (He.ga K "check_rule") (spCheckRule K)) (F_check_names : FnR PP w K mg base CX0 3 (He.ga K "check_names") (spCheckNames K)) (F_check_number : FnR PP w K mg base CX0 3 (He.ga K "check_number") spCheckNum)
    (cdv : Value) (f : Addr) (A : Around) (outer : List Env) (s0 : Shared) (H : Hp) (vs : List V) (Q : VK) (E : XK) (hr : Room 3 (A.deeper (envOfC "Monitor.__init__" (defScope s_Monitor_init) s0.heap.objs.size f cdv))) (h : spInitI K C vs H Q E) :
    ∃ t, PSs (cxOf CX0 PP w K mg base N_Monitor_init "Monitor.__init__" (defScope s_Monitor_init) f cdv A outer s0 H E).nox (defBody s_Monitor_init) t ∧ t { nx := fun _ H' => Q .non H', rt := Q } (L2.start N_Monitor_init vs) H := by
  obtain ⟨m, r, t, ns, rfl, ht, dm, U, hm, hU, hv, l1, l2, nd, hok, q⟩ := h
  obtain ⟨dr, tb, hr1, htb⟩ := id hU
  refine ⟨_, (pss_cons (ps_expr (SRO.pe_callR F_check_rule (hr.mono (by decide)) (by rfl) (T.glo 13) (T.keep 121) pass0 (pa_cons (pv 1) pa_nil)))
      (pss_cons (ps_expr (SRO.pe_callR F_check_names (hr.mono (by decide)) (by rfl) (T.glo 17) (T.keep 125) pass0 (pa_cons (pv 3) pa_nil)))
      (pss_cons (ps_expr (SRO.pe_callR F_check_number (hr.mono (by decide)) (by rfl) (T.glo 12) (T.keep 120) pass0 (pa_cons (pv 2) (pa_cons pe_int (pa_cons (C8.pe_gc (by rfl) (T.int 55)) pa_nil)))))
      (pss_cons (kps_fld (K := K) (pv 0) (pe_tup (pa_cons (pe_callTy (ktupOf (K := K)) (by rfl) (T.free 41) boot_tuple (pa_cons (pe_lc rfl sc_Monitor_init.nd (kpi_tup (K := K) (pv 3)) (blkOk_by (own := [("name", 4)]) (N := N_Monitor_init) (sc := defScope s_Monitor_init) (by decide +kernel)) (fun _ _ _ _ _ => (pg_name (i := 4) sc_Monitor_init.nd rfl (Or.inl rfl))) (fun _ _ _ _ _ => pts_nil) (fun _ _ _ _ _ => (pe_tup (pa_cons (pv 4) (pa_cons (pv 1) (pa_cons pe_int (pa_cons pe_int (pa_cons pe_int (pa_cons pe_int pa_nil))))))))) pa_nil)) (pa_cons pe_int (pa_cons (pv 2) (pa_cons (pe_tup pa_nil) pa_nil))))) rfl)
      (pss_one (kps_fld (K := K) (pv 0) (pe_lst pa_nil) rfl)))))), ?_⟩
  ac_rfl
  refine ⟨r, dr, _, rfl, hr1, ?_⟩
  ac_rfl
  refine ⟨t, ns, rfl, ht, l1, l2, nd, hok, fun H1 e1 => ?_⟩
  have hm1 := e1 _ _ hm
  have ht1 := seqT e1 ht
  ac_rfl
  refine ⟨1, 1, 6, rfl, by decide, by decide, ?_⟩
  ac_rfl
  intro L hL
  have nLm : L ≠ m := (ne_of_none hm1 hL).symm
  refine lc_tup (xs := ns.map V.str) (fun i H' => Same H1 H' ∧ ∃ ys, H' L = some (.lst ys) ∧ SvsAt K H' ys ((ns.take i).map fun n => ⟨n, r, U, 0, 0, 0⟩)) ⟨same_new hL, [], upd_same, SvsAt.nil⟩ (fun i H' _ h => seqT h.1 ht1) ?_ ?_
  · rintro i x H2 hi ⟨e2, ys, hL2, hs2⟩
    have hi1 := (List.getElem?_eq_some_iff.mp hi).1
    rw [List.length_map] at hi1
    have hn : ns[i]? = some (ns[i]'hi1) := List.getElem?_eq_getElem hi1
    rw [List.getElem?_map, hn] at hi
    cases hi
    revert hn
    generalize ns[i]'hi1 = n
    intro hn
    ac_rfl
    intro u hu
    have hLu : L ≠ u := ne_of_none hL2 hu
    have e3 := same_new (o := .tup [.str n, .ref r, .int 0, .int 0, .int 0, .int 0]) hu
    have hyl : ys.length ≤ 6 := by rw [hs2.1, List.length_map, List.length_take]; omega
    ac_rfl
    have e4 : Same H1 (upd (upd H2 u (.tup [.str n, .ref r, .int 0, .int 0, .int 0, .int 0])) L (.lst (ys ++ [.ref u]))) := fun c o hc => (upd_ne (ne_of_none hc hL)).trans (e3 _ _ (e2 _ _ hc))
    have hL3 := e3 _ _ hL2
    have hu3 : (upd (upd H2 u (.tup [.str n, .ref r, .int 0, .int 0, .int 0, .int 0])) L (.lst (ys ++ [.ref u]))) u = some (.tup [.str n, .ref r, .int 0, .int 0, .int 0, .int 0]) := (upd_ne hLu.symm).trans upd_same
    refine ⟨e4, _, upd_same, ?_⟩
    rw [take_snoc hn, List.map_append]
    exact ((hs2.mono e3).but (SameBut.upd _ _ _) hL3).snoc (s := ⟨n, r, U, 0, 0, 0⟩) (SqT.of hu3) ⟨hU.mono (e1.trans e4), hv, hv.pos⟩
  rintro H2 ⟨e2, ys, hL2, hs2⟩
  rw [List.length_map, List.take_length] at hs2
  ac_rfl
  intro sv hsv
  have f1 := same_new (o := .tup ys) hsv
  ac_rfl
  intro lg hlg
  have f2 := same_new (o := .tup []) hlg
  ac_rfl
  intro hs hhs
  have f3 := same_new (o := .tup [.ref sv, .int 0, .int 1, .ref lg]) hhs
  have e9 : Same H1 _ := ((e2.trans f1).trans f2).trans f3
  have hm9 := e9 _ _ hm1
  ac_rfl
  intro p hp0
  have npm : p ≠ m := fun z => by rw [z, upd_same] at hp0; cases hp0
  have hp9 := (upd_ne (H := upd (upd (upd H2 sv (.tup ys)) lg (.tup [])) hs (.tup [.ref sv, .int 0, .int 1, .ref lg])) (o := .ins C dm (putF "house" (.ref hs) [])) npm).symm.trans hp0
  ac_rfl
  have e10 := e1.trans e9
  have hH : HouseAt K (upd (upd (upd H2 sv (.tup ys)) lg (.tup [])) hs (.tup [.ref sv, .int 0, .int 1, .ref lg])) hs (Ms.new r U ns) :=
    ⟨sv, lg, 1, ys, [], SqT.of upd_same, seqT (f2.trans f3) (SqT.of upd_same), (hs2.mono (f1.trans f2)).mono f3, f3 _ _ upd_same, LogAt.nil⟩
  revert hp0 hp9 e10 hm9 hH
  generalize upd (upd (upd H2 sv (.tup ys)) lg (.tup [])) hs (.tup [.ref sv, .int 0, .int 1, .ref lg]) = H9
  intro hm9 hp0 hp9 e10 hH
  refine ⟨m, C, dm, [("house", .ref hs)], rfl, (upd_ne npm.symm).trans upd_same, c1, n2, by show 1 < 1000; omega, ?_⟩
  show Q .non _
  rw [pf_past1]
  have hmq : (upd H9 p (.lst [])) m = some (.ins C dm []) := (upd_ne npm.symm).trans hm9
  have b : But2 m p (upd H9 p (.lst [])) (upd (upd (upd H9 m (.ins C dm (putF "house" (.ref hs) []))) p (.lst [])) m (.ins C dm (mf (.ref hs) (.ref p)))) := fun c o n k hc => by
    rw [upd_ne k] at hc
    rw [upd_ne n, upd_ne k, upd_ne n]
    exact hc
  refine q p _ (fun c o n hc => ?_) ⟨dm, hs, [], upd_same, b.house hmq nr upd_same (hH.mono (same_new hp9)), (upd_ne npm).trans upd_same, rfl⟩ ?_
  · have hc9 := e10 _ _ hc
    rw [upd_ne n, upd_ne (ne_of_none hc9 hp9), upd_ne n]
    exact hc9
  · cases z : H p with
    | none => rfl
    | some o => rw [e10 _ _ z] at hp9; cases hp9
end
end SRD
/-! How monitors are made, by defaults, by a keyword and by super(). -/
namespace SRD
open PySem PySem.Spec PyProof.Rows L2 SRT
theorem vals_init {m r : Addr} {ns : List Str} {us : List Value} (h : Vals (.ref m :: .ref r :: ns.map V.str) us) : ∃ rest, us = Value.ref m :: Value.ref r :: rest ∧ Vals (ns.map V.str) rest := by
  cases h with
  | cons h1 h =>
    cases h with
    | cons h2 h =>
      cases (show _ = Value.ref m from h1)
      cases (show _ = Value.ref r from h2)
      exact ⟨_, rfl, h⟩
section
variable {w : World} {K : PySem.W.Frag} {mg : Str → Option Value} {base : Heap}
theorem ok_Monitor_init (T : Txt K mg) {C : Addr} (c1 : Cls K C) (n1 : NoAttr K C "house") (n2 : NoAttr K C "past") (nr : C ≠ aRule K) (F_check_rule : FnR PP w K mg base CX0 1 (He.ga K "check_rule") (spCheckRule K)) (F_check_names : FnR PP w K mg base CX0 3 (He.ga K "check_names") (spCheckNames K)) (F_check_number : FnR PP w K mg base CX0 3 (He.ga K "check_number") spCheckNum) :
    FnR PP w K mg base CX0 4 (He.ma K (aMon K) "__init__") (spInit K C) := by
  obtain ⟨fd, oc, od, dV, kV, doc, pm, an, cdv, ct, osl, rfl, lk, hcd, hD, hK⟩ := (T.def_ 38 rfl).imp fun _ h => h.ex
  rcases hD with ⟨_, rfl⟩ | ⟨e, _⟩
  · rcases hK with e | ⟨D, rfl, hq⟩
    · exact absurd e (List.cons_ne_nil _ _)
    · obtain ⟨u, hu, ru⟩ := hq ("quorum", .int 1) (List.mem_cons_self ..)
      intro A outer s H us vs Q E hr e0 r ⟨m, rr, ns, ev, hP⟩
      subst ev
      obtain ⟨rest, rfl, r2⟩ := vals_init r
      have l1 := hP.choose_spec.choose_spec.2.2.2.1
      have l2 := hP.choose_spec.choose_spec.2.2.2.2.1
      obtain ⟨x, rest', rfl⟩ : ∃ x l, rest = x :: l := by
        cases rest with
        | nil =>
          have := r2.length
          rw [List.length_map, List.length_nil] at this
          omega
        | cons x l => exact ⟨x, l, rfl⟩
      refine StX.run_bnd lk hcd sc_Monitor_init hr e0 (SRO.bnd_tuple (ps := ["self", "rule", "quorum"]) (pv := "names") (ys := [Value.ref m, Value.ref rr, u]) (zs := [.ref m, .ref rr, .int 1]) StX.cxUp_none e0 (fun M A' Q' Ex h => ?_) (.cons rfl (.cons rfl (.cons ru .nil))) r2 rfl (by rw [List.length_map]; exact Nat.le_of_lt (small1000 (by omega)))) fun s2 H2 vs2 g hr2 => ?_
      · have e : ∃ (β γ : Type) (k1 : Option Value → Sem β) (k2 : β → Sem γ) (k3 : γ → Sem (List (Str × Value))) (a : β), bindArgs (PySem.W.fnOf "__init__" "Monitor.__init__" (defArgs s_Monitor_init) (defBody s_Monitor_init) (defScope s_Monitor_init) .none (.ref D) doc pm an cdv ct) ⟨Value.ref m :: Value.ref rr :: x :: rest', []⟩ = ((nsGet D "quorum" >>= k1) >>= k2) >>= k3 ∧
            k1 (some u) = pure a ∧ (k2 a >>= k3) = (newTuple (x :: rest') >>= fun t => pure ((["self", "rule", "quorum"] : List Str).zip [Value.ref m, Value.ref rr, u] ++ [(("names" : Str), t)])) := ⟨_, _, _, _, _, _, rfl, rfl, rfl⟩
        obtain ⟨_, _, k1, k2, k3, a, e1, e2, e3⟩ := e
        rw [show bindArgs _ _ = _ from e1, bind_assoc]
        have KX : K.In s.heap := e0.mod.kin.keeps fun b o e => (e0.bs b o e).1
        have L1 : PySem.W.Looks M s.heap (nsGet D "quorum" >>= k1) a := (PySem.W.looks_nsIn KX hu).andThen (PySem.W.Looks.of_pure e2)
        refine wpAny_bind (L1.here ?_)
        rw [e3]
        exact h
      · obtain ⟨p, hp, rfl, rfl⟩ := g
        obtain ⟨t, h1, h2⟩ := walk_Monitor_init T c1 n1 n2 nr F_check_rule F_check_names F_check_number cdv _ A outer s2 _ _ Q E hr2 ⟨m, rr, p, ns, rfl, SqT.of upd_same, hP.mono (same_new hp)⟩
        exact ⟨t, h1.nox, h2⟩
  · exact absurd rfl e
/-- what stands in us when a monitor is made -/
theorem initP_rest {C m r : Addr} {ns : List Str} {H : Hp} {Q : VK} {rest : List Value} (hP : InitP K C m r ns H Q) (r2 : Vals (ns.map V.str) rest) : ∃ x l, rest = x :: l := by
  have l1 := hP.choose_spec.choose_spec.2.2.2.1
  cases rest with
  | nil =>
    have := r2.length
    rw [List.length_map, List.length_nil] at this
    omega
  | cons x l => exact ⟨x, l, rfl⟩
theorem initP_le {C m r : Addr} {ns : List Str} {H : Hp} {Q : VK} (hP : InitP K C m r ns H Q) : (ns.map V.str).length ≤ sizeLine := by
  have l2 := hP.choose_spec.choose_spec.2.2.2.2.1
  rw [List.length_map]
  exact Nat.le_of_lt (small1000 (by omega))
theorem vals_one {z : V} {ws : List Value} (h : Vals [z] ws) : ∃ w, ws = [w] ∧ RelV z w := by
  cases h with
  | cons h1 h =>
    cases h
    exact ⟨_, rfl, h1⟩
theorem ok_Monitor_initK (T : Txt K mg) {C : Addr} (c1 : Cls K C) (n1 : NoAttr K C "house") (n2 : NoAttr K C "past") (nr : C ≠ aRule K) (F_check_rule : FnR PP w K mg base CX0 1 (He.ga K "check_rule") (spCheckRule K)) (F_check_names : FnR PP w K mg base CX0 3 (He.ga K "check_names") (spCheckNames K)) (F_check_number : FnR PP w K mg base CX0 3 (He.ga K "check_number") spCheckNum) :
    SRO.FnK PP w K mg base CX0 4 (He.ma K (aMon K) "__init__") ["quorum"] (spInitK K C) := by
  obtain ⟨fd, oc, od, dV, kV, doc, pm, an, cdv, ct, osl, rfl, lk, hcd, hD, hK⟩ := (T.def_ 38 rfl).imp fun _ h => h.ex
  rcases hD with ⟨_, rfl⟩ | ⟨e, _⟩
  · intro A outer s H us ws vs zs Q E hr e0 r rz hl ⟨ez, m, rr, ns, ev, hP⟩
    subst ev ez
    obtain ⟨rest, rfl, r2⟩ := vals_init r
    obtain ⟨u, rfl, ru⟩ := vals_one rz
    obtain ⟨x, rest', rfl⟩ := initP_rest hP r2
    refine StX.run_bnd lk hcd sc_Monitor_init hr e0 (SRO.bnd_tuple (ps := ["self", "rule", "quorum"]) (pv := "names") (rest := x :: rest') (ys := [Value.ref m, Value.ref rr, u]) (zs := [.ref m, .ref rr, .int 1]) StX.cxUp_none e0 (fun M A' Q' Ex h => h) (.cons rfl (.cons rfl (.cons ru .nil))) r2 rfl (initP_le hP)) fun s2 H2 vs2 g hr2 => ?_
    obtain ⟨p, hp, rfl, rfl⟩ := g
    obtain ⟨t, h1, h2⟩ := walk_Monitor_init T c1 n1 n2 nr F_check_rule F_check_names F_check_number cdv _ A outer s2 _ _ Q E hr2 ⟨m, rr, p, ns, rfl, SqT.of upd_same, hP.mono (same_new hp)⟩
    exact ⟨t, h1.nox, h2⟩
  · exact absurd rfl e
end
end SRD
/-! The inits with super(). -/
namespace SRD
open PySem PySem.Spec PyProof.Rows L2 SRT
section
variable {w : World} {K : PySem.W.Frag} {mg : Str → Option Value} {base : Heap}
abbrev N_Tallying_init : List Str := ["self", "rule", "quorum", "names"]
theorem sc_Tallying_init : SRO.SupScope N_Tallying_init ["self", "rule", "quorum", "names"] (defScope s_Tallying_init) := ⟨rfl, rfl, rfl, by decide +kernel, rfl, by decide +kernel, by decide +kernel, by decide +kernel⟩
theorem walk_Tallying_init (T : Txt K mg) (FI_Monitor_init : PySem.W.fnIn K (He.ma K (He.ga K "Monitor") "__init__") = true) (F_Monitor_init : SRO.FnK PP w K mg base CX0 4 (He.ma K (He.ga K "Monitor") "__init__") ["quorum"] (spInitK K (aMT K)))
    (cdv : Value) (cc : Addr) (A : Around) (outer : List Env) (s0 : Shared) (H : Hp) (vs : List V) (Q : VK) (E : XK) (hr : Room 4 (A.deeper (SRO.envS "Tallying.__init__" (defScope s_Tallying_init) s0.heap.objs.size (He.ma K (He.ga K "Tallying") "__init__") cdv cc)))
    (SO : SRO.SupOk K PP (SRO.envS "Tallying.__init__" (defScope s_Tallying_init) s0.heap.objs.size (He.ma K (He.ga K "Tallying") "__init__") cdv cc) "self" (He.ga K "Tallying") cc) (h : spInitI K (aMT K) vs H Q E) :
    ∃ t, SRO.PSsAt (SRO.cxS CX0 PP w K mg base N_Tallying_init "Tallying.__init__" (defScope s_Tallying_init) (He.ma K (He.ga K "Tallying") "__init__") cdv cc A outer s0 H E) (defBody s_Tallying_init) (defBody s_Tallying_init) t ∧ t { nx := fun _ H' => Q .non H', rt := Q } (L2.start N_Tallying_init vs) H := by
  obtain ⟨m, r, t, ns, rfl, ht, hP⟩ := h
  have hm := hP.choose_spec.choose_spec.1
  refine ⟨_, (SRO.psa_one (SRO.psa_expr (SRO.pea_superK (i := 0) SO (T.free 51) (by rfl) (of_decide_eq_true (T.x 29)) (He.eqO_ok (T.x 30)) (He.eqO_ok (T.x 24)) (of_decide_eq_true (T.x 31)) FI_Monitor_init F_Monitor_init (hr.mono (by decide)) pass0 (pa_cons (pv 1) (StX.pa_star (pv 3) pa_nil)) (pk_cons (pv 2) pk_nil)))), ?_⟩
  refine ⟨m, _, _, rfl, hm, fun b hb => ?_⟩
  have e1 := same_new (o := .met (He.ma K (He.ga K "Monitor") "__init__") m) hb
  have hP1 := hP.mono e1
  exact ⟨_, rfl, _, rfl, t, _, rfl, .inl (seqT e1 ht), _, rfl, upd_same, rfl, rfl, m, r, ns, by rw [List.append_nil], hP1⟩
abbrev N_Muting_init : List Str := ["self", "rule", "quorum", "names"]
theorem sc_Muting_init : SRO.SupScope N_Muting_init ["self", "rule", "quorum", "names"] (defScope s_Muting_init) := ⟨rfl, rfl, rfl, by decide +kernel, rfl, by decide +kernel, by decide +kernel, by decide +kernel⟩
theorem walk_Muting_init (T : Txt K mg) (FI_Tallying_init : PySem.W.fnIn K (He.ma K (He.ga K "Tallying") "__init__") = true) (F_Tallying_init : SRO.FnK PP w K mg base CX0 5 (He.ma K (He.ga K "Tallying") "__init__") ["quorum"] (spInitK K (aMT K)))
    (cdv : Value) (cc : Addr) (A : Around) (outer : List Env) (s0 : Shared) (H : Hp) (vs : List V) (Q : VK) (E : XK) (hr : Room 5 (A.deeper (SRO.envS "Muting.__init__" (defScope s_Muting_init) s0.heap.objs.size (He.ma K (He.ga K "Muting") "__init__") cdv cc)))
    (SO : SRO.SupOk K PP (SRO.envS "Muting.__init__" (defScope s_Muting_init) s0.heap.objs.size (He.ma K (He.ga K "Muting") "__init__") cdv cc) "self" (He.ga K "Muting") cc) (h : spInitI K (aMT K) vs H Q E) :
    ∃ t, SRO.PSsAt (SRO.cxS CX0 PP w K mg base N_Muting_init "Muting.__init__" (defScope s_Muting_init) (He.ma K (He.ga K "Muting") "__init__") cdv cc A outer s0 H E) (defBody s_Muting_init) (defBody s_Muting_init) t ∧ t { nx := fun _ H' => Q .non H', rt := Q } (L2.start N_Muting_init vs) H := by
  obtain ⟨m, r, t, ns, rfl, ht, hP⟩ := h
  have hm := hP.choose_spec.choose_spec.1
  refine ⟨_, (SRO.psa_one (SRO.psa_expr (SRO.pea_superK (i := 0) SO (T.free 51) (by rfl) (of_decide_eq_true (T.x 28)) (He.eqO_ok (T.x 30)) (He.eqO_ok (T.x 23)) (of_decide_eq_true (T.x 32)) FI_Tallying_init F_Tallying_init (hr.mono (by decide)) pass0 (pa_cons (pv 1) (StX.pa_star (pv 3) pa_nil)) (pk_cons (pv 2) pk_nil)))), ?_⟩
  refine ⟨m, _, _, rfl, hm, fun b hb => ?_⟩
  have e1 := same_new (o := .met (He.ma K (He.ga K "Tallying") "__init__") m) hb
  have hP1 := hP.mono e1
  exact ⟨_, rfl, _, rfl, t, _, rfl, .inl (seqT e1 ht), _, rfl, upd_same, rfl, rfl, m, r, ns, by rw [List.append_nil], hP1⟩
abbrev N_MutingTallying_init : List Str := ["self", "rule", "quorum", "names"]
theorem sc_MutingTallying_init : SRO.SupScope N_MutingTallying_init ["self", "rule", "quorum", "names"] (defScope s_MutingTallying_init) := ⟨rfl, rfl, rfl, by decide +kernel, rfl, by decide +kernel, by decide +kernel, by decide +kernel⟩
theorem walk_MutingTallying_init (T : Txt K mg) (FI_Muting_init : PySem.W.fnIn K (He.ma K (He.ga K "Muting") "__init__") = true) (F_Muting_init : SRO.FnK PP w K mg base CX0 6 (He.ma K (He.ga K "Muting") "__init__") ["quorum"] (spInitK K (aMT K)))
    (cdv : Value) (cc : Addr) (A : Around) (outer : List Env) (s0 : Shared) (H : Hp) (vs : List V) (Q : VK) (E : XK) (hr : Room 6 (A.deeper (SRO.envS "MutingTallying.__init__" (defScope s_MutingTallying_init) s0.heap.objs.size (He.ma K (He.ga K "MutingTallying") "__init__") cdv cc)))
    (SO : SRO.SupOk K PP (SRO.envS "MutingTallying.__init__" (defScope s_MutingTallying_init) s0.heap.objs.size (He.ma K (He.ga K "MutingTallying") "__init__") cdv cc) "self" (He.ga K "MutingTallying") cc) (h : spInitI K (aMT K) vs H Q E) :
    ∃ t, SRO.PSsAt (SRO.cxS CX0 PP w K mg base N_MutingTallying_init "MutingTallying.__init__" (defScope s_MutingTallying_init) (He.ma K (He.ga K "MutingTallying") "__init__") cdv cc A outer s0 H E) (defBody s_MutingTallying_init) (defBody s_MutingTallying_init) t ∧ t { nx := fun _ H' => Q .non H', rt := Q } (L2.start N_MutingTallying_init vs) H := by
  obtain ⟨m, r, t, ns, rfl, ht, hP⟩ := h
  have hm := hP.choose_spec.choose_spec.1
  refine ⟨_, (SRO.psa_one (SRO.psa_expr (SRO.pea_superK (i := 0) SO (T.free 51) (by rfl) (of_decide_eq_true (T.x 27)) (He.eqO_ok (T.x 30)) (He.eqO_ok (T.x 22)) (of_decide_eq_true (T.x 33)) FI_Muting_init F_Muting_init (hr.mono (by decide)) pass0 (pa_cons (pv 1) (StX.pa_star (pv 3) pa_nil)) (pk_cons (pv 2) pk_nil)))), ?_⟩
  refine ⟨m, _, _, rfl, hm, fun b hb => ?_⟩
  have e1 := same_new (o := .met (He.ma K (He.ga K "Muting") "__init__") m) hb
  have hP1 := hP.mono e1
  exact ⟨_, rfl, _, rfl, t, _, rfl, .inl (seqT e1 ht), _, rfl, upd_same, rfl, rfl, m, r, ns, by rw [List.append_nil], hP1⟩
theorem ok_Tallying_initK (T : Txt K mg) (FI_Monitor_init : PySem.W.fnIn K (He.ma K (He.ga K "Monitor") "__init__") = true) (F_Monitor_init : SRO.FnK PP w K mg base CX0 4 (He.ma K (He.ga K "Monitor") "__init__") ["quorum"] (spInitK K (aMT K))) :
    SRO.FnK PP w K mg base CX0 (4 + 1) (He.ma K (He.ga K "Tallying") "__init__") ["quorum"] (spInitK K (aMT K)) := by
  obtain ⟨cc, kV, doc, pm, cdv, ct, oc, an, od, osl, F⟩ := Txt.supFn (kws := [("quorum", .int 1)]) T 2 rfl (T.x 19)
  intro A outer s H us ws vs zs Q E hr e0 r rz hl ⟨ez, m, rr, ns, ev, hP⟩
  subst ev ez
  obtain ⟨rest, rfl, r2⟩ := vals_init r
  obtain ⟨u, rfl, ru⟩ := vals_one rz
  obtain ⟨x, rest', rfl⟩ := initP_rest hP r2
  obtain ⟨o, hl, hd⟩ := F.cell
  refine SRO.run_sup F.lk F.cd sc_Tallying_init ⟨o, _, hl, hd⟩ hr e0 (SRO.bnd_tuple (ps := ["self", "rule", "quorum"]) (pv := "names") (rest := x :: rest') (ys := [Value.ref m, Value.ref rr, u]) (zs := [.ref m, .ref rr, .int 1]) StX.cxUp_none e0 (fun M A' Q' Ex h => h) (.cons rfl (.cons rfl (.cons ru .nil))) r2 rfl (initP_le hP)) fun s2 H2 vs2 g hr2 => ?_
  obtain ⟨p, hp, rfl, rfl⟩ := g
  exact walk_Tallying_init T FI_Monitor_init F_Monitor_init cdv cc A outer s2 _ _ Q E hr2 (F.ok rfl rfl rfl ⟨_, rfl, rfl⟩) ⟨m, rr, p, ns, rfl, SqT.of upd_same, hP.mono (same_new hp)⟩
theorem ok_Muting_initK (T : Txt K mg) (FI_Tallying_init : PySem.W.fnIn K (He.ma K (He.ga K "Tallying") "__init__") = true) (F_Tallying_init : SRO.FnK PP w K mg base CX0 5 (He.ma K (He.ga K "Tallying") "__init__") ["quorum"] (spInitK K (aMT K))) :
    SRO.FnK PP w K mg base CX0 (5 + 1) (He.ma K (He.ga K "Muting") "__init__") ["quorum"] (spInitK K (aMT K)) := by
  obtain ⟨cc, kV, doc, pm, cdv, ct, oc, an, od, osl, F⟩ := Txt.supFn (kws := [("quorum", .int 1)]) T 0 rfl (T.x 17)
  intro A outer s H us ws vs zs Q E hr e0 r rz hl ⟨ez, m, rr, ns, ev, hP⟩
  subst ev ez
  obtain ⟨rest, rfl, r2⟩ := vals_init r
  obtain ⟨u, rfl, ru⟩ := vals_one rz
  obtain ⟨x, rest', rfl⟩ := initP_rest hP r2
  obtain ⟨o, hl, hd⟩ := F.cell
  refine SRO.run_sup F.lk F.cd sc_Muting_init ⟨o, _, hl, hd⟩ hr e0 (SRO.bnd_tuple (ps := ["self", "rule", "quorum"]) (pv := "names") (rest := x :: rest') (ys := [Value.ref m, Value.ref rr, u]) (zs := [.ref m, .ref rr, .int 1]) StX.cxUp_none e0 (fun M A' Q' Ex h => h) (.cons rfl (.cons rfl (.cons ru .nil))) r2 rfl (initP_le hP)) fun s2 H2 vs2 g hr2 => ?_
  obtain ⟨p, hp, rfl, rfl⟩ := g
  exact walk_Muting_init T FI_Tallying_init F_Tallying_init cdv cc A outer s2 _ _ Q E hr2 (F.ok rfl rfl rfl ⟨_, rfl, rfl⟩) ⟨m, rr, p, ns, rfl, SqT.of upd_same, hP.mono (same_new hp)⟩
theorem ok_MutingTallying_init (T : Txt K mg) (FI_Muting_init : PySem.W.fnIn K (He.ma K (He.ga K "Muting") "__init__") = true) (F_Muting_init : SRO.FnK PP w K mg base CX0 6 (He.ma K (He.ga K "Muting") "__init__") ["quorum"] (spInitK K (aMT K))) :
    FnR PP w K mg base CX0 7 (He.ma K (aMT K) "__init__") (spInit K (aMT K)) := by
  obtain ⟨cc, kV, doc, pm, cdv, ct, oc, an, od, osl, F⟩ := Txt.supFn (kws := [("quorum", .int 1)]) T 4 rfl (T.x 21)
  rcases F.kw with e | ⟨D, rfl, hq⟩
  · exact absurd e (List.cons_ne_nil _ _)
  obtain ⟨u, hu, ru⟩ := hq ("quorum", .int 1) (List.mem_cons_self ..)
  intro A outer s H us vs Q E hr e0 r ⟨m, rr, ns, ev, hP⟩
  subst ev
  obtain ⟨rest, rfl, r2⟩ := vals_init r
  obtain ⟨x, rest', rfl⟩ := initP_rest hP r2
  obtain ⟨o, hl, hd⟩ := F.cell
  refine SRO.run_sup F.lk F.cd sc_MutingTallying_init ⟨o, _, hl, hd⟩ hr e0 (SRO.bnd_tuple (ps := ["self", "rule", "quorum"]) (pv := "names") (rest := x :: rest') (ys := [Value.ref m, Value.ref rr, u]) (zs := [.ref m, .ref rr, .int 1]) StX.cxUp_none e0 (fun M A' Q' Ex h => ?_) (.cons rfl (.cons rfl (.cons ru .nil))) r2 rfl (initP_le hP)) fun s2 H2 vs2 g hr2 => ?_
  · have e : ∃ (β γ : Type) (k1 : Option Value → Sem β) (k2 : β → Sem γ) (k3 : γ → Sem (List (Str × Value))) (a : β), bindArgs (PySem.W.ksFn "__init__" "MutingTallying.__init__" (defArgs s_MutingTallying_init) (defBody s_MutingTallying_init) (defScope s_MutingTallying_init) .none (.ref D) doc pm an cdv ct cc) ⟨Value.ref m :: Value.ref rr :: x :: rest', []⟩ = ((nsGet D "quorum" >>= k1) >>= k2) >>= k3 ∧
        k1 (some u) = pure a ∧ (k2 a >>= k3) = (newTuple (x :: rest') >>= fun t => pure ((["self", "rule", "quorum"] : List Str).zip [Value.ref m, Value.ref rr, u] ++ [(("names" : Str), t)])) := ⟨_, _, _, _, _, _, rfl, rfl, rfl⟩
    obtain ⟨_, _, k1, k2, k3, a, e1, e2, e3⟩ := e
    rw [show bindArgs _ _ = _ from e1, bind_assoc]
    have KX : K.In s.heap := e0.mod.kin.keeps fun b o e => (e0.bs b o e).1
    have L1 : PySem.W.Looks M s.heap (nsGet D "quorum" >>= k1) a := (PySem.W.looks_nsIn KX hu).andThen (PySem.W.Looks.of_pure e2)
    refine wpAny_bind (L1.here ?_)
    rw [e3]
    exact h
  · obtain ⟨p, hp, rfl, rfl⟩ := g
    exact walk_MutingTallying_init T FI_Muting_init F_Muting_init cdv cc A outer s2 _ _ Q E hr2 (F.ok rfl rfl rfl ⟨_, rfl, rfl⟩) ⟨m, rr, p, ns, rfl, SqT.of upd_same, hP.mono (same_new hp)⟩
end
end SRD
/-! The law's own defs: _law_changed. -/
namespace SRD
open PySem PySem.Spec PyProof.Rows L2 SRT
/-- the first k changes' places -/
def chgK (n : Str) (bs : List Bool) (k : Nat) : List (Nat × Str × Bool) := ((List.range k).filter fun i => bs.getD (i + 1) false != bs.getD i false).map fun i => (i + 1, n, bs.getD (i + 1) false)
theorem chgK_succ (n : Str) (bs : List Bool) (k : Nat) : chgK n bs (k + 1) = if bs.getD (k + 1) false != bs.getD k false then chgK n bs k ++ [(k + 1, n, bs.getD (k + 1) false)] else chgK n bs k := by
  unfold chgK
  rw [List.range_succ, List.filter_append, List.map_append]
  by_cases h : (bs.getD (k + 1) false != bs.getD k false) = true
  · rw [if_pos h, List.filter_cons_of_pos (p := fun i => bs.getD (i + 1) false != bs.getD i false) h]
    rfl
  · rw [if_neg h, List.filter_cons_of_neg (p := fun i => bs.getD (i + 1) false != bs.getD i false) h]
    exact List.append_nil _
theorem txS_len (bs : List Bool) : (txS bs).length = bs.length := by
  show (List.map udC bs).toArray.size = _
  simp
theorem txS_at {bs : List Bool} {k : Nat} (h : k < bs.length) : atI (txS bs).cps.toList ((k : Nat) : Int) = some (udC (bs.getD k false)) := by
  refine atI_nat ?_
  show (List.map udC bs)[k]? = _
  rw [List.getElem?_map, List.getD_eq_getElem?_getD, List.getElem?_eq_getElem h]
  rfl
theorem ud_ne (a b : Bool) : (!decide (V.str ⟨#[udC a]⟩ = V.str ⟨#[udC b]⟩)) = (a != b) := by
  cases a <;> cases b <;> decide +kernel
theorem LogAt.butL {K : PySem.W.Frag} {H H' : Hp} {p : Addr} {l xs : List V} {lg : List (Nat × Str × Bool)} (h : LogAt K H xs lg) (e : SameBut p H H') (hp : H p = some (.lst l)) : LogAt K H' xs lg := ⟨h.1, fun i x s hx hs => by
  obtain ⟨b, e1, e2⟩ := h.2 i x s hx hs
  exact ⟨b, e1, seqT_but e hp e2⟩⟩
section
variable {w : World} {K : PySem.W.Frag} {mg : Str → Option Value} {base : Heap}
abbrev N_law_changed : List Str := ["_law_name", "_law_told", "_law_at"]
theorem sc_law_changed : FnScope N_law_changed ["_law_name", "_law_told"] (defScope s_law_changed) := ⟨rfl, rfl, rfl, by decide +kernel, rfl, by decide +kernel, by decide +kernel⟩
def spChanged (K : PySem.W.Frag) : Sp := fun vs H Q _ => ∃ (n : Str) (bs : List Bool), vs = [.str n, .str (txS bs)] ∧ bs.length ≤ 100 ∧ ∀ (a : Addr) (ys : List V) (H' : Hp), Same H H' → H' a = some (.lst ys) → LogAt K H' ys (chgK n bs (bs.length - 1)) → Q (.ref a) H'
theorem ok_law_changed (T : Txt K mg) : FnR PP w K mg base CX0 1 (He.ga K "_law_changed") (spChanged K) := by
  refine defR (T.def_ 27 rfl) sc_law_changed (fun _ _ _ _ _ _ us hl => match us, hl with | [_, _], _ => rfl) ?_ ?_
  · rintro vs H Q E ⟨n, bs, rfl, _⟩
    rfl
  rintro cdv A outer s0 H vs Q E hr ⟨n, bs, rfl, hle, q⟩
  refine ⟨_, (pss_one (ps_ret (pe_lc rfl sc_law_changed.nd (pi_range2 (by rfl) (T.free 46) (pa_cons pe_int (pa_cons (pe_callB call_len_str (by rfl) (T.free 42) boot_len (pa_cons (pv 1) pa_nil)) pa_nil))) (blkOk_by (own := [("_law_at", 2)]) (N := N_law_changed) (sc := defScope s_law_changed) (by decide +kernel)) (fun _ _ _ _ _ => (pg_name (i := 2) sc_law_changed.nd rfl (Or.inl rfl))) (fun _ _ _ _ _ => pts_one (pt_cmpR op_ne (pe_ix ix_str (pv 1) (pv 2) (fun _ _ => rfl)) (pe_ix ix_str (pv 1) (pe_op op_sub (pv 2) pe_int) (fun _ _ => rfl)) (nomark _))) (fun _ _ _ _ _ => (pe_tup (pa_cons (pv 2) (pa_cons (pv 0) (pa_cons (pe_ix ix_str (pv 1) (pv 2) (fun _ _ => rfl)) pa_nil)))))))), ?_⟩
  ac_rfl
  have hl := txS_len bs
  refine ⟨txS bs, rfl, by rw [hl]; exact Nat.le_of_lt (small1000 (by omega)), ?_⟩
  refine ⟨1, _, rfl, ⟨by decide, by decide, by omega, by omega⟩, fun D hD => ?_⟩
  rw [show ((((txS bs).length : Nat) : Int) - 1).toNat = bs.length - 1 from by omega]
  refine lc_range (lo := 1) (fun i H' => Same H H' ∧ ∃ ys, H' D = some (.lst ys) ∧ LogAt K H' ys (chgK n bs i)) ⟨same_new hD, [], upd_same, LogAt.nil⟩ ?_ ?_
  · rintro i H1 hi ⟨e1, ys, hy, hL⟩
    have a1 : atI (txS bs).cps.toList (1 + ((i : Nat) : Int)) = some (udC (bs.getD (i + 1) false)) := by
      rw [show (1 : Int) + ((i : Nat) : Int) = ((i + 1 : Nat) : Int) from by push_cast; omega]
      exact txS_at (by omega)
    have a2 : atI (txS bs).cps.toList (1 + ((i : Nat) : Int) - 1) = some (udC (bs.getD i false)) := by
      rw [show (1 : Int) + ((i : Nat) : Int) - 1 = ((i : Nat) : Int) from by omega]
      exact txS_at (by omega)
    have z1 : (txS bs).length ≤ sizeLine := by rw [hl]; exact Nat.le_of_lt (small1000 (by omega))
    ac_rfl
    refine s_ixS z1 a1 ?_
    ac_rfl
    refine s_ixS z1 a2 ?_
    ac_rfl
    rw [ud_ne, chgK_succ]
    have hyl : ys.length ≤ 100 := by
      have := List.length_filter_le (fun i => bs.getD (i + 1) false != bs.getD i false) (List.range i)
      rw [List.length_range] at this
      rw [hL.1]
      unfold chgK
      rw [List.length_map]
      omega
    by_cases hb : (bs.getD (i + 1) false != bs.getD i false) = true
    · rw [if_pos hb, if_pos hb]
      ac_rfl
      refine s_ixS z1 a1 ?_
      ac_rfl
      intro u hu
      have nD : D ≠ u := ne_of_none hy hu
      have f1 := same_new (o := .tup [.int (1 + ((i : Nat) : Int)), .str n, .str ⟨#[udC (bs.getD (i + 1) false)]⟩]) hu
      refine ⟨ys, (upd_ne nD).trans hy, Nat.lt_of_le_of_lt hyl (by rw [sizeLine_eq]; omega), fun c o hc => (upd_ne (ne_of_none hc hD)).trans (f1 _ _ (e1 _ _ hc)), _, upd_same, ?_⟩
      refine (LogAt.butL (LogAt.mono f1 hL) (SameBut.upd _ _ _) (f1 _ _ hy)).snoc (s := (i + 1, n, bs.getD (i + 1) false)) ?_
      have hu2 : SqT K (upd (upd H1 u (.tup [.int (1 + ((i : Nat) : Int)), .str n, .str ⟨#[udC (bs.getD (i + 1) false)]⟩])) D (.lst (ys ++ [.ref u]))) u [.int (1 + ((i : Nat) : Int)), .str n, .str ⟨#[udC (bs.getD (i + 1) false)]⟩] := SqT.of ((upd_ne nD.symm).trans upd_same)
      have e5 : lgV (i + 1, n, bs.getD (i + 1) false) = [.int (1 + ((i : Nat) : Int)), .str n, .str ⟨#[udC (bs.getD (i + 1) false)]⟩] := by
        unfold lgV
        rw [udC_st]
        show [V.int ((i + 1 : Nat) : Int), _, _] = _
        rw [show ((i + 1 : Nat) : Int) = 1 + ((i : Nat) : Int) from by omega]
      rw [e5]
      exact hu2
    · rw [if_neg hb, if_neg hb]
      exact ⟨e1, ys, hy, hL⟩
  rintro H1 ⟨e1, ys, hy, hL⟩
  exact q D ys H1 e1 hy hL
end
end SRD
/-! Own rules, tenth part: repr of data; calls that know that no guard is under way. -/
namespace SRO
open PySem PySem.Spec PyProof.Rows L2
section
variable {X : Cx}
def rReprD (K : PySem.W.Frag) : List V → Hp → VK → Prop := fun xs H Q => ∃ (a : Addr) (d : PyData), xs = [.ref a] ∧ Dp K H (.ref a) d ∧ d.showable = true ∧ d.hasDict = false ∧ d.depth ≤ 20 ∧ d.shown.length ≤ sizeLine ∧ Q (.str d.shown) H
theorem call_reprD {K : PySem.W.Frag} (hg : X.A.guards = some []) (hu : X.A.units + 64 < cLine) (e : X.K = K := by rfl) : CallR X (.builtin "repr") (rReprD K) := by
  subst e
  intro pins s σ H xs us Q I r h
  obtain ⟨a, d, rfl, hd, h1, h2, h3, h4, q⟩ := h
  obtain ⟨u, rfl, rfl⟩ := vals1 r
  obtain ⟨as, rd⟩ := Dp.reads I d _ _ hd rfl
  refine repr_of_reads' rd h1 (fun z => by rw [h2] at z; cases z) hg (by omega) (fun b o q => q) (fun h' u tk hk => ?_) h4
  exact ⟨.str d.shown, H, I.kept hk, ⟨_, rfl⟩, q⟩
end
/-- f(us) keeps a promise where no repr is under way -/
def FnG (P : Program) (w : World) (K : PySem.W.Frag) (mg : Str → Option Value) (base : Heap) (CX : CXT) (k : Nat) (f : Addr) (sp : Sp) : Prop :=
  ∀ (A : Around) (outer : List Env) (s : Shared) (H : Hp) (us : List Value) (vs : List V) (Q : VK) (E : XK), A.guards = some [] → Room k A → Env0 P w K mg base A outer s H → Vals vs us → sp vs H Q E →
    codeAny (model P w) A (.call (.ref f) ⟨us, []⟩) (CR CX outer P w H s Q E) s
section
variable {X : Cx} {pins : List (Addr × Obj)} {σ : L2.St} {H : Hp} {s : Shared}
theorem run_fnG {CX : CXT} {k : Nat} {f : Addr} {sp : Sp} {E : XK} {Q : VK} {us : List Value} {vs : List V} (F : FnG X.prog X.w X.K X.mg X.base CX k f sp) (hg : X.A.guards = some []) (hr : Room k X.A) (hx : Passes CX X E) (I : Inv X pins σ H s) (r : Vals vs us) (h : sp vs H Q E) :
    codeAny (model X.prog X.w) X.A (.call (.ref f) ⟨us, []⟩) (wants (EP X pins σ Q) X.xe) s := by
  refine codeAny_mono (F X.A X.stack s H us vs Q E hg hr I.env0 r h) fun r s' hq => ?_
  cases r with
  | error e => exact hx pins σ H s e s' I hq
  | ok fl =>
    cases fl with
    | ret u => exact I.after hq
    | next => exact False.elim hq
    | brk => exact False.elim hq
    | cont => exact False.elim hq
theorem pe_callG {CX : CXT} {k : Nat} {f : Addr} {sp : Sp} {E : XK} {t : TA} {x : Str} {e : Expr} {es : List Expr} {p pos : Pos} (gd : X.A.guards = some []) (F : FnG X.prog X.w X.K X.mg X.base CX k f sp) (hr : Room k X.A) (hg : Gl X x) (hm : X.mg x = some (.ref f)) (hk : PySem.W.keepIn X.K (.ref f) = true) (hx : Passes CX X E) (ha : PA X (e :: es) t)
    (hd : (x == ("__debug__" : Str)) = false := by decide)
    (he : starEach (e :: es) X.env = (false, eval e X.env) :: starEach es X.env := by rfl) (hpl : (backTo pos (starEach es X.env)).any (·.1) = false := by rfl) : PE X (.Call (.Name x p) (e :: es) [] pos) (tCallR sp E t) := by
  refine ⟨fun pins s σ H Q I h => ?_⟩
  refine wpAny_Call_Name_kw (ld_glob I hg hm ?_ hd)
  refine PySem.W.callWith_K (h₀ := X.base) I.ok.mod.kin hk (thn (ha.run pos pins s σ H _ I h) fun us s1 ⟨vs, H1, I1, r, q⟩ => ⟨I1.kIn, ?_⟩) he hpl
  exact wpAny_call (run_fnG F gd hr hx I1 r q)
end
end SRO
/-! The law's own defs: _law_same. -/
namespace SRD
open PySem PySem.Spec PyProof.Rows L2 SRT
/-- a def's promise where no repr is under way -/
theorem defG {P : Program} {w : World} {K : PySem.W.Frag} {mg : Str → Option Value} {base : Heap} {x qual : Str} {params : Arguments} {body : List Stmt} {scope : Scope} {f : Addr} {N ps : List Str} {k : Nat} {sp : Sp}
    (F : ∃ fd, FunD K x qual params body scope [] [] f fd) (S : FnScope N ps scope)
    (bd : ∀ (kV doc pm : Value) (an : Option Addr) (cdv ct : Value) (us : List Value), us.length = ps.length → bindArgs (PySem.W.fnOf x qual params body scope .none kV doc pm an cdv ct) ⟨us, []⟩ = pure (ps.zip us))
    (len : ∀ vs H Q E, sp vs H Q E → vs.length = ps.length)
    (hbody : ∀ (cdv : Value) (A : Around) (outer : List Env) (s : Shared) (H : Hp) (vs : List V) (Q : VK) (E : XK), (A.deeper (envOfC qual scope s.heap.objs.size f cdv)).guards = some [] → Room k (A.deeper (envOfC qual scope s.heap.objs.size f cdv)) → sp vs H Q E →
      ∃ t, PSs (cxOf CX0 P w K mg base N qual scope f cdv A outer s H E).nox body t ∧ t { nx := fun _ H' => Q .non H', rt := Q } (L2.start N vs) H) : SRO.FnG P w K mg base CX0 (k + 1) f sp := by
  obtain ⟨fd, oc, od, dV, kV, doc, pm, an, cdv, ct, osl, rfl, lk, hcd, hD, _⟩ := F.imp fun _ h => h.ex
  rcases hD with ⟨_, rfl⟩ | ⟨e, _⟩
  · intro A outer s H us vs Q E gd hr e0 r hsp
    have hl := len _ _ _ _ hsp
    refine StX.run_bnd lk hcd S hr e0 (SRO.bnd_plain (vs := vs) (zs := vs) e0 (bd kV doc pm an cdv ct us (by rw [← r.length]; exact hl)) r hl) fun s2 H2 vs2 g hr2 => ?_
    obtain ⟨rfl, rfl⟩ := g
    obtain ⟨t, h1, h2⟩ := hbody cdv A outer s2 _ _ Q E gd hr2 hsp
    exact ⟨t, h1.nox, h2⟩
  · exact absurd rfl e
section
variable {w : World} {K : PySem.W.Frag} {mg : Str → Option Value} {base : Heap}
abbrev N_law_same : List Str := ["_law_found", "_law_due"]
theorem sc_law_same : FnScope N_law_same ["_law_found", "_law_due"] (defScope s_law_same) := ⟨rfl, rfl, rfl, by decide +kernel, rfl, by decide +kernel, by decide +kernel⟩
def spSame (K : PySem.W.Frag) : Sp := fun vs H Q _ => ∃ (a b : Addr) (d : PyData), vs = [.ref a, .ref b] ∧ Dp K H (.ref a) d ∧ Dp K H (.ref b) d ∧ d.showable = true ∧ d.hasDict = false ∧ d.depth ≤ 20 ∧ d.shown.length ≤ sizeLine ∧ Q (.bl true) H
theorem ok_law_same (T : Txt K mg) : SRO.FnG PP w K mg base CX0 1 (He.ga K "_law_same") (spSame K) := by
  refine defG (T.def_ 26 rfl) sc_law_same (fun _ _ _ _ _ _ us hl => match us, hl with | [_, _], _ => rfl) ?_ ?_
  · rintro vs H Q E ⟨a, b, d, rfl, _⟩
    rfl
  rintro cdv A outer s0 H vs Q E GD hr ⟨a, b, d, rfl, h1, h2, h3, h4, h5, h6, q⟩
  refine ⟨_, (pss_one (ps_ret (pe_cmpR op_eq (pe_callB (SRO.call_reprD (K := K) GD (hr.mono (Nat.zero_le _)).units) (by rfl) (T.free 52) boot_repr (pa_cons (pv 0) pa_nil)) (pe_callB (SRO.call_reprD (K := K) GD (hr.mono (Nat.zero_le _)).units) (by rfl) (T.free 52) boot_repr (pa_cons (pv 1) pa_nil)) (nomark _)))), ?_⟩
  ac_rfl
  refine ⟨a, d, rfl, h1, h3, h4, h5, h6, ?_⟩
  ac_rfl
  refine ⟨b, d, rfl, h2, h3, h4, h5, h6, ?_⟩
  ac_rfl
  show Q _ H
  rw [decide_eq_true rfl]
  exact q
end
end SRD
/-! Generators that a comprehension walks: the def's side («yield from» alone). -/
namespace SRO
open PySem PySem.Spec PyProof.Rows L2 GenW
/-- between two turns: all objects but the consumer's two at C and D stay -/
structure Rst (C D : Addr) (s s' : Shared) : Prop where
  os : s'.os = s.os
  bare : AllBare s'.gens
  keep : ∀ b o, b ≠ C → b ≠ D → s.heap.get? b = some o → s'.heap.get? b = some o
  thC : ∃ o, s'.heap.get? C = some o ∧ ∀ v, o.data ≠ .cell v
  thD : ∃ o, s'.heap.get? D = some o ∧ ∀ v, o.data ≠ .cell v
/-- the generator runs; C and D stand as at the resume -/
def GP (X : Cx) (C D : Addr) (σ : L2.St) (H : Hp) (s₀ s : Shared) : Prop := ∃ oC oD, s₀.heap.get? C = some oC ∧ s₀.heap.get? D = some oD ∧ Inv X [(C, oC), (D, oD)] σ H s
theorem GP.of {X : Cx} {C D : Addr} {σ : L2.St} {H : Hp} {s₀ s : Shared} (h : GP X C D σ H s₀ s) : H C = none ∧ H D = none ∧ C ∉ X.fs ∧ D ∉ X.fs ∧ s.heap.get? C = s₀.heap.get? C ∧ s.heap.get? D = s₀.heap.get? D ∧ Inv X [] σ H s := by
  obtain ⟨oC, oD, eC, eD, I⟩ := h
  obtain ⟨c1, c2, c3, c4, _⟩ := I.pin (C, oC) (List.mem_append_right _ List.mem_cons_self)
  obtain ⟨d1, d2, d3, d4, _⟩ := I.pin (D, oD) (List.mem_append_right _ (List.mem_cons_of_mem _ List.mem_cons_self))
  exact ⟨c2, d2, c4, d4, c1.trans eC.symm, d1.trans eD.symm, I.pins_of fun p hp => by cases hp⟩
/-- woken again -/
theorem GP.woken {X : Cx} {C D : Addr} {σ : L2.St} {H : Hp} {s₀ s s' : Shared} (hpn : ∀ p ∈ X.pn, p.1 ≠ C ∧ p.1 ≠ D) (hC : Apart X C) (hD : Apart X D) (h : GP X C D σ H s₀ s) (z : Rst C D s s') : GP X C D σ H s' s' := by
  obtain ⟨nC, nD, fC, fD, _, _, I⟩ := h.of
  have nt : ∀ b u, H b = some u → b ≠ C ∧ b ≠ D := fun b u q => ⟨fun hb => (by rw [hb, nC] at q; cases q), fun hb => (by rw [hb, nD] at q; cases q)⟩
  obtain ⟨z1, z2, z3, ⟨oC, eC, cC⟩, oD, eD, cD⟩ := z
  refine ⟨oC, oD, eC, eD, ?_⟩
  obtain ⟨hh, g, d, t, o⟩ := s'
  have ho : o = s.os := z1
  subst ho
  have nc : ∀ b, b ∉ [C, D] → b ≠ C ∧ b ≠ D := fun b hb => ⟨fun e => hb (by rw [e]; exact List.mem_cons_self), fun e => hb (by rw [e]; exact List.mem_cons_of_mem _ List.mem_cons_self)⟩
  have J : Inv X [] σ H { s with heap := hh, gens := g, drawn := d, toks := t } := by
    refine I.step (g' := g) (t' := t) (d' := d) (ch := [C, D]) (fun b hb => ?_)
      (fun b ob _ _ hc q _ => z3 b ob (nc b hc).1 (nc b hc).2 q) (fun b ob _ _ hc q _ => ⟨ob.slots, z3 b ob (nc b hc).1 (nc b hc).2 q⟩) (fun _ _ _ _ n => n) (fun b ob hc q => ⟨ob, z3 b ob (nc b hc).1 (nc b hc).2 q⟩)
      (fun _ _ q => q) (fun _ _ _ q => q) (fun b ps q => ⟨#[], by rw [q]; simp⟩) (fun m hm => ?_) (fun b u q => ?_) z2
    · rcases List.mem_cons.mp hb with hb | hb
      · rw [hb]
        exact ⟨.inr hC.1, hC.2.1, hC.2.2, fun p hp => (List.mem_append.mp hp).elim (fun z => (hpn p z).1) fun z => by cases z⟩
      · rw [List.mem_singleton.mp hb]
        exact ⟨.inr hD.1, hD.2.1, hD.2.2, fun p hp => (List.mem_append.mp hp).elim (fun z => (hpn p z).2) fun z => by cases z⟩
    · obtain ⟨ob, es, ep, ho, r⟩ := hm
      exact ⟨ob, es, ep, z3 _ ob (Ne.symm hC.2.1) (Ne.symm hD.2.1) ho, r⟩
    · refine (I.hok b u q).stay (fun c v hc y => z3 c v ?_ ?_ y) (fun _ y => y) fun _ _ y => y
      · rcases hc with y | y
        · rw [y]; exact (nt b u q).1
        · exact (nt c _ y).1
      · rcases hc with y | y
        · rw [y]; exact (nt b u q).2
        · exact (nt c _ y).2
  refine J.pins_of fun p hp => ?_
  rcases List.mem_cons.mp hp with hp | hp
  · rw [hp]
    exact ⟨eC, nC, hC.2.1, fC, cC⟩
  · rw [List.mem_singleton.mp hp]
    exact ⟨eD, nD, hD.2.1, fD, cD⟩
/-- the protocol: item j of xs is handed out -/
def YD (X : Cx) (C D : Addr) (xs : List V) (σ : L2.St) (H : Hp) : Protocol := fun n s₀ v s kap =>
  ∃ j x, n + 1 + j = xs.length ∧ xs[j]? = some x ∧ RelV x v ∧ GP X C D σ H s₀ s ∧ ∀ s', Rst C D s s' → kap (.send .none) s'
section
variable {X : Cx} {e : Expr} {yp pos : Pos}
/-- the turns of «yield from» -/
theorem seg_yfD {C D : Addr} {A : Around} {R : GenEnd} {fs : List Frame} {it : Addr} {xs : List V} {St : Nat → Heap → Prop} {σ : L2.St} {H : Hp} (hpn : ∀ p ∈ X.pn, p.1 ≠ C ∧ p.1 ≠ D) (hpi : ∀ p ∈ X.pn, p.1 ≠ it) (hC : Apart X C) (hD : Apart X D)
    (hex : it ∈ X.ex ∨ X.s_0.heap.objs.size ≤ it) (hL : it ≠ X.env.locals) (hcell : ∀ x c, X.env.cells.lookup x = some c → c ≠ it) (hCi : it ≠ C) (hDi : it ≠ D) (hH : H it = none) (q : QIt X H it xs St)
    (ho : (A.over (.builtin "proto.yield_from" ⟨[.ref it, .bool false, .none], []⟩) fs).handled = none) (hsp : splitAtGen fs = none) (hgd : fs.any Frame.guarded = false)
    (hend : ∀ (s₀ s : Shared), GP X C D σ H s₀ s → Seg (model X.prog X.w) A R (YD X C D xs σ H) 0 s₀ (.builtin "proto.yield_from" ⟨[.ref it, .bool false, .none], []⟩) (.pure (.done (.ret .none))) fs s) :
    ∀ (r j : Nat) (s₀ s : Shared), j + r = xs.length → GP X C D σ H s₀ s → St j s.heap →
      Seg (model X.prog X.w) A R (YD X C D xs σ H) r s₀ (.builtin "proto.yield_from" ⟨[.ref it, .bool false, .none], []⟩) ((model X.prog X.w).den (.builtin "proto.yield_from" ⟨[.ref it, .bool false, .none], []⟩)) fs s := by
  obtain ⟨T, hT, hcl, hng⟩ := q.ty
  have turned : ∀ {s₀ s : Shared} {h' : Heap} {tk : Nat}, GP X C D σ H s₀ s → (∀ b o, b ≠ it → s.heap.get? b = some o → h'.get? b = some o) → GP X C D σ H s₀ { s with heap := h', toks := tk } := fun {s₀ s h' tk} hI hk => by
    obtain ⟨oC, oD, eC, eD, I⟩ := hI
    refine ⟨oC, oD, eC, eD, I.turned (it := it) hk hH hL hex hcell fun p hp => ?_⟩
    rcases List.mem_append.mp hp with hp | hp
    · exact hpi p hp
    · rcases List.mem_cons.mp hp with hp | hp
      · rw [hp]; exact Ne.symm hCi
      · rw [List.mem_singleton.mp hp]; exact Ne.symm hDi
  intro r
  induction r with
  | zero =>
    intro j s₀ s hj hI hst
    have hj' : j = xs.length := by omega
    subst hj'
    rw [den_yf]
    unfold Builtin.«proto.yield_from»
    try dsimp only
    refine seg_bind (wpAny_pure ?_)
    try dsimp only
    refine seg_bind (wpAny_attempt (wpAny_holding ?_))
    rw [if_neg Bool.false_ne_true, if_pos (show (Value.none == Value.none) = true from rfl)]
    refine wpAny_bind (wpAny_rule (wpAny_bind ?_))
    refine q.done _ s _ _ ho hst fun e h' tk hS hk => ?_
    obtain ⟨a, o, vs, rfl, hoa, hcls, hdat, h5⟩ := hS
    try dsimp only
    refine seg_bind (wpAny_endsTurn hoa hcls ?_)
    try dsimp only
    rw [if_pos rfl]
    first
      | refine seg_bind (wpAny_rule ?_)
      | (rw [if_neg Bool.false_ne_true]; refine seg_bind (wpAny_rule ?_))
      | (rw [if_neg Bool.false_ne_true]; refine seg_bind (wpAny_pure ?_); refine seg_bind (wpAny_rule ?_))
    refine seg_bind (wpAny_field hoa hdat h5 ?_)
    exact hend s₀ _ (turned hI hk)
  | succ r ih =>
    intro j s₀ s hj hI hst
    have hjl : j < xs.length := by omega
    obtain ⟨x, hx⟩ : ∃ x, xs[j]? = some x := ⟨xs[j], List.getElem?_eq_getElem hjl⟩
    rw [den_yf]
    unfold Builtin.«proto.yield_from»
    try dsimp only
    refine seg_bind (wpAny_pure ?_)
    try dsimp only
    refine seg_bind (wpAny_attempt (wpAny_holding ?_))
    rw [if_neg Bool.false_ne_true, if_pos (show (Value.none == Value.none) = true from rfl)]
    refine wpAny_bind (wpAny_rule (wpAny_bind ?_))
    refine q.item _ j x s _ _ ho hx hst fun v h' tk rv hst' hk => ?_
    have hI' := turned (tk := tk) hI hk
    obtain ⟨oi, hoi, hoc⟩ := hT (j + 1) h' hst'
    refine wpAny_pure ?_
    try dsimp only
    refine seg_bind (wpAny_typeOf (T := T) ⟨oi, hoi, hoc⟩ ?_)
    try dsimp only
    first
      | (refine seg_bind (wpAny_of_eq hcl ?_); refine seg_bind (wpAny_pure ?_))
      | refine seg_bind (wpAny_bind (wpAny_of_eq hcl (wpAny_pure ?_)))
      | refine seg_bind (wpAny_of_eq hcl ?_)
    try dsimp only
    refine seg_bind (wpAny_sleptOver hoi hoc hng ?_)
    refine seg_yield hsp rfl hgd ?_
    refine ⟨j, x, by omega, hx, rv, hI', fun s'' z => ?_⟩
    have hI2 := hI'.woken hpn hC hD z
    obtain ⟨nC, nD, _⟩ := hI'.of
    have hst2 : St (j + 1) s''.heap := q.frame (j + 1) h' s''.heap hst' fun b o hb e => z.keep b o (fun hm => by
      rcases hb with y | y
      · exact hCi (y.symm.trans hm)
      · exact y (by rw [hm]; exact nC)) (fun hm => by
      rcases hb with y | y
      · exact hDi (y.symm.trans hm)
      · exact y (by rw [hm]; exact nD)) e
    obtain ⟨oj, hoj, hojc⟩ := hT (j + 1) s''.heap hst2
    show Seg _ _ _ _ r s'' _ (Builtin.Generator.sleptOver (.ref it) false >>= fun _ => _) fs s''
    refine seg_bind (wpAny_sleptOver hoj hojc hng ?_)
    try dsimp only
    refine seg_bind (wpAny_pure ?_)
    exact seg_again (plainId_quiet plain_yf _) (ih (j + 1) s'' s'' (by omega) hI2 hst2)
/-- the sole statement -/
theorem seg_yieldFromD {t : TYf} {C D : Addr} {A : Around} {R : GenEnd} {s₀ s : Shared} {c : Code} {fs : List Frame} {K : Flow → Sem PySem.Fin} {J : Value → Sem PySem.Fin} {gd : Bool → Bool} {lv : List Value → List Value} {σ : L2.St} {H : Hp} {xs : List V}
    (he : YfE X e t) (hc : X.A.handled = none) (hpn : ∀ p ∈ X.pn, p.1 ≠ C ∧ p.1 ≠ D) (hC : Apart X C) (hD : Apart X D) (hov : A.over c fs = X.A) (hsp : splitAtGen fs = none) (hgu : fs.any Frame.guarded = false) (hgd : gd false = false)
    (hok : ∀ s₀ s, GP X C D σ H s₀ s → Seg (model X.prog X.w) A R (YD X C D xs σ H) 0 s₀ c (K .next) fs s) (hexc : ∀ n s₀ x s, X.xe x s → Seg (model X.prog X.w) A R (YD X C D xs σ H) n s₀ c (J x) fs s)
    (hI : GP X C D σ H s₀ s) (ht : t σ H fun ys H' => ys = xs ∧ H' = H) (hi : interactive X.env = false := by rfl) :
    Seg (model X.prog X.w) A R (YD X C D xs σ H) xs.length s₀ c ((exec (.Expr (.YieldFrom e yp) pos) X.env).wrap K J gd lv) fs s := by
  rw [exec_Expr X.env _ pos hi rfl]
  show Seg _ _ _ _ xs.length s₀ c (.at pos fun _ => ((eval e X.env >>= fun v => (standAt yp >>= fun _ => yieldFrom X.env v)) >>= fun x => dropValue (.YieldFrom e yp) pos x).wrap K J gd lv) fs s
  refine seg_at ?_
  obtain ⟨oC, oD, eC, eD, I⟩ := hI
  refine segw_bind2 ?_
  rw [hov]
  refine wpAny_mono (he.run _ s σ H _ I ht) (fun v s1 hv => ?_) fun x s' hx => hexc _ s₀ x s' hx
  obtain ⟨T, hT, hne, hit⟩ := hv
  have hne' : ¬ ((Value.type T == Value.type "coroutine") = true) := by rw [hne]; exact Bool.false_ne_true
  refine seg_at ?_
  show Seg _ _ _ _ xs.length s₀ c ((yieldFrom X.env v).wrap (fun b => (dropValue (.YieldFrom e yp) pos b).wrap K J gd lv) J gd lv) fs s1
  unfold yieldFrom
  refine seg_bind_wrap (wpAny_typeOf hT ?_)
  rw [if_neg hne']
  refine seg_bind_wrap (wpAny_holding ?_)
  rw [hov]
  refine wpAny_mono hit (fun u s2 hu => ?_) fun x s' hx => hexc _ s₀ x s' hx
  obtain ⟨it, H', ys, St, rfl, I2, q1, q2, q3, q4, q5, q6, q7, rfl, rfl⟩ := hu
  refine seg_call fun p => ?_
  have hCi : it ≠ C := fun z => q5 (C, oC) (List.mem_append_right _ List.mem_cons_self) z.symm
  have hDi : it ≠ D := fun z => q5 (D, oD) (List.mem_append_right _ (List.mem_cons_of_mem _ List.mem_cons_self)) z.symm
  refine seg_yfD (xs := ys) hpn (fun p hp => q5 p (List.mem_append_left _ hp)) hC hD q1 q2 q3 hCi hDi q4 q7 ?_ ?_ ?_
    (fun s₀' s' hG => ?_) ys.length 0 s₀ s2 (Nat.zero_add _) ⟨oC, oD, eC, eD, I2⟩ q6
  · show (A.over c fs).handled = none
    rw [hov]; exact hc
  · show (splitAtGen fs).map _ = none
    rw [hsp]; rfl
  · show (gd false || fs.any Frame.guarded) = false
    rw [hgd, hgu]; rfl
  · exact seg_leaf (.ok (.ret .none)) (hok s₀' s' hG)
end
end SRO
/-! Generators that a comprehension walks: the def's promise, its call. -/
namespace SRO
open PySem PySem.Spec PyProof.Rows L2 GenW
/-- the generator's side, for the consumer: as at the call but for new objects -/
structure KSt (P : Program) (w : World) (outer : List Env) (H : Hp) (sc : Shared) (a : Addr) (g : Nat) (C D : Addr) (s₀ s : Shared) : Prop where
  os : s.os = sc.os
  bare : AllBare s.gens
  un : Un (frs outer) [] H H sc.heap s.heap
  hok : HOk P w H s.heap
  gen : s.heap.IsGen a g
  eC : s.heap.get? C = s₀.heap.get? C
  eD : s.heap.get? D = s₀.heap.get? D
def KEnd (P : Program) (w : World) (outer : List Env) (H : Hp) (sc : Shared) (a : Addr) (g : Nat) (C D : Addr) : GenEnd := fun n s₀ r s1 =>
  ((r = .ok (.ret .none) ∨ r = .ok .next) ∧ (n = 0 ∧ KSt P w outer H sc a g C D s₀ s1)) ∨ ∃ e, r = .error e ∧ False
def KIt (P : Program) (w : World) (outer : List Env) (H : Hp) (sc : Shared) (a : Addr) (g : Nat) (C D : Addr) (xs : List V) : Protocol := fun n s₀ v s1 kap =>
  ∃ j x, n + 1 + j = xs.length ∧ xs[j]? = some x ∧ RelV x v ∧ KSt P w outer H sc a g C D s₀ s1 ∧ ∀ s', Rst C D s1 s' → kap (.send .none) s'
/-- a generator that has not begun and will hand out xs -/
def KMade (P : Program) (w : World) (k : Nat) (outer : List Env) (H : Hp) (s : Shared) (xs : List V) (u : Value) (s' : Shared) : Prop :=
  ∃ (a : Addr) (g : Nat) (c : Code), u = .ref a ∧ s.heap.objs.size ≤ a ∧ a < s'.heap.objs.size ∧ s'.heap.IsGen a g ∧ s'.gens[g]? = some (.fresh c) ∧ s'.os = s.os ∧ AllBare s'.gens ∧ s'.heap.NoLimit ∧ (∀ b o, s.heap.get? b = some o → s'.heap.get? b = some o) ∧
    ∀ (A : Around) (C D : Addr) (s2 : Shared), Room k A → A.frames = some outer → s'.heap.objs.size ≤ C → s'.heap.objs.size ≤ D → (∀ b o, s'.heap.get? b = some o → s2.heap.get? b = some o) →
      (∃ o, s2.heap.get? C = some o ∧ ∀ v, o.data ≠ .cell v) → (∃ o, s2.heap.get? D = some o ∧ ∀ v, o.data ≠ .cell v) → s2.os = s.os → AllBare s2.gens →
      Seg (model P w) A (KEnd P w outer H s a g C D) (KIt P w outer H s a g C D xs) xs.length s2 c ((model P w).den c) [] s2
abbrev SpK := List V → Hp → (List V → Prop) → Prop
structure KFn (P : Program) (w : World) (K : PySem.W.Frag) (mg : Str → Option Value) (base : Heap) (k : Nat) (f : Addr) (sp : SpK) : Prop where
  run : ∀ (A : Around) (outer : List Env) (s : Shared) (H : Hp) (us : List Value) (vs : List V) (Q : List V → Prop), Room k A → Env0 P w K mg base A outer s H → Vals vs us → sp vs H Q →
    codeAny (model P w) A (.call (.ref f) ⟨us, []⟩) (fun r s' => match r with | .ok (.ret u) => ∃ xs, Q xs ∧ KMade P w k outer H s xs u s' | _ => False) s
theorem E0_no {P : Program} {w : World} {outer : List Env} {H : Hp} {s s' : Shared} {e : Value} (c : CX P w outer H s E0 e s') : False := by
  obtain ⟨a, B, H', cls, d, _, _, _, _, _, _, _, hW⟩ := c
  exact hW
/-- THE RULE: a generator def of one «yield from», by its expression -/
theorem kfn_of {P : Program} {w : World} {K : PySem.W.Frag} {mg : Str → Option Value} {base : Heap} {k : Nat} {f : Addr} {name qual : Str} {params : Arguments} {e : Expr} {yp pos : Pos} {scope : Scope}
    {N ps : List Str} {sp : SpK} (F : ∃ fd, FunD K name qual params [.Expr (.YieldFrom e yp) pos] scope [] [] f fd) (S : GScope N ps scope)
    (bd : ∀ (kV doc pm : Value) (an : Option Addr) (cdv ct : Value) (us : List Value), us.length = ps.length → bindArgs (PySem.W.fnOf name qual params [.Expr (.YieldFrom e yp) pos] scope .none kV doc pm an cdv ct) ⟨us, []⟩ = pure (ps.zip us))
    (len : ∀ vs H Q, sp vs H Q → vs.length = ps.length)
    (hbody : ∀ (H : Hp) (vs : List V) (Q : List V → Prop), sp vs H Q → ∃ xs, Q xs ∧ ∀ (cdv : Value) (A : Around) (outer : List Env) (s : Shared) (pn : List (Addr × Obj)), Room k (A.deeper (envOfC qual scope s.heap.objs.size f cdv)) →
      ∃ t, YfE (gcxOf P w K mg base N qual scope f cdv A outer s H E0 pn) e t ∧ t (start N vs) H fun ys H' => ys = xs ∧ H' = H) :
    KFn P w K mg base (k + 1) f sp := by
  obtain ⟨fd, oc, od, dV, kV, doc, pm, an, cdv, ct, osl, rfl, lk, hcd, hDf, _⟩ := F.imp fun _ h => h.ex
  rcases hDf with ⟨_, rfl⟩ | ⟨eD, _⟩
  · refine ⟨fun A outer s H us vs Q hr e0 r hsp => ?_⟩
    have hl := len _ _ _ hsp
    have hb : BindsTo s (PySem.W.fnOf name qual params [.Expr (.YieldFrom e yp) pos] scope .none kV doc pm an cdv ct) ⟨us, []⟩ (ps.zip us) := .of_eq (bd kV doc pm an cdv ct us (by rw [← r.length]; exact hl))
    have KX : K.In s.heap := e0.mod.kin.keeps fun b o e => (e0.bs b o e).1
    have lim : s.heap.NoLimit := e0.mod.nolimit.keeps fun b o e => (e0.bs b o e).1
    have hkind : ∀ y ∈ ps.zip us, scope.names.lookup y.1 = some .local ∨ (scope.names.lookup y.1 = some .cell ∧ ((cellsFrom (s.heap.objs.size + 1) scope.names []).lookup y.1).isSome = true) := fun ⟨n, v⟩ hy => by
      rcases S.par n (List.of_mem_zip hy).1 with q | q
      · exact .inl q
      · exact .inr ⟨q, PySem.W.cellsFrom_some _ _ _ (.inl q)⟩
    refine codeAny_call_generator hr.depth (KX _ _ lk) rfl S.co S.gen rfl (PySem.W.codeRec_of KX hcd) (hb _ _ _ _ ?_)
    refine wpAny_newFunctionEnv_cells S.kind hkind fun env he s1 x => ?_
    subst he
    have lim1 : s1.heap.NoLimit := lim.keeps x.toInCall.keep
    refine ⟨lim1, ?_⟩
    obtain ⟨h1, tk, es1, hk1⟩ := x.done
    have os1 : s1.os = s.os := by rw [es1]
    have gen1 : s1.gens = s.gens := by rw [es1]
    have lt1 : s.heap.objs.size < s1.heap.objs.size := x.toInCall.ns.lt
    have sz1 : s.heap.objs.size ≤ s1.heap.objs.size := Nat.le_of_lt lt1
    have kp1 : ∀ b o, s.heap.get? b = some o → s1.heap.get? b = some o := x.toInCall.keep
    have main : ∀ (go : Obj) (nm qn : Value) (tk2 : Nat), go.cls = .type "generator" → go.data = .fields #[.int s1.gens.size 0, nm, qn] → go.slots = #[] → (∀ h : Heap, (h.push go).get? h.objs.size = some go) →
        ∃ xs, Q xs ∧ KMade P w (k + 1) outer H s xs (.ref s1.heap.objs.size) { s1 with gens := s1.gens.push (.fresh (.func [.Expr (.YieldFrom e yp) pos] (envOfC qual scope s.heap.objs.size f cdv))), toks := tk2, heap := s1.heap.push go } := by
      intro go nm qn tk2 hgc hgd0 hgs hgp
      have hgen : ∀ h : Heap, h.get? s1.heap.objs.size = some go → h.IsGen s1.heap.objs.size s1.gens.size := fun h e => ⟨go, nm, qn, e, hgc, hgd0, hgs⟩
      have hpushed : (s1.heap.push go).get? s1.heap.objs.size = some go := hgp _
      obtain ⟨xs, hQx, hbd⟩ := hbody H vs Q hsp
      refine ⟨xs, hQx, s1.heap.objs.size, s1.gens.size, _, rfl, sz1, ?_, hgen _ hpushed, Array.getElem?_push_size .., os1, ?_, lim1.keeps fun b o e => Heap.get?_push_of_some _ e, fun b o e => Heap.get?_push_of_some _ (kp1 b o e), ?_⟩
      · show _ < (s1.heap.push _).objs.size
        rw [Heap.size_push]; exact Nat.lt_succ_self _
      · exact AllBare.push (by rw [gen1]; exact e0.bare) rfl
      intro Aw C D s2 hrw hfr hCx hDx hk2 hCo hDo hos hba
      have e0w : Env0 P w K mg base Aw outer s H := ⟨hfr, e0.mod, e0.bs, e0.bsz, e0.funs, e0.frf, e0.hok, e0.bare⟩
      obtain ⟨t, ht, hq⟩ := hbd cdv Aw outer s [(s1.heap.objs.size, go)] (hrw.deeper _)
      have I1 : Inv (gcxOf P w K mg base N qual scope f cdv Aw outer s H E0 []) [] (start N vs) H s1 := inv_startG S hrw.hd e0w hl r x
      have kp2 : ∀ b o, s1.heap.get? b = some o → s2.heap.get? b = some o := fun b o e => hk2 b o (Heap.get?_push_of_some _ e)
      have I2 : Inv (gcxOf P w K mg base N qual scope f cdv Aw outer s H E0 []) [] (start N vs) H s2 :=
        I1.call' (ch := []) (hos.trans os1.symm) (Un.kept kp2) (I1.hok.kept kp2) hba fun b z => by simp at z
      have szP : (s1.heap.push go).objs.size = s1.heap.objs.size + 1 := Heap.size_push _ _
      have hCz : s1.heap.objs.size < C := by
        have hC' : (s1.heap.push go).objs.size ≤ C := hCx
        rw [szP] at hC'
        exact hC'
      have hDz : s1.heap.objs.size < D := by
        have hD' : (s1.heap.push go).objs.size ≤ D := hDx
        rw [szP] at hD'
        exact hD'
      obtain ⟨oC, eC, cC⟩ := hCo
      obtain ⟨oD, eD, cD⟩ := hDo
      have hea : s2.heap.get? s1.heap.objs.size = some go := hk2 s1.heap.objs.size go hpushed
      have hgd : ∀ v, go.data ≠ .cell v := fun v q => by rw [hgd0] at q; cases q
      have young : ∀ b, s1.heap.objs.size ≤ b → H b = none ∧ b ≠ s.heap.objs.size ∧ b ∉ frs outer ∧ s.heap.objs.size ≤ b ∧ ∀ y c, (cellsFrom (s.heap.objs.size + 1) scope.names []).lookup y = some c → c ≠ b := fun b hb => by
        refine ⟨I1.hok.fresh hb, Nat.ne_of_gt (Nat.lt_of_lt_of_le lt1 hb), I1.nofs hb, Nat.le_trans sz1 hb, fun y c e z => ?_⟩
        obtain ⟨v, ob, ho, _⟩ := I1.cell y c e
        have := Heap.lt_size ho
        rw [z] at this
        exact absurd (Nat.lt_of_lt_of_le this hb) (Nat.lt_irrefl _)
      have hG : GP (gcxOf P w K mg base N qual scope f cdv Aw outer s H E0 [(s1.heap.objs.size, go)]) C D (start N vs) H s2 s2 := by
        refine ⟨oC, oD, eC, eD, Inv.pinnedG I2 fun p hp => ?_⟩
        rcases List.mem_append.mp hp with z | z
        · rw [List.mem_singleton.mp z]
          obtain ⟨y1, y2, y3, _, _⟩ := young s1.heap.objs.size (Nat.le_refl _)
          exact ⟨hea, y1, y2, y3, hgd⟩
        · rcases List.mem_cons.mp z with z | z
          · rw [z]
            obtain ⟨y1, y2, y3, _, _⟩ := young C (Nat.le_of_lt hCz)
            exact ⟨eC, y1, y2, y3, cC⟩
          · rw [List.mem_singleton.mp z]
            obtain ⟨y1, y2, y3, _, _⟩ := young D (Nat.le_of_lt hDz)
            exact ⟨eD, y1, y2, y3, cD⟩
      have hApC : Apart (gcxOf P w K mg base N qual scope f cdv Aw outer s H E0 [(s1.heap.objs.size, go)]) C := by
        obtain ⟨_, y2, _, y4, y5⟩ := young C (Nat.le_of_lt hCz)
        exact ⟨y4, y2, y5⟩
      have hApD : Apart (gcxOf P w K mg base N qual scope f cdv Aw outer s H E0 [(s1.heap.objs.size, go)]) D := by
        obtain ⟨_, y2, _, y4, y5⟩ := young D (Nat.le_of_lt hDz)
        exact ⟨y4, y2, y5⟩
      have hpn : ∀ p ∈ [(s1.heap.objs.size, go)], p.1 ≠ C ∧ p.1 ≠ D := fun p hp => by
        rw [List.mem_singleton.mp hp]
        exact ⟨Nat.ne_of_lt hCz, Nat.ne_of_lt hDz⟩
      have kst : ∀ {s₀ s' : Shared}, GP (gcxOf P w K mg base N qual scope f cdv Aw outer s H E0 [(s1.heap.objs.size, go)]) C D (start N vs) H s₀ s' → KSt P w outer H s s1.heap.objs.size s1.gens.size C D s₀ s' := fun {s₀ s'} hI => by
        obtain ⟨_, _, _, _, q1, q2, J⟩ := hI.of
        exact ⟨J.os, J.bare, J.base, J.hok, hgen _ (J.pin (s1.heap.objs.size, go) (List.mem_append_left _ (List.mem_singleton.mpr rfl))).1, q1, q2⟩
      refine seg_func ?_
      refine seg_imp (R := KEnd P w outer H s s1.heap.objs.size s1.gens.size C D) (Y := YD (gcxOf P w K mg base N qual scope f cdv Aw outer s H E0 [(s1.heap.objs.size, go)]) C D xs (start N vs) H) (fun n s₀ r s1' hR => hR) (fun n s₀ v s1' kap kap' hkk hY => ?_) xs.length ?_
      · obtain ⟨j, x, h1, h2, h3, h4, h5⟩ := hY
        exact ⟨j, x, h1, h2, h3, kst h4, fun s' z => hkk _ _ (h5 s' z)⟩
      · refine seg_execs_cons ?_
        refine seg_yieldFromD (X := gcxOf P w K mg base N qual scope f cdv Aw outer s H E0 [(s1.heap.objs.size, go)]) ht hrw.hd hpn hApC hApD over_func rfl rfl rfl (fun s₀ s' hI => ?_) (fun n s₀ e s' hx => ?_) hG hq (by
          show interactive (envOfC qual scope s.heap.objs.size f cdv) = false
          unfold interactive
          rw [show (envOfC qual scope s.heap.objs.size f cdv).scope.kind = .function from S.kind]
          rfl)
        · refine seg_execs_nil ?_
          exact seg_end (.ok (.ret .none)) (.inl ⟨.inl rfl, rfl, kst hI⟩)
        · refine seg_wrap ?_
          rw [over_func]
          refine wpAny_mono (show wpAny (model P w) (Aw.deeper (envOfC qual scope s.heap.objs.size f cdv)) (leaving (envOfC qual scope s.heap.objs.size f cdv) e) (fun _ s'' => CX P w outer H s E0 e s'' ∧ ∀ p ∈ [(s1.heap.objs.size, go)], s''.heap.get? p.1 = some p.2) (fun _ _ => False) s' from hx) (fun _ s'' q => (E0_no q.1).elim) fun _ s'' q => q.elim
    exact main _ _ _ _ rfl rfl rfl fun h => Heap.get?_push_size _ rfl
  · exact absurd rfl eD
end SRO
/-! Generators that a comprehension walks: the consumer, [c for c in g if c[1] == name]. -/
namespace SRO
open PySem PySem.Spec PyProof.Rows L2 GenW
/-- an expression whose value is a generator that has not begun -/
abbrev TK := L2.St → Hp → (List V → Hp → Prop) → Prop
structure PK (X : Cx) (k : Nat) (e : Expr) (tg : TK) : Prop where
  run : ∀ (pins : List (Addr × Obj)) (s : Shared) (σ : L2.St) (H : Hp) (Q : List V → Hp → Prop), Inv X pins σ H s → tg σ H Q → wpAny (model X.prog X.w) X.A (eval e X.env)
    (fun u s' => ∃ H1 sc xs, Inv X pins σ H1 sc ∧ KMade X.prog X.w k X.stack H1 sc xs u s' ∧ Q xs H1) X.xe s
def tMethK (C : Addr) (m : Str) (sp : SpK) (ta : TE) : TK := fun σ H Q => ta σ H fun x H1 => ∃ a dx fs, x = .ref a ∧ H1 a = some (.ins C dx fs) ∧ fs.lookup m = none ∧ sp [x] H1 fun xs => Q xs H1
theorem pk_meth0 {X : Cx} {k : Nat} {f C : Addr} {sp : SpK} {m : Str} {pos' apos : Pos} {o : Expr} {ta : TE} {pl : Sem Bool} (he : PE X o ta) (c : Cls X.K C) (hm : Meth X.K C m f) (F : KFn X.prog X.w X.K X.mg X.base k f sp) (hr : Room k X.A)
    (ht : eval (.Call (.Attribute o m apos) [] [] pos') X.env = (do
      let ov ← eval o X.env
      standAt apos.atName
      let (f, first) ← holding [ov] (getMethod ov m pl)
      callWith pos' f first (backTo pos' (starEach [] X.env)) (backToKw pos' (keywordEach [] X.env))) := by rfl) :
    PK X k (.Call (.Attribute o m apos) [] [] pos') (tMethK C m sp ta) := by
  refine ⟨fun pins s σ H Q I h => ?_⟩
  refine PySem.W.methodCall_KW (pl := pl) (thn (he.run pins s σ H _ I h) fun u s1 ⟨x, H1, I1, rx, a, dx, fs, ex, ea, l, q⟩ => ?_) ht
  subst ex
  obtain rfl : u = Value.ref a := rx
  refine getmeth_ok I1 ea c hm l ?_
  refine PySem.W.callWith_K0 (first := [.ref a]) I1.kIn hm.kp ?_
  refine wpAny_call (codeAny_mono (F.run X.A X.stack s1 H1 [.ref a] [.ref a] _ hr I1.env0 (.cons rfl .nil) q) fun r s' hq => ?_)
  cases r with
  | error e => exact False.elim hq
  | ok fl =>
    cases fl with
    | ret u =>
      obtain ⟨xs, q1, q2⟩ := hq
      exact ⟨H1, s1, xs, I1, q2, q1⟩
    | next => exact False.elim hq
    | brk => exact False.elim hq
    | cont => exact False.elim hq
/-- c[1] == name, as the comprehension's test -/
theorem turn_test {prog : Program} {w : World} {A : Around} {E : Value → Shared → Prop} {s : Shared} {ce : Env} {v nm : Str} {p1 p2 p3 p4 p5 : Pos} {kk : Nat} {m : Str → Option Value} {p c : Addr} {its : Array Value} {x n : Str} {t t' : Tok} {Q : Bool → Shared → Prop}
    (hk : ce.scope.kind = .function) (hv : ce.kindOf v = some .local) (hn : ce.kindOf nm = some .cell) (hc : ce.cells.lookup nm = some c) (hns : s.heap.Ns ce.locals m) (hm : m v = some (.ref p)) (ht : IsTup s.heap p its) (hx : its[1]? = some (.str x t)) (hcell : s.heap.IsCell c (some (.str n t')))
    (hQ : ∀ tk, Q (x == n) { s with toks := tk }) (d1 : (v == ("__debug__" : Str)) = false := by decide) (d2 : (nm == ("__debug__" : Str)) = false := by decide) :
    wpAny (model prog w) A (forIn [Expr.Compare (.Subscript (.Name v p1) (.Constant (.int 1) kk p2) p3) [.Eq] [.Name nm p4] p5] true fun c r => if r = true then do let ok ← isTrue c ce (eval c ce); pure (ForInStep.yield ok) else pure (ForInStep.yield r)) Q E s := by
  refine wpAny_tests_one (wpAny_isTrue_Compare1 ?_)
  have hsz : 1 < its.size := (Array.getElem?_eq_some_iff.mp hx).1
  refine Subscript_ (wpAny_Name (wpAny_loadName_local hk hv hns hm ?_) d1)
  refine wpAny_Constant_int ?_
  refine subscriptTail_builtinR (x := .str x t) ht.typeIs slot_tuple_getitem.lookup
    (getItem_tuple (j := 1) (Q := fun r s' => r = .str x t ∧ wpAny (model prog w) A (eval (.Name nm p4) ce) (fun b s₂ => wpAny (model prog w) A (compareOp .Eq r b) (fun c s₃ => wpAny (model prog w) A (truthy c) Q E s₃) E s₂) E s') ht (by omega) (by omega) ?_ hx ⟨rfl, ?_⟩) rfl
  · show seqIndex? 1 its.size = some 1
    unfold seqIndex?
    simp
    omega
  refine wpAny_Name (wpAny_loadName_cell hk hn hc hcell ?_) d2
  refine eq_str ?_
  exact wpAny_truthy_bool (hQ _)
theorem Un_above {fs ex : List Addr} {H H' : Hp} {h h1 h2 : Heap} (u : Un fs ex H H' h h1) (k : ∀ b o, b < h.objs.size → h1.get? b = some o → h2.get? b = some o) : Un fs ex H H' h h2 where
  keep := fun b o e n hf hx => k b o (Heap.lt_size e) (u.keep b o e n hf hx)
  slot := fun b o e n hf hx => by
    obtain ⟨sl, q⟩ := u.slot b o e n hf hx
    exact ⟨sl, k b _ (Heap.lt_size e) q⟩
  free := u.free
  there := fun b o e hx => by
    obtain ⟨o', q⟩ := u.there b o e hx
    exact ⟨o', k b _ (Heap.lt_size e) q⟩
  tups := u.tups
  frzs := u.frzs
  tbls := u.tbls
end SRO
/-! Generators that a comprehension walks: the rule of [c for c in g if c[1] == name]. -/
namespace SRO
open PySem PySem.Spec PyProof.Rows L2 GenW
/-- the items with the name n -/
def selE (n : Str) (es : List (V × Str)) : List V := (es.filter fun e => e.2 == n).map (·.1)
theorem selE_le (n : Str) (es : List (V × Str)) : (selE n es).length ≤ es.length := by
  unfold selE
  rw [List.length_map]
  exact List.length_filter_le _ _
theorem selE_take {n : Str} {es : List (V × Str)} {j : Nat} {e : V × Str} (h : es[j]? = some e) : selE n (es.take (j + 1)) = if (e.2 == n) = true then selE n (es.take j) ++ [e.1] else selE n (es.take j) := by
  unfold selE
  rw [List.take_add_one, h, List.filter_append, List.map_append]
  cases hb : e.2 == n with
  | true => simp [hb]
  | false => simp [hb]
def tLcK (K : PySem.W.Frag) (tg : TK) (i : Nat) : TE := fun σ H Q => tg σ H fun xs H1 => ∃ (n : Str) (es : List (V × Str)), σ[i]? = some (some (.str n)) ∧ xs = es.map (·.1) ∧ xs.length ≤ sizeLine ∧
  (∀ e ∈ es, ∃ a ys, e.1 = .ref a ∧ SqT K H1 a ys ∧ ys[1]? = some (.str e.2)) ∧ ∀ D, H1 D = none → Q (.ref D) (upd H1 D (.lst (selE n es)))
theorem pe_lcK {X : Cx} {K : PySem.W.Frag} {k i : Nat} {v nm : Str} {q0 q1 q2 q3 q4 q5 q6 pos : Pos} {kk : Nat} {iter : Expr} {scope : Scope} {tg : TK} (hg : PK X k iter tg) (hr : Room (k + 1) X.A) (hsk : scope.kind = .function) (hsn : scope.names = [((".0" : Str), .local), (v, .local), (nm, .free)])
    (hi : X.N[i]? = some nm) (hcl : X.env.scope.names.lookup nm = some .cell) (h1 : (v == (".0" : Str)) = false := by decide) (h2 : (nm == (".0" : Str)) = false := by decide) (h3 : (nm == v) = false := by decide) (h4 : (v == nm) = false := by decide)
    (d1 : (v == ("__debug__" : Str)) = false := by decide) (d2 : (nm == ("__debug__" : Str)) = false := by decide) (hs : ∀ x, foldedSetIterable iter X.env x = pure x := by intro _; rfl) (e : X.K = K := by rfl) :
    PE X (.ListComp (.Name v q1) [⟨.Name v q0, iter, [.Compare (.Subscript (.Name v q2) (.Constant (.int 1) kk q3) q4) [.Eq] [.Name nm q5] q6], 0⟩] scope pos) (tLcK K tg i) := by
  refine ⟨fun pins s σ H Q I h => ?_⟩
  subst e
  rw [eval_ListComp]
  obtain ⟨c, hc⟩ := I.ok.has nm (.inl hcl)
  have hfree : ∀ y ∈ scope.names, y.2 = .free → ∃ c, X.env.cells.lookup y.1 = some c := by
    intro y hy e
    rw [hsn] at hy
    rcases List.mem_cons.mp hy with rfl | hy
    · cases e
    rcases List.mem_cons.mp hy with rfl | hy
    · cases e
    rw [List.mem_singleton.mp hy]
    exact ⟨c, hc⟩
  have lv : scope.names.lookup v = some .local := by
    rw [hsn]
    simp [List.lookup, h1]
  have ln : scope.names.lookup nm = some .free := by
    rw [hsn]
    simp [List.lookup, h2, h3]
  refine wpAny_comprehension_free (use := none) rfl hs (closure_ok hfree) hsk (fun y hy e => ?_) (thn (hg.run pins s σ H _ I h) fun u s1 hx => ?_)
  · rw [hsn] at hy
    rcases List.mem_cons.mp hy with rfl | hy
    · rw [hsn]; simp [List.lookup]
    rcases List.mem_cons.mp hy with rfl | hy
    · exact lv
    rw [List.mem_singleton.mp hy] at e
    cases e
  obtain ⟨H1, sc, xs, I1, hG, n, es, hσ, hxs, hle, hes, hQ⟩ := hx
  obtain ⟨a, g, c0, rfl, ha1, ha2, hgen, hgs, hos, hbare, hlim, hkp, wake⟩ := hG
  refine wpAny_pyIter_gen hgen ?_
  refine wpAny_newObj_type (newEnv_comp ?_) (by show 0 ≤ sizeLine; decide)
  have pc : ∀ h : Heap, pushCells h scope.names = h := fun h => by
    rw [hsn]
    rfl
  have cf : ∀ m : Nat, cellsFrom m scope.names (cloFrom X.env.cells scope.names []) = [(nm, c)] := fun m => by
    rw [hsn]
    show [(nm, (X.env.cells.lookup nm).getD 0)] = _
    rw [hc]
    rfl
  rw [pc]
  generalize hD : s1.heap.objs.size = D
  generalize hs3 : ({ s1 with heap := s1.heap.push { cls := .type "list", data := .seq ([] : List Value).toArray } } : Shared) = s3
  have h3' : s3.heap = s1.heap.push { cls := .type "list", data := .seq ([] : List Value).toArray } := by rw [← hs3]
  generalize hC : s3.heap.objs.size = C
  have hCD : C = D + 1 := by rw [← hC, h3', Heap.size_push, hD]
  show codeAny _ _ (.compStart _ 0 (.ref a) (.ref D) (compEnvC scope (cellsFrom (C + 1) scope.names (cloFrom X.env.cells scope.names [])) C X.env)) (compPost (model X.prog X.w) X.A X.xe none _ (.ref D) C) { s3 with heap := s3.heap.push { cls := .type "dict", data := .dict #[] } }
  rw [cf]
  generalize hce : compEnvC scope [(nm, c)] C X.env = ce
  have cL : ce.locals = C := by subst hce; rfl
  have ck : ce.scope.kind = .function := by subst hce; exact hsk
  have kv : ce.kindOf v = some .local := by subst hce; exact lookup_relabel_local lv
  have kn : ce.kindOf nm = some .cell := by
    subst hce
    show (scope.names.map fun (n, k) => if (k == NameKind.free && X.env.scope.kind == .function && X.env.kindOf n == some .cell) then (n, NameKind.cell) else (n, k)).lookup nm = some .cell
    rw [hsn]
    have hk : X.env.kindOf nm = some .cell := hcl
    simp only [List.map_cons, List.map_nil]
    rw [show (NameKind.free == NameKind.free && X.env.scope.kind == .function && X.env.kindOf nm == some .cell) = true from by rw [hk, I.ok.kind]; rfl]
    simp [List.lookup, h2, h3]
  have cc : ce.cells.lookup nm = some c := by subst hce; simp [compEnvC, List.lookup]
  generalize hs4 : ({ s3 with heap := s3.heap.push { cls := .type "dict", data := .dict #[] } } : Shared) = s4
  have h4' : s4.heap = s3.heap.push { cls := .type "dict", data := .dict #[] } := by rw [← hs4]
  have k3 : ∀ b o, s1.heap.get? b = some o → s3.heap.get? b = some o := fun b o e => by rw [h3']; exact Heap.get?_push_of_some _ e
  have k4 : ∀ b o, s3.heap.get? b = some o → s4.heap.get? b = some o := fun b o e => by rw [h4']; exact Heap.get?_push_of_some _ e
  have hD4 : s4.heap.get? D = some (lstObj #[] 0) := k4 _ _ (by rw [h3', ← hD]; exact Heap.get?_push_size _ rfl)
  have hC4 : s4.heap.Ns C fun _ => none := by rw [h4', ← hC]; exact Heap.Ns.new ..
  have g4 : s4.gens = s1.gens := by rw [← hs4, ← hs3]
  have o4 : s4.os = sc.os := by rw [← hs4, ← hs3]; exact hos
  have szD : sc.heap.objs.size < D := by rw [← hD]; exact Nat.lt_of_le_of_lt ha1 ha2
  have haD : a < D := by rw [← hD]; exact ha2
  have ltDC : D < C := by omega
  have hgl : g < s1.gens.size := (Array.getElem?_eq_some_iff.mp hgs).1
  have hCn : H1 C = none := I1.hok.fresh (by omega)
  have hDn : H1 D = none := I1.hok.fresh (by omega)
  -- what the consumer knows at a turn
  have cons : ∀ {s₀ s' : Shared}, KSt X.prog X.w X.stack H1 sc a g C D s₀ s' → Inv X pins σ H1 s' := fun {s₀ s'} z => I1.call' (ch := []) z.os z.un z.hok z.bare fun b hb => by simp at hb
  have baseLt : ∀ b o, X.base.get? b = some o → b < D := fun b o e => Nat.lt_trans (Heap.lt_size (I1.bs b o e).1) szD
  suffices loop : codeAny (model X.prog X.w) X.A (.compLoop (.ListComp (.Name v q1) [⟨.Name v q0, iter, [.Compare (.Subscript (.Name v q2) (.Constant (.int 1) kk q3) q4) [.Eq] [.Name nm q5] q6], 0⟩] scope pos) 0 (.ref a) (.ref D) ce)
      (compPost (model X.prog X.w) X.A X.xe none (EP X pins σ Q) (.ref D) C) s4 from
    codeAny_compStart_list loop (wpAny_pyIter_gen (hgen.keeps fun b o e => k4 b o (k3 b o e)) loop)
  refine compLoop_any (fun r s' => ∃ j gs acc cnt m, j + r = es.length ∧ s'.gens[g]? = some gs ∧ gs.Goes (model X.prog X.w) X.A.in1 (KEnd X.prog X.w X.stack H1 sc a g C D) (KIt X.prog X.w X.stack H1 sc a g C D xs) r (.send .none) (s'.setGen g .running) ∧ s'.heap.IsGen a g ∧ s'.heap.NoLimit ∧
    s'.heap.get? D = some (lstObj acc cnt) ∧ Vals (selE n (es.take j)) acc.toList ∧ s'.heap.Ns C m) ?_ es.length ⟨0, .fresh c0, #[], 0, fun _ => none, Nat.zero_add _, by rw [g4]; exact hgs, ⟨rfl, ?_⟩, hgen.keeps fun b o e => k4 b o (k3 b o e), hlim.keeps fun b o e => k4 b o (k3 b o e), hD4, .nil, hC4⟩
  · rintro r s5 ⟨j, gs, acc, cnt, m, hjr, hgs5, hgo, hgen5, hlim5, hD5, hv5, hC5⟩
    have hgl5 : g < s5.gens.size := (Array.getElem?_eq_some_iff.mp hgs5).1
    have hroom : X.A.depth < recursionLimit := by have := hr.dp; omega
    obtain ⟨oC, esC, epC, eC, dC, _⟩ := id hC5
    refine wpAny_gsz (n := g + 1) hgl5 (next_genG (A := X.A) (F := fun n s₀ s₁ => n = 0 ∧ KSt X.prog X.w X.stack H1 sc a g C D s₀ s₁) (Er := fun _ _ => False) hr.hd hlim5 hroom hgen5 hgs5 hgo (fun u s₁ gs' hbare' hv => ?_) (fun s₁ hp h' hk => ?_) fun e s₁ he => False.elim he)
    · intro hsz
      obtain ⟨j', x, hj', hx', rx, kst, hk⟩ := hv
      have eCs : s₁.heap.get? C = some oC := kst.eC.trans eC
      have eDs : s₁.heap.get? D = some (lstObj acc cnt) := kst.eD.trans hD5
      cases r with
      | zero => exact False.elim (hk s₁ ⟨rfl, kst.bare, fun _ _ _ _ e => e, ⟨oC, eCs, fun v q => by rw [dC] at q; cases q⟩, ⟨_, eDs, fun v q => by cases q⟩⟩)
      | succ r =>
        have hxl : xs.length = es.length := by rw [hxs, List.length_map]
        have ej : j' = j := by
          have : r + 1 - 1 + 1 + j' = xs.length := hj'
          omega
        subst ej
        have hjl : j' < es.length := by omega
        have he : es[j']? = some es[j'] := List.getElem?_eq_getElem hjl
        obtain ⟨p, ys, ep, hp, hy1⟩ := hes _ (List.getElem_mem hjl)
        have ex : x = .ref p := by
          rw [hxs, List.getElem?_map, he] at hx'
          rw [← ep]
          exact (Option.some.inj hx').symm
        subst ex
        obtain rfl : u = Value.ref p := rx
        have IX := cons kst
        obtain ⟨its, rits, htup, _⟩ := IX.tuple hp
        obtain ⟨u1, hu1, ru1⟩ := rits.get hy1
        obtain ⟨t1, rfl⟩ := ru1
        obtain ⟨mx, _, hlx⟩ := IX.loc
        obtain ⟨u2, ru2, hlook⟩ := hlx i nm (.str n) hi hσ (.inr (.inl hcl))
        obtain ⟨t2, rfl⟩ := ru2
        have hcell : s₁.heap.IsCell c (some (.str n t2)) := by
          rcases hlook with ⟨hl, _⟩ | ⟨_, c', ec', hc'⟩
          · have hl : X.env.scope.names.lookup nm = some .local := hl
            rw [hcl] at hl
            cases hl
          · rw [hc] at ec'
            cases ec'
            exact hc'
        refine wpAny_pure ?_
        have hns1 : (s₁.setGen g gs').heap.Ns ce.locals m := by
          rw [cL]
          exact hC5.at' fun o e => kst.eC.trans e
        refine wpAny_assign_Name (wpAny_storeName_local kv hns1 (fun h6 hn6 hs6 => ?_) (by rw [ck]; rfl))
        rw [cL] at hs6
        have hpC : p ≠ C := by
          rintro rfl
          obtain ⟨o, eo, _, nn, dd⟩ := htup
          rw [eCs] at eo
          cases eo
          rw [dC] at dd
          cases dd
        have hcC : c ≠ C := by
          rintro rfl
          obtain ⟨o, eo, dd⟩ := hcell
          rw [eCs] at eo
          cases eo
          rw [dC] at dd
          cases dd
        have hDC : D ≠ C := by omega
        have htup6 : IsTup h6 p its.toArray := by
          obtain ⟨o, eo, r⟩ := htup
          exact ⟨o, (hs6.2 p hpC).trans eo, r⟩
        have hcell6 : h6.IsCell c (some (.str n t2)) := by
          obtain ⟨o, eo, r⟩ := hcell
          exact ⟨o, (hs6.2 c hcC).trans eo, r⟩
        have eD6 : h6.get? D = some (lstObj acc cnt) := (hs6.2 D hDC).trans eDs
        have hsz1 : g < s₁.gens.size := by
          have q : (s₁.setGen g gs').gens.size = s₁.gens.size := setGen_size _ _ _
          have hsz' : g + 1 ≤ (s₁.setGen g gs').gens.size := hsz
          omega
        -- the turn's end
        have fin : ∀ (h7 : Heap) (tk : Nat) (acc' : Array Value) (cnt' : Nat), (∀ b o, b ≠ C → b ≠ D → s₁.heap.get? b = some o → h7.get? b = some o) → h7.get? D = some (lstObj acc' cnt') → (∃ m', h7.Ns C m') → Vals (selE n (es.take (j' + 1))) acc'.toList →
            ∃ r', r' < r + 1 ∧ ∃ j gs acc cnt m, j + r' = es.length ∧ ({ s₁.setGen g gs' with heap := h7, toks := tk } : Shared).gens[g]? = some gs ∧ gs.Goes (model X.prog X.w) X.A.in1 (KEnd X.prog X.w X.stack H1 sc a g C D) (KIt X.prog X.w X.stack H1 sc a g C D xs) r' (.send .none) (({ s₁.setGen g gs' with heap := h7, toks := tk } : Shared).setGen g .running) ∧ h7.IsGen a g ∧ h7.NoLimit ∧
              h7.get? D = some (lstObj acc cnt) ∧ Vals (selE n (es.take j)) acc.toList ∧ h7.Ns C m := by
          intro h7 tk acc' cnt' hk7 hD7 ⟨m', hC7⟩ hv7
          obtain ⟨oC7, es7, ep7, eC7, dC7, _⟩ := id hC7
          refine ⟨r, Nat.lt_succ_self _, j' + 1, gs', acc', cnt', m', by omega, setGen_at hsz1, ?_, ?_, ?_, hD7, hv7, hC7⟩
          · exact hk _ ⟨rfl, allBare_setGen (s := { s₁.setGen g gs' with heap := h7, toks := tk }) (allBare_setGen kst.bare hbare') rfl, hk7, ⟨oC7, eC7, fun v q => by rw [dC7] at q; cases q⟩, ⟨_, hD7, fun v q => by cases q⟩⟩
          · obtain ⟨o, nmv, qn, ho, r⟩ := kst.gen
            exact ⟨o, nmv, qn, hk7 a o (Nat.ne_of_lt (Nat.lt_trans haD ltDC)) (Nat.ne_of_lt haD) ho, r⟩
          · exact IX.ok.mod.nolimit.keeps fun b o e => hk7 b o (Nat.ne_of_lt (Nat.lt_trans (baseLt b o e) ltDC)) (Nat.ne_of_lt (baseLt b o e)) (IX.bk b o e)
        refine turn_test (p := p) (its := its.toArray) (x := es[j'].2) (t := t1) (c := c) (n := n) (t' := t2) ck kv kn cc hn6 (by simp) htup6 (by simpa using hu1) hcell6 (fun tk => ?_) d1 d2
        have k6 : ∀ b o, b ≠ C → b ≠ D → s₁.heap.get? b = some o → h6.get? b = some o := fun b o hb _ e => (hs6.2 b hb).trans e
        have hst := selE_take (n := n) he
        cases hb : es[j'].2 == n with
        | false =>
          simp only [Bool.false_eq_true, if_false]
          rw [hb] at hst
          refine fin h6 tk acc cnt k6 eD6 ⟨_, by rw [← cL]; exact hn6⟩ ?_
          rw [hst]
          exact hv5
        | true =>
          simp only [if_true]
          refine wpAny_Name (wpAny_loadName_local (v := .ref p) ck kv hn6 (by simp) ?_) d1
          rw [hb] at hst
          have hal : acc.size = (selE n (es.take j')).length := by
            have := hv5.length
            simpa using this.symm
          have hasz : acc.size ≤ sizeLine := by
            rw [hal]
            refine Nat.le_trans (selE_le _ _) ?_
            rw [List.length_take]
            omega
          refine append_at (n := cnt) eD6 (fun h7 hs7 hD7 => ?_) hasz
          refine fin h7 tk (acc.push (.ref p)) (cnt + 1) (fun b o hbC hbD e => (hs7.2 b hbD).trans (k6 b o hbC hbD e)) hD7 ⟨_, (show h6.Ns C _ by rw [← cL]; exact hn6).sameBut hs7 (Ne.symm hDC)⟩ ?_
          rw [hst, Array.toList_push, ep]
          exact hv5.append (.cons rfl .nil)
    · intro hsz
      obtain ⟨hr0, kst⟩ := hp
      subst hr0
      have ej : j = es.length := by omega
      subst ej
      rw [List.take_length] at hv5
      have IX := cons kst
      refine ⟨m, hC5.at' fun o e => hk C o (kst.eC.trans e), fun h'' sb => ?_⟩
      have k2 : ∀ b o, b ≠ C → s₁.heap.get? b = some o → h''.get? b = some o := fun b o hb e => (sb.2 b hb).trans (hk b o e)
      have nC : ∀ b u, H1 b = some u → b ≠ C := fun b u q z => by rw [z, hCn] at q; cases q
      refine ⟨.ref D, upd H1 D (.lst (selE n es)), ?_, rfl, hQ D hDn⟩
      refine Inv.drained (ex := []) (acc := acc) (c := cnt) I1 (Nat.le_of_lt szD) ?_ (k2 D _ (by omega) (kst.eD.trans hD5)) hv5 .nil kst.os (allBare_setGen kst.bare rfl) ?_ ?_ hDn
      · refine Nat.le_trans (selE_le _ _) ?_
        rw [← show xs.length = es.length by rw [hxs, List.length_map]]
        exact hle
      · exact Un_above kst.un fun b o hb e => k2 b o (by omega) e
      · intro b u q
        refine (kst.hok b u q).stay (fun c v hc y => k2 c v ?_ y) (fun _ y => y) fun _ _ y => y
        rcases hc with y | y
        · rw [y]; exact nC b u q
        · exact nC c _ y
  · have hxl : xs.length = es.length := by rw [hxs, List.length_map]
    rw [← hxl]
    obtain ⟨oC, es', ep', eC, dC, _⟩ := hC4
    refine wake X.A.in1 C D (s4.setGen g .running) ⟨hr.hd, ?_, ?_⟩ I1.ok.frames ?_ ?_ (fun b o e => k4 b o (k3 b o e)) ⟨oC, eC, fun v q => by rw [dC] at q; cases q⟩ ⟨_, hD4, fun v q => by cases q⟩ o4 (allBare_setGen (by rw [g4]; exact hbare) rfl)
    · have := hr.dp
      show X.A.depth + 3 * k + 5 < _
      omega
    · have := hr.un
      show X.A.units + 1 + 16 * k + 200 < _
      omega
    · omega
    · omega
end SRO
/-! Monitor.changes, a generator. -/
namespace SRD
open PySem PySem.Spec PyProof.Rows L2 SRT
section
variable {w : World} {K : PySem.W.Frag} {mg : Str → Option Value} {base : Heap} {C : Addr}
abbrev N_Monitor_changes : List Str := ["self"]
theorem sc_Monitor_changes : GScope N_Monitor_changes ["self"] (defScope s_Monitor_changes) := ⟨rfl, rfl, rfl, by decide +kernel, rfl, by decide +kernel, by decide +kernel⟩
/-- what it hands out: the log's items -/
def spChanges (K : PySem.W.Frag) (C : Addr) : SRO.SpK := fun vs H Q => ∃ (m pa : Addr) (S : Ms) (pn : Nat), vs = [.ref m] ∧ MonAt K H C m pa S pn ∧ ∀ (lga : Addr) (ys : List V), H lga = some (.tup ys) → LogAt K H ys S.lg → Q ys
theorem ok_changes (T : Txt K mg) (D : MonC K C) : SRO.KFn PP w K mg base 1 (He.ma K (aMon K) "changes") (spChanges K C) := by
  refine SRO.kfn_of (T.def_ 46 rfl) sc_Monitor_changes (fun _ _ _ _ _ _ us hl => match us, hl with | [_], _ => rfl) ?_ ?_
  · rintro vs H Q ⟨m, pa, S, pn, rfl, _⟩
    rfl
  rintro H vs Q ⟨m, pa, S, pn, rfl, ⟨dx, hs, past, hm, ⟨sv, lga, qq, xs, ys, h1, h2, h3, h4, h5⟩, hp, hpl⟩, q⟩
  have c1 := D.cl
  have n1 := D.nh
  refine ⟨ys, q lga ys h4 h5, fun cdv A outer s pn hr => ⟨_, yf_tup (pe_ix (kix_tup (K := K)) (kfld (K := K) (pv 0) rfl) pe_int (fun _ _ => rfl)), ?_⟩⟩
  show tOp _ _ _ _ _ _
  ac_rfl
  exact ⟨_, _, rfl, h4, rfl, rfl⟩
end
end SRD
/-! The plain law: what the log holds after the ticks. -/
namespace SRD
open PySem PySem.Spec PyProof.Rows L2 SRT
/-- the changes of one service from tick k on -/
def chF (n : Str) (T : SR.Tbl) : Nat → Nat → List Bool → List (Nat × Str × Bool)
  | _, _, [] => []
  | k, row, b :: u => (if SR.stat T (SR.nxt T row b) != SR.stat T row then [(k + 1, n, SR.stat T (SR.nxt T row b))] else []) ++ chF n T (k + 1) (SR.nxt T row b) u
/-- the changes of a sequence of statuses, the first at k -/
def chgAt (n : Str) (k : Nat) (bs : List Bool) (m : Nat) : List (Nat × Str × Bool) := ((List.range m).filter fun i => bs.getD (i + 1) false != bs.getD i false).map fun i => (k + i + 1, n, bs.getD (i + 1) false)
theorem chgAt_cons (n : Str) (k : Nat) (x : Bool) (bs : List Bool) (m : Nat) : chgAt n k (x :: bs) (m + 1) = (if bs.getD 0 false != x then [(k + 1, n, bs.getD 0 false)] else []) ++ chgAt n (k + 1) bs m := by
  unfold chgAt
  rw [List.range_succ_eq_map, List.filter_cons]
  have e1 : (x :: bs).getD (0 + 1) false = bs.getD 0 false := rfl
  have e2 : (x :: bs).getD 0 false = x := rfl
  have e3 : List.map (fun i => (k + i + 1, n, (x :: bs).getD (i + 1) false)) (List.filter (fun i => (x :: bs).getD (i + 1) false != (x :: bs).getD i false) (List.map Nat.succ (List.range m))) = List.map (fun i => (k + 1 + i + 1, n, bs.getD (i + 1) false)) (List.filter (fun i => bs.getD (i + 1) false != bs.getD i false) (List.range m)) := by
    rw [List.filter_map, List.map_map]
    have e4 : ((fun i => (x :: bs).getD (i + 1) false != (x :: bs).getD i false) ∘ Nat.succ) = fun i => bs.getD (i + 1) false != bs.getD i false := by
      funext i
      rfl
    rw [e4]
    refine List.map_congr_left fun i _ => ?_
    show (k + (i + 1) + 1, n, (x :: bs).getD (i + 1 + 1) false) = _
    rw [show k + (i + 1) + 1 = k + 1 + i + 1 from by omega]
    rfl
  rw [e1, e2]
  by_cases h : (bs.getD 0 false != x) = true
  · rw [if_pos h, if_pos h, List.map_cons, e3]
    rfl
  · rw [if_neg h, if_neg h, e3]
    rfl
theorem trace_hd (T : SR.Tbl) (row : Nat) (u : List Bool) : (SR.trace T row u).getD 0 false = SR.stat T row := by
  cases u <;> rfl
theorem chF_trace (n : Str) (T : SR.Tbl) : ∀ (u : List Bool) (k row : Nat), chF n T k row u = chgAt n k (SR.trace T row u) u.length
  | [], _, _ => rfl
  | b :: u, k, row => by
    show _ ++ chF n T (k + 1) (SR.nxt T row b) u = chgAt n k (SR.stat T row :: SR.trace T (SR.nxt T row b) u) (u.length + 1)
    rw [chgAt_cons, chF_trace n T u, trace_hd]
theorem chgAt_chgK (n : Str) (bs : List Bool) (m : Nat) : chgAt n 0 bs m = chgK n bs m := by
  unfold chgAt chgK
  refine List.map_congr_left fun i _ => ?_
  rw [Nat.zero_add]
theorem trace_len (T : SR.Tbl) : ∀ (u : List Bool) (row : Nat), (SR.trace T row u).length = u.length + 1
  | [], _ => rfl
  | b :: u, row => congrArg Nat.succ (trace_len T u _)
/-- all services get the same sign -/
def same (m : Nat) (b : Bool) : List (Option Bool) := List.replicate m (some b)
theorem chgs_cons (tl : Bool) (s : Sv) (svs : List Sv) (b : Bool) : chgs tl (s :: svs) (same (svs.length + 1) b) = chg s (sstep tl s (some b)) ++ chgs tl svs (same svs.length b) := by
  unfold chgs same
  rw [List.replicate_succ, List.zipWith_cons_cons, List.flatten_cons]
theorem chg_name (s : Sv) (tl b : Bool) : ∀ e ∈ chg s (sstep tl s (some b)), e.1 = s.nm := by
  intro e he
  unfold chg at he
  split at he
  · cases he
  · rw [List.mem_singleton.mp he]
theorem chgs_none (tl b : Bool) (n : Str) : ∀ (svs : List Sv), n ∉ svs.map (·.nm) → (chgs tl svs (same svs.length b)).filter (fun e => decide (e.1 = n)) = []
  | [], _ => rfl
  | s :: svs, h => by
    rw [List.length_cons, chgs_cons, List.filter_append]
    rw [chgs_none tl b n svs fun z => h (List.mem_cons_of_mem _ z), List.append_nil]
    rw [List.filter_eq_nil_iff]
    intro e he
    rw [chg_name s tl b e he]
    exact fun z => h (by rw [← of_decide_eq_true z]; exact List.mem_cons_self ..)
theorem chgs_one (tl b : Bool) : ∀ (svs : List Sv) (j : Nat) (s : Sv), (svs.map (·.nm)).Nodup → svs[j]? = some s → (chgs tl svs (same svs.length b)).filter (fun e => decide (e.1 = s.nm)) = chg s (sstep tl s (some b))
  | [], _, _, _, h => by simp at h
  | s' :: svs, 0, s, nd, h => by
    have e : s' = s := by simpa using h
    subst e
    have nd : (s'.nm :: svs.map (·.nm)).Nodup := nd
    rw [List.length_cons, chgs_cons, List.filter_append, chgs_none tl b _ svs (List.nodup_cons.mp nd).1, List.append_nil]
    exact List.filter_eq_self.mpr fun e he => by rw [chg_name s' tl b e he]; exact decide_eq_true rfl
  | s' :: svs, j + 1, s, nd, h => by
    have h1 : svs[j]? = some s := by simpa using h
    have nd : (s'.nm :: svs.map (·.nm)).Nodup := nd
    rw [List.length_cons, chgs_cons, List.filter_append, chgs_one tl b svs j s (List.nodup_cons.mp nd).2 h1]
    have e0 : (chg s' (sstep tl s' (some b))).filter (fun e => decide (e.1 = s.nm)) = [] := by
      rw [List.filter_eq_nil_iff]
      intro e he
      rw [chg_name s' tl b e he]
      intro z
      refine (List.nodup_cons.mp nd).1 ?_
      rw [of_decide_eq_true z]
      exact List.mem_map_of_mem (List.mem_of_getElem? h1)
    rw [e0]
    rfl
/-- a service behind the signs u -/
def svAfter (tl : Bool) (s : Sv) (u : List Bool) : Sv := u.foldl (fun s b => sstep tl s (some b)) s
theorem stepAll_same (tl b : Bool) (svs : List Sv) : stepAll tl svs (same svs.length b) = svs.map fun s => sstep tl s (some b) := by
  unfold stepAll same
  induction svs with
  | nil => rfl
  | cons s svs ih => rw [List.length_cons, List.replicate_succ, List.zipWith_cons_cons, List.map_cons, ih]
theorem sstep_nm (tl b : Bool) (s : Sv) : (sstep tl s (some b)).nm = s.nm ∧ (sstep tl s (some b)).T = s.T ∧ (sstep tl s (some b)).row = SR.nxt s.T s.row b := ⟨rfl, rfl, rfl⟩
/-- THE LAW: what the log holds of one service -/
theorem run_log (tl : Bool) : ∀ (u : List Bool) (S : Ms) (j : Nat) (s : Sv), (S.svs.map (·.nm)).Nodup → S.svs[j]? = some s →
    (S.run tl (u.map (same S.svs.length))).lg.filter (fun e => decide (e.2.1 = s.nm)) = S.lg.filter (fun e => decide (e.2.1 = s.nm)) ++ chF s.nm s.T S.tk s.row u ∧ (S.run tl (u.map (same S.svs.length))).svs = S.svs.map (fun s => svAfter tl s u) ∧ (S.run tl (u.map (same S.svs.length))).tk = S.tk + u.length
  | [], S, j, s, _, _ => ⟨(List.append_nil _).symm, by show S.svs = S.svs.map fun s => s; rw [List.map_id'], rfl⟩
  | b :: u, S, j, s, nd, h => by
    have e1 : S.run tl ((b :: u).map (same S.svs.length)) = (S.tick tl (same S.svs.length b)).run tl (u.map (same S.svs.length)) := rfl
    have e2 : (S.tick tl (same S.svs.length b)).svs = S.svs.map fun s => sstep tl s (some b) := stepAll_same tl b S.svs
    have e3 : S.svs.length = (S.tick tl (same S.svs.length b)).svs.length := by rw [e2, List.length_map]
    have nd2 : ((S.tick tl (same S.svs.length b)).svs.map (·.nm)).Nodup := by
      rw [e2, List.map_map]
      exact nd
    have h2 : (S.tick tl (same S.svs.length b)).svs[j]? = some (sstep tl s (some b)) := by rw [e2, List.getElem?_map, h]; rfl
    obtain ⟨r1, r2, r3⟩ := run_log tl u (S.tick tl (same S.svs.length b)) j (sstep tl s (some b)) nd2 h2
    rw [e1, e3]
    rw [← e3] at r1 r2 r3 ⊢
    refine ⟨?_, ?_, ?_⟩
    · rw [show s.nm = (sstep tl s (some b)).nm from rfl, r1]
      show (S.lg ++ (chgs tl S.svs (same S.svs.length b)).map fun e => (S.tk + 1, e.1, e.2)).filter _ ++ chF s.nm s.T (S.tk + 1) (SR.nxt s.T s.row b) u = _
      rw [List.filter_append, List.filter_map]
      rw [show ((fun e : Nat × Str × Bool => decide (e.2.1 = (sstep tl s (some b)).nm)) ∘ fun e : Str × Bool => (S.tk + 1, e.1, e.2)) = fun e : Str × Bool => decide (e.1 = s.nm) from rfl, chgs_one tl b S.svs j s nd h, List.append_assoc]
      congr 1
      show _ = (if SR.stat s.T (SR.nxt s.T s.row b) != SR.stat s.T s.row then [(S.tk + 1, s.nm, SR.stat s.T (SR.nxt s.T s.row b))] else []) ++ _
      congr 1
      show List.map _ (if SR.stat s.T s.row = SR.stat s.T (SR.nxt s.T s.row b) then [] else [(s.nm, SR.stat s.T (SR.nxt s.T s.row b))]) = _
      cases SR.stat s.T s.row <;> cases SR.stat s.T (SR.nxt s.T s.row b) <;> rfl
    · rw [r2, e2, List.map_map]
      rfl
    · rw [r3]
      show S.tk + 1 + u.length = S.tk + (u.length + 1)
      omega
theorem svAfter_eq (tl : Bool) : ∀ (u : List Bool) (s : Sv), svAfter tl s u = { s with row := SR.go s.T s.row u, p := s.p + (if tl then u.count true else 0), f := s.f + (if tl then u.count false else 0) }
  | [], s => by
    cases tl <;> rfl
  | b :: u, s => by
    show svAfter tl (sstep tl s (some b)) u = _
    rw [svAfter_eq tl u]
    cases tl <;> cases b <;> simp [sstep, SR.go, Nat.add_assoc, Nat.add_comm] <;> omega
theorem beh_go (T : SR.Tbl) : ∀ (u : List Bool) (row : Nat), (SR.trace T row u).getLast? = some (SR.stat T (SR.go T row u))
  | [], _ => rfl
  | b :: u, row => by
    show (SR.stat T row :: SR.trace T (SR.nxt T row b) u).getLast? = _
    rw [List.getLast?_cons, beh_go T u]
    rfl
end SRD
/-! The log's items of one name; their data. -/
namespace SRD
open PySem PySem.Spec PyProof.Rows L2 SRT
theorem LogAt.tail {K : PySem.W.Frag} {H : Hp} {x : V} {xs : List V} {e : Nat × Str × Bool} {lg : List (Nat × Str × Bool)} (h : LogAt K H (x :: xs) (e :: lg)) : LogAt K H xs lg :=
  ⟨by have := h.1; simpa using this, fun i y e' hy he => h.2 (i + 1) y e' (by simpa using hy) (by simpa using he)⟩
theorem LogAt.head {K : PySem.W.Frag} {H : Hp} {x : V} {xs : List V} {e : Nat × Str × Bool} {lg : List (Nat × Str × Bool)} (h : LogAt K H (x :: xs) (e :: lg)) : ∃ b, x = .ref b ∧ SqT K H b (lgV e) := h.2 0 x e rfl rfl
theorem LogAt.cons {K : PySem.W.Frag} {H : Hp} {x : V} {xs : List V} {e : Nat × Str × Bool} {lg : List (Nat × Str × Bool)} (a : ∃ b, x = .ref b ∧ SqT K H b (lgV e)) (h : LogAt K H xs lg) : LogAt K H (x :: xs) (e :: lg) :=
  ⟨by rw [List.length_cons, List.length_cons, h.1], fun i y e' hy he => by
    cases i with
    | zero => cases hy; cases he; exact a
    | succ i => exact h.2 i y e' (by simpa using hy) (by simpa using he)⟩
theorem log_sel {K : PySem.W.Frag} {H : Hp} {n : Str} : ∀ {xs : List V} {lg : List (Nat × Str × Bool)}, LogAt K H xs lg → LogAt K H (SRO.selE n (xs.zip (lg.map (·.2.1)))) (lg.filter fun e => decide (e.2.1 = n))
  | [], [], h => h
  | [], _ :: _, h => by have := h.1; simp at this
  | _ :: _, [], h => by have := h.1; simp at this
  | x :: xs, e :: lg, h => by
    have ih := log_sel (n := n) h.tail
    unfold SRO.selE at ih ⊢
    rw [List.map_cons, List.zip_cons_cons, List.filter_cons, List.filter_cons]
    by_cases hb : e.2.1 = n
    · rw [if_pos (show ((x, e.2.1).2 == n) = true by simpa using hb), if_pos (decide_eq_true hb), List.map_cons]
      exact LogAt.cons h.head ih
    · rw [if_neg (show ¬ ((x, e.2.1).2 == n) = true by simpa using hb), if_neg (by simpa using hb)]
      exact ih
theorem log_fst {K : PySem.W.Frag} {H : Hp} {xs : List V} {lg : List (Nat × Str × Bool)} (h : LogAt K H xs lg) : xs = (xs.zip (lg.map (·.2.1))).map (·.1) := by
  rw [List.map_fst_zip]
  rw [List.length_map, h.1]
  exact Nat.le_refl _
theorem log_items {K : PySem.W.Frag} {H : Hp} : ∀ {xs : List V} {lg : List (Nat × Str × Bool)}, LogAt K H xs lg → ∀ e ∈ xs.zip (lg.map (·.2.1)), ∃ a ys, e.1 = .ref a ∧ SqT K H a ys ∧ ys[1]? = some (.str e.2)
  | [], _, _, e, he => by simp at he
  | _ :: _, [], _, e, he => by simp at he
  | x :: xs, e' :: lg, h, e, he => by
    rw [List.map_cons, List.zip_cons_cons] at he
    rcases List.mem_cons.mp he with rfl | he
    · obtain ⟨b, h1, h2⟩ := h.head
      exact ⟨b, _, h1, h2, rfl⟩
    · exact log_items h.tail e he
/-- a change as data -/
def lgD (e : Nat × Str × Bool) : PyData := .tuple [.int (e.1 : Nat), .str e.2.1, .str (stS e.2.2)]
theorem lgD_lay {e : Nat × Str × Bool} (h : PyData.strOk e.2.1 = true) : (lgD e).canLay0 = true ∧ (lgD e).depth ≤ 2 := by
  obtain ⟨k, n, b⟩ := e
  have h : PyData.strOk n = true := h
  have hb : PyData.strOk (stS b) = true := by cases b <;> decide +kernel
  refine ⟨?_, ?_⟩
  · simp only [lgD, PyData.canLay0, PyData.canLayAll0, h, hb, Bool.and_self, Bool.and_true]
  · simp only [lgD, PyData.depth, PyData.depthAll]
    omega
theorem dp_log {K : PySem.W.Frag} {H : Hp} : ∀ {xs : List V} {lg : List (Nat × Str × Bool)}, LogAt K H xs lg → DpAll K H xs (lg.map lgD)
  | [], [], _ => .nil
  | [], _ :: _, h => by have := h.1; simp at this
  | _ :: _, [], h => by have := h.1; simp at this
  | x :: xs, e :: lg, h => by
    obtain ⟨b, h1, h2⟩ := h.head
    rw [h1]
    exact .cons (.tup h2 (.cons (.int _) (.cons (.str _) (.cons (.str _) .nil)))) (dp_log h.tail)
/-- two lists of the same changes are equal -/
theorem ne_log {K : PySem.W.Frag} {H : Hp} {Q : VK} {a b : Addr} {xs ys : List V} {lg : List (Nat × Str × Bool)} (ha : H a = some (.lst xs)) (hb : H b = some (.lst ys)) (la : LogAt K H xs lg) (lb : LogAt K H ys lg) (hn : ∀ e ∈ lg, PyData.strOk e.2.1 = true) (q : Q (.bl false) H) :
    rNeD K (.ref a) (.ref b) H Q := by
  have hs : ∀ d ∈ lg.map lgD, d.canLay0 = true ∧ d.depth ≤ 2 := fun d hd => by
    obtain ⟨e, he, rfl⟩ := List.mem_map.mp hd
    exact lgD_lay (hn e he)
  have hl := (lay_all hs).1
  refine ⟨.list (lg.map lgD), .list (lg.map lgD), .lst (SqL.of ha) (dp_log la), .lst (SqL.of hb) (dp_log lb), shaped_list (by decide) hs, shaped_list (by decide) hs, ?_⟩
  rw [PySem.SeqAt.eqv_refl _ (by simpa only [PyData.canLay0] using hl)]
  exact q
/-- two lists of the same statuses -/
theorem ne_sts {K : PySem.W.Frag} {H : Hp} {Q : VK} {a b : Addr} {bs : List Bool} (ha : H a = some (.lst (bs.map fun b => V.str (stS b)))) (hb : H b = some (.lst (bs.map fun b => V.str (stS b)))) (q : Q (.bl false) H) :
    rNeD K (.ref a) (.ref b) H Q := by
  have hd : ∀ bs : List Bool, DpAll K H (bs.map fun b => V.str (stS b)) (bs.map fun b => PyData.str (stS b)) := fun bs => by
    induction bs with
    | nil => exact .nil
    | cons b bs ih => exact .cons (.str _) ih
  have hs : ∀ d ∈ bs.map fun b => PyData.str (stS b), d.canLay0 = true ∧ d.depth ≤ 1 := fun d hd => by
    obtain ⟨b, _, rfl⟩ := List.mem_map.mp hd
    cases b <;> exact ⟨by decide +kernel, by decide +kernel⟩
  have hl := (lay_all hs).1
  refine ⟨.list (bs.map fun b => PyData.str (stS b)), .list (bs.map fun b => PyData.str (stS b)), .lst (SqL.of ha) (hd bs), .lst (SqL.of hb) (hd bs), shaped_list (by decide) hs, shaped_list (by decide) hs, ?_⟩
  rw [PySem.SeqAt.eqv_refl _ (by simpa only [PyData.canLay0] using hl)]
  exact q
end SRD
/-! Own rules, eleventh part: a name's instance is called; what they ask, as steps. -/
namespace SRO
open PySem PySem.Spec PyProof.Rows L2
/-- x(e, ..), x a local that holds an instance of C -/
theorem pe_callN {X : Cx} {CX : CXT} {k : Nat} {C g : Addr} {sp : Sp} {E : XK} {tf : TE} {t : TA} {x : Str} {e : Expr} {es : List Expr} {p pos : Pos} (hf : PE X (.Name x p) tf) (c : StX.CallO X.K C g) (F : FnR X.prog X.w X.K X.mg X.base CX k g sp) (hr : Room k X.A) (hx : Passes CX X E) (ha : PA X (e :: es) t)
    (he : starEach (e :: es) X.env = (false, eval e X.env) :: starEach es X.env := by rfl) (hpl : (backTo pos (starEach es X.env)).any (·.1) = false := by rfl) : PE X (.Call (.Name x p) (e :: es) [] pos) (StX.tCallO X C sp E tf t) := by
  refine ⟨fun pins s σ H Q I h => ?_⟩
  refine wpAny_Call_Name_kw (thn (hf.run pins s σ H _ I h) fun u s1 ⟨y, H1, I1, ry, a, ey, q⟩ => ?_)
  subst ey
  obtain rfl : u = Value.ref a := ry
  refine StX.callO_with (thn (ha.run pos pins s1 σ H1 _ I1 q) fun us s2 ⟨vs, H2, I2, r, hi, q2⟩ => ?_) he hpl
  obtain ⟨ox, od, J, hd⟩ := StX.insC_at I2 hi
  exact ⟨⟨C, ox, od, J, hd⟩, StX.run_callO c F hr hx I2 hi r q2⟩
end SRO
namespace SRD
open PySem PySem.Spec PyProof.Rows L2 SRT
section
variable {K : PySem.W.Frag} {σ : L2.St} {H : Hp} {Q : VK}
theorem s_callO {X : Cx} {C : Addr} {sp : Sp} {E : XK} {tf : TE} {t : TA} (h : tf σ H fun y H1 => ∃ a, y = V.ref a ∧ t σ H1 fun vs H2 => StX.InsC X H2 a C ∧ sp (V.ref a :: vs) H2 Q E) : StX.tCallO X C sp E tf t σ H Q := h
theorem s_getR {C : Addr} {sp : Sp} {E : XK} {ta ti : TE} (h : ta σ H fun x H1 => ti σ H1 fun y H2 => ∃ a dx fs, x = .ref a ∧ H2 a = some (.ins C dx fs) ∧ sp [.ref a, y] H2 Q E) : SRO.tGetR C sp E ta ti σ H Q := h
theorem s_lcK {tg : SRO.TK} {i : Nat} (h : tg σ H fun xs H1 => ∃ (n : Str) (es : List (V × Str)), σ[i]? = some (some (.str n)) ∧ xs = es.map (·.1) ∧ xs.length ≤ sizeLine ∧
  (∀ e ∈ es, ∃ a ys, e.1 = .ref a ∧ SqT K H1 a ys ∧ ys[1]? = some (.str e.2)) ∧ ∀ D, H1 D = none → Q (.ref D) (upd H1 D (.lst (SRO.selE n es)))) : SRO.tLcK K tg i σ H Q := h
theorem s_methK {C : Addr} {m : Str} {sp : SRO.SpK} {ta : TE} {R : List V → Hp → Prop} (h : ta σ H fun x H1 => ∃ a dx fs, x = .ref a ∧ H1 a = some (.ins C dx fs) ∧ fs.lookup m = none ∧ sp [x] H1 fun xs => R xs H1) : SRO.tMethK C m sp ta σ H R := h
end
end SRD
/-! The law's own defs: _law_watched. -/
namespace SRD
open PySem PySem.Spec PyProof.Rows L2 SRT
def sv0 (n : Str) (r : Addr) (T : SR.Tbl) : Sv := ⟨n, r, T, 0, 0, 0⟩
def ms3 (r0 r1 r2 : Addr) (T0 T1 T2 : SR.Tbl) : Ms := ⟨[sv0 "a" r0 T0, sv0 "b" r1 T1, sv0 "c" r2 T2], 0, []⟩
theorem ms3_run (tl : Bool) (r0 r1 r2 : Addr) (T0 T1 T2 : SR.Tbl) (u : List Bool) : ((ms3 r0 r1 r2 T0 T1 T2).run tl (u.map (same 3))).svs = (ms3 r0 r1 r2 T0 T1 T2).svs.map (fun s => svAfter tl s u) ∧ ((ms3 r0 r1 r2 T0 T1 T2).run tl (u.map (same 3))).tk = u.length := by
  obtain ⟨_, h2, h3⟩ := run_log tl u (ms3 r0 r1 r2 T0 T1 T2) 0 _ (by show ([("a" : Str), "b", "c"] : List Str).Nodup; decide +kernel) rfl
  refine ⟨h2, h3.trans ?_⟩
  show 0 + u.length = _
  omega
theorem ms3_log (tl : Bool) (r0 r1 r2 : Addr) (T0 T1 T2 : SR.Tbl) (u : List Bool) {j : Nat} {n : Str} {r : Addr} {T : SR.Tbl} (h : (ms3 r0 r1 r2 T0 T1 T2).svs[j]? = some (sv0 n r T)) :
    ((ms3 r0 r1 r2 T0 T1 T2).run tl (u.map (same 3))).lg.filter (fun e => decide (e.2.1 = n)) = chgK n (SR.trace T 0 u) ((SR.trace T 0 u).length - 1) := by
  obtain ⟨h1, _, _⟩ := run_log tl u (ms3 r0 r1 r2 T0 T1 T2) j _ (by show ([("a" : Str), "b", "c"] : List Str).Nodup; decide +kernel) h
  refine h1.trans ?_
  show [] ++ chF n T 0 0 u = _
  rw [List.nil_append, chF_trace, chgAt_chgK, trace_len]
  rfl
theorem ms3_lens (tl : Bool) (r0 r1 r2 : Addr) (T0 T1 T2 : SR.Tbl) (u : List Bool) : ((ms3 r0 r1 r2 T0 T1 T2).run tl (u.map (same 3))).svs.length = 3 ∧ ((ms3 r0 r1 r2 T0 T1 T2).run tl (u.map (same 3))).lg.length ≤ 3 * u.length := by
  obtain ⟨h1, h2⟩ := run_len tl (u.map (same 3)) (ms3 r0 r1 r2 T0 T1 T2) fun ss hs => by
    obtain ⟨b, _, rfl⟩ := List.mem_map.mp hs
    rfl
  refine ⟨h1, ?_⟩
  rw [List.length_map] at h2
  have h2 : ((ms3 r0 r1 r2 T0 T1 T2).run tl (u.map (same 3))).lg.length ≤ 0 + 3 * u.length := h2
  omega
theorem last_at (T : SR.Tbl) (u : List Bool) : atI (txS (SR.trace T 0 u)).cps.toList (-1) = some (udC (SR.stat T (SR.go T 0 u))) := by
  have h1 := beh_go T u 0
  have h2 : (txS (SR.trace T 0 u)).cps.toList = (SR.trace T 0 u).map udC := rfl
  rw [h2]
  have h3 : ((SR.trace T 0 u).map udC).getLast? = some (udC (SR.stat T (SR.go T 0 u))) := by
    rw [List.getLast?_map, h1]
    rfl
  obtain ⟨ys, hy⟩ := List.getLast?_eq_some_iff.mp h3
  rw [hy]
  exact atI_last _ _
/-- a service behind the checks -/
def svU (tl : Bool) (n : Str) (r : Addr) (T : SR.Tbl) (u : List Bool) : Sv := ⟨n, r, T, SR.go T 0 u, 0 + (if tl then u.count true else 0), 0 + (if tl then u.count false else 0)⟩
theorem ms3_svs (tl : Bool) (r0 r1 r2 : Addr) (T0 T1 T2 : SR.Tbl) (u : List Bool) : ((ms3 r0 r1 r2 T0 T1 T2).run tl (u.map (same 3))).svs = [svU tl "a" r0 T0 u, svU tl "b" r1 T1 u, svU tl "c" r2 T2 u] := by
  rw [(ms3_run tl r0 r1 r2 T0 T1 T2 u).1]
  show [svAfter tl _ u, svAfter tl _ u, svAfter tl _ u] = _
  rw [svAfter_eq, svAfter_eq, svAfter_eq]
  rfl
theorem chgK_ok {n : Str} {bs : List Bool} {k : Nat} (h : PyData.strOk n = true) : ∀ e ∈ chgK n bs k, PyData.strOk e.2.1 = true := fun e he => by
  obtain ⟨i, _, rfl⟩ := List.mem_map.mp he
  exact h
section
variable {w : World} {K : PySem.W.Frag} {mg : Str → Option Value} {base : Heap} {C : Addr} {tl : Bool}
abbrev N_law_watched : List Str := ["_law_monitor", "_law_rules", "_law_checks_here", "_law_check", "_law_told", "_law_at", "_law_name", "_law_change"]
theorem sc_law_watched : FnScope N_law_watched ["_law_monitor", "_law_rules", "_law_checks_here"] (defScope s_law_watched) := ⟨rfl, rfl, rfl, by decide +kernel, rfl, by decide +kernel, by decide +kernel⟩
def spWatched (K : PySem.W.Frag) (C : Addr) (tl : Bool) : Sp := fun vs H Q _ => ∃ (m pa rt r0 r1 r2 : Addr) (T0 T1 T2 : SR.Tbl) (u : List Bool), vs = [.ref m, .ref rt, .str (ckS u)] ∧ u.length ≤ 14 ∧ MonAt K H C m pa (ms3 r0 r0 r0 T0 T0 T0) 0 ∧ SqT K H rt [.ref r0, .ref r1, .ref r2] ∧
  RuleAt K H r0 T0 ∧ RuleAt K H r1 T1 ∧ RuleAt K H r2 T2 ∧ SR.Valid T0 ∧ SR.Valid T1 ∧ SR.Valid T2 ∧
  ∀ H', But2 m pa H H' → MonAt K H' C m pa ((ms3 r0 r1 r2 T0 T1 T2).run tl (u.map (same 3))) (2 + u.length) → Q (.bl true) H'
theorem ok_law_watched (T : Txt K mg) (D : MonC K C) (F_setitem : FnR PP w K mg base CX0 4 (He.ma K (aMon K) "__setitem__") (spSet K C)) (F_tick : FnR PP w K mg base CX0 7 (He.ma K (aMon K) "tick") (spTick K C tl)) (F_Rule_call : FnR PP w K mg base CX0 3 (He.ma K (aRule K) "__call__") (spRuleCall K))
    (F_getitem : FnR PP w K mg base CX0 4 (He.ma K (aMon K) "__getitem__") (spGet K C)) (F_changes : SRO.KFn PP w K mg base 1 (He.ma K (aMon K) "changes") (spChanges K C)) (F_law_changed : FnR PP w K mg base CX0 1 (He.ga K "_law_changed") (spChanged K)) (F_ticks : FnR PP w K mg base CX0 1 (pg K (aMon K) "ticks") (spTicks K C)) :
    FnR PP w K mg base CX0 8 (He.ga K "_law_watched") (spWatched K C tl) := by
  have CO : StX.CallO K (aRule K) (He.ma K (aRule K) "__call__") := ⟨(T.meth 78).at_, (T.meth 78).fn, T.x 14⟩
  refine defR (T.def_ 28 rfl) sc_law_watched (fun _ _ _ _ _ _ us hl => match us, hl with | [_, _, _], _ => rfl) ?_ ?_
  · rintro vs H Q E ⟨m, pa, rt, r0, r1, r2, T0, T1, T2, u, rfl, _⟩
    rfl
  rintro cdv A outer s0 H vs Q E hr ⟨m, pa, rt, r0, r1, r2, T0, T1, T2, u, rfl, hu, hM, hrt, hR0, hR1, hR2, v0, v1, v2, q⟩
  have c1 := D.cl
  obtain ⟨dx, hs0, past, hm, _, hp, _⟩ := id hM
  refine ⟨_, (pss_cons (ps_asg (pe_ix (kix_tup (K := K)) (pv 1) pe_int (fun _ _ => rfl)) (pg_sub (pv 0) pe_str (SRO.set_R D.nq D.s_find D.s_fn F_setitem (hr.mono (by decide)) pass0)))
      (pss_cons (ps_asg (pe_ix (kix_tup (K := K)) (pv 1) pe_int (fun _ _ => rfl)) (pg_sub (pv 0) pe_str (SRO.set_R D.nq D.s_find D.s_fn F_setitem (hr.mono (by decide)) pass0)))
      (pss_cons (ps_for PassesOwn.never rfl (pi_str (pv 2)) (pg_name (i := 3) sc_law_watched.nd rfl (Or.inl rfl)) (pss_one (ps_expr (SRO.pe_methR (pv 0) D.cl D.m_tick F_tick (hr.mono (by decide)) pass0 (pa_cons (pv 3) (pa_cons (pv 3) (pa_cons (pv 3) pa_nil)))))))
      (pss_cons (ps_set (i := 4) sc_law_watched.nd rfl (Or.inl rfl) (pe_lst (pa_cons (StX.pe_callO (pe_ix (kix_tup (K := K)) (pv 1) pe_int (fun _ _ => rfl)) CO F_Rule_call (hr.mono (by decide)) pass0 (pa_cons (pv 2) pa_nil)) (pa_cons (StX.pe_callO (pe_ix (kix_tup (K := K)) (pv 1) pe_int (fun _ _ => rfl)) CO F_Rule_call (hr.mono (by decide)) pass0 (pa_cons (pv 2) pa_nil)) (pa_cons (StX.pe_callO (pe_ix (kix_tup (K := K)) (pv 1) pe_int (fun _ _ => rfl)) CO F_Rule_call (hr.mono (by decide)) pass0 (pa_cons (pv 2) pa_nil)) pa_nil)))))
      (pss_cons (ps_if (pt_cmpR (kneD (K := K) (hr.mono (Nat.zero_le _)).units) (pe_lst (pa_cons (SRO.pe_getR (pv 0) pe_str D.g_find D.g_fn D.g_fi F_getitem (hr.mono (by decide)) pass0) (pa_cons (SRO.pe_getR (pv 0) pe_str D.g_find D.g_fn D.g_fi F_getitem (hr.mono (by decide)) pass0) (pa_cons (SRO.pe_getR (pv 0) pe_str D.g_find D.g_fn D.g_fi F_getitem (hr.mono (by decide)) pass0) pa_nil)))) (pe_lst (pa_cons (pe_ix ix_str (pe_ix (kix_list (K := K)) (pv 4) pe_int (fun _ _ => rfl)) (pe_un un_neg pe_int) (fun _ _ => rfl)) (pa_cons (pe_ix ix_str (pe_ix (kix_list (K := K)) (pv 4) pe_int (fun _ _ => rfl)) (pe_un un_neg pe_int) (fun _ _ => rfl)) (pa_cons (pe_ix ix_str (pe_ix (kix_list (K := K)) (pv 4) pe_int (fun _ _ => rfl)) (pe_un un_neg pe_int) (fun _ _ => rfl)) pa_nil)))) (nomark _)) (pss_one (ps_ret pe_bl)) pss_nil)
      (pss_cons (ps_for PassesOwn.never rfl (pi_range1 (by rfl) (T.free 46) (pa_cons pe_int pa_nil)) (pg_name (i := 5) sc_law_watched.nd rfl (Or.inl rfl)) (pss_cons (ps_set (i := 6) sc_law_watched.nd rfl (Or.inr rfl) (pe_ix ix_str pe_str (pv 5) (fun _ _ => rfl)))
      (pss_one (ps_if (pt_cmpR (kneD (K := K) (hr.mono (Nat.zero_le _)).units) (SRO.pe_lcK (K := K) (k := 1) (i := 6) (SRO.pk_meth0 (pv 0) D.cl D.m_changes F_changes (hr.mono (by decide))) (hr.mono (by decide)) rfl rfl rfl rfl) (SRO.pe_callR F_law_changed (hr.mono (by decide)) (by rfl) (T.glo 27) (T.keep 135) pass0 (pa_cons (pv 6) (pa_cons (pe_ix (kix_list (K := K)) (pv 4) (pv 5) (fun _ _ => rfl)) pa_nil))) (nomark _)) (pss_one (ps_ret pe_bl)) pss_nil))))
      (pss_one (ps_ret (pe_cmpR op_eq (SRO.pe_propR (pv 0) D.cl D.p_ticks F_ticks (hr.mono (by decide)) pass0) (pe_callB call_len_str (by rfl) (T.free 42) boot_len (pa_cons (pv 2) pa_nil)) (nomark _)))))))))), ?_⟩
  ac_rfl
  refine ⟨m, dx, _, rfl, hm, m, pa, r1, _, 0, 1, sv0 "b" r0 T0, T1, rfl, hM, by decide, Nat.le_of_ble_eq_true rfl, rfl, fun i hi => ?_, hR1, v1, fun H1 b1 hM1 => ?_⟩
  · obtain rfl : i = 0 := by omega
    show some ("a" : Str) ≠ some ("b" : Str)
    decide +kernel
  have hM1 : MonAt K H1 C m pa (ms3 r0 r1 r0 T0 T1 T0) 1 := hM1
  obtain ⟨dx1, hs1, past1, hm1, _, hp1, _⟩ := id hM1
  have hrt1 := b1.seqT hm hp hrt
  have hR01 := b1.rule hm D.nr hp hR0
  have hR11 := b1.rule hm D.nr hp hR1
  have hR21 := b1.rule hm D.nr hp hR2
  ac_rfl
  refine ⟨m, dx1, _, rfl, hm1, m, pa, r2, _, 1, 2, sv0 "c" r0 T0, T2, rfl, hM1, by decide, Nat.le_of_ble_eq_true rfl, rfl, fun i hi => ?_, hR21, v2, fun H2 b2 hM2 => ?_⟩
  · have h01 : i = 0 ∨ i = 1 := by omega
    rcases h01 with rfl | rfl
    · show some ("a" : Str) ≠ some ("c" : Str)
      decide +kernel
    · show some ("b" : Str) ≠ some ("c" : Str)
      decide +kernel
  have hM2 : MonAt K H2 C m pa (ms3 r0 r1 r2 T0 T1 T2) 2 := hM2
  obtain ⟨dx2, hs2, past2, hm2, _, hp2, _⟩ := id hM2
  have hrt2 := b2.seqT hm1 hp1 hrt1
  have hR02 := b2.rule hm1 D.nr hp1 hR01
  have hR12 := b2.rule hm1 D.nr hp1 hR11
  have hR22 := b2.rule hm1 D.nr hp1 hR21
  have b02 := b1.trans b2
  ac_rfl
  refine for_str (fun i σ H' => ∃ v, σ = [some (.ref m), some (.ref rt), some (.str (ckS u)), v, none, none, none, none] ∧ But2 m pa H2 H' ∧ MonAt K H' C m pa ((ms3 r0 r1 r2 T0 T1 T2).run tl ((u.take i).map (same 3))) (2 + i)) ⟨none, rfl, Same.but2 (Same.refl H2), hM2⟩ ?_ ?_
  · rintro i c σ H4 hi ⟨v, rfl, b4, hM4⟩
    rw [ckS_list, List.getElem?_map] at hi
    obtain ⟨b, hb, rfl⟩ : ∃ b, u[i]? = some b ∧ ckC b = c := by
      cases hq : u[i]? with
      | none => rw [hq] at hi; cases hi
      | some b => rw [hq] at hi; cases hi; exact ⟨b, rfl, rfl⟩
    have hil := (List.getElem?_eq_some_iff.mp hb).1
    obtain ⟨dx4, hs4, past4, hm4, _, hp4, _⟩ := id hM4
    obtain ⟨l1, l2⟩ := ms3_lens tl r0 r1 r2 T0 T1 T2 (u.take i)
    rw [List.length_take] at l2
    ac_rfl
    refine ⟨m, pa, _, 2 + i, same 3 b, rfl, hM4, by rw [l1]; rfl, by omega, by omega, by omega, fun t H5 b5 hM5 ht5 => ?_⟩
    ac_rfl
    refine ⟨some (.str ⟨#[ckC b]⟩), rfl, b4.trans b5, ?_⟩
    rw [take_snoc hb, List.map_append]
    show MonAt K H5 C m pa (Ms.run tl _ (List.map (same 3) (List.take i u) ++ [same 3 b])) _
    rw [run_snoc]
    exact hM5
  rintro σ H4 ⟨v, rfl, b4, hM4⟩
  rw [ckS_list, List.length_map, List.take_length] at hM4
  have hrt4 := b4.seqT hm2 hp2 hrt2
  have hR04 := b4.rule hm2 D.nr hp2 hR02
  have hR14 := b4.rule hm2 D.nr hp2 hR12
  have hR24 := b4.rule hm2 D.nr hp2 hR22
  ac_rfl
  refine s_callO ?_
  ac_rfl
  refine ⟨r0, rfl, ?_⟩
  ac_rfl
  obtain ⟨da, ta, ha, _⟩ := id hR04
  refine ⟨.inr ⟨_, _, ha⟩, r0, T0, u, rfl, hR04, v0, by omega, fun H5 e5 => ?_⟩
  have hrt5 := seqT e5 hrt4
  have hR15 := hR14.mono e5
  ac_rfl
  refine s_callO ?_
  ac_rfl
  refine ⟨r1, rfl, ?_⟩
  ac_rfl
  obtain ⟨db, tb, hb, _⟩ := id hR15
  refine ⟨.inr ⟨_, _, hb⟩, r1, T1, u, rfl, hR15, v1, by omega, fun H6 e6 => ?_⟩
  have hrt6 := seqT e6 hrt5
  have hR26 := (hR24.mono e5).mono e6
  ac_rfl
  refine s_callO ?_
  ac_rfl
  refine ⟨r2, rfl, ?_⟩
  ac_rfl
  obtain ⟨dc, tc, hc, _⟩ := id hR26
  refine ⟨.inr ⟨_, _, hc⟩, r2, T2, u, rfl, hR26, v2, by omega, fun H7 e7 => ?_⟩
  ac_rfl
  intro L hL
  have e48 : Same H4 (upd H7 L (.lst [.str (txS (SR.trace T0 0 u)), .str (txS (SR.trace T1 0 u)), .str (txS (SR.trace T2 0 u))])) := ((e5.trans e6).trans e7).trans (same_new hL)
  have hL8 : (upd H7 L (.lst [.str (txS (SR.trace T0 0 u)), .str (txS (SR.trace T1 0 u)), .str (txS (SR.trace T2 0 u))])) L = some (.lst [.str (txS (SR.trace T0 0 u)), .str (txS (SR.trace T1 0 u)), .str (txS (SR.trace T2 0 u))]) := upd_same
  revert e48 hL8
  generalize upd H7 L (.lst [.str (txS (SR.trace T0 0 u)), .str (txS (SR.trace T1 0 u)), .str (txS (SR.trace T2 0 u))]) = H8
  intro e48 hL8
  have hM8 := hM4.mono e48
  have hsv := ms3_svs tl r0 r1 r2 T0 T1 T2 u
  have hlens := ms3_lens tl r0 r1 r2 T0 T1 T2 u
  have htk := (ms3_run tl r0 r1 r2 T0 T1 T2 u).2
  have hlog := fun (j : Nat) (n : Str) (r : Addr) (T : SR.Tbl) h => ms3_log tl r0 r1 r2 T0 T1 T2 u (j := j) (n := n) (r := r) (T := T) h
  revert hM8 hsv hlens htk hlog
  generalize hS : (ms3 r0 r1 r2 T0 T1 T2).run tl (u.map (same 3)) = S'
  intro hM8 hsv hlens htk hlog
  have lenT : ∀ T : SR.Tbl, (txS (SR.trace T 0 u)).length ≤ sizeLine := fun T => by
    rw [txS_len, trace_len]
    exact Nat.le_of_lt (small1000 (by omega))
  have ev : ∀ (n : Str) (r : Addr) (T : SR.Tbl), SR.stat (svU tl n r T u).T (svU tl n r T u).row = SR.stat T (SR.go T 0 u) := fun _ _ _ => rfl
  obtain ⟨dx8, hs8, past8, hm8, _, hp8, _⟩ := id hM8
  ac_rfl
  refine s_getR ?_
  ac_rfl
  refine ⟨m, pa, S', _, svU tl "a" r0 T0 u, 0, rfl, hM8, by omega, by rw [hsv]; rfl, fun i hi => by omega, fun H9 e9 => ?_⟩
  have hM9 := hM8.mono e9
  have hm9 := e9 _ _ hm8
  ac_rfl
  refine s_getR ?_
  ac_rfl
  refine ⟨m, pa, S', _, svU tl "b" r1 T1 u, 1, rfl, hM9, by omega, by rw [hsv]; rfl, fun i hi => ?_, fun H10 e10 => ?_⟩
  · obtain rfl : i = 0 := by omega
    rw [hsv]
    show some ("a" : Str) ≠ some ("b" : Str)
    decide +kernel
  have hM10 := hM9.mono e10
  have hm10 := e10 _ _ hm9
  ac_rfl
  refine s_getR ?_
  ac_rfl
  refine ⟨m, pa, S', _, svU tl "c" r2 T2 u, 2, rfl, hM10, by omega, by rw [hsv]; rfl, fun i hi => ?_, fun H11 e11 => ?_⟩
  · have h01 : i = 0 ∨ i = 1 := by omega
    rcases h01 with rfl | rfl
    · rw [hsv]
      show some ("a" : Str) ≠ some ("c" : Str)
      decide +kernel
    · rw [hsv]
      show some ("b" : Str) ≠ some ("c" : Str)
      decide +kernel
  have hL11 := e11 _ _ (e10 _ _ (e9 _ _ hL8))
  have e4b := ((e48.trans e9).trans e10).trans e11
  have hM11 := hM10.mono e11
  ac_rfl
  simp only [ev]
  intro p1 hp1'
  have hL12 := same_new (o := .lst [.str (stS (SR.stat T0 (SR.go T0 0 u))), .str (stS (SR.stat T1 (SR.go T1 0 u))), .str (stS (SR.stat T2 (SR.go T2 0 u)))]) hp1' _ _ hL11
  ac_rfl
  refine s_ixS (lenT T0) (last_at T0 u) ?_
  ac_rfl
  refine s_ixS (lenT T1) (last_at T1 u) ?_
  ac_rfl
  refine s_ixS (lenT T2) (last_at T2 u) ?_
  ac_rfl
  intro p2 hp2'
  have np := ne_of_none (upd_same (H := H11)) hp2'
  rw [udC_st, udC_st, udC_st]
  refine ne_sts (bs := [SR.stat T0 (SR.go T0 0 u), SR.stat T1 (SR.go T1 0 u), SR.stat T2 (SR.go T2 0 u)]) ((upd_ne np).trans upd_same) upd_same ?_
  have e4d := (e4b.trans (same_new (o := .lst [.str (stS (SR.stat T0 (SR.go T0 0 u))), .str (stS (SR.stat T1 (SR.go T1 0 u))), .str (stS (SR.stat T2 (SR.go T2 0 u)))]) hp1')).trans (same_new (o := .lst [.str (stS (SR.stat T0 (SR.go T0 0 u))), .str (stS (SR.stat T1 (SR.go T1 0 u))), .str (stS (SR.stat T2 (SR.go T2 0 u)))]) hp2')
  have hLd := same_new (o := .lst [.str (stS (SR.stat T0 (SR.go T0 0 u))), .str (stS (SR.stat T1 (SR.go T1 0 u))), .str (stS (SR.stat T2 (SR.go T2 0 u)))]) hp2' _ _ hL12
  have hMd := hM4.mono e4d
  rw [hS] at hMd
  have bd := b02.trans (b4.trans (Same.but2 e4d))
  rw [hS] at q
  clear hS hM4
  revert e4d hLd hMd bd
  show _ → _ → _ → _ → _
  generalize (upd (upd H11 p1 _) p2 _) = H12
  intro e4d hLd hMd bd
  ac_rfl
  refine for_rng0 (n := 3) rfl (fun i σ H' => ∃ v5 v6 v7, σ = [some (.ref m), some (.ref rt), some (.str (ckS u)), v, some (.ref L), v5, v6, v7] ∧ Same H12 H') ⟨_, _, _, rfl, Same.refl H12⟩ ?_ ?_
  · rintro i σ H13 hi ⟨v5, v6, v7, rfl, e13⟩
    have hM13 := hMd.mono e13
    have hL13 := e13 _ _ hLd
    obtain ⟨dx13, hs13, past13, hm13, _, hp13, _⟩ := id hM13
    obtain ⟨n, r, Tn, c, hc1, hc2, hsvn, htold, hok⟩ : ∃ (n : Str) (r : Addr) (Tn : SR.Tbl) (c : Nat), atI ("abc" : Str).cps.toList ((i : Nat) : Int) = some c ∧ (⟨#[c]⟩ : Str) = n ∧ (ms3 r0 r1 r2 T0 T1 T2).svs[i]? = some (sv0 n r Tn) ∧
        ([.str (txS (SR.trace T0 0 u)), .str (txS (SR.trace T1 0 u)), .str (txS (SR.trace T2 0 u))] : List V)[i]? = some (.str (txS (SR.trace Tn 0 u))) ∧ PyData.strOk n = true := by
      match i, hi with
      | 0, _ => exact ⟨"a", r0, T0, 97, by decide +kernel, by decide +kernel, rfl, rfl, by decide +kernel⟩
      | 1, _ => exact ⟨"b", r1, T1, 98, by decide +kernel, by decide +kernel, rfl, rfl, by decide +kernel⟩
      | 2, _ => exact ⟨"c", r2, T2, 99, by decide +kernel, by decide +kernel, rfl, rfl, by decide +kernel⟩
    ac_rfl
    refine s_ixS (by decide +kernel) hc1 ?_
    rw [hc2]
    ac_rfl
    refine s_lcK ?_
    refine s_methK ?_
    ac_rfl
    refine ⟨m, pa, S', _, rfl, hM13, fun lga ys hlg hL => ?_⟩
    have hyl := hL.1
    refine ⟨n, ys.zip (S'.lg.map (·.2.1)), rfl, log_fst hL, by rw [hyl]; exact Nat.le_of_lt (small1000 (by omega)), log_items hL, fun D1 hD1 => ?_⟩
    have hL14 := same_new (o := .lst (SRO.selE n (ys.zip (S'.lg.map (·.2.1))))) hD1 _ _ hL13
    ac_rfl
    refine ⟨n, SR.trace Tn 0 u, rfl, by rw [trace_len]; omega, fun a2 ys2 H15 e15 ha2 hl2 => ?_⟩
    have hlg2 := hlog i n r Tn hsvn
    refine ne_log (e15 _ _ upd_same) ha2 ((log_sel (n := n) hL).mono ((same_new hD1).trans e15)) (by rw [hlg2]; exact hl2) (by rw [hlg2]; exact chgK_ok hok) ?_
    ac_rfl
    exact ⟨_, _, _, rfl, (e13.trans (same_new hD1)).trans e15⟩
  rintro σ H13 ⟨v5, v6, v7, rfl, e13⟩
  have hM13 := hMd.mono e13
  obtain ⟨dx13, hs13, past13, hm13, _, hp13, _⟩ := id hM13
  ac_rfl
  refine ⟨m, pa, S', _, rfl, hM13, ?_⟩
  ac_rfl
  refine s_lenS (by rw [ckS_len]; exact Nat.le_of_lt (small1000 (by omega))) ?_
  ac_rfl
  rw [ckS_len, htk, decide_eq_true rfl]
  exact q H13 (bd.trans (Same.but2 e13)) hM13
end
end SRD
/-! Counting the checks; the ticks that changed something. -/
namespace SRD
open PySem PySem.Spec PyProof.Rows L2 SRT
theorem cnt_ck (b : Bool) : ∀ u : List Bool, cnt (ckC b) (u.map ckC) = ((u.count b : Nat) : Int)
  | [] => rfl
  | c :: u => by
    rw [List.map_cons, cnt_cons, cnt_ck b u, List.count_cons]
    cases b <;> cases c <;> simp [ckC] <;> omega
theorem count_ck (b : Bool) (u : List Bool) : Txt.count (ckS u) ⟨#[ckC b]⟩ = ((u.count b : Nat) : Int) := by
  rw [count_cnt, ckS_list, cnt_ck]
/-- what a tick tells, by the statuses -/
def nmAt (bs : List Bool) (i : Nat) : List V := if bs.getD (i + 1) false != bs.getD i false then [.str "x"] else []
theorem trace_getD (T : SR.Tbl) : ∀ (u : List Bool) (row i : Nat), i ≤ u.length → (SR.trace T row u).getD i false = SR.stat T (SR.go T row (u.take i))
  | [], row, i, h => by
    have : i = 0 := by simpa using h
    subst this
    rfl
  | c :: u, row, 0, _ => rfl
  | c :: u, row, i + 1, h => by
    show (SR.trace T (SR.nxt T row c) u).getD i false = SR.stat T (SR.go T (SR.nxt T row c) (u.take i))
    exact trace_getD T u _ i (by simpa using h)
def ms1 (r : Addr) (T : SR.Tbl) : Ms := ⟨[sv0 "x" r T], 0, []⟩
theorem ms1_svs (r : Addr) (T : SR.Tbl) (u : List Bool) : ((ms1 r T).run false (u.map (same 1))).svs = [svU false "x" r T u] := by
  obtain ⟨_, h2, _⟩ := run_log false u (ms1 r T) 0 _ (by show ([("x" : Str)] : List Str).Nodup; decide +kernel) rfl
  have h2 : ((ms1 r T).run false (u.map (same 1))).svs = [svAfter false (sv0 "x" r T) u] := h2
  rw [h2, svAfter_eq]
  rfl
theorem ms1_lens (r : Addr) (T : SR.Tbl) (u : List Bool) : ((ms1 r T).run false (u.map (same 1))).lg.length ≤ u.length := by
  obtain ⟨h1, h2⟩ := run_len false (u.map (same 1)) (ms1 r T) fun ss hs => by
    obtain ⟨b, _, rfl⟩ := List.mem_map.mp hs
    rfl
  rw [List.length_map] at h2
  have h2 : ((ms1 r T).run false (u.map (same 1))).lg.length ≤ 0 + 1 * u.length := h2
  omega
theorem nms_tick (r : Addr) (T : SR.Tbl) (u : List Bool) {i : Nat} {b : Bool} (h : u[i]? = some b) : nmsV (chgs false [svU false "x" r T (u.take i)] (same 1 b)) = nmAt (SR.trace T 0 u) i := by
  have hi := (List.getElem?_eq_some_iff.mp h).1
  have e1 := trace_getD T u 0 i (by omega)
  have e2 := trace_getD T u 0 (i + 1) (by omega)
  have e3 : SR.go T 0 (u.take (i + 1)) = SR.nxt T (SR.go T 0 (u.take i)) b := by rw [take_snoc h, go_snoc]
  rw [e3] at e2
  unfold nmAt
  rw [e1, e2]
  show nmsV (((if SR.stat T (SR.go T 0 (u.take i)) = SR.stat T (SR.nxt T (SR.go T 0 (u.take i)) b) then [] else [(("x" : Str), SR.stat T (SR.nxt T (SR.go T 0 (u.take i)) b))]) : List (Str × Bool)) ++ []) = _
  cases SR.stat T (SR.go T 0 (u.take i)) <;> cases SR.stat T (SR.nxt T (SR.go T 0 (u.take i)) b) <;> rfl
theorem chgs_nothing (tl : Bool) (s : Sv) : chgs tl [s] [none] = [] := by
  show ((if SR.stat s.T s.row = SR.stat s.T s.row then [] else _) : List (Str × Bool)) ++ [] = []
  rw [if_pos rfl]
  rfl
theorem chgK_len (n : Str) (bs : List Bool) (k : Nat) : (chgK n bs (k + 1)).length = (chgK n bs k).length + (if bs.getD (k + 1) false != bs.getD k false then 1 else 0) := by
  rw [chgK_succ]
  split
  · rw [List.length_append]
    rfl
  · rfl
theorem chgK_le (n : Str) (bs : List Bool) : ∀ k, (chgK n bs k).length ≤ k
  | 0 => Nat.le_refl _
  | k + 1 => by
    have := chgK_le n bs k
    rw [chgK_len]
    split <;> omega
/-- a tuple of what a tick told is not empty exactly if a status changed -/
theorem ne_nm {K : PySem.W.Frag} {H : Hp} {Q : VK} {t e : Addr} {bs : List Bool} {i : Nat} (ht : SqT K H t (nmAt bs i)) (he : SqT K H e []) (q : Q (.bl (bs.getD (i + 1) false != bs.getD i false)) H) : rNeD K (.ref t) (.ref e) H Q := by
  unfold nmAt at ht
  revert ht q
  generalize (bs.getD (i + 1) false != bs.getD i false) = c
  cases c with
  | false =>
    intro ht q
    exact ⟨.tuple [], .tuple [], .tup ht .nil, .tup he .nil, by decide, by decide, q⟩
  | true =>
    intro ht q
    exact ⟨.tuple [.str "x"], .tuple [], .tup ht (.cons (.str _) .nil), .tup he .nil, by decide +kernel, by decide, q⟩
theorem ne_empty {K : PySem.W.Frag} {H : Hp} {Q : VK} {t e : Addr} (ht : SqT K H t []) (he : SqT K H e []) (q : Q (.bl false) H) : rNeD K (.ref t) (.ref e) H Q :=
  ⟨.tuple [], .tuple [], .tup ht .nil, .tup he .nil, by decide, by decide, q⟩
theorem tally_shown : ∀ p : Nat, p < 16 → ∀ f : Nat, f < 16 → (PyData.tuple [.int (p : Nat), .int (f : Nat)]).shown.length ≤ 100 := by decide +kernel
theorem first_shown (b : Bool) : (PyData.list [.int 2, .str (stS b)]).shown.length ≤ 100 := by cases b <;> decide +kernel
theorem first_show (b : Bool) : (PyData.list [.int 2, .str (stS b)]).showable = true ∧ (PyData.list [.int 2, .str (stS b)]).hasDict = false ∧ (PyData.list [.int 2, .str (stS b)]).depth ≤ 20 := by cases b <;> exact ⟨by decide +kernel, by decide +kernel, by decide +kernel⟩
theorem tally_show : ∀ p : Nat, p < 16 → ∀ f : Nat, f < 16 → (PyData.tuple [.int (p : Nat), .int (f : Nat)]).showable = true ∧ (PyData.tuple [.int (p : Nat), .int (f : Nat)]).hasDict = false ∧ (PyData.tuple [.int (p : Nat), .int (f : Nat)]).depth ≤ 20 := by decide +kernel
theorem lone_row (r : Addr) (T : SR.Tbl) : ((ms1 r T).run false [[some true], [some false]]).svs = [svU false "x" r T [true, false]] := ms1_svs r T [true, false]
end SRD
/-! The law. -/
namespace SRD
open PySem PySem.Spec PyProof.Rows L2 SRT
/-- an instance is made: what stood before stays -/
theorem make_same {H H' : Hp} {x dx : Addr} {o : HO} (hx : H x = none) (hdx : H dx = none) (hne : dx ≠ x) (e : SameBut x (upd (upd H dx (.own x)) x o) H') : Same H H' := fun c u hc => by
  have n1 : c ≠ x := ne_of_none hc hx
  have n2 : c ≠ dx := ne_of_none hc hdx
  exact e _ _ n1 (by rw [upd_ne n1, upd_ne n2]; exact hc)
theorem make_new {H : Hp} {x dx : Addr} {o : HO} (hx : H x = none) (hdx : H dx = none) (hne : dx ≠ x) : Same H (upd (upd H dx (.own x)) x o) := (same_new hdx).trans (same_new (by rw [upd_ne hne.symm]; exact hx))
theorem RuleAt.pen {K : PySem.W.Frag} {H H' : Hp} {p a : Addr} {T : SR.Tbl} (h : RuleAt K H a T) (e : SameBut p H H') (hp : PenOk p H) : RuleAt K H' a T := by
  obtain ⟨dx, t, h1, xs, h2, h3⟩ := h
  obtain ⟨x, y, z, g, _⟩ := hp
  refine ⟨dx, t, e _ _ (fun q => ?_) h1, xs, seqT_but e g h2, h3.but e g⟩
  rw [q, g] at h1
  cases h1
theorem seqL_same {K : PySem.W.Frag} {H H' : Hp} {a : Addr} {xs : List V} (e : Same H H') (h : SqL K H a xs) : SqL K H' a xs := by
  rcases h with (h | ⟨o, h⟩) | h
  · exact .inl (.inl (e _ _ h))
  · exact .inl (.inr ⟨o, e _ _ h⟩)
  · exact .inr h
/-- changes at new places -/
theorem same_but2 {G H H' : Hp} {m pa : Addr} (e : Same G H) (n1 : G m = none) (n2 : G pa = none) (b : But2 m pa H H') : Same G H' := fun c o hc => b _ _ (ne_of_none hc n1) (ne_of_none hc n2) (e _ _ hc)
theorem same_but1 {G H H' : Hp} {p : Addr} (e : Same G H) (n1 : G p = none) (b : SameBut p H H') : Same G H' := fun c o hc => b _ _ (ne_of_none hc n1) (e _ _ hc)
theorem MonAt.but2 {K : PySem.W.Frag} {H H' : Hp} {m p C C' dx m' pa' : Addr} {fs : List (Str × V)} {l : List V} {S : Ms} {pn : Nat} (h : MonAt K H C' m' pa' S pn) (e : But2 m p H H') (hm : H m = some (.ins C dx fs)) (hC : C ≠ aRule K) (hp : H p = some (.lst l)) (n1 : m' ≠ m) (n3 : pa' ≠ p) : MonAt K H' C' m' pa' S pn := by
  obtain ⟨dx', hs, past, h1, h2, h3, h4⟩ := h
  refine ⟨dx', hs, past, e _ _ n1 (fun q => ?_) h1, e.house hm hC hp h2, e _ _ (fun q => ?_) n3 h3, h4⟩
  · rw [q, hp] at h1
    cases h1
  · rw [q, hm] at h3
    cases h3
theorem nameOk1 : NameOk "a" ∧ NameOk "b" ∧ NameOk "c" ∧ NameOk "x" := by
  refine ⟨?_, ?_, ?_, ?_⟩ <;> exact ⟨by decide +kernel, by decide +kernel, by decide +kernel⟩
theorem nameOk3 : ∀ z ∈ ([("a" : Str), "b", "c"] : List Str), NameOk z := fun z hz => by
  obtain ⟨h1, h2, h3, _⟩ := nameOk1
  rcases List.mem_cons.mp hz with rfl | hz
  · exact h1
  rcases List.mem_cons.mp hz with rfl | hz
  · exact h2
  rw [List.mem_singleton.mp hz]
  exact h3
/-- what the ticks of one monitor gave -/
def FoundAt (K : PySem.W.Frag) (H : Hp) (fs : List V) (bs : List Bool) (n : Nat) : Prop := fs.length = n ∧ ∀ j x, fs[j]? = some x → ∃ t, x = .ref t ∧ SqT K H t (nmAt bs j)
section
variable {K : PySem.W.Frag} {H H' : Hp} {fs : List V} {bs : List Bool} {n : Nat}
theorem FoundAt.nil : FoundAt K H [] bs 0 := ⟨rfl, fun j x h => by simp at h⟩
theorem FoundAt.mono (h : FoundAt K H fs bs n) (e : Same H H') : FoundAt K H' fs bs n := ⟨h.1, fun j x hx => (h.2 j x hx).imp fun t z => ⟨z.1, seqT e z.2⟩⟩
theorem FoundAt.but2 {m p C dx : Addr} {gs : List (Str × V)} {l : List V} (h : FoundAt K H fs bs n) (e : But2 m p H H') (hm : H m = some (.ins C dx gs)) (hp : H p = some (.lst l)) : FoundAt K H' fs bs n := ⟨h.1, fun j x hx => (h.2 j x hx).imp fun t z => ⟨z.1, e.seqT hm hp z.2⟩⟩
theorem FoundAt.butL {p : Addr} {l : List V} (h : FoundAt K H fs bs n) (e : SameBut p H H') (hp : H p = some (.lst l)) : FoundAt K H' fs bs n := ⟨h.1, fun j x hx => (h.2 j x hx).imp fun t z => ⟨z.1, seqT_but e hp z.2⟩⟩
theorem FoundAt.snoc {t : Addr} (h : FoundAt K H fs bs n) (ht : SqT K H t (nmAt bs n)) : FoundAt K H (fs ++ [.ref t]) bs (n + 1) := by
  refine ⟨by rw [List.length_append, h.1]; rfl, fun j x hx => ?_⟩
  by_cases hj : j < fs.length
  · rw [List.getElem?_append_left hj] at hx
    exact h.2 j x hx
  · rw [List.getElem?_append_right (by omega)] at hx
    have hz : j - fs.length = 0 := by
      cases hq : j - fs.length with
      | zero => rfl
      | succ k => rw [hq] at hx; simp at hx
    rw [hz] at hx
    have ej : j = n := by have := h.1; omega
    subst ej
    cases hx
    exact ⟨t, rfl, ht⟩
end
/-- both ways go on alike -/
theorem s_both {T : TT} {σ : L2.St} {H : Hp} {Q : Bool → Hp → Prop} (rest : ∀ H', Same H H' → Q false H') (walk : (∀ H', Same H H' → Q false H') → T σ H Q) : T σ H Q := walk rest
section
variable {w : World} {K : PySem.W.Frag} {mg : Str → Option Value} {base : Heap}
abbrev N_law : List Str := ["_law_script", "_law_k", "_law_pen_here", "_law_one", "_law_other", "_law_checks_here", "_law_both", "_law_monitor", "_law_wide", "_law_alone", "_law_lone", "_law_found", "_law_first", "_law_check", "_law_names"]
theorem sc_law : FnScope N_law ["_law_script"] (defScope s_law) := ⟨rfl, rfl, rfl, by decide +kernel, rfl, by decide +kernel, by decide +kernel⟩
def spLaw (K : PySem.W.Frag) : Sp := fun vs H Q _ => ∃ (a : Addr) (ns : List Int), vs = [.ref a] ∧ SqL K H a (ns.map V.int) ∧ ns.length ≤ 63 ∧ ∀ H', Q (.bl true) H'
theorem ok_law (T : Txt K mg) (D : MonC K (aMon K)) (D2 : MonC K (aMT K))
    (F_law_pen : FnR PP w K mg base CX0 1 (He.ga K "_law_pen") spPen) (F_law_cell_at : FnR PP w K mg base CX0 1 (He.ga K "_law_cell_at") (spCellAt K)) (F_Rule_init : FnR PP w K mg base CX0 5 (He.ma K (aRule K) "__init__") (spRuleInit K))
    (F_law_few : FnR PP w K mg base CX0 3 (He.ga K "_law_few") (spFew K)) (F_law_checks : FnR PP w K mg base CX0 2 (He.ga K "_law_checks") spChecks) (F_Rule_and : FnR PP w K mg base CX0 8 (He.ma K (aRule K) "__and__") (spRuleAnd K))
    (F_Monitor_init : FnR PP w K mg base CX0 4 (He.ma K (aMon K) "__init__") (spInit K (aMon K))) (F_MutingTallying_init : FnR PP w K mg base CX0 7 (He.ma K (aMT K) "__init__") (spInit K (aMT K)))
    (F_law_watched : FnR PP w K mg base CX0 8 (He.ga K "_law_watched") (spWatched K (aMon K) false)) (F2_law_watched : FnR PP w K mg base CX0 8 (He.ga K "_law_watched") (spWatched K (aMT K) true))
    (F_Rule_le : FnR PP w K mg base CX0 2 (He.ma K (aRule K) "__le__") (spRuleLe K)) (F_getitem : FnR PP w K mg base CX0 4 (He.ma K (aMon K) "__getitem__") (spGet K (aMon K)))
    (F_law_same : SRO.FnG PP w K mg base CX0 1 (He.ga K "_law_same") (spSame K)) (F2_tally : FnR PP w K mg base CX0 4 (He.ma K (He.ga K "Tallying") "tally") (spTally K (aMT K))) (M2_tally : Meth K (aMT K) "tally" (He.ma K (He.ga K "Tallying") "tally"))
    (F2_muted : FnR PP w K mg base CX0 1 (pg K (He.ga K "Muting") "muted") (spMuted K (aMT K))) (P2_muted : PropOf K (aMT K) "muted" (He.ma K (aMT K) "muted") (pg K (He.ga K "Muting") "muted"))
    (F_tick : FnR PP w K mg base CX0 7 (He.ma K (aMon K) "tick") (spTick K (aMon K) false)) (F_run : FnR PP w K mg base CX0 8 (He.ma K (aMon K) "run") (spRun K (aMon K) false)) (F_supposing : FnR PP w K mg base CX0 7 (He.ma K (aMon K) "supposing") (spSup K (aMon K) false))
    (F_Rule_call : FnR PP w K mg base CX0 3 (He.ma K (aRule K) "__call__") (spRuleCall K)) (F_law_changed : FnR PP w K mg base CX0 1 (He.ga K "_law_changed") (spChanged K)) :
    SRO.FnG PP w K mg base CX0 9 (He.ga K "law") (spLaw K) := by
  have CO : StX.CallO K (aRule K) (He.ma K (aRule K) "__call__") := ⟨(T.meth 78).at_, (T.meth 78).fn, T.x 14⟩
  refine defG (T.def_ 29 rfl) sc_law (fun _ _ _ _ _ _ us hl => match us, hl with | [_], _ => rfl) ?_ ?_
  · rintro vs H Q E ⟨a, ns, rfl, _⟩
    rfl
  rintro cdv A outer s0 H vs Q E GD hr ⟨a, ns, rfl, hsc, hns, q⟩
  refine ⟨_, (pss_cons (ps_for PassesOwn.never rfl (pi_range1 (by rfl) (T.free 46) (pa_cons (pe_callB (call_max2 rfl) (by rfl) (T.free 49) boot_max (pa_cons pe_int (pa_cons (pe_callB (call_min2 rfl) (by rfl) (T.free 50) boot_min (pa_cons (pe_callB (klen (K := K)) (by rfl) (T.free 42) boot_len (pa_cons (pv 0) pa_nil)) (pa_cons pe_int pa_nil))) pa_nil))) pa_nil)) (pg_name (i := 1) sc_law.nd rfl (Or.inl rfl)) (pss_cons (ps_set (i := 2) sc_law.nd rfl (Or.inl rfl) (SRO.pe_callR F_law_pen (hr.mono (by decide)) (by rfl) (T.glo 19) (T.keep 127) pass0 (pa_cons (SRO.pe_callR F_law_cell_at (hr.mono (by decide)) (by rfl) (T.glo 18) (T.keep 126) pass0 (pa_cons (pv 0) (pa_cons (pv 1) pa_nil))) pa_nil)))
      (pss_cons (ps_par (i := 3) (j := 4) rfl sc_law.nd rfl rfl (by decide) rfl rfl (pa_cons (StX.pe_makeR (T.mkr 66) F_Rule_init (hr.mono (by decide)) (by rfl) (T.glo 30) pass0 (pa_cons (SRO.pe_callR F_law_few (hr.mono (by decide)) (by rfl) (T.glo 24) (T.keep 132) pass0 (pa_cons (pv 2) pa_nil)) pa_nil)) (pa_cons (StX.pe_makeR (T.mkr 66) F_Rule_init (hr.mono (by decide)) (by rfl) (T.glo 30) pass0 (pa_cons (SRO.pe_callR F_law_few (hr.mono (by decide)) (by rfl) (T.glo 24) (T.keep 132) pass0 (pa_cons (pv 2) pa_nil)) pa_nil)) pa_nil)) rfl)
      (pss_cons (ps_set (i := 5) sc_law.nd rfl (Or.inl rfl) (SRO.pe_callR F_law_checks (hr.mono (by decide)) (by rfl) (T.glo 25) (T.keep 133) pass0 (pa_cons (pv 2) (pa_cons pe_int pa_nil))))
      (pss_cons (ps_set (i := 6) sc_law.nd rfl (Or.inl rfl) (pe_op (SRO.op_binR (op := .BitAnd) (T.x 10) (T.meth 80).at_ (T.meth 80).fn F_Rule_and (hr.mono (by decide)) pass0) (pv 3) (pv 4)))
      (pss_cons (ps_par (i := 7) (j := 8) rfl sc_law.nd rfl rfl (by decide) rfl rfl (pa_cons (StX.pe_makeR (T.mkr 68) F_Monitor_init (hr.mono (by decide)) (by rfl) (T.glo 32) pass0 (pa_cons (pv 6) (pa_cons pe_str (pa_cons pe_str (pa_cons pe_str pa_nil))))) (pa_cons (StX.pe_makeR (T.mkr 69) F_MutingTallying_init (hr.mono (by decide)) (by rfl) (T.glo 35) pass0 (pa_cons (pv 6) (pa_cons pe_str (pa_cons pe_str (pa_cons pe_str pa_nil))))) pa_nil)) rfl)
      (pss_cons (ps_if ((pw_or (pt_not (pt_val (SRO.pe_callR F_law_watched (hr.mono (by decide)) (by rfl) (T.glo 28) (T.keep 136) pass0 (pa_cons (pv 7) (pa_cons (pe_tup (pa_cons (pv 6) (pa_cons (pv 3) (pa_cons (pv 4) pa_nil)))) (pa_cons (pv 5) pa_nil)))))) (pw_or1 (pt_not (pt_val (SRO.pe_callR F2_law_watched (hr.mono (by decide)) (by rfl) (T.glo 28) (T.keep 136) pass0 (pa_cons (pv 8) (pa_cons (pe_tup (pa_cons (pv 6) (pa_cons (pv 3) (pa_cons (pv 4) pa_nil)))) (pa_cons (pv 5) pa_nil))))))))).pt (pss_one (ps_ret pe_bl)) pss_nil)
      (pss_cons (ps_if ((pw_or (pt_not (pt_cmpR (SRO.op_cmpR (fun _ _ => rfl) (T.x 11) (T.meth 79).at_ (T.meth 79).fn F_Rule_le (hr.mono (by decide)) pass0) (pv 6) (pv 3) (nomark _))) (pw_or1 ((pw_and (pt_cmpR op_eq (SRO.pe_getR (pv 7) pe_str D.g_find D.g_fn D.g_fi F_getitem (hr.mono (by decide)) pass0) pe_str (nomark _)) (pw_and1 ((pw_or (pt_cmpR op_eq (SRO.pe_getR (pv 7) pe_str D.g_find D.g_fn D.g_fi F_getitem (hr.mono (by decide)) pass0) pe_str (nomark _)) (pw_or1 (pt_cmpR op_eq (SRO.pe_getR (pv 7) pe_str D.g_find D.g_fn D.g_fi F_getitem (hr.mono (by decide)) pass0) pe_str (nomark _))))).pt))).pt))).pt (pss_one (ps_ret pe_bl)) pss_nil)
      (pss_cons (ps_if ((pw_or (pt_not (pt_val (SRO.pe_callG GD F_law_same (hr.mono (by decide)) (by rfl) (T.glo 26) (T.keep 134) pass0 (pa_cons (SRO.pe_methR (pv 8) D2.cl M2_tally F2_tally (hr.mono (by decide)) pass0 (pa_cons pe_str pa_nil)) (pa_cons (pe_tup (pa_cons (kbm (K := K) PySem.F.plainAttrs_str PySem.F.slot_str_count PySem.F.type_str_count mt_count (pv 5) (pa_cons pe_str pa_nil)) (pa_cons (kbm (K := K) PySem.F.plainAttrs_str PySem.F.slot_str_count PySem.F.type_str_count mt_count (pv 5) (pa_cons pe_str pa_nil)) pa_nil))) pa_nil))))) (pw_or1 (pt_cmpR (kneD (K := K) (hr.mono (Nat.zero_le _)).units) (SRO.pe_propR (pv 8) D2.cl P2_muted F2_muted (hr.mono (by decide)) pass0) (pe_tup pa_nil) (nomark _))))).pt (pss_one (ps_ret pe_bl)) pss_nil)
      (pss_cons (ps_asg (pe_tup (pa_cons (StX.pe_makeR (T.mkr 68) F_Monitor_init (hr.mono (by decide)) (by rfl) (T.glo 32) pass0 (pa_cons (pv 3) (pa_cons pe_str pa_nil))) (pa_cons (StX.pe_makeR (T.mkr 68) F_Monitor_init (hr.mono (by decide)) (by rfl) (T.glo 32) pass0 (pa_cons (pv 3) (pa_cons pe_str pa_nil))) pa_nil))) (kg_tup (K := K) (n := 2) rfl (pgs_cons (pg_name (i := 9) sc_law.nd rfl (Or.inr rfl)) (pgs_cons (pg_name (i := 10) sc_law.nd rfl (Or.inl rfl)) pgs_nil))))
      (pss_cons (ps_setLc (i := 11) rfl sc_law.nd rfl rfl (sw_true rfl rfl rfl (by decide +kernel)) (pi_str (pv 5)) (blkOk_by (own := [("_law_check", 13)]) (N := N_law) (sc := defScope s_law) (by decide +kernel)) (fun _ _ _ _ _ => (pg_name (i := 13) sc_law.nd rfl (Or.inl rfl))) (fun _ _ _ _ _ => pts_nil) (fun _ _ _ _ _ => (SRO.pe_methR (pv 9) D.cl D.m_tick F_tick (hr.mono (by decide)) pass0 (pa_cons (pv 13) pa_nil))))
      (pss_cons (ps_set (i := 12) sc_law.nd rfl (Or.inl rfl) (SRO.pe_methR (pv 10) D.cl D.m_run F_run (hr.mono (by decide)) pass0 (pa_cons (pe_tup (pa_cons pe_str pa_nil)) (pa_cons (pe_tup (pa_cons pe_str pa_nil)) pa_nil))))
      (pss_cons (ps_if (pt_not (pt_val (SRO.pe_callG GD F_law_same (hr.mono (by decide)) (by rfl) (T.glo 26) (T.keep 134) pass0 (pa_cons (pe_lst (pa_cons (pe_callB (klen (K := K)) (by rfl) (T.free 42) boot_len (pa_cons (pv 12) pa_nil)) (pa_cons (SRO.pe_getR (pv 10) pe_str D.g_find D.g_fn D.g_fi F_getitem (hr.mono (by decide)) pass0) pa_nil))) (pa_cons (pe_lst (pa_cons pe_int (pa_cons (pe_ix ix_str (SRO.pe_callN (pv 3) CO F_Rule_call (hr.mono (by decide)) pass0 (pa_cons pe_str pa_nil)) (pe_un un_neg pe_int) (fun _ _ => rfl)) pa_nil))) pa_nil))))) (pss_one (ps_ret pe_bl)) pss_nil)
      (pss_cons (ps_if ((pw_or (pt_cmpR op_ne (pe_callB (klen (K := K)) (by rfl) (T.free 42) boot_len (pa_cons (pv 11) pa_nil)) (pe_callB call_len_str (by rfl) (T.free 42) boot_len (pa_cons (pv 5) pa_nil)) (nomark _)) (pw_or (pt_cmpR op_ne (SRO.pe_getR (pv 9) pe_str D.g_find D.g_fn D.g_fi F_getitem (hr.mono (by decide)) pass0) (pe_ix ix_str (SRO.pe_callN (pv 3) CO F_Rule_call (hr.mono (by decide)) pass0 (pa_cons (pv 5) pa_nil)) (pe_un un_neg pe_int) (fun _ _ => rfl)) (nomark _)) (pw_or1 (pt_cmpR (kneD (K := K) (hr.mono (Nat.zero_le _)).units) (SRO.pe_methR (pv 10) D.cl D.m_supposing F_supposing (hr.mono (by decide)) pass0 (pa_cons pe_str pa_nil)) (pe_tup pa_nil) (nomark _)))))).pt (pss_one (ps_ret pe_bl)) pss_nil)
      (pss_one (ps_if (pt_cmpR op_ne (pe_callB (klen (K := K)) (by rfl) (T.free 42) boot_len (pa_cons (pe_lc rfl sc_law.nd (kpi_list (K := K) (pv 11)) (blkOk_by (own := [("_law_names", 14)]) (N := N_law) (sc := defScope s_law) (by decide +kernel)) (fun _ _ _ _ _ => (pg_name (i := 14) sc_law.nd rfl (Or.inl rfl))) (fun _ _ _ _ _ => pts_one (pt_cmpR (kneD (K := K) (hr.mono (Nat.zero_le _)).units) (pv 14) (pe_tup pa_nil) (nomark _))) (fun _ _ _ _ _ => pe_int)) pa_nil)) (pe_callB (klen (K := K)) (by rfl) (T.free 42) boot_len (pa_cons (SRO.pe_callR F_law_changed (hr.mono (by decide)) (by rfl) (T.glo 27) (T.keep 135) pass0 (pa_cons pe_str (pa_cons (SRO.pe_callN (pv 3) CO F_Rule_call (hr.mono (by decide)) pass0 (pa_cons (pv 5) pa_nil)) pa_nil))) pa_nil)) (nomark _)) (pss_one (ps_ret pe_bl)) pss_nil))))))))))))))))
      (pss_one (ps_ret pe_bl))), ?_⟩
  ac_rfl
  refine ⟨a, _, rfl, .inl hsc, ?_⟩
  ac_rfl
  refine for_rng0 (n := Int.toNat _) (Int.toNat_of_nonneg (by omega)).symm (fun i σ H' => ∃ v1 v2 v3 v4 v5 v6 v7 v8 v9 v10 v11 v12 v13 v14, σ = [some (.ref a), v1, v2, v3, v4, v5, v6, v7, v8, v9, v10, v11, v12, v13, v14] ∧ Same H H')
    ⟨_, _, _, _, _, _, _, _, _, _, _, _, _, _, rfl, Same.refl H⟩ ?_ ?_
  rotate_left
  · rintro σ H1 ⟨v1, v2, v3, v4, v5, v6, v7, v8, v9, v10, v11, v12, v13, v14, rfl, e1⟩
    ac_rfl
    exact q H1
  rintro k σ H1 hk ⟨v1, v2, v3, v4, v5, v6, v7, v8, v9, v10, v11, v12, v13, v14, rfl, e01⟩
  have hsc1 := seqL_same e01 hsc
  ac_rfl
  refine ⟨a, ns, k, rfl, hsc1, fun c => ?_⟩
  ac_rfl
  refine ⟨c, rfl, fun p H2 e2 hp2 hpn => ?_⟩
  ac_rfl
  refine ⟨p, rfl, hp2, fun t1 A1 H3 e3 hp3 ht1 hvA1 hlA1 => ?_⟩
  ac_rfl
  intro r1 dx1 hr1 hdx1 hne1
  have eM1 := make_new (o := .ins (aRule K) dx1 []) hr1 hdx1 hne1
  refine ⟨r1, dx1, t1, A1, rfl, upd_same, ht1.mono eM1, hvA1, by omega, fun T1 H4 e4 hR1 v1' l1 b1 => ⟨rfl, ?_⟩⟩
  have e34 := make_same hr1 hdx1 hne1 e4
  have hp4 := hp3.same e34
  ac_rfl
  refine ⟨p, rfl, hp4, fun t2 A2 H5 e5 hp5 ht2 hvA2 hlA2 => ?_⟩
  have hR15 := hR1.pen e5 hp4
  ac_rfl
  intro r2 dx2 hr2 hdx2 hne2
  have eM2 := make_new (o := .ins (aRule K) dx2 []) hr2 hdx2 hne2
  refine ⟨r2, dx2, t2, A2, rfl, upd_same, ht2.mono eM2, hvA2, by omega, fun T2 H6 e6 hR2 v2' l2 b2 => ⟨rfl, ?_⟩⟩
  have e56 := make_same hr2 hdx2 hne2 e6
  have hp6 := hp5.same e56
  have hR16 := hR15.mono e56
  ac_rfl
  refine ⟨p, 14, rfl, hp6, by decide, fun u H7 e7 hp7 hul => ?_⟩
  have hR17 := hR16.pen e7 hp6
  have hR27 := hR2.pen e7 hp6
  have e17 : Same H1 H7 := same_but1 ((same_but1 e2 hpn e3).trans e34 |> fun z => (same_but1 z hpn e5).trans e56) hpn e7
  have e07 := e01.trans e17
  clear e7 hp7 hR16 hR15 hp6 e56 hR2 e6 eM2 hne2 hdx2 hr2 e5 hp5 ht2 hp4 e34 e4 hR1 eM1 hne1 hdx1 hr1 e3 hp3 ht1 e2 hp2 hpn e17 b1 b2 hsc1 e01 hvA1 hvA2
  ac_rfl
  obtain ⟨da, ta, ha, _⟩ := id hR17
  obtain ⟨db, tb, hb, _⟩ := id hR27
  refine ⟨r1, da, _, r2, db, _, rfl, rfl, ha, hb, ?_⟩
  refine ⟨r1, r2, T1, T2, rfl, hR17, hR27, v1', v2', by omega, by omega, fun r0 T0 H8 e8 hR0 v0 l0 b0 hn0 => ?_⟩
  have hR1 := hR17.mono e8
  have hR2 := hR27.mono e8
  have e08 := e07.trans e8
  clear hR17 hR27 e8 e07 ha hb
  ac_rfl
  intro m dm hm hdm hnm
  have eM1 := make_new (o := .ins (aMon K) dm []) hm hdm hnm
  refine ⟨m, r0, ["a", "b", "c"], rfl, dm, T0, upd_same, hR0.mono eM1, v0, by decide, by decide, by decide +kernel, nameOk3, fun pa H9 e9 hM9 hpa => ⟨rfl, ?_⟩⟩
  have e89 := make_same hm hdm hnm e9
  have hpa8 := Same.free eM1 hpa
  have hM9 : MonAt K H9 (aMon K) m pa (ms3 r0 r0 r0 T0 T0 T0) 0 := hM9
  obtain ⟨dx9, hs9, past9, hm9, _, hp9, _⟩ := id hM9
  ac_rfl
  intro m2 dm2 hm2 hdm2 hnm2
  have eM2 := make_new (o := .ins (aMT K) dm2 []) hm2 hdm2 hnm2
  have nm : m2 ≠ m := (ne_of_none hm9 hm2).symm
  refine ⟨m2, r0, ["a", "b", "c"], rfl, dm2, T0, upd_same, (hR0.mono e89).mono eM2, v0, by decide, by decide, by decide +kernel, nameOk3, fun pa2 H10 e10 hM210 hpa2 => ⟨rfl, ?_⟩⟩
  have hpa29 := Same.free eM2 hpa2
  have np : pa2 ≠ pa := (ne_of_none hp9 hpa29).symm
  have e910 := make_same hm2 hdm2 hnm2 e10
  have e810 := e89.trans e910
  have hm28 := Same.free e89 hm2
  have hpa28 := Same.free e89 hpa29
  have hM10 := hM9.mono e910
  have hM210 : MonAt K H10 (aMT K) m2 pa2 (ms3 r0 r0 r0 T0 T0 T0) 0 := hM210
  clear eM1 e9 hpa hdm hnm eM2 hm2 hdm2 hnm2 e10 hpa2 hpa29 hM9 hm9 hp9
  ac_rfl
  intro rt hrt
  have eT := same_new (o := .tup [.ref r0, .ref r1, .ref r2]) hrt
  ac_rfl
  refine ⟨m, pa, rt, r0, r1, r2, T0, T1, T2, u, rfl, by omega, hM10.mono eT, SqT.of upd_same, (hR0.mono e810).mono eT, (hR1.mono e810).mono eT, (hR2.mono e810).mono eT, v0, v1', v2', fun H12 b12 hM12 => ?_⟩
  have e812 := same_but2 (e810.trans eT) hm hpa8 b12
  obtain ⟨dx11, hs11, past11, hm11, _, hp11, _⟩ := id (hM10.mono eT)
  have hM212 := (hM210.mono eT).but2 b12 hm11 D.nr hp11 nm np
  clear hM10 hM210 eT hrt b12 hm11 hp11
  ac_rfl
  intro rt2 hrt2
  have eT := same_new (o := .tup [.ref r0, .ref r1, .ref r2]) hrt2
  ac_rfl
  refine ⟨m2, pa2, rt2, r0, r1, r2, T0, T1, T2, u, rfl, by omega, hM212.mono eT, SqT.of upd_same, (hR0.mono e812).mono eT, (hR1.mono e812).mono eT, (hR2.mono e812).mono eT, v0, v1', v2', fun H14 b14 hM214 => ?_⟩
  have e814 := same_but2 (e812.trans eT) hm28 hpa28 b14
  obtain ⟨dx13, hs13, past13, hm13, _, hp13, _⟩ := id (hM212.mono eT)
  have hM14 := (hM12.mono eT).but2 b14 hm13 D2.nr hp13 nm.symm np.symm
  clear hM12 hM212 eT hrt2 b14 hm13 hp13
  ac_rfl
  obtain ⟨d0, tb0, h0, _⟩ := id (hR0.mono e814)
  obtain ⟨d1, tb1, h1, _⟩ := id (hR1.mono e814)
  refine ⟨r0, d0, _, r1, d1, _, rfl, rfl, h0, h1, ?_⟩
  refine ⟨r0, r1, T0, T1, rfl, hR0.mono e814, hR1.mono e814, v0, v1', by omega, by omega, fun z hz => ?_, fun H15 e15 => ?_⟩
  · rw [b0] at hz
    exact (Bool.and_eq_true_iff.mp hz).1
  have hbeh := b0 u
  have hM15 := hM14.mono e15
  have hM215 := hM214.mono e15
  have e815 := e814.trans e15
  have hsv := ms3_svs false r0 r1 r2 T0 T1 T2 u
  have hlens := ms3_lens false r0 r1 r2 T0 T1 T2 u
  have hsv2 := ms3_svs true r0 r1 r2 T0 T1 T2 u
  have hlens2 := ms3_lens true r0 r1 r2 T0 T1 T2 u
  revert hM15 hM215 hsv hlens hsv2 hlens2
  generalize (ms3 r0 r1 r2 T0 T1 T2).run false (u.map (same 3)) = S1
  generalize (ms3 r0 r1 r2 T0 T1 T2).run true (u.map (same 3)) = S2
  intro hM15 hM215 hsv hlens hsv2 hlens2
  clear hM14 hM214 e812 e814 e15 h0 h1
  obtain ⟨dx15, hs15, past15, hm15, _, _, _⟩ := id hM15
  obtain ⟨dx215, hs215, past215, hm215, _, _, _⟩ := id hM215
  refine ⟨true, rfl, s_iteNT ?_⟩
  refine s_both (T := tAnd _ _) ?_ ?_
  rotate_left
  · intro rest
    ac_rfl
    refine s_getR ?_
    ac_rfl
    refine ⟨m, pa, S1, _, svU false "a" r0 T0 u, 0, rfl, hM15, by omega, by rw [hsv]; rfl, fun i hi => by omega, fun H16 e16 => ?_⟩
    have hM16 := hM15.mono e16
    obtain ⟨dx16, hs16, past16, hm16, _, _, _⟩ := id hM16
    ac_rfl
    by_cases hup : SR.stat T0 (SR.go T0 0 u) = true
    · have hbeh2 : (SR.beh T1 0 u && SR.beh T2 0 u) = true := hbeh.symm.trans hup
      obtain ⟨hu1, hu2⟩ := Bool.and_eq_true_iff.mp hbeh2
      refine s_iteT' (by show decide (V.str (stS (SR.stat T0 (SR.go T0 0 u))) = V.str "U") = true; rw [hup]; decide +kernel) ?_
      ac_rfl
      refine s_getR ?_
      ac_rfl
      refine ⟨m, pa, S1, _, svU false "b" r1 T1 u, 1, rfl, hM16, by omega, by rw [hsv]; rfl, fun i hi => ?_, fun H17 e17 => ?_⟩
      · obtain rfl : i = 0 := by omega
        rw [hsv]
        show some ("a" : Str) ≠ some ("b" : Str)
        decide +kernel
      have hM17 := hM16.mono e17
      obtain ⟨dx17, hs17, past17, hm17, _, _, _⟩ := id hM17
      ac_rfl
      refine s_iteF' (by show decide (V.str (stS (SR.stat T1 (SR.go T1 0 u))) = V.str "D") = false; rw [show SR.stat T1 (SR.go T1 0 u) = true from hu1]; decide +kernel) ?_
      ac_rfl
      refine s_getR ?_
      ac_rfl
      refine ⟨m, pa, S1, _, svU false "c" r2 T2 u, 2, rfl, hM17, by omega, by rw [hsv]; rfl, fun i hi => ?_, fun H18 e18 => ?_⟩
      · have h01 : i = 0 ∨ i = 1 := by omega
        rcases h01 with rfl | rfl
        · rw [hsv]
          show some ("a" : Str) ≠ some ("c" : Str)
          decide +kernel
        · rw [hsv]
          show some ("b" : Str) ≠ some ("c" : Str)
          decide +kernel
      ac_rfl
      refine s_iteF' (by show decide (V.str (stS (SR.stat T2 (SR.go T2 0 u))) = V.str "D") = false; rw [show SR.stat T2 (SR.go T2 0 u) = true from hu2]; decide +kernel) ?_
      exact rest H18 ((e16.trans e17).trans e18)
    · have hup : SR.stat T0 (SR.go T0 0 u) = false := by simpa using hup
      refine s_iteF' (by show decide (V.str (stS (SR.stat T0 (SR.go T0 0 u))) = V.str "U") = false; rw [hup]; decide +kernel) ?_
      exact rest H16 e16
  intro H16 e16
  have hM216 := hM215.mono e16
  have e816 := e815.trans e16
  clear hM15 hM215 hm15 hm215
  obtain ⟨dx216, hs216, past216, hm216, _, _, _⟩ := id hM216
  ac_rfl
  refine ⟨m2, pa2, S2, _, svU true "b" r1 T1 u, 1, rfl, hM216, by omega, by rw [hsv2]; rfl, fun i hi => ?_, fun tt H17 e17 htt => ?_⟩
  · obtain rfl : i = 0 := by omega
    rw [hsv2]
    show some ("a" : Str) ≠ some ("b" : Str)
    decide +kernel
  have hM217 := hM216.mono e17
  have e817 := e816.trans e17
  obtain ⟨dx217, hs217, past217, hm217, _, _, _⟩ := id hM217
  have htt : H17 tt = some (.tup [.int ((u.count true : Nat) : Int), .int ((u.count false : Nat) : Int)]) := by
    rw [htt]
    show some (HO.tup [.int ((0 + u.count true : Nat) : Int), .int ((0 + u.count false : Nat) : Int)]) = _
    rw [Nat.zero_add, Nat.zero_add]
  clear hM216 hm216 e816
  ac_rfl
  have ec1 : Txt.count (ckS u) ("+" : Str) = ((u.count true : Nat) : Int) := by
    rw [show ("+" : Str) = ⟨#[ckC true]⟩ by decide +kernel]
    exact count_ck true u
  have ec2 : Txt.count (ckS u) ("-" : Str) = ((u.count false : Nat) : Int) := by
    rw [show ("-" : Str) = ⟨#[ckC false]⟩ by decide +kernel]
    exact count_ck false u
  refine ⟨rfl, ?_⟩
  ac_rfl
  refine ⟨_, _, rfl, rfl, ?_⟩
  rw [ec1]
  ac_rfl
  refine ⟨rfl, ?_⟩
  ac_rfl
  refine ⟨_, _, rfl, rfl, ?_⟩
  rw [ec2]
  ac_rfl
  intro tq htq
  have eq := same_new (o := .tup [.int ((u.count true : Nat) : Int), .int ((u.count false : Nat) : Int)]) htq
  have cl1 : u.count true < 16 := by have := List.count_le_length (a := true) (l := u); omega
  have cl2 : u.count false < 16 := by have := List.count_le_length (a := false) (l := u); omega
  obtain ⟨sh1, sh2, sh3⟩ := tally_show _ cl1 _ cl2
  ac_rfl
  refine ⟨tt, tq, .tuple [.int ((u.count true : Nat) : Int), .int ((u.count false : Nat) : Int)], rfl, .tup (SqT.of (eq _ _ htt)) (.cons (.int _) (.cons (.int _) .nil)), .tup (SqT.of upd_same) (.cons (.int _) (.cons (.int _) .nil)), sh1, sh2, sh3,
    Nat.le_of_lt (small1000 (Nat.le_trans (tally_shown _ cl1 _ cl2) (by decide))), ?_⟩
  have hM218 := hM217.mono eq
  have e818 := e817.trans eq
  obtain ⟨dx218, hs218, past218, hm218, _, _, _⟩ := id hM218
  clear hM217 hm217 e817 htt sh1 sh2 sh3
  ac_rfl
  refine ⟨m2, pa2, S2, _, rfl, hM218, fun tm H19 e19 htm => ?_⟩
  ac_rfl
  intro te hte
  have e8a := (e818.trans e19).trans (same_new (o := .tup []) hte)
  refine ne_empty (SqT.of (same_new (o := .tup []) hte _ _ htm)) (SqT.of upd_same) ?_
  revert e8a
  clear eq
  generalize upd H19 te (.tup []) = H20
  intro e8a
  clear hM218 hm218 e818 hsv hsv2 hlens hlens2 nm np hm hpa8 hm28 hpa28
  have hR1a := hR1.mono e8a
  ac_rfl
  intro al dal hal hdal hnal
  have eA := make_new (o := .ins (aMon K) dal []) hal hdal hnal
  have ndx : ([("x" : Str)] : List Str).Nodup := by decide +kernel
  have nox : ∀ z ∈ ([("x" : Str)] : List Str), NameOk z := fun z hz => by rw [List.mem_singleton.mp hz]; exact nameOk1.2.2.2
  refine ⟨al, r1, ["x"], rfl, dal, T1, upd_same, hR1a.mono eA, v1', by decide, by decide, ndx, nox, fun pal H21 e21 hM21 hpal => ⟨rfl, ?_⟩⟩
  have e2021 := make_same hal hdal hnal e21
  have hpal20 := Same.free eA hpal
  have hM21 : MonAt K H21 (aMon K) al pal (ms1 r1 T1) 0 := hM21
  obtain ⟨dx21, hs21, past21, hm21, _, hp21, _⟩ := id hM21
  ac_rfl
  intro lo dlo hlo hdlo hnlo
  have eB := make_new (o := .ins (aMon K) dlo []) hlo hdlo hnlo
  have nal : lo ≠ al := (ne_of_none hm21 hlo).symm
  refine ⟨lo, r1, ["x"], rfl, dlo, T1, upd_same, (hR1a.mono e2021).mono eB, v1', by decide, by decide, ndx, nox, fun plo H22 e22 hMl22 hplo => ⟨rfl, ?_⟩⟩
  have hplo21 := Same.free eB hplo
  have npl : plo ≠ pal := (ne_of_none hp21 hplo21).symm
  have e2122 := make_same hlo hdlo hnlo e22
  have e2022 := e2021.trans e2122
  have hlo20 := Same.free e2021 hlo
  have hplo20 := Same.free e2021 hplo21
  have hM22 := hM21.mono e2122
  have hMl22 : MonAt K H22 (aMon K) lo plo (ms1 r1 T1) 0 := hMl22
  clear eA e21 hpal hM21 hm21 hp21 eB hlo hdlo hnlo hdal hnal e22 hplo hplo21
  ac_rfl
  intro tp htp
  have eT := same_new (o := .tup [.ref al, .ref lo]) htp
  have htp2 : (upd H22 tp (.tup [.ref al, .ref lo])) tp = some (.tup [.ref al, .ref lo]) := upd_same
  have hM23 := hM22.mono eT
  have hMl23 := hMl22.mono eT
  have e2023 := e2022.trans eT
  revert hM23 hMl23 e2023 htp2
  clear eT
  generalize upd H22 tp (.tup [.ref al, .ref lo]) = H23
  intro htp2 hM23 hMl23 e2023
  clear hM22 hMl22 e2022 e2021 e2122
  have e8b := e8a.trans e2023
  obtain ⟨dx23, hs23, past23, hm23, _, hp23, _⟩ := id hM23
  obtain ⟨dxl, hsl, pastl, hml23, _, hpl23, _⟩ := id hMl23
  ac_rfl
  intro D1 hD1
  have nDal : D1 ≠ al := (ne_of_none hm23 hD1).symm
  have nDpal : D1 ≠ pal := (ne_of_none hp23 hD1).symm
  have nDlo : D1 ≠ lo := (ne_of_none hml23 hD1).symm
  have nDplo : D1 ≠ plo := (ne_of_none hpl23 hD1).symm
  have hD120 := Same.free e2023 hD1
  refine lc_str (fun i H' => Same H20 H' ∧ MonAt K H' (aMon K) al pal ((ms1 r1 T1).run false ((u.take i).map (same 1))) i ∧ MonAt K H' (aMon K) lo plo (ms1 r1 T1) 0 ∧ ∃ fs, H' D1 = some (.lst fs) ∧ FoundAt K H' fs (SR.trace T1 0 u) i)
    ⟨e2023.trans (same_new hD1), hM23.mono (same_new hD1), hMl23.mono (same_new hD1), [], upd_same, FoundAt.nil⟩ ?_ ?_
  · rintro i c H24 hi ⟨e24, hM24, hMl24, fs, hf24, hF24⟩
    rw [ckS_list, List.getElem?_map] at hi
    obtain ⟨b, hb, rfl⟩ : ∃ b, u[i]? = some b ∧ ckC b = c := by
      cases hq : u[i]? with
      | none => rw [hq] at hi; cases hi
      | some b => rw [hq] at hi; cases hi; exact ⟨b, rfl, rfl⟩
    have hil := (List.getElem?_eq_some_iff.mp hb).1
    have hsvs := ms1_svs r1 T1 (u.take i)
    have hlg := ms1_lens r1 T1 (u.take i)
    rw [List.length_take] at hlg
    have hnm := nms_tick r1 T1 u hb
    obtain ⟨dx24, hs24, past24, hm24, _, hp24, _⟩ := id hM24
    ac_rfl
    refine ⟨al, pal, _, i, same 1 b, rfl, hM24, by rw [hsvs]; rfl, by rw [hsvs]; exact Nat.le_of_ble_eq_true rfl, by omega, by omega, fun t H25 b25 hM25 ht25 => ?_⟩
    have hf25 := b25 _ _ nDal nDpal hf24
    have e25 := same_but2 e24 hal hpal20 b25
    have hMl25 := hMl24.but2 b25 hm24 D.nr hp24 nal npl
    have hF25 := hF24.but2 b25 hm24 hp24
    have hfl : fs.length ≤ 14 := by rw [hF24.1]; omega
    rw [hsvs, hnm] at ht25
    refine ⟨fs, hf25, Nat.lt_of_le_of_lt hfl (by rw [sizeLine_eq]; omega), same_but1 e25 hD120 (SameBut.upd _ _ _), ?_, hMl25.butL (SameBut.upd _ _ _) hf25 nDlo nDplo, _, upd_same, ?_⟩
    · rw [take_snoc hb, List.map_append]
      show MonAt K _ (aMon K) al pal (Ms.run false _ (List.map (same 1) (List.take i u) ++ [same 1 b])) _
      rw [run_snoc]
      exact hM25.butL (SameBut.upd _ _ _) hf25 nDal nDpal
    · refine (hF25.butL (SameBut.upd _ _ _) hf25).snoc (SqT.of ?_)
      rw [upd_ne (ne_of ht25 hf25 (by intro z; cases z))]
      exact ht25
  rintro H24 ⟨e24, hM24, hMl24, fs, hf24, hF24⟩
  rw [ckS_list, List.length_map] at hM24 hF24
  rw [List.take_length] at hM24
  clear hM23 hMl23 e2023 htp2 hm23 hp23 hml23 hpl23 hD1
  obtain ⟨dxl24, hsl24, pastl24, hml24, _, _, _⟩ := id hMl24
  ac_rfl
  intro ta hta
  have eX := same_new (o := .tup [.str ("+" : Str)]) hta
  ac_rfl
  intro tb htb
  have eY := same_new (o := .tup [.str ("-" : Str)]) htb
  have eXY := eX.trans eY
  have hta2 : SqT K (upd (upd H24 ta (.tup [.str ("+" : Str)])) tb (.tup [.str ("-" : Str)])) ta [.str ("+" : Str)] := SqT.of (eY _ _ upd_same)
  have htb2 : SqT K (upd (upd H24 ta (.tup [.str ("+" : Str)])) tb (.tup [.str ("-" : Str)])) tb [.str ("-" : Str)] := SqT.of upd_same
  ac_rfl
  revert eXY hta2 htb2
  clear eX eY hta htb
  generalize upd (upd H24 ta (.tup [.str ("+" : Str)])) tb (.tup [.str ("-" : Str)]) = H26
  intro eXY hta2 htb2
  rw [show ("+" : Str) = ⟨#[ckC true]⟩ by decide +kernel] at hta2
  rw [show ("-" : Str) = ⟨#[ckC false]⟩ by decide +kernel] at htb2
  have hMl26 := hMl24.mono eXY
  obtain ⟨dxl26, hsl26, pastl26, hml26, _, hpl26, _⟩ := id hMl26
  refine ⟨lo, plo, ms1 r1 T1, 0, [(ta, [some true]), (tb, [some false])], rfl, hMl26, fun r hr => ?_, Nat.le_of_ble_eq_true rfl, Nat.le_of_ble_eq_true rfl, by decide, Nat.le_of_ble_eq_true rfl, fun tr ws H27 b27 hMl27 htr hwl => ?_⟩
  · rcases List.mem_cons.mp hr with rfl | hr
    · exact ⟨hta2, rfl⟩
    · rw [List.mem_singleton.mp hr]
      exact ⟨htb2, rfl⟩
  have e2027 := same_but2 (e24.trans eXY) hlo20 hplo20 b27
  have hM27 := (hM24.mono eXY).but2 b27 hml26 D.nr hpl26 nal.symm npl.symm
  have hf27 := b27 _ _ nDlo nDplo (eXY _ _ hf24)
  have hF27 := (hF24.mono eXY).but2 b27 hml26 hpl26
  have hMl27 : MonAt K H27 (aMon K) lo plo ((ms1 r1 T1).run false [[some true], [some false]]) 2 := hMl27
  have hsl := lone_row r1 T1
  revert hMl27 hsl
  generalize (ms1 r1 T1).run false [[some true], [some false]] = SL
  intro hMl27 hsl
  clear hMl24 hM24 hf24 hF24 e24 eXY hta2 htb2 hMl26 hml26 hpl26 b27 hml24
  obtain ⟨dxl27, hsl27, pastl27, hml27, _, hpl27, _⟩ := id hMl27
  have hwl : ws.length = 2 := hwl
  ac_rfl
  rw [hwl]
  ac_rfl
  refine s_getR ?_
  ac_rfl
  refine ⟨lo, plo, SL, _, svU false "x" r1 T1 [true, false], 0, rfl, hMl27, by rw [hsl]; exact Nat.le_of_ble_eq_true rfl, by rw [hsl]; rfl, fun i hi => by omega, fun H28 e28 => ?_⟩
  ac_rfl
  intro l1 hl1
  have eL1 := same_new (o := .lst [.int ((2 : Nat) : Int), .str (stS (SR.stat T1 (SR.go T1 0 [true, false])))]) hl1
  have hpm : ("+-" : Str) = ckS [true, false] := by decide +kernel
  have hR28 := ((hR1a.mono e2027).mono e28).mono eL1
  obtain ⟨dr28, tr28, hr28, _⟩ := id hR28
  have lenT : ∀ z : List Bool, z.length ≤ 14 → (txS (SR.trace T1 0 z)).length ≤ sizeLine := fun z hz => by
    rw [txS_len, trace_len]
    exact Nat.le_of_lt (small1000 (by omega))
  ac_rfl
  refine s_callO ?_
  ac_rfl
  refine ⟨r1, rfl, ?_⟩
  ac_rfl
  refine ⟨.inr ⟨_, _, hr28⟩, r1, T1, [true, false], by rw [hpm], hR28, v1', by decide, fun H29 e29 => ?_⟩
  ac_rfl
  refine s_ixS (lenT _ (by decide)) (last_at T1 [true, false]) ?_
  rw [udC_st]
  ac_rfl
  intro l2 hl2
  have eL2 := same_new (o := .lst [.int 2, .str (stS (SR.stat T1 (SR.go T1 0 [true, false])))]) hl2
  have hl1' := eL2 _ _ (e29 _ _ (upd_same (H := H28) (a := l1) (o := .lst [.int ((2 : Nat) : Int), .str (stS (SR.stat T1 (SR.go T1 0 [true, false])))])))
  obtain ⟨sh1, sh2, sh3⟩ := first_show (SR.stat T1 (SR.go T1 0 [true, false]))
  ac_rfl
  refine ⟨l1, l2, .list [.int 2, .str (stS (SR.stat T1 (SR.go T1 0 [true, false])))], rfl, .lst (SqL.of hl1') (.cons (.int _) (.cons (.str _) .nil)), .lst (SqL.of upd_same) (.cons (.int _) (.cons (.str _) .nil)), sh1, sh2, sh3,
    Nat.le_of_lt (small1000 (Nat.le_trans (first_shown _) (by decide))), ?_⟩
  have e2730 := ((e28.trans eL1).trans e29).trans eL2
  revert e2730
  clear eL1 eL2 hl1' hR28 hr28 sh1 sh2 sh3 e28 e29
  generalize upd H29 l2 _ = H30
  intro e2730
  have e2030 := e2027.trans e2730
  have hM30 := hM27.mono e2730
  have hMl30 := hMl27.mono e2730
  have hf30 := e2730 _ _ hf27
  have hF30 := hF27.mono e2730
  have hR30 := hR1a.mono e2030
  obtain ⟨dr30, tr30, hr30, _⟩ := id hR30
  obtain ⟨dx30, hs30, past30, hm30, _, _, _⟩ := id hM30
  clear hM27 hMl27 hf27 hF27 e2730 hml27 hpl27 e2027
  have hfl := hF30.1
  ac_rfl
  refine s_lenS (by rw [ckS_len]; exact Nat.le_of_lt (small1000 (by omega))) ?_
  ac_rfl
  rw [ckS_len, hfl]
  refine s_iteF' (by rw [decide_eq_true rfl]; rfl) ?_
  ac_rfl
  refine s_getR ?_
  ac_rfl
  have hsvA := ms1_svs r1 T1 u
  have hlgA := ms1_lens r1 T1 u
  revert hM30 hsvA hlgA
  generalize (ms1 r1 T1).run false (u.map (same 1)) = SA
  intro hM30 hsvA hlgA
  refine ⟨al, pal, SA, _, svU false "x" r1 T1 u, 0, rfl, hM30, by rw [hsvA]; exact Nat.le_of_ble_eq_true rfl, by rw [hsvA]; rfl, fun i hi => by omega, fun H31 e31 => ?_⟩
  have hR31 := hR30.mono e31
  obtain ⟨dr31, tr31, hr31, _⟩ := id hR31
  ac_rfl
  refine s_callO ?_
  ac_rfl
  refine ⟨r1, rfl, ?_⟩
  ac_rfl
  refine ⟨.inr ⟨_, _, hr31⟩, r1, T1, u, rfl, hR31, v1', by omega, fun H32 e32 => ?_⟩
  ac_rfl
  refine s_ixS (lenT _ hul) (last_at T1 u) ?_
  rw [udC_st]
  ac_rfl
  refine s_iteF' (by show (!decide (V.str (stS (SR.stat T1 (SR.go T1 0 u))) = V.str (stS (SR.stat T1 (SR.go T1 0 u))))) = false; rw [decide_eq_true rfl]; rfl) ?_
  have e3032 := e31.trans e32
  have hMl32 := hMl30.mono e3032
  obtain ⟨dxl32, hsl32, pastl32, hml32, _, _, _⟩ := id hMl32
  ac_rfl
  refine ⟨lo, plo, SL, _, [none], rfl, hMl32, by rw [hsl]; rfl, by rw [hsl]; exact Nat.le_of_ble_eq_true rfl, fun ts H33 e33 hts => ?_⟩
  rw [hsl, chgs_nothing] at hts
  ac_rfl
  intro te2 hte2
  have e34 := same_new (o := .tup []) hte2
  refine ne_empty (SqT.of (e34 _ _ hts)) (SqT.of upd_same) ?_
  have e3034 := (e3032.trans e33).trans e34
  revert e3034
  clear e34 hts e33 hMl32 hml32 e3032 e31 e32 hMl30 hM30 hm30
  generalize upd H33 te2 (.tup []) = H34
  intro e3034
  have e2034 := e2030.trans e3034
  have hf34 := e3034 _ _ hf30
  have hF34 := hF30.mono e3034
  have hR34 := hR30.mono e3034
  clear hf30 hF30 hR30 hr30 hR31 hr31 e2030 e3034
  ac_rfl
  intro D2 hD2
  have nD := ne_of_none hf34 hD2
  refine lc_list (K := K) (xs := fs) (fun i H' => Same H34 H' ∧ H' D2 = some (.lst (List.replicate (chgK "x" (SR.trace T1 0 u) i).length (V.int 1)))) ⟨same_new hD2, upd_same⟩ (fun i H' _ h => SqL.of (h.1 _ _ hf34)) ?_ ?_
  · rintro i x H35 hi ⟨e35, hd35⟩
    obtain ⟨tn, rfl, htn⟩ := (hF34.mono e35).2 i x hi
    have hi1 := (List.getElem?_eq_some_iff.mp hi).1
    have hcl := chgK_le "x" (SR.trace T1 0 u) i
    ac_rfl
    intro te3 hte3
    have e36 := same_new (o := .tup []) hte3
    have hd36 := e36 _ _ hd35
    have e3436 := e35.trans e36
    refine ne_nm (i := i) (bs := SR.trace T1 0 u) (seqT e36 htn) (SqT.of upd_same) ?_
    have hln := chgK_len "x" (SR.trace T1 0 u) i
    revert hln
    generalize ((SR.trace T1 0 u).getD (i + 1) false != (SR.trace T1 0 u).getD i false) = cc
    intro hln
    cases cc with
    | true =>
      ac_rfl
      refine ⟨_, hd36, ?_, grow0 e3436 hD2, ?_⟩
      · rw [List.length_replicate]
        exact small1000 (by omega)
      · rw [upd_same, hln]
        show some (HO.lst _) = some (HO.lst (List.replicate (_ + 1) _))
        rw [List.replicate_succ']
    | false =>
      ac_rfl
      refine ⟨e3436, ?_⟩
      rw [hln]
      exact hd36
  rintro H35 ⟨e35, hd35⟩
  have hR35 := hR34.mono e35
  obtain ⟨dr35, tr35, hr35, _⟩ := id hR35
  ac_rfl
  refine s_callO ?_
  ac_rfl
  refine ⟨r1, rfl, ?_⟩
  ac_rfl
  refine ⟨.inr ⟨_, _, hr35⟩, r1, T1, u, rfl, hR35, v1', by omega, fun H36 e36 => ?_⟩
  ac_rfl
  refine ⟨"x", SR.trace T1 0 u, rfl, by rw [trace_len]; omega, fun a2 ys H37 e37 ha2 hl2 => ?_⟩
  have hyl : (List.replicate (chgK "x" (SR.trace T1 0 u) fs.length).length (V.int 1)).length = ys.length := by
    rw [List.length_replicate, hl2.1, hfl, trace_len]
    rfl
  ac_rfl
  refine s_iteF' (by rw [hyl, decide_eq_true rfl]; rfl) ?_
  ac_rfl
  exact ⟨_, _, _, _, _, _, _, _, _, _, _, _, _, _, rfl, e08.trans (e8a.trans (e2034.trans (e35.trans (e36.trans e37))))⟩
end
end SRD
/-! The law's call where the law's promise asks that no repr is under way. -/
namespace SRO
open PySem PySem.Spec PyProof.Rows L2
theorem callG {P : Program} {w : World} {K : PySem.W.Frag} {mg mb : Str → Option Value} {k : Nat} {fa a : Addr} {sp : Sp} {s₁ : Shared} {vs : List Value} {ns : List Int}
    (KX : K.In s₁.heap) (hns : s₁.heap.Ns mainGlobals mg) (hb : s₁.heap.Ns builtinsNs mb) (hbb : ∀ x : Str, x ≠ "__name__" → mb x = bootBuiltins x) (hlim : s₁.heap.NoLimit) (hg : s₁.gens = #[])
    (ha : s₁.heap.get? a = some { cls := .type "list", data := .seq vs.toArray }) (hi : IntsAre vs ns) (hl : ns.length ≤ sizeLine) (hr : Room k callerA)
    (F : ∀ base : Heap, K.In base → base.Ns mainGlobals mg → FnG P w K mg base CX0 k fa sp)
    (hsp : ∀ H : Hp, SqL K H a (ns.map V.int) → sp [.ref a] H (fun v _ => v = .bl true) E0) :
    codeAny (model P w) callerA (.call (.ref fa) ⟨[.ref a], []⟩) (fun r s' => r = .ok (.ret (.bool true)) ∧ OldK s₁.heap s'.heap ∧ s'.os = s₁.os ∧ AllBare s'.gens) s₁ := by
  have rv := vals_ints hi
  -- what is tracked: the script, if it is none of the module's own objects
  obtain ⟨H, hS, hO⟩ : ∃ H : Hp, SqL K H a (ns.map V.int) ∧ ∀ b u, H b = some u → b = a ∧ u = .frz { cls := .type "list", data := .seq vs.toArray } (.lst (ns.map V.int)) ∧ K.lookup a = none := by
    cases hk : K.lookup a with
    | none =>
      refine ⟨fun b => if b = a then some (.frz { cls := .type "list", data := .seq vs.toArray } (.lst (ns.map V.int))) else none, .inl (.inr ⟨_, if_pos rfl⟩), fun b u h => ?_⟩
      by_cases e : b = a
      · have h' := (if_pos e).symm.trans h
        exact ⟨e, (Option.some.inj h').symm, rfl⟩
      · have h' := (if_neg e).symm.trans h
        cases h'
    | some o =>
      have e := KX a o hk
      rw [ha] at e
      cases e
      exact ⟨fun _ => none, .inr ⟨_, vs.toArray, _, hk, rfl, rfl, rfl, by rw [List.size_toArray, hi.length]; exact hl, by simpa using rv⟩, fun b u z => by have z' : (none : Option HO) = some u := z; cases z'⟩
  have hok : HOk P w H s₁.heap := fun b u z => by
    obtain ⟨rfl, rfl, _⟩ := hO b u z
    exact ⟨ha, by rw [List.length_map]; exact hl, vs, _, rv, ha⟩
  have away : ∀ {b : Addr} {o : Obj}, s₁.heap.get? b = some o → (∀ n, o.data ≠ .seq vs.toArray n) → H b = none := fun {b o} e d => by
    cases z : H b with
    | none => rfl
    | some u =>
      obtain ⟨rfl, _, _⟩ := hO b u z
      rw [ha] at e
      cases e
      exact absurd rfl (d _)
  have nsK : ∀ {b : Addr} {m : Str → Option Value}, s₁.heap.Ns b m → (hidT s₁.heap H).Ns b m := fun {b m} ⟨o, es, ep, e, d, r⟩ => ⟨o, es, ep, hidT_get e (away e fun n z => by rw [d] at z; cases z), d, r⟩
  have inK : K.In (hidT s₁.heap H) := fun b o e => hidT_get (KX b o e) (by
    cases z : H b with
    | none => rfl
    | some u =>
      obtain ⟨rfl, _, q⟩ := hO b u z
      rw [q] at e
      cases e)
  have hM : Mod K mg (hidT s₁.heap H) := ⟨inK, nsK hns, ⟨mb, nsK hb, hbb⟩, hlim.elim fun m h => ⟨m, nsK h.1, h.2⟩⟩
  have e0 : Env0 P w K mg (hidT s₁.heap H) callerA [] s₁ H := ⟨rfl, hM, fun b o e => of_hidT e, Nat.le_of_eq (hidT_size _ _), trivial, fun b hb => (by cases hb), hok, .of_eq hg⟩
  refine codeAny_mono (F _ inK (nsK hns) callerA [] s₁ H [.ref a] [.ref a] _ _ rfl hr e0 (.cons rfl .nil) (hsp H hS)) fun r s' h => ?_
  cases r with
  | error e => exact False.elim h
  | ok fl =>
    cases fl with
    | ret u =>
      obtain ⟨v, H', os, bare, un, hok', r', q⟩ := h
      cases (show v = .bl true from q)
      cases (show u = Value.bool true from r')
      refine ⟨rfl, OldK.of_keep fun b o e => ?_, os, bare⟩
      cases z : H b with
      | none => exact un.keep b o e z (fun z => by cases z) (fun z => by cases z)
      | some u =>
        obtain ⟨rfl, rfl, _⟩ := hO b u z
        obtain ⟨e2, _⟩ := hok' _ _ (un.frzs _ _ _ z)
        rw [ha] at e
        cases e
        exact e2
    | next => exact False.elim h
    | brk => exact False.elim h
    | cont => exact False.elim h
theorem walk_ofG {l : PySem.W.OpenLaw} {n k : Nat} {q : Program} {loose : List Str} {XP : (Str → Option Value) → Heap → Prop} {YP : World → Heap → Prop} {d : DefRec} (hn : l.most = some n) (hn2 : n ≤ sizeLine) (hdf : d.params.defaults = []) (hr : Room k callerA)
    (F : ∀ (w : World) (mg : Str → Option Value) (fa : Addr) (h : Heap), YP w h → h.Ns mainGlobals mg → mg d.name = some (.ref fa) →
      ∃ (K : PySem.W.Frag) (sp : Sp), K.In h ∧ (∀ (H : Hp) (a : Addr) (ns : List Int), ns.length ≤ n → SqL K H a (ns.map V.int) → sp [.ref a] H (fun v _ => v = .bl true) E0) ∧
        ∀ base : Heap, K.In base → base.Ns mainGlobals mg → FnG l.prog w K mg base CX0 k fa sp) :
    PySem.W.WalkO q loose XP YP l.row.toRowW d [] (fun f vs => PySem.call f vs) := by
  refine Att.attach_call hn hdf fun w s₀ s₁ mg mb fa o pm cd doc a vs ns G Y ho hd hcd hmg hobj hints hlen hg => ?_
  obtain ⟨K, sp, KX, hsp, hF⟩ := F w mg fa _ Y G.T.g hmg
  exact callG KX G.T.g G.T.b G.T.builtins G.T.nolimit hg hobj hints (Nat.le_trans hlen hn2) hr hF fun H hS => hsp H a ns hlen hS
end SRO
/-! All promises together. -/
namespace SRD
open PySem PySem.Spec PyProof.Rows L2 SRT
section
variable {w : World} {K : PySem.W.Frag} {mg : Str → Option Value} {base : Heap}
theorem ne_of_nd {a b : Addr} (h : (!decide (a = b)) = true) : a ≠ b := by
  intro e
  rw [decide_eq_true e] at h
  cases h
theorem fnIn_of {f : Addr} {x qual : Str} {params : Arguments} {body : List Stmt} {scope : Scope} {dvs : List V} {kws : List (Str × V)} (F : ∃ fd, FunD K x qual params body scope dvs kws f fd) : PySem.W.fnIn K f = true := by
  obtain ⟨fd, oc, od, dV, kV, doc, pm, an, cdv, ct, osl, rfl, lk, _⟩ := F.imp fun _ h => h.ex
  unfold PySem.W.fnIn
  rw [lk]
theorem fnIn_sup {d : SupD} {kws : List (Str × V)} {cc : Addr} {kV doc pm cdv ct oc : Value} {an od : Option Addr} {osl : Array (Option Value)} (F : SupFn K d kws cc kV doc pm cdv ct oc an od osl) : PySem.W.fnIn K (d.at_ K) = true := by
  unfold PySem.W.fnIn
  rw [F.lk]
theorem all_ok (T : Txt K mg) : SRO.FnG PP w K mg base CX0 9 (He.ga K "law") (spLaw K) := by
  have nrM : aMon K ≠ aRule K := ne_of_nd (T.x 52)
  have nrT : aMT K ≠ aRule K := ne_of_nd (T.x 53)
  have D := monC_mon T nrM
  have D2 := monC_mt T nrT
  -- tables, rules
  have f_int := ok_is_integer (w := w) (base := base) T
  have f_bet := ok_is_between (w := w) (base := base) T f_int
  have f_made := ok_is_made_of (w := w) (base := base) T
  have f_row := ok_is_row (w := w) (base := base) T f_bet
  have f_tab := ok_is_table (w := w) (base := base) T f_row
  have f_cc := ok_check_checks (w := w) (base := base) T f_made
  have f_cn := ok_check_number (w := w) (base := base) T f_bet
  have f_cr := ok_check_rule (w := w) (base := base) T
  have f_name := ok_is_name (w := w) (base := base) T f_made
  have f_sign := ok_is_sign (w := w) (base := base) T
  have f_names := ok_check_names (w := w) (base := base) T f_name
  have f_st := ok_statuses_of (w := w) (base := base) T
  have f_join := ok_joined (w := w) (base := base) T
  have f_reach := ok_reached (w := w) (base := base) T
  have f_cls := ok_row_classes (w := w) (base := base) T
  have f_small := ok_smallest (w := w) (base := base) T f_cls f_reach
  have f_first := ok_first_checks (w := w) (base := base) T
  have f_rinit := ok_Rule_init (w := w) (base := base) T f_tab f_small
  have f_rows := ok_Rule_rows (w := w) (base := base) T
  have f_rcall := ok_Rule_call (w := w) (base := base) T f_cc f_st
  have f_mk := ok_made (w := w) (base := base) T f_small f_rinit
  have f_and := ok_Rule_and (w := w) (base := base) T f_cr f_join f_mk
  have f_le := ok_Rule_le (w := w) (base := base) T f_first
  -- monitors
  have m_names := ok_names (w := w) (base := base) T D
  have m_names2 := ok_names (w := w) (base := base) T D2
  have m_place := ok_place (w := w) (base := base) T D m_names
  have m_place2 := ok_place (w := w) (base := base) T D2 m_names2
  have m_go := ok_go_on (w := w) (base := base) T D
  have m_go2 := ok_go_on (w := w) (base := base) T D2
  have m_ticks := ok_ticks (w := w) (base := base) T D
  have m_ticks2 := ok_ticks (w := w) (base := base) T D2
  have m_get := ok_getitem (w := w) (base := base) T D m_place f_rows
  have m_get2 := ok_getitem (w := w) (base := base) T D2 m_place2 f_rows
  have m_tally := ok_tally (w := w) (base := base) T D2 m_place2
  have m_muted := ok_muted (w := w) (base := base) T D2
  have m_with := ok_with_service (w := w) (base := base) T D
  have m_with2 := ok_with_service (w := w) (base := base) T D2
  have m_set := ok_setitem (w := w) (base := base) T D m_place f_cr m_go m_with
  have m_set2 := ok_setitem (w := w) (base := base) T D2 m_place2 f_cr m_go2 m_with2
  have m_later := (ok_later (w := w) (base := base) (C := aMon K) T f_rows).mono (show 3 ≤ 5 by decide)
  have fi1 : PySem.W.fnIn K (He.ma K (aMon K) "later") = true := fnIn_of (T.def_ 40 rfl)
  obtain ⟨_, _, _, _, _, _, _, _, _, _, FT⟩ := Txt.supFn (kws := []) T 3 rfl (T.x 20)
  have fi2 : PySem.W.fnIn K (He.ma K (He.ga K "Tallying") "later") = true := fnIn_sup FT
  have t_later := ok_Tallying_later (w := w) (base := base) T fi1 (ok_later T f_rows)
  have u_later := ok_Muting_later (w := w) (base := base) T fi2 t_later
  have m_later2 : FnR PP w K mg base CX0 5 (He.ma K (aMT K) "later") (spLater K (aMT K) true) := by
    rw [show He.ma K (aMT K) "later" = He.ma K (He.ga K "Muting") "later" from of_decide_eq_true (T.x 47)]
    exact u_later
  have m_after := ok_after (w := w) (base := base) T D f_sign m_later f_rows
  have m_after2 := ok_after (w := w) (base := base) T D2 f_sign m_later2 f_rows
  have m_tick := ok_tick (w := w) (base := base) T D m_after m_go
  have m_tick2 := ok_tick (w := w) (base := base) T D2 m_after2 m_go2
  have m_sup := ok_supposing (w := w) (base := base) T D m_after
  have t_init := ok_Trial_init (w := w) (base := base) T D
  have t_enter := ok_Trial_enter (w := w) (base := base) T D
  have t_exit := ok_Trial_exit (w := w) (base := base) T
  have m_try := ok_trying (w := w) (base := base) T D t_init
  have m_run := ok_run (w := w) (base := base) T D m_try t_enter t_exit m_tick
  have m_ch := ok_changes (w := w) (base := base) T D
  have m_ch2 := ok_changes (w := w) (base := base) T D2
  -- how they are made
  have i_mon := ok_Monitor_init (w := w) (base := base) T D.cl D.nh D.np nrM f_cr f_names f_cn
  have i_monK := ok_Monitor_initK (w := w) (base := base) T D2.cl D2.nh D2.np nrT f_cr f_names f_cn
  have fi3 : PySem.W.fnIn K (He.ma K (He.ga K "Monitor") "__init__") = true := fnIn_of (T.def_ 38 rfl)
  obtain ⟨_, _, _, _, _, _, _, _, _, _, FI⟩ := Txt.supFn (kws := [("quorum", .int 1)]) T 2 rfl (T.x 19)
  have fi4 : PySem.W.fnIn K (He.ma K (He.ga K "Tallying") "__init__") = true := fnIn_sup FI
  obtain ⟨_, _, _, _, _, _, _, _, _, _, FM⟩ := Txt.supFn (kws := [("quorum", .int 1)]) T 0 rfl (T.x 17)
  have fi5 : PySem.W.fnIn K (He.ma K (He.ga K "Muting") "__init__") = true := fnIn_sup FM
  have i_tal := ok_Tallying_initK (w := w) (base := base) T fi3 i_monK
  have i_mut := ok_Muting_initK (w := w) (base := base) T fi4 i_tal
  have i_mt := ok_MutingTallying_init (w := w) (base := base) T fi5 i_mut
  -- the law's own
  have l_draw := ok_draw (w := w) (base := base) T
  have l_cell := ok_cell_at (w := w) (base := base) T
  have l_pen := ok_pen (w := w) (base := base) T
  have l_streak := ok_streak (w := w) (base := base) T
  have l_ring := ok_ring (w := w) (base := base) T
  have l_table := ok_table (w := w) (base := base) T l_draw
  have l_few := ok_few (w := w) (base := base) T l_draw l_streak l_ring l_table
  have l_checks := ok_checks (w := w) (base := base) T l_draw
  have l_same := ok_law_same (w := w) (base := base) T
  have l_changed := ok_law_changed (w := w) (base := base) T
  have l_w := ok_law_watched (w := w) (base := base) (tl := false) T D m_set m_tick f_rcall m_get m_ch l_changed m_ticks
  have l_w2 := ok_law_watched (w := w) (base := base) (tl := true) T D2 m_set2 m_tick2 f_rcall m_get2 m_ch2 l_changed m_ticks2
  have mt : Meth K (aMT K) "tally" (He.ma K (He.ga K "Tallying") "tally") := (of_decide_eq_true (T.x 48) : He.ma K (He.ga K "MutingTallying") "tally" = He.ma K (He.ga K "Tallying") "tally") ▸ T.meth 107
  have pm : PropOf K (aMT K) "muted" (He.ma K (aMT K) "muted") (pg K (He.ga K "Muting") "muted") := (of_decide_eq_true (T.x 51) : pg K (He.ga K "MutingTallying") "muted" = pg K (He.ga K "Muting") "muted") ▸ propB_ok (T.x 5)
  exact ok_law T D D2 l_pen l_cell f_rinit l_few l_checks f_and i_mon i_mt l_w l_w2 f_le m_get l_same m_tally mt m_muted pm m_tick m_run m_sup f_rcall l_changed
end
end SRD
set_option Elab.async false
open PySem PySem.W PySem.Calls PyProof.Rows
set_option maxRecDepth 100000 in
set_option maxHeartbeats 0 in
theorem PySem.Challenge.cw_statusrules_k70_whole_monitors_and_rules_holds : PySem.Challenge.rw_statusrules_k70_whole_monitors_and_rules.Holds := by
  w_on; o_law
  refine HandSHeadRun.head_any (r := OpenLaw.row PySem.Challenge.rw_statusrules_k70_whole_monitors_and_rules) (q := view (OpenLaw.row PySem.Challenge.rw_statusrules_k70_whole_monitors_and_rules).prog [71]) (H := SRT.hook) (ob := SRT.obG) (M := 20000) (loose := SRH.names)
    (d := HandSHeadRun.topDef (OpenLaw.row PySem.Challenge.rw_statusrules_k70_whole_monitors_and_rules).prog 71) (kwd := []) SRT.obG_eq
    (by kernel_rfl) (fun s => by kernel_rfl) SRH.run (by kernel_rfl) (by kernel_rfl) (by kernel_rfl) (by rfl) (by first | assumption | decide +kernel) (by decide +kernel) ⟨rfl, rfl, rfl, rfl, rfl, by decide +kernel⟩ ?hw ?hc
  case hw => w_witness2
  case hc =>
    refine SRO.walk_ofG (l := PySem.Challenge.rw_statusrules_k70_whole_monitors_and_rules) (n := 63) (k := 9) rfl (by decide) (by kernel_rfl) ⟨rfl, by decide, by decide⟩ ?F
    intro w mg fa h Y G hmg0
    obtain ⟨K, KX, c⟩ := Y
    have hmg : mg ("law" : PySem.Str) = some (.ref fa) := by
      have e : (HandSHeadRun.topDef (OpenLaw.row PySem.Challenge.rw_statusrules_k70_whole_monitors_and_rules).prog 71).name = ("law" : PySem.Str) := by kernel_rfl
      rw [← e]
      exact hmg0
    have T : SRT.Txt K mg := ⟨⟨h, KX, G⟩, c⟩
    have e2 := hmg.symm.trans (T.glo 29)
    cases e2
    exact ⟨K, SRD.spLaw K, KX, fun H a ns hl hS => ⟨a, ns, rfl, hS, hl, fun _ => rfl⟩, fun base _ _ => SRD.all_ok T⟩
