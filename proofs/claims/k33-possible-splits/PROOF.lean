import PyProof.Rows.All
import Wide.All
import OpenK.AllK
import Wide.FinOn
import HandS.ForMost
import HandS.ForExc
import HandS.Wide
import HandS.Gcd
import HandS.IsInst
import HandS.Defaults
import HandS.Walk
import HandS.Zip
import HandS.TupAny
import HandS.Deep
import HandS.Conv
import HandS.ExcField
import HandS.ExcSuper
import HandS.ExcInit
import KE.KOpsOwn
import PyProof.InstNe
import PyProof.AutoSeq1
import KE.GoesMore
import KE.GoesEnum
import KE.KExcSuper
import KE.KSuper
import HandS.NestedK
import KE.SortData
import HandS.TupSets
import PySem.Challenge.RW_metricparts_k33_whole_possible_splits
set_option Elab.async false
section
set_option Elab.async false
set_option linter.all false
set_option maxRecDepth 100000
/-! B0: own operators (+, -, *, unary -, !=) of plain instances, over the hand layer -/
namespace K33
open PySem PySem.Spec PyProof.Rows L2
section
variable {prog : Program} {w : World} {A : Around} {E : Value → Shared → Prop} {K : PySem.W.Frag} {x y C f : Addr} {ox : Obj} {od : Option Obj}
/-- x != y, x with an own __eq__ and object's __ne__ -/
theorem ne_own {s : Shared} {oy : Obj} {ody : Option Obj} {Q : Value → Shared → Prop} (X : K.In s.heap) (I : PySem.W.InstAt s.heap x ox C od) (J : PySem.W.InstAt s.heap y oy C ody)
    (hn : PySem.W.findIn K (.ref C) "__ne__" = some (some (.builtin "object.__ne__"))) (he : PySem.W.findIn K (.ref C) "__eq__" = some (some (.ref f))) (hf : PySem.W.isFn K (.ref f) = true)
    (hob : PySem.W.mroIn K C (.type "object") = some true) (hu : A.units + 1 < cLine)
    (h : wpAny (model prog w) A.in1 (call (.ref f) [.ref x, .ref y]) (fun v s' => ∃ b, v = .bool b ∧ Q (.bool (!b)) s') E s) : wpAny (model prog w) A (compareOp .NotEq (.ref x) (.ref y)) Q E s := by
  have hu1 : A.in1.units < cLine := by show A.units + 1 < cLine; exact hu
  have sub : PySem.W.Looks (model prog w) s.heap (isInstance (.ref x) (.type "object")) true := I.type.andThen (PySem.W.looks_mroIn X hob)
  have body : wpAny (model prog w) A.in1 (Builtin.«object.__ne__» ⟨[.ref x, .ref y], []⟩) (fun fin s' => ∃ b, fin = .done (.ret (.bool (!b))) ∧ Q (.bool (!b)) s') E s := by
    unfold Builtin.«object.__ne__»
    repeat (first
      | with_reducible refine wpAny_cRoomFor hu1 ?_
      | (refine wpAny_bind (m := callSpecialIfBound? (.ref x) (Str.ofString "__eq__") [.ref y]) (PySem.W.ifBound_K X I he hf (wpAny_mono h (fun r s' hr => by
          obtain ⟨b, rfl, hq⟩ := hr
          repeat (first | exact ⟨b, rfl, hq⟩ | exact wpAny_pure ⟨b, rfl, hq⟩ | exact wpAny_truthy_bool ⟨b, rfl, hq⟩ | (refine wpAny_bind (m := truthy (.bool _)) (wpAny_truthy_bool ?_)) | wp_step)) fun _ _ e => e)))
      | wp_step)
  have callNe : wpAny (model prog w) A (call (.builtin "object.__ne__") [.ref x, .ref y]) (fun v s' => ∃ b, v = .bool b ∧ Q (.bool b) s') E s := by
    refine wpAny_call (codeAny_call_builtin PySem.F.cmp_object.ne.plain PySem.F.cmpEntry_ne (PySem.W.check_slot (i := "object.__ne__") (owner := "object") (n := "__ne__") (self := .ref x) (rest := [.ref y]) (kw := []) PySem.F.cmpKind_ne PySem.F.cmpSplit_ne sub (PySem.F.cmpArgs_ne _ _) ?_))
    refine wpAny_mono body (fun fin s' z => ?_) fun _ _ e => e
    obtain ⟨b, rfl, q⟩ := z
    exact ⟨!b, rfl, q⟩
  have one : wpAny (model prog w) A (tryCompare (.ref x) "__ne__" (.ref y)) (fun r s' => ∃ v, r = some v ∧ Q v s') E s := by
    simp only [tryCompare]
    refine wpAny_bind ?_
    simp only [callSpecialIfBound?, bindSpecialIfBound?]
    refine wpAny_holding (wpAny_bind (wpAny_bind (wpAny_bind (I.type.here ((PySem.W.looks_findIn X hn).here ?_)))))
    simp only [PySem.F.cmp_object.ne.bind]
    refine wpAny_bind (wpAny_askSetting (wpAny_ite ?_))
    have fin : wpAny (model prog w) A (call (.builtin "object.__ne__") ([.ref x] ++ [.ref y]) >>= fun v => pure (some v)) (fun r s' => ∃ b, r = some (.bool b) ∧ Q (.bool b) s') E s :=
      wpAny_bind (wpAny_mono callNe (fun v s' z => wpAny_pure (by obtain ⟨b, rfl, q⟩ := z; exact ⟨b, rfl, q⟩)) fun _ _ e => e)
    split
    · exact wpAny_bind (wpAny_pure (wpAny_pure (wpAny_mono fin (fun r s' z => by obtain ⟨b, rfl, q⟩ := z; exact wpAny_pure ⟨_, rfl, q⟩) fun _ _ e => e)))
    · exact wpAny_tryCatch (wpAny_bind (wpAny_pure (wpAny_pure (wpAny_mono fin (fun r s' z => by obtain ⟨b, rfl, q⟩ := z; exact wpAny_pure ⟨_, rfl, q⟩) fun _ _ e => e))))
  unfold compareOp richCompare
  simp only [oneThing_ref]
  refine wpAny_holding ?_
  refine wpAny_bind (wpAny_cRoomFor (Nat.lt_of_succ_lt hu) ?_)
  rw [cmpInfo_NotEq]
  dsimp only
  refine wpAny_bind (I.type.here (wpAny_bind (J.type.here ?_)))
  rw [show (Value.ref C != Value.ref C) = false from by simp]
  simp only [Bool.false_eq_true, if_false]
  refine wpAny_bind (wpAny_pure ?_)
  simp only [Bool.false_eq_true, if_false]
  refine wpAny_bind (wpAny_mono one (fun r s' z => ?_) fun _ _ e => e)
  obtain ⟨v, rfl, hq⟩ := z
  exact wpAny_pure hq
end
/-- a method of a class whose operands are instances of it -/
structure OwnM (K : PySem.W.Frag) (C : Addr) (m : Str) (f : Addr) : Prop where
  at_ : PySem.W.findIn K (.ref C) m = some (some (.ref f))
  fn : PySem.W.isFn K (.ref f) = true
section
variable {X : Cx} {CX : CXT} {k : Nat} {f C : Addr} {fd : FuncData} {ps : List Str} {sp : Sp} {E : XK}
theorem cmpback {P : Value → Shared → Prop} {z : V} {v : Value} {s' : Shared} (r : RelV z v) (h : P v s') : PySem.W.CmpBack P v s' := by
  cases z with
  | non => cases (show v = Value.none from r); exact h
  | bl b => cases (show v = Value.bool b from r); exact h
  | int i =>
    obtain ⟨t, e⟩ := (show ∃ t, v = Value.int i t from r)
    cases e
    exact h
  | str x =>
    obtain ⟨t, e⟩ := (show ∃ t, v = Value.str x t from r)
    cases e
    exact h
  | byt x =>
    obtain ⟨t, e⟩ := (show ∃ t, v = Value.bytes x t from r)
    cases e
    exact h
  | flt x =>
    obtain ⟨t, e⟩ := (show ∃ t, v = Value.float x t from r)
    cases e
    exact h
  | ref a => cases (show v = Value.ref a from r); exact h
  | ty n => cases (show v = Value.type n from r); exact h
def rOwn2 (C : Addr) (sp : Sp) (E : XK) : R2 := fun x y H Q => ∃ a dx fs b dy gs, x = .ref a ∧ y = .ref b ∧ H a = some (.ins C dx fs) ∧ H b = some (.ins C dy gs) ∧ sp [x, y] H Q E
theorem op_own2 {op : Operator} (M : OwnM X.K C (PySem.dunder op.info.2) f) (hc : PySem.W.selfFirst X.K C = true) (F : FnOk X.prog X.w X.K X.mg X.base CX k f fd ps sp) (hr : Room k X.A) (hb : Binds X.K fd ps []) (hx : Passes CX X E) : OpR X (binaryOp op) (rOwn2 C sp E) := by
  intro pins s σ H x y v u Q I rx ry h
  obtain ⟨a, dx, fs, b, dy, gs, rfl, rfl, ha, hb', q⟩ := h
  cases (show v = Value.ref a from rx)
  cases (show u = Value.ref b from ry)
  obtain ⟨mA, O, _⟩ := ins_get I.hok ha
  obtain ⟨od, J, _⟩ := O.look
  obtain ⟨mB, O', _⟩ := ins_get I.hok hb'
  obtain ⟨od', J', _⟩ := O'.look
  obtain ⟨m, hF⟩ := I.fr
  refine PySem.W.binop_K hF I.ok.mod.kin J J'.type hc M.at_ M.fn ?_
  refine wpAny_mono (run_fn (us := [.ref a, .ref b]) (vs := [.ref a, .ref b]) F hr hb .nil hx I (.cons rfl (.cons rfl .nil)) q) (fun w s' z => ?_) fun _ _ x => x
  obtain ⟨z', H', I', rz, qz⟩ := z
  exact cmpback rz ⟨z', H', I', rz, qz⟩
def rOwn1 (C : Addr) (sp : Sp) (E : XK) : V → Hp → VK → Prop := fun x H Q => ∃ a dx fs, x = .ref a ∧ H a = some (.ins C dx fs) ∧ sp [x] H Q E
theorem un_own1 (M : OwnM X.K C "__neg__" f) (F : FnOk X.prog X.w X.K X.mg X.base CX k f fd ps sp) (hr : Room k X.A) (hb : Binds X.K fd ps []) (hx : Passes CX X E) : UnR X (unaryOp .USub) (rOwn1 C sp E) := by
  intro pins s σ H x v Q I rx h
  obtain ⟨a, dx, fs, rfl, ha, q⟩ := h
  cases (show v = Value.ref a from rx)
  obtain ⟨mA, O, _⟩ := ins_get I.hok ha
  obtain ⟨od, J, _⟩ := O.look
  obtain ⟨m, hF⟩ := I.fr
  exact PySem.W.ksp_neg hF I.ok.mod.kin J M.at_ M.fn (run_fn (us := [.ref a]) (vs := [.ref a]) F hr hb .nil hx I (.cons rfl .nil) q)
def rOwnNe (C : Addr) (sp : Sp) (E : XK) : R2 := fun x y H Q => ∃ a dx fs b dy gs, x = .ref a ∧ y = .ref b ∧ H a = some (.ins C dx fs) ∧ H b = some (.ins C dy gs) ∧ sp [x, y] H (fun v H' => ∃ k, v = .bl k ∧ Q (.bl (!k)) H') E
/-- the callee runs one frame of C deeper -/
theorem run_fn1 {pins : List (Addr × Obj)} {σ : L2.St} {H : Hp} {s : Shared} {Q : VK} {us : List Value} {vs : List V} (F : FnOk X.prog X.w X.K X.mg X.base CX k f fd ps sp) (hr : Room (k + 1) X.A) (hb : Binds X.K fd ps []) (hx : Passes CX X E)
    (I : Inv X pins σ H s) (r : Vals vs us) (h : sp vs H Q E) : wpAny (model X.prog X.w) X.A.in1 (call (.ref f) us) (EP X pins σ Q) X.xe s := by
  have hl : (us ++ []).length = ps.length := by rw [List.append_nil, ← r.length]; exact F.len _ _ _ _ h
  have b := hb s us I.kIn hl
  rw [List.append_nil] at b
  refine wpAny_call (codeAny_mono (F.run X.A.in1 X.stack s H ⟨us, []⟩ us vs Q E hr.in1 I.env0.in1 b r h) fun r s' hq => ?_)
  cases r with
  | error e => exact hx pins σ H s e s' I hq
  | ok fl =>
    cases fl with
    | ret u => exact I.after hq
    | next => exact False.elim hq
    | brk => exact False.elim hq
    | cont => exact False.elim hq
theorem op_ownNe (M : OwnM X.K C "__eq__" f) (hn : PySem.W.findIn X.K (.ref C) "__ne__" = some (some (.builtin "object.__ne__"))) (hob : PySem.W.mroIn X.K C (.type "object") = some true)
    (F : FnOk X.prog X.w X.K X.mg X.base CX k f fd ps sp) (hr : Room (k + 1) X.A) (hb : Binds X.K fd ps []) (hx : Passes CX X E) : OpR X (compareOp .NotEq) (rOwnNe C sp E) := by
  intro pins s σ H x y v u Q I rx ry h
  obtain ⟨a, dx, fs, b, dy, gs, rfl, rfl, ha, hb', q⟩ := h
  cases (show v = Value.ref a from rx)
  cases (show u = Value.ref b from ry)
  obtain ⟨mA, O, _⟩ := ins_get I.hok ha
  obtain ⟨od, J, _⟩ := O.look
  obtain ⟨mB, O', _⟩ := ins_get I.hok hb'
  obtain ⟨od', J', _⟩ := O'.look
  refine ne_own I.kIn J J' hn M.at_ M.fn hob (hu_of hr) ?_
  refine wpAny_mono (run_fn1 (us := [.ref a, .ref b]) (vs := [.ref a, .ref b]) F hr hb hx I (.cons rfl (.cons rfl .nil)) q) (fun w s' z => ?_) fun _ _ x => x
  obtain ⟨z', H', I', rz, k', e, qz⟩ := z
  subst e
  cases (show w = Value.bool k' from rz)
  exact ⟨k', rfl, .bl (!k'), H', I', rfl, qz⟩
end
end K33
end
section
set_option Elab.async false
set_option linter.all false
set_option maxRecDepth 100000
/-! B1: data that stand in the heap; hidden (mutable) addresses; expressions that give data -/
namespace K33
open PySem L2
/-- data: what a value that no one changes says -/
inductive D where
  | non | bl (b : Bool) | int (i : Int) | str (s : Str) | rat (q : Rat) | tup (l : List D) | lst (l : List D) | met (n : Nat) (rows : List D)
/-- where the classes Ratio and Metric stand -/
structure Cl where
  R : Addr
  M : Addr
def ratF (n d : Int) : List (Str × V) := [("n", .int n), ("d", .int d)]
def metF (n : Int) (a : Addr) : List (Str × V) := [("n", .int n), ("rows", .ref a)]
inductive Is (c : Cl) (G : Hp) : V → D → Prop where
  | non : Is c G .non .non
  | bl (b : Bool) : Is c G (.bl b) (.bl b)
  | int (i : Int) : Is c G (.int i) (.int i)
  | str (s : Str) : Is c G (.str s) (.str s)
  | rat {a dx : Addr} {q : Rat} (h : G a = some (.ins c.R dx (ratF q.num q.den))) : Is c G (.ref a) (.rat q)
  | tup {a : Addr} {vs : List V} {ds : List D} (h : G a = some (.tup vs)) (l : vs.length = ds.length) (i : ∀ (i : Nat) (v : V) (d : D), vs[i]? = some v → ds[i]? = some d → Is c G v d) : Is c G (.ref a) (.tup ds)
  | lst {a : Addr} {vs : List V} {ds : List D} (h : G a = some (.lst vs)) (l : vs.length = ds.length) (i : ∀ (i : Nat) (v : V) (d : D), vs[i]? = some v → ds[i]? = some d → Is c G v d) : Is c G (.ref a) (.lst ds)
  | met {a dx b : Addr} {n : Nat} {ds : List D} (h : G a = some (.ins c.M dx (metF n b))) (r : Is c G (.ref b) (.tup ds)) : Is c G (.ref a) (.met n ds)
/-- a row of values says a row of data -/
structure IsL (c : Cl) (G : Hp) (vs : List V) (ds : List D) : Prop where
  len : vs.length = ds.length
  at_ : ∀ (i : Nat) (v : V) (d : D), vs[i]? = some v → ds[i]? = some d → Is c G v d
def Ex (H H' : Hp) : Prop := ∀ b o, H b = some o → H' b = some o
theorem Ex.refl (H : Hp) : Ex H H := fun _ _ h => h
theorem Ex.trans {H H1 H2 : Hp} (a : Ex H H1) (b : Ex H1 H2) : Ex H H2 := fun x o h => b x o (a x o h)
section
variable {c : Cl} {G G' : Hp} {v : V} {d : D} {vs : List V} {ds : List D}
theorem Is.mono (e : Ex G G') (h : Is c G v d) : Is c G' v d := by
  induction h with
  | non => exact .non
  | bl b => exact .bl b
  | int i => exact .int i
  | str s => exact .str s
  | rat h => exact .rat (e _ _ h)
  | tup h l i ih => exact .tup (e _ _ h) l ih
  | lst h l i ih => exact .lst (e _ _ h) l ih
  | met h r ih => exact .met (e _ _ h) ih
theorem IsL.mono (e : Ex G G') (h : IsL c G vs ds) : IsL c G' vs ds := ⟨h.len, fun i v d a b => (h.at_ i v d a b).mono e⟩
theorem IsL.nil : IsL c G [] [] := ⟨rfl, fun i v d h => by simp at h⟩
theorem IsL.cons (h : Is c G v d) (t : IsL c G vs ds) : IsL c G (v :: vs) (d :: ds) := ⟨by simp [t.len], fun i w e a b => by
  cases i with
  | zero => simp at a b; subst a; subst b; exact h
  | succ i => exact t.at_ i w e (by simpa using a) (by simpa using b)⟩
theorem IsL.append {ws : List V} {es : List D} (h : IsL c G vs ds) (t : IsL c G ws es) : IsL c G (vs ++ ws) (ds ++ es) := ⟨by simp [h.len, t.len], fun i w e a b => by
  by_cases q : i < vs.length
  · rw [List.getElem?_append_left q] at a
    rw [List.getElem?_append_left (by rw [← h.len]; exact q)] at b
    exact h.at_ i w e a b
  · rw [List.getElem?_append_right (by omega)] at a
    rw [List.getElem?_append_right (by rw [← h.len]; omega), ← h.len] at b
    exact t.at_ _ w e a b⟩
theorem IsL.get {i : Nat} (h : IsL c G vs ds) (e : ds[i]? = some d) : ∃ v, vs[i]? = some v ∧ Is c G v d := by
  have hi := (List.getElem?_eq_some_iff.mp e).1
  have hi' : i < vs.length := by rw [h.len]; exact hi
  exact ⟨vs[i], by simp [hi'], h.at_ i _ _ (by simp [hi']) e⟩
theorem IsL.getV {i : Nat} (h : IsL c G vs ds) (e : vs[i]? = some v) : ∃ d, ds[i]? = some d ∧ Is c G v d := by
  have hi := (List.getElem?_eq_some_iff.mp e).1
  have hi' : i < ds.length := by rw [← h.len]; exact hi
  exact ⟨ds[i], by simp [hi'], h.at_ i _ _ e (by simp [hi'])⟩
theorem IsL.set {i : Nat} (h : IsL c G vs ds) (e : Is c G v d) : IsL c G (vs.set i v) (ds.set i d) := ⟨by simp [h.len], fun j w f a b => by
  by_cases q : i = j
  · subst q
    rw [List.getElem?_set] at a b
    simp only [if_true] at a b
    split at a
    · split at b
      · cases a; cases b; exact e
      · cases b
    · cases a
  · rw [List.getElem?_set_ne q] at a b
    exact h.at_ j w f a b⟩
theorem IsL.eraseIdx {i : Nat} (h : IsL c G vs ds) : IsL c G (vs.eraseIdx i) (ds.eraseIdx i) := ⟨by simp [List.length_eraseIdx, h.len], fun j w f a b => by
  rw [List.getElem?_eraseIdx] at a b
  split at a
  · rename_i q; rw [if_pos q] at b; exact h.at_ j w f a b
  · rename_i q; rw [if_neg q] at b; exact h.at_ _ w f a b⟩
theorem IsL.take {n : Nat} (h : IsL c G vs ds) : IsL c G (vs.take n) (ds.take n) := ⟨by simp [h.len], fun j w f a b => by
  rw [List.getElem?_take] at a b
  split at a
  · rename_i q; rw [if_pos q] at b; exact h.at_ j w f a b
  · cases a⟩
theorem IsL.drop {n : Nat} (h : IsL c G vs ds) : IsL c G (vs.drop n) (ds.drop n) := ⟨by simp [h.len], fun j w f a b => by
  rw [List.getElem?_drop] at a b
  exact h.at_ _ w f a b⟩
theorem IsL.tupI {a : Addr} (h : G a = some (.tup vs)) (l : IsL c G vs ds) : Is c G (.ref a) (.tup ds) := .tup h l.len l.at_
theorem IsL.lstI {a : Addr} (h : G a = some (.lst vs)) (l : IsL c G vs ds) : Is c G (.ref a) (.lst ds) := .lst h l.len l.at_
theorem Is.tupE (h : Is c G v (.tup ds)) : ∃ a vs, v = .ref a ∧ G a = some (.tup vs) ∧ IsL c G vs ds := by
  cases h with
  | tup h l i => exact ⟨_, _, rfl, h, l, i⟩
theorem Is.lstE (h : Is c G v (.lst ds)) : ∃ a vs, v = .ref a ∧ G a = some (.lst vs) ∧ IsL c G vs ds := by
  cases h with
  | lst h l i => exact ⟨_, _, rfl, h, l, i⟩
theorem Is.intE {i : Int} (h : Is c G v (.int i)) : v = .int i := by cases h; rfl
theorem Is.blE {b : Bool} (h : Is c G v (.bl b)) : v = .bl b := by cases h; rfl
theorem Is.strE {s : Str} (h : Is c G v (.str s)) : v = .str s := by cases h; rfl
theorem Is.ratE {q : Rat} (h : Is c G v (.rat q)) : ∃ a dx, v = .ref a ∧ G a = some (.ins c.R dx (ratF q.num q.den)) := by
  cases h with
  | rat h => exact ⟨_, _, rfl, h⟩
theorem Is.metE {n : Nat} (h : Is c G v (.met n ds)) : ∃ a dx b, v = .ref a ∧ G a = some (.ins c.M dx (metF n b)) ∧ Is c G (.ref b) (.tup ds) := by
  cases h with
  | met h r => exact ⟨_, _, _, rfl, h, r⟩
/-- rows of ints -/
theorem IsL.ints {l : List Int} (h : IsL c G vs (l.map .int)) : vs = l.map .int := by
  refine List.ext_getElem? fun i => ?_
  cases e : vs[i]? with
  | none =>
    have := List.getElem?_eq_none_iff.mp e
    rw [h.len] at this
    exact (List.getElem?_eq_none_iff.mpr (by simpa using this)).symm
  | some v =>
    obtain ⟨d, hd, hv⟩ := h.getV e
    rw [List.getElem?_map] at hd ⊢
    cases q : l[i]? with
    | none => rw [q] at hd; cases hd
    | some j =>
      rw [q] at hd
      cases hd
      rw [hv.intE]
      rfl
theorem IsL.ofInts {l : List Int} : IsL c G (l.map .int) (l.map .int) := ⟨by simp, fun i v d a b => by
  rw [List.getElem?_map] at a b
  cases q : l[i]? with
  | none => rw [q] at a; cases a
  | some j => rw [q] at a b; cases a; cases b; exact .int j⟩
end
/-- data without lists -/
inductive LF : D → Prop where
  | non : LF .non
  | bl (b : Bool) : LF (.bl b)
  | int (i : Int) : LF (.int i)
  | str (s : Str) : LF (.str s)
  | rat (q : Rat) : LF (.rat q)
  | tup {l : List D} (h : ∀ d, d ∈ l → LF d) : LF (.tup l)
  | met {n : Nat} {l : List D} (h : ∀ d, d ∈ l → LF d) : LF (.met n l)
/-! ### hidden addresses -/
open Classical in
noncomputable def hid (M : Addr → Prop) (H : Hp) : Hp := fun b => if M b then none else H b
section
variable {M M' : Addr → Prop} {H H' : Hp} {b : Addr} {o : HO}
theorem hid_some : hid M H b = some o ↔ ¬ M b ∧ H b = some o := by
  unfold hid
  split
  · rename_i h; simp [h]
  · rename_i h; simp [h]
theorem hid_le : Ex (hid M H) H := fun b o h => (hid_some.mp h).2
theorem hid_sub (h : ∀ b, M' b → M b) : Ex (hid M H) (hid M' H) := fun b o e => hid_some.mpr ⟨fun z => (hid_some.mp e).1 (h b z), (hid_some.mp e).2⟩
theorem LF.hide {c : Cl} {v : V} {d : D} (lf : LF d) (h : Is c (hid M' H) v d) (hm : ∀ b, M b → M' b ∨ ∃ vs, H b = some (.lst vs)) : Is c (hid M H) v d := by
  have keep : ∀ {b o}, hid M' H b = some o → (∀ vs, o ≠ .lst vs) → hid M H b = some o := fun {b o} e n => by
    obtain ⟨e1, e2⟩ := hid_some.mp e
    refine hid_some.mpr ⟨fun z => ?_, e2⟩
    rcases hm b z with q | ⟨vs, q⟩
    · exact e1 q
    · rw [q] at e2; cases e2; exact n vs rfl
  induction h with
  | non => exact .non
  | bl b => exact .bl b
  | int i => exact .int i
  | str s => exact .str s
  | rat h => exact .rat (keep h fun _ z => nomatch z)
  | tup h l i ih =>
    cases lf with
    | tup lf => exact .tup (keep h fun _ z => nomatch z) l fun i v d a b => ih i v d a b (lf d (List.mem_of_getElem? b))
  | lst h l i ih => cases lf
  | met h r ih =>
    cases lf with
    | met lf => exact .met (keep h fun _ z => nomatch z) (ih (.tup lf))
end
/-! ### the law's state: a list of two ints, at B -/
def ExB (B : Option Addr) (H H' : Hp) : Prop := ∀ b o, B ≠ some b → H b = some o → H' b = some o
def StB (B : Option Addr) (H : Hp) : Prop := ∀ a, B = some a → ∃ s t : Int, 0 ≤ s ∧ H a = some (.lst [.int s, .int t])
structure Hc (M : Addr → Prop) (B : Option Addr) (H : Hp) : Prop where
  ml : ∀ b, M b → ∃ vs, H b = some (.lst vs)
  bm : ∀ a, B = some a → M a
  st : StB B H
structure To (B : Option Addr) (H H' : Hp) : Prop where
  ex : ExB B H H'
  st : StB B H'
section
variable {M M' : Addr → Prop} {B : Option Addr} {H H1 H2 : Hp}
theorem To.refl (h : StB B H) : To B H H := ⟨fun _ _ _ e => e, h⟩
theorem To.trans (a : To B H H1) (b : To B H1 H2) : To B H H2 := ⟨fun x o n h => b.ex x o n (a.ex x o n h), b.st⟩
theorem To.hc (a : To B H H1) (h : Hc M B H) : Hc M B H1 := ⟨fun b hb => by
  by_cases q : B = some b
  · obtain ⟨s, t, _, e⟩ := a.st b q; exact ⟨_, e⟩
  · obtain ⟨vs, e⟩ := h.ml b hb; exact ⟨vs, a.ex b _ q e⟩, h.bm, a.st⟩
theorem To.hid (a : To B H H1) (h : ∀ x, B = some x → M x) : Ex (hid M H) (hid M H1) := fun b o e =>
  hid_some.mpr ⟨(hid_some.mp e).1, a.ex b o (fun z => (hid_some.mp e).1 (h b z)) (hid_some.mp e).2⟩
theorem To.of (e : Ex H H1) (h : StB B H) : To B H H1 := ⟨fun b o _ q => e b o q, fun a q => by obtain ⟨s, t, p, z⟩ := h a q; exact ⟨s, t, p, e a _ z⟩⟩
theorem Ex.new {p : Addr} {o : HO} (h : H p = none) : Ex H (upd H p o) := fun a u e => by
  rw [upd_ne (ne_of_none e h)]; exact e
theorem To.new {p : Addr} {o : HO} (h : H p = none) (s : StB B H) : To B H (upd H p o) := .of (.new h) s
end
/-! ### what stands in the slots -/
inductive Vw where
  | no | da (d : D) | st
def IsV (c : Cl) (G : Hp) (B : Option Addr) (v : V) : Vw → Prop
  | .no => False
  | .da d => Is c G v d
  | .st => ∃ a, B = some a ∧ v = .ref a
theorem IsV.mono {c : Cl} {G G' : Hp} {B : Option Addr} {v : V} {w : Vw} (e : Ex G G') (h : IsV c G B v w) : IsV c G' B v w := by
  cases w with
  | no => exact h
  | da d => exact Is.mono e h
  | st => exact h
structure Rep (c : Cl) (Γ : List Vw) (σ : St) (G : Hp) (B : Option Addr) : Prop where
  len : σ.length = Γ.length
  at_ : ∀ (i : Nat) (w : Vw), Γ[i]? = some w → w ≠ .no → ∃ v, σ[i]? = some (some v) ∧ IsV c G B v w
theorem Rep.mono {c : Cl} {Γ : List Vw} {σ : St} {G G' : Hp} {B : Option Addr} (e : Ex G G') (h : Rep c Γ σ G B) : Rep c Γ σ G' B :=
  ⟨h.len, fun i w a n => by obtain ⟨v, e1, e2⟩ := h.at_ i w a n; exact ⟨v, e1, e2.mono e⟩⟩
/-! ### a family of contexts that run one text (a comprehension's block runs in any of its contexts) -/
structure Fm where
  ι : Type
  X : ι → Cx
  prog : Program
  w : World
  K : PySem.W.Frag
  mg : Str → Option Value
  base : Heap
  N : List Str
  A : Around
  hp : ∀ i, (X i).prog = prog
  hw : ∀ i, (X i).w = w
  hK : ∀ i, (X i).K = K
  hmg : ∀ i, (X i).mg = mg
  hb : ∀ i, (X i).base = base
  hN : ∀ i, (X i).N = N
  hA : ∀ i, (X i).A = A
  calm : ∀ i, (X i).calm = true
  nd : N.Nodup
/-! ### the weakest readings -/
section
variable (X : Fm)
def wE (e : Expr) : TE := fun σ H Q => ∃ te, (∀ i, PE (X.X i) e te) ∧ te σ H Q
def wT (e : Expr) : TT := fun σ H Q => ∃ te, (∀ i, PT (X.X i) e te) ∧ te σ H Q
def wA (es : List Expr) : TA := fun σ H Q => ∃ ta, (∀ i, PA (X.X i) es ta) ∧ ta σ H Q
def wS (st : Stmt) : TS := fun Dn σ H => ∃ t, (∀ i, PS (X.X i) st t) ∧ t Dn σ H
def wSs (sts : List Stmt) : TS := fun Dn σ H => ∃ t, (∀ i, PSs (X.X i) sts t) ∧ t Dn σ H
def wI (tg it : Expr) : TI := fun σ H R => ∃ t, (∀ i, PI (X.X i) tg it t) ∧ t σ H R
def wG (tg : Expr) : TG := fun v σ H Q => ∃ g, (∀ i, PG (X.X i) tg g) ∧ g v σ H Q
end
section
variable {X : Fm}
theorem pe_w (e : Expr) (i : X.ι) : PE (X.X i) e (wE X e) := ⟨fun pins s σ H Q I ⟨te, h, q⟩ => (h i).run pins s σ H Q I q⟩
theorem pt_w (e : Expr) (i : X.ι) : PT (X.X i) e (wT X e) := ⟨fun pins s σ H Q I ⟨te, h, q⟩ => (h i).run pins s σ H Q I q⟩
theorem pa_w (es : List Expr) (i : X.ι) : PA (X.X i) es (wA X es) := ⟨fun pos pins s σ H Q I ⟨te, h, q⟩ => (h i).run pos pins s σ H Q I q⟩
theorem ps_w (st : Stmt) (i : X.ι) : PS (X.X i) st (wS X st) := ⟨fun pins s σ H D I ⟨te, h, q⟩ => (h i).run pins s σ H D I q⟩
theorem pss_w (sts : List Stmt) (i : X.ι) : PSs (X.X i) sts (wSs X sts) := ⟨fun pins s σ H D I ⟨te, h, q⟩ => (h i).run pins s σ H D I q⟩
theorem pi_w (tg it : Expr) (i : X.ι) : PI (X.X i) tg it (wI X tg it) := ⟨fun pins s σ H R I ⟨te, h, q⟩ => (h i).run pins s σ H R I q⟩
theorem pg_w (tg : Expr) (i : X.ι) : PG (X.X i) tg (wG X tg) := ⟨fun pins s σ H v u Q I r ⟨te, h, q⟩ => (h i).run pins s σ H v u Q I r q⟩
end
/-! ### what an expression gives -/
/-- e gives a value that says some d with P d; nothing that stood is changed (but the law's state) -/
def GE (c : Cl) (X : Fm) (e : Expr) (Γ : List Vw) (P : D → Prop) : Prop :=
  ∀ (σ : St) (M : Addr → Prop) (B : Option Addr) (H : Hp), Rep c Γ σ (hid M H) B → Hc M B H → ∀ Q : VK, (∀ d v H', To B H H' → P d → Is c (hid M H') v d → Q v H') → wE X e σ H Q
abbrev GV (c : Cl) (X : Fm) (e : Expr) (Γ : List Vw) (d : D) : Prop := GE c X e Γ (fun x => x = d)
/-- e gives a new list whose items say ds with P ds -/
def GL (c : Cl) (X : Fm) (e : Expr) (Γ : List Vw) (P : List D → Prop) : Prop :=
  ∀ (σ : St) (M : Addr → Prop) (B : Option Addr) (H : Hp), Rep c Γ σ (hid M H) B → Hc M B H → ∀ Q : VK,
    (∀ ds a vs H', To B H H' → P ds → H a = none → H' a = some (.lst vs) → IsL c (hid (fun b => b = a ∨ M b) H') vs ds → Q (.ref a) H') → wE X e σ H Q
def GT (c : Cl) (X : Fm) (e : Expr) (Γ : List Vw) (P : Bool → Prop) : Prop :=
  ∀ (σ : St) (M : Addr → Prop) (B : Option Addr) (H : Hp), Rep c Γ σ (hid M H) B → Hc M B H → ∀ Q : Bool → Hp → Prop, (∀ k H', To B H H' → P k → Q k H') → wT X e σ H Q
abbrev GB (c : Cl) (X : Fm) (e : Expr) (Γ : List Vw) (k : Bool) : Prop := GT c X e Γ (fun x => x = k)
/-- arguments -/
def GA (c : Cl) (X : Fm) (es : List Expr) (Γ : List Vw) (P : List Vw → Prop) : Prop :=
  ∀ (σ : St) (M : Addr → Prop) (B : Option Addr) (H : Hp), Rep c Γ σ (hid M H) B → Hc M B H → ∀ Q : List V → Hp → Prop,
    (∀ ws vs H', To B H H' → P ws → Paired (IsV c (hid M H') B) vs ws → Q vs H') → wA X es σ H Q
section
variable {c : Cl} {X : Fm} {e : Expr} {Γ : List Vw} {P P' : D → Prop}
theorem GE.imp (h : GE c X e Γ P) (i : ∀ d, P d → P' d) : GE c X e Γ P' := fun σ M B H r hc Q k => h σ M B H r hc Q fun d v H' t p s => k d v H' t (i d p) s
theorem GV.p {d : D} (h : GV c X e Γ d) (p : P d) : GE c X e Γ P := GE.imp h fun x q => by rw [q]; exact p
theorem GV.eq {d d' : D} (h : GV c X e Γ d) (q : d = d') : GV c X e Γ d' := by rw [← q]; exact h
theorem GL.ge {P : List D → Prop} (h : GL c X e Γ P) : GE c X e Γ (fun d => ∃ ds, d = .lst ds ∧ P ds) := fun σ M B H r hc Q k =>
  h σ M B H r hc Q fun ds a vs H' t p n s i => k (.lst ds) _ H' t ⟨ds, rfl, p⟩ (IsL.lstI (hid_some.mpr ⟨fun z => by { obtain ⟨ws, q⟩ := hc.ml a z; rw [n] at q; cases q }, s⟩) (i.mono (hid_sub fun b z => .inr z)))
theorem GL.gv {ds : List D} (h : GL c X e Γ (fun x => x = ds)) : GV c X e Γ (.lst ds) := GE.imp (GL.ge h) fun d ⟨es, e1, e2⟩ => by rw [e1, e2]
theorem GL.imp {P P' : List D → Prop} (h : GL c X e Γ P) (i : ∀ d, P d → P' d) : GL c X e Γ P' := fun σ M B H r hc Q k => h σ M B H r hc Q fun d a v H' t p n s z => k d a v H' t (i d p) n s z
theorem GT.imp {P P' : Bool → Prop} (h : GT c X e Γ P) (i : ∀ d, P d → P' d) : GT c X e Γ P' := fun σ M B H r hc Q k => h σ M B H r hc Q fun d H' t p => k d H' t (i d p)
theorem GB.eq {k k' : Bool} (h : GB c X e Γ k) (q : k = k') : GB c X e Γ k' := by rw [← q]; exact h
theorem ga_nil : GA c X [] Γ (fun x => x = []) := fun σ M B H r hc Q k => ⟨_, fun _ => pa_nil, k [] [] H (.refl hc.st) rfl .nil⟩
theorem ga_cons {a : Expr} {es : List Expr} {P : D → Prop} {Ps : List Vw → Prop} (ha : GE c X a Γ P) (ht : GA c X es Γ Ps) (hs : ∀ i, starEach (a :: es) (X.X i).env = (false, eval a (X.X i).env) :: starEach es (X.X i).env := by intro _; rfl) : GA c X (a :: es) Γ (fun x => ∃ d ws, x = .da d :: ws ∧ P d ∧ Ps ws) := fun σ M B H r hc Q k =>
  ⟨_, fun i => pa_cons (pe_w a i) (pa_w es i) (hs i), ha σ M B H r hc _ fun d v H1 t1 p1 s1 => ht σ M B H1 (r.mono (t1.hid hc.bm)) (t1.hc hc) _ fun ws vs H2 t2 p2 s2 =>
    k (.da d :: ws) (v :: vs) H2 (t1.trans t2) ⟨d, ws, rfl, p1, p2⟩ (.cons (s1.mono (t2.hid hc.bm)) s2)⟩
theorem ga_consV {a : Expr} {es : List Expr} {d : D} {ws : List Vw} (ha : GV c X a Γ d) (ht : GA c X es Γ (fun x => x = ws)) (hs : ∀ i, starEach (a :: es) (X.X i).env = (false, eval a (X.X i).env) :: starEach es (X.X i).env := by intro _; rfl) : GA c X (a :: es) Γ (fun x => x = .da d :: ws) := fun σ M B H r hc Q k =>
  ga_cons ha ht hs σ M B H r hc Q fun ws' vs H' t ⟨d', ws'', e1, e2, e3⟩ s => k ws' vs H' t (by rw [e1, e2, e3]) s
end
end K33
end
section
set_option Elab.async false
set_option linter.all false
set_option maxRecDepth 100000
/-! B2: the rules of expressions -/
namespace K33
open PySem L2
variable {c : Cl} {X : Fm} {Γ : List Vw}
theorem Paired.inv1 {α β : Type} {F : α → β → Prop} {l : List α} {b : β} (p : Paired F l [b]) : ∃ a, l = [a] ∧ F a b := by
  cases p with
  | cons h t => cases t; exact ⟨_, rfl, h⟩
theorem Paired.inv2 {α β : Type} {F : α → β → Prop} {l : List α} {b b' : β} (p : Paired F l [b, b']) : ∃ a a', l = [a, a'] ∧ F a b ∧ F a' b' := by
  cases p with
  | cons h t =>
    obtain ⟨a', rfl, h'⟩ := Paired.inv1 t
    exact ⟨_, _, rfl, h, h'⟩
/-! ### names, constants -/
theorem gv_var (j : Nat) {x : Str} {pos : Pos} {d : D} (hΓ : Γ[j]? = some (.da d) := by rfl) (hN : X.N[j]? = some x := by rfl) (hv : ∀ i, Vis (X.X i).env.scope x := by first | exact fun _ => Or.inl rfl | exact fun _ => Or.inr (Or.inl rfl) | exact fun _ => Or.inr (Or.inr rfl))
    (hd : (x == ("__debug__" : Str)) = false := by decide) (hcd : (x == ("__classdict__" : Str)) = false := by decide) : GV c X (.Name x pos) Γ d := fun σ M B H r hc Q k => by
  obtain ⟨v, e1, e2⟩ := r.at_ j _ hΓ (fun z => nomatch z)
  exact ⟨_, fun i => pe_var (by rw [X.hN i]; exact hN) (hv i) hd hcd, v, e1, k d v H (.refl hc.st) rfl e2⟩
/-- the state's name as an argument -/
theorem ga_consS (j : Nat) {x : Str} {pos : Pos} {es : List Expr} {ws : List Vw} (ht : GA c X es Γ (fun z => z = ws)) (hΓ : Γ[j]? = some .st := by rfl) (hN : X.N[j]? = some x := by rfl) (hv : ∀ i, Vis (X.X i).env.scope x := by first | exact fun _ => Or.inl rfl | exact fun _ => Or.inr (Or.inl rfl) | exact fun _ => Or.inr (Or.inr rfl))
    (hd : (x == ("__debug__" : Str)) = false := by decide) (hcd : (x == ("__classdict__" : Str)) = false := by decide) (hs : ∀ i, starEach (Expr.Name x pos :: es) (X.X i).env = (false, eval (Expr.Name x pos) (X.X i).env) :: starEach es (X.X i).env := by intro _; rfl) :
    GA c X (.Name x pos :: es) Γ (fun z => z = .st :: ws) := fun σ M B H r hc Q k => by
  obtain ⟨v, e1, e2⟩ := r.at_ j _ hΓ (fun z => nomatch z)
  refine ⟨_, fun i => pa_cons (pe_var (by rw [X.hN i]; exact hN) (hv i) hd hcd) (pa_w es i) (hs i), v, e1, ?_⟩
  refine ht σ M B H r hc _ fun ws' vs H2 t p s => ?_
  exact k (.st :: ws') (v :: vs) H2 t (by rw [p]) (.cons e2 s)
theorem ga_consSP (j : Nat) {x : Str} {pos : Pos} {es : List Expr} {Ps : List Vw → Prop} (ht : GA c X es Γ Ps) (hΓ : Γ[j]? = some .st := by rfl) (hN : X.N[j]? = some x := by rfl) (hv : ∀ i, Vis (X.X i).env.scope x := by first | exact fun _ => Or.inl rfl | exact fun _ => Or.inr (Or.inl rfl) | exact fun _ => Or.inr (Or.inr rfl))
    (hd : (x == ("__debug__" : Str)) = false := by decide) (hcd : (x == ("__classdict__" : Str)) = false := by decide) (hs : ∀ i, starEach (Expr.Name x pos :: es) (X.X i).env = (false, eval (Expr.Name x pos) (X.X i).env) :: starEach es (X.X i).env := by intro _; rfl) :
    GA c X (.Name x pos :: es) Γ (fun z => ∃ ws, z = .st :: ws ∧ Ps ws) := fun σ M B H r hc Q k => by
  obtain ⟨v, e1, e2⟩ := r.at_ j _ hΓ (fun z => nomatch z)
  refine ⟨_, fun i => pa_cons (pe_var (by rw [X.hN i]; exact hN) (hv i) hd hcd) (pa_w es i) (hs i), v, e1, ?_⟩
  refine ht σ M B H r hc _ fun ws' vs H2 t p s => ?_
  exact k (.st :: ws') (v :: vs) H2 t ⟨ws', rfl, p⟩ (.cons e2 s)
theorem gv_int {i : Int} {j pos} : GV c X (.Constant (.int i) j pos) Γ (.int i) := fun σ M B H r hc Q k => ⟨_, fun _ => pe_int, k _ _ H (.refl hc.st) rfl (.int i)⟩
theorem gv_bl {b : Bool} {j pos} : GV c X (.Constant (.bool b) j pos) Γ (.bl b) := fun σ M B H r hc Q k => ⟨_, fun _ => pe_bl, k _ _ H (.refl hc.st) rfl (.bl b)⟩
theorem gv_str {x} {j pos} : GV c X (.Constant (.str x) j pos) Γ (.str x) := fun σ M B H r hc Q k => ⟨_, fun _ => pe_str, k _ _ H (.refl hc.st) rfl (.str _)⟩
theorem gv_non {j pos} : GV c X (.Constant .none j pos) Γ .non := fun σ M B H r hc Q k => ⟨_, fun _ => pe_non, k _ _ H (.refl hc.st) rfl .non⟩
/-! ### operators -/
/-- what an operation on values gives -/
def RD (c : Cl) (r : R2) (x y : D) (P : D → Prop) : Prop := ∀ (M : Addr → Prop) (B : Option Addr) (H : Hp) (v w : V), Hc M B H → Is c (hid M H) v x → Is c (hid M H) w y → ∀ Q : VK, (∀ d u H', To B H H' → P d → Is c (hid M H') u d → Q u H') → r v w H Q
theorem ge_op {a b : Expr} {pos : Pos} {op : Operator} {r : R2} {P Pa Pb : D → Prop} (ho : ∀ i, OpR (X.X i) (binaryOp op) r) (ha : GE c X a Γ Pa) (hb : GE c X b Γ Pb) (h : ∀ x y, Pa x → Pb y → RD c r x y P) : GE c X (.BinOp a op b pos) Γ P := fun σ M B H r hc Q k =>
  ⟨_, fun i => pe_op (ho i) (pe_w a i) (pe_w b i), ha σ M B H r hc _ fun x v H1 t1 p1 s1 => hb σ M B H1 (r.mono (t1.hid hc.bm)) (t1.hc hc) _ fun y w H2 t2 p2 s2 =>
    h x y p1 p2 M B H2 v w (t2.hc (t1.hc hc)) (s1.mono (t2.hid hc.bm)) s2 Q fun d u H3 t3 p s => k d u H3 ((t1.trans t2).trans t3) p s⟩
theorem ge_cmp {a b : Expr} {pos : Pos} {op : CmpOp} {r : R2} {P Pa Pb : D → Prop} (ho : ∀ i, OpR (X.X i) (compareOp op) r) (ha : GE c X a Γ Pa) (hb : GE c X b Γ Pb) (h : ∀ x y, Pa x → Pb y → RD c r x y P) (hm : behindInMarks op b = false := by first | exact nomark _ | rfl) :
    GE c X (.Compare a [op] [b] pos) Γ P := fun σ M B H r hc Q k =>
  ⟨_, fun i => pe_cmpR (ho i) (pe_w a i) (pe_w b i) hm, ha σ M B H r hc _ fun x v H1 t1 p1 s1 => hb σ M B H1 (r.mono (t1.hid hc.bm)) (t1.hc hc) _ fun y w H2 t2 p2 s2 =>
    h x y p1 p2 M B H2 v w (t2.hc (t1.hc hc)) (s1.mono (t2.hid hc.bm)) s2 Q fun d u H3 t3 p s => k d u H3 ((t1.trans t2).trans t3) p s⟩
theorem rd_I {C : Int → Int → Prop} {g : Int → Int → V} {i j : Int} {d : D} (hC : C i j) (hg : ∀ G, Is c G (g i j) d) : RD c (rI C g) (.int i) (.int j) (fun x => x = d) := fun M B H v w hc h1 h2 Q k => by
  rw [h1.intE, h2.intE]
  exact ⟨i, j, rfl, rfl, hC, k d _ H (.refl hc.st) rfl (hg _)⟩
theorem rd_I0 {g : Int → Int → V} {i j : Int} {d : D} (hg : ∀ G, Is c G (g i j) d) : RD c (rI0 g) (.int i) (.int j) (fun x => x = d) := fun M B H v w hc h1 h2 Q k => by
  rw [h1.intE, h2.intE]
  exact ⟨i, j, rfl, rfl, k d _ H (.refl hc.st) rfl (hg _)⟩
section
variable {a b : Expr} {pos : Pos} {i j : Int}
theorem gv_add (ha : GV c X a Γ (.int i)) (hb : GV c X b Γ (.int j)) : GV c X (.BinOp a .Add b pos) Γ (.int (i + j)) := ge_op (fun _ => op_add) ha hb fun x y e1 e2 => by rw [e1, e2]; exact rd_I0 fun _ => .int _
theorem gv_sub (ha : GV c X a Γ (.int i)) (hb : GV c X b Γ (.int j)) : GV c X (.BinOp a .Sub b pos) Γ (.int (i - j)) := ge_op (fun _ => op_sub) ha hb fun x y e1 e2 => by rw [e1, e2]; exact rd_I0 fun _ => .int _
theorem gv_mul (ha : GV c X a Γ (.int i)) (hb : GV c X b Γ (.int j)) (h : CMul i j) : GV c X (.BinOp a .Mult b pos) Γ (.int (i * j)) := ge_op (fun _ => op_mul) ha hb fun x y e1 e2 => by rw [e1, e2]; exact rd_I h fun _ => .int _
theorem gv_mulW (ha : GV c X a Γ (.int i)) (hb : GV c X b Γ (.int j)) (h : CMulW i j) : GV c X (.BinOp a .Mult b pos) Γ (.int (i * j)) := ge_op (fun _ => op_mulW) ha hb fun x y e1 e2 => by rw [e1, e2]; exact rd_I h fun _ => .int _
theorem gv_fdivW (ha : GV c X a Γ (.int i)) (hb : GV c X b Γ (.int j)) (h : CDivW i j) : GV c X (.BinOp a .FloorDiv b pos) Γ (.int (i / j)) := ge_op (fun _ => op_fdivW) ha hb fun x y e1 e2 => by rw [e1, e2]; exact rd_I h fun _ => .int _
theorem gv_fdiv (ha : GV c X a Γ (.int i)) (hb : GV c X b Γ (.int j)) (h : CDiv i j) : GV c X (.BinOp a .FloorDiv b pos) Γ (.int (i / j)) := ge_op (fun _ => op_fdiv) ha hb fun x y e1 e2 => by rw [e1, e2]; exact rd_I h fun _ => .int _
theorem gv_mod (ha : GV c X a Γ (.int i)) (hb : GV c X b Γ (.int j)) (h : 0 < j) : GV c X (.BinOp a .Mod b pos) Γ (.int (i % j)) := ge_op (fun _ => op_mod) ha hb fun x y e1 e2 => by rw [e1, e2]; exact rd_I h fun _ => .int _
theorem gv_neg (ha : GV c X a Γ (.int i)) : GV c X (.UnaryOp .USub a pos) Γ (.int (-i)) := fun σ M B H r hc Q k =>
  ⟨_, fun i => pe_un un_neg (pe_w a i), ha σ M B H r hc _ fun x v H1 t1 p1 s1 => by rw [p1] at s1; rw [s1.intE]; exact ⟨i, rfl, k _ _ H1 t1 rfl (.int _)⟩⟩
theorem gv_lt (ha : GV c X a Γ (.int i)) (hb : GV c X b Γ (.int j)) : GV c X (.Compare a [.Lt] [b] pos) Γ (.bl (decide (i < j))) := ge_cmp (fun _ => op_lt) ha hb fun x y e1 e2 => by rw [e1, e2]; exact rd_I0 fun _ => .bl _
theorem gv_le (ha : GV c X a Γ (.int i)) (hb : GV c X b Γ (.int j)) : GV c X (.Compare a [.LtE] [b] pos) Γ (.bl (decide (i ≤ j))) := ge_cmp (fun _ => op_le) ha hb fun x y e1 e2 => by rw [e1, e2]; exact rd_I0 fun _ => .bl _
theorem gv_gt (ha : GV c X a Γ (.int i)) (hb : GV c X b Γ (.int j)) : GV c X (.Compare a [.Gt] [b] pos) Γ (.bl (decide (j < i))) := ge_cmp (fun _ => op_gt) ha hb fun x y e1 e2 => by rw [e1, e2]; exact rd_I0 fun _ => .bl _
theorem gv_ge (ha : GV c X a Γ (.int i)) (hb : GV c X b Γ (.int j)) : GV c X (.Compare a [.GtE] [b] pos) Γ (.bl (decide (j ≤ i))) := ge_cmp (fun _ => op_ge) ha hb fun x y e1 e2 => by rw [e1, e2]; exact rd_I0 fun _ => .bl _
theorem gv_eqI (ha : GV c X a Γ (.int i)) (hb : GV c X b Γ (.int j)) : GV c X (.Compare a [.Eq] [b] pos) Γ (.bl (decide (i = j))) := ge_cmp (fun _ => op_eq) ha hb fun x y e1 e2 => by
  rw [e1, e2]
  intro M B H v w hc h1 h2 Q k
  rw [h1.intE, h2.intE]
  refine ⟨rfl, ?_⟩
  have e : decide (V.int i = V.int j) = decide (i = j) := by simp
  rw [e]
  exact k _ _ H (.refl hc.st) rfl (.bl _)
theorem gv_neI (ha : GV c X a Γ (.int i)) (hb : GV c X b Γ (.int j)) : GV c X (.Compare a [.NotEq] [b] pos) Γ (.bl (!decide (i = j))) := ge_cmp (fun _ => op_ne) ha hb fun x y e1 e2 => by
  rw [e1, e2]
  intro M B H v w hc h1 h2 Q k
  rw [h1.intE, h2.intE]
  refine ⟨rfl, ?_⟩
  have e : (!decide (V.int i = V.int j)) = !decide (i = j) := by simp
  rw [e]
  exact k _ _ H (.refl hc.st) rfl (.bl _)
theorem gv_neB {i j : Bool} (ha : GV c X a Γ (.bl i)) (hb : GV c X b Γ (.bl j)) : GV c X (.Compare a [.NotEq] [b] pos) Γ (.bl (!decide (i = j))) := ge_cmp (fun _ => op_ne) ha hb fun x y e1 e2 => by
  rw [e1, e2]
  intro M B H v w hc h1 h2 Q k
  rw [h1.blE, h2.blE]
  refine ⟨rfl, ?_⟩
  have e : (!decide (V.bl i = V.bl j)) = !decide (i = j) := by simp
  rw [e]
  exact k _ _ H (.refl hc.st) rfl (.bl _)
theorem gv_eqB {i j : Bool} (ha : GV c X a Γ (.bl i)) (hb : GV c X b Γ (.bl j)) : GV c X (.Compare a [.Eq] [b] pos) Γ (.bl (decide (i = j))) := ge_cmp (fun _ => op_eq) ha hb fun x y e1 e2 => by
  rw [e1, e2]
  intro M B H v w hc h1 h2 Q k
  rw [h1.blE, h2.blE]
  refine ⟨rfl, ?_⟩
  have e : (decide (V.bl i = V.bl j)) = decide (i = j) := by simp
  rw [e]
  exact k _ _ H (.refl hc.st) rfl (.bl _)
theorem gv_eqS {i j : Str} (ha : GV c X a Γ (.str i)) (hb : GV c X b Γ (.str j)) : GV c X (.Compare a [.Eq] [b] pos) Γ (.bl (decide (i = j))) := ge_cmp (fun _ => op_eq) ha hb fun x y e1 e2 => by
  rw [e1, e2]
  intro M B H v w hc h1 h2 Q k
  rw [h1.strE, h2.strE]
  refine ⟨rfl, ?_⟩
  have e : decide (V.str i = V.str j) = decide (i = j) := by simp
  rw [e]
  exact k _ _ H (.refl hc.st) rfl (.bl _)
/-- a <= b < c as a value -/
theorem gv_leLt {c' : Expr} {l : Int} (ha : GV c X a Γ (.int i)) (hb : GV c X b Γ (.int j)) (hl : GV c X c' Γ (.int l)) (hm : lastMarks [.LtE, .Lt] [b, c'] = false := by rfl) : GV c X (.Compare a [.LtE, .Lt] [b, c'] pos) Γ (.bl (decide (i ≤ j ∧ j < l))) := fun σ M B H r hc Q k =>
  ⟨_, fun i => pe_chain op_le op_lt (pe_w a i) (pe_w b i) (pe_w c' i) hm, ha σ M B H r hc _ fun x v H1 t1 p1 s1 => hb σ M B H1 (r.mono (t1.hid hc.bm)) (t1.hc hc) _ fun y w H2 t2 p2 s2 => by
    subst p1; subst p2
    rw [s1.intE, s2.intE]
    refine ⟨i, j, rfl, rfl, decide (i ≤ j), rfl, ?_⟩
    by_cases q : i ≤ j
    · rw [if_pos (decide_eq_true q)]
      refine hl σ M B H2 (r.mono ((t1.trans t2).hid hc.bm)) ((t1.trans t2).hc hc) _ fun z u H3 t3 p3 s3 => ?_
      subst p3
      rw [s3.intE]
      refine ⟨j, l, rfl, rfl, ?_⟩
      have e : decide (j < l) = decide (i ≤ j ∧ j < l) := by simp [q]
      show Q (V.bl (decide (j < l))) H3
      rw [e]
      exact k _ _ H3 ((t1.trans t2).trans t3) rfl (.bl _)
    · rw [if_neg (by simpa using q)]
      have e : false = decide (i ≤ j ∧ j < l) := by simp [q]
      rw [e]
      exact k _ _ H2 (t1.trans t2) rfl (.bl _)⟩
end
/-! ### tests -/
section
variable {e a b : Expr} {pos : Pos} {rest : List Expr}
theorem gb_val {k : Bool} (h : GV c X e Γ (.bl k)) (he : ∀ i whole, isTrue e (X.X i).env whole = (do let v ← whole; standAt e.pos; holding [v] (truthy v)) := by intro _ _; rfl) : GB c X e Γ k := fun σ M B H r hc Q q =>
  ⟨_, fun i => pt_val (pe_w e i) (he i), h σ M B H r hc _ fun x v H1 t p s => by subst p; rw [s.blE]; exact ⟨k, rfl, q k H1 t rfl⟩⟩
theorem gt_val {P : Bool → Prop} (h : GE c X e Γ (fun d => ∃ k, d = .bl k ∧ P k)) (he : ∀ i whole, isTrue e (X.X i).env whole = (do let v ← whole; standAt e.pos; holding [v] (truthy v)) := by intro _ _; rfl) : GT c X e Γ P := fun σ M B H r hc Q q =>
  ⟨_, fun i => pt_val (pe_w e i) (he i), h σ M B H r hc _ fun x v H1 t ⟨k, p, pk⟩ s => by subst p; rw [s.blE]; exact ⟨k, rfl, q k H1 t pk⟩⟩
theorem gb_not {k : Bool} (h : GB c X a Γ k) : GB c X (.UnaryOp .Not a pos) Γ (!k) := fun σ M B H r hc Q q =>
  ⟨_, fun i => pt_not (pt_w a i), h σ M B H r hc _ fun x H1 t p => by subst p; exact q _ H1 t rfl⟩
def wW (X : Fm) (e : Expr) : TT := fun σ H Q => ∃ te, (∀ i, PW (X.X i) e te) ∧ te σ H Q
theorem pw_w (e : Expr) (i : X.ι) : PW (X.X i) e (wW X e) := ⟨fun wh pins s σ H Q I ⟨te, h, q⟩ => (h i).run wh pins s σ H Q I q⟩
def GW (c : Cl) (X : Fm) (e : Expr) (Γ : List Vw) (P : Bool → Prop) : Prop :=
  ∀ (σ : St) (M : Addr → Prop) (B : Option Addr) (H : Hp), Rep c Γ σ (hid M H) B → Hc M B H → ∀ Q : Bool → Hp → Prop, (∀ k H', To B H H' → P k → Q k H') → wW X e σ H Q
theorem gw_gt {P : Bool → Prop} (h : GW c X e Γ P) : GT c X e Γ P := fun σ M B H r hc Q q => ⟨_, fun i => (pw_w e i).pt, h σ M B H r hc Q q⟩
theorem gw_and1 {P : Bool → Prop} (h : GT c X a Γ P) : GW c X (.BoolOp .And [a] pos) Γ P := fun σ M B H r hc Q q => ⟨_, fun i => pw_and1 (pt_w a i), h σ M B H r hc Q q⟩
theorem gw_or1 {P : Bool → Prop} (h : GT c X a Γ P) : GW c X (.BoolOp .Or [a] pos) Γ P := fun σ M B H r hc Q q => ⟨_, fun i => pw_or1 (pt_w a i), h σ M B H r hc Q q⟩
theorem gw_and {P1 P2 P : Bool → Prop} (h1 : GT c X a Γ P1) (h2 : P1 true → GW c X (.BoolOp .And (b :: rest) pos) Γ P2) (ht : ∀ k, P2 k → P k) (hf : P1 false → P false) : GW c X (.BoolOp .And (a :: b :: rest) pos) Γ P := fun σ M B H r hc Q q =>
  ⟨_, fun i => pw_and (pt_w a i) (pw_w _ i), h1 σ M B H r hc _ fun x H1 t p => by
    cases x with
    | true =>
      rw [if_pos rfl]
      exact h2 p σ M B H1 (r.mono (t.hid hc.bm)) (t.hc hc) Q fun k H2 t2 p2 => q k H2 (t.trans t2) (ht k p2)
    | false =>
      rw [if_neg (by simp)]
      exact q _ H1 t (hf p)⟩
theorem gw_or {P1 P2 P : Bool → Prop} (h1 : GT c X a Γ P1) (h2 : P1 false → GW c X (.BoolOp .Or (b :: rest) pos) Γ P2) (ht : ∀ k, P2 k → P k) (hf : P1 true → P true) : GW c X (.BoolOp .Or (a :: b :: rest) pos) Γ P := fun σ M B H r hc Q q =>
  ⟨_, fun i => pw_or (pt_w a i) (pw_w _ i), h1 σ M B H r hc _ fun x H1 t p => by
    cases x with
    | false =>
      rw [if_neg (by simp)]
      exact h2 p σ M B H1 (r.mono (t.hid hc.bm)) (t.hc hc) Q fun k H2 t2 p2 => q k H2 (t.trans t2) (ht k p2)
    | true =>
      rw [if_pos rfl]
      exact q _ H1 t (hf p)⟩
/-- a and b as a test, the second asked only where the first holds -/
theorem gb_and {k l : Bool} (h1 : GB c X a Γ k) (h2 : k = true → GB c X b Γ l) : GB c X (.BoolOp .And [a, b] pos) Γ (k && l) :=
  gw_gt (gw_and h1 (fun e => gw_and1 ((h2 e.symm).imp fun x q => ⟨q, e.symm⟩)) (P2 := fun x => x = l ∧ k = true) (fun x ⟨e1, e2⟩ => by rw [e1, e2]; rfl) (fun e => by rw [← e]; rfl) |> fun h => h)
theorem gb_or {k l : Bool} (h1 : GB c X a Γ k) (h2 : k = false → GB c X b Γ l) : GB c X (.BoolOp .Or [a, b] pos) Γ (k || l) :=
  gw_gt (gw_or h1 (fun e => gw_or1 ((h2 e.symm).imp fun x q => ⟨q, e.symm⟩)) (P2 := fun x => x = l ∧ k = false) (fun x ⟨e1, e2⟩ => by rw [e1, e2]; rfl) (fun e => by rw [← e]; rfl) |> fun h => h)
end
end K33
end
section
set_option Elab.async false
set_option linter.all false
set_option maxRecDepth 100000
/-! B3: fields, displays, subscripts, calls -/
namespace K33
open PySem L2
variable {c : Cl} {X : Fm} {Γ : List Vw}
/-- what the top has made of the two classes -/
structure Ct (c : Cl) (K : PySem.W.Frag) : Prop where
  clR : Cls K c.R
  rN : NoAttr K c.R "n"
  rD : NoAttr K c.R "d"
  clM : Cls K c.M
  mN : NoAttr K c.M "n"
  mR : NoAttr K c.M "rows"
theorem Hc.no {M : Addr → Prop} {B : Option Addr} {H : Hp} {p : Addr} (hc : Hc M B H) (h : H p = none) : ¬ M p := fun z => by
  obtain ⟨vs, q⟩ := hc.ml p z
  rw [h] at q
  cases q
theorem To.free {B : Option Addr} {H H1 : Hp} {p : Addr} (t : To B H H1) (h : H1 p = none) : H p = none := by
  cases q : H p with
  | none => rfl
  | some o =>
    by_cases e : B = some p
    · obtain ⟨_, _, _, z⟩ := t.st p e; rw [h] at z; cases z
    · have := t.ex p o e q; rw [h] at this; cases this
theorem hid_new {M : Addr → Prop} {H : Hp} {p : Addr} {o : HO} (h : ¬ M p) : hid M (upd H p o) p = some o := hid_some.mpr ⟨h, upd_same⟩
theorem ratF_no {n d : Int} {m : Str} (h1 : (m == ("n" : Str)) = false) (h2 : (m == ("d" : Str)) = false) : (ratF n d).lookup m = none := by
  simp only [ratF, List.lookup, h1, h2]
theorem ratF_n {n d : Int} : (ratF n d).lookup ("n" : Str) = some (.int n) := by simp [ratF, List.lookup]
theorem ratF_d {n d : Int} : (ratF n d).lookup ("d" : Str) = some (.int d) := by
  have h : (("d" : Str) == ("n" : Str)) = false := by decide
  simp [ratF, List.lookup, h]
theorem metF_no {n : Int} {a : Addr} {m : Str} (h1 : (m == ("n" : Str)) = false) (h2 : (m == ("rows" : Str)) = false) : (metF n a).lookup m = none := by
  simp only [metF, List.lookup, h1, h2]
theorem metF_n {n : Int} {a : Addr} : (metF n a).lookup ("n" : Str) = some (.int n) := by simp [metF, List.lookup]
theorem metF_r {n : Int} {a : Addr} : (metF n a).lookup ("rows" : Str) = some (.ref a) := by
  have h : (("rows" : Str) == ("n" : Str)) = false := by decide
  simp [metF, List.lookup, h]
/-! ### and, or as values; a if t else b -/
section
variable {a b : Expr} {pos : Pos} {rest : List Expr}
theorem gv_one {op} {d : D} (h : GV c X a Γ d) : GV c X (.BoolOp op [a] pos) Γ d := fun σ M B H r hc Q k => ⟨_, fun i => pe_one (pe_w a i), h σ M B H r hc Q k⟩
theorem gv_and {k l : Bool} (h1 : GV c X a Γ (.bl k)) (h2 : k = true → GV c X (.BoolOp .And (b :: rest) pos) Γ (.bl l)) : GV c X (.BoolOp .And (a :: b :: rest) pos) Γ (.bl (k && l)) := fun σ M B H r hc Q q =>
  ⟨_, fun i => pe_and (pe_w a i) (pe_w _ i), h1 σ M B H r hc _ fun x v H1 t p s => by
    subst p
    rw [s.blE]
    refine ⟨k, rfl, ?_⟩
    cases k with
    | true => exact h2 rfl σ M B H1 (r.mono (t.hid hc.bm)) (t.hc hc) Q fun d u H2 t2 p2 s2 => q d u H2 (t.trans t2) (by rw [p2]; rfl) s2
    | false => exact q (.bl false) _ H1 t rfl (.bl false)⟩
theorem gv_or {k l : Bool} (h1 : GV c X a Γ (.bl k)) (h2 : k = false → GV c X (.BoolOp .Or (b :: rest) pos) Γ (.bl l)) : GV c X (.BoolOp .Or (a :: b :: rest) pos) Γ (.bl (k || l)) := fun σ M B H r hc Q q =>
  ⟨_, fun i => pe_or (pe_w a i) (pe_w _ i), h1 σ M B H r hc _ fun x v H1 t p s => by
    subst p
    rw [s.blE]
    refine ⟨k, rfl, ?_⟩
    cases k with
    | false => exact h2 rfl σ M B H1 (r.mono (t.hid hc.bm)) (t.hc hc) Q fun d u H2 t2 p2 s2 => q d u H2 (t.trans t2) (by rw [p2]; rfl) s2
    | true => exact q (.bl true) _ H1 t rfl (.bl true)⟩
theorem gv_notV {k : Bool} (h1 : GV c X a Γ (.bl k)) : GV c X (.UnaryOp .Not a pos) Γ (.bl (!k)) := fun σ M B H r hc Q q =>
  ⟨_, fun i => pe_not (pe_w a i), h1 σ M B H r hc _ fun x v H1 t p s => by
    subst p
    rw [s.blE]
    exact ⟨k, rfl, q _ _ H1 t rfl (.bl _)⟩⟩
theorem ge_if {t : Expr} {P : D → Prop} {k : Bool} (ht : GB c X t Γ k) (h1 : k = true → GE c X a Γ P) (h2 : k = false → GE c X b Γ P) : GE c X (.IfExp t a b pos) Γ P := fun σ M B H r hc Q q =>
  ⟨_, fun i => pe_ifExp (pt_w t i) (pe_w a i) (pe_w b i), ht σ M B H r hc _ fun x H1 t1 p => by
    subst p
    cases x with
    | true => exact h1 rfl σ M B H1 (r.mono (t1.hid hc.bm)) (t1.hc hc) Q fun d u H2 t2 p2 s2 => q d u H2 (t1.trans t2) p2 s2
    | false => exact h2 rfl σ M B H1 (r.mono (t1.hid hc.bm)) (t1.hc hc) Q fun d u H2 t2 p2 s2 => q d u H2 (t1.trans t2) p2 s2⟩
theorem gv_if {t : Expr} {d : D} {k : Bool} (ht : GB c X t Γ k) (h1 : k = true → GV c X a Γ d) (h2 : k = false → GV c X b Γ d) : GV c X (.IfExp t a b pos) Γ d := ge_if ht h1 h2
end
/-! ### fields -/
section
variable {o : Expr} {pos : Pos}
theorem pe_fldF {f : Str} (hb : ∀ i, attributeBase o f (X.X i).env (eval o (X.X i).env) = eval o (X.X i).env) (i : X.ι) : PE (X.X i) (.Attribute o f pos) (tFld X.K (wE X o) f) := by
  rw [← X.hK i]
  exact pe_fld (pe_w o i) (hb i)
theorem gv_n {q : Rat} (T : Ct c X.K) (h : GV c X o Γ (.rat q)) (hb : ∀ i, attributeBase o "n" (X.X i).env (eval o (X.X i).env) = eval o (X.X i).env := by intro _; rfl) : GV c X (.Attribute o "n" pos) Γ (.int q.num) := fun σ M B H r hc Q k =>
  ⟨_, pe_fldF hb, h σ M B H r hc _ fun x v H1 t p s => by
    subst p
    obtain ⟨a, dx, rfl, e⟩ := s.ratE
    exact ⟨a, c.R, dx, _, _, rfl, hid_le _ _ e, T.clR, T.rN, ratF_n, k _ _ H1 t rfl (.int _)⟩⟩
theorem gv_d {q : Rat} (T : Ct c X.K) (h : GV c X o Γ (.rat q)) (hb : ∀ i, attributeBase o "d" (X.X i).env (eval o (X.X i).env) = eval o (X.X i).env := by intro _; rfl) : GV c X (.Attribute o "d" pos) Γ (.int q.den) := fun σ M B H r hc Q k =>
  ⟨_, pe_fldF hb, h σ M B H r hc _ fun x v H1 t p s => by
    subst p
    obtain ⟨a, dx, rfl, e⟩ := s.ratE
    exact ⟨a, c.R, dx, _, _, rfl, hid_le _ _ e, T.clR, T.rD, ratF_d, k _ _ H1 t rfl (.int _)⟩⟩
theorem gv_mn {n : Nat} {ds : List D} (T : Ct c X.K) (h : GV c X o Γ (.met n ds)) (hb : ∀ i, attributeBase o "n" (X.X i).env (eval o (X.X i).env) = eval o (X.X i).env := by intro _; rfl) : GV c X (.Attribute o "n" pos) Γ (.int n) := fun σ M B H r hc Q k =>
  ⟨_, pe_fldF hb, h σ M B H r hc _ fun x v H1 t p s => by
    subst p
    obtain ⟨a, dx, b, rfl, e, e2⟩ := s.metE
    exact ⟨a, c.M, dx, _, _, rfl, hid_le _ _ e, T.clM, T.mN, metF_n, k _ _ H1 t rfl (.int _)⟩⟩
theorem gv_mr {n : Nat} {ds : List D} (T : Ct c X.K) (h : GV c X o Γ (.met n ds)) (hb : ∀ i, attributeBase o "rows" (X.X i).env (eval o (X.X i).env) = eval o (X.X i).env := by intro _; rfl) : GV c X (.Attribute o "rows" pos) Γ (.tup ds) := fun σ M B H r hc Q k =>
  ⟨_, pe_fldF hb, h σ M B H r hc _ fun x v H1 t p s => by
    subst p
    obtain ⟨a, dx, b, rfl, e, e2⟩ := s.metE
    exact ⟨a, c.M, dx, _, _, rfl, hid_le _ _ e, T.clM, T.mR, metF_r, k _ _ H1 t rfl e2⟩⟩
end
/-! ### displays -/
theorem paired_isL {M : Addr → Prop} {B : Option Addr} {H : Hp} {vs : List V} {ds : List D} (p : Paired (IsV c (hid M H) B) vs (ds.map .da)) : IsL c (hid M H) vs ds := by
  induction ds generalizing vs with
  | nil => cases p; exact .nil
  | cons d ds ih =>
    cases p with
    | cons h t => exact .cons h (ih t)
theorem gv_tup {es : List Expr} {pos : Pos} {x1 : Nat} {ds : List D} (ha : GA c X es Γ (fun z => z = ds.map .da)) (hl : ds.length ≤ 100000 := by exact Nat.le_of_ble_eq_true rfl) : GV c X (.Tuple es x1 pos) Γ (.tup ds) := fun σ M B H r hc Q k =>
  ⟨_, fun i => pe_tup (pa_w es i), ha σ M B H r hc _ fun ws vs H1 t p s => by
    subst p
    have l := paired_isL s
    refine ⟨by rw [l.len]; exact Nat.le_trans hl (by decide), fun q hq => ?_⟩
    have nq := (t.hc hc).no hq
    exact k _ _ _ (t.trans (.new hq t.st)) rfl (IsL.tupI (hid_new nq) (l.mono ((To.new hq t.st).hid hc.bm)))⟩
theorem ge_tup {es : List Expr} {pos : Pos} {x1 : Nat} {Ps : List Vw → Prop} (ha : GA c X es Γ Ps) {P : D → Prop} (h : ∀ ws, Ps ws → ∃ ds : List D, ws = ds.map .da ∧ ds.length ≤ 100000 ∧ P (.tup ds)) : GE c X (.Tuple es x1 pos) Γ P := fun σ M B H r hc Q k =>
  ⟨_, fun i => pe_tup (pa_w es i), ha σ M B H r hc _ fun ws vs H1 t p s => by
    obtain ⟨ds, rfl, hl, hp⟩ := h ws p
    have l := paired_isL s
    refine ⟨by rw [l.len]; exact Nat.le_trans hl (by decide), fun q hq => ?_⟩
    have nq := (t.hc hc).no hq
    exact k _ _ _ (t.trans (.new hq t.st)) hp (IsL.tupI (hid_new nq) (l.mono ((To.new hq t.st).hid hc.bm)))⟩
/-- a new list of the values vs -/
theorem new_lst {M : Addr → Prop} {B : Option Addr} {H : Hp} {vs : List V} {ds : List D} {p : Addr} (hc : Hc M B H) (l : IsL c (hid M H) vs ds) (hp : H p = none) : IsL c (hid (fun b => b = p ∨ M b) (upd H p (.lst vs))) vs ds :=
  l.mono fun b o e => by
    obtain ⟨e1, e2⟩ := hid_some.mp e
    have nb : b ≠ p := fun z => by rw [z, hp] at e2; cases e2
    exact hid_some.mpr ⟨fun z => z.elim nb e1, by rw [upd_ne nb]; exact e2⟩
theorem gl_lst {es : List Expr} {pos : Pos} {ds : List D} (ha : GA c X es Γ (fun z => z = ds.map .da)) (hl : ds.length ≤ 100000 := by exact Nat.le_of_ble_eq_true rfl) : GL c X (.List es pos) Γ (fun x => x = ds) := fun σ M B H r hc Q k =>
  ⟨_, fun i => pe_lst (pa_w es i), ha σ M B H r hc _ fun ws vs H1 t p s => by
    subst p
    have l := paired_isL s
    refine ⟨by rw [l.len]; exact Nat.le_trans hl (by decide), fun q hq => ?_⟩
    exact k ds q vs _ (t.trans (.new hq t.st)) rfl (t.free hq) upd_same (new_lst (t.hc hc) l hq)⟩
theorem gl_lstP {es : List Expr} {pos : Pos} {Ps : List Vw → Prop} (ha : GA c X es Γ Ps) {P : List D → Prop} (h : ∀ ws, Ps ws → ∃ ds : List D, ws = ds.map .da ∧ ds.length ≤ 100000 ∧ P ds) : GL c X (.List es pos) Γ P := fun σ M B H r hc Q k =>
  ⟨_, fun i => pe_lst (pa_w es i), ha σ M B H r hc _ fun ws vs H1 t p s => by
    obtain ⟨ds, rfl, hl, hp⟩ := h ws p
    have l := paired_isL s
    refine ⟨by rw [l.len]; exact Nat.le_trans hl (by decide), fun q hq => ?_⟩
    exact k ds q vs _ (t.trans (.new hq t.st)) hp (t.free hq) upd_same (new_lst (t.hc hc) l hq)⟩
/-! ### subscripts -/
theorem atI_isL {G : Hp} {vs : List V} {ds : List D} {i : Int} {d : D} (l : IsL c G vs ds) (h : atI ds i = some d) : ∃ v, atI vs i = some v ∧ Is c G v d := by
  unfold atI at h ⊢
  rw [l.len]
  cases q : ixN ds.length i with
  | none => rw [q] at h; cases h
  | some j =>
    rw [q] at h
    exact l.get h
theorem map_nat {α β : Type} {f : α → β} {l : List α} {i : Int} {x : α} (h : atI l i = some x) : atI (l.map f) i = some (f x) := by
  unfold atI at h ⊢
  rw [List.length_map]
  cases q : ixN l.length i with
  | none => rw [q] at h; cases h
  | some j =>
    rw [q] at h
    show (l.map f)[j]? = some (f x)
    have h' : l[j]? = some x := h
    rw [List.getElem?_map, h']
    rfl
section
variable {a b : Expr} {pos : Pos}
theorem pe_ixL (hs : PlainIx b) (i : X.ι) : PE (X.X i) (.Subscript a b pos) (tOp (rIxL X.K) (wE X a) (wE X b)) := by
  rw [← X.hK i]
  exact pe_ix ix_list (pe_w a i) (pe_w b i) hs
theorem pe_ixT (hs : PlainIx b) (i : X.ι) : PE (X.X i) (.Subscript a b pos) (tOp (rIxT X.K) (wE X a) (wE X b)) := by
  rw [← X.hK i]
  exact pe_ix ix_tup (pe_w a i) (pe_w b i) hs
theorem ge_ixL {Pa Pb P : D → Prop} (ha : GE c X a Γ Pa) (hb : GE c X b Γ Pb) (h : ∀ x y, Pa x → Pb y → ∃ ds i d, x = .lst ds ∧ y = .int i ∧ atI ds i = some d ∧ P d) (hs : PlainIx b := by exact fun _ _ => rfl) : GE c X (.Subscript a b pos) Γ P := fun σ M B H r hc Q k =>
  ⟨_, pe_ixL hs, ha σ M B H r hc _ fun x v H1 t1 p1 s1 => hb σ M B H1 (r.mono (t1.hid hc.bm)) (t1.hc hc) _ fun y w H2 t2 p2 s2 => by
    obtain ⟨ds, i, d, rfl, rfl, hd, hp⟩ := h x y p1 p2
    rw [s2.intE]
    obtain ⟨p, vs, rfl, e, l⟩ := (s1.mono (t2.hid hc.bm)).lstE
    obtain ⟨u, hu, su⟩ := atI_isL l hd
    exact ⟨p, vs, i, u, rfl, rfl, SqL.of (hid_le _ _ e), hu, k d u H2 (t1.trans t2) hp su⟩⟩
theorem ge_ixT {Pa Pb P : D → Prop} (ha : GE c X a Γ Pa) (hb : GE c X b Γ Pb) (h : ∀ x y, Pa x → Pb y → ∃ ds i d, x = .tup ds ∧ y = .int i ∧ atI ds i = some d ∧ P d) (hs : PlainIx b := by exact fun _ _ => rfl) : GE c X (.Subscript a b pos) Γ P := fun σ M B H r hc Q k =>
  ⟨_, pe_ixT hs, ha σ M B H r hc _ fun x v H1 t1 p1 s1 => hb σ M B H1 (r.mono (t1.hid hc.bm)) (t1.hc hc) _ fun y w H2 t2 p2 s2 => by
    obtain ⟨ds, i, d, rfl, rfl, hd, hp⟩ := h x y p1 p2
    rw [s2.intE]
    obtain ⟨p, vs, rfl, e, l⟩ := (s1.mono (t2.hid hc.bm)).tupE
    obtain ⟨u, hu, su⟩ := atI_isL l hd
    exact ⟨p, vs, i, u, rfl, rfl, SqT.of (hid_le _ _ e), hu, k d u H2 (t1.trans t2) hp su⟩⟩
theorem gv_ixL {ds : List D} {i : Int} {d : D} (ha : GV c X a Γ (.lst ds)) (hb : GV c X b Γ (.int i)) (h : atI ds i = some d) (hs : PlainIx b := by exact fun _ _ => rfl) : GV c X (.Subscript a b pos) Γ d :=
  ge_ixL ha hb (fun x y e1 e2 => ⟨ds, i, d, e1, e2, h, rfl⟩) hs
theorem gv_ixT {ds : List D} {i : Int} {d : D} (ha : GV c X a Γ (.tup ds)) (hb : GV c X b Γ (.int i)) (h : atI ds i = some d) (hs : PlainIx b := by exact fun _ _ => rfl) : GV c X (.Subscript a b pos) Γ d :=
  ge_ixT ha hb (fun x y e1 e2 => ⟨ds, i, d, e1, e2, h, rfl⟩) hs
/-- at a place that is a natural number -/
theorem gv_ixLn {ds : List D} {j : Nat} {d : D} (ha : GV c X a Γ (.lst ds)) (hb : GV c X b Γ (.int j)) (h : ds[j]? = some d) (hs : PlainIx b := by exact fun _ _ => rfl) : GV c X (.Subscript a b pos) Γ d := gv_ixL ha hb (atI_nat h) hs
theorem gv_ixTn {ds : List D} {j : Nat} {d : D} (ha : GV c X a Γ (.tup ds)) (hb : GV c X b Γ (.int j)) (h : ds[j]? = some d) (hs : PlainIx b := by exact fun _ _ => rfl) : GV c X (.Subscript a b pos) Γ d := gv_ixT ha hb (atI_nat h) hs
end
/-! ### slices: a[lo:], a[:hi] -/
def cutD {α : Type} (xs : List α) (lo hi : Option Int) : List α := (xs.drop (HT.sIx xs.length 0 lo)).take (HT.sIx xs.length xs.length hi - HT.sIx xs.length 0 lo)
theorem cut_isL {G : Hp} {vs : List V} {ds : List D} (l : IsL c G vs ds) (lo hi : Option Int) : IsL c G (cutV vs lo hi) (cutD ds lo hi) := by
  unfold cutV cutD
  rw [l.len]
  exact l.drop.take
/-- a part of a slice -/
def GO (c : Cl) (X : Fm) (e : Option Expr) (Γ : List Vw) (o : Option Int) : Prop :=
  ∀ (σ : St) (M : Addr → Prop) (B : Option Addr) (H : Hp), Rep c Γ σ (hid M H) B → Hc M B H → ∃ t : TO, (∀ i, PO (X.X i) e t) ∧ ∀ Q : Option Int → Hp → Prop, (∀ H', To B H H' → Q o H') → t σ H Q
def wO (X : Fm) (e : Option Expr) : TO := fun σ H Q => ∃ te, (∀ i, PO (X.X i) e te) ∧ te σ H Q
theorem po_w (e : Option Expr) (i : X.ι) : PO (X.X i) e (wO X e) := ⟨fun pins s σ H Q I ⟨te, h, q⟩ => (h i).run pins s σ H Q I q⟩
theorem go_none : GO c X none Γ none := fun σ M B H r hc => ⟨_, fun _ => po_none, fun Q k => k H (.refl hc.st)⟩
theorem go_some {e : Expr} {i : Int} (h : GV c X e Γ (.int i)) : GO c X (some e) Γ (some i) := fun σ M B H r hc => ⟨_, fun i => po_some (pe_w e i), fun Q k => h σ M B H r hc _ fun x v H1 t p s => by
  subst p
  rw [s.intE]
  exact ⟨i, rfl, k H1 t⟩⟩
section
variable {e : Expr} {lo hi : Option Expr} {pos p2 : Pos} {ol oh : Option Int}
theorem pe_slL (i : X.ι) : PE (X.X i) (.Subscript e (.Slice lo hi none p2) pos) (tSl (rSlL X.K) (wE X e) (wO X lo) (wO X hi)) := by
  rw [← X.hK i]
  exact pe_slice sl_list (pe_w e i) (po_w lo i) (po_w hi i)
theorem pe_slT (i : X.ι) : PE (X.X i) (.Subscript e (.Slice lo hi none p2) pos) (tSl (rSlA X.K) (wE X e) (wO X lo) (wO X hi)) := by
  rw [← X.hK i]
  exact pe_slice sl_tupA (pe_w e i) (po_w lo i) (po_w hi i)
theorem gl_sl {ds : List D} (ha : GV c X e Γ (.lst ds)) (hl : GO c X lo Γ ol) (hh : GO c X hi Γ oh) : GL c X (.Subscript e (.Slice lo hi none p2) pos) Γ (fun x => x = cutD ds ol oh) := fun σ M B H r hc Q k =>
  ⟨_, pe_slL, ha σ M B H r hc _ fun x v H1 t1 p1 s1 => by
    subst p1
    obtain ⟨tl, hl1, hl2⟩ := hl σ M B H1 (r.mono (t1.hid hc.bm)) (t1.hc hc)
    refine ⟨tl, hl1, hl2 _ fun H2 t2 => ?_⟩
    obtain ⟨th, hh1, hh2⟩ := hh σ M B H2 (r.mono ((t1.trans t2).hid hc.bm)) ((t1.trans t2).hc hc)
    refine ⟨th, hh1, hh2 _ fun H3 t3 => ?_⟩
    obtain ⟨p, vs, rfl, e, l⟩ := (s1.mono ((t2.trans t3).hid hc.bm)).lstE
    have t := (t1.trans t2).trans t3
    refine ⟨p, vs, rfl, SqL.of (hid_le _ _ e), fun q hq => ?_⟩
    exact k _ q _ _ (t.trans (.new hq t.st)) rfl (t.free hq) upd_same (new_lst (t.hc hc) (cut_isL l ol oh) hq)⟩
theorem gv_slT {ds : List D} (ha : GV c X e Γ (.tup ds)) (hl : GO c X lo Γ ol) (hh : GO c X hi Γ oh) : GV c X (.Subscript e (.Slice lo hi none p2) pos) Γ (.tup (cutD ds ol oh)) := fun σ M B H r hc Q k =>
  ⟨_, pe_slT, ha σ M B H r hc _ fun x v H1 t1 p1 s1 => by
    subst p1
    obtain ⟨tl, hl1, hl2⟩ := hl σ M B H1 (r.mono (t1.hid hc.bm)) (t1.hc hc)
    refine ⟨tl, hl1, hl2 _ fun H2 t2 => ?_⟩
    obtain ⟨th, hh1, hh2⟩ := hh σ M B H2 (r.mono ((t1.trans t2).hid hc.bm)) ((t1.trans t2).hc hc)
    refine ⟨th, hh1, hh2 _ fun H3 t3 => ?_⟩
    have s3 := s1.mono ((t2.trans t3).hid hc.bm)
    obtain ⟨p, vs, rfl, e, l⟩ := s3.tupE
    have t := (t1.trans t2).trans t3
    refine ⟨p, vs, rfl, SqT.of (hid_le _ _ e), fun hw => ?_, fun _ q hq => ?_⟩
    · have e2 : cutD ds ol oh = ds := by
        unfold cutD
        rw [← l.len, hw.1, hw.2, List.drop_zero, Nat.sub_zero, l.len, List.take_length]
      exact k _ _ H3 t (by rw [e2]) s3
    · have nq := (t.hc hc).no hq
      exact k _ _ _ (t.trans (.new hq t.st)) rfl (IsL.tupI (hid_new nq) ((cut_isL l ol oh).mono ((To.new hq t.st).hid hc.bm)))⟩
end
/-! ### calls of what is built in -/
def RC (c : Cl) (r : List V → Hp → VK → Prop) (ws : List Vw) (P : D → Prop) : Prop :=
  ∀ (M : Addr → Prop) (B : Option Addr) (H : Hp) (vs : List V), Hc M B H → Paired (IsV c (hid M H) B) vs ws → ∀ Q : VK, (∀ d u H', To B H H' → P d → Is c (hid M H') u d → Q u H') → r vs H Q
def RL (c : Cl) (r : List V → Hp → VK → Prop) (ws : List Vw) (P : List D → Prop) : Prop :=
  ∀ (M : Addr → Prop) (B : Option Addr) (H : Hp) (vs : List V), Hc M B H → Paired (IsV c (hid M H) B) vs ws → ∀ Q : VK, (∀ ds a us H', To B H H' → P ds → H a = none → H' a = some (.lst us) → IsL c (hid (fun b => b = a ∨ M b) H') us ds → Q (.ref a) H') → r vs H Q
section
variable {x : Str} {p pos : Pos} {e : Expr} {es : List Expr} {T : String} {r : List V → Hp → VK → Prop} {Ps : List Vw → Prop}
theorem ge_cb {P : D → Prop} (hc : ∀ i, CallR (X.X i) (.builtin T) r) (hm : X.mg x = none) (hv : bootBuiltins x = some (.builtin T)) (ha : GA c X (e :: es) Γ Ps) (h : ∀ ws, Ps ws → RC c r ws P)
    (hg : ∀ i, Gl (X.X i) x := by intro _; rfl) (hn : x ≠ "__name__" := by decide) (hdb : (x == ("__debug__" : Str)) = false := by decide) (he : ∀ i, starEach (e :: es) (X.X i).env = (false, eval e (X.X i).env) :: starEach es (X.X i).env := by intro _; rfl)
    (hpl : ∀ i, (backTo pos (starEach es (X.X i).env)).any (·.1) = false := by intro _; rfl) : GE c X (.Call (.Name x p) (e :: es) [] pos) Γ P := fun σ M B H rr hh Q k =>
  ⟨_, fun i => pe_callB (hc i) (hg i) (by rw [X.hmg i]; exact hm) hv (pa_w (e :: es) i) hn hdb (he i) (hpl i), ha σ M B H rr hh _ fun ws vs H1 t p s => h ws p M B H1 vs (t.hc hh) s Q fun d u H2 t2 p2 s2 => k d u H2 (t.trans t2) p2 s2⟩
theorem ge_ct {P : D → Prop} (hc : ∀ i, CallR (X.X i) (.type T) r) (hm : X.mg x = none) (hv : bootBuiltins x = some (.type T)) (ha : GA c X (e :: es) Γ Ps) (h : ∀ ws, Ps ws → RC c r ws P)
    (hg : ∀ i, Gl (X.X i) x := by intro _; rfl) (hn : x ≠ "__name__" := by decide) (hdb : (x == ("__debug__" : Str)) = false := by decide) (he : ∀ i, starEach (e :: es) (X.X i).env = (false, eval e (X.X i).env) :: starEach es (X.X i).env := by intro _; rfl)
    (hpl : ∀ i, (backTo pos (starEach es (X.X i).env)).any (·.1) = false := by intro _; rfl) : GE c X (.Call (.Name x p) (e :: es) [] pos) Γ P := fun σ M B H rr hh Q k =>
  ⟨_, fun i => pe_callTy (hc i) (hg i) (by rw [X.hmg i]; exact hm) hv (pa_w (e :: es) i) hn hdb (he i) (hpl i), ha σ M B H rr hh _ fun ws vs H1 t p s => h ws p M B H1 vs (t.hc hh) s Q fun d u H2 t2 p2 s2 => k d u H2 (t.trans t2) p2 s2⟩
theorem gl_ct {P : List D → Prop} (hc : ∀ i, CallR (X.X i) (.type T) r) (hm : X.mg x = none) (hv : bootBuiltins x = some (.type T)) (ha : GA c X (e :: es) Γ Ps) (h : ∀ ws, Ps ws → RL c r ws P)
    (hg : ∀ i, Gl (X.X i) x := by intro _; rfl) (hn : x ≠ "__name__" := by decide) (hdb : (x == ("__debug__" : Str)) = false := by decide) (he : ∀ i, starEach (e :: es) (X.X i).env = (false, eval e (X.X i).env) :: starEach es (X.X i).env := by intro _; rfl)
    (hpl : ∀ i, (backTo pos (starEach es (X.X i).env)).any (·.1) = false := by intro _; rfl) : GL c X (.Call (.Name x p) (e :: es) [] pos) Γ P := fun σ M B H rr hh Q k =>
  ⟨_, fun i => pe_callTy (hc i) (hg i) (by rw [X.hmg i]; exact hm) hv (pa_w (e :: es) i) hn hdb (he i) (hpl i), ha σ M B H rr hh _ fun ws vs H1 t p s => h ws p M B H1 vs (t.hc hh) s Q fun d u us H2 t2 p2 n2 s2 l2 => k d u us H2 (t.trans t2) p2 (t.free n2) s2 l2⟩
theorem gl_cb {P : List D → Prop} (hc : ∀ i, CallR (X.X i) (.builtin T) r) (hm : X.mg x = none) (hv : bootBuiltins x = some (.builtin T)) (ha : GA c X (e :: es) Γ Ps) (h : ∀ ws, Ps ws → RL c r ws P)
    (hg : ∀ i, Gl (X.X i) x := by intro _; rfl) (hn : x ≠ "__name__" := by decide) (hdb : (x == ("__debug__" : Str)) = false := by decide) (he : ∀ i, starEach (e :: es) (X.X i).env = (false, eval e (X.X i).env) :: starEach es (X.X i).env := by intro _; rfl)
    (hpl : ∀ i, (backTo pos (starEach es (X.X i).env)).any (·.1) = false := by intro _; rfl) : GL c X (.Call (.Name x p) (e :: es) [] pos) Γ P := fun σ M B H rr hh Q k =>
  ⟨_, fun i => pe_callB (hc i) (hg i) (by rw [X.hmg i]; exact hm) hv (pa_w (e :: es) i) hn hdb (he i) (hpl i), ha σ M B H rr hh _ fun ws vs H1 t p s => h ws p M B H1 vs (t.hc hh) s Q fun d u us H2 t2 p2 n2 s2 l2 => k d u us H2 (t.trans t2) p2 (t.free n2) s2 l2⟩
end
end K33
end
section
set_option Elab.async false
set_option linter.all false
set_option maxRecDepth 100000
/-! B4: built-in calls one by one; calls of defs, methods; joins -/
namespace K33
open PySem L2
variable {c : Cl} {X : Fm} {Γ : List Vw}
section
variable {p pos : Pos} {a b : Expr}
theorem ga1 {d : D} (ha : GV c X a Γ d) (hs : ∀ i, starEach [a] (X.X i).env = (false, eval a (X.X i).env) :: starEach [] (X.X i).env := by intro _; rfl) : GA c X [a] Γ (fun z => z = [.da d]) := ga_consV ha ga_nil hs
theorem ga2 {d d' : D} (ha : GV c X a Γ d) (hb : GV c X b Γ d') (hs : ∀ i, starEach [a, b] (X.X i).env = (false, eval a (X.X i).env) :: starEach [b] (X.X i).env := by intro _; rfl) (hs' : ∀ i, starEach [b] (X.X i).env = (false, eval b (X.X i).env) :: starEach [] (X.X i).env := by intro _; rfl) :
    GA c X [a, b] Γ (fun z => z = [.da d, .da d']) := ga_consV ha (ga_consV hb ga_nil hs') hs
theorem call_lenF (i : X.ι) : CallR (X.X i) (.builtin "len") (fun xs H Q => ∃ p ys, xs = [.ref p] ∧ (SqL X.K H p ys ∨ SqT X.K H p ys) ∧ Q (.int ys.length) H) := by
  rw [← X.hK i]; exact call_len_seq
theorem gv_len {ds : List D} (hm : X.mg "len" = none) (ha : GV c X a Γ (.lst ds)) (hg : ∀ i, Gl (X.X i) "len" := by intro _; rfl) (he : ∀ i, starEach [a] (X.X i).env = (false, eval a (X.X i).env) :: starEach [] (X.X i).env := by intro _; rfl)
    (hpl : ∀ i, (backTo pos (starEach [] (X.X i).env)).any (·.1) = false := by intro _; rfl) : GV c X (.Call (.Name "len" p) [a] [] pos) Γ (.int ds.length) :=
  ge_cb call_lenF hm PySem.boot_len (ga1 ha he) (fun ws q M B H vs hc s Q k => by
    subst q
    obtain ⟨v, rfl, sv⟩ := Paired.inv1 s
    obtain ⟨p, ws, rfl, e, l⟩ := (show Is c _ v (.lst ds) from sv).lstE
    refine ⟨p, ws, rfl, .inl (SqL.of (hid_le _ _ e)), ?_⟩
    rw [l.len]
    exact k _ _ H (.refl hc.st) rfl (.int _)) hg (by decide) (by decide) he hpl
theorem gv_lenT {ds : List D} (hm : X.mg "len" = none) (ha : GV c X a Γ (.tup ds)) (hg : ∀ i, Gl (X.X i) "len" := by intro _; rfl) (he : ∀ i, starEach [a] (X.X i).env = (false, eval a (X.X i).env) :: starEach [] (X.X i).env := by intro _; rfl)
    (hpl : ∀ i, (backTo pos (starEach [] (X.X i).env)).any (·.1) = false := by intro _; rfl) : GV c X (.Call (.Name "len" p) [a] [] pos) Γ (.int ds.length) :=
  ge_cb call_lenF hm PySem.boot_len (ga1 ha he) (fun ws q M B H vs hc s Q k => by
    subst q
    obtain ⟨v, rfl, sv⟩ := Paired.inv1 s
    obtain ⟨p, ws, rfl, e, l⟩ := (show Is c _ v (.tup ds) from sv).tupE
    refine ⟨p, ws, rfl, .inr (SqT.of (hid_le _ _ e)), ?_⟩
    rw [l.len]
    exact k _ _ H (.refl hc.st) rfl (.int _)) hg (by decide) (by decide) he hpl
theorem gv_abs {n : Int} (hm : X.mg "abs" = none) (ha : GV c X a Γ (.int n)) (hg : ∀ i, Gl (X.X i) "abs" := by intro _; rfl) (he : ∀ i, starEach [a] (X.X i).env = (false, eval a (X.X i).env) :: starEach [] (X.X i).env := by intro _; rfl)
    (hpl : ∀ i, (backTo pos (starEach [] (X.X i).env)).any (·.1) = false := by intro _; rfl) : GV c X (.Call (.Name "abs" p) [a] [] pos) Γ (.int (if n < 0 then -n else n)) :=
  ge_cb (fun _ => call_abs) hm (by decide +kernel) (ga1 ha he) (fun ws q M B H vs hc s Q k => by
    subst q
    obtain ⟨v, rfl, sv⟩ := Paired.inv1 s
    rw [(show Is c _ v (.int n) from sv).intE]
    exact ⟨n, rfl, k _ _ H (.refl hc.st) rfl (.int _)⟩) hg (by decide) (by decide) he hpl
theorem gv_max {n m : Int} (hm : X.mg "max" = none) (ha : GV c X a Γ (.int n)) (hb : GV c X b Γ (.int m)) (hg : ∀ i, Gl (X.X i) "max" := by intro _; rfl) (he : ∀ i, starEach [a, b] (X.X i).env = (false, eval a (X.X i).env) :: starEach [b] (X.X i).env := by intro _; rfl)
    (he2 : ∀ i, starEach [b] (X.X i).env = (false, eval b (X.X i).env) :: starEach [] (X.X i).env := by intro _; rfl) (hpl : ∀ i, (backTo pos (starEach [b] (X.X i).env)).any (·.1) = false := by intro _; rfl) : GV c X (.Call (.Name "max" p) [a, b] [] pos) Γ (.int (if m > n then m else n)) :=
  ge_cb (fun i => call_max2 (X.calm i)) hm (by decide +kernel) (ga2 ha hb he he2) (fun ws q M B H vs hc s Q k => by
    subst q
    obtain ⟨v, u, rfl, sv, su⟩ := Paired.inv2 s
    rw [(show Is c _ v (.int n) from sv).intE, (show Is c _ u (.int m) from su).intE]
    exact ⟨n, m, rfl, k _ _ H (.refl hc.st) rfl (.int _)⟩) hg (by decide) (by decide) he hpl
theorem gv_min {n m : Int} (hm : X.mg "min" = none) (ha : GV c X a Γ (.int n)) (hb : GV c X b Γ (.int m)) (hg : ∀ i, Gl (X.X i) "min" := by intro _; rfl) (he : ∀ i, starEach [a, b] (X.X i).env = (false, eval a (X.X i).env) :: starEach [b] (X.X i).env := by intro _; rfl)
    (he2 : ∀ i, starEach [b] (X.X i).env = (false, eval b (X.X i).env) :: starEach [] (X.X i).env := by intro _; rfl) (hpl : ∀ i, (backTo pos (starEach [b] (X.X i).env)).any (·.1) = false := by intro _; rfl) : GV c X (.Call (.Name "min" p) [a, b] [] pos) Γ (.int (if m < n then m else n)) :=
  ge_cb (fun i => call_min2 (X.calm i)) hm (by decide +kernel) (ga2 ha hb he he2) (fun ws q M B H vs hc s Q k => by
    subst q
    obtain ⟨v, u, rfl, sv, su⟩ := Paired.inv2 s
    rw [(show Is c _ v (.int n) from sv).intE, (show Is c _ u (.int m) from su).intE]
    exact ⟨n, m, rfl, k _ _ H (.refl hc.st) rfl (.int _)⟩) hg (by decide) (by decide) he hpl
theorem gv_intI {n : Int} (hm : X.mg "int" = none) (ha : GV c X a Γ (.int n)) (hg : ∀ i, Gl (X.X i) "int" := by intro _; rfl) (he : ∀ i, starEach [a] (X.X i).env = (false, eval a (X.X i).env) :: starEach [] (X.X i).env := by intro _; rfl)
    (hpl : ∀ i, (backTo pos (starEach [] (X.X i).env)).any (·.1) = false := by intro _; rfl) : GV c X (.Call (.Name "int" p) [a] [] pos) Γ (.int n) :=
  ge_ct (fun _ => call_int1) hm (by decide +kernel) (ga1 ha he) (fun ws q M B H vs hc s Q k => by
    subst q
    obtain ⟨v, rfl, sv⟩ := Paired.inv1 s
    rw [(show Is c _ v (.int n) from sv).intE]
    exact .inl ⟨n, rfl, k _ _ H (.refl hc.st) rfl (.int _)⟩) hg (by decide) (by decide) he hpl
theorem gv_intB {n : Bool} (hm : X.mg "int" = none) (ha : GV c X a Γ (.bl n)) (hg : ∀ i, Gl (X.X i) "int" := by intro _; rfl) (he : ∀ i, starEach [a] (X.X i).env = (false, eval a (X.X i).env) :: starEach [] (X.X i).env := by intro _; rfl)
    (hpl : ∀ i, (backTo pos (starEach [] (X.X i).env)).any (·.1) = false := by intro _; rfl) : GV c X (.Call (.Name "int" p) [a] [] pos) Γ (.int (if n then 1 else 0)) :=
  ge_ct (fun _ => call_int1) hm (by decide +kernel) (ga1 ha he) (fun ws q M B H vs hc s Q k => by
    subst q
    obtain ⟨v, rfl, sv⟩ := Paired.inv1 s
    rw [(show Is c _ v (.bl n) from sv).blE]
    exact .inr ⟨n, rfl, k _ _ H (.refl hc.st) rfl (.int _)⟩) hg (by decide) (by decide) he hpl
theorem cr_sumF (i : X.ι) : CallR (X.X i) (.builtin "sum") (rSum X.K) := by rw [← X.hK i]; exact cr_sum (X.calm i)
theorem gv_sum {l : List Int} (hm : X.mg "sum" = none) (ha : GV c X a Γ (.lst (l.map .int))) (hg : ∀ i, Gl (X.X i) "sum" := by intro _; rfl) (he : ∀ i, starEach [a] (X.X i).env = (false, eval a (X.X i).env) :: starEach [] (X.X i).env := by intro _; rfl)
    (hpl : ∀ i, (backTo pos (starEach [] (X.X i).env)).any (·.1) = false := by intro _; rfl) : GV c X (.Call (.Name "sum" p) [a] [] pos) Γ (.int l.sum) :=
  ge_cb cr_sumF hm (by decide +kernel) (ga1 ha he) (fun ws q M B H vs hc s Q k => by
    subst q
    obtain ⟨v, rfl, sv⟩ := Paired.inv1 s
    obtain ⟨p, ws, rfl, e, il⟩ := (show Is c _ v (.lst (l.map .int)) from sv).lstE
    have := il.ints
    subst this
    exact ⟨p, l, rfl, SqL.of (hid_le _ _ e), k _ _ H (.refl hc.st) rfl (.int _)⟩) hg (by decide) (by decide) he hpl
theorem call_tupF (i : X.ι) : CallR (X.X i) (.type "tuple") (fun xs H Q => ∃ p ys, xs = [.ref p] ∧ ((SqL X.K H p ys ∧ ∀ l, H l = none → Q (.ref l) (upd H l (.tup ys))) ∨ (SqT X.K H p ys ∧ Q (.ref p) H))) := by
  rw [← X.hK i]; exact call_tuple_of
/-- tuple(a list) -/
theorem ge_tupleOf {P : List D → Prop} (hm : X.mg "tuple" = none) (ha : GE c X a Γ (fun d => ∃ ds, d = .lst ds ∧ P ds)) (hg : ∀ i, Gl (X.X i) "tuple" := by intro _; rfl) (he : ∀ i, starEach [a] (X.X i).env = (false, eval a (X.X i).env) :: starEach [] (X.X i).env := by intro _; rfl)
    (hpl : ∀ i, (backTo pos (starEach [] (X.X i).env)).any (·.1) = false := by intro _; rfl) : GE c X (.Call (.Name "tuple" p) [a] [] pos) Γ (fun d => ∃ ds, d = .tup ds ∧ P ds) :=
  ge_ct call_tupF hm (by decide +kernel) (ga_cons ha ga_nil he) (fun ws q M B H vs hc s Q k => by
    obtain ⟨d, ws', rfl, ⟨ds, rfl, hp⟩, rfl⟩ := q
    obtain ⟨v, rfl, sv⟩ := Paired.inv1 s
    obtain ⟨p, us, rfl, e, l⟩ := (show Is c _ v (.lst ds) from sv).lstE
    refine ⟨p, us, rfl, .inl ⟨SqL.of (hid_le _ _ e), fun q hq => ?_⟩⟩
    have nq := hc.no hq
    exact k _ _ _ (.new hq hc.st) ⟨ds, rfl, hp⟩ (IsL.tupI (hid_new nq) (l.mono ((To.new hq hc.st).hid hc.bm)))) hg (by decide) (by decide) he hpl
theorem gv_tupleOf {ds : List D} (hm : X.mg "tuple" = none) (ha : GV c X a Γ (.lst ds)) (hg : ∀ i, Gl (X.X i) "tuple" := by intro _; rfl) (he : ∀ i, starEach [a] (X.X i).env = (false, eval a (X.X i).env) :: starEach [] (X.X i).env := by intro _; rfl)
    (hpl : ∀ i, (backTo pos (starEach [] (X.X i).env)).any (·.1) = false := by intro _; rfl) : GV c X (.Call (.Name "tuple" p) [a] [] pos) Γ (.tup ds) :=
  (ge_tupleOf (P := fun x => x = ds) hm (ha.imp fun d e => ⟨ds, e, rfl⟩) hg he hpl).imp fun d ⟨es, e1, e2⟩ => by rw [e1, e2]
/-- tuple(a tuple) -/
theorem gv_tupleT {ds : List D} (hm : X.mg "tuple" = none) (ha : GV c X a Γ (.tup ds)) (hg : ∀ i, Gl (X.X i) "tuple" := by intro _; rfl) (he : ∀ i, starEach [a] (X.X i).env = (false, eval a (X.X i).env) :: starEach [] (X.X i).env := by intro _; rfl)
    (hpl : ∀ i, (backTo pos (starEach [] (X.X i).env)).any (·.1) = false := by intro _; rfl) : GV c X (.Call (.Name "tuple" p) [a] [] pos) Γ (.tup ds) :=
  ge_ct call_tupF hm (by decide +kernel) (ga1 ha he) (fun ws q M B H vs hc s Q k => by
    subst q
    obtain ⟨v, rfl, sv⟩ := Paired.inv1 s
    have sv' := (show Is c _ v (.tup ds) from sv)
    obtain ⟨p, us, rfl, e, l⟩ := sv'.tupE
    exact ⟨p, us, rfl, .inr ⟨SqT.of (hid_le _ _ e), k _ _ H (.refl hc.st) rfl sv'⟩⟩) hg (by decide) (by decide) he hpl
theorem call_listF (i : X.ι) : CallR (X.X i) (.type "list") (fun xs H Q => ∃ p ys, xs = [.ref p] ∧ (SqL X.K H p ys ∨ SqT X.K H p ys) ∧ ∀ l, H l = none → Q (.ref l) (upd H l (.lst ys))) := by
  rw [← X.hK i]; exact call_list_of
/-- list(a list), list(a tuple) -/
theorem gl_listOf {ds : List D} {d : D} (hd : d = .lst ds ∨ d = .tup ds) (hm : X.mg "list" = none) (ha : GV c X a Γ d) (hg : ∀ i, Gl (X.X i) "list" := by intro _; rfl) (he : ∀ i, starEach [a] (X.X i).env = (false, eval a (X.X i).env) :: starEach [] (X.X i).env := by intro _; rfl)
    (hpl : ∀ i, (backTo pos (starEach [] (X.X i).env)).any (·.1) = false := by intro _; rfl) : GL c X (.Call (.Name "list" p) [a] [] pos) Γ (fun x => x = ds) :=
  gl_ct call_listF hm (by decide +kernel) (ga1 ha he) (fun ws q M B H vs hc s Q k => by
    subst q
    obtain ⟨v, rfl, sv⟩ := Paired.inv1 s
    have sv : Is c _ v d := sv
    have z : ∃ p us, v = .ref p ∧ (SqL X.K H p us ∨ SqT X.K H p us) ∧ IsL c (hid M H) us ds := by
      rcases hd with rfl | rfl
      · obtain ⟨p, us, rfl, e, l⟩ := sv.lstE
        exact ⟨p, us, rfl, .inl (SqL.of (hid_le _ _ e)), l⟩
      · obtain ⟨p, us, rfl, e, l⟩ := sv.tupE
        exact ⟨p, us, rfl, .inr (SqT.of (hid_le _ _ e)), l⟩
    obtain ⟨p, us, rfl, e, l⟩ := z
    exact ⟨p, us, rfl, e, fun q hq => k ds q us _ (.new hq hc.st) rfl hq upd_same (new_lst hc l hq)⟩) hg (by decide) (by decide) he hpl
/-- joined lists -/
theorem gl_cat {xs ys : List D} (ha : GV c X a Γ (.lst xs)) (hb : GV c X b Γ (.lst ys)) (hl : xs.length + ys.length ≤ 100000) : GL c X (.BinOp a .Add b pos) Γ (fun x => x = xs ++ ys) := fun σ M B H r hc Q k =>
  ⟨_, fun i => pe_op op_cat (pe_w a i) (pe_w b i), ha σ M B H r hc _ fun x v H1 t1 p1 s1 => hb σ M B H1 (r.mono (t1.hid hc.bm)) (t1.hc hc) _ fun y w H2 t2 p2 s2 => by
    subst p1 p2
    obtain ⟨p, vs, rfl, e, l⟩ := (s1.mono (t2.hid hc.bm)).lstE
    obtain ⟨q, us, rfl, e', l'⟩ := s2.lstE
    have t := t1.trans t2
    refine ⟨p, q, vs, us, rfl, rfl, hid_le _ _ e, hid_le _ _ e', by rw [l.len, l'.len]; exact Nat.le_trans hl (by decide), fun z hz => ?_⟩
    exact k _ z _ _ (t.trans (.new hz t.st)) rfl (t.free hz) upd_same (new_lst (t.hc hc) (l.append l') hz)⟩
theorem op_catF (i : X.ι) : OpR (X.X i) (binaryOp .Add) (rCatA X.K) := by rw [← X.hK i]; exact op_catA
/-- joined tuples -/
theorem gv_catT {xs ys : List D} (ha : GV c X a Γ (.tup xs)) (hb : GV c X b Γ (.tup ys)) (hl : xs.length + ys.length ≤ 100000) : GV c X (.BinOp a .Add b pos) Γ (.tup (xs ++ ys)) := ge_op op_catF ha hb fun x y e1 e2 => by
  subst e1 e2
  intro M B H v w hc h1 h2 Q k
  obtain ⟨p, vs, rfl, e, l⟩ := h1.tupE
  obtain ⟨q, us, rfl, e', l'⟩ := h2.tupE
  refine ⟨p, q, vs, us, rfl, rfl, SqT.of (hid_le _ _ e), SqT.of (hid_le _ _ e'), by rw [l.len, l'.len]; exact Nat.le_trans hl (by decide), fun hz => ?_, fun _ hz => ?_, fun _ _ z hz => ?_⟩
  · subst hz
    have : xs = [] := List.eq_nil_of_length_eq_zero (by rw [← l.len]; rfl)
    subst this
    exact k _ _ H (.refl hc.st) rfl h2
  · subst hz
    have : ys = [] := List.eq_nil_of_length_eq_zero (by rw [← l'.len]; rfl)
    subst this
    rw [List.append_nil] at k
    exact k _ _ H (.refl hc.st) rfl h1
  · have nz := hc.no hz
    exact k _ _ _ (.new hz hc.st) rfl (IsL.tupI (hid_new nz) ((l.append l').mono ((To.new hz hc.st).hid hc.bm)))
end
end K33
end
section
set_option Elab.async false
set_option linter.all false
set_option maxRecDepth 100000
/-! B5: calls of the program's own defs and methods; Ratio's operators; x in a tuple -/
namespace K33
open PySem L2
variable {c : Cl} {X : Fm} {Γ : List Vw}
/-- a promise over data -/
def spG (c : Cl) {ι : Type} (args : ι → List Vw) (pre : ι → Prop) (post : ι → D → Prop) : Sp := fun vs H Q _ => ∃ (i : ι) (M : Addr → Prop) (B : Option Addr), pre i ∧ Hc M B H ∧ Paired (IsV c (hid M H) B) vs (args i) ∧
  ∀ d v H', To B H H' → post i d → Is c (hid M H') v d → Q v H'
/-- a def of the module that keeps sp -/
def Fc (P : Program) (w : World) (K : PySem.W.Frag) (mg : Str → Option Value) (base : Heap) (k : Nat) (x : Str) (sp : Sp) : Prop :=
  ∃ (f : Addr) (fd : FuncData) (ps : List Str), FnOk P w K mg base CX0 k f fd ps sp ∧ mg x = some (.ref f) ∧ PySem.W.keepIn K (.ref f) = true ∧ Binds K fd ps []
/-- a method of the class at C that keeps sp -/
def Mc (P : Program) (w : World) (K : PySem.W.Frag) (mg : Str → Option Value) (base : Heap) (k : Nat) (C : Addr) (m : Str) (sp : Sp) : Prop :=
  ∃ (f : Addr) (fd : FuncData) (ps : List Str), FnOk P w K mg base CX0 k f fd ps sp ∧ Meth K C m f ∧ Binds K fd ps []
theorem passF {X : Cx} : Passes CX0 X E0 := fun _ _ _ _ _ _ _ h => h.elim
theorem fnAt {i : X.ι} {k : Nat} {f : Addr} {fd : FuncData} {ps : List Str} {sp : Sp} {CX : CXT} (F : FnOk X.prog X.w X.K X.mg X.base CX k f fd ps sp) : FnOk (X.X i).prog (X.X i).w (X.X i).K (X.X i).mg (X.X i).base CX k f fd ps sp := by
  rw [X.hp i, X.hw i, X.hK i, X.hmg i, X.hb i]; exact F
theorem room_at {i : X.ι} {k : Nat} (hr : Room k X.A) : Room k (X.X i).A := by rw [X.hA i]; exact hr
section
variable {x m : Str} {p pos apos : Pos} {e o : Expr} {es : List Expr} {ι : Type} {args : ι → List Vw} {pre : ι → Prop} {post : ι → D → Prop} {P : D → Prop} {Ps : List Vw → Prop} {k : Nat}
theorem ge_call (F : Fc X.prog X.w X.K X.mg X.base k x (spG c args pre post)) (hr : Room k X.A) (ha : GA c X (e :: es) Γ Ps) (h : ∀ ws, Ps ws → ∃ i, args i = ws ∧ pre i ∧ ∀ d, post i d → P d)
    (hg : ∀ i, Gl (X.X i) x := by intro _; rfl) (hdb : (x == ("__debug__" : Str)) = false := by decide) (he : ∀ i, starEach (e :: es) (X.X i).env = (false, eval e (X.X i).env) :: starEach es (X.X i).env := by intro _; rfl)
    (hpl : ∀ i, (backTo pos (starEach es (X.X i).env)).any (·.1) = false := by intro _; rfl) : GE c X (.Call (.Name x p) (e :: es) [] pos) Γ P := fun σ M B H rr hh Q q => by
  obtain ⟨f, fd, ps, F, hm, hk, hb⟩ := F
  refine ⟨_, fun i => pe_call (E := E0) (fnAt F) (room_at hr) (hg i) (by rw [X.hmg i]; exact hm) (by rw [X.hK i]; exact hk) (by rw [X.hK i]; exact hb) (.nil : Vals [] []) passF (pa_w (e :: es) i) hdb (he i) (hpl i), ?_⟩
  refine ha σ M B H rr hh _ fun ws vs H1 t pw s => ?_
  obtain ⟨i, e1, hpre, hpost⟩ := h ws pw
  rw [List.append_nil]
  subst e1
  exact ⟨i, M, B, hpre, t.hc hh, s, fun d v H2 t2 p2 s2 => q d v H2 (t.trans t2) (hpost d p2) s2⟩
theorem ge_call0 (F : Fc X.prog X.w X.K X.mg X.base k x (spG c args pre post)) (hr : Room k X.A) (h : ∃ i, args i = [] ∧ pre i ∧ ∀ d, post i d → P d)
    (hg : ∀ i, Gl (X.X i) x := by intro _; rfl) (hdb : (x == ("__debug__" : Str)) = false := by decide) : GE c X (.Call (.Name x p) [] [] pos) Γ P := fun σ M B H rr hh Q q => by
  obtain ⟨f, fd, ps, F, hm, hk, hb⟩ := F
  refine ⟨_, fun i => pe_call0 (E := E0) (fnAt F) (room_at hr) (hg i) (by rw [X.hmg i]; exact hm) (by rw [X.hK i]; exact hk) (by rw [X.hK i]; exact hb) (.nil : Vals [] []) passF hdb, ?_⟩
  obtain ⟨i, e1, hpre, hpost⟩ := h
  exact ⟨i, M, B, hpre, hh, by rw [e1]; exact .nil, fun d v H2 t2 p2 s2 => q d v H2 t2 (hpost d p2) s2⟩
/-- methods -/
theorem ge_meth {Cd : Addr} {Po : D → Prop} {pl : X.ι → Sem Bool} (cl : Cls X.K Cd) (F : Mc X.prog X.w X.K X.mg X.base k Cd m (spG c args pre post)) (hr : Room k X.A) (ho : GE c X o Γ Po) (ha : GA c X (e :: es) Γ Ps)
    (hin : ∀ d, Po d → ∀ (M : Addr → Prop) (H : Hp) (v : V), Is c (hid M H) v d → ∃ a dx fs, v = .ref a ∧ H a = some (.ins Cd dx fs) ∧ fs.lookup m = none)
    (h : ∀ d ws, Po d → Ps ws → ∃ i, args i = .da d :: ws ∧ pre i ∧ ∀ d, post i d → P d)
    (he : ∀ i, starEach (e :: es) (X.X i).env = (false, eval e (X.X i).env) :: starEach es (X.X i).env := by intro _; rfl) (hpl : ∀ i, (backTo pos (starEach es (X.X i).env)).any (·.1) = false := by intro _; rfl)
    (hev : ∀ i, eval (.Call (.Attribute o m apos) (e :: es) [] pos) (X.X i).env = (do let ov ← eval o (X.X i).env; standAt apos.atName; let (f, first) ← holding [ov] (getMethod ov m (pl i)); callWith pos f first (backTo pos (starEach (e :: es) (X.X i).env)) (backToKw pos (keywordEach [] (X.X i).env))) := by intro _; rfl) :
    GE c X (.Call (.Attribute o m apos) (e :: es) [] pos) Γ P := fun σ M B H rr hh Q q => by
  obtain ⟨f, fd, ps, F, hm, hb⟩ := F
  refine ⟨_, fun i => pe_meth (E := E0) (pe_w o i) (by rw [X.hK i]; exact cl) (by rw [X.hK i]; exact hm) (fnAt F) (room_at hr) (by rw [X.hK i]; exact hb) (.nil : Vals [] []) passF (pa_w (e :: es) i) (he i) (hpl i) (hev i), ?_⟩
  refine ho σ M B H rr hh _ fun d v H1 t1 po s1 => ?_
  obtain ⟨a, dx, fs, rfl, e1, e2⟩ := hin d po M H1 v s1
  refine ⟨a, dx, fs, rfl, e1, e2, ?_⟩
  refine ha σ M B H1 (rr.mono (t1.hid hh.bm)) (t1.hc hh) _ fun ws vs H2 t2 pw s2 => ?_
  obtain ⟨i, e3, hpre, hpost⟩ := h d ws po pw
  rw [List.append_nil]
  exact ⟨i, M, B, hpre, (t1.trans t2).hc hh, by rw [e3]; exact .cons (s1.mono (t2.hid hh.bm)) s2, fun d v H3 t3 p3 s3 => q d v H3 ((t1.trans t2).trans t3) (hpost d p3) s3⟩
theorem ge_meth0 {Cd : Addr} {Po : D → Prop} {pl : X.ι → Sem Bool} (cl : Cls X.K Cd) (F : Mc X.prog X.w X.K X.mg X.base k Cd m (spG c args pre post)) (hr : Room k X.A) (ho : GE c X o Γ Po)
    (hin : ∀ d, Po d → ∀ (M : Addr → Prop) (H : Hp) (v : V), Is c (hid M H) v d → ∃ a dx fs, v = .ref a ∧ H a = some (.ins Cd dx fs) ∧ fs.lookup m = none)
    (h : ∀ d, Po d → ∃ i, args i = [.da d] ∧ pre i ∧ ∀ d, post i d → P d)
    (hev : ∀ i, eval (.Call (.Attribute o m apos) [] [] pos) (X.X i).env = (do let ov ← eval o (X.X i).env; standAt apos.atName; let (f, first) ← holding [ov] (getMethod ov m (pl i)); callWith pos f first (backTo pos (starEach [] (X.X i).env)) (backToKw pos (keywordEach [] (X.X i).env))) := by intro _; rfl) :
    GE c X (.Call (.Attribute o m apos) [] [] pos) Γ P := fun σ M B H rr hh Q q => by
  obtain ⟨f, fd, ps, F, hm, hb⟩ := F
  refine ⟨_, fun i => pe_meth0 (E := E0) (pe_w o i) (by rw [X.hK i]; exact cl) (by rw [X.hK i]; exact hm) (fnAt F) (room_at hr) (by rw [X.hK i]; exact hb) (.nil : Vals [] []) passF (hev i), ?_⟩
  refine ho σ M B H rr hh _ fun d v H1 t1 po s1 => ?_
  obtain ⟨a, dx, fs, rfl, e1, e2⟩ := hin d po M H1 v s1
  refine ⟨a, dx, fs, rfl, e1, e2, ?_⟩
  obtain ⟨i, e3, hpre, hpost⟩ := h d po
  exact ⟨i, M, B, hpre, t1.hc hh, by rw [e3]; exact .cons s1 .nil, fun d v H3 t3 p3 s3 => q d v H3 (t1.trans t3) (hpost d p3) s3⟩
end
/-! ### a receiver that is a Ratio, a Metric -/
theorem in_rat {m : Str} (h1 : (m == ("n" : Str)) = false := by decide) (h2 : (m == ("d" : Str)) = false := by decide) {q : Rat} {M : Addr → Prop} {H : Hp} {v : V} (s : Is c (hid M H) v (.rat q)) : ∃ a dx fs, v = .ref a ∧ H a = some (.ins c.R dx fs) ∧ fs.lookup m = none := by
  obtain ⟨a, dx, rfl, e⟩ := s.ratE
  exact ⟨a, dx, _, rfl, hid_le _ _ e, ratF_no h1 h2⟩
theorem in_met {m : Str} (h1 : (m == ("n" : Str)) = false := by decide) (h2 : (m == ("rows" : Str)) = false := by decide) {n : Nat} {ds : List D} {M : Addr → Prop} {H : Hp} {v : V} (s : Is c (hid M H) v (.met n ds)) : ∃ a dx fs, v = .ref a ∧ H a = some (.ins c.M dx fs) ∧ fs.lookup m = none := by
  obtain ⟨a, dx, b, rfl, e, _⟩ := s.metE
  exact ⟨a, dx, _, rfl, hid_le _ _ e, metF_no h1 h2⟩
/-! ### operators of Ratio -/
section
variable {a b : Expr} {pos : Pos} {P : D → Prop} {k : Nat} {ι : Type} {args : ι → List Vw} {pre : ι → Prop} {post : ι → D → Prop}
/-- an operator def of Ratio -/
def Oc (P : Program) (w : World) (K : PySem.W.Frag) (mg : Str → Option Value) (base : Heap) (k : Nat) (C : Addr) (m : Str) (sp : Sp) : Prop :=
  ∃ (f : Addr) (fd : FuncData) (ps : List Str), FnOk P w K mg base CX0 k f fd ps sp ∧ OwnM K C m f ∧ Binds K fd ps []
theorem ge_own2 {op : Operator} (F : Oc X.prog X.w X.K X.mg X.base k c.R (PySem.dunder op.info.2) (spG c args pre post)) (hc : PySem.W.selfFirst X.K c.R = true) (hr : Room k X.A) {x y : Rat} (ha : GV c X a Γ (.rat x)) (hb : GV c X b Γ (.rat y))
    (h : ∃ i, args i = [.da (.rat x), .da (.rat y)] ∧ pre i ∧ ∀ d, post i d → P d) : GE c X (.BinOp a op b pos) Γ P := by
  obtain ⟨f, fd, ps, F, hm, hbd⟩ := F
  refine ge_op (r := rOwn2 c.R (spG c args pre post) E0) (fun i => op_own2 (E := E0) (by rw [X.hK i]; exact hm) (by rw [X.hK i]; exact hc) (fnAt F) (room_at hr) (by rw [X.hK i]; exact hbd) passF) ha hb fun u v e1 e2 => ?_
  subst e1 e2
  intro M B H v w hh h1 h2 Q q
  obtain ⟨p, dx, rfl, e⟩ := h1.ratE
  obtain ⟨p', dx', rfl, e'⟩ := h2.ratE
  obtain ⟨i, e3, hpre, hpost⟩ := h
  exact ⟨p, dx, _, p', dx', _, rfl, rfl, hid_le _ _ e, hid_le _ _ e', i, M, B, hpre, hh, by rw [e3]; exact .cons h1 (.cons h2 .nil), fun d v H3 t3 p3 s3 => q d v H3 t3 (hpost d p3) s3⟩
theorem ge_ownNeg (F : Oc X.prog X.w X.K X.mg X.base k c.R "__neg__" (spG c args pre post)) (hr : Room k X.A) {x : Rat} (ha : GV c X a Γ (.rat x))
    (h : ∃ i, args i = [.da (.rat x)] ∧ pre i ∧ ∀ d, post i d → P d) : GE c X (.UnaryOp .USub a pos) Γ P := fun σ M B H rr hh Q q => by
  obtain ⟨f, fd, ps, F, hm, hbd⟩ := F
  refine ⟨_, fun i => pe_un (un_own1 (E := E0) (by rw [X.hK i]; exact hm) (fnAt F) (room_at hr) (by rw [X.hK i]; exact hbd) passF) (pe_w a i), ha σ M B H rr hh _ fun d v H1 t1 p1 s1 => ?_⟩
  subst p1
  obtain ⟨p, dx, rfl, e⟩ := s1.ratE
  obtain ⟨i, e3, hpre, hpost⟩ := h
  exact ⟨p, dx, _, rfl, hid_le _ _ e, i, M, B, hpre, t1.hc hh, by rw [e3]; exact .cons s1 .nil, fun d v H3 t3 p3 s3 => q d v H3 (t1.trans t3) (hpost d p3) s3⟩
theorem gv_ownNe (F : Oc X.prog X.w X.K X.mg X.base k c.R "__eq__" (spG c args pre post)) (hn : PySem.W.findIn X.K (.ref c.R) "__ne__" = some (some (.builtin "object.__ne__"))) (hob : PySem.W.mroIn X.K c.R (.type "object") = some true) (hr : Room (k + 1) X.A)
    {x y : Rat} (ha : GV c X a Γ (.rat x)) (hb : GV c X b Γ (.rat y)) {r : Bool} (h : ∃ i, args i = [.da (.rat x), .da (.rat y)] ∧ pre i ∧ ∀ d, post i d → d = .bl r) : GV c X (.Compare a [.NotEq] [b] pos) Γ (.bl (!r)) := by
  obtain ⟨f, fd, ps, F, hm, hbd⟩ := F
  refine ge_cmp (r := rOwnNe c.R (spG c args pre post) E0) (fun i => op_ownNe (E := E0) (by rw [X.hK i]; exact hm) (by rw [X.hK i]; exact hn) (by rw [X.hK i]; exact hob) (fnAt F) (room_at hr) (by rw [X.hK i]; exact hbd) passF) ha hb fun u v e1 e2 => ?_
  subst e1 e2
  intro M B H v w hh h1 h2 Q q
  obtain ⟨p, dx, rfl, e⟩ := h1.ratE
  obtain ⟨p', dx', rfl, e'⟩ := h2.ratE
  obtain ⟨i, e3, hpre, hpost⟩ := h
  refine ⟨p, dx, _, p', dx', _, rfl, rfl, hid_le _ _ e, hid_le _ _ e', i, M, B, hpre, hh, by rw [e3]; exact .cons h1 (.cons h2 .nil), fun d v H3 t3 p3 s3 => ?_⟩
  have := hpost d p3
  subst this
  exact ⟨r, s3.blE, q _ _ H3 t3 rfl (.bl _)⟩
end
/-! ### x in a tuple of ints -/
theorem op_inF (i : X.ι) : OpR (X.X i) (compareOp .In) (rIn X.K false) := by rw [← X.hK i]; exact op_in_seq
theorem inV_ints (x : Int) (l : List Int) : inV (.int x) (l.map V.int) = decide (x ∈ l) := by
  induction l with
  | nil => rfl
  | cons y l ih =>
    unfold inV at ih ⊢
    rw [List.map_cons, List.any_cons, ih]
    have : eqV (V.int y) (V.int x) = decide (x = y) := by
      by_cases e : x = y
      · subst e; simp [eqV]
      · have : ¬ y = x := fun z => e z.symm
        simp [eqV, e, this]
    rw [this]
    simp [List.mem_cons]
theorem gv_inI {a b : Expr} {pos : Pos} {x : Int} {l : List Int} (ha : GV c X a Γ (.int x)) (hb : GV c X b Γ (.tup (l.map .int))) (hm : behindInMarks .In b = false := by rfl) : GV c X (.Compare a [.In] [b] pos) Γ (.bl (decide (x ∈ l))) :=
  ge_cmp op_inF ha hb (fun u v e1 e2 => by
    subst e1 e2
    intro M B H v w hh h1 h2 Q q
    rw [h1.intE]
    obtain ⟨p, vs, rfl, e, il⟩ := h2.tupE
    have := il.ints
    subst this
    refine ⟨p, _, rfl, .inr (SqT.of (hid_le _ _ e)), rfl, ?_, ?_⟩
    · rw [List.all_map]; exact List.all_eq_true.mpr fun _ _ => rfl
    · show Q (.bl (if false = true then _ else inV (.int x) (l.map V.int))) H
      rw [if_neg (by simp), inV_ints]
      exact q _ _ H (.refl hh.st) rfl (.bl _)) hm
end K33
end
section
set_option Elab.async false
set_option linter.all false
set_option maxRecDepth 100000
/-! B6: what is walked; targets; list comprehensions -/
namespace K33
open PySem L2
variable {c : Cl} {X : Fm} {Γ : List Vw}
/-- the contexts of a comprehension's block -/
def Fm.blk (X : Fm) (scope : Scope) : Fm where
  ι := X.ι × Shared × Hp × Addr × List (Str × Addr) × List Addr
  X := fun j => (X.X j.1).blk j.2.1 j.2.2.1 scope (compEnvC scope j.2.2.2.2.1 j.2.2.2.1 (X.X j.1).env) j.2.2.2.2.2
  prog := X.prog
  w := X.w
  K := X.K
  mg := X.mg
  base := X.base
  N := X.N
  A := X.A
  hp := fun j => X.hp j.1
  hw := fun j => X.hw j.1
  hK := fun j => X.hK j.1
  hmg := fun j => X.hmg j.1
  hb := fun j => X.hb j.1
  hN := fun j => X.hN j.1
  hA := fun j => X.hA j.1
  calm := fun j => X.calm j.1
  nd := X.nd
/-! ### slots -/
structure Sg (js : List Nat) (σ σ' : L2.St) : Prop where
  len : σ'.length = σ.length
  out : ∀ i, i ∉ js → σ'[i]? = σ[i]?
theorem Sg.refl {js : List Nat} {σ : L2.St} : Sg js σ σ := ⟨rfl, fun _ _ => rfl⟩
theorem Sg.trans {js : List Nat} {σ σ1 σ2 : L2.St} (a : Sg js σ σ1) (b : Sg js σ1 σ2) : Sg js σ σ2 := ⟨b.len.trans a.len, fun i h => (b.out i h).trans (a.out i h)⟩
theorem Sg.set {js : List Nat} {σ : L2.St} {j : Nat} {v : Option V} (h : j ∈ js) : Sg js σ (σ.set j v) := ⟨by simp, fun i hi => by rw [List.getElem?_set_ne]; intro z; exact hi (z ▸ h)⟩
theorem wipe_get {σ : L2.St} : ∀ {vs : List Nat} {i : Nat}, (wipe σ vs)[i]? = if i ∈ vs ∧ i < σ.length then some none else σ[i]?
  | [], i => by simp [wipe]
  | v :: vs, i => by
    unfold wipe
    by_cases e : v = i
    · subst e
      by_cases q : v < σ.length
      · rw [List.getElem?_set_self (by rw [wipe_length]; exact q)]; simp [q]
      · rw [List.getElem?_eq_none (by simp [wipe_length]; omega), List.getElem?_eq_none (by omega)]; simp [q]
    · rw [List.getElem?_set_ne e, wipe_get]
      have : ¬ i = v := fun z => e z.symm
      simp [this]
theorem Sg.wipe {js vs : List Nat} {σ σ' : L2.St} (h : Sg js σ σ') (hs : ∀ j, j ∈ js → j ∈ vs) : L2.wipe σ' vs = L2.wipe σ vs := by
  refine List.ext_getElem? fun i => ?_
  rw [wipe_get, wipe_get, h.len]
  by_cases q : i ∈ vs ∧ i < σ.length
  · rw [if_pos q, if_pos q]
  · rw [if_neg q, if_neg q]
    by_cases m : i ∈ js
    · have : ¬ i < σ.length := fun z => q ⟨hs i m, z⟩
      rw [List.getElem?_eq_none (by rw [h.len]; omega), List.getElem?_eq_none (by omega)]
    · exact h.out i m
theorem Sg.wiped {vs : List Nat} {σ : L2.St} : Sg vs σ (L2.wipe σ vs) := ⟨wipe_length σ vs, fun i h => by rw [wipe_get, if_neg (fun z => h z.1)]⟩
def wipeV (Γ : List Vw) : List Nat → List Vw
  | [] => Γ
  | v :: vs => (wipeV Γ vs).set v .no
theorem wipeV_len (Γ : List Vw) : ∀ vs, (wipeV Γ vs).length = Γ.length
  | [] => rfl
  | v :: vs => by unfold wipeV; rw [List.length_set, wipeV_len Γ vs]
theorem Rep.set {σ : L2.St} {G : Hp} {B : Option Addr} {j : Nat} {v : V} {w : Vw} (r : Rep c Γ σ G B) (h : IsV c G B v w) : Rep c (Γ.set j w) (σ.set j (some v)) G B := ⟨by simp [r.len], fun i u a n => by
  by_cases e : j = i
  · subst e
    by_cases q : j < Γ.length
    · rw [List.getElem?_set_self q] at a
      cases a
      exact ⟨v, by rw [List.getElem?_set_self (by rw [r.len]; exact q)], h⟩
    · rw [List.getElem?_eq_none (by simp; omega)] at a; cases a
  · rw [List.getElem?_set_ne e] at a ⊢
    exact r.at_ i u a n⟩
theorem Rep.unset {σ : L2.St} {G : Hp} {B : Option Addr} {j : Nat} {v : Option V} (r : Rep c Γ σ G B) : Rep c (Γ.set j .no) (σ.set j v) G B := ⟨by simp [r.len], fun i u a n => by
  by_cases e : j = i
  · subst e
    by_cases q : j < Γ.length
    · rw [List.getElem?_set_self q] at a
      cases a
      exact (n rfl).elim
    · rw [List.getElem?_eq_none (by simp; omega)] at a; cases a
  · rw [List.getElem?_set_ne e] at a ⊢
    exact r.at_ i u a n⟩
theorem Rep.wipe {σ : L2.St} {G : Hp} {B : Option Addr} (r : Rep c Γ σ G B) : ∀ vs, Rep c (wipeV Γ vs) (L2.wipe σ vs) G B
  | [] => r
  | v :: vs => (Rep.wipe r vs).unset
/-! ### targets -/
/-- the target takes a value that says d; js: the slots it writes -/
def GG (c : Cl) (X : Fm) (tg : Expr) (Γ : List Vw) (d : D) (Γ' : List Vw) (js : List Nat) : Prop :=
  ∀ (σ : L2.St) (M : Addr → Prop) (B : Option Addr) (H : Hp) (v : V), Rep c Γ σ (hid M H) B → Hc M B H → Is c (hid M H) v d → ∀ Q : L2.St → Hp → Prop, (∀ σ', Rep c Γ' σ' (hid M H) B → Sg js σ σ' → Q σ' H) → wG X tg v σ H Q
section
variable {pos : Pos} {x : Str}
theorem gg_name (j : Nat) {d : D} (hN : X.N[j]? = some x := by rfl) (hx : ∀ i, Loc (X.X i).env.scope x := by first | exact fun _ => Or.inl rfl | exact fun _ => Or.inr rfl)
    (hf : ∀ i, (X.X i).fn x = true ∨ (X.X i).env.scope.names.lookup x = some .local := by first | exact fun _ => Or.inl rfl | exact fun _ => Or.inr rfl) : GG c X (.Name x pos) Γ d (Γ.set j (.da d)) [j] := fun σ M B H v r hc s Q k =>
  ⟨gName j, fun i => pg_name (by rw [X.hN i]; exact X.nd) (by rw [X.hN i]; exact hN) (hx i) (hf i), k _ (r.set (w := .da d) s) (.set (by simp))⟩
theorem pg_tup2 {y : Str} {p1 p2 : Pos} {k0 : Nat} (j l : Nat) (hN : X.N[j]? = some x) (hM : X.N[l]? = some y) (hx : ∀ i, Loc (X.X i).env.scope x) (hy : ∀ i, Loc (X.X i).env.scope y)
    (hf : ∀ i, (X.X i).fn x = true ∨ (X.X i).env.scope.names.lookup x = some .local) (hg : ∀ i, (X.X i).fn y = true ∨ (X.X i).env.scope.names.lookup y = some .local)
    (a1 : ∀ i, (assignEach [Expr.Name x p1, Expr.Name y p2] (X.X i).env).length = 2) (a2 : ∀ i, List.findIdx? (·.1) (assignEach [Expr.Name x p1, Expr.Name y p2] (X.X i).env) = none) (i : X.ι) :
    PG (X.X i) (.Tuple [.Name x p1, .Name y p2] k0 pos) (gTup X.K 2 (gCons (gName j) (gCons (gName l) gNil))) := by
  rw [← X.hK i]
  exact pg_tup (X.calm i) (pgs_cons (pg_name (by rw [X.hN i]; exact X.nd) (by rw [X.hN i]; exact hN) (hx i) (hf i)) (pgs_cons (pg_name (by rw [X.hN i]; exact X.nd) (by rw [X.hN i]; exact hM) (hy i) (hg i)) pgs_nil)) (a1 i) (a2 i)
theorem gg_pair {y : Str} {p1 p2 : Pos} {k0 : Nat} (j l : Nat) {d e : D} (hN : X.N[j]? = some x := by rfl) (hM : X.N[l]? = some y := by rfl) (hx : ∀ i, Loc (X.X i).env.scope x := by first | exact fun _ => Or.inl rfl | exact fun _ => Or.inr rfl)
    (hy : ∀ i, Loc (X.X i).env.scope y := by first | exact fun _ => Or.inl rfl | exact fun _ => Or.inr rfl)
    (hf : ∀ i, (X.X i).fn x = true ∨ (X.X i).env.scope.names.lookup x = some .local := by first | exact fun _ => Or.inl rfl | exact fun _ => Or.inr rfl) (hg : ∀ i, (X.X i).fn y = true ∨ (X.X i).env.scope.names.lookup y = some .local := by first | exact fun _ => Or.inl rfl | exact fun _ => Or.inr rfl)
    (a1 : ∀ i, (assignEach [Expr.Name x p1, Expr.Name y p2] (X.X i).env).length = 2 := by intro _; rfl) (a2 : ∀ i, List.findIdx? (·.1) (assignEach [Expr.Name x p1, Expr.Name y p2] (X.X i).env) = none := by intro _; rfl) :
    GG c X (.Tuple [.Name x p1, .Name y p2] k0 pos) Γ (.tup [d, e]) ((Γ.set j (.da d)).set l (.da e)) [j, l] := fun σ M B H v r hc s Q k => by
  refine ⟨_, pg_tup2 j l hN hM hx hy hf hg a1 a2, ?_⟩
  obtain ⟨a, vs, rfl, e1, il⟩ := s.tupE
  match vs, il with
  | [u, w], il =>
    have s1 := il.at_ 0 u d rfl rfl
    have s2 := il.at_ 1 w e rfl rfl
    refine ⟨a, _, rfl, SqT.of (hid_le _ _ e1), rfl, u, _, rfl, w, _, rfl, rfl, ?_⟩
    exact k _ ((r.set (w := .da d) s1).set (w := .da e) s2) ((Sg.set (by simp)).trans (Sg.set (by simp)))
  | [], il => have := il.len; simp at this
  | [_], il => have := il.len; simp at this
  | _ :: _ :: _ :: _, il => have := il.len; simp at this
end
/-! ### what is walked -/
/-- n turns, the i-th gives data d with Y i d -/
def GI (c : Cl) (X : Fm) (tg it : Expr) (Γ : List Vw) (n : Nat) (Y : Nat → D → Prop) : Prop :=
  ∀ (σ : L2.St) (M : Addr → Prop) (B : Option Addr) (H : Hp), Rep c Γ σ (hid M H) B → Hc M B H → ∀ R : It → Hp → Prop,
    (∀ (J : It) (H1 : Hp) (G : Hp → Prop) (Yh : Nat → Hp → V → Hp → Prop), To B H H1 → Walk J n G Yh → (∀ H2, Ex (hid M H1) H2 → G H2) →
      (∀ i x H2 H3 (M' : Addr → Prop), i < n → Ex (hid M H1) (hid M' H2) → StB B H2 → (∀ p, H2 p = none → ¬ M' p) → (∀ a, B = some a → M' a) → Yh i H2 x H3 → To B H2 H3 ∧ ∃ d, Y i d ∧ Is c (hid M' H3) x d) → R J H1) → wI X tg it σ H R
section
variable {tg l : Expr} {p pos : Pos}
theorem gi_list {ds : List D} (h : GV c X l Γ (.lst ds)) : GI c X tg l Γ ds.length (fun i d => ds[i]? = some d) := fun σ M B H r hc R k => by
  refine ⟨iList X.K (wE X l), fun i => by rw [← X.hK i]; exact pi_list (pe_w l i), ?_⟩
  refine h σ M B H r hc _ fun d v H1 t p s => ?_
  subst p
  obtain ⟨a, vs, rfl, e, il⟩ := s.lstE
  refine ⟨a, rfl, ⟨vs, SqL.of (hid_le _ _ e)⟩, ?_⟩
  refine k _ H1 _ _ t (il.len ▸ walk_list (xs := vs)) (fun H2 x => SqL.of (x _ _ e)) fun i x H2 H3 M' hi ex st nm bm y => ?_
  obtain ⟨rfl, hx⟩ := y
  obtain ⟨d, hd, sd⟩ := il.getV hx
  exact ⟨.refl st, d, hd, sd.mono ex⟩
theorem gi_tup {ds : List D} (h : GV c X l Γ (.tup ds)) : GI c X tg l Γ ds.length (fun i d => ds[i]? = some d) := fun σ M B H r hc R k => by
  refine ⟨iTup X.K (wE X l), fun i => by rw [← X.hK i]; exact pi_tup (pe_w l i), ?_⟩
  refine h σ M B H r hc _ fun d v H1 t p s => ?_
  subst p
  obtain ⟨a, vs, rfl, e, il⟩ := s.tupE
  refine ⟨a, rfl, ⟨vs, SqT.of (hid_le _ _ e)⟩, ?_⟩
  refine k _ H1 _ _ t (il.len ▸ walk_tup (xs := vs)) (fun H2 x => SqT.of (x _ _ e)) fun i x H2 H3 M' hi ex st nm bm y => ?_
  obtain ⟨rfl, hx⟩ := y
  obtain ⟨d, hd, sd⟩ := il.getV hx
  exact ⟨.refl st, d, hd, sd.mono ex⟩
theorem gi_range1 {a : Expr} {n : Nat} (hm : X.mg "range" = none) (ha : GV c X a Γ (.int n)) (hn : n ≤ 1000000) (hg : ∀ i, Gl (X.X i) "range" := by intro _; rfl) (hs : ∀ i, starEach [a] (X.X i).env = [(false, eval a (X.X i).env)] := by intro _; rfl) (hs' : ∀ i, starEach [a] (X.X i).env = (false, eval a (X.X i).env) :: starEach [] (X.X i).env := by intro _; rfl) :
    GI c X tg (.Call (.Name "range" p) [a] [] pos) Γ n (fun i d => d = .int i) := fun σ M B H r hc R k => by
  refine ⟨_, fun i => pi_range1 (hg i) (by rw [X.hmg i]; exact hm) (pa_w [a] i) (hs i), ?_⟩
  refine ga1 ha hs' σ M B H r hc _ fun ws vs H1 t p s => ?_
  subst p
  obtain ⟨v, rfl, sv⟩ := Paired.inv1 s
  rw [(show Is c _ v (.int n) from sv).intE]
  refine ⟨n, rfl, by omega, by omega, ?_⟩
  have e : (n : Int).toNat = n := by simp
  rw [e]
  refine k _ H1 _ _ t walk_range (fun _ _ => trivial) fun i x H2 H3 M' hi ex st nm bm y => ?_
  obtain ⟨rfl, rfl⟩ := y
  refine ⟨.refl st, .int i, rfl, ?_⟩
  show Is c _ (V.int (0 + (i : Int))) _
  rw [Int.zero_add]
  exact .int _
theorem gi_range2 {a b : Expr} {lo hi : Int} (hm : X.mg "range" = none) (ha : GV c X a Γ (.int lo)) (hb : GV c X b Γ (.int hi)) (h1 : -1000000 ≤ lo ∧ lo ≤ 1000000 ∧ -1000000 ≤ hi ∧ hi ≤ 1000000) (hg : ∀ i, Gl (X.X i) "range" := by intro _; rfl)
    (hs : ∀ i, starEach [a, b] (X.X i).env = [(false, eval a (X.X i).env), (false, eval b (X.X i).env)] := by intro _; rfl) (hs3 : ∀ i, starEach [b] (X.X i).env = [(false, eval b (X.X i).env)] := by intro _; rfl)
    (he : ∀ i, starEach [a, b] (X.X i).env = (false, eval a (X.X i).env) :: starEach [b] (X.X i).env := by intro _; rfl) (he2 : ∀ i, starEach [b] (X.X i).env = (false, eval b (X.X i).env) :: starEach [] (X.X i).env := by intro _; rfl) :
    GI c X tg (.Call (.Name "range" p) [a, b] [] pos) Γ (hi - lo).toNat (fun i d => d = .int (lo + i)) := fun σ M B H r hc R k => by
  refine ⟨_, fun i => pi_range2 (hg i) (by rw [X.hmg i]; exact hm) (pa_w [a, b] i) (hs i) (hs3 i), ?_⟩
  refine ga2 ha hb he he2 σ M B H r hc _ fun ws vs H1 t p s => ?_
  subst p
  obtain ⟨v, u, rfl, sv, su⟩ := Paired.inv2 s
  rw [(show Is c _ v (.int lo) from sv).intE, (show Is c _ u (.int hi) from su).intE]
  refine ⟨lo, hi, rfl, ⟨by omega, by omega, by omega, by omega⟩, ?_⟩
  refine k _ H1 _ _ t walk_range (fun _ _ => trivial) fun i x H2 H3 M' hi ex st nm bm y => ?_
  obtain ⟨rfl, rfl⟩ := y
  exact ⟨.refl st, _, rfl, .int _⟩
end
/-! ### comprehensions -/
def wTs (X : Fm) (ifs : List Expr) : TT := fun σ H Q => ∃ te, (∀ i, PTs (X.X i) ifs te) ∧ te σ H Q
theorem pts_w (ifs : List Expr) (i : X.ι) : PTs (X.X i) ifs (wTs X ifs) := ⟨fun pins s σ H Q I ⟨te, h, q⟩ => (h i).run pins s σ H Q I q⟩
def GTs (c : Cl) (X : Fm) (ifs : List Expr) (Γ : List Vw) (k : Bool) : Prop :=
  ∀ (σ : L2.St) (M : Addr → Prop) (B : Option Addr) (H : Hp), Rep c Γ σ (hid M H) B → Hc M B H → ∀ Q : Bool → Hp → Prop, (∀ H', To B H H' → Q k H') → wTs X ifs σ H Q
theorem gts_nil : GTs c X [] Γ true := fun σ M B H r hc Q q => ⟨_, fun _ => pts_nil, q H (.refl hc.st)⟩
theorem gts_one {e : Expr} {k : Bool} (h : GB c X e Γ k) : GTs c X [e] Γ k := fun σ M B H r hc Q q => ⟨_, fun i => pts_one (pt_w e i), h σ M B H r hc _ fun x H1 t p => by rw [p]; exact q H1 t⟩
def tLcW (X : Fm) (elt tg it : Expr) (ifs : List Expr) (scope : Scope) (own : List (Str × Nat)) : TE := tLc (wI X tg it) (wG (X.blk scope) tg) (wTs (X.blk scope) ifs) (wE (X.blk scope) elt) (own.map (·.2))
section
variable {elt tg it : Expr} {ifs : List Expr} {scope : Scope} {own : List (Str × Nat)} {pos : Pos}
theorem pe_lcW (ok : ∀ i, BlkOk X.N (X.X i).env.scope scope own) (hs : ∀ i x, foldedSetIterable it (X.X i).env x = pure x) (i : X.ι) : PE (X.X i) (.ListComp elt [⟨tg, it, ifs, 0⟩] scope pos) (tLcW X elt tg it ifs scope own) :=
  pe_lc (X.calm i) (by rw [X.hN i]; exact X.nd) (pi_w tg it i) (by rw [X.hN i]; exact ok i) (fun s H C cl fp => pg_w (X := X.blk scope) tg (i, s, H, C, cl, fp)) (fun s H C cl fp => pts_w (X := X.blk scope) ifs (i, s, H, C, cl, fp)) (fun s H C cl fp => pe_w (X := X.blk scope) elt (i, s, H, C, cl, fp)) (hs i)
/-- the comprehension's reading -/
def GC (c : Cl) (X : Fm) (elt tg it : Expr) (ifs : List Expr) (scope : Scope) (own : List (Str × Nat)) (Γ : List Vw) (P : List D → Prop) : Prop :=
  ∀ (σ : L2.St) (M : Addr → Prop) (B : Option Addr) (H : Hp), Rep c Γ σ (hid M H) B → Hc M B H → ∀ Q : VK,
    (∀ ds a vs H', To B H H' → P ds → H a = none → H' a = some (.lst vs) → IsL c (hid (fun b => b = a ∨ M b) H') vs ds → Q (.ref a) H') → tLcW X elt tg it ifs scope own σ H Q
theorem gl_of_gc {P : List D → Prop} (h : GC c X elt tg it ifs scope own Γ P) (ok : ∀ i, BlkOk X.N (X.X i).env.scope scope own := by exact fun _ => blkOk_by (by kernel_rfl)) (hs : ∀ i x, foldedSetIterable it (X.X i).env x = pure x := by intro _ _; rfl) :
    GL c X (.ListComp elt [⟨tg, it, ifs, 0⟩] scope pos) Γ P := fun σ M B H r hc Q k => ⟨_, pe_lcW ok hs, h σ M B H r hc Q k⟩
theorem gc_inv {n : Nat} {y : Nat → D → Prop} (b : Nat → Bool) (Iv : Nat → List D → Prop) {P : List D → Prop} {Pd : Nat → D → Prop} {Γ' : Nat → D → List Vw} {js : List Nat} (hi : GI c X tg it Γ n y) (hn : n ≤ 100000) (hj : ∀ j, j ∈ js → j ∈ own.map (·.2))
    (hg : ∀ i d, i < n → y i d → GG c (X.blk scope) tg (wipeV Γ (own.map (·.2))) d (Γ' i d) js) (ht : ∀ i d, i < n → y i d → GTs c (X.blk scope) ifs (Γ' i d) (b i)) (he : ∀ i d, i < n → y i d → b i = true → GE c (X.blk scope) elt (Γ' i d) (Pd i))
    (h0 : Iv 0 []) (h1 : ∀ i ds d, i < n → b i = true → Iv i ds → Pd i d → Iv (i + 1) (ds ++ [d])) (h2 : ∀ i ds, i < n → b i = false → Iv i ds → Iv (i + 1) ds) (hP : ∀ ds, Iv n ds → P ds) :
    GC c X elt tg it ifs scope own Γ P := fun σ M B H r hc Q k => by
  refine hi σ M B H r hc _ fun J H1 G Yh t W hG hY Dl hD => ?_
  have hc1 := t.hc hc
  have nM : ¬ M Dl := hc1.no hD
  have ext : ∀ {H2 : Hp}, To B H1 H2 → Ex (hid M H1) (hid (fun b => b = Dl ∨ M b) H2) := fun {H2} t2 b o e => by
    obtain ⟨e1, e2⟩ := hid_some.mp e
    have nb : b ≠ Dl := fun z => by rw [z, hD] at e2; cases e2
    exact hid_some.mpr ⟨fun z => z.elim nb e1, t2.ex b o (fun z => e1 (hc.bm b z)) e2⟩
  refine lc_it W (fun i H2 => To B H1 H2 ∧ ∃ vs ds, H2 Dl = some (.lst vs) ∧ IsL c (hid (fun b => b = Dl ∨ M b) H2) vs ds ∧ Iv i ds ∧ ds.length ≤ i) ⟨.new hD t.st, [], [], upd_same, .nil, h0, Nat.le_refl _⟩ (fun i H2 _ p => hG H2 ((p.1.hid hc.bm).trans hid_le)) ?_ ?_
  · rintro i x H2 H3 hi' ⟨t2, vs, ds, e2, il, hv, hl⟩ yy
    have hc2 := t2.hc hc1
    have hc2' : Hc (fun b => b = Dl ∨ M b) B H2 := ⟨fun b z => z.elim (fun z => ⟨vs, by rw [z]; exact e2⟩) (hc2.ml b), fun a z => .inr (hc.bm a z), hc2.st⟩
    obtain ⟨t3, d, yd, sd⟩ := hY i x H2 H3 _ hi' (ext t2) hc2.st (fun p hp => hc2'.no hp) hc2'.bm yy
    have hc3' := t3.hc hc2'
    have nB : B ≠ some Dl := fun z => nM (hc.bm Dl z)
    have e3 : H3 Dl = some (.lst vs) := t3.ex Dl _ nB e2
    have rw3 : Rep c (wipeV Γ (own.map (·.2))) (L2.wipe σ (own.map (·.2))) (hid (fun b => b = Dl ∨ M b) H3) B := ((r.mono (t.hid hc.bm)).mono ((ext (t2.trans t3)))).wipe _
    have il3 := il.mono (t3.hid hc2'.bm)
    refine hg i d hi' yd _ _ B H3 x rw3 hc3' sd _ fun σ' r' sg => ?_
    refine ⟨(sg.wipe hj).trans (Sg.wipe Sg.wiped fun j z => z), ?_⟩
    refine ht i d hi' yd σ' _ B H3 r' hc3' _ fun H4 t4 => ?_
    have il4 := il3.mono (t4.hid hc2'.bm)
    have e4 : H4 Dl = some (.lst vs) := t4.ex Dl _ nB e3
    have t14 := (t2.trans t3).trans t4
    cases hb : b i with
    | false => 
      show To B H1 H4 ∧ _
      exact ⟨t14, vs, ds, e4, il4, h2 i ds hi' hb hv, by omega⟩
    | true =>
      show wE (X.blk scope) elt σ' H4 _
      refine he i d hi' yd hb σ' _ B H4 (r'.mono (t4.hid hc2'.bm)) (t4.hc hc3') _ fun e u H5 t5 pe su => ?_
      have il5 := il4.mono (t5.hid hc2'.bm)
      have e5 : H5 Dl = some (.lst vs) := t5.ex Dl _ nB e4
      refine ⟨vs, e5, by rw [il.len]; exact Nat.lt_of_le_of_lt hl (Nat.lt_of_lt_of_le hi' (Nat.le_trans hn (by decide))), ?_⟩
      have keep : Ex (hid (fun b => b = Dl ∨ M b) H5) (hid (fun b => b = Dl ∨ M b) (upd H5 Dl (.lst (vs ++ [u])))) := fun b o z => by
        obtain ⟨z1, z2⟩ := hid_some.mp z
        exact hid_some.mpr ⟨z1, by rw [upd_ne (fun q => z1 (.inl q))]; exact z2⟩
      have t15 := t14.trans t5
      refine ⟨⟨fun b o n z => ?_, fun a z => ?_⟩, vs ++ [u], ds ++ [e], upd_same, (il5.append (.cons su .nil)).mono keep, h1 i ds e hi' hb hv pe, by simp; omega⟩
      · rw [upd_ne (fun q => by rw [q, hD] at z; cases z)]
        exact t15.ex b o n z
      · obtain ⟨s1, s2, s3, s4⟩ := t15.st a z
        exact ⟨s1, s2, s3, by rw [upd_ne (fun q => nB (by rw [← q]; exact z))]; exact s4⟩
  · rintro H2 ⟨t2, vs, ds, e2, il, hv, hl⟩
    exact k ds Dl vs H2 (t.trans t2) (hP ds hv) (t.free hD) e2 il
/-- each turn's item and test are known -/
theorem gc_fn {n : Nat} {y : Nat → D → Prop} {yf : Nat → D} (b : Nat → Bool) (h : Nat → D) {Γ' : Nat → List Vw} {js : List Nat} (hi : GI c X tg it Γ n y) (hy : ∀ i d, i < n → y i d → d = yf i) (hn : n ≤ 100000)
    (hg : ∀ i, i < n → GG c (X.blk scope) tg (wipeV Γ (own.map (·.2))) (yf i) (Γ' i) js) (ht : ∀ i, i < n → GTs c (X.blk scope) ifs (Γ' i) (b i)) (he : ∀ i, i < n → b i = true → GV c (X.blk scope) elt (Γ' i) (h i)) (hj : ∀ j, j ∈ js → j ∈ own.map (·.2) := by decide) :
    GC c X elt tg it ifs scope own Γ (fun x => x = ((List.range n).filter b).map h) :=
  gc_inv b (fun i ds => ds = ((List.range i).filter b).map h) (Pd := fun i d => d = h i) (Γ' := fun i _ => Γ' i) hi hn hj (fun i d hi yd => by rw [hy i d hi yd]; exact hg i hi) (fun i d hi _ => ht i hi) (fun i d hi _ hb => he i hi hb) rfl
    (fun i ds d hi hb e1 e2 => by rw [e1, e2, List.range_succ, List.filter_append, List.map_append]; simp [hb]) (fun i ds hi hb e1 => by rw [e1, List.range_succ, List.filter_append, List.map_append]; simp [hb]) (fun ds e => e)
/-- without a test -/
theorem gc_map {n : Nat} {y : Nat → D → Prop} {yf : Nat → D} (h : Nat → D) {Γ' : Nat → List Vw} {js : List Nat} (hi : GI c X tg it Γ n y) (hy : ∀ i d, i < n → y i d → d = yf i) (hn : n ≤ 100000)
    (hg : ∀ i, i < n → GG c (X.blk scope) tg (wipeV Γ (own.map (·.2))) (yf i) (Γ' i) js) (he : ∀ i, i < n → GV c (X.blk scope) elt (Γ' i) (h i)) (hj : ∀ j, j ∈ js → j ∈ own.map (·.2) := by decide) :
    GC c X elt tg it [] scope own Γ (fun x => x = (List.range n).map h) := by
  have := gc_fn (ifs := []) (fun _ => true) h hi hy hn hg (fun i hi => gts_nil) (fun i hi _ => he i hi) hj
  have e : (List.range n).filter (fun _ => true) = List.range n := List.filter_eq_self.mpr fun _ _ => rfl
  rw [e] at this
  exact this
end
end K33
end
section
set_option Elab.async false
set_option linter.all false
set_option maxRecDepth 100000
/-! B7: zip -/
namespace K33
open PySem L2
variable {c : Cl} {X : Fm} {Γ : List Vw}
theorem walk_zipT {K : PySem.W.Frag} {a b : Addr} {xs ys : List V} {n : Nat} (hn : n = min xs.length ys.length) : Walk (RZ.ItzT K a b) n (fun H => SqT K H a xs ∧ SqT K H b ys) (YPair (fun i => xs[i]?) (fun i => ys[i]?)) := by
  subst hn
  refine ⟨fun i _ hi q => ?_, fun _ q => ⟨xs, ys, q.1, q.2, by omega⟩, fun i H v H' _ q y => ?_⟩
  · have h1 : i < xs.length := by omega
    have h2 : i < ys.length := by omega
    exact ⟨xs, ys, xs[i], ys[i], q.1, q.2, by simp [h1], by simp [h2]⟩
  · obtain ⟨T, x, z, h1, h2, h3, h4, h5⟩ := y
    exact ⟨T, x, z, h1, h2, h3, h4 xs q.1, h5 ys q.2⟩
theorem zip_yield {M M' : Addr → Prop} {B : Option Addr} {H1 H2 H3 : Hp} {xs ys : List V} {ds es : List D} {i : Nat} {x : V} (l1 : IsL c (hid M H1) xs ds) (l2 : IsL c (hid M H1) ys es) (ex : Ex (hid M H1) (hid M' H2)) (st : StB B H2) (nm : ∀ p, H2 p = none → ¬ M' p) (bm : ∀ a, B = some a → M' a)
    (y : YPair (fun i => xs[i]?) (fun i => ys[i]?) i H2 x H3) : To B H2 H3 ∧ ∃ d, (∃ d1 d2, d = .tup [d1, d2] ∧ ds[i]? = some d1 ∧ es[i]? = some d2) ∧ Is c (hid M' H3) x d := by
  obtain ⟨T, u, w, rfl, hT, rfl, hx, hy⟩ := y
  obtain ⟨d1, hd1, s1⟩ := l1.getV hx
  obtain ⟨d2, hd2, s2⟩ := l2.getV hy
  have t : To B H2 (upd H2 T (.tup [u, w])) := .new hT st
  refine ⟨t, .tup [d1, d2], ⟨d1, d2, rfl, hd1, hd2⟩, ?_⟩
  have ex2 : Ex (hid M H1) (hid M' (upd H2 T (.tup [u, w]))) := ex.trans (t.hid bm)
  exact IsL.tupI (hid_new (nm T hT)) (.cons (s1.mono ex2) (.cons (s2.mono ex2) .nil))
section
variable {e1 e2 : Expr} {p pos tpos : Pos} {elts : List Expr} {kk : Nat}
theorem pi_zipF (hm : X.mg "zip" = none) (hg : ∀ i, Gl (X.X i) "zip") (hs : ∀ i, starEach [e1, e2] (X.X i).env = (false, eval e1 (X.X i).env) :: starEach [e2] (X.X i).env) (hpl : ∀ i, (backTo pos (starEach [e2] (X.X i).env)).any (·.1) = false) (i : X.ι) :
    PI (X.X i) (.Tuple elts kk tpos) (.Call (.Name "zip" p) [e1, e2] [] pos) (RZ.iZipA X.K (wA X [e1, e2])) := by
  rw [← X.hK i]
  exact RZ.pi_zipA (hg i) (by rw [X.hmg i]; exact hm) (pa_w [e1, e2] i) (hs i) (hpl i)
theorem gi_zipL {ds es : List D} (hm : X.mg "zip" = none) (ha : GV c X e1 Γ (.lst ds)) (hb : GV c X e2 Γ (.lst es)) (hg : ∀ i, Gl (X.X i) "zip" := by intro _; rfl)
    (hs : ∀ i, starEach [e1, e2] (X.X i).env = (false, eval e1 (X.X i).env) :: starEach [e2] (X.X i).env := by intro _; rfl) (hs2 : ∀ i, starEach [e2] (X.X i).env = (false, eval e2 (X.X i).env) :: starEach [] (X.X i).env := by intro _; rfl)
    (hpl : ∀ i, (backTo pos (starEach [e2] (X.X i).env)).any (·.1) = false := by intro _; rfl) :
    GI c X (.Tuple elts kk tpos) (.Call (.Name "zip" p) [e1, e2] [] pos) Γ (min ds.length es.length) (fun i d => ∃ d1 d2, d = .tup [d1, d2] ∧ ds[i]? = some d1 ∧ es[i]? = some d2) := fun σ M B H r hc R k => by
  refine ⟨_, pi_zipF hm hg hs hpl, ?_⟩
  refine ga2 ha hb hs hs2 σ M B H r hc _ fun ws vs H1 t q s => ?_
  subst q
  obtain ⟨v, u, rfl, sv, su⟩ := Paired.inv2 s
  obtain ⟨a, xs, rfl, ea, la⟩ := (show Is c _ v (.lst ds) from sv).lstE
  obtain ⟨b, ys, rfl, eb, lb⟩ := (show Is c _ u (.lst es) from su).lstE
  refine ⟨a, b, xs, ys, rfl, .inl ⟨SqL.of (hid_le _ _ ea), SqL.of (hid_le _ _ eb), ?_⟩⟩
  exact k _ H1 _ _ t (walk_zip (by rw [la.len, lb.len])) (fun H2 x => ⟨SqL.of (x _ _ ea), SqL.of (x _ _ eb)⟩) fun i x H2 H3 M' hi ex st nm bm y => zip_yield la lb ex st nm bm y
theorem gi_zipT {ds es : List D} (hm : X.mg "zip" = none) (ha : GV c X e1 Γ (.tup ds)) (hb : GV c X e2 Γ (.tup es)) (hg : ∀ i, Gl (X.X i) "zip" := by intro _; rfl)
    (hs : ∀ i, starEach [e1, e2] (X.X i).env = (false, eval e1 (X.X i).env) :: starEach [e2] (X.X i).env := by intro _; rfl) (hs2 : ∀ i, starEach [e2] (X.X i).env = (false, eval e2 (X.X i).env) :: starEach [] (X.X i).env := by intro _; rfl)
    (hpl : ∀ i, (backTo pos (starEach [e2] (X.X i).env)).any (·.1) = false := by intro _; rfl) :
    GI c X (.Tuple elts kk tpos) (.Call (.Name "zip" p) [e1, e2] [] pos) Γ (min ds.length es.length) (fun i d => ∃ d1 d2, d = .tup [d1, d2] ∧ ds[i]? = some d1 ∧ es[i]? = some d2) := fun σ M B H r hc R k => by
  refine ⟨_, pi_zipF hm hg hs hpl, ?_⟩
  refine ga2 ha hb hs hs2 σ M B H r hc _ fun ws vs H1 t q s => ?_
  subst q
  obtain ⟨v, u, rfl, sv, su⟩ := Paired.inv2 s
  obtain ⟨a, xs, rfl, ea, la⟩ := (show Is c _ v (.tup ds) from sv).tupE
  obtain ⟨b, ys, rfl, eb, lb⟩ := (show Is c _ u (.tup es) from su).tupE
  refine ⟨a, b, xs, ys, rfl, .inr ⟨SqT.of (hid_le _ _ ea), SqT.of (hid_le _ _ eb), ?_⟩⟩
  exact k _ H1 _ _ t (walk_zipT (by rw [la.len, lb.len])) (fun H2 x => ⟨SqT.of (x _ _ ea), SqT.of (x _ _ eb)⟩) fun i x H2 H3 M' hi ex st nm bm y => zip_yield la lb ex st nm bm y
end
end K33
end
section
set_option Elab.async false
set_option linter.all false
set_option maxRecDepth 100000
/-! B8: statements over slots that hold data, mutable lists, mutable lists of mutable lists, the law's state -/
namespace K33
open PySem L2
variable {c : Cl} {X : Fm}
inductive Sl where
  | no | da (d : D) | mu (ds : List D) | mm (rs : List (List D)) | st | raw (v : V)
def vw0 : Sl → Vw
  | .da d => .da d
  | .st => .st
  | _ => .no
def vwF : Sl → Vw
  | .no => .no
  | .da d => .da d
  | .mu ds => .da (.lst ds)
  | .mm rs => .da (.lst (rs.map .lst))
  | .st => .st
  | .raw _ => .no
structure Rows (c : Cl) (G H : Hp) (ps : List Addr) (rs : List (List D)) : Prop where
  len : ps.length = rs.length
  at_ : ∀ (k : Nat) (p : Addr) (r : List D), ps[k]? = some p → rs[k]? = some r → ∃ vs, H p = some (.lst vs) ∧ IsL c G vs r
def SlOk (c : Cl) (G H : Hp) (B : Option Addr) (s : Option V) (F : List Addr) : Sl → Prop
  | .no => F = []
  | .da d => F = [] ∧ ∃ v, s = some v ∧ Is c G v d
  | .mu ds => ∃ l vs, s = some (.ref l) ∧ F = [l] ∧ H l = some (.lst vs) ∧ IsL c G vs ds
  | .mm rs => ∃ l ps, s = some (.ref l) ∧ F = l :: ps ∧ H l = some (.lst (ps.map .ref)) ∧ Rows c G H ps rs
  | .st => F = [] ∧ ∃ a, B = some a ∧ s = some (.ref a)
  | .raw v => F = [] ∧ s = some v
def MF (M0 : Addr → Prop) (F : Nat → List Addr) : Addr → Prop := fun b => M0 b ∨ ∃ i, b ∈ F i
def upF (F : Nat → List Addr) (i : Nat) (f : List Addr) : Nat → List Addr := fun j => if j = i then f else F j
structure RepS (c : Cl) (A : List Sl) (σ : L2.St) (H0 : Hp) (M0 : Addr → Prop) (B : Option Addr) (G0 : Hp) (F : Nat → List Addr) (H : Hp) : Prop where
  len : σ.length = A.length
  fo : ∀ i, A.length ≤ i → F i = []
  nd : ∀ i, (F i).Nodup
  dj : ∀ i j b, b ∈ F i → b ∈ F j → i = j
  fr : ∀ i b, b ∈ F i → H0 b = none ∧ ¬ M0 b ∧ G0 b = none
  hc : Hc (MF M0 F) B H
  b0 : ∀ a, B = some a → M0 a
  ex : ExB B H0 H
  g0 : Ex G0 (hid (MF M0 F) H)
  sl : ∀ i a, A[i]? = some a → ∃ s, σ[i]? = some s ∧ SlOk c (hid (MF M0 F) H) H B s (F i) a
def RS (c : Cl) (A : List Sl) (σ : L2.St) (H0 : Hp) (M0 : Addr → Prop) (B : Option Addr) (G0 : Hp) (H : Hp) : Prop := ∃ F, RepS c A σ H0 M0 B G0 F H
section
variable {A : List Sl} {σ : L2.St} {H0 G0 H H1 : Hp} {M0 : Addr → Prop} {B : Option Addr} {F : Nat → List Addr}
theorem RepS.nB (r : RepS c A σ H0 M0 B G0 F H) {i : Nat} {b : Addr} (h : b ∈ F i) : B ≠ some b := fun z => (r.fr i b h).2.1 (r.b0 b z)
theorem SlOk.mono {G G' H H' : Hp} {s : Option V} {f : List Addr} {a : Sl} (h : SlOk c G H B s f a) (e : Ex G G') (k : ∀ b vs, b ∈ f → H b = some (.lst vs) → H' b = some (.lst vs)) : SlOk c G' H' B s f a := by
  cases a with
  | no => exact h
  | da d => obtain ⟨f, v, e1, e2⟩ := h; exact ⟨f, v, e1, e2.mono e⟩
  | mu ds => obtain ⟨l, vs, e1, rfl, e3, e4⟩ := h; exact ⟨l, vs, e1, rfl, k l vs (by simp) e3, e4.mono e⟩
  | mm rs =>
    obtain ⟨l, ps, e1, rfl, e3, e4⟩ := h
    refine ⟨l, ps, e1, rfl, k l _ (by simp) e3, e4.len, fun j p r a b => ?_⟩
    obtain ⟨vs, q1, q2⟩ := e4.at_ j p r a b
    exact ⟨vs, k p vs (by simp [List.mem_of_getElem? a]) q1, q2.mono e⟩
  | st => exact h
  | raw v => exact h
theorem RepS.to (r : RepS c A σ H0 M0 B G0 F H) (t : To B H H1) : RepS c A σ H0 M0 B G0 F H1 :=
  ⟨r.len, r.fo, r.nd, r.dj, r.fr, t.hc r.hc, r.b0, fun b o n e => t.ex b o n (r.ex b o n e), r.g0.trans (t.hid r.hc.bm), fun i a e => by
    obtain ⟨s, e1, e2⟩ := r.sl i a e
    exact ⟨s, e1, e2.mono (t.hid r.hc.bm) fun b vs hb q => t.ex b _ (r.nB hb) q⟩⟩
theorem RepS.v0 (r : RepS c A σ H0 M0 B G0 F H) : Rep c (A.map vw0) σ (hid (MF M0 F) H) B := ⟨by simp [r.len], fun i w e n => by
  rw [List.getElem?_map] at e
  cases q : A[i]? with
  | none => rw [q] at e; cases e
  | some a =>
    rw [q] at e
    obtain ⟨s, e1, e2⟩ := r.sl i a q
    cases a with
    | da d => cases e; obtain ⟨_, v, rfl, e4⟩ := e2; exact ⟨v, e1, e4⟩
    | st => cases e; obtain ⟨_, a, e3, rfl⟩ := e2; exact ⟨_, e1, a, e3, rfl⟩
    | no => cases e; exact (n rfl).elim
    | mu ds => cases e; exact (n rfl).elim
    | mm rs => cases e; exact (n rfl).elim
    | raw v => cases e; exact (n rfl).elim⟩
theorem RepS.hc0 (r : RepS c A σ H0 M0 B G0 F H) : Hc M0 B H := ⟨fun b h => r.hc.ml b (.inl h), r.b0, r.hc.st⟩
theorem RepS.vF (r : RepS c A σ H0 M0 B G0 F H) : Rep c (A.map vwF) σ (hid M0 H) B := ⟨by simp [r.len], fun i w e n => by
  have sub : Ex (hid (MF M0 F) H) (hid M0 H) := hid_sub fun b z => .inl z
  rw [List.getElem?_map] at e
  cases q : A[i]? with
  | none => rw [q] at e; cases e
  | some a =>
    rw [q] at e
    obtain ⟨s, e1, e2⟩ := r.sl i a q
    have out : ∀ b, b ∈ F i → ¬ M0 b := fun b h => (r.fr i b h).2.1
    cases a with
    | da d => cases e; obtain ⟨_, v, rfl, e4⟩ := e2; exact ⟨v, e1, e4.mono sub⟩
    | st => cases e; obtain ⟨_, a, e3, rfl⟩ := e2; exact ⟨_, e1, a, e3, rfl⟩
    | no => cases e; exact (n rfl).elim
    | raw v => cases e; exact (n rfl).elim
    | mu ds =>
      cases e
      obtain ⟨l, vs, rfl, e3, e4, e5⟩ := e2
      exact ⟨_, e1, IsL.lstI (hid_some.mpr ⟨out l (by rw [e3]; simp), e4⟩) (e5.mono sub)⟩
    | mm rs =>
      cases e
      obtain ⟨l, ps, rfl, e3, e4, e5⟩ := e2
      refine ⟨_, e1, IsL.lstI (vs := ps.map .ref) (hid_some.mpr ⟨out l (by rw [e3]; simp), e4⟩) ⟨by simp [e5.len], fun k v d a b => ?_⟩⟩
      rw [List.getElem?_map] at a b
      cases qa : ps[k]? with
      | none => rw [qa] at a; cases a
      | some p =>
        cases qb : rs[k]? with
        | none => rw [qb] at b; cases b
        | some rr =>
          rw [qa] at a; rw [qb] at b
          cases a; cases b
          obtain ⟨vs, q1, q2⟩ := e5.at_ k p rr qa qb
          exact IsL.lstI (hid_some.mpr ⟨out p (by rw [e3]; simp [List.mem_of_getElem? qa]), q1⟩) (q2.mono sub)⟩
theorem upF_same {i : Nat} {f : List Addr} : upF F i f i = f := by simp [upF]
theorem upF_ne {i j : Nat} {f : List Addr} (h : j ≠ i) : upF F i f j = F j := by simp [upF, h]
/-- a slot is stored: new footprint f, fresh objects -/
theorem RepS.put (r : RepS c A σ H0 M0 B G0 F H) (t : To B H H1) {i : Nat} {s : V} {a : Sl} {f : List Addr} (nf : f.Nodup) (fr : ∀ b, b ∈ f → H b = none ∧ ∃ vs, H1 b = some (.lst vs)) (ok : SlOk c (hid (fun b => b ∈ f ∨ MF M0 F b) H1) H1 B (some s) f a) :
    ∃ F', RepS c (A.set i a) (σ.set i (some s)) H0 M0 B G0 F' H1 ∧ ∀ b, MF M0 F' b → b ∈ f ∨ MF M0 F b := by
  by_cases hi : A.length ≤ i
  · rw [List.set_eq_of_length_le hi, List.set_eq_of_length_le (by rw [r.len]; exact hi)]
    exact ⟨F, r.to t, fun b z => .inr z⟩
  have hi : i < A.length := by omega
  have mfle : ∀ b, MF M0 (upF F i f) b → b ∈ f ∨ MF M0 F b := fun b h => by
    rcases h with h | ⟨j, h⟩
    · exact .inr (.inl h)
    · by_cases e : j = i
      · subst e; rw [upF_same] at h; exact .inl h
      · rw [upF_ne e] at h; exact .inr (.inr ⟨j, h⟩)
  refine ⟨upF F i f, ?_, mfle⟩
  have nH : ∀ b, b ∈ f → H b = none := fun b h => (fr b h).1
  have old : Ex (hid (MF M0 F) H) (hid (MF M0 (upF F i f)) H1) := fun b o e => by
    obtain ⟨e1, e2⟩ := hid_some.mp e
    refine hid_some.mpr ⟨fun z => ?_, t.ex b o (fun z => e1 (r.hc.bm b z)) e2⟩
    rcases mfle b z with z | z
    · rw [nH b z] at e2; cases e2
    · exact e1 z
  have hfr0 : ∀ b, b ∈ f → H0 b = none ∧ ¬ M0 b ∧ G0 b = none := fun b h => by
    have hn := nH b h
    refine ⟨?_, fun z => ?_, ?_⟩
    · cases q : H0 b with
      | none => rfl
      | some o =>
        by_cases e : B = some b
        · obtain ⟨_, _, _, z⟩ := r.hc.st b e; rw [hn] at z; cases z
        · have := r.ex b o e q; rw [hn] at this; cases this
    · obtain ⟨vs, q⟩ := r.hc.ml b (.inl z); rw [hn] at q; cases q
    · cases q : G0 b with
      | none => rfl
      | some o => have := (hid_some.mp (r.g0 b o q)).2; rw [hn] at this; cases this
  refine ⟨by simp [r.len], fun j hj => ?_, fun j => ?_, fun j l b h1 h2 => ?_, fun j b h => ?_, ?_, r.b0, fun b o n e => t.ex b o n (r.ex b o n e), r.g0.trans old, fun j a' e => ?_⟩
  · rw [upF_ne (by simp at hj; omega)]; exact r.fo j (by simpa using hj)
  · by_cases e : j = i
    · subst e; rw [upF_same]; exact nf
    · rw [upF_ne e]; exact r.nd j
  · have key : ∀ k, k ≠ i → b ∈ F k → b ∈ f → False := fun k _ h1 h2 => by
      obtain ⟨vs, q⟩ := r.hc.ml b (.inr ⟨k, h1⟩)
      rw [nH b h2] at q; cases q
    by_cases e1 : j = i <;> by_cases e2 : l = i
    · omega
    · rw [e1, upF_same] at h1; rw [upF_ne e2] at h2; exact (key l e2 h2 h1).elim
    · rw [e2, upF_same] at h2; rw [upF_ne e1] at h1; exact (key j e1 h1 h2).elim
    · rw [upF_ne e1] at h1; rw [upF_ne e2] at h2; exact r.dj j l b h1 h2
  · by_cases e : j = i
    · subst e; rw [upF_same] at h; exact hfr0 b h
    · rw [upF_ne e] at h; exact r.fr j b h
  · refine ⟨fun b h => ?_, fun b h => .inl (r.b0 b h), t.st⟩
    rcases mfle b h with h | h
    · exact (fr b h).2
    · exact (t.hc r.hc).ml b h
  · by_cases ej : j = i
    · subst ej
      rw [List.getElem?_set_self hi] at e
      cases e
      refine ⟨some s, by rw [List.getElem?_set_self (by rw [r.len]; exact hi)], ?_⟩
      rw [upF_same]
      exact ok.mono (hid_sub mfle) fun _ _ _ q => q
    · rw [List.getElem?_set_ne (Ne.symm ej)] at e ⊢
      obtain ⟨s', e1, e2⟩ := r.sl j a' e
      refine ⟨s', e1, ?_⟩
      rw [upF_ne ej]
      exact e2.mono old fun b vs hb q => t.ex b _ (r.nB hb) q
theorem RepS.putDa (r : RepS c A σ H0 M0 B G0 F H) {i : Nat} {v : V} {d : D} (h : Is c (hid (MF M0 F) H) v d) : RS c (A.set i (.da d)) (σ.set i (some v)) H0 M0 B G0 H := by
  obtain ⟨F', h1, _⟩ := r.put (i := i) (s := v) (a := .da d) (.refl r.hc.st) (f := []) .nil (fun b z => by simp at z) ⟨rfl, v, rfl, h.mono (hid_sub fun b z => by simpa using z)⟩
  exact ⟨F', h1⟩
theorem RepS.putMu (r : RepS c A σ H0 M0 B G0 F H) (t : To B H H1) {i : Nat} {l : Addr} {vs : List V} {ds : List D} (hl : H l = none) (h1 : H1 l = some (.lst vs)) (il : IsL c (hid (fun b => b = l ∨ MF M0 F b) H1) vs ds) : RS c (A.set i (.mu ds)) (σ.set i (some (.ref l))) H0 M0 B G0 H1 := by
  have fr : ∀ b, b ∈ [l] → H b = none ∧ ∃ vs, H1 b = some (.lst vs) := fun b z => by
    have : b = l := by simpa using z
    subst this
    exact ⟨hl, vs, h1⟩
  obtain ⟨F', h2, _⟩ := r.put (i := i) (s := .ref l) (a := .mu ds) t (f := [l]) (by simp) fr ⟨l, vs, rfl, rfl, h1, il.mono (hid_sub fun b z => z.imp (fun z => by simpa using z) id)⟩
  exact ⟨F', h2⟩
/-- the mutable list in slot i is changed -/
theorem RepS.mutMu' (r : RepS c A σ H0 M0 B G0 F H) {i : Nat} {ds ds' : List D} (e : A[i]? = some (.mu ds)) {l : Addr} {vs' : List V} (hl : σ[i]? = some (some (.ref l))) (il : IsL c (hid (MF M0 F) H) vs' ds') :
    RepS c (A.set i (.mu ds')) σ H0 M0 B G0 F (upd H l (.lst vs')) ∧ Ex (hid (MF M0 F) H) (hid (MF M0 F) (upd H l (.lst vs'))) := by
  obtain ⟨s, e1, l', vs, e2, e3, e4, e5⟩ := r.sl i _ e
  rw [hl] at e1
  cases e1
  cases e2
  have lm : l ∈ F i := by rw [e3]; simp
  have mM : MF M0 F l := .inr ⟨i, lm⟩
  have keep : Ex (hid (MF M0 F) H) (hid (MF M0 F) (upd H l (.lst vs'))) := fun b o z => by
    obtain ⟨z1, z2⟩ := hid_some.mp z
    exact hid_some.mpr ⟨z1, by rw [upd_ne (fun q => z1 (by rw [q]; exact mM))]; exact z2⟩
  refine ⟨⟨by simp [r.len], fun j hj => r.fo j (by simpa using hj), r.nd, r.dj, r.fr, ⟨fun b h => ?_, r.hc.bm, fun a h => ?_⟩, r.b0, fun b o n q => ?_, r.g0.trans keep, fun j a q => ?_⟩, keep⟩
  · by_cases z : b = l
    · subst z; exact ⟨vs', upd_same⟩
    · rw [upd_ne z]; exact r.hc.ml b h
  · have z : a ≠ l := fun z => r.nB lm (by rw [← z]; exact h)
    rw [upd_ne z]; exact r.hc.st a h
  · have z : b ≠ l := fun z => by rw [z, (r.fr i l lm).1] at q; cases q
    rw [upd_ne z]; exact r.ex b o n q
  · by_cases ej : j = i
    · subst ej
      have hi : j < A.length := (List.getElem?_eq_some_iff.mp e).1
      rw [List.getElem?_set_self hi] at q
      cases q
      exact ⟨_, hl, l, vs', rfl, e3, upd_same, il.mono keep⟩
    · rw [List.getElem?_set_ne (Ne.symm ej)] at q
      obtain ⟨s', q1, q2⟩ := r.sl j a q
      refine ⟨s', q1, q2.mono keep fun b vs hb z => ?_⟩
      rw [upd_ne (fun w => ej (r.dj j i b hb (by rw [w]; exact lm)))]
      exact z
theorem RepS.mutMu (r : RepS c A σ H0 M0 B G0 F H) {i : Nat} {ds ds' : List D} (e : A[i]? = some (.mu ds)) {l : Addr} {vs' : List V} (hl : σ[i]? = some (some (.ref l))) (il : IsL c (hid (MF M0 F) H) vs' ds') :
    RS c (A.set i (.mu ds')) σ H0 M0 B G0 (upd H l (.lst vs')) := ⟨F, (r.mutMu' e hl il).1⟩
end
/-! ### blocks -/
structure Kk where
  nx : List Sl → Prop
  rt : D → Prop
  bk : List Sl → Prop := fun _ => False
  ct : List Sl → Prop := fun _ => False
structure Conts (c : Cl) (K : Kk) (Dn : Ends) (H0 : Hp) (M0 : Addr → Prop) (B : Option Addr) (G0 : Hp) : Prop where
  nx : ∀ A σ H, K.nx A → RS c A σ H0 M0 B G0 H → Dn.nx σ H
  rt : ∀ d v H, K.rt d → ExB B H0 H → StB B H → Is c (hid M0 H) v d → Dn.rt v H
  bk : ∀ A σ H, K.bk A → RS c A σ H0 M0 B G0 H → Dn.bk σ H
  ct : ∀ A σ H, K.ct A → RS c A σ H0 M0 B G0 H → Dn.ct σ H
def GS (c : Cl) (X : Fm) (sts : List Stmt) (A : List Sl) (K : Kk) : Prop :=
  ∀ (H0 : Hp) (M0 : Addr → Prop) (B : Option Addr) (G0 : Hp) (σ : L2.St) (H : Hp), RS c A σ H0 M0 B G0 H → ∀ Dn : Ends, Conts c K Dn H0 M0 B G0 → wSs X sts Dn σ H
def G1 (c : Cl) (X : Fm) (st : Stmt) (A : List Sl) (K : Kk) : Prop :=
  ∀ (H0 : Hp) (M0 : Addr → Prop) (B : Option Addr) (G0 : Hp) (σ : L2.St) (H : Hp), RS c A σ H0 M0 B G0 H → ∀ Dn : Ends, Conts c K Dn H0 M0 B G0 → wS X st Dn σ H
section
variable {A : List Sl} {K : Kk} {st : Stmt} {rest : List Stmt}
theorem gs_nil (h : K.nx A) : GS c X [] A K := fun H0 M0 B G0 σ H r Dn k => ⟨_, fun _ => pss_nil, k.nx A σ H h r⟩
theorem gs_cons (h : G1 c X st A { K with nx := fun A' => GS c X rest A' K }) : GS c X (st :: rest) A K := fun H0 M0 B G0 σ H r Dn k =>
  ⟨_, fun i => pss_cons (ps_w st i) (pss_w rest i), h H0 M0 B G0 σ H r _ ⟨fun A' σ' H' g r' => g H0 M0 B G0 σ' H' r' Dn k, k.rt, k.bk, k.ct⟩⟩
theorem g1_imp {K' : Kk} (h : G1 c X st A K') (hn : ∀ A, K'.nx A → K.nx A) (hr : ∀ d, K'.rt d → K.rt d) (hb : ∀ A, K'.bk A → K.bk A) (hc : ∀ A, K'.ct A → K.ct A) : G1 c X st A K := fun H0 M0 B G0 σ H r Dn k =>
  h H0 M0 B G0 σ H r Dn ⟨fun A' σ' H' g r' => k.nx A' σ' H' (hn A' g) r', fun d v H' g => k.rt d v H' (hr d g), fun A' σ' H' g r' => k.bk A' σ' H' (hb A' g) r', fun A' σ' H' g r' => k.ct A' σ' H' (hc A' g) r'⟩
end
end K33
end
section
set_option Elab.async false
set_option linter.all false
set_option maxRecDepth 100000
/-! B9: rules of statements -/
namespace K33
open PySem L2
variable {c : Cl} {X : Fm}
/-- readings of expressions, whatever their text -/
def ER (c : Cl) (te : TE) (Γ : List Vw) (P : D → Prop) : Prop :=
  ∀ (σ : L2.St) (M : Addr → Prop) (B : Option Addr) (H : Hp), Rep c Γ σ (hid M H) B → Hc M B H → ∀ Q : VK, (∀ d v H', To B H H' → P d → Is c (hid M H') v d → Q v H') → te σ H Q
def LR (c : Cl) (te : TE) (Γ : List Vw) (P : List D → Prop) : Prop :=
  ∀ (σ : L2.St) (M : Addr → Prop) (B : Option Addr) (H : Hp), Rep c Γ σ (hid M H) B → Hc M B H → ∀ Q : VK,
    (∀ ds a vs H', To B H H' → P ds → H a = none → H' a = some (.lst vs) → IsL c (hid (fun b => b = a ∨ M b) H') vs ds → Q (.ref a) H') → te σ H Q
theorem LR.er {te : TE} {Γ : List Vw} {P : List D → Prop} (h : LR c te Γ P) : ER c te Γ (fun d => ∃ ds, d = .lst ds ∧ P ds) := fun σ M B H r hc Q k =>
  h σ M B H r hc Q fun ds a vs H' t p n s i => k (.lst ds) _ H' t ⟨ds, rfl, p⟩ (IsL.lstI (hid_some.mpr ⟨fun z => by { obtain ⟨ws, q⟩ := hc.ml a z; rw [n] at q; cases q }, s⟩) (i.mono (hid_sub fun b z => .inr z)))
section
variable {A : List Sl} {K : Kk} {st : Stmt} {i : Nat} {te : TE}
theorem RS.lf {σ : L2.St} {H0 G0 H : Hp} {M0 : Addr → Prop} {B : Option Addr} {F : Nat → List Addr} (r : RepS c A σ H0 M0 B G0 F H) {v : V} {d : D} (lf : LF d) (s : Is c (hid M0 H) v d) : Is c (hid (MF M0 F) H) v d :=
  lf.hide s fun b z => by
    rcases z with z | z
    · exact .inl z
    · exact .inr (r.hc.ml b (.inr z))
theorem g1_asgE {P : D → Prop} (hps : ∀ j, PS (X.X j) st (tAsg te (gName i))) (he : ER c te (A.map vw0) P) (k : ∀ d, P d → K.nx (A.set i (.da d))) : G1 c X st A K := fun H0 M0 B G0 σ H ⟨F, r⟩ Dn q =>
  ⟨_, hps, he σ _ B H r.v0 r.hc _ fun d v H1 t p s => q.nx _ _ H1 (k d p) ((r.to t).putDa s)⟩
theorem g1_asgEF {P : D → Prop} (hps : ∀ j, PS (X.X j) st (tAsg te (gName i))) (he : ER c te (A.map vwF) P) (k : ∀ d, P d → LF d ∧ K.nx (A.set i (.da d))) : G1 c X st A K := fun H0 M0 B G0 σ H ⟨F, r⟩ Dn q =>
  ⟨_, hps, he σ _ B H r.vF r.hc0 _ fun d v H1 t p s => q.nx _ _ H1 (k d p).2 ((r.to t).putDa (RS.lf (r.to t) (k d p).1 s))⟩
theorem g1_asgL {P : List D → Prop} (hps : ∀ j, PS (X.X j) st (tAsg te (gName i))) (he : LR c te (A.map vw0) P) (k : ∀ ds, P ds → K.nx (A.set i (.mu ds))) : G1 c X st A K := fun H0 M0 B G0 σ H ⟨F, r⟩ Dn q =>
  ⟨_, hps, he σ _ B H r.v0 r.hc _ fun ds l vs H1 t p n s il => q.nx _ _ H1 (k ds p) (r.putMu t n s il)⟩
theorem g1_asgLF {P : List D → Prop} (hps : ∀ j, PS (X.X j) st (tAsg te (gName i))) (he : LR c te (A.map vwF) P) (k : ∀ ds, P ds → (∀ d, d ∈ ds → LF d) ∧ K.nx (A.set i (.mu ds))) : G1 c X st A K := fun H0 M0 B G0 σ H ⟨F, r⟩ Dn q =>
  ⟨_, hps, he σ _ B H r.vF r.hc0 _ fun ds l vs H1 t p n s il => q.nx _ _ H1 (k ds p).2 (r.putMu t n s ⟨il.len, fun j v d a b => (k ds p).1 d (List.mem_of_getElem? b) |>.hide (il.at_ j v d a b) fun x z => by
    rcases z with z | z | z
    · exact .inl (.inl z)
    · exact .inl (.inr z)
    · exact .inr ((t.hc r.hc).ml x (.inr z))⟩)⟩
end
/-! ### the forms of an assignment to a name -/
section
variable {x : Str} {e : Expr} {pos pos' : Pos} {i : Nat}
theorem psN (i : Nat) (hN : X.N[i]? = some x := by rfl) (hx : ∀ j, Loc (X.X j).env.scope x := by first | exact fun _ => Or.inl rfl | exact fun _ => Or.inr rfl) (hs : ∀ j, swapsWith e (some (.Name x pos')) pos.line (X.X j).env = pure false := by intro _; rfl)
    (hf : ∀ j, (X.X j).fn x = true ∨ (X.X j).env.scope.names.lookup x = some .local := by first | exact fun _ => Or.inl rfl | exact fun _ => Or.inr rfl) (j : X.ι) : PS (X.X j) (.Assign [.Name x pos'] e pos) (tAsg (wE X e) (gName i)) :=
  ps_set (by rw [X.hN j]; exact X.nd) (by rw [X.hN j]; exact hN) (hx j) (pe_w e j) (hs j) (hf j)
theorem psC {elt tg it : Expr} {ifs : List Expr} {scope : Scope} {own : List (Str × Nat)} (i : Nat) (hN : X.N[i]? = some x := by rfl) (hy : ∀ j, (X.X j).env.scope.names.lookup x = some .local := by intro _; rfl)
    (hsw : ∀ j, swapsWith (.ListComp elt [⟨tg, it, ifs, 0⟩] scope pos') (some (.Name x pos)) pos.line (X.X j).env = pure true := by exact fun _ => sw_true rfl rfl rfl (by kernel_rfl)) (ok : ∀ j, BlkOk X.N (X.X j).env.scope scope own := by exact fun _ => blkOk_by (by kernel_rfl))
    (hs : ∀ j v, foldedSetIterable it (X.X j).env v = pure v := by intro _ _; rfl) {spos : Pos} (hl : pos.line = spos.line := by rfl) (j : X.ι) :
    PS (X.X j) (.Assign [.Name x pos] (.ListComp elt [⟨tg, it, ifs, 0⟩] scope pos') spos) (tAsg (tLcW X elt tg it ifs scope own) (gName i)) :=
  ps_setLc (X.calm j) (by rw [X.hN j]; exact X.nd) (by rw [X.hN j]; exact hN) (hy j) (by rw [← hl]; exact hsw j) (pi_w tg it j) (by rw [X.hN j]; exact ok j) (fun s H C cl fp => pg_w (X := X.blk scope) tg (j, s, H, C, cl, fp))
    (fun s H C cl fp => pts_w (X := X.blk scope) ifs (j, s, H, C, cl, fp)) (fun s H C cl fp => pe_w (X := X.blk scope) elt (j, s, H, C, cl, fp)) (hs j)
end
/-! ### other statements -/
section
variable {A : List Sl} {K : Kk} {e : Expr} {pos : Pos}
theorem g1_ret {P : D → Prop} (he : GE c X e (A.map vwF) P) (k : ∀ d, P d → K.rt d) : G1 c X (.Return (some e) pos) A K := fun H0 M0 B G0 σ H ⟨F, r⟩ Dn q =>
  ⟨_, fun j => ps_ret (pe_w e j), he σ _ B H r.vF r.hc0 _ fun d v H1 t p s => q.rt d v H1 (k d p) (r.to t).ex t.st s⟩
theorem g1_if {a b : List Stmt} {P : Bool → Prop} (he : GT c X e (A.map vwF) P) (h1 : P true → GS c X a A K) (h2 : P false → GS c X b A K) : G1 c X (.If e a b pos) A K := fun H0 M0 B G0 σ H ⟨F, r⟩ Dn q =>
  ⟨_, fun j => ps_if (pt_w e j) (pss_w a j) (pss_w b j), he σ _ B H r.vF r.hc0 _ fun k H1 t p => by
    cases k with
    | true => exact h1 p H0 M0 B G0 σ H1 ⟨F, r.to t⟩ Dn q
    | false => exact h2 p H0 M0 B G0 σ H1 ⟨F, r.to t⟩ Dn q⟩
theorem g1_ifB {a b : List Stmt} {k : Bool} (he : GB c X e (A.map vwF) k) (h1 : k = true → GS c X a A K) (h2 : k = false → GS c X b A K) : G1 c X (.If e a b pos) A K := g1_if he (fun z => h1 z.symm) (fun z => h2 z.symm)
theorem g1_pass {pos : Pos} (h : K.nx A) : G1 c X (.Pass pos) A K := fun H0 M0 B G0 σ H r Dn q => ⟨_, fun _ => ps_pass, q.nx A σ H h r⟩
theorem g1_never {st : Stmt} (h : False) : G1 c X st A K := h.elim
theorem gs_never {sts : List Stmt} (h : False) : GS c X sts A K := h.elim
/-- two names at once -/
theorem g1_par {x y : Str} {a b : Expr} {px py pt pt2 : Pos} {kt k2 : Nat} (i j : Nat) {d d' : D} (ha : GA c X [a, b] (A.map vw0) (fun z => z = [.da d, .da d'])) (k : K.nx ((A.set i (.da d)).set j (.da d'))) (hij : i ≠ j := by decide) (hN : X.N[i]? = some x := by rfl) (hM : X.N[j]? = some y := by rfl)
    (hx : ∀ l, (X.X l).env.scope.names.lookup x = some .local := by intro _; rfl) (hy : ∀ l, (X.X l).env.scope.names.lookup y = some .local := by intro _; rfl)
    (hw : ∀ l, swappedStores [.Tuple [.Name x px, .Name y py] kt pt] (.Tuple [a, b] k2 pt2) (X.X l).env = pure (some [x, y]) := by intro _; rfl)
    (hs : ∀ l, swapsWithSole [.Tuple [.Name x px, .Name y py] kt pt] (.Tuple [a, b] k2 pt2) pos.line (X.X l).env = pure false := by intro _; rfl) :
    G1 c X (.Assign [.Tuple [.Name x px, .Name y py] kt pt] (.Tuple [a, b] k2 pt2) pos) A K := fun H0 M0 B G0 σ H ⟨F, r⟩ Dn q =>
  ⟨_, fun l => ps_par (X.calm l) (by rw [X.hN l]; exact X.nd) (by rw [X.hN l]; exact hN) (by rw [X.hN l]; exact hM) hij (hx l) (hy l) (pa_w [a, b] l) (hw l) (hs l), ha σ _ B H r.v0 r.hc _ fun ws vs H1 t p s => by
    subst p
    obtain ⟨v, u, rfl, sv, su⟩ := Paired.inv2 s
    have sv : Is c _ v d := sv
    have su : Is c _ u d' := su
    refine ⟨v, u, rfl, q.nx _ _ H1 k ?_⟩
    have r1 := r.to t
    obtain ⟨F1, r2, sub⟩ := r1.put (.refl r1.hc.st) (f := []) (i := i) (s := v) (a := .da d) .nil (fun b z => by simp at z) ⟨rfl, v, rfl, sv.mono (hid_sub fun b z => by simpa using z)⟩
    exact r2.putDa (su.mono (hid_sub fun b z => by simpa using sub b z))⟩
end
end K33
end
section
set_option Elab.async false
set_option linter.all false
set_option maxRecDepth 100000
/-! B10: loops; stores into mutable lists -/
namespace K33
open PySem L2
variable {c : Cl} {X : Fm}
section
variable {A : List Sl} {σ : L2.St} {H0 G0 G1' H H1 : Hp} {M0 : Addr → Prop} {B : Option Addr} {F : Nat → List Addr}
theorem RepS.rebase (r : RepS c A σ H0 M0 B G0 F H) : RepS c A σ H0 M0 B (hid (MF M0 F) H) F H :=
  ⟨r.len, r.fo, r.nd, r.dj, fun i b h => ⟨(r.fr i b h).1, (r.fr i b h).2.1, by
    cases q : hid (MF M0 F) H b with
    | none => rfl
    | some o => exact ((hid_some.mp q).1 (.inr ⟨i, h⟩)).elim⟩, r.hc, r.b0, r.ex, Ex.refl _, r.sl⟩
theorem RS.weak (e : Ex G0 G1') (r : RS c A σ H0 M0 B G1' H) : RS c A σ H0 M0 B G0 H := by
  obtain ⟨F, r⟩ := r
  exact ⟨F, r.len, r.fo, r.nd, r.dj, fun i b h => ⟨(r.fr i b h).1, (r.fr i b h).2.1, by
    cases q : G0 b with
    | none => rfl
    | some o => have := (r.fr i b h).2.2; rw [e b o q] at this; cases this⟩, r.hc, r.b0, r.ex, e.trans r.g0, r.sl⟩
end
/-! ### for -/
/-- the target of a for takes d: the slots then -/
def TG1 (c : Cl) (X : Fm) (tg : Expr) (d : D) (tr : List Sl → List Sl) : Prop :=
  ∀ (A : List Sl) (σ : L2.St) (H0 : Hp) (M0 : Addr → Prop) (B : Option Addr) (G0 : Hp) (F : Nat → List Addr) (H : Hp) (v : V), RepS c A σ H0 M0 B G0 F H → Is c (hid (MF M0 F) H) v d → ∀ Q : L2.St → Hp → Prop, (∀ σ', RS c (tr A) σ' H0 M0 B G0 H → Q σ' H) → wG X tg v σ H Q
section
variable {pos : Pos} {x : Str}
theorem tg1_name (j : Nat) {d : D} (hN : X.N[j]? = some x := by rfl) (hx : ∀ i, Loc (X.X i).env.scope x := by first | exact fun _ => Or.inl rfl | exact fun _ => Or.inr rfl)
    (hf : ∀ i, (X.X i).fn x = true ∨ (X.X i).env.scope.names.lookup x = some .local := by first | exact fun _ => Or.inl rfl | exact fun _ => Or.inr rfl) : TG1 c X (.Name x pos) d (fun A => A.set j (.da d)) := fun A σ H0 M0 B G0 F H v r s Q k =>
  ⟨gName j, fun i => pg_name (by rw [X.hN i]; exact X.nd) (by rw [X.hN i]; exact hN) (hx i) (hf i), k _ (r.putDa s)⟩
theorem tg1_pair {y : Str} {p1 p2 : Pos} {k0 : Nat} (j l : Nat) {d e : D} (hN : X.N[j]? = some x := by rfl) (hM : X.N[l]? = some y := by rfl) (hx : ∀ i, Loc (X.X i).env.scope x := by first | exact fun _ => Or.inl rfl | exact fun _ => Or.inr rfl)
    (hy : ∀ i, Loc (X.X i).env.scope y := by first | exact fun _ => Or.inl rfl | exact fun _ => Or.inr rfl)
    (hf : ∀ i, (X.X i).fn x = true ∨ (X.X i).env.scope.names.lookup x = some .local := by first | exact fun _ => Or.inl rfl | exact fun _ => Or.inr rfl) (hg : ∀ i, (X.X i).fn y = true ∨ (X.X i).env.scope.names.lookup y = some .local := by first | exact fun _ => Or.inl rfl | exact fun _ => Or.inr rfl)
    (a1 : ∀ i, (assignEach [Expr.Name x p1, Expr.Name y p2] (X.X i).env).length = 2 := by intro _; rfl) (a2 : ∀ i, List.findIdx? (·.1) (assignEach [Expr.Name x p1, Expr.Name y p2] (X.X i).env) = none := by intro _; rfl) :
    TG1 c X (.Tuple [.Name x p1, .Name y p2] k0 pos) (.tup [d, e]) (fun A => (A.set j (.da d)).set l (.da e)) := fun A σ H0 M0 B G0 F H v r s Q k => by
  refine ⟨_, pg_tup2 j l hN hM hx hy hf hg a1 a2, ?_⟩
  obtain ⟨a, vs, rfl, e1, il⟩ := s.tupE
  match vs, il with
  | [u, w], il =>
    have s1 := il.at_ 0 u d rfl rfl
    have s2 := il.at_ 1 w e rfl rfl
    refine ⟨a, _, rfl, SqT.of (hid_le _ _ e1), rfl, u, _, rfl, w, _, rfl, rfl, ?_⟩
    obtain ⟨F1, r2, sub⟩ := r.put (.refl r.hc.st) (f := []) (i := j) (s := u) (a := .da d) .nil (fun b z => by simp at z) ⟨rfl, u, rfl, s1.mono (hid_sub fun b z => by simpa using z)⟩
    exact k _ (r2.putDa (s2.mono (hid_sub fun b z => by simpa using sub b z)))
  | [], il => have := il.len; simp at this
  | [_], il => have := il.len; simp at this
  | _ :: _ :: _ :: _, il => have := il.len; simp at this
end
section
variable {A : List Sl} {K : Kk} {pos : Pos}
theorem g1_for {tg it : Expr} {body : List Stmt} {n : Nat} {Y : Nat → D → Prop} (Iv : Nat → List Sl → Prop) (hi : GI c X tg it (A.map vw0) n Y) (h0 : Iv 0 A)
    (hb : ∀ i d A', i < n → Y i d → Iv i A' → ∃ tr, TG1 c X tg d tr ∧ GS c X body (tr A') ⟨Iv (i + 1), K.rt, K.nx, Iv (i + 1)⟩) (hd : ∀ A', Iv n A' → K.nx A')
    (hp : ∀ i, PassesOwn (model (X.X i).prog (X.X i).w) (X.X i).A (X.X i).env (X.X i).xe := by exact fun _ => PassesOwn.never) (hs : ∀ i x, foldedSetIterable it (X.X i).env x = pure x := by intro _ _; rfl) : G1 c X (.For tg it body [] pos) A K := fun H0 M0 B G0 σ H ⟨F, r⟩ Dn q =>
  ⟨_, fun i => ps_for (hp i) (X.calm i) (pi_w tg it i) (pg_w tg i) (pss_w body i) (hs i), hi σ _ B H r.v0 r.hc _ fun J H1 G Yh t W hG hY => by
    have r1 := r.to t
    refine for_it W (fun i σ' H' => ∃ A', Iv i A' ∧ RS c A' σ' H0 M0 B (hid (MF M0 F) H1) H') ⟨A, h0, F, r1.rebase⟩ (fun i σ' H' _ ⟨A', _, F2, r2⟩ => hG H' (r2.g0.trans hid_le)) ?_ ?_
    · rintro i x σ' H' H'' hi' ⟨A', iv, F2, r2⟩ y
      obtain ⟨t3, d, yd, sd⟩ := hY i x H' H'' (MF M0 F2) hi' r2.g0 r2.hc.st (fun p hp => r2.hc.no hp) r2.hc.bm y
      obtain ⟨tr, ht, gb⟩ := hb i d A' hi' yd iv
      refine ht A' σ' H0 M0 B _ F2 H'' x (r2.to t3) sd _ fun σ'' rs => ?_
      refine gb H0 M0 B _ σ'' H'' rs _ ⟨fun A3 σ3 H3 g r3 => ⟨A3, g, r3⟩, q.rt, fun A3 σ3 H3 g r3 => q.nx A3 σ3 H3 g (r3.weak r1.g0), fun A3 σ3 H3 g r3 => ⟨A3, g, r3⟩⟩
    · rintro σ' H' ⟨A', iv, r'⟩
      exact q.nx A' σ' H' (hd A' iv) (r'.weak r1.g0)⟩
/-- while -/
theorem g1_while {e : Expr} {body : List Stmt} (Wv : Nat → List Sl → Prop) (h0 : ∃ m, Wv m A)
    (hs : ∀ m A', Wv m A' → ∃ k, GB c X e (A'.map vwF) k ∧ (k = true → GS c X body A' ⟨fun A2 => ∃ m', m' < m ∧ Wv m' A2, K.rt, K.nx, fun A2 => ∃ m', m' < m ∧ Wv m' A2⟩) ∧ (k = false → K.nx A'))
    (hp : ∀ i, PassesOwn (model (X.X i).prog (X.X i).w) (X.X i).A (X.X i).env (X.X i).xe := by exact fun _ => PassesOwn.never) : G1 c X (.While e body [] pos) A K := fun H0 M0 B G0 σ H r Dn q =>
  ⟨_, fun i => ps_while (hp i) (pt_w e i) (pss_w body i), fun m σ' H' => ∃ A', Wv m A' ∧ RS c A' σ' H0 M0 B G0 H', let ⟨m, w⟩ := h0; ⟨m, A, w, r⟩, by
    rintro m σ' H' ⟨A', w, F, r'⟩
    obtain ⟨k, ht, h1, h2⟩ := hs m A' w
    refine ht σ' _ B H' r'.vF r'.hc0 _ fun k' H2 t p => ?_
    subst p
    cases k' with
    | true =>
      rw [if_pos rfl]
      refine ⟨fun σ2 H2 => ∃ m', m' < m ∧ ∃ A2, Wv m' A2 ∧ RS c A2 σ2 H0 M0 B G0 H2, fun σ2 H2 z => z, ?_⟩
      exact h1 rfl H0 M0 B G0 σ' H2 ⟨F, r'.to t⟩ _ ⟨fun A3 σ3 H3 ⟨m', l, g⟩ r3 => ⟨m', l, A3, g, r3⟩, q.rt, q.nx, fun A3 σ3 H3 ⟨m', l, g⟩ r3 => ⟨m', l, A3, g, r3⟩⟩
    | false =>
      rw [if_neg (by simp)]
      exact q.nx A' σ' H2 (h2 rfl) ⟨F, r'.to t⟩⟩
end
/-! ### l.append(e) -/
section
variable {A : List Sl} {K : Kk} {x : Str} {e : Expr} {p apos cpos pos : Pos}
theorem RepS.muE {σ : L2.St} {H0 G0 H : Hp} {M0 : Addr → Prop} {B : Option Addr} {F : Nat → List Addr} {i : Nat} {ds : List D} (r : RepS c A σ H0 M0 B G0 F H) (h : A[i]? = some (.mu ds)) :
    ∃ l vs, σ[i]? = some (some (.ref l)) ∧ F i = [l] ∧ H l = some (.lst vs) ∧ IsL c (hid (MF M0 F) H) vs ds := by
  obtain ⟨s, e1, l, vs, rfl, e3, e4, e5⟩ := r.sl i _ h
  exact ⟨l, vs, e1, e3, e4, e5⟩
theorem pe_bmF {id : String} {name : Str} {r : V → List V → Hp → VK → Prop} {T : String} (i : Nat) (pa : PlainAttrs T) (slot : Slot T name id) (hty : typeOf (.builtin id) = pure (.type "method_descriptor")) (hm : ∀ j, MtR (X.X j) id r)
    (hN : X.N[i]? = some x) (hv : ∀ j, Vis (X.X j).env.scope x) (hd : (x == ("__debug__" : Str)) = false) (hcd : (x == ("__classdict__" : Str)) = false)
    (b1 : ∀ j, attributeBase (.Name x p) name (X.X j).env (eval (.Name x p) (X.X j).env) = eval (.Name x p) (X.X j).env)
    (b2 : ∀ j, (((backTo cpos (starEach [e] (X.X j).env)).all fun x => !x.1) && (backToKw cpos (keywordEach [] (X.X j).env)).all (fun x => x.1.isSome) && decide (([e].length + ([] : List Keyword).length + if ([] : List Keyword).isEmpty = true then 0 else 1) < 30)) = true)
    (b3 : (apos.endLine == cpos.line) = true) (b4 : ∀ j, starEach [e] (X.X j).env = (false, eval e (X.X j).env) :: starEach [] (X.X j).env) (b5 : ∀ j, (backTo cpos (starEach [] (X.X j).env)).any (·.1) = false) (j : X.ι) :
    PE (X.X j) (.Call (.Attribute (.Name x p) name apos) [e] [] cpos) (tBM X.K T r (tVar i) (wA X [e])) := by
  rw [← X.hK j]
  exact pe_bm pa slot hty (hm j) (pe_var (by rw [X.hN j]; exact hN) (hv j) hd hcd) (pa_w [e] j) (b1 j) (b2 j) b3 (b4 j) (b5 j)
theorem g1_append {P : D → Prop} (i : Nat) {ds : List D} (hA : A[i]? = some (.mu ds)) (he : GE c X e (A.map vw0) P) (hl : ds.length < 100000) (k : ∀ d, P d → K.nx (A.set i (.mu (ds ++ [d]))))
    (hN : X.N[i]? = some x := by rfl) (hv : ∀ j, Vis (X.X j).env.scope x := by first | exact fun _ => Or.inl rfl | exact fun _ => Or.inr (Or.inl rfl) | exact fun _ => Or.inr (Or.inr rfl)) (hd : (x == ("__debug__" : Str)) = false := by decide) (hcd : (x == ("__classdict__" : Str)) = false := by decide)
    (b1 : ∀ j, attributeBase (.Name x p) "append" (X.X j).env (eval (.Name x p) (X.X j).env) = eval (.Name x p) (X.X j).env := by intro _; rfl)
    (b2 : ∀ j, (((backTo cpos (starEach [e] (X.X j).env)).all fun x => !x.1) && (backToKw cpos (keywordEach [] (X.X j).env)).all (fun x => x.1.isSome) && decide (([e].length + ([] : List Keyword).length + if ([] : List Keyword).isEmpty = true then 0 else 1) < 30)) = true := by intro _; rfl)
    (b3 : (apos.endLine == cpos.line) = true := by rfl) (b4 : ∀ j, starEach [e] (X.X j).env = (false, eval e (X.X j).env) :: starEach [] (X.X j).env := by intro _; rfl) (b5 : ∀ j, (backTo cpos (starEach [] (X.X j).env)).any (·.1) = false := by intro _; rfl)
    (hs : ∀ j, swapsWith (.Call (.Attribute (.Name x p) "append" apos) [e] [] cpos) none pos.line (X.X j).env = pure false := by intro _; rfl) :
    G1 c X (.Expr (.Call (.Attribute (.Name x p) "append" apos) [e] [] cpos) pos) A K := fun H0 M0 B G0 σ H ⟨F, r⟩ Dn q => by
  refine ⟨_, fun j => ps_expr (pe_bmF i PySem.F.plainAttrs_list PySem.F.slot_list_append PySem.F.type_list_append (fun _ => mt_append) hN hv hd hcd b1 b2 b3 b4 b5 j) (hs j), ?_⟩
  obtain ⟨l, vs, e1, e2, e3, e4⟩ := r.muE hA
  refine ⟨_, e1, .inl ⟨rfl, vs, SqL.of e3⟩, ?_⟩
  refine ga_cons he ga_nil b4 σ _ B H r.v0 r.hc _ fun ws us H1 t ⟨d, ws', e5, p, e6⟩ s => ?_
  subst e6; subst e5
  obtain ⟨u, rfl, su⟩ := Paired.inv1 s
  have r1 := r.to t
  obtain ⟨l', vs', f1, f2, f3, f4⟩ := r1.muE hA
  rw [e1] at f1
  cases f1
  refine ⟨l, vs', u, rfl, rfl, f3, by rw [f4.len]; exact Nat.lt_of_lt_of_le hl (by decide), ?_⟩
  exact q.nx _ _ _ (k d p) (r1.mutMu hA e1 (f4.append (.cons su .nil)))
end
/-! ### l[e1] = e2 -/
section
variable {A : List Sl} {K : Kk} {x : Str} {e1 e2 : Expr} {p spos pos : Pos}
theorem pg_subF {o i : Expr} {to ti : TE} {j : X.ι} (ho : PE (X.X j) o to) (hi : PE (X.X j) i ti) (ha : ∀ v, assign (.Subscript o i spos) (X.X j).env v = (do let ov ← holding [v] (eval o (X.X j).env); let iv ← holding [v, ov] (eval i (X.X j).env); standAt spos; holding [v, ov, iv] (setItem ov iv v); release [v, ov, iv] [])) :
    PG (X.X j) (.Subscript o i spos) (gSub to ti rSetL) := pg_sub ho hi set_list ha
theorem g1_setItem {P : D → Prop} (i : Nat) {ds : List D} {n : Nat} (hA : A[i]? = some (.mu ds)) (hv : GE c X e2 (A.map vwF) P) (hi : GV c X e1 (A.map vwF) (.int n)) (hn : n < ds.length) (k : ∀ d, P d → LF d ∧ K.nx (A.set i (.mu (ds.set n d))))
    (hN : X.N[i]? = some x := by rfl) (hx : ∀ j, Vis (X.X j).env.scope x := by first | exact fun _ => Or.inl rfl | exact fun _ => Or.inr (Or.inl rfl) | exact fun _ => Or.inr (Or.inr rfl)) (hd : (x == ("__debug__" : Str)) = false := by decide) (hcd : (x == ("__classdict__" : Str)) = false := by decide)
    (ha : ∀ j v, assign (.Subscript (.Name x p) e1 spos) (X.X j).env v = (do let ov ← holding [v] (eval (.Name x p) (X.X j).env); let iv ← holding [v, ov] (eval e1 (X.X j).env); standAt spos; holding [v, ov, iv] (setItem ov iv v); release [v, ov, iv] []) := by intro _ _; rfl)
    (s1 : ∀ j, swapsWithSole [.Subscript (.Name x p) e1 spos] e2 pos.line (X.X j).env = pure false := by intro _; rfl) (s2 : ∀ j, swappedStores [.Subscript (.Name x p) e1 spos] e2 (X.X j).env = pure none := by intro _; rfl)
    (s3 : ∀ j, List.map (·.2) (assignEach [.Subscript (.Name x p) e1 spos] (X.X j).env) = [assign (.Subscript (.Name x p) e1 spos) (X.X j).env] := by intro _; rfl) :
    G1 c X (.Assign [.Subscript (.Name x p) e1 spos] e2 pos) A K := fun H0 M0 B G0 σ H ⟨F, r⟩ Dn q => by
  refine ⟨_, fun j => ps_asg (pe_w e2 j) (pg_subF (pe_var (by rw [X.hN j]; exact hN) (hx j) hd hcd) (pe_w e1 j) (ha j)) (s1 j) (s2 j) (s3 j), ?_⟩
  refine hv σ _ B H r.vF r.hc0 _ fun d v H1 t1 p1 sv => ?_
  have r1 := r.to t1
  obtain ⟨l, vs, f1, f2, f3, f4⟩ := r1.muE hA
  refine ⟨_, f1, ?_⟩
  refine hi σ _ B H1 r1.vF r1.hc0 _ fun n' u H2 t2 p2 su => ?_
  subst p2
  rw [su.intE]
  have r2 := r1.to t2
  obtain ⟨l', vs', g1, g2, g3, g4⟩ := r2.muE hA
  rw [f1] at g1
  cases g1
  obtain ⟨lf, kn⟩ := k d p1
  have e : ixN vs'.length (n : Int) = some n := by
    unfold ixN
    rw [if_pos (by omega), if_pos (by rw [g4.len]; omega)]
    simp
  refine ⟨l, vs', n, n, rfl, rfl, g3, e, ?_⟩
  exact q.nx _ _ _ kn (r2.mutMu hA f1 (g4.set (RS.lf r2 lf (sv.mono (t2.hid r1.b0)))))
end
/-! ### a, b = a pair that a call gives -/
section
variable {A : List Sl} {K : Kk} {x y : Str} {e : Expr} {p1 p2 tpos pos : Pos} {k0 : Nat}
theorem g1_unpack {P : D → Prop} (i j : Nat) (he : GE c X e (A.map vw0) P) (k : ∀ d, P d → ∃ d1 d2, d = .tup [d1, d2] ∧ K.nx ((A.set i (.da d1)).set j (.da d2)))
    (hN : X.N[i]? = some x := by rfl) (hM : X.N[j]? = some y := by rfl) (hx : ∀ i, Loc (X.X i).env.scope x := by first | exact fun _ => Or.inl rfl | exact fun _ => Or.inr rfl)
    (hy : ∀ i, Loc (X.X i).env.scope y := by first | exact fun _ => Or.inl rfl | exact fun _ => Or.inr rfl)
    (hf : ∀ i, (X.X i).fn x = true ∨ (X.X i).env.scope.names.lookup x = some .local := by first | exact fun _ => Or.inl rfl | exact fun _ => Or.inr rfl) (hg : ∀ i, (X.X i).fn y = true ∨ (X.X i).env.scope.names.lookup y = some .local := by first | exact fun _ => Or.inl rfl | exact fun _ => Or.inr rfl)
    (a1 : ∀ i, (assignEach [Expr.Name x p1, Expr.Name y p2] (X.X i).env).length = 2 := by intro _; rfl) (a2 : ∀ i, List.findIdx? (·.1) (assignEach [Expr.Name x p1, Expr.Name y p2] (X.X i).env) = none := by intro _; rfl)
    (s1 : ∀ l, swapsWithSole [.Tuple [.Name x p1, .Name y p2] k0 tpos] e pos.line (X.X l).env = pure false := by intro _; rfl) (s2 : ∀ l, swappedStores [.Tuple [.Name x p1, .Name y p2] k0 tpos] e (X.X l).env = pure none := by intro _; rfl)
    (s3 : ∀ l, List.map (·.2) (assignEach [.Tuple [.Name x p1, .Name y p2] k0 tpos] (X.X l).env) = [assign (.Tuple [.Name x p1, .Name y p2] k0 tpos) (X.X l).env] := by intro _; rfl) :
    G1 c X (.Assign [.Tuple [.Name x p1, .Name y p2] k0 tpos] e pos) A K := fun H0 M0 B G0 σ H ⟨F, r⟩ Dn q => by
  refine ⟨_, fun l => ps_asg (pe_w e l) (pg_w _ l) (s1 l) (s2 l) (s3 l), ?_⟩
  refine he σ _ B H r.v0 r.hc _ fun d v H1 t p s => ?_
  obtain ⟨d1, d2, rfl, kn⟩ := k d p
  exact tg1_pair i j hN hM hx hy hf hg a1 a2 A σ H0 M0 B G0 F H1 v (r.to t) s _ fun σ' rs => q.nx _ _ _ kn rs
end
end K33
end
section
set_option Elab.async false
set_option linter.all false
set_option maxRecDepth 100000
/-! B11: the rule of a def -/
namespace K33
open PySem L2
variable {c : Cl}
/-- the program's written part -/
structure Gx where
  P : Program
  w : World
  K : PySem.W.Frag
  mg : Str → Option Value
  base : Heap
/-- the rest of a def's context -/
structure Bx where
  CX : CXT
  qual : Str
  f : Addr
  cd : Value
  A : Around
  outer : List Env
  s : Shared
  H : Hp
  E : XK
@[reducible] def Fm.one (C : Cx) (nd : C.N.Nodup) (cm : C.calm = true) : Fm where
  ι := Unit
  X := fun _ => C
  prog := C.prog
  w := C.w
  K := C.K
  mg := C.mg
  base := C.base
  N := C.N
  A := C.A
  hp := fun _ => rfl
  hw := fun _ => rfl
  hK := fun _ => rfl
  hmg := fun _ => rfl
  hb := fun _ => rfl
  hN := fun _ => rfl
  hA := fun _ => rfl
  calm := fun _ => cm
  nd := nd
@[reducible] def cxD (g : Gx) (N : List Str) (sc : Scope) (b : Bx) : Cx := cxOf b.CX g.P g.w g.K g.mg g.base N b.qual sc b.f b.cd b.A b.outer b.s b.H b.E
@[reducible] def fmD (g : Gx) (N : List Str) (sc : Scope) (nd : N.Nodup) (b : Bx) : Fm := Fm.one (cxD g N sc b) nd rfl
@[reducible] def fmN (g : Gx) (N : List Str) (sc : Scope) (nd : N.Nodup) (b : Bx) : Fm := Fm.one (cxD g N sc b).nox nd rfl
abbrev Fg (g : Gx) (k : Nat) (x : Str) (sp : Sp) : Prop := Fc g.P g.w g.K g.mg g.base k x sp
abbrev Mg (g : Gx) (k : Nat) (C : Addr) (x : Str) (sp : Sp) : Prop := Mc g.P g.w g.K g.mg g.base k C x sp
abbrev Og (g : Gx) (k : Nat) (C : Addr) (x : Str) (sp : Sp) : Prop := Oc g.P g.w g.K g.mg g.base k C x sp
abbrev Fo (g : Gx) (k : Nat) (f : Addr) (fd : FuncData) (ps : List Str) (sp : Sp) : Prop := FnOk g.P g.w g.K g.mg g.base CX0 k f fd ps sp
def slV : Vw → Sl
  | .no => .no
  | .da d => .da d
  | .st => .st
def entry (n : Nat) (ws : List Vw) : List Sl := ws.map slV ++ List.replicate (n - ws.length) .no
theorem Paired.len {α β : Type} {F : α → β → Prop} : ∀ {l : List α} {m : List β}, Paired F l m → l.length = m.length
  | _, _, .nil => rfl
  | _, _, .cons _ t => congrArg (· + 1) (Paired.len t)
theorem Paired.get {α β : Type} {F : α → β → Prop} : ∀ {l : List α} {m : List β}, Paired F l m → ∀ {i : Nat} {b : β}, m[i]? = some b → ∃ a, l[i]? = some a ∧ F a b
  | _, _, .nil, i, b, h => by simp at h
  | _, _, .cons h t, 0, b, e => by simp at e; subst e; exact ⟨_, rfl, h⟩
  | _, _, .cons h t, i + 1, b, e => by
    obtain ⟨a, e1, e2⟩ := Paired.get t (i := i) (b := b) (by simpa using e)
    exact ⟨a, by simpa using e1, e2⟩
theorem rs_entry {N : List Str} {vs : List V} {ws : List Vw} {M : Addr → Prop} {B : Option Addr} {H : Hp} (hc : Hc M B H) (p : Paired (IsV c (hid M H) B) vs ws) : RS c (entry N.length ws) (L2.start N vs) H M B (hid M H) H := by
  have hl := Paired.len p
  refine ⟨fun _ => [], by simp [entry, L2.start, hl], fun _ _ => rfl, fun _ => .nil, fun i j b h => by simp at h, fun i b h => by simp at h, ⟨fun b h => ?_, fun a h => .inl (hc.bm a h), hc.st⟩, hc.bm, fun b o n e => e, hid_sub fun b h => ?_, fun i a e => ?_⟩
  · rcases h with h | ⟨i, h⟩
    · exact hc.ml b h
    · simp at h
  · rcases h with h | ⟨i, h⟩
    · exact h
    · simp at h
  · have sub : Ex (hid M H) (hid (MF M fun _ => []) H) := hid_sub fun b h => by
      rcases h with h | ⟨i, h⟩
      · exact h
      · simp at h
    unfold entry at e
    unfold L2.start
    by_cases q : i < ws.length
    · rw [List.getElem?_append_left (by simpa using q), List.getElem?_map] at e
      cases z : ws[i]? with
      | none => rw [z] at e; cases e
      | some w =>
        rw [z] at e
        obtain ⟨v, e1, e2⟩ := Paired.get p z
        refine ⟨some v, by rw [List.getElem?_append_left (by simp; omega), List.getElem?_map, e1]; rfl, ?_⟩
        cases w with
        | no => exact e2.elim
        | da d => cases e; exact ⟨rfl, v, rfl, Is.mono sub e2⟩
        | st => cases e; obtain ⟨a, b1, rfl⟩ := e2; exact ⟨rfl, a, b1, rfl⟩
    · rw [List.getElem?_append_right (by simp; omega), List.getElem?_replicate] at e
      split at e
      · cases e
        rename_i h
        refine ⟨none, ?_, rfl⟩
        rw [List.getElem?_append_right (by simp; omega), List.getElem?_replicate, if_pos (by simp at h ⊢; omega)]
      · cases e
/-- how a body's reading ends for a caller -/
theorem conts_entry {post : D → Prop} {M : Addr → Prop} {B : Option Addr} {H : Hp} {Q : VK} (k : ∀ d v H', To B H H' → post d → Is c (hid M H') v d → Q v H') :
    Conts c ⟨fun _ => post .non, post, fun _ => False, fun _ => False⟩ { nx := fun _ H' => Q .non H', rt := Q } H M B (hid M H) :=
  ⟨fun A σ H' p ⟨F, r⟩ => k .non .non H' ⟨r.ex, r.hc.st⟩ p .non, fun d v H' p e st s => k d v H' ⟨e, st⟩ p s, fun _ _ _ h => h.elim, fun _ _ _ h => h.elim⟩
section
variable {g : Gx} {x qual : Str} {st : Stmt} {f : Addr} {fd : FuncData} {N ps : List Str} {k : Nat} {ι : Type} {args : ι → List Vw} {pre : ι → Prop} {post : ι → D → Prop}
theorem fn_ok (F : Fun g.K x qual st f fd) (S : FnScope N ps (defScope st)) (hl : ∀ i, (args i).length = ps.length)
    (body : ∀ (b : Bx) (i : ι), Room k (fmN g N (defScope st) S.nd b).A → pre i → GS c (fmN g N (defScope st) S.nd b) (defBody st) (entry N.length (args i)) ⟨fun _ => post i .non, post i, fun _ => False, fun _ => False⟩) :
    Fo g (k + 1) f fd ps (spG c args pre post) := by
  refine F.ok S (fun vs H Q E h => ?_) (fun cdv A outer s H vs Q E hr h => ?_)
  · obtain ⟨i, M, B, _, _, p, _⟩ := h
    rw [Paired.len p, hl i]
  · obtain ⟨i, M, B, hp, hc, p, q⟩ := h
    have z := body ⟨CX0, qual, f, cdv, A, outer, s, H, E⟩ i hr hp H M B (hid M H) _ H (rs_entry hc p) _ (conts_entry q)
    obtain ⟨t, ht, tq⟩ := z
    exact ⟨t, ht (), tq⟩
end
end K33
end
section
set_option Elab.async false
set_option linter.all false
set_option maxRecDepth 100000
/-! B12: comparisons as tests; deep comparisons -/
namespace K33
open PySem L2
variable {c : Cl} {X : Fm} {Γ : List Vw}
theorem gt_cmp {a b : Expr} {pos : Pos} {op : CmpOp} {r : R2} {P : Bool → Prop} {Pa Pb : D → Prop} (ho : ∀ i, OpR (X.X i) (compareOp op) r) (ha : GE c X a Γ Pa) (hb : GE c X b Γ Pb) (h : ∀ x y, Pa x → Pb y → RD c r x y (fun d => ∃ k, d = .bl k ∧ P k)) (hm : behindInMarks op b = false := by first | exact nomark _ | rfl) :
    GT c X (.Compare a [op] [b] pos) Γ P := fun σ M B H r hc Q k =>
  ⟨_, fun i => pt_cmpR (ho i) (pe_w a i) (pe_w b i) hm, ha σ M B H r hc _ fun x v H1 t1 p1 s1 => hb σ M B H1 (r.mono (t1.hid hc.bm)) (t1.hc hc) _ fun y w H2 t2 p2 s2 =>
    h x y p1 p2 M B H2 v w (t2.hc (t1.hc hc)) (s1.mono (t2.hid hc.bm)) s2 _ fun d u H3 t3 ⟨b, e, pb⟩ s => by
      subst e
      rw [s.blE]
      exact ⟨b, rfl, k b H3 ((t1.trans t2).trans t3) pb⟩⟩
theorem gb_cmp {a b : Expr} {pos : Pos} {op : CmpOp} {r : R2} {k : Bool} {x y : D} (ho : ∀ i, OpR (X.X i) (compareOp op) r) (ha : GV c X a Γ x) (hb : GV c X b Γ y) (h : RD c r x y (fun d => d = .bl k)) (hm : behindInMarks op b = false := by first | exact nomark _ | rfl) : GB c X (.Compare a [op] [b] pos) Γ k :=
  gt_cmp ho ha hb (fun u v e1 e2 M B H w z hc h1 h2 Q q => h M B H w z hc (e1 ▸ h1) (e2 ▸ h2) Q fun d u H' t p s => q d u H' t ⟨k, p, rfl⟩ s) hm
theorem gv_cmp {a b : Expr} {pos : Pos} {op : CmpOp} {r : R2} {k : Bool} {x y : D} (ho : ∀ i, OpR (X.X i) (compareOp op) r) (ha : GV c X a Γ x) (hb : GV c X b Γ y) (h : RD c r x y (fun d => d = .bl k)) (hm : behindInMarks op b = false := by first | exact nomark _ | rfl) : GV c X (.Compare a [op] [b] pos) Γ (.bl k) :=
  ge_cmp ho ha hb (fun u v e1 e2 => by rw [e1, e2]; exact h) hm
theorem rd_eqI {i j : Int} : RD c rEq (.int i) (.int j) (fun d => d = .bl (decide (i = j))) := fun M B H v w hc h1 h2 Q k => by
  rw [h1.intE, h2.intE]
  refine ⟨rfl, ?_⟩
  have e : decide (V.int i = V.int j) = decide (i = j) := by simp
  rw [e]
  exact k _ _ H (.refl hc.st) rfl (.bl _)
theorem rd_neI {i j : Int} : RD c rNe (.int i) (.int j) (fun d => d = .bl (!decide (i = j))) := fun M B H v w hc h1 h2 Q k => by
  rw [h1.intE, h2.intE]
  refine ⟨rfl, ?_⟩
  have e : decide (V.int i = V.int j) = decide (i = j) := by simp
  rw [e]
  exact k _ _ H (.refl hc.st) rfl (.bl _)
theorem rd_eqB {i j : Bool} : RD c rEq (.bl i) (.bl j) (fun d => d = .bl (decide (i = j))) := fun M B H v w hc h1 h2 Q k => by
  rw [h1.blE, h2.blE]
  refine ⟨rfl, ?_⟩
  have e : decide (V.bl i = V.bl j) = decide (i = j) := by simp
  rw [e]
  exact k _ _ H (.refl hc.st) rfl (.bl _)
theorem rd_neB {i j : Bool} : RD c rNe (.bl i) (.bl j) (fun d => d = .bl (!decide (i = j))) := fun M B H v w hc h1 h2 Q k => by
  rw [h1.blE, h2.blE]
  refine ⟨rfl, ?_⟩
  have e : decide (V.bl i = V.bl j) = decide (i = j) := by simp
  rw [e]
  exact k _ _ H (.refl hc.st) rfl (.bl _)
theorem rd_eqS {i j : Str} : RD c rEq (.str i) (.str j) (fun d => d = .bl (decide (i = j))) := fun M B H v w hc h1 h2 Q k => by
  rw [h1.strE, h2.strE]
  refine ⟨rfl, ?_⟩
  have e : decide (V.str i = V.str j) = decide (i = j) := by simp
  rw [e]
  exact k _ _ H (.refl hc.st) rfl (.bl _)
section
variable {a b : Expr} {pos : Pos} {i j : Int}
theorem gb_lt (ha : GV c X a Γ (.int i)) (hb : GV c X b Γ (.int j)) : GB c X (.Compare a [.Lt] [b] pos) Γ (decide (i < j)) := gb_cmp (fun _ => op_lt) ha hb (rd_I0 fun _ => .bl _)
theorem gb_le (ha : GV c X a Γ (.int i)) (hb : GV c X b Γ (.int j)) : GB c X (.Compare a [.LtE] [b] pos) Γ (decide (i ≤ j)) := gb_cmp (fun _ => op_le) ha hb (rd_I0 fun _ => .bl _)
theorem gb_gt (ha : GV c X a Γ (.int i)) (hb : GV c X b Γ (.int j)) : GB c X (.Compare a [.Gt] [b] pos) Γ (decide (j < i)) := gb_cmp (fun _ => op_gt) ha hb (rd_I0 fun _ => .bl _)
theorem gb_ge (ha : GV c X a Γ (.int i)) (hb : GV c X b Γ (.int j)) : GB c X (.Compare a [.GtE] [b] pos) Γ (decide (j ≤ i)) := gb_cmp (fun _ => op_ge) ha hb (rd_I0 fun _ => .bl _)
theorem gb_eqI (ha : GV c X a Γ (.int i)) (hb : GV c X b Γ (.int j)) : GB c X (.Compare a [.Eq] [b] pos) Γ (decide (i = j)) := gb_cmp (fun _ => op_eq) ha hb rd_eqI
theorem gb_neI (ha : GV c X a Γ (.int i)) (hb : GV c X b Γ (.int j)) : GB c X (.Compare a [.NotEq] [b] pos) Γ (!decide (i = j)) := gb_cmp (fun _ => op_ne) ha hb rd_neI
theorem gb_eqB {i j : Bool} (ha : GV c X a Γ (.bl i)) (hb : GV c X b Γ (.bl j)) : GB c X (.Compare a [.Eq] [b] pos) Γ (decide (i = j)) := gb_cmp (fun _ => op_eq) ha hb rd_eqB
theorem gb_neB {i j : Bool} (ha : GV c X a Γ (.bl i)) (hb : GV c X b Γ (.bl j)) : GB c X (.Compare a [.NotEq] [b] pos) Γ (!decide (i = j)) := gb_cmp (fun _ => op_ne) ha hb rd_neB
theorem gb_eqS {i j : Str} (ha : GV c X a Γ (.str i)) (hb : GV c X b Γ (.str j)) : GB c X (.Compare a [.Eq] [b] pos) Γ (decide (i = j)) := gb_cmp (fun _ => op_eq) ha hb rd_eqS
/-- own != as a test -/
theorem gb_ownNe {ι : Type} {args : ι → List Vw} {pre : ι → Prop} {post : ι → D → Prop} {k : Nat} (F : Oc X.prog X.w X.K X.mg X.base k c.R "__eq__" (spG c args pre post)) (hn : PySem.W.findIn X.K (.ref c.R) "__ne__" = some (some (.builtin "object.__ne__"))) (hob : PySem.W.mroIn X.K c.R (.type "object") = some true) (hr : Room (k + 1) X.A)
    {x y : Rat} (ha : GV c X a Γ (.rat x)) (hb : GV c X b Γ (.rat y)) {r : Bool} (h : ∃ i, args i = [.da (.rat x), .da (.rat y)] ∧ pre i ∧ ∀ d, post i d → d = .bl r) : GB c X (.Compare a [.NotEq] [b] pos) Γ (!r) := by
  obtain ⟨f, fd, ps, F, hm, hbd⟩ := F
  refine gb_cmp (r := rOwnNe c.R (spG c args pre post) E0) (fun i => op_ownNe (E := E0) (by rw [X.hK i]; exact hm) (by rw [X.hK i]; exact hn) (by rw [X.hK i]; exact hob) (fnAt F) (room_at hr) (by rw [X.hK i]; exact hbd) passF) ha hb ?_
  intro M B H v w hh h1 h2 Q q
  obtain ⟨p, dx, rfl, e⟩ := h1.ratE
  obtain ⟨p', dx', rfl, e'⟩ := h2.ratE
  obtain ⟨i, e3, hpre, hpost⟩ := h
  refine ⟨p, dx, _, p', dx', _, rfl, rfl, hid_le _ _ e, hid_le _ _ e', i, M, B, hpre, hh, by rw [e3]; exact .cons h1 (.cons h2 .nil), fun d v H3 t3 p3 s3 => ?_⟩
  have := hpost d p3
  subst this
  exact ⟨r, s3.blE, q _ _ H3 t3 rfl (.bl _)⟩
end
/-! ### deep comparisons -/
/-- data that Dp reads -/
inductive DpD : D → PyData → Prop where
  | int (i : Int) : DpD (.int i) (.int i)
  | str (s : Str) : DpD (.str s) (.str s)
  | tup {l : List D} {ps : List PyData} (h : Paired DpD l ps) : DpD (.tup l) (.tuple ps)
  | lst {l : List D} {ps : List PyData} (h : Paired DpD l ps) : DpD (.lst l) (.list ps)
mutual
theorem dp_of {K : PySem.W.Frag} {M : Addr → Prop} {H : Hp} : ∀ {p : PyData} {d : D} {v : V}, DpD d p → Is c (hid M H) v d → Dp K H v p
  | .int _, _, _, h, s => by cases h; rw [s.intE]; exact .int _
  | .str _, _, _, h, s => by cases h; rw [s.strE]; exact .str _
  | .tuple ps, _, _, h, s => by
    cases h with
    | tup h =>
      obtain ⟨a, vs, rfl, e, l⟩ := s.tupE
      exact .tup (SqT.of (hid_le _ _ e)) (dp_all h l)
  | .list ps, _, _, h, s => by
    cases h with
    | lst h =>
      obtain ⟨a, vs, rfl, e, l⟩ := s.lstE
      exact .lst (SqL.of (hid_le _ _ e)) (dp_all h l)
  | .none, _, _, h, _ => by cases h
  | .bool _, _, _, h, _ => by cases h
  | .dict _, _, _, h, _ => by cases h
theorem dp_all {K : PySem.W.Frag} {M : Addr → Prop} {H : Hp} : ∀ {ps : List PyData} {ds : List D} {vs : List V}, Paired DpD ds ps → IsL c (hid M H) vs ds → DpAll K H vs ps
  | [], _, vs, h, l => by
    cases h
    have := l.len
    match vs, this with
    | [], _ => exact .nil
  | p :: ps, _, vs, h, l => by
    cases h with
    | @cons d _ ds _ h t =>
      have := l.len
      match vs, l with
      | v :: vs, l => exact .cons (dp_of h (l.at_ 0 v d rfl rfl)) (dp_all t ⟨by simpa using l.len, fun i w e a b => l.at_ (i + 1) w e a b⟩)
end
def tI (l : List Int) : D := .tup (l.map .int)
def tT (ss : List (List Int)) : D := .tup (ss.map tI)
def pI (l : List Int) : PyData := .tuple (l.map .int)
def pT (ss : List (List Int)) : PyData := .tuple (ss.map pI)
theorem dp_ints : ∀ l : List Int, Paired DpD (l.map .int) (l.map .int)
  | [] => .nil
  | i :: l => .cons (.int i) (dp_ints l)
theorem dp_tI (l : List Int) : DpD (tI l) (pI l) := .tup (dp_ints l)
theorem dp_tTs : ∀ ss : List (List Int), Paired DpD (ss.map tI) (ss.map pI)
  | [] => .nil
  | s :: ss => .cons (dp_tI s) (dp_tTs ss)
theorem dp_tT (ss : List (List Int)) : DpD (tT ss) (pT ss) := .tup (dp_tTs ss)
theorem lay_ints : ∀ l : List Int, PyData.canLayAll0 (l.map .int) = true
  | [] => rfl
  | i :: l => by rw [List.map_cons, PyData.canLayAll0, lay_ints l]; rfl
theorem dep_ints : ∀ l : List Int, PyData.depthAll (l.map .int) = 0
  | [] => rfl
  | i :: l => by rw [List.map_cons, PyData.depthAll, dep_ints l]; rfl
theorem lay_tI (l : List Int) : (pI l).canLay0 = true := lay_ints l
theorem dep_tI (l : List Int) : (pI l).depth = 1 := by show PyData.depthAll _ + 1 = 1; rw [dep_ints]
theorem lay_tTs : ∀ ss : List (List Int), PyData.canLayAll0 (ss.map pI) = true
  | [] => rfl
  | s :: ss => by rw [List.map_cons, PyData.canLayAll0, lay_tI, lay_tTs ss]; rfl
theorem dep_tTs : ∀ ss : List (List Int), PyData.depthAll (ss.map pI) ≤ 1
  | [] => Nat.zero_le _
  | s :: ss => by rw [List.map_cons, PyData.depthAll, dep_tI]; have := dep_tTs ss; omega
theorem sh_tI (l : List Int) : SeqAt.shaped (pI l) = true := by
  unfold SeqAt.shaped; rw [lay_tI, dep_tI]; rfl
theorem sh_tT (ss : List (List Int)) : SeqAt.shaped (pT ss) = true := by
  unfold SeqAt.shaped
  have h : (pT ss).canLay0 = true := lay_tTs ss
  have e : (pT ss).depth ≤ 64 := by show PyData.depthAll _ + 1 ≤ 64; have := dep_tTs ss; omega
  rw [h, decide_eq_true e]
  rfl
theorem eqv_ints : ∀ l m : List Int, PyData.eqvAll (l.map .int) (m.map .int) = decide (l = m)
  | [], [] => rfl
  | [], _ :: _ => rfl
  | _ :: _, [] => rfl
  | i :: l, j :: m => by
    rw [List.map_cons, List.map_cons, PyData.eqvAll, eqv_ints l m]
    show (i == j && decide (l = m)) = _
    by_cases h1 : i = j <;> by_cases h2 : l = m <;> simp [h1, h2]
theorem eqv_tI (l m : List Int) : PyData.eqv (pI l) (pI m) = decide (l = m) := eqv_ints l m
theorem eqv_tTs : ∀ l m : List (List Int), PyData.eqvAll (l.map pI) (m.map pI) = decide (l = m)
  | [], [] => rfl
  | [], _ :: _ => rfl
  | _ :: _, [] => rfl
  | i :: l, j :: m => by
    rw [List.map_cons, List.map_cons, PyData.eqvAll, eqv_tTs l m, eqv_tI]
    by_cases h1 : i = j <;> by_cases h2 : l = m <;> simp [h1, h2]
theorem eqv_tT (l m : List (List Int)) : PyData.eqv (pT l) (pT m) = decide (l = m) := eqv_tTs l m
theorem any_tI (s : List Int) : ∀ ss : List (List Int), ((ss.map pI).any fun z => PyData.eqv z (pI s)) = decide (s ∈ ss)
  | [] => rfl
  | x :: ss => by
    rw [List.map_cons, List.any_cons, any_tI s ss, eqv_tI]
    by_cases e1 : x = s
    · simp [e1]
    · have : ¬ s = x := fun z => e1 z.symm
      by_cases e2 : s ∈ ss <;> simp [e1, e2, this]
def rInTD (K : PySem.W.Frag) : R2 := fun x y H Q => ∃ d ds, Dp K H x d ∧ Dp K H y (.tuple ds) ∧ SeqAt.shaped d = true ∧ SeqAt.shaped (.tuple ds) = true ∧ Q (.bl (ds.any fun z => PyData.eqv z d)) H
theorem op_inTD {Y : Cx} (hu : Y.A.units + 65 < cLine) : OpR Y (compareOp .In) (rInTD Y.K) := by
  intro pins s σ H x y v u Q I rx ry h
  obtain ⟨d, ds, hd, he, sd, se, q⟩ := h
  obtain ⟨as, r1⟩ := Dp.reads I d x v hd rx
  obtain ⟨bs, r2⟩ := Dp.reads I (.tuple ds) y u he ry
  refine SeqAt.in_tuple_reads r2 r1 (SeqAt.canLay_of_shaped se) (SeqAt.canLay_of_shaped sd) ?_ ⟨.bl _, H, I, rfl, q⟩
  have := SeqAt.depth_of_shaped sd
  omega
theorem units_at {i : X.ι} {k : Nat} (hr : Room k X.A) : (X.X i).A.units + 65 < cLine := by rw [X.hA i]; have := hr.un; omega
theorem gv_inT {a b : Expr} {pos : Pos} {k : Nat} (hr : Room k X.A) {s : List Int} {ss : List (List Int)} (ha : GV c X a Γ (tI s)) (hb : GV c X b Γ (tT ss)) (hm : behindInMarks .In b = false := by rfl) : GV c X (.Compare a [.In] [b] pos) Γ (.bl (decide (s ∈ ss))) :=
  gv_cmp (r := rInTD X.K) (fun i => by rw [← X.hK i]; exact op_inTD (units_at hr)) ha hb (fun M B H v w hh h1 h2 Q q => by
    refine ⟨pI s, ss.map pI, dp_of (dp_tI s) h1, dp_of (dp_tT ss) h2, sh_tI s, sh_tT ss, ?_⟩
    have e := any_tI s ss
    rw [e]
    exact q _ _ H (.refl hh.st) rfl (.bl _)) hm
theorem gb_neT {a b : Expr} {pos : Pos} {k : Nat} (hr : Room k X.A) {s t : List (List Int)} (ha : GV c X a Γ (tT s)) (hb : GV c X b Γ (tT t)) : GB c X (.Compare a [.NotEq] [b] pos) Γ (!decide (s = t)) :=
  gb_cmp (r := rNeD X.K) (fun i => by rw [← X.hK i]; exact op_neD (by have := units_at (i := i) hr; omega)) ha hb (fun M B H v w hh h1 h2 Q q => by
    refine ⟨pT s, pT t, dp_of (dp_tT s) h1, dp_of (dp_tT t) h2, sh_tT s, sh_tT t, ?_⟩
    rw [eqv_tT]
    exact q _ _ H (.refl hh.st) rfl (.bl _))
theorem gb_eqTI {a b : Expr} {pos : Pos} {k : Nat} (hr : Room k X.A) {s t : List Int} (ha : GV c X a Γ (tI s)) (hb : GV c X b Γ (tI t)) : GB c X (.Compare a [.Eq] [b] pos) Γ (decide (s = t)) :=
  gb_cmp (r := rEqD X.K) (fun i => by rw [← X.hK i]; exact op_eqD (by have := units_at (i := i) hr; omega)) ha hb (fun M B H v w hh h1 h2 Q q => by
    refine ⟨pI s, pI t, dp_of (dp_tI s) h1, dp_of (dp_tI t) h2, sh_tI s, sh_tI t, ?_⟩
    rw [eqv_tI]
    exact q _ _ H (.refl hh.st) rfl (.bl _))
/-- equal lists of texts -/
theorem gv_eqL {a b : Expr} {pos : Pos} {k : Nat} (hr : Room k X.A) {l : List D} {ps : List PyData} (hp : DpD (.lst l) (.list ps)) (hs : SeqAt.shaped (.list ps) = true) (he : PyData.eqv (.list ps) (.list ps) = true) (ha : GV c X a Γ (.lst l)) (hb : GV c X b Γ (.lst l)) : GV c X (.Compare a [.Eq] [b] pos) Γ (.bl true) :=
  gv_cmp (r := rEqD X.K) (fun i => by rw [← X.hK i]; exact op_eqD (by have := units_at (i := i) hr; omega)) ha hb (fun M B H v w hh h1 h2 Q q => by
    refine ⟨.list ps, .list ps, dp_of hp h1, dp_of hp h2, hs, hs, ?_⟩
    rw [he]
    exact q _ _ H (.refl hh.st) rfl (.bl _))
end K33
end
section
set_option Elab.async false
set_option linter.all false
set_option maxRecDepth 100000
/-! B13: isinstance, gcd, lcm -/
namespace K33
open PySem L2
variable {c : Cl} {X : Fm} {Γ : List Vw}
/-- what isinstance asks of a class -/
structure CtI (C : Addr) (K : PySem.W.Frag) : Prop where
  cl : Cls K C
  ha : PySem.W.findIn K (.ref C) "__class__" = some (some (.builtin "object.__class__"))
  hn : PySem.W.specialIn K (.builtin "object.__class__") "__get__" = some (some (.builtin "getset_descriptor.__get__"))
  tk : PySem.W.takesIn K (.builtin "object.__class__") = some true
  ob : PySem.W.mroIn K C (.type "object") = some true
def tyD : D → Option String
  | .non => some "NoneType"
  | .bl _ => some "bool"
  | .int _ => some "int"
  | .str _ => some "str"
  | .tup _ => some "tuple"
  | .lst _ => some "list"
  | _ => none
theorem ty_of {K : PySem.W.Frag} {M : Addr → Prop} {H : Hp} {d : D} {v : V} {t : String} (s : Is c (hid M H) v d) (h : tyD d = some t) : TyX K H v (.type t) := by
  cases s with
  | non => cases h; exact .base .non
  | bl b => cases h; exact .base (.bl b)
  | int i => cases h; exact .base (.int i)
  | str x => cases h; exact .base (.str x)
  | rat _ => cases h
  | tup e _ _ => cases h; exact .base (.tup (hid_le _ _ e))
  | lst e _ _ => cases h; exact .base (.lst (hid_le _ _ e))
  | met _ _ => cases h
section
variable {p pc pos : Pos} {a : Expr} {xT : Str} {T : String} {P : D → Prop}
/-- isinstance(a, T), T a built-in type -/
theorem gv_isi {d : D} {t : String} {b : Bool} (ht : tyD d = some t) (hk : kitB t T = some b) (hm : X.mg "isinstance" = none) (hT : X.mg xT = none) (hv : bootBuiltins xT = some (.type T)) (ha : GV c X a Γ d)
    (hg : ∀ i, Gl (X.X i) "isinstance" := by intro _; rfl) (hgT : ∀ i, Gl (X.X i) xT := by intro _; rfl) (hn : xT ≠ "__name__" := by decide) (hdb : (xT == ("__debug__" : Str)) = false := by decide)
    (he : ∀ i, starEach [a, .Name xT pc] (X.X i).env = (false, eval a (X.X i).env) :: starEach [.Name xT pc] (X.X i).env := by intro _; rfl) (he2 : ∀ i, starEach [.Name xT pc] (X.X i).env = (false, eval (.Name xT pc) (X.X i).env) :: starEach [] (X.X i).env := by intro _; rfl)
    (hpl : ∀ i, (backTo pos (starEach [.Name xT pc] (X.X i).env)).any (·.1) = false := by intro _; rfl) : GV c X (.Call (.Name "isinstance" p) [a, .Name xT pc] [] pos) Γ (.bl b) := fun σ M B H rr hh Q q =>
  ⟨tCB (rIsi X.K) (tCons (wE X a) (tCons (tC (.ty T)) tNil)), fun i => by rw [← X.hK i]; exact pe_callB call_isi (hg i) (by rw [X.hmg i]; exact hm) (by decide +kernel) (pa_cons (pe_w a i) (pa_cons (pe_bltn (hgT i) (by rw [X.hmg i]; exact hT) hv (v := .ty T) (show RelV (.ty T) (.type T) from rfl) hn hdb) pa_nil (he2 i)) (he i)) (by decide) (by decide) (he i) (hpl i),
    ha σ M B H rr hh _ fun d' v H1 t p s => by
      subst p
      exact ⟨v, .ty T, _, _, b, rfl, .ty T, ty_of s ht, kit_ty hk, q _ _ H1 t rfl (.bl b)⟩⟩
/-- isinstance(a, Ratio), a Ratio -/
theorem gv_isR {q0 : Rat} (C : CtI c.R X.K) (hm : X.mg "isinstance" = none) (hT : X.mg xT = some (.ref c.R)) (ha : GV c X a Γ (.rat q0))
    (hg : ∀ i, Gl (X.X i) "isinstance" := by intro _; rfl) (hgT : ∀ i, Gl (X.X i) xT := by intro _; rfl) (hdb : (xT == ("__debug__" : Str)) = false := by decide)
    (he : ∀ i, starEach [a, .Name xT pc] (X.X i).env = (false, eval a (X.X i).env) :: starEach [.Name xT pc] (X.X i).env := by intro _; rfl) (he2 : ∀ i, starEach [.Name xT pc] (X.X i).env = (false, eval (.Name xT pc) (X.X i).env) :: starEach [] (X.X i).env := by intro _; rfl)
    (hpl : ∀ i, (backTo pos (starEach [.Name xT pc] (X.X i).env)).any (·.1) = false := by intro _; rfl) : GV c X (.Call (.Name "isinstance" p) [a, .Name xT pc] [] pos) Γ (.bl true) := fun σ M B H rr hh Q q =>
  ⟨tCB (rIsi X.K) (tCons (wE X a) (tCons (tC (.ref c.R)) tNil)), fun i => by rw [← X.hK i]; exact pe_callB call_isi (hg i) (by rw [X.hmg i]; exact hm) (by decide +kernel) (pa_cons (pe_w a i) (pa_cons (pe_glob (hgT i) (by rw [X.hmg i]; exact hT) (v := .ref c.R) (show RelV (.ref c.R) (.ref c.R) from rfl) hdb) pa_nil (he2 i)) (he i)) (by decide) (by decide) (he i) (hpl i),
    ha σ M B H rr hh _ fun d' v H1 t p s => by
      subst p
      obtain ⟨x, dx, rfl, e⟩ := s.ratE
      refine ⟨_, .ref c.R, _, _, true, rfl, .own c.R, .base (.ins (hid_le _ _ e) C.cl C.ha C.hn C.tk C.ob), ?_, q _ _ H1 t rfl (.bl true)⟩
      unfold PySem.W.kitOne
      simp⟩
/-- isinstance(a, (list, tuple)), a a tuple -/
theorem gv_isLT {ds : List D} {pt p1 p2 : Pos} {k0 : Nat} (hm : X.mg "isinstance" = none) (hL : X.mg "list" = none) (hT : X.mg "tuple" = none) (ha : GV c X a Γ (.tup ds))
    (hg : ∀ i, Gl (X.X i) "isinstance" := by intro _; rfl) (hgL : ∀ i, Gl (X.X i) "list" := by intro _; rfl) (hgT : ∀ i, Gl (X.X i) "tuple" := by intro _; rfl)
    (he : ∀ i, starEach [a, .Tuple [.Name "list" p1, .Name "tuple" p2] k0 pt] (X.X i).env = (false, eval a (X.X i).env) :: starEach [.Tuple [.Name "list" p1, .Name "tuple" p2] k0 pt] (X.X i).env := by intro _; rfl)
    (he2 : ∀ i, starEach [.Tuple [.Name "list" p1, .Name "tuple" p2] k0 pt] (X.X i).env = (false, eval (.Tuple [.Name "list" p1, .Name "tuple" p2] k0 pt) (X.X i).env) :: starEach [] (X.X i).env := by intro _; rfl)
    (hpl : ∀ i, (backTo pos (starEach [.Tuple [.Name "list" p1, .Name "tuple" p2] k0 pt] (X.X i).env)).any (·.1) = false := by intro _; rfl) : GV c X (.Call (.Name "isinstance" p) [a, .Tuple [.Name "list" p1, .Name "tuple" p2] k0 pt] [] pos) Γ (.bl true) := fun σ M B H rr hh Q q =>
  ⟨tCB (rIsiT X.K) (tCons (wE X a) (tCons (tTup (tCons (tC (.ty "list")) (tCons (tC (.ty "tuple")) tNil))) tNil)), fun i => by
    rw [← X.hK i]
    exact pe_callB call_isiT (hg i) (by rw [X.hmg i]; exact hm) (by decide +kernel) (pa_cons (pe_w a i) (pa_cons (pe_tup (pa_cons (pe_bltn (hgL i) (by rw [X.hmg i]; exact hL) PyProof.Rows.boot_list (v := .ty "list") (show RelV (.ty "list") (.type "list") from rfl) (by decide) (by decide)) (pa_cons (pe_bltn (hgT i) (by rw [X.hmg i]; exact hT) PyProof.Rows.boot_tuple (v := .ty "tuple") (show RelV (.ty "tuple") (.type "tuple") from rfl) (by decide) (by decide)) pa_nil))) pa_nil (he2 i)) (he i)) (by decide) (by decide) (he i) (hpl i),
    ha σ M B H rr hh _ fun d' v H1 t p s => by
      subst p
      refine ⟨by decide, fun T hq => ?_⟩
      have t2 : To B H1 (upd H1 T (.tup [.ty "list", .ty "tuple"])) := .new hq t.st
      have s2 := s.mono (t2.hid hh.bm)
      exact ⟨v, T, _, _, [.type "list", .type "tuple"], true, rfl, upd_same, .cons (.ty _) (.cons (.ty _) .nil), ty_of s2 rfl, kitAny_cons (kit_ty (b := "list") (r := false) (by decide +kernel)) (fun _ => kitAny_cons (kit_ty (b := "tuple") (r := true) (by decide +kernel)) (fun z => by cases z) fun _ => rfl) (fun _ => rfl), q _ _ _ (t.trans t2) rfl (.bl true)⟩⟩
end
/-! ### gcd, lcm -/
section
variable {p pos : Pos} {a b : Expr}
theorem ge_cbF {x : Str} {e : Expr} {es : List Expr} {T : String} {r : List V → Hp → VK → Prop} {Ps : List Vw → Prop} {P : D → Prop} (hc : ∀ i, CallR (X.X i) (.builtin T) r) (hm : X.mg x = some (.builtin T)) (ha : GA c X (e :: es) Γ Ps) (h : ∀ ws, Ps ws → RC c r ws P)
    (hg : ∀ i, Gl (X.X i) x := by intro _; rfl) (hdb : (x == ("__debug__" : Str)) = false := by decide) (he : ∀ i, starEach (e :: es) (X.X i).env = (false, eval e (X.X i).env) :: starEach es (X.X i).env := by intro _; rfl)
    (hpl : ∀ i, (backTo pos (starEach es (X.X i).env)).any (·.1) = false := by intro _; rfl) : GE c X (.Call (.Name x p) (e :: es) [] pos) Γ P := fun σ M B H rr hh Q k =>
  ⟨_, fun i => pe_callBfun (hc i) (hg i) (by rw [X.hmg i]; exact hm) (pa_w (e :: es) i) hdb (he i) (hpl i), ha σ M B H rr hh _ fun ws vs H1 t p s => h ws p M B H1 vs (t.hc hh) s Q fun d u H2 t2 p2 s2 => k d u H2 (t.trans t2) p2 s2⟩
theorem gv_gcd {i j : Int} (hm : X.mg "gcd" = some (.builtin "math.gcd")) (ha : GV c X a Γ (.int i)) (hb : GV c X b Γ (.int j)) (hg : ∀ i, Gl (X.X i) "gcd" := by intro _; rfl) (he : ∀ i, starEach [a, b] (X.X i).env = (false, eval a (X.X i).env) :: starEach [b] (X.X i).env := by intro _; rfl)
    (he2 : ∀ i, starEach [b] (X.X i).env = (false, eval b (X.X i).env) :: starEach [] (X.X i).env := by intro _; rfl) (hpl : ∀ i, (backTo pos (starEach [b] (X.X i).env)).any (·.1) = false := by intro _; rfl) : GV c X (.Call (.Name "gcd" p) [a, b] [] pos) Γ (.int (Int.gcd i j)) :=
  ge_cbF (fun _ => cr_gcd) hm (ga2 ha hb he he2) (fun ws q M B H vs hc s Q k => by
    subst q
    obtain ⟨v, u, rfl, sv, su⟩ := Paired.inv2 s
    rw [(show Is c _ v (.int i) from sv).intE, (show Is c _ u (.int j) from su).intE]
    exact ⟨i, j, rfl, k _ _ H (.refl hc.st) rfl (.int _)⟩) hg (by decide) he hpl
def rLcm : List V → Hp → VK → Prop := fun vs H Q => ∃ a b : Int, vs = [.int a, .int b] ∧ a.natAbs < 2 ^ 64 ∧ b.natAbs < 2 ^ 64 ∧ Q (.int ((Nat.lcm a.natAbs b.natAbs : Nat) : Int)) H
theorem lcm_log {a b : Nat} (ha : a < 2 ^ 64) (hb : b < 2 ^ 64) : (((Nat.lcm a b : Nat) : Int)).natAbs.log2 < bitsLine := by
  have h1 : Nat.lcm a b < 2 ^ 128 := by
    have h2 : Nat.lcm a b ≤ a * b := Nat.div_le_self _ _
    have h3 : a * b < 2 ^ 64 * 2 ^ 64 := Nat.mul_lt_mul'' ha hb
    have h4 : 2 ^ 64 * 2 ^ 64 = 2 ^ 128 := by decide
    omega
  rw [Int.natAbs_natCast]
  by_cases h0 : Nat.lcm a b = 0
  · rw [h0]; decide
  · have : (Nat.lcm a b).log2 < 128 := (Nat.log2_lt h0).mpr h1
    exact Nat.lt_trans this (by decide)
theorem cr_lcm {Y : Cx} : CallR Y (.builtin "math.lcm") rLcm := by
  intro pins s σ H vs us Q I r h
  obtain ⟨a, b, rfl, ha, hb, q⟩ := h
  obtain ⟨t, u, rfl⟩ := Vals.int2 r
  have e : (Nat.lcm 1 a.natAbs).lcm b.natAbs = Nat.lcm a.natAbs b.natAbs := by rw [Nat.lcm_one_left]
  refine PySem.W.mg_lcm ha hb ?_ ?_
  · rw [e]; exact lcm_log ha hb
  · rw [e]; exact ⟨.int _, H, I.tok _, ⟨_, rfl⟩, q⟩
theorem gv_lcm {i j : Int} (hm : X.mg "lcm" = some (.builtin "math.lcm")) (ha : GV c X a Γ (.int i)) (hb : GV c X b Γ (.int j)) (hi : i.natAbs < 2 ^ 64) (hj : j.natAbs < 2 ^ 64) (hg : ∀ i, Gl (X.X i) "lcm" := by intro _; rfl) (he : ∀ i, starEach [a, b] (X.X i).env = (false, eval a (X.X i).env) :: starEach [b] (X.X i).env := by intro _; rfl)
    (he2 : ∀ i, starEach [b] (X.X i).env = (false, eval b (X.X i).env) :: starEach [] (X.X i).env := by intro _; rfl) (hpl : ∀ i, (backTo pos (starEach [b] (X.X i).env)).any (·.1) = false := by intro _; rfl) : GV c X (.Call (.Name "lcm" p) [a, b] [] pos) Γ (.int (Int.lcm i j)) :=
  ge_cbF (fun _ => cr_lcm) hm (ga2 ha hb he he2) (fun ws q M B H vs hc s Q k => by
    subst q
    obtain ⟨v, u, rfl, sv, su⟩ := Paired.inv2 s
    rw [(show Is c _ v (.int i) from sv).intE, (show Is c _ u (.int j) from su).intE]
    exact ⟨i, j, rfl, hi, hj, k _ _ H (.refl hc.st) rfl (.int _)⟩) hg (by decide) he hpl
end
end K33
end
section
set_option Elab.async false
set_option linter.all false
set_option maxRecDepth 100000
/-! B14: globals; a block's head, then raw; making a Ratio, a Metric -/
namespace K33
open PySem L2
variable {c : Cl} {X : Fm} {Γ : List Vw}
/-- a module's constant that is an int -/
theorem gv_glob {x : Str} {pos : Pos} {i : Int} {t : Tok} (hm : X.mg x = some (.int i t)) (hg : ∀ i, Gl (X.X i) x := by intro _; rfl) (hd : (x == ("__debug__" : Str)) = false := by decide) : GV c X (.Name x pos) Γ (.int i) := fun σ M B H r hc Q k =>
  ⟨_, fun j => pe_glob (v := .int i) (hg j) (by rw [X.hmg j]; exact hm) ⟨t, rfl⟩ hd, k _ _ H (.refl hc.st) rfl (.int i)⟩
theorem gs_then {A : List Sl} {K : Kk} {st : Stmt} {rest : List Stmt} {H0 G0 : Hp} {M0 : Addr → Prop} {B : Option Addr} {σ : L2.St} {H : Hp} {Dn : Ends} (h : G1 c X st A K) (r : RS c A σ H0 M0 B G0 H)
    (kn : ∀ A' σ' H', K.nx A' → RS c A' σ' H0 M0 B G0 H' → wSs X rest Dn σ' H') (kr : ∀ d, K.rt d → False) (kb : ∀ d, K.bk d → False) (kc : ∀ d, K.ct d → False) : wSs X (st :: rest) Dn σ H :=
  ⟨_, fun i => pss_cons (ps_w st i) (pss_w rest i), h H0 M0 B G0 σ H r _ ⟨kn, fun d v H' g => (kr d g).elim, fun d v H' g => (kb d g).elim, fun d v H' g => (kc d g).elim⟩⟩
def entryR (n : Nat) (v : V) (ws : List Vw) : List Sl := .raw v :: (ws.map slV ++ List.replicate (n - ws.length - 1) .no)
theorem rs_entryR {N : List Str} {v : V} {vs : List V} {ws : List Vw} {M : Addr → Prop} {B : Option Addr} {H : Hp} (hc : Hc M B H) (p : Paired (IsV c (hid M H) B) vs ws) : RS c (entryR N.length v ws) (L2.start N (v :: vs)) H M B (hid M H) H := by
  obtain ⟨F, r⟩ := rs_entry (N := N.tail) hc p
  have hl := Paired.len p
  have e : L2.start N (v :: vs) = some v :: L2.start N.tail vs := by
    unfold L2.start
    rw [List.map_cons, List.cons_append, List.length_cons, List.length_tail]
    have : N.length - (vs.length + 1) = N.length - 1 - vs.length := by omega
    rw [this]
  have e2 : entryR N.length v ws = .raw v :: entry N.tail.length ws := by
    unfold entryR entry
    rw [List.length_tail]
    have : N.length - ws.length - 1 = N.length - 1 - ws.length := by omega
    rw [this]
  rw [e, e2]
  have hM : ∀ b, MF M (fun i => match i with | 0 => [] | i + 1 => F i) b ↔ MF M F b := fun b => by
    refine ⟨fun h => h.elim .inl fun ⟨i, h⟩ => ?_, fun h => h.elim .inl fun ⟨i, h⟩ => .inr ⟨i + 1, h⟩⟩
    cases i with
    | zero => cases h
    | succ i => exact .inr ⟨i, h⟩
  have hE : Ex (hid (MF M F) H) (hid (MF M (fun i => match i with | 0 => [] | i + 1 => F i)) H) := hid_sub fun b z => (hM b).mp z
  refine ⟨fun i => match i with | 0 => [] | i + 1 => F i, by simp [r.len], fun i hi => ?_, fun i => ?_, fun i j b h1 h2 => ?_, fun i b h => ?_, ⟨fun b h => r.hc.ml b ((hM b).mp h), fun a h => (hM a).mpr (r.hc.bm a h), r.hc.st⟩, r.b0, r.ex, r.g0.trans hE, fun i a e => ?_⟩
  · cases i with
    | zero => rfl
    | succ i => exact r.fo i (by simpa using hi)
  · cases i with
    | zero => exact .nil
    | succ i => exact r.nd i
  · cases i with
    | zero => cases h1
    | succ i =>
      cases j with
      | zero => cases h2
      | succ j => rw [r.dj i j b h1 h2]
  · cases i with
    | zero => cases h
    | succ i => exact r.fr i b h
  · cases i with
    | zero => cases e; exact ⟨some v, rfl, rfl, rfl⟩
    | succ i =>
      obtain ⟨s, e1, e2⟩ := r.sl i a (by simpa using e)
      exact ⟨s, by simpa using e1, e2.mono hE fun _ _ _ q => q⟩
/-- self.f = e -/
theorem psFld {x f : Str} {e : Expr} {po p' pos : Pos} (i : Nat) (hN : X.N[i]? = some x := by rfl) (hv : ∀ j, Vis (X.X j).env.scope x := by first | exact fun _ => Or.inl rfl | exact fun _ => Or.inr (Or.inl rfl) | exact fun _ => Or.inr (Or.inr rfl)) (hd : (x == ("__debug__" : Str)) = false := by decide) (hcd : (x == ("__classdict__" : Str)) = false := by decide)
    (hs : ∀ j, swapsWith e (some (.Attribute (.Name x po) f p')) pos.line (X.X j).env = pure false := by intro _; rfl) (j : X.ι) : PS (X.X j) (.Assign [.Attribute (.Name x po) f p'] e pos) (sFld X.K (tVar i) (wE X e) f) := by
  rw [← X.hK j]
  exact ps_fld (pe_var (by rw [X.hN j]; exact hN) (hv j) hd hcd) (pe_w e j) (hs j)
/-! ### a Ratio is made -/
def spRI (c : Cl) : Sp := fun vs H Q _ => ∃ (p dx : Addr) (n d : Int), vs = [.ref p, .int n, .int d] ∧ d ≠ 0 ∧ d.natAbs < 2 ^ 9000 ∧ H p = some (.ins c.R dx []) ∧ ∀ H', (∀ b o, b ≠ p → H b = some o → H' b = some o) → H' p = some (.ins c.R dx (ratF (Rat.divInt n d).num (Rat.divInt n d).den)) → Q .non H'
structure RMk (c : Cl) (P : Program) (w : World) (K : PySem.W.Frag) (mg : Str → Option Value) (base : Heap) (k : Nat) : Prop where
  nm : mg "Ratio" = some (.ref c.R)
  ex : ∃ (f : Addr) (fd : FuncData), Mk K c.R f ∧ FnOk P w K mg base CX0 k f fd ["self", "n", "d"] (spRI c) ∧ Binds K fd ["self", "n", "d"] [] ∧ ∃ ds, Vals [.int 1] ds ∧ Binds K fd ["self", "n", "d"] ds
section
variable {p pos : Pos} {a b : Expr} {k : Nat}
theorem gv_ratio {n d : Int} (R : RMk c X.prog X.w X.K X.mg X.base k) (hr : Room (k + 1) X.A) (ha : GV c X a Γ (.int n)) (hb : GV c X b Γ (.int d)) (h0 : d ≠ 0) (h1 : d.natAbs < 2 ^ 9000) (hg : ∀ i, Gl (X.X i) "Ratio" := by intro _; rfl)
    (he : ∀ i, starEach [a, b] (X.X i).env = (false, eval a (X.X i).env) :: starEach [b] (X.X i).env := by intro _; rfl) (he2 : ∀ i, starEach [b] (X.X i).env = (false, eval b (X.X i).env) :: starEach [] (X.X i).env := by intro _; rfl)
    (hpl : ∀ i, (backTo pos (starEach [b] (X.X i).env)).any (·.1) = false := by intro _; rfl) : GV c X (.Call (.Name "Ratio" p) [a, b] [] pos) Γ (.rat (Rat.divInt n d)) := fun σ M B H rr hh Q q => by
  obtain ⟨f, fd, M1, F, hb0, _⟩ := R.ex
  refine ⟨_, fun i => pe_make (E := E0) (by rw [X.hK i]; exact M1) (fnAt F) (room_at hr) (hg i) (by rw [X.hmg i]; exact R.nm) (by rw [X.hK i]; exact hb0) (.nil : Vals [] []) passF (pa_w [a, b] i) (by decide) (he i) (hpl i), ?_⟩
  refine ga2 ha hb he he2 σ M B H rr hh _ fun ws vs H1 t p s => ?_
  subst p
  obtain ⟨v, u, rfl, sv, su⟩ := Paired.inv2 s
  rw [(show Is c _ v (.int n) from sv).intE, (show Is c _ u (.int d) from su).intE]
  intro x dx nx ndx nex
  refine ⟨x, dx, n, d, rfl, h0, h1, upd_same, fun H' k1 k2 => ⟨rfl, ?_⟩⟩
  have t2 : To B H1 H' := .of (fun b o e => k1 b o (ne_of_none e nx) (by rw [upd_ne (ne_of_none e nx), upd_ne (ne_of_none e ndx)]; exact e)) t.st
  exact q _ _ _ (t.trans t2) rfl (.rat (hid_some.mpr ⟨(t.hc hh).no nx, k2⟩))
theorem gv_ratio1 {n : Int} (R : RMk c X.prog X.w X.K X.mg X.base k) (hr : Room (k + 1) X.A) (ha : GV c X a Γ (.int n)) (hg : ∀ i, Gl (X.X i) "Ratio" := by intro _; rfl)
    (he : ∀ i, starEach [a] (X.X i).env = (false, eval a (X.X i).env) :: starEach [] (X.X i).env := by intro _; rfl)
    (hpl : ∀ i, (backTo pos (starEach [] (X.X i).env)).any (·.1) = false := by intro _; rfl) : GV c X (.Call (.Name "Ratio" p) [a] [] pos) Γ (.rat (n : Rat)) := fun σ M B H rr hh Q q => by
  obtain ⟨f, fd, M1, F, _, ds, hv, hb0⟩ := R.ex
  refine ⟨_, fun i => pe_make (E := E0) (by rw [X.hK i]; exact M1) (fnAt F) (room_at hr) (hg i) (by rw [X.hmg i]; exact R.nm) (by rw [X.hK i]; exact hb0) hv passF (pa_w [a] i) (by decide) (he i) (hpl i), ?_⟩
  refine ga1 ha he σ M B H rr hh _ fun ws vs H1 t p s => ?_
  subst p
  obtain ⟨v, rfl, sv⟩ := Paired.inv1 s
  rw [(show Is c _ v (.int n) from sv).intE]
  intro x dx nx ndx nex
  have e : (n : Rat) = Rat.divInt n 1 := by
    have := Rat.num_divInt_den (n : Rat)
    rw [Rat.num_intCast, Rat.den_intCast] at this
    exact this.symm
  refine ⟨x, dx, n, 1, rfl, by decide, Nat.one_lt_two_pow (by decide), upd_same, fun H' k1 k2 => ⟨rfl, ?_⟩⟩
  rw [← e] at k2
  have t2 : To B H1 H' := .of (fun b o e => k1 b o (ne_of_none e nx) (by rw [upd_ne (ne_of_none e nx), upd_ne (ne_of_none e ndx)]; exact e)) t.st
  exact q _ _ _ (t.trans t2) rfl (.rat (hid_some.mpr ⟨(t.hc hh).no nx, k2⟩))
end
/-! ### a Metric is made -/
def spMI (c : Cl) (Pr : List D → Nat → List D → Prop) : Sp := fun vs H Q _ => ∃ (M : Addr → Prop) (B : Option Addr) (p dx : Addr) (v : V) (ds : List D) (n : Nat) (rs : List D), vs = [.ref p, v] ∧ Hc M B H ∧ Is c (hid M H) v (.tup ds) ∧ Pr ds n rs ∧ H p = some (.ins c.M dx []) ∧
  ∀ (b : Addr) (H' : Hp), (∀ a o, a ≠ p → B ≠ some a → H a = some o → H' a = some o) → StB B H' → H' p = some (.ins c.M dx (metF n b)) → Is c (hid M H') (.ref b) (.tup rs) → Q .non H'
structure MMk (c : Cl) (P : Program) (w : World) (K : PySem.W.Frag) (mg : Str → Option Value) (base : Heap) (k : Nat) (Pr : List D → Nat → List D → Prop) : Prop where
  nm : mg "Metric" = some (.ref c.M)
  ex : ∃ (f : Addr) (fd : FuncData), Mk K c.M f ∧ FnOk P w K mg base CX0 k f fd ["self", "rows"] (spMI c Pr) ∧ Binds K fd ["self", "rows"] []
section
variable {p pos : Pos} {a : Expr} {k : Nat} {Pr : List D → Nat → List D → Prop}
theorem gv_metric {ds rs : List D} {n : Nat} (R : MMk c X.prog X.w X.K X.mg X.base k Pr) (hr : Room (k + 1) X.A) (ha : GV c X a Γ (.tup ds)) (hp : Pr ds n rs) (hg : ∀ i, Gl (X.X i) "Metric" := by intro _; rfl)
    (he : ∀ i, starEach [a] (X.X i).env = (false, eval a (X.X i).env) :: starEach [] (X.X i).env := by intro _; rfl)
    (hpl : ∀ i, (backTo pos (starEach [] (X.X i).env)).any (·.1) = false := by intro _; rfl) : GV c X (.Call (.Name "Metric" p) [a] [] pos) Γ (.met n rs) := fun σ M B H rr hh Q q => by
  obtain ⟨f, fd, M1, F, hb0⟩ := R.ex
  refine ⟨_, fun i => pe_make (E := E0) (by rw [X.hK i]; exact M1) (fnAt F) (room_at hr) (hg i) (by rw [X.hmg i]; exact R.nm) (by rw [X.hK i]; exact hb0) (.nil : Vals [] []) passF (pa_w [a] i) (by decide) (he i) (hpl i), ?_⟩
  refine ga1 ha he σ M B H rr hh _ fun ws vs H1 t p s => ?_
  subst p
  obtain ⟨v, rfl, sv⟩ := Paired.inv1 s
  intro x dx nx ndx nex
  have ex1 : Ex H1 (upd (upd H1 dx (.own x)) x (.ins c.M dx [])) := fun b o e => by
    rw [upd_ne (ne_of_none e nx), upd_ne (ne_of_none e ndx)]; exact e
  have t2 : To B H1 _ := .of ex1 t.st
  have hx : ¬ M x := (t.hc hh).no nx
  refine ⟨M, B, x, dx, v, ds, n, rs, rfl, t2.hc (t.hc hh), Is.mono (t2.hid hh.bm) sv, hp, upd_same, fun b H' k1 k2 k3 k4 => ⟨rfl, ?_⟩⟩
  exact q _ _ _ (t.trans ⟨fun a o n e => k1 a o (ne_of_none e nx) n (ex1 a o e), k2⟩) rfl (.met (hid_some.mpr ⟨hx, k3⟩) k4)
end
end K33
end
section
set_option Elab.async false
set_option linter.all false
set_option maxRecDepth 100000
/-! B15: lists by place; comprehensions over them -/
namespace K33
open PySem L2
variable {c : Cl} {X : Fm} {Γ : List Vw}
def rg {α : Type} (n : Nat) (f : Nat → α) : List α := (List.range n).map f
section
variable {α β : Type}
theorem rg_len {n : Nat} {f : Nat → α} : (rg n f).length = n := by simp [rg]
theorem rg_at {n i : Nat} {f : Nat → α} (h : i < n) : (rg n f)[i]? = some (f i) := by simp [rg, h]
theorem rg_get {n i : Nat} {f : Nat → α} {d : α} (e : (rg n f)[i]? = some d) : i < n ∧ d = f i := by
  have h : i < n := by have := (List.getElem?_eq_some_iff.mp e).1; rwa [rg_len] at this
  rw [rg_at h] at e
  exact ⟨h, (Option.some.inj e).symm⟩
theorem rg_congr {n : Nat} {f f' : Nat → α} (h : ∀ i, i < n → f i = f' i) : rg n f = rg n f' := List.map_congr_left fun i hi => h i (List.mem_range.mp hi)
theorem rg_map {n : Nat} {f : Nat → α} {h : α → β} : (rg n f).map h = rg n fun i => h (f i) := by simp [rg]
theorem rg_mem {n : Nat} {f : Nat → α} {d : α} (h : d ∈ rg n f) : ∃ i, i < n ∧ d = f i := by
  obtain ⟨i, hi, e⟩ := List.mem_map.mp h
  exact ⟨i, List.mem_range.mp hi, e.symm⟩
theorem rg_succ {n : Nat} {f : Nat → α} : rg (n + 1) f = rg n f ++ [f n] := by simp [rg, List.range_succ]
theorem rg_of (l : List α) (d : α) : l = rg l.length fun i => l.getD i d := by
  refine List.ext_getElem? fun i => ?_
  by_cases h : i < l.length
  · rw [rg_at h]; simp [h]
  · rw [List.getElem?_eq_none (by omega), List.getElem?_eq_none (by rw [rg_len]; omega)]
theorem rg_set {n i : Nat} {f : Nat → α} {v : α} : (rg n f).set i v = rg n fun j => if j = i then v else f j := by
  refine List.ext_getElem? fun j => ?_
  by_cases h : j < n
  · rw [rg_at h, List.getElem?_set]
    by_cases e : i = j
    · subst e; simp [rg_len, h]
    · rw [if_neg e, rg_at h, if_neg (fun z => e z.symm)]
  · rw [List.getElem?_eq_none (by simp [rg_len]; omega), List.getElem?_eq_none (by rw [rg_len]; omega)]
theorem rg_append {n m : Nat} {f f' : Nat → α} : rg n f ++ rg m f' = rg (n + m) fun i => if i < n then f i else f' (i - n) := by
  refine List.ext_getElem? fun j => ?_
  by_cases h : j < n
  · rw [List.getElem?_append_left (by rw [rg_len]; exact h), rg_at h, rg_at (by omega), if_pos h]
  · rw [List.getElem?_append_right (by rw [rg_len]; omega), rg_len]
    by_cases h2 : j < n + m
    · rw [rg_at (by omega), rg_at h2, if_neg h]
    · rw [List.getElem?_eq_none (by rw [rg_len]; omega), List.getElem?_eq_none (by rw [rg_len]; omega)]
end
section
variable {tg l : Expr}
theorem GI.imp {n : Nat} {it : Expr} {Y Y' : Nat → D → Prop} (h : GI c X tg it Γ n Y) (i : ∀ j d, j < n → Y j d → Y' j d) : GI c X tg it Γ n Y' := fun σ M B H r hc R k =>
  h σ M B H r hc R fun J H1 G Yh t W hG hY => k J H1 G Yh t W hG fun j x H2 H3 M' hi ex st nm bm y => by
    obtain ⟨t2, d, yd, sd⟩ := hY j x H2 H3 M' hi ex st nm bm y
    exact ⟨t2, d, i j d hi yd, sd⟩
theorem gi_tupR {n : Nat} {f : Nat → D} (h : GV c X l Γ (.tup (rg n f))) : GI c X tg l Γ n (fun i d => d = f i) := by
  have z := gi_tup (tg := tg) h
  rw [rg_len] at z
  exact z.imp fun j d _ e => (rg_get e).2
theorem gi_listR {n : Nat} {f : Nat → D} (h : GV c X l Γ (.lst (rg n f))) : GI c X tg l Γ n (fun i d => d = f i) := by
  have z := gi_list (tg := tg) h
  rw [rg_len] at z
  exact z.imp fun j d _ e => (rg_get e).2
theorem gi_zipTR {n : Nat} {f1 f2 : Nat → D} {e1 e2 : Expr} {p pos tpos : Pos} {elts : List Expr} {kk : Nat} (hm : X.mg "zip" = none) (ha : GV c X e1 Γ (.tup (rg n f1))) (hb : GV c X e2 Γ (.tup (rg n f2))) (hg : ∀ i, Gl (X.X i) "zip" := by intro _; rfl)
    (hs : ∀ i, starEach [e1, e2] (X.X i).env = (false, eval e1 (X.X i).env) :: starEach [e2] (X.X i).env := by intro _; rfl) (hs2 : ∀ i, starEach [e2] (X.X i).env = (false, eval e2 (X.X i).env) :: starEach [] (X.X i).env := by intro _; rfl)
    (hpl : ∀ i, (backTo pos (starEach [e2] (X.X i).env)).any (·.1) = false := by intro _; rfl) :
    GI c X (.Tuple elts kk tpos) (.Call (.Name "zip" p) [e1, e2] [] pos) Γ n (fun i d => d = .tup [f1 i, f2 i]) := by
  have z := gi_zipT (p := p) (elts := elts) (kk := kk) (tpos := tpos) hm ha hb hg hs hs2 hpl
  rw [rg_len, rg_len, Nat.min_self] at z
  exact z.imp fun j d _ ⟨d1, d2, e, q1, q2⟩ => by rw [e, (rg_get q1).2, (rg_get q2).2]
theorem gi_zipLR {n : Nat} {f1 f2 : Nat → D} {e1 e2 : Expr} {p pos tpos : Pos} {elts : List Expr} {kk : Nat} (hm : X.mg "zip" = none) (ha : GV c X e1 Γ (.lst (rg n f1))) (hb : GV c X e2 Γ (.lst (rg n f2))) (hg : ∀ i, Gl (X.X i) "zip" := by intro _; rfl)
    (hs : ∀ i, starEach [e1, e2] (X.X i).env = (false, eval e1 (X.X i).env) :: starEach [e2] (X.X i).env := by intro _; rfl) (hs2 : ∀ i, starEach [e2] (X.X i).env = (false, eval e2 (X.X i).env) :: starEach [] (X.X i).env := by intro _; rfl)
    (hpl : ∀ i, (backTo pos (starEach [e2] (X.X i).env)).any (·.1) = false := by intro _; rfl) :
    GI c X (.Tuple elts kk tpos) (.Call (.Name "zip" p) [e1, e2] [] pos) Γ n (fun i d => d = .tup [f1 i, f2 i]) := by
  have z := gi_zipL (p := p) (elts := elts) (kk := kk) (tpos := tpos) hm ha hb hg hs hs2 hpl
  rw [rg_len, rg_len, Nat.min_self] at z
  exact z.imp fun j d _ ⟨d1, d2, e, q1, q2⟩ => by rw [e, (rg_get q1).2, (rg_get q2).2]
end
/-! ### small naturals -/
section
variable {tg a b : Expr} {pos p : Pos}
theorem gv_succ {x : Nat} {pc : Pos} {kc : Nat} (ha : GV c X a Γ (.int (x : Int))) : GV c X (.BinOp a .Add (.Constant (.int 1) kc pc) pos) Γ (.int ((x + 1 : Nat) : Int)) := (gv_add ha gv_int).eq (by simp)
theorem gv_addN {x y : Nat} (ha : GV c X a Γ (.int (x : Int))) (hb : GV c X b Γ (.int (y : Int))) : GV c X (.BinOp a .Add b pos) Γ (.int ((x + y : Nat) : Int)) := (gv_add ha hb).eq (by simp)
theorem gi_range2N {lo hi : Nat} (hm : X.mg "range" = none) (ha : GV c X a Γ (.int (lo : Int))) (hb : GV c X b Γ (.int (hi : Int))) (h1 : lo ≤ 1000000) (h2 : hi ≤ 1000000) (hg : ∀ i, Gl (X.X i) "range" := by intro _; rfl)
    (hs : ∀ i, starEach [a, b] (X.X i).env = [(false, eval a (X.X i).env), (false, eval b (X.X i).env)] := by intro _; rfl) (hs3 : ∀ i, starEach [b] (X.X i).env = [(false, eval b (X.X i).env)] := by intro _; rfl)
    (he : ∀ i, starEach [a, b] (X.X i).env = (false, eval a (X.X i).env) :: starEach [b] (X.X i).env := by intro _; rfl) (he2 : ∀ i, starEach [b] (X.X i).env = (false, eval b (X.X i).env) :: starEach [] (X.X i).env := by intro _; rfl) :
    GI c X tg (.Call (.Name "range" p) [a, b] [] pos) Γ (hi - lo) (fun i d => d = .int ((lo + i : Nat) : Int)) := by
  have z := gi_range2 (p := p) (pos := pos) (tg := tg) hm ha hb (by omega) hg hs hs3 he he2
  have e : ((hi : Int) - (lo : Int)).toNat = hi - lo := by omega
  rw [e] at z
  exact z.imp fun j d _ q => by rw [q]; simp
theorem gv_nil {pos : Pos} : GV c X (.List [] pos) Γ (.lst []) := (gl_lst (ds := []) ga_nil).gv
end
section
variable {elt tg it : Expr} {ifs : List Expr} {scope : Scope} {pos : Pos}
theorem gc_mapR {own : List (Str × Nat)} {n : Nat} {yf : Nat → D} (h : Nat → D) {Γ' : Nat → List Vw} {js : List Nat} (hi : GI c X tg it Γ n (fun i d => d = yf i)) (hn : n ≤ 100000)
    (hg : ∀ i, i < n → GG c (X.blk scope) tg (wipeV Γ (own.map (·.2))) (yf i) (Γ' i) js) (he : ∀ i, i < n → GV c (X.blk scope) elt (Γ' i) (h i)) (hj : ∀ j, j ∈ js → j ∈ own.map (·.2) := by decide) : GC c X elt tg it [] scope own Γ (fun x => x = rg n h) :=
  gc_map h hi (fun _ _ _ e => e) hn hg he hj
theorem gl_map (own : List (Str × Nat)) {n : Nat} {yf : Nat → D} (h : Nat → D) {Γ' : Nat → List Vw} {js : List Nat} (hi : GI c X tg it Γ n (fun i d => d = yf i)) (hn : n ≤ 100000)
    (hg : ∀ i, i < n → GG c (X.blk scope) tg (wipeV Γ (own.map (·.2))) (yf i) (Γ' i) js) (he : ∀ i, i < n → GV c (X.blk scope) elt (Γ' i) (h i)) (hj : ∀ j, j ∈ js → j ∈ own.map (·.2) := by decide)
    (ok : ∀ i, BlkOk X.N (X.X i).env.scope scope own := by exact fun _ => blkOk_by (by kernel_rfl)) (hs : ∀ i x, foldedSetIterable it (X.X i).env x = pure x := by intro _ _; rfl) : GL c X (.ListComp elt [⟨tg, it, [], 0⟩] scope pos) Γ (fun x => x = rg n h) :=
  gl_of_gc (gc_mapR h hi hn hg he hj) ok hs
theorem gv_map (own : List (Str × Nat)) {n : Nat} {yf : Nat → D} (h : Nat → D) {Γ' : Nat → List Vw} {js : List Nat} (hi : GI c X tg it Γ n (fun i d => d = yf i)) (hn : n ≤ 100000)
    (hg : ∀ i, i < n → GG c (X.blk scope) tg (wipeV Γ (own.map (·.2))) (yf i) (Γ' i) js) (he : ∀ i, i < n → GV c (X.blk scope) elt (Γ' i) (h i)) (hj : ∀ j, j ∈ js → j ∈ own.map (·.2) := by decide)
    (ok : ∀ i, BlkOk X.N (X.X i).env.scope scope own := by exact fun _ => blkOk_by (by kernel_rfl)) (hs : ∀ i x, foldedSetIterable it (X.X i).env x = pure x := by intro _ _; rfl) : GV c X (.ListComp elt [⟨tg, it, [], 0⟩] scope pos) Γ (.lst (rg n h)) :=
  (gl_map own h hi hn hg he hj ok hs).gv
theorem gc_fnR {own : List (Str × Nat)} {n : Nat} {yf : Nat → D} (b : Nat → Bool) (h : Nat → D) {Γ' : Nat → List Vw} {js : List Nat} (hi : GI c X tg it Γ n (fun i d => d = yf i)) (hn : n ≤ 100000)
    (hg : ∀ i, i < n → GG c (X.blk scope) tg (wipeV Γ (own.map (·.2))) (yf i) (Γ' i) js) (ht : ∀ i, i < n → GTs c (X.blk scope) ifs (Γ' i) (b i)) (he : ∀ i, i < n → b i = true → GV c (X.blk scope) elt (Γ' i) (h i)) (hj : ∀ j, j ∈ js → j ∈ own.map (·.2) := by decide) :
    GC c X elt tg it ifs scope own Γ (fun x => x = ((List.range n).filter b).map h) := gc_fn b h hi (fun _ _ _ e => e) hn hg ht he hj
theorem gv_fn (own : List (Str × Nat)) {n : Nat} {yf : Nat → D} (b : Nat → Bool) (h : Nat → D) {Γ' : Nat → List Vw} {js : List Nat} (hi : GI c X tg it Γ n (fun i d => d = yf i)) (hn : n ≤ 100000)
    (hg : ∀ i, i < n → GG c (X.blk scope) tg (wipeV Γ (own.map (·.2))) (yf i) (Γ' i) js) (ht : ∀ i, i < n → GTs c (X.blk scope) ifs (Γ' i) (b i)) (he : ∀ i, i < n → b i = true → GV c (X.blk scope) elt (Γ' i) (h i)) (hj : ∀ j, j ∈ js → j ∈ own.map (·.2) := by decide)
    (ok : ∀ i, BlkOk X.N (X.X i).env.scope scope own := by exact fun _ => blkOk_by (by kernel_rfl)) (hs : ∀ i x, foldedSetIterable it (X.X i).env x = pure x := by intro _ _; rfl) : GV c X (.ListComp elt [⟨tg, it, ifs, 0⟩] scope pos) Γ (.lst (((List.range n).filter b).map h)) :=
  (gl_of_gc (gc_fnR b h hi hn hg ht he hj) ok hs).gv
end
end K33
end
section
set_option Elab.async false
set_option linter.all false
set_option maxRecDepth 100000
/-! B16: expression statements; down-ranges; comprehensions over any list -/
namespace K33
open PySem L2
variable {c : Cl} {X : Fm} {Γ : List Vw}
theorem ge_app {e : Expr} {P : D → Prop} {σ : L2.St} {M : Addr → Prop} {B : Option Addr} {H : Hp} {Q : VK} (r : Rep c Γ σ (hid M H) B) (hc : Hc M B H) (h : GE c X e Γ P) (k : ∀ d v H', To B H H' → P d → Is c (hid M H') v d → Q v H') : wE X e σ H Q := h σ M B H r hc Q k
theorem g1_expr {A : List Sl} {K : Kk} {e : Expr} {pos : Pos} {P : D → Prop} (h : GE c X e (A.map vwF) P) (k : K.nx A) (hs : ∀ i, swapsWith e none pos.line (X.X i).env = pure false := by intro _; rfl) : G1 c X (.Expr e pos) A K := fun H0 M0 B G0 σ H ⟨F, r⟩ Dn q =>
  ⟨_, fun i => ps_expr (pe_w e i) (hs i), h σ _ B H r.vF r.hc0 _ fun d v H1 t p s => q.nx A σ H1 k ⟨F, r.to t⟩⟩
section
variable {tg a b l : Expr} {pos p : Pos}
theorem ga3 {e1 e2 e3 : Expr} {d1 d2 d3 : D} (h1 : GV c X e1 Γ d1) (h2 : GV c X e2 Γ d2) (h3 : GV c X e3 Γ d3) (q1 : ∀ i, starEach [e1, e2, e3] (X.X i).env = (false, eval e1 (X.X i).env) :: starEach [e2, e3] (X.X i).env := by intro _; rfl) (q2 : ∀ i, starEach [e2, e3] (X.X i).env = (false, eval e2 (X.X i).env) :: starEach [e3] (X.X i).env := by intro _; rfl)
    (q3 : ∀ i, starEach [e3] (X.X i).env = (false, eval e3 (X.X i).env) :: starEach [] (X.X i).env := by intro _; rfl) : GA c X [e1, e2, e3] Γ (fun z => z = [.da d1, .da d2, .da d3]) := ga_consV h1 (ga_consV h2 (ga_consV h3 ga_nil q3) q2) q1
theorem Paired.inv3 {α β : Type} {F : α → β → Prop} {l : List α} {b b' b'' : β} (p : Paired F l [b, b', b'']) : ∃ a a' a'', l = [a, a', a''] ∧ F a b ∧ F a' b' ∧ F a'' b'' := by
  cases p with
  | cons h t =>
    obtain ⟨a', a'', rfl, h', h''⟩ := Paired.inv2 t
    exact ⟨_, _, _, rfl, h, h', h''⟩
/-- range(n, 0, -1) -/
theorem gi_down {e1 e2 e3 : Expr} {n : Nat} (hm : X.mg "range" = none) (h1 : GV c X e1 Γ (.int (n : Int))) (h2 : GV c X e2 Γ (.int 0)) (h3 : GV c X e3 Γ (.int (-1))) (hn : n ≤ 1000000) (hg : ∀ i, Gl (X.X i) "range" := by intro _; rfl)
    (q1 : ∀ i, starEach [e1, e2, e3] (X.X i).env = (false, eval e1 (X.X i).env) :: starEach [e2, e3] (X.X i).env := by intro _; rfl) (q2 : ∀ i, starEach [e2, e3] (X.X i).env = (false, eval e2 (X.X i).env) :: starEach [e3] (X.X i).env := by intro _; rfl)
    (q3 : ∀ i, starEach [e3] (X.X i).env = (false, eval e3 (X.X i).env) :: starEach [] (X.X i).env := by intro _; rfl) (hpl : ∀ i, (backTo pos (starEach [e2, e3] (X.X i).env)).any (·.1) = false := by intro _; rfl) :
    GI c X tg (.Call (.Name "range" p) [e1, e2, e3] [] pos) Γ n (fun i d => d = .int ((n - i : Nat) : Int)) := fun σ M B H r hc R k => by
  refine ⟨_, fun i => pi_range3 (hg i) (by rw [X.hmg i]; exact hm) (pa_w [e1, e2, e3] i) (q1 i) (hpl i), ?_⟩
  refine ga3 h1 h2 h3 q1 q2 q3 σ M B H r hc _ fun ws vs H1 t p s => ?_
  subst p
  obtain ⟨v, u, w, rfl, sv, su, sw⟩ := Paired.inv3 s
  rw [(show Is c _ v (.int n) from sv).intE, (show Is c _ u (.int 0) from su).intE, (show Is c _ w (.int (-1)) from sw).intE]
  have e : ((n : Int) - 0).toNat = n := by omega
  refine ⟨n, 0, -1, n, rfl, by have := RgC.neg (i := n) (j := 0) (by omega) (by omega) (by decide) (by decide); rwa [e] at this, ?_⟩
  refine k _ H1 _ _ t walk_rangeC (fun _ _ => trivial) fun i x H2 H3 M' hi ex st nm bm y => ?_
  obtain ⟨rfl, rfl⟩ := y
  refine ⟨.refl st, _, rfl, ?_⟩
  have e2 : (n : Int) + (i : Nat) * -1 = ((n - i : Nat) : Int) := by omega
  show Is c _ (V.int ((n : Int) + (i : Nat) * -1)) _
  rw [e2]
  exact .int _
theorem gi_listL {α : Type} {l0 : List α} {e : α → D} (h : GV c X l Γ (.lst (l0.map e))) : GI c X tg l Γ l0.length (fun i d => ∃ x, l0[i]? = some x ∧ d = e x) := by
  have z := gi_list (tg := tg) h
  rw [List.length_map] at z
  refine z.imp fun j d _ q => ?_
  rw [List.getElem?_map] at q
  cases w : l0[j]? with
  | none => rw [w] at q; cases q
  | some x => rw [w] at q; cases q; exact ⟨x, rfl, rfl⟩
theorem gi_tupL {α : Type} {l0 : List α} {e : α → D} (h : GV c X l Γ (.tup (l0.map e))) : GI c X tg l Γ l0.length (fun i d => ∃ x, l0[i]? = some x ∧ d = e x) := by
  have z := gi_tup (tg := tg) h
  rw [List.length_map] at z
  refine z.imp fun j d _ q => ?_
  rw [List.getElem?_map] at q
  cases w : l0[j]? with
  | none => rw [w] at q; cases q
  | some x => rw [w] at q; cases q; exact ⟨x, rfl, rfl⟩
theorem gi_zipTL {α β : Type} {l1 : List α} {l2 : List β} {f1 : α → D} {f2 : β → D} {e1 e2 : Expr} {p pos tpos : Pos} {elts : List Expr} {kk : Nat} (hm : X.mg "zip" = none) (ha : GV c X e1 Γ (.tup (l1.map f1))) (hb : GV c X e2 Γ (.tup (l2.map f2))) (hg : ∀ i, Gl (X.X i) "zip" := by intro _; rfl)
    (hs : ∀ i, starEach [e1, e2] (X.X i).env = (false, eval e1 (X.X i).env) :: starEach [e2] (X.X i).env := by intro _; rfl) (hs2 : ∀ i, starEach [e2] (X.X i).env = (false, eval e2 (X.X i).env) :: starEach [] (X.X i).env := by intro _; rfl)
    (hpl : ∀ i, (backTo pos (starEach [e2] (X.X i).env)).any (·.1) = false := by intro _; rfl) :
    GI c X (.Tuple elts kk tpos) (.Call (.Name "zip" p) [e1, e2] [] pos) Γ (l1.zip l2).length (fun i d => ∃ x, (l1.zip l2)[i]? = some x ∧ d = .tup [f1 x.1, f2 x.2]) := by
  have z := gi_zipT (p := p) (elts := elts) (kk := kk) (tpos := tpos) hm ha hb hg hs hs2 hpl
  rw [List.length_map, List.length_map, ← List.length_zip] at z
  refine z.imp fun j d _ ⟨d1, d2, e, q1, q2⟩ => ?_
  rw [List.getElem?_map] at q1 q2
  cases w1 : l1[j]? with
  | none => rw [w1] at q1; cases q1
  | some x1 =>
    cases w2 : l2[j]? with
    | none => rw [w2] at q2; cases q2
    | some x2 =>
      rw [w1] at q1; rw [w2] at q2; cases q1; cases q2
      exact ⟨(x1, x2), by rw [List.getElem?_zip_eq_some]; exact ⟨w1, w2⟩, e⟩
end
section
variable {elt tg it : Expr} {ifs : List Expr} {scope : Scope} {pos : Pos}
/-- a comprehension over the places of a list: item, test by the list's thing -/
theorem gc_mapL {α : Type} {own : List (Str × Nat)} {l0 : List α} {e : α → D} (b : α → Bool) (h : α → D) {Γ' : α → List Vw} {js : List Nat} (hi : GI c X tg it Γ l0.length (fun i d => ∃ x, l0[i]? = some x ∧ d = e x)) (hn : l0.length ≤ 100000)
    (hg : ∀ x, x ∈ l0 → GG c (X.blk scope) tg (wipeV Γ (own.map (·.2))) (e x) (Γ' x) js) (ht : ∀ x, x ∈ l0 → GTs c (X.blk scope) ifs (Γ' x) (b x)) (he : ∀ x, x ∈ l0 → b x = true → GV c (X.blk scope) elt (Γ' x) (h x)) (hj : ∀ j, j ∈ js → j ∈ own.map (·.2) := by decide) :
    GC c X elt tg it ifs scope own Γ (fun z => z = (l0.filter b).map h) := by
  match hl : l0 with
  | [] =>
    exact gc_inv (fun _ => true) (fun i ds => ds = []) (Pd := fun _ _ => False) (Γ' := fun _ _ => Γ) hi (by simp) hj (fun i d hi => by simp at hi) (fun i d hi => by simp at hi) (fun i d hi => by simp at hi) rfl (fun i ds d hi => by simp at hi) (fun i ds hi => by simp at hi) (fun ds e => by rw [e]; rfl)
  | x0 :: l1 =>
    have gd : ∀ i x, (x0 :: l1)[i]? = some x → (x0 :: l1).getD i x0 = x := fun i x q => by rw [List.getD_eq_getElem?_getD, q]; rfl
    have gm : ∀ i, i < (x0 :: l1).length → (x0 :: l1).getD i x0 ∈ (x0 :: l1) := fun i hi => by
      rw [List.getD_eq_getElem?_getD, List.getElem?_eq_getElem hi]
      exact List.getElem_mem hi
    refine gc_inv (fun i => b ((x0 :: l1).getD i x0)) (fun i ds => ds = (((x0 :: l1).take i).filter b).map h) (Pd := fun i d => d = h ((x0 :: l1).getD i x0)) (Γ' := fun i _ => Γ' ((x0 :: l1).getD i x0)) hi hn hj ?_ (fun i d hi _ => ht _ (gm i hi)) (fun i d hi _ hb => he _ (gm i hi) hb) rfl ?_ ?_ ?_
    · rintro i d hi ⟨x, hx, rfl⟩
      rw [gd i x hx]
      exact hg x (List.mem_of_getElem? hx)
    · intro i ds d hi hb e1 e2
      have : (x0 :: l1).take (i + 1) = (x0 :: l1).take i ++ [(x0 :: l1).getD i x0] := by
        rw [List.take_add_one, List.getD_eq_getElem?_getD, List.getElem?_eq_getElem hi]; rfl
      rw [this, e1, e2, List.filter_append, List.map_append, List.filter_cons_of_pos hb]
      rfl
    · intro i ds hi hb e1
      have : (x0 :: l1).take (i + 1) = (x0 :: l1).take i ++ [(x0 :: l1).getD i x0] := by
        rw [List.take_add_one, List.getD_eq_getElem?_getD, List.getElem?_eq_getElem hi]; rfl
      rw [this, e1, List.filter_append, List.map_append, List.filter_cons_of_neg (by rw [hb]; simp)]
      simp
    · intro ds e1
      rw [e1, List.take_length]
theorem gv_mapLF {α : Type} (own : List (Str × Nat)) {l0 : List α} {e : α → D} (b : α → Bool) (h : α → D) {Γ' : α → List Vw} {js : List Nat} (hi : GI c X tg it Γ l0.length (fun i d => ∃ x, l0[i]? = some x ∧ d = e x)) (hn : l0.length ≤ 100000)
    (hg : ∀ x, x ∈ l0 → GG c (X.blk scope) tg (wipeV Γ (own.map (·.2))) (e x) (Γ' x) js) (ht : ∀ x, x ∈ l0 → GTs c (X.blk scope) ifs (Γ' x) (b x)) (he : ∀ x, x ∈ l0 → b x = true → GV c (X.blk scope) elt (Γ' x) (h x)) (hj : ∀ j, j ∈ js → j ∈ own.map (·.2) := by decide)
    (ok : ∀ i, BlkOk X.N (X.X i).env.scope scope own := by exact fun _ => blkOk_by (by kernel_rfl)) (hs : ∀ i x, foldedSetIterable it (X.X i).env x = pure x := by intro _ _; rfl) : GV c X (.ListComp elt [⟨tg, it, ifs, 0⟩] scope pos) Γ (.lst ((l0.filter b).map h)) :=
  (gl_of_gc (gc_mapL b h hi hn hg ht he hj) ok hs).gv
theorem gl_mapL {α : Type} (own : List (Str × Nat)) {l0 : List α} {e : α → D} (h : α → D) {Γ' : α → List Vw} {js : List Nat} (hi : GI c X tg it Γ l0.length (fun i d => ∃ x, l0[i]? = some x ∧ d = e x)) (hn : l0.length ≤ 100000)
    (hg : ∀ x, x ∈ l0 → GG c (X.blk scope) tg (wipeV Γ (own.map (·.2))) (e x) (Γ' x) js) (he : ∀ x, x ∈ l0 → GV c (X.blk scope) elt (Γ' x) (h x)) (hj : ∀ j, j ∈ js → j ∈ own.map (·.2) := by decide)
    (ok : ∀ i, BlkOk X.N (X.X i).env.scope scope own := by exact fun _ => blkOk_by (by kernel_rfl)) (hs : ∀ i x, foldedSetIterable it (X.X i).env x = pure x := by intro _ _; rfl) : GL c X (.ListComp elt [⟨tg, it, [], 0⟩] scope pos) Γ (fun x => x = l0.map h) := by
  have z := gl_of_gc (pos := pos) (gc_mapL (c := c) (ifs := []) (fun _ => true) h hi hn hg (fun _ _ => gts_nil) (fun x hx _ => he x hx) hj) ok hs
  rwa [List.filter_eq_self.mpr (fun _ _ => rfl)] at z
theorem gv_mapL {α : Type} (own : List (Str × Nat)) {l0 : List α} {e : α → D} (h : α → D) {Γ' : α → List Vw} {js : List Nat} (hi : GI c X tg it Γ l0.length (fun i d => ∃ x, l0[i]? = some x ∧ d = e x)) (hn : l0.length ≤ 100000)
    (hg : ∀ x, x ∈ l0 → GG c (X.blk scope) tg (wipeV Γ (own.map (·.2))) (e x) (Γ' x) js) (he : ∀ x, x ∈ l0 → GV c (X.blk scope) elt (Γ' x) (h x)) (hj : ∀ j, j ∈ js → j ∈ own.map (·.2) := by decide)
    (ok : ∀ i, BlkOk X.N (X.X i).env.scope scope own := by exact fun _ => blkOk_by (by kernel_rfl)) (hs : ∀ i x, foldedSetIterable it (X.X i).env x = pure x := by intro _ _; rfl) : GV c X (.ListComp elt [⟨tg, it, [], 0⟩] scope pos) Γ (.lst (l0.map h)) := by
  have z := gv_mapLF (c := c) (ifs := []) (pos := pos) own (fun _ => true) h hi hn hg (fun _ _ => gts_nil) (fun x hx _ => he x hx) hj ok hs
  rwa [List.filter_eq_self.mpr (fun _ _ => rfl)] at z
end
theorem gl_lr {e : Expr} {P : List D → Prop} (h : GL c X e Γ P) : LR c (wE X e) Γ P := h
/-! ### y = [comp] -/
section
variable {A : List Sl} {K : Kk} {x : Str} {elt tg it : Expr} {ifs : List Expr} {scope : Scope} {pos pos' spos : Pos}
theorem g1_asgC (i : Nat) (own : List (Str × Nat)) {P : List D → Prop} (h : GC c X elt tg it ifs scope own (A.map vw0) P) (k : ∀ ds, P ds → K.nx (A.set i (.da (.lst ds))))
    (hps : ∀ j, PS (X.X j) (.Assign [.Name x pos] (.ListComp elt [⟨tg, it, ifs, 0⟩] scope pos') spos) (tAsg (tLcW X elt tg it ifs scope own) (gName i)) := by exact psC _) : G1 c X (.Assign [.Name x pos] (.ListComp elt [⟨tg, it, ifs, 0⟩] scope pos') spos) A K :=
  g1_asgE hps (LR.er (P := P) h) fun d ⟨ds, e, p⟩ => by rw [e]; exact k ds p
theorem g1_asgCM (i : Nat) (own : List (Str × Nat)) {P : List D → Prop} (h : GC c X elt tg it ifs scope own (A.map vw0) P) (k : ∀ ds, P ds → K.nx (A.set i (.mu ds)))
    (hps : ∀ j, PS (X.X j) (.Assign [.Name x pos] (.ListComp elt [⟨tg, it, ifs, 0⟩] scope pos') spos) (tAsg (tLcW X elt tg it ifs scope own) (gName i)) := by exact psC _) : G1 c X (.Assign [.Name x pos] (.ListComp elt [⟨tg, it, ifs, 0⟩] scope pos') spos) A K :=
  g1_asgL hps (P := P) h k
theorem g1_asgCF (i : Nat) (own : List (Str × Nat)) {P : List D → Prop} (h : GC c X elt tg it ifs scope own (A.map vwF) P) (k : ∀ ds, P ds → (∀ d, d ∈ ds → LF d) ∧ K.nx (A.set i (.mu ds)))
    (hps : ∀ j, PS (X.X j) (.Assign [.Name x pos] (.ListComp elt [⟨tg, it, ifs, 0⟩] scope pos') spos) (tAsg (tLcW X elt tg it ifs scope own) (gName i)) := by exact psC _) : G1 c X (.Assign [.Name x pos] (.ListComp elt [⟨tg, it, ifs, 0⟩] scope pos') spos) A K :=
  g1_asgLF hps (P := P) h k
end
end K33
end
section
set_option Elab.async false
set_option linter.all false
set_option maxRecDepth 100000
/-! B17: extend by a tuple; pop -/
namespace K33
open PySem PySem.Spec PyProof.Rows L2 PySem.AutoSeq1
variable {c : Cl} {X : Fm}
theorem extend_tupX (l : Addr) (items : Array Value) (n : Nat) (b : Addr) (items2 : Array Value) (n2 : Nat) (od : Option Addr) (sl : Array (Option Value)) (hs0 : ¬(!items.isEmpty && Builtin.List.listTooLong (items.size + items2.size)) = true) (hs1 : items.size ≤ sizeLine) (hs2 : items.size + items2.size ≤ sizeLine + 1) :
    Meets (Builtin.«list.extend» ⟨[.ref l, .ref b], []⟩) (fun _ R s => s.heap.get? l = some { cls := .type "list", dict := none, data := .seq items n, slots := #[] } ∧ s.heap.get? b = some { cls := .type "tuple", dict := od, data := .seq items2 n2, slots := sl } ∧ R (.ok (.ret Value.none)) { s with heap := s.heap.update l (Obj.mapSeq fun x => x ++ items2), toks := s.toks }) :=
  .of_wp fun prog w A R s h => by
    obtain ⟨hp, g, d, tk, os⟩ := s; obtain ⟨hl, hb, h⟩ := h; have f1 := idx_int; have f2 := AutoSeq1.sub_tuple_tuple; have f3 := AutoSeq1.sub_list_list; have f4 := AutoSeq1.sub_tuple_list; have f5 := AutoSeq1.sub_list_tuple;
    have hz' : (items ++ items2).size ≤ sizeLine + 1 := by rw [Array.size_append]; exact hs2
    wp_walk using (wpAny_updateSeq hl rfl (hz := hs1) (_hz' := hz')), wpAny_loadPart' hl, wpAny_loadPart' hb; exact ⟨_, rfl, h⟩
def rExtT : V → List V → Hp → VK → Prop := fun x vs H Q => ∃ l b xs zs, x = .ref l ∧ vs = [.ref b] ∧ H l = some (.lst xs) ∧ H b = some (.tup zs) ∧ xs.length + zs.length ≤ sizeLine ∧ Q .non (upd H l (.lst (xs ++ zs)))
theorem mt_extT {Y : Cx} : MtR Y "list.extend" rExtT := by
  intro pins s σ H x vs v us Q I rx rv h
  obtain ⟨l, b, xs, zs, rfl, rfl, hH, hB, hz, q⟩ := h
  cases rx
  obtain ⟨u, rfl, ru⟩ := rv.one
  cases ru
  obtain ⟨z, its, n, r, hl, e⟩ := I.lstM hH
  obtain ⟨_, its2, r2, o, e2, c2, n2, d2⟩ := (show ObjOk Y.prog Y.w H s.heap b (.tup zs) from I.hok b _ hB)
  have hl2 := r2.length
  obtain ⟨oc, od, dt, sl⟩ := o
  simp only at c2 d2
  subst c2 d2
  have hsz : its.toArray.size + its2.toArray.size ≤ sizeLine := by rw [List.size_toArray, List.size_toArray]; omega
  have hlong : ¬ (!its.toArray.isEmpty && Builtin.List.listTooLong (its.toArray.size + its2.toArray.size)) = true := by
    rw [notLongL hsz, Bool.and_false]
    exact Bool.false_ne_true
  refine call_meets F.slot_list_extend ⟨_, e, rfl⟩ F.entry_list_extend (F.args_list_extend_2 _ _)
    (extend_tupX l its.toArray n b its2.toArray n2 od sl hlong (by rw [List.size_toArray]; omega) (by omega)) ⟨e, e2, ?_⟩
  refine ⟨.non, _, I.lset (its' := its ++ its2) hH e (by simp) (r.append r2) ?_, rfl, q⟩
  rw [List.length_append]
  omega
section
variable {A : List Sl} {K : Kk} {x : Str} {e : Expr} {p apos cpos pos : Pos}
theorem g1_extend (i : Nat) {ds es : List D} (hA : A[i]? = some (.mu ds)) (he : GV c X e (A.map vw0) (.tup es)) (hl : ds.length + es.length ≤ 100000) (k : K.nx (A.set i (.mu (ds ++ es))))
    (hN : X.N[i]? = some x := by rfl) (hv : ∀ j, Vis (X.X j).env.scope x := by first | exact fun _ => Or.inl rfl | exact fun _ => Or.inr (Or.inl rfl) | exact fun _ => Or.inr (Or.inr rfl)) (hd : (x == ("__debug__" : Str)) = false := by decide) (hcd : (x == ("__classdict__" : Str)) = false := by decide)
    (b1 : ∀ j, attributeBase (.Name x p) "extend" (X.X j).env (eval (.Name x p) (X.X j).env) = eval (.Name x p) (X.X j).env := by intro _; rfl)
    (b2 : ∀ j, (((backTo cpos (starEach [e] (X.X j).env)).all fun x => !x.1) && (backToKw cpos (keywordEach [] (X.X j).env)).all (fun x => x.1.isSome) && decide (([e].length + ([] : List Keyword).length + if ([] : List Keyword).isEmpty = true then 0 else 1) < 30)) = true := by intro _; rfl)
    (b3 : (apos.endLine == cpos.line) = true := by rfl) (b4 : ∀ j, starEach [e] (X.X j).env = (false, eval e (X.X j).env) :: starEach [] (X.X j).env := by intro _; rfl) (b5 : ∀ j, (backTo cpos (starEach [] (X.X j).env)).any (·.1) = false := by intro _; rfl)
    (hs : ∀ j, swapsWith (.Call (.Attribute (.Name x p) "extend" apos) [e] [] cpos) none pos.line (X.X j).env = pure false := by intro _; rfl) :
    G1 c X (.Expr (.Call (.Attribute (.Name x p) "extend" apos) [e] [] cpos) pos) A K := fun H0 M0 B G0 σ H ⟨F, r⟩ Dn q => by
  refine ⟨_, fun j => ps_expr (pe_bmF i PySem.F.plainAttrs_list PySem.F.slot_list_extend PySem.F.type_list_extend (fun _ => mt_extT) hN hv hd hcd b1 b2 b3 b4 b5 j) (hs j), ?_⟩
  obtain ⟨l, vs, e1, e2, e3, e4⟩ := r.muE hA
  refine ⟨_, e1, .inl ⟨rfl, vs, SqL.of e3⟩, ?_⟩
  refine ga1 he b4 σ _ B H r.v0 r.hc _ fun ws us H1 t e5 s => ?_
  subst e5
  obtain ⟨u, rfl, su⟩ := Paired.inv1 s
  have r1 := r.to t
  obtain ⟨l', vs', f1, f2, f3, f4⟩ := r1.muE hA
  rw [e1] at f1
  cases f1
  obtain ⟨bb, zs, rfl, g1, g2⟩ := (show Is c _ u (.tup es) from su).tupE
  refine ⟨l, bb, vs', zs, rfl, rfl, f3, hid_le _ _ g1, by rw [f4.len, g2.len]; exact Nat.le_trans hl (by decide), ?_⟩
  exact q.nx _ _ _ k (r1.mutMu hA e1 (f4.append g2))
end
/-! ### expressions that change a list of a slot -/
def GP (c : Cl) (X : Fm) (e : Expr) (A : List Sl) (P : D → List Sl → Prop) : Prop :=
  ∀ (H0 : Hp) (M0 : Addr → Prop) (B : Option Addr) (G0 : Hp) (F : Nat → List Addr) (σ : L2.St) (H : Hp), RepS c A σ H0 M0 B G0 F H → ∀ Q : VK,
    (∀ d v A' F' H', P d A' → RepS c A' σ H0 M0 B G0 F' H' → Is c (hid (MF M0 F') H') v d → Q v H') → wE X e σ H Q
section
variable {A : List Sl} {K : Kk} {x y : Str} {e : Expr} {p apos cpos pos pos' : Pos}
theorem gp_pop (i : Nat) {ds : List D} {Pe : D → Prop} (hA : A[i]? = some (.mu ds)) (he : GE c X e (A.map vwF) Pe) (hl : ds.length ≤ 100000) (hk : ∀ d, Pe d → ∃ k : Nat, d = .int k ∧ k < ds.length)
    (hN : X.N[i]? = some x := by rfl) (hv : ∀ j, Vis (X.X j).env.scope x := by first | exact fun _ => Or.inl rfl | exact fun _ => Or.inr (Or.inl rfl) | exact fun _ => Or.inr (Or.inr rfl)) (hd : (x == ("__debug__" : Str)) = false := by decide) (hcd : (x == ("__classdict__" : Str)) = false := by decide)
    (b1 : ∀ j, attributeBase (.Name x p) "pop" (X.X j).env (eval (.Name x p) (X.X j).env) = eval (.Name x p) (X.X j).env := by intro _; rfl)
    (b2 : ∀ j, (((backTo cpos (starEach [e] (X.X j).env)).all fun x => !x.1) && (backToKw cpos (keywordEach [] (X.X j).env)).all (fun x => x.1.isSome) && decide (([e].length + ([] : List Keyword).length + if ([] : List Keyword).isEmpty = true then 0 else 1) < 30)) = true := by intro _; rfl)
    (b3 : (apos.endLine == cpos.line) = true := by rfl) (b4 : ∀ j, starEach [e] (X.X j).env = (false, eval e (X.X j).env) :: starEach [] (X.X j).env := by intro _; rfl) (b5 : ∀ j, (backTo cpos (starEach [] (X.X j).env)).any (·.1) = false := by intro _; rfl) :
    GP c X (.Call (.Attribute (.Name x p) "pop" apos) [e] [] cpos) A (fun d A' => ∃ k : Nat, Pe (.int k) ∧ k < ds.length ∧ ds[k]? = some d ∧ A' = A.set i (.mu (ds.eraseIdx k))) := fun H0 M0 B G0 F σ H r Q q => by
  refine ⟨_, fun j => pe_bmF i PySem.F.plainAttrs_list PySem.F.slot_list_pop PySem.F.type_list_pop (fun _ => mt_popAt) hN hv hd hcd b1 b2 b3 b4 b5 j, ?_⟩
  obtain ⟨l, vs, e1, e2, e3, e4⟩ := r.muE hA
  refine ⟨_, e1, .inl ⟨rfl, vs, SqL.of e3⟩, ?_⟩
  refine ga_cons he ga_nil b4 σ _ B H r.vF r.hc0 _ fun ws us H1 t ⟨d0, ws', e5, pe, e6⟩ s => ?_
  subst e6; subst e5
  obtain ⟨k, rfl, hk'⟩ := hk d0 pe
  obtain ⟨u, rfl, su⟩ := Paired.inv1 s
  rw [(show Is c _ u (.int k) from su).intE]
  have r1 := r.to t
  obtain ⟨l', vs', f1, f2, f3, f4⟩ := r1.muE hA
  rw [e1] at f1
  cases f1
  have hk2 : k < vs'.length := by rw [f4.len]; exact hk'
  obtain ⟨d, hd, sd⟩ := f4.getV (List.getElem?_eq_getElem hk2)
  have hix : seqIndex? (k : Int) vs'.length = some k := by
    unfold seqIndex?
    have h0 : ¬ ((k : Int) < 0) := by omega
    simp [h0, hk2]
  refine ⟨l, vs', k, k, _, rfl, rfl, f3, by omega, by omega, hix, List.getElem?_eq_getElem hk2, ?_⟩
  obtain ⟨r2, ex⟩ := r1.mutMu' hA e1 (f4.eraseIdx (i := k))
  exact q d _ _ _ _ ⟨k, pe, hk', hd, rfl⟩ r2 (sd.mono ex)
/-- y = (an expression that changes a list) -/
theorem g1_asgP (j : Nat) {P : D → List Sl → Prop} (he : GP c X e A P) (k : ∀ d A', P d A' → K.nx (A'.set j (.da d))) (hps : ∀ l, PS (X.X l) (.Assign [.Name y pos'] e pos) (tAsg (wE X e) (gName j)) := by exact psN _) : G1 c X (.Assign [.Name y pos'] e pos) A K := fun H0 M0 B G0 σ H ⟨F, r⟩ Dn q =>
  ⟨_, hps, he H0 M0 B G0 F σ H r _ fun d v A' F' H1 p r1 s => q.nx _ _ H1 (k d A' p) (r1.putDa s)⟩
/-- l.append(an expression that changes another list) -/
theorem g1_appendP {P : D → List Sl → Prop} (i : Nat) {ds : List D} (hA : A[i]? = some (.mu ds)) (he : GP c X e A P) (hl : ds.length < 100000) (k : ∀ d A', P d A' → A'[i]? = some (.mu ds) ∧ K.nx (A'.set i (.mu (ds ++ [d]))))
    (hN : X.N[i]? = some x := by rfl) (hv : ∀ j, Vis (X.X j).env.scope x := by first | exact fun _ => Or.inl rfl | exact fun _ => Or.inr (Or.inl rfl) | exact fun _ => Or.inr (Or.inr rfl)) (hd : (x == ("__debug__" : Str)) = false := by decide) (hcd : (x == ("__classdict__" : Str)) = false := by decide)
    (b1 : ∀ j, attributeBase (.Name x p) "append" (X.X j).env (eval (.Name x p) (X.X j).env) = eval (.Name x p) (X.X j).env := by intro _; rfl)
    (b2 : ∀ j, (((backTo cpos (starEach [e] (X.X j).env)).all fun x => !x.1) && (backToKw cpos (keywordEach [] (X.X j).env)).all (fun x => x.1.isSome) && decide (([e].length + ([] : List Keyword).length + if ([] : List Keyword).isEmpty = true then 0 else 1) < 30)) = true := by intro _; rfl)
    (b3 : (apos.endLine == cpos.line) = true := by rfl) (b4 : ∀ j, starEach [e] (X.X j).env = (false, eval e (X.X j).env) :: starEach [] (X.X j).env := by intro _; rfl) (b5 : ∀ j, (backTo cpos (starEach [] (X.X j).env)).any (·.1) = false := by intro _; rfl)
    (hs : ∀ j, swapsWith (.Call (.Attribute (.Name x p) "append" apos) [e] [] cpos) none pos.line (X.X j).env = pure false := by intro _; rfl) :
    G1 c X (.Expr (.Call (.Attribute (.Name x p) "append" apos) [e] [] cpos) pos) A K := fun H0 M0 B G0 σ H ⟨F, r⟩ Dn q => by
  refine ⟨tDrop (tBM X.K "list" rAppend (tVar i) (tCons (wE X e) tNil)), fun j => ps_expr ?_ (hs j), ?_⟩
  · rw [← X.hK j]
    exact pe_bm PySem.F.plainAttrs_list PySem.F.slot_list_append PySem.F.type_list_append mt_append (pe_var (by rw [X.hN j]; exact hN) (hv j) hd hcd) (pa_cons (pe_w e j) pa_nil (b4 j)) (b1 j) (b2 j) b3 (b4 j) (b5 j)
  obtain ⟨l, vs, e1, e2, e3, e4⟩ := r.muE hA
  refine ⟨_, e1, .inl ⟨rfl, vs, SqL.of e3⟩, ?_⟩
  refine he H0 M0 B G0 F σ H r _ fun d v A' F' H1 p r1 s => ?_
  obtain ⟨hA', kn⟩ := k d A' p
  obtain ⟨l', vs', f1, f2, f3, f4⟩ := r1.muE hA'
  rw [e1] at f1
  cases f1
  refine ⟨l, vs', v, rfl, rfl, f3, by rw [f4.len]; exact Nat.lt_of_lt_of_le hl (by decide), ?_⟩
  exact q.nx _ _ _ kn (r1.mutMu hA' e1 (f4.append (.cons s .nil)))
end
end K33
end
section
set_option Elab.async false
set_option linter.all false
set_option maxRecDepth 100000
/-! B18: zip of a tuple and a list -/
namespace K33
open PySem PySem.Spec PyProof.Rows L2
/-- the tuple at a, the list at b, as they stand at each turn -/
def ItM (K : PySem.W.Frag) (a b : Addr) : It :=
  ⟨fun i H => ∃ (xs ys : List V), SqT K H a xs ∧ SqL K H b ys ∧ i < xs.length ∧ i < ys.length,
    fun i H v H' => ∃ T x y, v = .ref T ∧ H T = none ∧ H' = upd H T (.tup [x, y]) ∧ (∀ xs, SqT K H a xs → xs[i]? = some x) ∧ ∀ ys, SqL K H b ys → ys[i]? = some y,
    fun i H => ∃ xs ys : List V, SqT K H a xs ∧ SqL K H b ys ∧ i ≤ xs.length ∧ i ≤ ys.length ∧ (i = xs.length ∨ i = ys.length)⟩
def tnM (a b z TI TO i1 i2 : Addr) : Nat → Heap → Prop := fun i h => IsZip h z TI TO .none ∧ IsTupOf2 h TI (.ref i1) (.ref i2) ∧ (∃ x y, IsTupOf2 h TO x y) ∧ h.IsTupleIter i1 a i ∧ h.IsListIter i2 b i
theorem turn_zipM {P : Program} {w : World} {K : PySem.W.Frag} {elts : List Expr} {kk : Nat} {tpos : Pos} {a b z TI TO i1 i2 : Addr} (S : ZipSep2 z TI TO i1 i2 [i1, a] [i2, b]) : Turn P w K (.Tuple elts kk tpos) (ItM K a b) [z, TI, TO, i1, i2] z (tnM a b z TI TO i1 i2) where
  mem := List.mem_cons_self
  obj := fun i h st c hc => by
    obtain ⟨hz, hTI, ⟨x, y, hTO⟩, ⟨o1, e1, _, d1⟩, ⟨o2, e2, _, d2⟩⟩ := st
    simp only [List.mem_cons, List.not_mem_nil, or_false] at hc
    rcases hc with rfl | rfl | rfl | rfl | rfl
    · exact ⟨_, hz, fun v q => nomatch q⟩
    · exact ⟨_, hTI, fun v q => nomatch q⟩
    · exact ⟨_, hTO, fun v q => nomatch q⟩
    · exact ⟨o1, e1, fun v q => by rw [d1] at q; cases q⟩
    · exact ⟨o2, e2, fun v q => by rw [d2] at q; cases q⟩
  keep := fun i h h' st k => by
    obtain ⟨hz, hTI, ⟨x, y, hTO⟩, h1, h2⟩ := st
    exact ⟨k z (by simp) _ hz, k TI (by simp) _ hTI, ⟨x, y, k TO (by simp) _ hTO⟩, h1.at fun o q => k i1 (by simp) o q, h2.at fun o q => k i2 (by simp) o q⟩
  item := by
    intro X hP hw hK hc i pins s σ H E I hf st hg
    subst hP hw hK
    obtain ⟨hz, hTI, ⟨x0, y0, hTO⟩, h1, h2⟩ := st
    obtain ⟨xs, ys, hqx, hqy, hix, hiy⟩ := hg
    obtain ⟨its, rv, p1, _⟩ := I.tuple hqx
    obtain ⟨its2, rv2, p2, _⟩ := I.list hqy
    have l1 := rv.length
    have l2 := rv2.length
    have hd : X.A.in1.handled = none := I.ok.hd hc
    have na : a ≠ i1 := fun q => by
      obtain ⟨o, e, c, _⟩ := p1
      obtain ⟨o', e', c', _⟩ := h1
      rw [q, e'] at e; cases e; rw [c] at c'; injection c' with c''; exact absurd c'' (by decide)
    have nb : b ≠ i2 := fun q => by
      obtain ⟨o, n, e, c, _⟩ := p2
      obtain ⟨o', e', c', _⟩ := h2
      rw [q, e'] at e; cases e; rw [c] at c'; injection c' with c''; exact absurd c'' (by decide)
    have hzl : z < s.heap.objs.size := Heap.lt_size hz
    refine wpAny_pyNext_zipD2_item S (Draws.tuple hd i1 a na its.toArray) (Draws.list hd i2 b nb its2.toArray) hz hTI hTO ⟨h1, p1⟩ ⟨h2, p2.isList⟩ (by simpa [← l1] using hix) (by simpa [← l2] using hiy) fun u1 u2 h' tk y1 y2 z' TO' s1 s2 hT hsz hk => ?_
    have y1' : its[i]? = some u1 := by simpa using y1
    have y2' : its2[i]? = some u2 := by simpa using y2
    obtain ⟨x, hx, rx⟩ : ∃ x, xs[i]? = some x ∧ L2.RelV x u1 := by
      obtain ⟨u, hu, ru⟩ := rv.get (List.getElem?_eq_getElem hix)
      rw [y1'] at hu; cases hu
      exact ⟨_, List.getElem?_eq_getElem hix, ru⟩
    obtain ⟨y, hy, ry⟩ : ∃ y, ys[i]? = some y ∧ L2.RelV y u2 := by
      obtain ⟨u, hu, ru⟩ := rv2.get (List.getElem?_eq_getElem hiy)
      rw [y2'] at hu; cases hu
      exact ⟨_, List.getElem?_eq_getElem hiy, ru⟩
    refine ⟨_, rfl, wpAny_letOwnedTupleGo_zip (s := { s with heap := h', toks := tk }) z' fun h'' z'' sb => ?_⟩
    have keepAll : ∀ c o, c ∉ [z, TI, TO, i1, i2] → s.heap.get? c = some o → h''.get? c = some o := fun c o hn q => (sb.2 c fun e => hn (by simp [e])).trans (hk c o (fun e => hn (by simp [e])) (fun e => hn (by simp [e])) (fun e => hn (by simp [e])) (fun e => hn (by simp [e])) q)
    have hT2 : h''.get? s.heap.objs.size = some { cls := .type "tuple", data := .seq #[u1, u2] } := (sb.2 _ (Nat.ne_of_gt hzl)).trans hT
    have I1 : Inv X pins σ (upd H s.heap.objs.size (.tup [x, y])) { s with heap := h'', toks := tk } :=
      I.turnedNew (t' := tk) (ch := [z, TI, TO, i1, i2]) (fun c o hb q => keepAll c o hb q) hf (Nat.le_refl _) ⟨by show 2 ≤ sizeLine; decide, [u1, u2], .cons rx (.cons ry .nil), ⟨_, hT2, rfl, _, rfl⟩⟩
    refine ⟨.ref s.heap.objs.size, _, I1, rfl, ⟨_, x, y, rfl, I.hok.fresh (Nat.le_refl _), rfl, fun l hl => by rw [I.tuple_inj hl hqx]; exact hx, fun l hl => by rw [I.list_inj hl hqy]; exact hy⟩, ⟨z'', ?_, ⟨u1, u2, ?_⟩, ?_, ?_⟩, fun c hcm => ?_⟩
    · exact (sb.2 _ S.TIz).trans (hk _ _ S.TIz S.TITO S.TIi1 S.TIi2 hTI)
    · exact (sb.2 _ S.TOz).trans TO'
    · exact s1.1.at fun o q => (sb.2 _ S.zi1.symm).trans q
    · exact s2.1.at fun o q => (sb.2 _ S.zi2.symm).trans q
    · have hlt : c < s.heap.objs.size := by
        simp only [List.mem_cons, List.not_mem_nil, or_false] at hcm
        rcases hcm with rfl | rfl | rfl | rfl | rfl
        · exact hzl
        · exact Heap.lt_size hTI
        · exact Heap.lt_size hTO
        · obtain ⟨_, e1, _⟩ := h1; exact Heap.lt_size e1
        · obtain ⟨_, e2, _⟩ := h2; exact Heap.lt_size e2
      rw [upd_ne (Nat.ne_of_lt hlt)]
      exact (hf c hcm).1
  done := by
    intro X hP hw hK hc i pins s σ H E I hf st hg
    subst hP hw hK
    obtain ⟨hz, hTI, ⟨x0, y0, hTO⟩, h1, h2⟩ := st
    obtain ⟨xs, ys, hqx, hqy, e1, e2, hend⟩ := hg
    obtain ⟨its, rv, p1, _⟩ := I.tuple hqx
    obtain ⟨its2, rv2, p2, _⟩ := I.list hqy
    have l1 := rv.length
    have l2 := rv2.length
    have hd : X.A.in1.handled = none := I.ok.hd hc
    have na : a ≠ i1 := fun q => by
      obtain ⟨o, e, c, _⟩ := p1
      obtain ⟨o', e', c', _⟩ := h1
      rw [q, e'] at e; cases e; rw [c] at c'; injection c' with c''; exact absurd c'' (by decide)
    have nb : b ≠ i2 := fun q => by
      obtain ⟨o, n, e, c, _⟩ := p2
      obtain ⟨o', e', c', _⟩ := h2
      rw [q, e'] at e; cases e; rw [c] at c'; injection c' with c''; exact absurd c'' (by decide)
    exact wpAny_pyNext_zipD2_end S (Draws.tuple hd i1 a na its.toArray) (Draws.list hd i2 b nb its2.toArray) hz hTI hTO ⟨h1, p1⟩ ⟨h2, p2.isList⟩ (by simp; omega) (by simp; omega) (by simp; omega) fun h' tk hk =>
      ⟨rfl, I.turnedL (t' := tk) (ch := [z, TI, TO, i1, i2]) (fun c o hb q => hk c o (fun e => hb (by simp [e])) (fun e => hb (by simp [e])) (fun e => hb (by simp [e])) (fun e => hb (by simp [e])) q) hf⟩
  self := fun A i s Q E st h => wpAny_pyIter_zip st.1 h
def iZipM (K : PySem.W.Frag) (ta : TA) : TI := fun σ H R => ta σ H fun vs H1 => ∃ a b xs ys, vs = [.ref a, .ref b] ∧ SqT K H1 a xs ∧ SqL K H1 b ys ∧ R (ItM K a b) H1
theorem pi_zipM {X : Cx} {e e2 : Expr} {ta : TA} {p pos tpos : Pos} {elts : List Expr} {kk : Nat} (hg : Gl X "zip") (hm : X.mg "zip" = none) (ha : PA X [e, e2] ta)
    (hs : starEach [e, e2] X.env = (false, eval e X.env) :: starEach [e2] X.env := by rfl) (hpl : (backTo pos (starEach [e2] X.env)).any (·.1) = false := by rfl) :
    PI X (.Tuple elts kk tpos) (.Call (.Name "zip" p) [e, e2] [] pos) (iZipM X.K ta) := by
  refine ⟨fun pins s σ H R I h => ?_⟩
  refine Call_ (ld_blt I hg hm PyProof.Rows.boot_zip (PyProof.Rows.callWith_type1 (thn (ha.run pos pins s σ H _ I h) fun us s1 ⟨vs, H1, I1, r1, q1⟩ => ?_) hs hpl))
  obtain ⟨a, b, xs, ys, rfl, hqx, hqy, q⟩ := q1
  obtain ⟨u1, u2, rfl, r1, r2⟩ := vals2 r1
  obtain rfl : u1 = Value.ref a := r1
  obtain rfl : u2 = Value.ref b := r2
  obtain ⟨its, rv, p1, _⟩ := I1.tuple hqx
  obtain ⟨its2, rv2, p2, _⟩ := I1.list hqy
  have la : a < s1.heap.objs.size := by obtain ⟨o, e, _⟩ := p1; exact Heap.lt_size e
  have lb : b < s1.heap.objs.size := p2.lt
  refine zip_begins2 (begins_tuple a its.toArray) (begins_list b its2.toArray) p1 p2.isList fun h' hz hTI hTO g1 g2 hsz hk => wpAny_pyIter_zip hz ?_
  have I2 : Inv X pins σ H1 { s1 with heap := h' } := I1.kept (t' := s1.toks) hk
  refine ⟨s1.heap.objs.size + 4, [s1.heap.objs.size + 4, s1.heap.objs.size + 2, s1.heap.objs.size + 3, s1.heap.objs.size, s1.heap.objs.size + 1], _, _, H1, rfl, I2, turn_zipM (zip_sep2 (fp1 := [a]) (fp2 := [b]) (fun c hc => ?_) (fun c hc => ?_)), ⟨hz, hTI, ⟨_, _, hTO⟩, ⟨_, g1, rfl, rfl⟩, ⟨_, g2, rfl, rfl⟩⟩, fun c hcm => ?_, q⟩
  · have : c = a := by simpa using hc
    subst this; exact la
  · have : c = b := by simpa using hc
    subst this; exact lb
  · have hle : s1.heap.objs.size ≤ c := by
      simp only [List.mem_cons, List.not_mem_nil, or_false] at hcm
      rcases hcm with h | h | h | h | h <;> (rw [h]; first | exact Nat.le_refl _ | exact Nat.le_add_right _ _)
    exact I1.fpOk hle (I1.hok.fresh hle)
theorem walk_zipM {K : PySem.W.Frag} {a b : Addr} {xs ys : List V} {n : Nat} (hn : n = min xs.length ys.length) : Walk (ItM K a b) n (fun H => SqT K H a xs ∧ SqL K H b ys) (YPair (fun i => xs[i]?) (fun i => ys[i]?)) := by
  subst hn
  refine ⟨fun i _ hi q => ⟨xs, ys, q.1, q.2, by omega, by omega⟩, fun _ q => ⟨xs, ys, q.1, q.2, by omega, by omega, by omega⟩, fun i H v H' _ q y => ?_⟩
  obtain ⟨T, x, z, h1, h2, h3, h4, h5⟩ := y
  exact ⟨T, x, z, h1, h2, h3, h4 xs q.1, h5 ys q.2⟩
section
variable {c : Cl} {X : Fm} {Γ : List Vw}
theorem gi_zipM {α β : Type} {l1 : List α} {l2 : List β} {f1 : α → D} {f2 : β → D} {e1 e2 : Expr} {p pos tpos : Pos} {elts : List Expr} {kk : Nat} (hm : X.mg "zip" = none) (ha : GV c X e1 Γ (.tup (l1.map f1))) (hb : GV c X e2 Γ (.lst (l2.map f2))) (hg : ∀ i, Gl (X.X i) "zip" := by intro _; rfl)
    (hs : ∀ i, starEach [e1, e2] (X.X i).env = (false, eval e1 (X.X i).env) :: starEach [e2] (X.X i).env := by intro _; rfl) (hs2 : ∀ i, starEach [e2] (X.X i).env = (false, eval e2 (X.X i).env) :: starEach [] (X.X i).env := by intro _; rfl)
    (hpl : ∀ i, (backTo pos (starEach [e2] (X.X i).env)).any (·.1) = false := by intro _; rfl) :
    GI c X (.Tuple elts kk tpos) (.Call (.Name "zip" p) [e1, e2] [] pos) Γ (l1.zip l2).length (fun i d => ∃ x, (l1.zip l2)[i]? = some x ∧ d = .tup [f1 x.1, f2 x.2]) := by
  have z : GI c X (.Tuple elts kk tpos) (.Call (.Name "zip" p) [e1, e2] [] pos) Γ (min (l1.map f1).length (l2.map f2).length) (fun i d => ∃ d1 d2, d = .tup [d1, d2] ∧ (l1.map f1)[i]? = some d1 ∧ (l2.map f2)[i]? = some d2) := fun σ M B H r hc R k => by
    refine ⟨iZipM X.K (wA X [e1, e2]), fun i => by rw [← X.hK i]; exact pi_zipM (hg i) (by rw [X.hmg i]; exact hm) (pa_w [e1, e2] i) (hs i) (hpl i), ?_⟩
    refine ga2 ha hb hs hs2 σ M B H r hc _ fun ws vs H1 t q s => ?_
    subst q
    obtain ⟨v, u, rfl, sv, su⟩ := Paired.inv2 s
    obtain ⟨a, xs, rfl, ea, la⟩ := (show Is c _ v (.tup (l1.map f1)) from sv).tupE
    obtain ⟨b, ys, rfl, eb, lb⟩ := (show Is c _ u (.lst (l2.map f2)) from su).lstE
    refine ⟨a, b, xs, ys, rfl, SqT.of (hid_le _ _ ea), SqL.of (hid_le _ _ eb), ?_⟩
    exact k _ H1 _ _ t (walk_zipM (by rw [la.len, lb.len])) (fun H2 x => ⟨SqT.of (x _ _ ea), SqL.of (x _ _ eb)⟩) fun i x H2 H3 M' hi ex st nm bm y => zip_yield la lb ex st nm bm y
  rw [List.length_map, List.length_map, ← List.length_zip] at z
  refine z.imp fun j d _ ⟨d1, d2, e, q1, q2⟩ => ?_
  rw [List.getElem?_map] at q1 q2
  cases w1 : l1[j]? with
  | none => rw [w1] at q1; cases q1
  | some x1 =>
    cases w2 : l2[j]? with
    | none => rw [w2] at q2; cases q2
    | some x2 =>
      rw [w1] at q1; rw [w2] at q2; cases q1; cases q2
      exact ⟨(x1, x2), by rw [List.getElem?_zip_eq_some]; exact ⟨w1, w2⟩, e⟩
end
end K33
end
section
set_option Elab.async false
set_option linter.all false
set_option maxRecDepth 100000
/-! W0: the text by places; what the top gives -/
namespace K33
open PySem L2
def top (i : Nat) : Stmt := PySem.Challenge.pw_metricparts_k33_whole_possible_splits.main.body.getD i (.Pass ⟨0, 0, 0, 0⟩)
/-- names of what is built in that no module writes -/
structure Nb (g : Gx) : Prop where
  len : g.mg "len" = none
  range : g.mg "range" = none
  abs : g.mg "abs" = none
  int : g.mg "int" = none
  tuple : g.mg "tuple" = none
  list : g.mg "list" = none
  sum : g.mg "sum" = none
  zip : g.mg "zip" = none
  min : g.mg "min" = none
  max : g.mg "max" = none
  bool : g.mg "bool" = none
  sorted : g.mg "sorted" = none
  isinstance : g.mg "isinstance" = none
end K33
end
section
set_option Elab.async false
set_option linter.all false
set_option maxRecDepth 100000
/-! X1: Refused.__init__: super().__init__(reason); self.reason = reason -/
namespace K33
open PySem PySem.Spec PyProof.Rows L2
abbrev sRf : Stmt := inClass (top 6) 0
abbrev rfF (cc cda : Addr) : NdefX.NF := ⟨"__init__", "Refused.__init__", defArgs sRf, defBody sRf, defScope sRf, [("__class__", cc)], cda⟩
/-- what the top gives of Refused -/
structure RfT (P : Program) (K : PySem.W.Frag) (mg : Str → Option Value) (C f cc cda : Addr) (fd : FuncData) : Prop where
  oex : OexC K C
  fn : ∃ (oc : Value) (od : Option Addr) (doc pm ct : Value) (osl : Array (Option Value)), fd = (rfF cc cda).fd doc pm ct ∧ K.lookup f = some ⟨oc, od, .func fd, osl⟩
  code : PySem.W.codeIn K (.ref cda) "Refused.__init__" = true
  cobj : ∃ (ccl : Value) (cdd : Option Addr) (vs : Array Value) (ccs : Array (Option Value)) (file : Str) (tf : Tok), K.lookup cda = some ⟨ccl, cdd, .fields vs, ccs⟩ ∧ vs[2]? = some (.str file tf) ∧ ((P.main.file : Str) == file) = true
  cell : ∃ (cl : Value) (cld : Option Addr) (csl : Array (Option Value)), K.lookup cc = some ⟨cl, cld, .cell (some (.ref C)), csl⟩
  top : (P.main.scope.names.lookup ("super" : Str)).isSome = false
  supN : mg "super" = none
  ops : PySem.W.nsIn K cStatics "thirdparty.any" = some none
  sup : PySem.W.ks_superIn K C C "__init__" = some (some (.builtin "ValueError.__init__"))
  sub : PySem.W.subIn K (.ref C) (.type "ValueError") = some true
  noR : PySem.W.findIn K (.ref C) "reason" = some none
  mro : PySem.W.mroIn K C (.ref C) = some true
abbrev NRf : List Str := ["self", "reason", "__class__"]
theorem scRf (cc cda : Addr) : NdefX.NScope NRf ["self", "reason"] ["__class__"] (rfF cc cda).scope := NdefX.nscope_by (sc := defScope sRf) (by decide +kernel)
/-- reason's value y is kept in the exception's dict -/
def spRf (C : Addr) : Sp := fun vs H Q _ => ∃ (a : Addr) (y : V), vs = [.ref a, y] ∧ H a = some (exo a C none) ∧ ∀ dx, H dx = none → dx ≠ a → Q .non (upd (upd H dx (exd dx [("reason", y)])) a (exo a C (some dx)))
section
variable {P : Program} {w : World} {K : PySem.W.Frag} {mg : Str → Option Value} {base : Heap} {C f cc cda : Addr} {fd : FuncData}
theorem ok_Rf (T : RfT P K mg C f cc cda fd) : FnOk P w K mg base CX0 1 f fd ["self", "reason"] (spRf C) := by
  refine ⟨fun vs H Q E h => ?_, fun A outer s H args us vs Q E hr e0 hb r hsp => ?_⟩
  · obtain ⟨a, y, rfl, _⟩ := h
    rfl
  obtain ⟨a, y, rfl, ea, hQ⟩ := hsp
  obtain ⟨oc, od, doc, pm, ct, osl, rfl, lk⟩ := T.fn
  obtain ⟨ccl, cdd, cvs, ccs, file, tf, lcode, hcv, hfile⟩ := T.cobj
  obtain ⟨cl, cld, csl, lcell⟩ := T.cell
  obtain ⟨nm, q0, N0, bs, bm, sn, sub, ab, col, dd, k0, k1, k2, k3, k5, lC, hbm⟩ := T.oex.cls
  have KX : K.In s.heap := e0.mod.kin.keeps fun b o e => (e0.bs b o e).1
  have lim : s.heap.NoLimit := e0.mod.nolimit.keeps fun b o e => (e0.bs b o e).1
  obtain ⟨u1, u2, rfl, r1, r2⟩ := vals2 r
  obtain rfl : u1 = Value.ref a := r1
  have CA : NdefX.CellsAt (rfF cc cda).cl ["__class__"] [none] s.heap H := by
    have hc0 : H cc = none := (e0.bs cc _ (e0.mod.kin _ _ lcell)).2
    have hcc : s.heap.IsCell cc (some (.ref C)) := ⟨_, KX _ _ lcell, rfl⟩
    have look : ∀ {y : Str} {c : Addr}, ([("__class__", cc)] : List (Str × Addr)).lookup y = some c → c = cc ∧ y = "__class__" := fun {y c} e => by
      by_cases q : y = ("__class__" : Str)
      · subst q; simp [List.lookup] at e; exact ⟨e.symm, rfl⟩
      · have q2 : (y == ("__class__" : Str)) = false := by simpa using q
        simp [List.lookup, q2] at e
    refine ⟨rfl, fun y c e => ?_, fun x y c e1 e2 => ?_, fun i y e => ?_⟩
    · obtain ⟨rfl, _⟩ := look e
      exact ⟨hc0, _, hcc⟩
    · rw [(look e1).2, (look e2).2]
    · cases i with
      | zero => simp at e; subst e; exact ⟨cc, by simp [rfF, List.lookup], fun v hv => by simp at hv⟩
      | succ i => simp at e
  refine ks_codeAny_call_defAt (fd := (rfF cc cda).fd doc pm ct) (body := defBody sRf) hr.depth (KX _ _ lk) rfl lim (PySem.W.codeRec_of KX T.code) rfl hb (show ∀ x ∈ (defScope sRf).names, x.2 ≠ .cell by decide +kernel) (fun x hx => (scRf cc cda).par x.1 (List.of_mem_zip hx).1) (fun h₀ hns kp => ?_) rfl rfl rfl
  have I0 : Inv (NdefX.ncx CX0 P w K mg base NRf (rfF cc cda) f A outer s H E) [] (NdefX.startF NRf [.ref a, y] [none]) H { s with heap := h₀, toks := s.toks + ((["self", "reason"] : List Str).zip [Value.ref a, u2]).length } := NdefX.inv_startN (scRf cc cda) hr.hd e0 rfl r CA hns kp
  have K0 : K.In h₀ := fun b o e => kp b o (KX b o e)
  have hao := exo_at e0.hok ea
  obtain ⟨t1, hao⟩ := hao
  have haC : a ≠ C := fun z => by
    rw [z] at hao
    rw [KX _ _ lC] at hao
    cases hao
  have hCls : PySem.W.clsIn K C = some { name := nm, bases := bs, mro := .ref C :: bm, ns := N0, qualname := q0, hasDict := true, slotNames := sn, subclasses := sub, abstract := ab, collection := col, hasDel := false } := by unfold PySem.W.clsIn; rw [lC] <;> rfl
  refine ks_wpAt_execs_cons (ks_wpAt_Expr_any (ks_wpAt_MethodCall ?_))
  refine ks_wpAt_super_base (fd := (rfF cc cda).fd doc pm ct) rfl rfl (by decide) rfl (K0 _ _ lk) rfl rfl rfl (K0 _ _ lcode) rfl hcv hfile T.top ?_
  obtain ⟨mb, hb1, hb2⟩ := e0.mod.blt
  have bk : ∀ b o, base.get? b = some o → h₀.get? b = some o := fun b o e => kp b o (e0.bs b o e).1
  refine PySem.W.ks_loadName_global rfl rfl (Calls.loadGlobal_builtin (e0.mod.glob.keeps bk) T.supN (hb1.keeps bk) ((hb2 _ (by decide)).trans (show bootBuiltins "super" = some (.type "super") by decide +kernel)) ⟨rfl, ?_⟩)
  refine wpAny_loadName_free rfl rfl (c := cc) rfl ⟨_, K0 _ _ lcell, rfl⟩ ?_
  refine wpAny_loadName_local rfl rfl hns (v := .ref a) rfl ?_
  refine ks_wpAny_isType_cls (K0 _ _ lC) rfl ⟨rfl, ?_⟩
  refine ks_wpAny_call_super (K0 _ _ lC) rfl (kp _ _ hao) rfl (fun c e => by cases e) (PySem.W.looks_mroIn K0 T.mro) (fun h1 e1 k1 => ?_)
  have K1 : K.In h1 := fun b o e => k1 b o (K0 b o e)
  have hI : PySem.W.Looks (model P w) h1 (isInstance (.ref a) (.type "ValueError")) true := (show PySem.W.InstAt h1 a { cls := .ref C, dict := none, data := .fields #[.ref t1, .none, .none, .none, .bool false, .none] } C none from ⟨k1 _ _ (kp _ _ hao), rfl, rfl, trivial⟩).type.andThen (PySem.W.looks_subIn K1 T.sub)
  have hm := T.sup
  unfold PySem.W.ks_superIn at hm
  rw [hCls] at hm
  refine PySem.W.kxs_getMethod PySem.W.kxs_ValueError e1 (PySem.W.looks_opaque K1 T.ops) (l₀ := .ref C :: bm) (fun A Q E s k q => wpAny_bind ((PySem.W.looks_clsIn K1 hCls) A _ E s k (wpAny_pure q))) rfl K1 hm hI haC (by decide) ?_
  have I2 := (I0.kept (h' := h1) (t' := s.toks + 2) k1).kept (h' := h1.push (PySem.W.kxs_mw "ValueError.__init__" a)) (t' := s.toks + ((["self", "reason"] : List Str).zip [Value.ref a, u2]).length + 1) (fun b o e => Heap.get?_push_of_some _ e)
  have fp := (I0.kept (h' := h1) (t' := s.toks) k1).fpOk (b := h1.objs.size) (Nat.le_refl _) ((I0.kept (h' := h1) (t' := s.toks) k1).hok.fresh (Nat.le_refl _))
  have I2p := I2.pins_of (pins' := [(h1.objs.size, PySem.W.kxs_mw "ValueError.__init__" a)]) (fun p hp => by
    have : p = (h1.objs.size, PySem.W.kxs_mw "ValueError.__init__" a) := by simpa using hp
    subst this
    exact ⟨Heap.get?_push_at rfl rfl, fp.1, fp.2.1, fp.2.2.1, fun v z => by cases z⟩)
  refine PySem.W.kxs_callWith (i := "ValueError.__init__") (x := a) (by rfl) ?_
  refine Calls.evalArgs_plain ?_
  refine thn ((pa_cons (pe_var (X := NdefX.ncx CX0 P w K mg base NRf (rfF cc cda) f A outer s H E) (i := 1) rfl (Or.inl rfl)) pa_nil).run _ _ _ (NdefX.startF NRf [.ref a, y] [none]) H (fun vs H' => vs = [y] ∧ H' = H) I2p ⟨y, rfl, rfl, rfl⟩) fun us' s3 ⟨vs', H', I3, r3, ev, eH⟩ => ?_
  subst eH
  subst ev
  have hu3 := (I3.pin (h1.objs.size, PySem.W.kxs_mw "ValueError.__init__" a) (List.mem_append_right _ (by simp))).1
  refine ⟨hu3, ?_⟩
  have K3 := I3.kIn
  obtain ⟨t3, ha3⟩ := exo_at I3.hok ea
  have hz3 : us'.length ≤ sizeLine := by rw [← Paired.length r3]; show 1 ≤ sizeLine; decide
  obtain ⟨hp3, g3, d3, tk3, os3⟩ := s3
  refine wpAny_call (codeAny_of_tree ?_)
  show wpAny _ _ (callAny (.ref h1.objs.size) ⟨us', []⟩) _ _ _
  simp only [callAny]
  refine wpAny_bind (wpAny_load hu3 ?_)
  simp only [PySem.W.kxs_mw, show (Value.type "method-wrapper" == Value.type "method" || Value.type "method-wrapper" == Value.type "builtin_function_or_method" || Value.type "method-wrapper" == Value.type "method-wrapper") = true by decide, if_true]
  refine PySem.W.KFB.if_so (by decide) ?_
  refine wpAny_bind (PySem.W.check_bound_init F.excBase_ValueError.toExcCallFacts (K3 _ _ lC) ha3 rfl ?_)
  refine wpAny_bind (wpAny_pure (wpAny_pure ?_))
  refine ⟨plainId_quiet F.excBase_ValueError.init.plain _, codeAny_builtin F.excBase_ValueError.initEntry ?_⟩
  refine PySem.W.exc_init_tree (cls := .ref C) (t0 := t3) (dv := none) (c2 := .none) (c3 := .none) (b4 := .bool false) ha3 hz3 fun h4 k4 e4 _ => ?_
  have I4 := I3.write (t' := tk3) (x := a) (e := a) (o := exo a C none) (by rw [ea]; exact True.intro) (.inl rfl) k4 ⟨_, e4⟩ (exo_ok e4)
  have eu : upd H' a (exo a C none) = H' := by
    funext b
    by_cases hb : b = a
    · rw [hb, upd_same, ea]
    · rw [upd_ne hb]
  rw [eu] at I4
  show PySem.wpAt _ _ _ _ _ _ _
  refine wpAt_of_wpAny ?_
  have rd : PSs (NdefX.ncx CX0 P w K mg base NRf (rfF cc cda) f A outer s H' E) ((defBody sRf).drop 1) (tOst K "reason" (tVar 0) (tVar 1)) := pss_one (ps_ost (pe_var (i := 0) rfl (Or.inl rfl)) (pe_var (i := 1) rfl (Or.inl rfl)))
  refine wpAny_mono (rd.run _ _ (NdefX.startF NRf [.ref a, y] [none]) H' { nx := fun _ H' => Q .non H', rt := Q } I4 ⟨y, rfl, .ref a, rfl, a, C, rfl, T.oex, T.noR, .inl ⟨ea, hQ⟩⟩) (fun fl s' hs => ?_) fun e s' hs => hs
  cases fl with
  | ret u =>
    obtain ⟨v, σ', H2, J, rv, q⟩ := hs
    exact ⟨v, H2, J.os, J.bare, J.base, J.hok, rv, q⟩
  | next =>
    obtain ⟨σ', H2, J, q⟩ := hs
    exact ⟨.non, H2, J.os, J.bare, J.base, J.hok, rfl, q⟩
  | brk => obtain ⟨_, _, _, q⟩ := hs; exact q.elim
  | cont => obtain ⟨_, _, _, q⟩ := hs; exact q.elim
end
end K33
end
section
set_option Elab.async false
set_option linter.all false
set_option maxRecDepth 100000
/-! W1: the law's fractions -/
namespace K33
open PySem L2
variable {c : Cl} {g : Gx}
abbrev sGcd : Stmt := top 46
theorem scGcd : FnScope ["_law_a", "_law_b"] ["_law_a", "_law_b"] (defScope sGcd) := ⟨rfl, rfl, rfl, by decide +kernel, rfl, by decide +kernel, by decide +kernel⟩
abbrev spGcd (c : Cl) : Sp := spG c (fun p : Int × Int => [.da (.int p.1), .da (.int p.2)]) (fun _ => True) (fun p d => d = .int (Int.gcd p.1 p.2))
theorem absI (n : Int) : (if n < 0 then -n else n) = (n.natAbs : Int) := by split <;> omega
theorem ok_gcd {f : Addr} {fd : FuncData} (F : Fun g.K "_law_gcd" "_law_gcd" sGcd f fd) (T : Nb g) : Fo g 1 f fd ["_law_a", "_law_b"] (spGcd c) := by
  refine fn_ok F scGcd (fun _ => rfl) fun b ⟨a, d⟩ hr _ => ?_
  show GS c _ _ [.da (.int a), .da (.int d)] _
  refine gs_cons (g1_asgE (psN 0) (gv_abs T.abs (gv_var 0)) fun d e => ?_)
  subst e
  rw [absI]
  show GS c _ _ [.da (.int a.natAbs), .da (.int d)] _
  refine gs_cons (g1_asgE (psN 1) (gv_abs T.abs (gv_var 1)) fun d e => ?_)
  subst e
  rw [absI]
  show GS c _ _ [.da (.int a.natAbs), .da (.int d.natAbs)] _
  refine gs_cons (g1_while (fun m A => ∃ x : Nat, A = [.da (.int x), .da (.int m)] ∧ Nat.gcd x m = Int.gcd a d) ⟨_, _, rfl, rfl⟩ fun m A ⟨x, e, hx⟩ => ⟨_, gb_neI (by subst e; exact gv_var 1) gv_int, fun h => ?_, fun h => ?_⟩)
  · subst e
    have hm : 0 < m := by
      rcases Nat.eq_zero_or_pos m with z | z
      · subst z; simp at h
      · exact z
    refine gs_cons (g1_par 0 1 (ga2 (gv_var 1) (gv_mod (gv_intI T.int (gv_var 0)) (gv_var 1) (by omega))) (gs_nil ?_))
    refine ⟨x % m, Nat.mod_lt _ hm, m, rfl, ?_⟩
    rw [← hx, Nat.gcd_comm x m, Nat.gcd_rec m x, Nat.gcd_comm]
  · subst e
    have hm : m = 0 := by
      simpa using h
    subst hm
    refine gs_cons (g1_ret (gv_var 0) fun d e => ?_)
    subst e
    show D.int x = _
    rw [← hx]
    simp
end K33
end
section
set_option Elab.async false
set_option linter.all false
set_option maxRecDepth 100000
set_option exponentiation.threshold 10000
/-! W2: Ratio -/
namespace K33
open PySem L2
variable {c : Cl} {g : Gx}
theorem divInt_n (n d : Int) (h : 0 < d) : (Rat.divInt n d).num = n / (Int.gcd n d) := by
  rw [Rat.num_divInt, Int.sign_eq_one_of_pos h, Int.one_mul, Int.gcd_comm]
theorem divInt_d (n d : Int) (h : 0 < d) : ((Rat.divInt n d).den : Int) = d / (Int.gcd n d) := by
  rw [Rat.den_divInt, if_neg (by omega), Int.gcd_comm, Int.natCast_ediv, Int.natAbs_of_nonneg (by omega)]
abbrev sRI : Stmt := inClass (top 9) 0
theorem scRI : FnScope ["self", "n", "d", "shared"] ["self", "n", "d"] (defScope sRI) := ⟨rfl, rfl, rfl, by decide +kernel, rfl, by decide +kernel, by decide +kernel⟩
theorem gcd_lt {n d : Int} (h0 : 0 < d) (h1 : d.natAbs < 2 ^ 9000) : CDivW n (Int.gcd n d : Int) ∧ CDivW d (Int.gcd n d : Int) := by
  have hp : 0 < Int.gcd n d := Int.gcd_pos_of_ne_zero_right _ (by omega)
  have hl : Int.gcd n d ≤ d.natAbs := Nat.le_of_dvd (by omega) (Nat.gcd_dvd_right _ _)
  have hn : ((Int.gcd n d : Nat) : Int).natAbs < 2 ^ 9000 := by rw [Int.natAbs_natCast]; exact Nat.lt_of_le_of_lt hl h1
  exact ⟨wide_div (by omega) hn (by decide) (Nat.le_refl _), wide_div (by omega) hn (by decide) (Nat.le_refl _)⟩
section
variable {p q : Addr}
theorem fs1 {n m : Int} : putF "d" (.int m) (putF "n" (.int n) []) = ratF n m := by
  have h : ¬ (("n" : Str) = "d") := by decide +kernel
  show (if ("n" : Str) = "d" then [(("n" : Str), V.int m)] else (("n" : Str), V.int n) :: putF "d" (V.int m) []) = _
  rw [if_neg h]
  rfl
end
theorem ok_RI {f : Addr} {fd : FuncData} (F : FunD g.K "__init__" "Ratio.__init__" (defArgs sRI) (defBody sRI) (defScope sRI) [.int 1] [] f fd) (T : Ct c g.K) (hG : g.mg "gcd" = some (.builtin "math.gcd")) : Fo g 1 f fd ["self", "n", "d"] (spRI c) := by
  refine F.ok scRI (fun vs H Q E h => ?_) (fun cdv A outer s H vs Q E hr h => ?_)
  · obtain ⟨p, dx, n, d, rfl, _⟩ := h
    rfl
  · obtain ⟨p, dx, n, d, rfl, h0, h1, hp, k⟩ := h
    have key : wSs (fmD g _ (defScope sRI) scRI.nd ⟨CX0, "Ratio.__init__", f, cdv, A, outer, s, H, E⟩) (defBody sRI) { nx := fun _ H' => Q .non H', rt := Q } (L2.start ["self", "n", "d", "shared"] [.ref p, .int n, .int d]) H := by
      have hc : Hc (fun _ => False) none H := ⟨fun _ z => z.elim, fun _ z => (nomatch z), fun _ z => nomatch z⟩
      have r0 := rs_entryR (c := c) (N := ["self", "n", "d", "shared"]) (v := .ref p) (vs := [.int n, .int d]) (ws := [.da (.int n), .da (.int d)]) hc (.cons (.int n) (.cons (.int d) .nil))
      replace r0 : RS c [.raw (.ref p), .da (.int n), .da (.int d), .no] _ _ _ _ _ _ := r0
      refine gs_then (K := ⟨fun A' => A' = [.raw (.ref p), .da (.int n), .da (.int d), .no], fun _ => False, fun _ => False, fun _ => False⟩) (g1_ifB (gb_eqI (gv_var 2) gv_int) (fun z => (h0 (by simpa using z)).elim) (fun _ => gs_nil rfl)) r0 (fun A1 σ1 H1 e1 r1 => ?_) (fun _ z => z) (fun _ z => z) (fun _ z => z)
      subst e1
      obtain ⟨n', d', hd', e1, hp1, hp2⟩ : ∃ n' d' : Int, 0 < d' ∧ Rat.divInt n d = Rat.divInt n' d' ∧ d'.natAbs < 2 ^ 9000 ∧ (if decide (d < 0) = true then n' = -n ∧ d' = -d else n' = n ∧ d' = d) := by
        by_cases hn : d < 0
        · exact ⟨-n, -d, by omega, (Rat.neg_divInt_neg n d).symm, by rw [Int.natAbs_neg]; exact h1, by simp [hn]⟩
        · exact ⟨n, d, by omega, rfl, h1, by simp [hn]⟩
      refine gs_then (K := ⟨fun A' => A' = [.raw (.ref p), .da (.int n'), .da (.int d'), .no], fun _ => False, fun _ => False, fun _ => False⟩) (g1_ifB (gb_lt (gv_var 2) gv_int) (fun z => ?_) (fun z => ?_)) r1 (fun A2 σ2 H2 e2 r2 => ?_) (fun _ z => z) (fun _ z => z) (fun _ z => z)
      · rw [z] at hp2
        obtain ⟨rfl, rfl⟩ := hp2
        refine gs_cons (g1_asgE (psN 1) (gv_neg (gv_var 1)) fun x e => ?_)
        subst e
        refine gs_cons (g1_asgE (psN 2) (gv_neg (gv_var 2)) fun x e => ?_)
        subst e
        exact gs_nil rfl
      · rw [z] at hp2
        obtain ⟨rfl, rfl⟩ := hp2
        exact gs_nil rfl
      · subst e2
        refine gs_then (K := ⟨fun A' => A' = [.raw (.ref p), .da (.int n'), .da (.int d'), .da (.int (Int.gcd n' d'))], fun _ => False, fun _ => False, fun _ => False⟩) (g1_asgE (psN 3) (gv_gcd hG (gv_var 1) (gv_var 2)) fun x e => by subst e; rfl) r2 (fun A3 σ3 H3 e3 r3 => ?_) (fun _ z => z) (fun _ z => z) (fun _ z => z)
        subst e3
        obtain ⟨F3, r3⟩ := r3
        obtain ⟨c1, c2⟩ := gcd_lt (n := n') hd' hp1
        have hs0 : σ3[0]? = some (some (.ref p)) := by
          obtain ⟨s, e, q⟩ := r3.sl 0 _ rfl
          rw [e, q.2]
        have hp3 : H3 p = some (.ins c.R dx []) := r3.ex p _ (fun z => nomatch z) hp
        refine ⟨_, fun i => pss_cons (psFld 0 (j := i)) (pss_one (psFld 0 (j := i))), ?_⟩
        refine gv_fdivW (gv_var 1) (gv_var 3) c1 σ3 _ none H3 r3.v0 r3.hc _ fun x v H4 t4 e4 s4 => ?_
        subst e4
        rw [s4.intE]
        have hp4 : H4 p = some (.ins c.R dx []) := t4.ex p _ (fun z => nomatch z) hp3
        refine ⟨_, hs0, p, c.R, dx, [], rfl, hp4, T.clR, T.rN, (by show 0 < 1000; decide), ?_⟩
        have r4 := r3.to t4
        let H5 := upd H4 p (.ins c.R dx (putF "n" (.int (n' / (Int.gcd n' d' : Int))) []))
        have rep5 : Rep c [.no, .da (.int n'), .da (.int d'), .da (.int (Int.gcd n' d'))] σ3 (hid (fun _ => False) H5) none := ⟨r3.len, fun i w a z => by
          obtain ⟨v, q1, q2⟩ := r4.v0.at_ i w a z
          refine ⟨v, q1, ?_⟩
          match i, a with
          | 0, a => cases a; exact (z rfl).elim
          | 1, a => cases a; rw [(show Is c _ v (.int n') from q2).intE]; exact Is.int _
          | 2, a => cases a; rw [(show Is c _ v (.int d') from q2).intE]; exact Is.int _
          | 3, a => cases a; rw [(show Is c _ v (.int (Int.gcd n' d')) from q2).intE]; exact Is.int _
          | i + 4, a => cases a⟩
        have hc5 : Hc (fun _ => False) none H5 := ⟨fun _ z => z.elim, fun _ z => (nomatch z), fun _ z => nomatch z⟩
        refine gv_fdivW (gv_var 2) (gv_var 3) c2 σ3 _ none H5 rep5 hc5 _ fun x v H6 t6 e6 s6 => ?_
        subst e6
        rw [s6.intE]
        have hp6 : H6 p = some (.ins c.R dx (putF "n" (.int (n' / (Int.gcd n' d' : Int))) [])) := t6.ex p _ (fun z => nomatch z) upd_same
        refine ⟨_, hs0, p, c.R, dx, _, rfl, hp6, T.clR, T.rD, (by show 1 < 1000; decide), ?_⟩
        rw [fs1]
        refine k _ (fun b o hb ho => ?_) ?_
        · rw [upd_ne hb]
          refine t6.ex b o (fun z => nomatch z) ?_
          show upd H4 p _ b = some o
          rw [upd_ne hb]
          exact t4.ex b o (fun z => nomatch z) (r3.ex b o (fun z => nomatch z) ho)
        · rw [upd_same, e1, divInt_n _ _ hd', divInt_d _ _ hd']
    obtain ⟨t, ht, tq⟩ := key
    exact ⟨t, ht (), tq⟩
end K33
end
section
set_option Elab.async false
set_option linter.all false
set_option maxRecDepth 100000
set_option exponentiation.threshold 10000
/-! W3: Ratio's methods -/
namespace K33
open PySem L2
variable {c : Cl} {g : Gx}
def Sz (q : Rat) : Prop := q.num.natAbs < 2 ^ 4000 ∧ q.den < 2 ^ 4000
theorem mulw {i j : Int} (hi : i.natAbs < 2 ^ 4000) (hj : j.natAbs < 2 ^ 4000) : CMulW i j := wide_mul hi hj (by decide) (by decide) (by decide)
theorem natw {n : Nat} (h : n < 2 ^ 4000) : (n : Int).natAbs < 2 ^ 4000 := by rw [Int.natAbs_natCast]; exact h
theorem den0 (q : Rat) : (q.den : Int) ≠ 0 := by have := q.den_pos; omega
theorem mul_lt {i j : Int} (hi : i.natAbs < 2 ^ 4000) (hj : j.natAbs < 2 ^ 4000) : (i * j).natAbs < 2 ^ 9000 := by
  rw [Int.natAbs_mul]
  have h : i.natAbs * j.natAbs < 2 ^ 4000 * 2 ^ 4000 := Nat.mul_lt_mul'' hi hj
  rw [← Nat.pow_add] at h
  exact Nat.lt_of_lt_of_le h (Nat.pow_le_pow_right (by decide) (by decide))
abbrev ar1 : Rat → List Vw := fun q => [.da (.rat q)]
abbrev ar2 : Rat × Rat → List Vw := fun q => [.da (.rat q.1), .da (.rat q.2)]
abbrev spREq (c : Cl) : Sp := spG c ar2 (fun _ => True) (fun q d => d = .bl (decide (q.1 = q.2)))
abbrev spRAdd (c : Cl) : Sp := spG c ar2 (fun q => Sz q.1 ∧ Sz q.2) (fun q d => d = .rat (q.1 + q.2))
abbrev spRSub (c : Cl) : Sp := spG c ar2 (fun q => Sz q.1 ∧ Sz q.2) (fun q d => d = .rat (q.1 - q.2))
abbrev spRMul (c : Cl) : Sp := spG c ar2 (fun q => Sz q.1 ∧ Sz q.2) (fun q d => d = .rat (q.1 * q.2))
abbrev spROver (c : Cl) : Sp := spG c ar2 (fun q => Sz q.1 ∧ Sz q.2 ∧ q.2 ≠ 0) (fun q d => d = .rat (q.1 / q.2))
abbrev spRNeg (c : Cl) : Sp := spG c ar1 (fun q => Sz q) (fun q d => d = .rat (-q))
abbrev spRZ (c : Cl) : Sp := spG c ar1 (fun _ => True) (fun q d => d = .bl (decide (q = 0)))
abbrev spRSg (c : Cl) : Sp := spG c ar1 (fun _ => True) (fun q d => d = .int q.num.sign)
abbrev sREq : Stmt := inClass (top 9) 1
abbrev sRAdd : Stmt := inClass (top 9) 2
abbrev sRSub : Stmt := inClass (top 9) 3
abbrev sRMul : Stmt := inClass (top 9) 4
abbrev sRNeg : Stmt := inClass (top 9) 5
abbrev sRZ : Stmt := inClass (top 9) 7
abbrev sRSg : Stmt := inClass (top 9) 8
abbrev sROver : Stmt := inClass (top 9) 10
abbrev N2 : List Str := ["self", "other"]
abbrev N1 : List Str := ["self"]
theorem scREq : FnScope N2 N2 (defScope sREq) := ⟨rfl, rfl, rfl, by decide +kernel, rfl, by decide +kernel, by decide +kernel⟩
theorem scRAdd : FnScope N2 N2 (defScope sRAdd) := ⟨rfl, rfl, rfl, by decide +kernel, rfl, by decide +kernel, by decide +kernel⟩
theorem scRSub : FnScope N2 N2 (defScope sRSub) := ⟨rfl, rfl, rfl, by decide +kernel, rfl, by decide +kernel, by decide +kernel⟩
theorem scRMul : FnScope N2 N2 (defScope sRMul) := ⟨rfl, rfl, rfl, by decide +kernel, rfl, by decide +kernel, by decide +kernel⟩
theorem scROver : FnScope N2 N2 (defScope sROver) := ⟨rfl, rfl, rfl, by decide +kernel, rfl, by decide +kernel, by decide +kernel⟩
theorem scRNeg : FnScope N1 N1 (defScope sRNeg) := ⟨rfl, rfl, rfl, by decide +kernel, rfl, by decide +kernel, by decide +kernel⟩
theorem scRZ : FnScope N1 N1 (defScope sRZ) := ⟨rfl, rfl, rfl, by decide +kernel, rfl, by decide +kernel, by decide +kernel⟩
theorem scRSg : FnScope N1 N1 (defScope sRSg) := ⟨rfl, rfl, rfl, by decide +kernel, rfl, by decide +kernel, by decide +kernel⟩
abbrev RM (c : Cl) (g : Gx) : Prop := RMk c g.P g.w g.K g.mg g.base 1
theorem rat_add (x y : Rat) : Rat.divInt (x.num * y.den + y.num * x.den) (x.den * y.den) = x + y := by
  rw [← Rat.divInt_add_divInt _ _ (den0 x) (den0 y), Rat.num_divInt_den, Rat.num_divInt_den]
theorem rat_sub (x y : Rat) : Rat.divInt (x.num * y.den - y.num * x.den) (x.den * y.den) = x - y := by
  rw [← Rat.divInt_sub_divInt _ _ (den0 x) (den0 y), Rat.num_divInt_den, Rat.num_divInt_den]
theorem rat_mul (x y : Rat) : Rat.divInt (x.num * y.num) (x.den * y.den) = x * y := by
  rw [← Rat.divInt_mul_divInt, Rat.num_divInt_den, Rat.num_divInt_den]
theorem rat_neg (x : Rat) : Rat.divInt (-x.num) x.den = -x := by
  have h := Rat.num_divInt_den (-x)
  rw [Rat.neg_num, Rat.neg_den] at h
  exact h
theorem rat_over (x y : Rat) : Rat.divInt (x.num * y.den) (x.den * y.num) = x / y := by
  rw [← Rat.divInt_mul_divInt, Rat.num_divInt_den, Rat.div_def, ← Rat.inv_divInt, Rat.num_divInt_den]
theorem ok_REq {f : Addr} {fd : FuncData} (F : Fun g.K "__eq__" "Ratio.__eq__" sREq f fd) (T : Ct c g.K) (I : CtI c.R g.K) (B : Nb g) (R : g.mg "Ratio" = some (.ref c.R)) : Fo g 1 f fd N2 (spREq c) := by
  refine fn_ok F scREq (fun _ => rfl) fun b ⟨x, y⟩ hr _ => ?_
  show GS c _ _ [.da (.rat x), .da (.rat y)] _
  refine gs_cons (g1_ret (gv_and (gv_isR I B.isinstance R (gv_var 1)) fun _ => gv_and (gv_eqI (gv_n T (gv_var 0)) (gv_n T (gv_var 1))) fun _ => gv_one (gv_eqI (gv_d T (gv_var 0)) (gv_d T (gv_var 1)))) fun d e => ?_)
  subst e
  show D.bl _ = D.bl _
  congr 1
  have : (x = y) ↔ (x.num = y.num ∧ ((x.den : Int)) = y.den) := ⟨fun e => by rw [e]; exact ⟨rfl, rfl⟩, fun ⟨a, b⟩ => Rat.ext a (by omega)⟩
  simp [this, Bool.decide_and]
theorem ok_RAdd {f : Addr} {fd : FuncData} (F : Fun g.K "__add__" "Ratio.__add__" sRAdd f fd) (T : Ct c g.K) (R : RM c g) : Fo g 3 f fd N2 (spRAdd c) := by
  refine fn_ok F scRAdd (fun _ => rfl) fun b ⟨x, y⟩ hr ⟨sx, sy⟩ => ?_
  show GS c _ _ [.da (.rat x), .da (.rat y)] _
  refine gs_cons (g1_ret (gv_ratio R hr (gv_add (gv_mulW (gv_n T (gv_var 0)) (gv_d T (gv_var 1)) (mulw sx.1 (natw sy.2))) (gv_mulW (gv_n T (gv_var 1)) (gv_d T (gv_var 0)) (mulw sy.1 (natw sx.2)))) (gv_mulW (gv_d T (gv_var 0)) (gv_d T (gv_var 1)) (mulw (natw sx.2) (natw sy.2))) (Int.mul_ne_zero (den0 x) (den0 y)) (mul_lt (natw sx.2) (natw sy.2))) fun d e => ?_)
  subst e
  rw [rat_add]
theorem ok_RSub {f : Addr} {fd : FuncData} (F : Fun g.K "__sub__" "Ratio.__sub__" sRSub f fd) (T : Ct c g.K) (R : RM c g) : Fo g 3 f fd N2 (spRSub c) := by
  refine fn_ok F scRSub (fun _ => rfl) fun b ⟨x, y⟩ hr ⟨sx, sy⟩ => ?_
  show GS c _ _ [.da (.rat x), .da (.rat y)] _
  refine gs_cons (g1_ret (gv_ratio R hr (gv_sub (gv_mulW (gv_n T (gv_var 0)) (gv_d T (gv_var 1)) (mulw sx.1 (natw sy.2))) (gv_mulW (gv_n T (gv_var 1)) (gv_d T (gv_var 0)) (mulw sy.1 (natw sx.2)))) (gv_mulW (gv_d T (gv_var 0)) (gv_d T (gv_var 1)) (mulw (natw sx.2) (natw sy.2))) (Int.mul_ne_zero (den0 x) (den0 y)) (mul_lt (natw sx.2) (natw sy.2))) fun d e => ?_)
  subst e
  rw [rat_sub]
theorem ok_RMul {f : Addr} {fd : FuncData} (F : Fun g.K "__mul__" "Ratio.__mul__" sRMul f fd) (T : Ct c g.K) (R : RM c g) : Fo g 3 f fd N2 (spRMul c) := by
  refine fn_ok F scRMul (fun _ => rfl) fun b ⟨x, y⟩ hr ⟨sx, sy⟩ => ?_
  show GS c _ _ [.da (.rat x), .da (.rat y)] _
  refine gs_cons (g1_ret (gv_ratio R hr (gv_mulW (gv_n T (gv_var 0)) (gv_n T (gv_var 1)) (mulw sx.1 sy.1)) (gv_mulW (gv_d T (gv_var 0)) (gv_d T (gv_var 1)) (mulw (natw sx.2) (natw sy.2))) (Int.mul_ne_zero (den0 x) (den0 y)) (mul_lt (natw sx.2) (natw sy.2))) fun d e => ?_)
  subst e
  rw [rat_mul]
theorem ok_ROver {f : Addr} {fd : FuncData} (F : Fun g.K "over" "Ratio.over" sROver f fd) (T : Ct c g.K) (R : RM c g) : Fo g 3 f fd N2 (spROver c) := by
  refine fn_ok F scROver (fun _ => rfl) fun b ⟨x, y⟩ hr ⟨sx, sy, h0⟩ => ?_
  show GS c _ _ [.da (.rat x), .da (.rat y)] _
  have hy : y.num ≠ 0 := fun z => h0 (Rat.num_eq_zero.mp z)
  refine gs_cons (g1_ret (gv_ratio R hr (gv_mulW (gv_n T (gv_var 0)) (gv_d T (gv_var 1)) (mulw sx.1 (natw sy.2))) (gv_mulW (gv_d T (gv_var 0)) (gv_n T (gv_var 1)) (mulw (natw sx.2) sy.1)) (Int.mul_ne_zero (den0 x) hy) (mul_lt (natw sx.2) sy.1)) fun d e => ?_)
  subst e
  rw [rat_over]
theorem ok_RNeg {f : Addr} {fd : FuncData} (F : Fun g.K "__neg__" "Ratio.__neg__" sRNeg f fd) (T : Ct c g.K) (R : RM c g) : Fo g 3 f fd N1 (spRNeg c) := by
  refine fn_ok F scRNeg (fun _ => rfl) fun b x hr sx => ?_
  show GS c _ _ [.da (.rat x)] _
  refine gs_cons (g1_ret (gv_ratio R hr (gv_neg (gv_n T (gv_var 0))) (gv_d T (gv_var 0)) (den0 x) (Nat.lt_of_lt_of_le (natw sx.2) (Nat.pow_le_pow_right (by decide) (by decide)))) fun d e => ?_)
  subst e
  rw [rat_neg]
theorem ok_RZ {f : Addr} {fd : FuncData} (F : Fun g.K "is_zero" "Ratio.is_zero" sRZ f fd) (T : Ct c g.K) : Fo g 1 f fd N1 (spRZ c) := by
  refine fn_ok F scRZ (fun _ => rfl) fun b x hr sx => ?_
  show GS c _ _ [.da (.rat x)] _
  refine gs_cons (g1_ret (gv_eqI (gv_n T (gv_var 0)) gv_int) fun d e => ?_)
  subst e
  show D.bl _ = D.bl _
  congr 1
  exact decide_eq_decide.mpr Rat.num_eq_zero
theorem ok_RSg {f : Addr} {fd : FuncData} (F : Fun g.K "sign" "Ratio.sign" sRSg f fd) (T : Ct c g.K) (B : Nb g) : Fo g 1 f fd N1 (spRSg c) := by
  refine fn_ok F scRSg (fun _ => rfl) fun b x hr sx => ?_
  show GS c _ _ [.da (.rat x)] _
  refine gs_cons (g1_ret (gv_sub (gv_intB B.int (gv_gt (gv_n T (gv_var 0)) gv_int)) (gv_intB B.int (gv_lt (gv_n T (gv_var 0)) gv_int))) fun d e => ?_)
  subst e
  show D.int _ = D.int _
  congr 1
  rcases Int.lt_trichotomy x.num 0 with h | h | h
  · have : ¬ (0 < x.num) := by omega
    simp [h, this, Int.sign_eq_neg_one_of_neg h]
  · simp [h]
  · have : ¬ (x.num < 0) := by omega
    simp [h, this, Int.sign_eq_one_of_pos h]
/-! ### zero, is_rational, as_ratio -/
abbrev sZero : Stmt := top 10
abbrev sIsRat : Stmt := top 11
abbrev sAsRat : Stmt := top 12
theorem scZero : FnScope [] [] (defScope sZero) := ⟨rfl, rfl, rfl, by decide +kernel, rfl, by decide +kernel, by decide +kernel⟩
theorem scIsRat : FnScope ["value"] ["value"] (defScope sIsRat) := ⟨rfl, rfl, rfl, by decide +kernel, rfl, by decide +kernel, by decide +kernel⟩
theorem scAsRat : FnScope ["value"] ["value"] (defScope sAsRat) := ⟨rfl, rfl, rfl, by decide +kernel, rfl, by decide +kernel, by decide +kernel⟩
abbrev spZero (c : Cl) : Sp := spG c (fun _ : Unit => []) (fun _ => True) (fun _ d => d = .rat 0)
abbrev spIsRat (c : Cl) : Sp := spG c ar1 (fun _ => True) (fun _ d => d = .bl true)
abbrev spAsRat (c : Cl) : Sp := spG c ar1 (fun _ => True) (fun q d => d = .rat q)
theorem ok_zero {f : Addr} {fd : FuncData} (F : Fun g.K "zero" "zero" sZero f fd) (R : RM c g) : Fo g 3 f fd [] (spZero c) := by
  refine fn_ok F scZero (fun _ => rfl) fun b x hr sx => ?_
  show GS c _ _ [] _
  refine gs_cons (g1_ret (gv_ratio1 R hr gv_int) fun d e => ?_)
  subst e
  rfl
theorem ok_isRat {f : Addr} {fd : FuncData} (F : Fun g.K "is_rational" "is_rational" sIsRat f fd) (I : CtI c.R g.K) (B : Nb g) (R : g.mg "Ratio" = some (.ref c.R)) : Fo g 1 f fd ["value"] (spIsRat c) := by
  refine fn_ok F scIsRat (fun _ => rfl) fun b x hr sx => ?_
  show GS c _ _ [.da (.rat x)] _
  refine gs_cons (g1_ret (gv_or (l := true) (gv_isR I B.isinstance R (gv_var 0)) fun z => nomatch z) fun d e => ?_)
  subst e
  rfl
theorem ok_asRat {f : Addr} {fd : FuncData} (F : Fun g.K "as_ratio" "as_ratio" sAsRat f fd) (I : CtI c.R g.K) (B : Nb g) (R : g.mg "Ratio" = some (.ref c.R)) : Fo g 1 f fd ["value"] (spAsRat c) := by
  refine fn_ok F scAsRat (fun _ => rfl) fun b x hr sx => ?_
  show GS c _ _ [.da (.rat x)] _
  refine gs_cons (g1_ifB (gb_val (gv_isR I B.isinstance R (gv_var 0))) (fun _ => gs_cons (g1_ret (gv_var 0) fun d e => e)) fun z => nomatch z)
end K33
end
section
set_option Elab.async false
set_option linter.all false
set_option maxRecDepth 100000
set_option exponentiation.threshold 10000
/-! W4: metric.py -/
namespace K33
open PySem L2
variable {c : Cl} {g : Gx}
/-- n rows of n Ratios -/
def mD (n : Nat) (R : Nat → Nat → Rat) : List D := rg n fun x => .tup (rg n fun y => .rat (R x y))
abbrev sTaken : Stmt := top 15
abbrev NT : List Str := ["rows", "row", "item"]
theorem scTaken : FnScope NT ["rows"] (defScope sTaken) := ⟨rfl, rfl, rfl, by decide +kernel, rfl, by decide +kernel, by decide +kernel⟩
abbrev spTaken (c : Cl) : Sp := spG c (fun p : Nat × (Nat → Nat → Rat) => [.da (.tup (mD p.1 p.2))]) (fun p => 0 < p.1 ∧ p.1 ≤ 8) (fun p d => d = .tup (mD p.1 p.2))
theorem ok_taken {f : Addr} {fd : FuncData} (F : Fun g.K "taken_rows" "taken_rows" sTaken f fd) (B : Nb g) (f1 : Fg g 1 "is_rational" (spIsRat c)) (f2 : Fg g 1 "as_ratio" (spAsRat c)) : Fo g 2 f fd ["rows"] (spTaken c) := by
  refine fn_ok F scTaken (fun _ => rfl) fun b ⟨n, R⟩ hr ⟨h0, h8⟩ => ?_
  show GS c _ _ [.da (.tup (mD n R)), .no, .no] _
  have hlen : (mD n R).length = n := rg_len
  refine gs_cons (g1_ifB (gb_or (gb_not (gb_val (gv_isLT B.isinstance B.list B.tuple (gv_var 0)))) fun _ => gb_eqI (gv_lenT B.len (gv_var 0)) gv_int) (fun z => ?_) fun _ => gs_nil ?_)
  · rw [hlen] at z
    replace h0 : 0 < n := h0
    simp at z
    omega
  show GS c _ _ [.da (.tup (mD n R)), .no, .no] _
  refine gs_cons (g1_for (fun _ A => ∃ s1 s2, A = [.da (.tup (mD n R)), s1, s2]) (gi_tup (gv_var 0)) ⟨_, _, rfl⟩ (fun i d A hi yd ⟨s1, s2, e⟩ => ⟨_, tg1_name 1, ?_⟩) fun A ⟨s1, s2, e⟩ => ?_)
  · subst e
    obtain ⟨hn, rfl⟩ := rg_get yd
    show GS c _ _ [.da (.tup (mD n R)), .da (.tup (rg n fun y => .rat (R i y))), s2] _
    refine gs_cons (g1_ifB (gb_or (gb_not (gb_val (gv_isLT B.isinstance B.list B.tuple (gv_var 1)))) fun _ => gb_neI (gv_lenT B.len (gv_var 1)) (gv_lenT B.len (gv_var 0))) (fun z => ?_) fun _ => gs_nil ?_)
    · rw [hlen, rg_len] at z
      simp at z
    refine gs_cons (g1_for (fun _ A => ∃ s1 s2, A = [.da (.tup (mD n R)), s1, s2]) (gi_tup (gv_var 1)) ⟨_, _, rfl⟩ (fun j d A hj yd ⟨s1, s2, e⟩ => ⟨_, tg1_name 2, ?_⟩) fun A ⟨s1, s2, e⟩ => ?_)
    · subst e
      obtain ⟨hm, rfl⟩ := rg_get yd
      show GS c _ _ [.da (.tup (mD n R)), s1, .da (.rat (R i j))] _
      refine gs_cons (g1_ifB (gb_not (gb_val (ge_call f1 hr (ga1 (gv_var 2)) fun ws e => ⟨R i j, e.symm, trivial, fun d e => e⟩))) (fun z => nomatch z) fun _ => gs_nil ?_)
      exact gs_nil ⟨_, _, rfl⟩
    · subst e
      exact gs_nil ⟨_, _, rfl⟩
  · subst e
    refine gs_cons (g1_ret (gv_tupleOf B.tuple (gv_map [("row", 1)] (fun x => .tup (rg n fun y => .rat (R x y))) (gi_tupR (gv_var 0)) (Nat.le_trans h8 (by decide)) (fun i hi => gg_name 1) fun i hi => gv_tupleOf B.tuple (gv_map [("item", 2)] (fun y => .rat (R i y)) (gi_tupR (gv_var 1)) (Nat.le_trans h8 (by decide)) (fun i hi => gg_name 2) fun j hj => ge_call f2 hr (ga1 (gv_var 2)) fun ws e => ⟨_, e.symm, trivial, fun d e => e⟩))) fun d e => ?_)
    subst e
    rfl
end K33
end
section
set_option Elab.async false
set_option linter.all false
set_option maxRecDepth 100000
set_option exponentiation.threshold 10000
/-! W5: methods and operators of Ratio in use; sizes; metric.py -/
namespace K33
open PySem L2
variable {c : Cl} {g : Gx} {X : Fm} {Γ : List Vw}
/-! ### uses -/
section
variable {o a b e : Expr} {m : Str} {pos apos : Pos} {k : Nat} {x y : Rat} {pre1 : Rat → Prop} {post1 : Rat → D → Prop} {pre2 : Rat × Rat → Prop} {post2 : Rat × Rat → D → Prop}
theorem ge_m0 (cl : Cls X.K c.R) (F : Mc X.prog X.w X.K X.mg X.base k c.R m (spG c ar1 pre1 post1)) (hr : Room k X.A) (ho : GV c X o Γ (.rat x)) (hp : pre1 x) (h1 : (m == ("n" : Str)) = false := by decide) (h2 : (m == ("d" : Str)) = false := by decide)
    (hev : ∃ pl : X.ι → Sem Bool, ∀ i, eval (.Call (.Attribute o m apos) [] [] pos) (X.X i).env = (do let ov ← eval o (X.X i).env; standAt apos.atName; let (f, first) ← holding [ov] (getMethod ov m (pl i)); callWith pos f first (backTo pos (starEach [] (X.X i).env)) (backToKw pos (keywordEach [] (X.X i).env))) := by exact ⟨_, fun _ => rfl⟩) : GE c X (.Call (.Attribute o m apos) [] [] pos) Γ (post1 x) := by
  obtain ⟨pl, hev⟩ := hev
  exact ge_meth0 cl F hr ho (fun d e M H v s => in_rat h1 h2 (e ▸ s)) (fun d e => ⟨x, by rw [e], hp, fun _ z => z⟩) hev
theorem ge_m1 (cl : Cls X.K c.R) (F : Mc X.prog X.w X.K X.mg X.base k c.R m (spG c ar2 pre2 post2)) (hr : Room k X.A) (ho : GV c X o Γ (.rat x)) (he : GV c X e Γ (.rat y)) (hp : pre2 (x, y)) (h1 : (m == ("n" : Str)) = false := by decide) (h2 : (m == ("d" : Str)) = false := by decide)
    (hs : ∀ i, starEach [e] (X.X i).env = (false, eval e (X.X i).env) :: starEach [] (X.X i).env := by intro _; rfl) (hpl : ∀ i, (backTo pos (starEach [] (X.X i).env)).any (·.1) = false := by intro _; rfl)
    (hev : ∃ pl : X.ι → Sem Bool, ∀ i, eval (.Call (.Attribute o m apos) [e] [] pos) (X.X i).env = (do let ov ← eval o (X.X i).env; standAt apos.atName; let (f, first) ← holding [ov] (getMethod ov m (pl i)); callWith pos f first (backTo pos (starEach [e] (X.X i).env)) (backToKw pos (keywordEach [] (X.X i).env))) := by exact ⟨_, fun _ => rfl⟩) : GE c X (.Call (.Attribute o m apos) [e] [] pos) Γ (post2 (x, y)) := by
  obtain ⟨pl, hev⟩ := hev
  exact ge_meth cl F hr ho (ga1 he hs) (fun d e M H v s => in_rat h1 h2 (e ▸ s)) (fun d ws e1 e2 => ⟨(x, y), by rw [e1, e2], hp, fun _ z => z⟩) hs hpl hev
theorem ge_o2 {op : Operator} (F : Oc X.prog X.w X.K X.mg X.base k c.R (PySem.dunder op.info.2) (spG c ar2 pre2 post2)) (hc : PySem.W.selfFirst X.K c.R = true) (hr : Room k X.A) (ha : GV c X a Γ (.rat x)) (hb : GV c X b Γ (.rat y)) (hp : pre2 (x, y)) : GE c X (.BinOp a op b pos) Γ (post2 (x, y)) :=
  ge_own2 F hc hr ha hb ⟨(x, y), rfl, hp, fun _ z => z⟩
theorem ge_o1 (F : Oc X.prog X.w X.K X.mg X.base k c.R "__neg__" (spG c ar1 pre1 post1)) (hr : Room k X.A) (ha : GV c X a Γ (.rat x)) (hp : pre1 x) : GE c X (.UnaryOp .USub a pos) Γ (post1 x) := ge_ownNeg F hr ha ⟨x, rfl, hp, fun _ z => z⟩
end
/-! ### sizes -/
def Bq (k : Nat) (q : Rat) : Prop := q.num.natAbs < 2 ^ k ∧ q.den < 2 ^ k
theorem Bq.sz {k : Nat} {q : Rat} (h : Bq k q) (hk : k ≤ 4000) : Sz q := ⟨Nat.lt_of_lt_of_le h.1 (Nat.pow_le_pow_right (by decide) hk), Nat.lt_of_lt_of_le h.2 (Nat.pow_le_pow_right (by decide) hk)⟩
theorem Bq.mono {j k : Nat} {q : Rat} (h : Bq j q) (hk : j ≤ k) : Bq k q := ⟨Nat.lt_of_lt_of_le h.1 (Nat.pow_le_pow_right (by decide) hk), Nat.lt_of_lt_of_le h.2 (Nat.pow_le_pow_right (by decide) hk)⟩
theorem divInt_num_le (n d : Int) (hd : 0 < d) : (Rat.divInt n d).num.natAbs ≤ n.natAbs := by
  have hp : 0 < Int.gcd n d := Int.gcd_pos_of_ne_zero_right _ (by omega)
  rw [divInt_n n d hd]
  have h1 : ((n / (Int.gcd n d : Int)) * (Int.gcd n d : Int)) = n := Int.ediv_mul_cancel (Int.gcd_dvd_left _ _)
  have h2 : n.natAbs = (n / (Int.gcd n d : Int)).natAbs * Int.gcd n d := by
    have := congrArg Int.natAbs h1
    rw [Int.natAbs_mul, Int.natAbs_natCast] at this
    exact this.symm
  rw [h2]
  exact Nat.le_mul_of_pos_right _ hp
theorem divInt_den_le (n d : Int) (hd : 0 < d) : (Rat.divInt n d).den ≤ d.natAbs := by
  rw [Rat.den_divInt, if_neg (by omega)]
  exact Nat.div_le_self _ _
theorem natAbs_add_lt {k : Nat} {i j : Int} (h1 : i.natAbs < 2 ^ k) (h2 : j.natAbs < 2 ^ k) : (i + j).natAbs < 2 ^ (k + 1) := by
  have := Int.natAbs_add_le i j
  rw [Nat.pow_succ]
  omega
theorem natAbs_mul_lt {a b : Nat} {i j : Int} (h1 : i.natAbs < 2 ^ a) (h2 : j.natAbs < 2 ^ b) : (i * j).natAbs < 2 ^ (a + b) := by
  rw [Int.natAbs_mul, Nat.pow_add]
  exact Nat.mul_lt_mul'' h1 h2
theorem Bq.of {n d : Int} {k : Nat} (hd : 0 < d) (h1 : n.natAbs < 2 ^ k) (h2 : d.natAbs < 2 ^ k) : Bq k (Rat.divInt n d) := ⟨Nat.lt_of_le_of_lt (divInt_num_le n d hd) h1, Nat.lt_of_le_of_lt (divInt_den_le n d hd) h2⟩
theorem denp (x y : Rat) : (0 : Int) < x.den * y.den := by have := x.den_pos; have := y.den_pos; exact Int.mul_pos (by omega) (by omega)
theorem natk {k n : Nat} (h : n < 2 ^ k) : (n : Int).natAbs < 2 ^ k := by rw [Int.natAbs_natCast]; exact h
theorem Bq.add {k : Nat} {x y : Rat} (hx : Bq k x) (hy : Bq k y) : Bq (k + k + 1) (x + y) := by
  rw [← rat_add]
  exact .of (denp x y) (natAbs_add_lt (natAbs_mul_lt hx.1 (natk hy.2)) (natAbs_mul_lt hy.1 (natk hx.2))) (Nat.lt_of_lt_of_le (natAbs_mul_lt (natk hx.2) (natk hy.2)) (Nat.pow_le_pow_right (by decide) (Nat.le_succ _)))
theorem Bq.sub {k : Nat} {x y : Rat} (hx : Bq k x) (hy : Bq k y) : Bq (k + k + 1) (x - y) := by
  rw [← rat_sub, Int.sub_eq_add_neg]
  exact .of (denp x y) (natAbs_add_lt (natAbs_mul_lt hx.1 (natk hy.2)) (by rw [Int.natAbs_neg]; exact natAbs_mul_lt hy.1 (natk hx.2))) (Nat.lt_of_lt_of_le (natAbs_mul_lt (natk hx.2) (natk hy.2)) (Nat.pow_le_pow_right (by decide) (Nat.le_succ _)))
theorem Bq.mul {k : Nat} {x y : Rat} (hx : Bq k x) (hy : Bq k y) : Bq (k + k) (x * y) := by
  rw [← rat_mul]
  exact .of (denp x y) (natAbs_mul_lt hx.1 hy.1) (natAbs_mul_lt (natk hx.2) (natk hy.2))
theorem Bq.neg {k : Nat} {x : Rat} (hx : Bq k x) : Bq k (-x) := by
  refine ⟨?_, ?_⟩
  · rw [Rat.neg_num, Int.natAbs_neg]; exact hx.1
  · rw [Rat.neg_den]; exact hx.2
/-- what the text's facts give of Ratio -/
structure Rt (c : Cl) (g : Gx) : Prop where
  ct : Ct c g.K
  isR : CtI c.R g.K
  nm : g.mg "Ratio" = some (.ref c.R)
  sf : PySem.W.selfFirst g.K c.R = true
  ne : PySem.W.findIn g.K (.ref c.R) "__ne__" = some (some (.builtin "object.__ne__"))
  mr : RM c g
  eq : Og g 1 c.R "__eq__" (spREq c)
  add : Og g 3 c.R "__add__" (spRAdd c)
  sub : Og g 3 c.R "__sub__" (spRSub c)
  mul : Og g 3 c.R "__mul__" (spRMul c)
  neg : Og g 3 c.R "__neg__" (spRNeg c)
  isz : Mg g 1 c.R "is_zero" (spRZ c)
  sgn : Mg g 1 c.R "sign" (spRSg c)
  ovr : Mg g 3 c.R "over" (spROver c)
abbrev XG (X : Fm) : Gx := ⟨X.prog, X.w, X.K, X.mg, X.base⟩
section
variable {o a b e : Expr} {pos apos : Pos} {x y : Rat}
theorem gv_radd (T : Rt c (XG X)) (hr : Room 3 X.A) (ha : GV c X a Γ (.rat x)) (hb : GV c X b Γ (.rat y)) (sx : Sz x) (sy : Sz y) : GV c X (.BinOp a .Add b pos) Γ (.rat (x + y)) := ge_o2 (op := .Add) T.add T.sf hr ha hb ⟨sx, sy⟩
theorem gv_rsub (T : Rt c (XG X)) (hr : Room 3 X.A) (ha : GV c X a Γ (.rat x)) (hb : GV c X b Γ (.rat y)) (sx : Sz x) (sy : Sz y) : GV c X (.BinOp a .Sub b pos) Γ (.rat (x - y)) := ge_o2 (op := .Sub) T.sub T.sf hr ha hb ⟨sx, sy⟩
theorem gv_rmul (T : Rt c (XG X)) (hr : Room 3 X.A) (ha : GV c X a Γ (.rat x)) (hb : GV c X b Γ (.rat y)) (sx : Sz x) (sy : Sz y) : GV c X (.BinOp a .Mult b pos) Γ (.rat (x * y)) := ge_o2 (op := .Mult) T.mul T.sf hr ha hb ⟨sx, sy⟩
theorem gv_rneg (T : Rt c (XG X)) (hr : Room 3 X.A) (ha : GV c X a Γ (.rat x)) (sx : Sz x) : GV c X (.UnaryOp .USub a pos) Γ (.rat (-x)) := ge_o1 T.neg hr ha sx
theorem gv_isz (T : Rt c (XG X)) (hr : Room 1 X.A) (ho : GV c X o Γ (.rat x))
    (hev : ∃ pl : X.ι → Sem Bool, ∀ i, eval (.Call (.Attribute o "is_zero" apos) [] [] pos) (X.X i).env = (do let ov ← eval o (X.X i).env; standAt apos.atName; let (f, first) ← holding [ov] (getMethod ov "is_zero" (pl i)); callWith pos f first (backTo pos (starEach [] (X.X i).env)) (backToKw pos (keywordEach [] (X.X i).env))) := by exact ⟨_, fun _ => rfl⟩) : GV c X (.Call (.Attribute o "is_zero" apos) [] [] pos) Γ (.bl (decide (x = 0))) := ge_m0 T.ct.clR T.isz hr ho trivial (by decide) (by decide) hev
theorem gv_sgn (T : Rt c (XG X)) (hr : Room 1 X.A) (ho : GV c X o Γ (.rat x))
    (hev : ∃ pl : X.ι → Sem Bool, ∀ i, eval (.Call (.Attribute o "sign" apos) [] [] pos) (X.X i).env = (do let ov ← eval o (X.X i).env; standAt apos.atName; let (f, first) ← holding [ov] (getMethod ov "sign" (pl i)); callWith pos f first (backTo pos (starEach [] (X.X i).env)) (backToKw pos (keywordEach [] (X.X i).env))) := by exact ⟨_, fun _ => rfl⟩) : GV c X (.Call (.Attribute o "sign" apos) [] [] pos) Γ (.int x.num.sign) := ge_m0 T.ct.clR T.sgn hr ho trivial (by decide) (by decide) hev
theorem gv_over (T : Rt c (XG X)) (hr : Room 3 X.A) (ho : GV c X o Γ (.rat x)) (he : GV c X e Γ (.rat y)) (sx : Sz x) (sy : Sz y) (h0 : y ≠ 0)
    (hs : ∀ i, starEach [e] (X.X i).env = (false, eval e (X.X i).env) :: starEach [] (X.X i).env := by intro _; rfl) (hpl : ∀ i, (backTo pos (starEach [] (X.X i).env)).any (·.1) = false := by intro _; rfl)
    (hev : ∃ pl : X.ι → Sem Bool, ∀ i, eval (.Call (.Attribute o "over" apos) [e] [] pos) (X.X i).env = (do let ov ← eval o (X.X i).env; standAt apos.atName; let (f, first) ← holding [ov] (getMethod ov "over" (pl i)); callWith pos f first (backTo pos (starEach [e] (X.X i).env)) (backToKw pos (keywordEach [] (X.X i).env))) := by exact ⟨_, fun _ => rfl⟩) : GV c X (.Call (.Attribute o "over" apos) [e] [] pos) Γ (.rat (x / y)) := ge_m1 T.ct.clR T.ovr hr ho he ⟨sx, sy, h0⟩ (by decide) (by decide) hs hpl hev
theorem gb_rne (T : Rt c (XG X)) (hr : Room 2 X.A) (ha : GV c X a Γ (.rat x)) (hb : GV c X b Γ (.rat y)) : GB c X (.Compare a [.NotEq] [b] pos) Γ (!decide (x = y)) := gb_ownNe T.eq T.ne T.isR.ob hr ha hb ⟨(x, y), rfl, trivial, fun d e => e⟩
end
/-- a metric -/
structure Met (n : Nat) (R : Nat → Nat → Rat) : Prop where
  pos : 0 < n
  le : n ≤ 8
  zer : ∀ x, x < n → R x x = 0
  sym : ∀ x y, x < n → y < n → R x y = R y x
  tri : ∀ x y z, x < n → y < n → z < n → R x z ≤ R x y + R y z
  apa : ∀ x y, x < n → y < n → x ≠ y → 0 < R x y
  siz : ∀ x y, x < n → y < n → Bq 100 (R x y)
abbrev mArg : Nat × (Nat → Nat → Rat) → List Vw := fun p => [.da (.tup (mD p.1 p.2))]
abbrev sKeeps : Stmt := top 16
abbrev sApart : Stmt := top 17
abbrev NK : List Str := ["rows", "n", "x", "y", "z"]
theorem scKeeps : FnScope NK ["rows"] (defScope sKeeps) := ⟨rfl, rfl, rfl, by decide +kernel, rfl, by decide +kernel, by decide +kernel⟩
abbrev NA : List Str := ["rows", "x", "y"]
theorem scApart : FnScope NA ["rows"] (defScope sApart) := ⟨rfl, rfl, rfl, by decide +kernel, rfl, by decide +kernel, by decide +kernel⟩
abbrev spKeeps (c : Cl) : Sp := spG c mArg (fun p => Met p.1 p.2) (fun p d => d = .bl true)
theorem gv_rowIx {n : Nat} {R : Nat → Nat → Rat} {a b e : Expr} {p1 p2 : Pos} {x y : Nat} (hx : x < n) (hy : y < n) (ha : GV c X a Γ (.tup (mD n R))) (hb : GV c X b Γ (.int x)) (he : GV c X e Γ (.int y)) (h1 : PlainIx b := by exact fun _ _ => rfl) (h2 : PlainIx e := by exact fun _ _ => rfl) : GV c X (.Subscript (.Subscript a b p1) e p2) Γ (.rat (R x y)) :=
  gv_ixTn (gv_ixTn ha hb (rg_at hx) h1) he (rg_at hy) h2
theorem sign_nn {q : Rat} (h : 0 ≤ q) : decide (q.num.sign < 0) = false := by
  have h1 : 0 ≤ q.num := Rat.num_nonneg.mpr h
  have h2 : 0 ≤ q.num.sign := Int.sign_nonneg_iff.mpr h1
  exact decide_eq_false (by omega)
theorem ok_keeps {f : Addr} {fd : FuncData} (F : Fun g.K "keeps_triangles" "keeps_triangles" sKeeps f fd) (B : Nb g) (T : Rt c g) : Fo g 4 f fd ["rows"] (spKeeps c) := by
  refine fn_ok F scKeeps (fun _ => rfl) fun b ⟨n, R⟩ hr hM => ?_
  replace hM : Met n R := hM
  have h8 : n ≤ 1000000 := Nat.le_trans hM.le (by decide)
  show GS c _ _ [.da (.tup (mD n R)), .no, .no, .no, .no] _
  refine gs_cons (g1_asgE (psN 1) (gv_lenT B.len (gv_var 0)) fun d e => ?_)
  subst e
  rw [show (mD n R).length = n from rg_len]
  show GS c _ _ [.da (.tup (mD n R)), .da (.int n), .no, .no, .no] _
  refine gs_cons (g1_for (fun _ A => ∃ s1 s2 s3, A = [.da (.tup (mD n R)), .da (.int n), s1, s2, s3]) (gi_range1 B.range (gv_var 1) h8) ⟨_, _, _, rfl⟩ (fun x d A hx yd ⟨s1, s2, s3, e⟩ => ⟨_, tg1_name 2, ?_⟩) fun A ⟨s1, s2, s3, e⟩ => ?_)
  · subst e yd
    show GS c _ _ [.da (.tup (mD n R)), .da (.int n), .da (.int x), s2, s3] _
    refine gs_cons (g1_ifB (gb_not (gb_val (gv_isz T (hr.mono (by decide)) (gv_rowIx hx hx (gv_var 0) (gv_var 2) (gv_var 2))))) (fun z => by rw [hM.zer x hx] at z; simp at z) fun _ => gs_nil ?_)
    refine gs_cons (g1_for (fun _ A => ∃ s1 s2, A = [.da (.tup (mD n R)), .da (.int n), .da (.int x), s1, s2]) (gi_range1 B.range (gv_var 1) h8) ⟨_, _, rfl⟩ (fun y d A hy yd ⟨s1, s2, e⟩ => ⟨_, tg1_name 3, ?_⟩) fun A ⟨s1, s2, e⟩ => ?_)
    · subst e yd
      show GS c _ _ [.da (.tup (mD n R)), .da (.int n), .da (.int x), .da (.int y), s2] _
      refine gs_cons (g1_ifB (gb_rne T (hr.mono (by decide)) (gv_rowIx hx hy (gv_var 0) (gv_var 2) (gv_var 3)) (gv_rowIx hy hx (gv_var 0) (gv_var 3) (gv_var 2))) (fun z => ?_) fun _ => gs_nil ?_)
      · rw [hM.sym x y hx hy] at z; simp at z
      refine gs_cons (g1_for (fun _ A => ∃ s1, A = [.da (.tup (mD n R)), .da (.int n), .da (.int x), .da (.int y), s1]) (gi_range1 B.range (gv_var 1) h8) ⟨_, rfl⟩ (fun z d A hz yd ⟨s1, e⟩ => ⟨_, tg1_name 4, ?_⟩) fun A ⟨s1, e⟩ => ?_)
      · subst e yd
        show GS c _ _ [.da (.tup (mD n R)), .da (.int n), .da (.int x), .da (.int y), .da (.int z)] _
        have s1 := (hM.siz x y hx hy).add (hM.siz y z hy hz)
        refine gs_cons (g1_ifB (gb_lt (gv_sgn T (hr.mono (by decide)) (gv_rsub T hr (gv_radd T hr (gv_rowIx hx hy (gv_var 0) (gv_var 2) (gv_var 3)) (gv_rowIx hy hz (gv_var 0) (gv_var 3) (gv_var 4)) ((hM.siz x y hx hy).sz (by decide)) ((hM.siz y z hy hz).sz (by decide))) (gv_rowIx hx hz (gv_var 0) (gv_var 2) (gv_var 4)) (s1.sz (by decide)) ((hM.siz x z hx hz).sz (by decide)))) gv_int) (fun w => ?_) fun _ => gs_nil (gs_nil ⟨_, rfl⟩))
        have h0 : 0 ≤ R x y + R y z - R x z := by
          have := hM.tri x y z hx hy hz
          grind
        have := sign_nn h0
        exact absurd w (by rw [this]; simp)
      · subst e
        exact gs_nil ⟨_, _, rfl⟩
    · subst e
      exact gs_nil ⟨_, _, _, rfl⟩
  · subst e
    exact gs_cons (g1_ret gv_bl fun d e => e)
end K33
end
section
set_option Elab.async false
set_option linter.all false
set_option maxRecDepth 100000
set_option exponentiation.threshold 10000
/-! W6: metric.py, the class Metric -/
namespace K33
open PySem L2
variable {c : Cl} {g : Gx}
theorem sign_pos {q : Rat} (h : 0 < q) : decide (q.num.sign ≤ 0) = false := by
  have h1 : 0 < q.num := by
    have h0 : 0 ≤ q.num := Rat.num_nonneg.mpr (Rat.le_of_lt h)
    have h2 : q.num ≠ 0 := fun z => by rw [Rat.num_eq_zero.mp z] at h; exact Rat.lt_irrefl h
    omega
  rw [Int.sign_eq_one_of_pos h1]
  rfl
theorem ok_apart {f : Addr} {fd : FuncData} (F : Fun g.K "is_apart" "is_apart" sApart f fd) (B : Nb g) (T : Rt c g) : Fo g 2 f fd ["rows"] (spKeeps c) := by
  refine fn_ok F scApart (fun _ => rfl) fun b ⟨n, R⟩ hr hM => ?_
  replace hM : Met n R := hM
  have h8 : n ≤ 1000000 := Nat.le_trans hM.le (by decide)
  show GS c _ _ [.da (.tup (mD n R)), .no, .no] _
  refine gs_cons (g1_for (fun _ A => ∃ s1 s2, A = [.da (.tup (mD n R)), s1, s2]) (gi_range1 (n := n) B.range ((gv_lenT B.len (gv_var 0)).eq (by rw [show (mD n R).length = n from rg_len])) h8) ⟨_, _, rfl⟩ (fun x d A hx yd ⟨s1, s2, e⟩ => ⟨_, tg1_name 1, ?_⟩) fun A ⟨s1, s2, e⟩ => ?_)
  · subst e yd
    show GS c _ _ [.da (.tup (mD n R)), .da (.int x), s2] _
    refine gs_cons (g1_for (fun _ A => ∃ s2, A = [.da (.tup (mD n R)), .da (.int x), s2]) (gi_range1 B.range (gv_var 1) (by omega)) ⟨_, rfl⟩ (fun y d A hy yd ⟨s2, e⟩ => ⟨_, tg1_name 2, ?_⟩) fun A ⟨s2, e⟩ => ?_)
    · subst e yd
      show GS c _ _ [.da (.tup (mD n R)), .da (.int x), .da (.int y)] _
      have hy' : y < n := Nat.lt_trans hy hx
      refine gs_cons (g1_ifB (gb_le (gv_sgn T hr (gv_rowIx hx hy' (gv_var 0) (gv_var 1) (gv_var 2))) gv_int) (fun w => ?_) fun _ => gs_nil (gs_nil ⟨_, rfl⟩))
      exact absurd w (by rw [sign_pos (hM.apa x y hx hy' (by omega))]; simp)
    · subst e
      exact gs_nil ⟨_, _, rfl⟩
  · subst e
    exact gs_cons (g1_ret gv_bl fun d e => e)
abbrev mPr : List D → Nat → List D → Prop := fun ds n rs => ∃ R, ds = mD n R ∧ rs = mD n R ∧ Met n R
abbrev sMI : Stmt := inClass (top 18) 0
abbrev NMI : List Str := ["self", "rows", "own"]
theorem scMI : FnScope NMI ["self", "rows"] (defScope sMI) := ⟨rfl, rfl, rfl, by decide +kernel, rfl, by decide +kernel, by decide +kernel⟩
theorem fs2 {n : Int} {b : Addr} : putF "rows" (.ref b) (putF "n" (.int n) []) = metF n b := by
  have h : ¬ (("n" : Str) = "rows") := by decide +kernel
  show (if ("n" : Str) = "rows" then [(("n" : Str), V.ref b)] else (("n" : Str), V.int n) :: putF "rows" (V.ref b) []) = _
  rw [if_neg h]
  rfl
theorem Is.upd {G : Hp} {M : Addr → Prop} {H : Hp} {p dx C : Addr} {fs fs' : List (Str × V)} {v : V} {d : D} (hp : H p = some (.ins C dx fs)) (h1 : ∀ n m, fs ≠ ratF n m) (h2 : ∀ n b, fs ≠ metF n b) (s : Is c (hid M H) v d) : Is c (hid M (upd H p (.ins C dx fs'))) v d := by
  have keep : ∀ {a : Addr} {o : HO}, hid M H a = some o → o ≠ .ins C dx fs → hid M (L2.upd H p (.ins C dx fs')) a = some o := fun {a o} e n => by
    obtain ⟨e1, e2⟩ := hid_some.mp e
    refine hid_some.mpr ⟨e1, ?_⟩
    rw [upd_ne (fun z => n (by rw [z, hp] at e2; exact (Option.some.inj e2).symm))]
    exact e2
  induction s with
  | non => exact .non
  | bl b => exact .bl b
  | int i => exact .int i
  | str s => exact .str s
  | rat h => exact .rat (keep h fun z => by cases z; exact h1 _ _ rfl)
  | tup h l i ih => exact .tup (keep h fun z => nomatch z) l ih
  | lst h l i ih => exact .lst (keep h fun z => nomatch z) l ih
  | met h r ih => exact .met (keep h fun z => by cases z; exact h2 _ _ rfl) ih
theorem ok_MI {f : Addr} {fd : FuncData} (F : Fun g.K "__init__" "Metric.__init__" sMI f fd) (B : Nb g) (T : Rt c g) {t : Tok} (hM8 : g.mg "MOST" = some (.int 8 t)) (f1 : Fg g 2 "taken_rows" (spTaken c)) (f2 : Fg g 4 "keeps_triangles" (spKeeps c)) (f3 : Fg g 2 "is_apart" (spKeeps c)) : Fo g 5 f fd ["self", "rows"] (spMI c mPr) := by
  refine F.ok scMI (fun vs H Q E h => ?_) (fun cdv A outer s H vs Q E hr h => ?_)
  · obtain ⟨M, B, p, dx, v, ds, n, rs, rfl, _⟩ := h
    rfl
  · obtain ⟨M, Bo, p, dx, v, _, n, _, rfl, hc, sv, ⟨R, rfl, rfl, hM⟩, hp, k⟩ := h
    have hlen : (mD n R).length = n := rg_len
    have key : wSs (fmN g _ (defScope sMI) scMI.nd ⟨CX0, "Metric.__init__", f, cdv, A, outer, s, H, E⟩) (defBody sMI) { nx := fun _ H' => Q .non H', rt := Q } (L2.start NMI [.ref p, v]) H := by
      have r0 := rs_entryR (c := c) (N := NMI) (v := .ref p) (vs := [v]) (ws := [.da (.tup (mD n R))]) hc (.cons sv .nil)
      replace r0 : RS c [.raw (.ref p), .da (.tup (mD n R)), .no] _ _ _ _ _ _ := r0
      refine gs_then (K := ⟨fun A' => A' = [.raw (.ref p), .da (.tup (mD n R)), .da (.tup (mD n R))], fun _ => False, fun _ => False, fun _ => False⟩) (g1_asgE (psN 2) (ge_call f1 (hr.mono (by decide)) (ga1 (gv_var 1)) fun ws e => ⟨(n, R), e.symm, ⟨hM.pos, hM.le⟩, fun d e => e⟩) fun x e => by subst e; rfl) r0 (fun A1 σ1 H1 e1 r1 => ?_) (fun _ z => z) (fun _ z => z) (fun _ z => z)
      subst e1
      refine gs_then (K := ⟨fun A' => A' = [.raw (.ref p), .da (.tup (mD n R)), .da (.tup (mD n R))], fun _ => False, fun _ => False, fun _ => False⟩) (g1_ifB (gb_gt (gv_lenT B.len (gv_var 2)) (gv_glob hM8)) (fun z => ?_) (fun _ => gs_nil rfl)) r1 (fun A2 σ2 H2 e2 r2 => ?_) (fun _ z => z) (fun _ z => z) (fun _ z => z)
      · rw [hlen] at z
        have h8 := hM.le
        have : ¬ ((8 : Int) < n) := by omega
        simp [this] at z
      subst e2
      refine gs_then (K := ⟨fun A' => A' = [.raw (.ref p), .da (.tup (mD n R)), .da (.tup (mD n R))], fun _ => False, fun _ => False, fun _ => False⟩) (g1_ifB (gb_or (gb_not (gb_val (ge_call f2 hr (ga1 (gv_var 2)) fun ws e => ⟨(n, R), e.symm, hM, fun d e => e⟩))) fun _ => gb_not (gb_val (ge_call f3 (hr.mono (by decide)) (ga1 (gv_var 2)) fun ws e => ⟨(n, R), e.symm, hM, fun d e => e⟩))) (fun z => ?_) (fun _ => gs_nil rfl)) r2 (fun A3 σ3 H3 e3 r3 => ?_) (fun _ z => z) (fun _ z => z) (fun _ z => z)
      · simp at z
      subst e3
      obtain ⟨F3, r3⟩ := r3
      have hs0 : σ3[0]? = some (some (.ref p)) := by
        obtain ⟨s, e, q⟩ := r3.sl 0 _ rfl
        rw [e, q.2]
      have nB : Bo ≠ some p := fun e => by
        obtain ⟨_, _, _, z⟩ := hc.st p e
        rw [hp] at z; cases z
      have hp3 : H3 p = some (.ins c.M dx []) := r3.ex p _ nB hp
      refine ⟨_, fun i => pss_cons (psFld 0 (j := i)) (pss_one (psFld 0 (j := i))), ?_⟩
      refine ge_app r3.v0 r3.hc (gv_lenT B.len (gv_var 2)) fun x v4 H4 t4 e4 s4 => ?_
      subst e4
      rw [s4.intE, hlen]
      have hp4 : H4 p = some (.ins c.M dx []) := t4.ex p _ nB hp3
      refine ⟨_, hs0, p, c.M, dx, [], rfl, hp4, T.ct.clM, T.ct.mN, (by show 0 < 1000; decide), ?_⟩
      have r4 := r3.to t4
      obtain ⟨w, hw, sw⟩ := r4.v0.at_ 2 (.da (.tup (mD n R))) rfl (fun z => nomatch z)
      replace sw : Is c (hid (MF M F3) H4) w (.tup (mD n R)) := sw
      refine ⟨_, fun i => pe_var (i := 2) rfl (Or.inl rfl), w, hw, ?_⟩
      refine ⟨_, hs0, p, c.M, dx, _, rfl, upd_same, T.ct.clM, T.ct.mR, (by show 1 < 1000; decide), ?_⟩
      obtain ⟨b, vs, rfl, _, _⟩ := sw.tupE
      rw [fs2]
      have e5 : upd (upd H4 p (.ins c.M dx (putF "n" (.int n) []))) p (.ins c.M dx (metF n b)) = upd H4 p (.ins c.M dx (metF n b)) := by
        funext a
        by_cases e : a = p
        · subst e; rw [upd_same, upd_same]
        · rw [upd_ne e, upd_ne e, upd_ne e]
      rw [e5]
      refine k b _ (fun a o na nb ho => ?_) (fun a ea => ?_) upd_same ?_
      · rw [upd_ne na]
        exact t4.ex a o nb (r3.ex a o nb ho)
      · have : a ≠ p := fun z => nB (by rw [← z]; exact ea)
        rw [upd_ne this]
        exact t4.st a ea
      · exact (Is.upd (G := H) hp4 (fun _ _ z => nomatch z) (fun _ _ z => nomatch z) sw).mono (hid_sub fun b z => .inl z)
    obtain ⟨t, ht, tq⟩ := key
    exact ⟨t, ht (), tq⟩
/-! ### pairs -/
/-- the pairs x < y, row by row -/
def prs {α : Type} (n : Nat) (f : Nat → Nat → α) : List α := (List.range n).flatMap fun x => rg (n - (x + 1)) fun k => f x (x + 1 + k)
abbrev sPairs : Stmt := inClass (top 18) 4
abbrev NP : List Str := ["self", "found", "x", "y"]
theorem scPairs : FnScope NP ["self"] (defScope sPairs) := ⟨rfl, rfl, rfl, by decide +kernel, rfl, by decide +kernel, by decide +kernel⟩
abbrev metArg : Nat × (Nat → Nat → Rat) → List Vw := fun p => [.da (.met p.1 (mD p.1 p.2))]
abbrev spPairs (c : Cl) : Sp := spG c metArg (fun p => p.1 ≤ 8) (fun p d => d = .tup (prs p.1 fun x y => .rat (p.2 x y)))
theorem flat_succ {α : Type} (n i : Nat) (f : Nat → List α) : (List.range (i + 1)).flatMap f = (List.range i).flatMap f ++ f i := by
  rw [List.range_succ, List.flatMap_append]; simp
theorem flat_len {α : Type} {f : Nat → List α} {k : Nat} (h : ∀ x, (f x).length ≤ k) : ∀ i, ((List.range i).flatMap f).length ≤ i * k
  | 0 => by simp
  | i + 1 => by
    rw [flat_succ i, List.length_append, Nat.succ_mul]
    have := flat_len h i
    have := h i
    omega
theorem ok_pairs {f : Addr} {fd : FuncData} (F : Fun g.K "pairs" "Metric.pairs" sPairs f fd) (B : Nb g) (T : Rt c g) : Fo g 1 f fd ["self"] (spPairs c) := by
  refine fn_ok F scPairs (fun _ => rfl) fun b ⟨n, R⟩ hr h8 => ?_
  replace h8 : n ≤ 8 := h8
  have hn6 : n ≤ 1000000 := Nat.le_trans h8 (by decide)
  show GS c _ _ [.da (.met n (mD n R)), .no, .no, .no] _
  refine gs_cons (g1_asgE (psN 1) (gl_lst (ds := []) ga_nil).gv fun d e => ?_)
  subst e
  show GS c _ _ [.da (.met n (mD n R)), .da (.lst []), .no, .no] _
  refine gs_cons (g1_for (fun i A => ∃ s1 s2, A = [.da (.met n (mD n R)), .da (.lst ((List.range i).flatMap fun x => rg (n - (x + 1)) fun k => .rat (R x (x + 1 + k)))), s1, s2]) (gi_range1 B.range (gv_mn T.ct (gv_var 0)) hn6) ⟨_, _, rfl⟩ (fun x d A hx yd ⟨s1, s2, e⟩ => ⟨_, tg1_name 2, ?_⟩) fun A ⟨s1, s2, e⟩ => ?_)
  · subst e yd
    show GS c _ _ [.da (.met n (mD n R)), .da (.lst ((List.range x).flatMap fun x => rg (n - (x + 1)) fun k => .rat (R x (x + 1 + k)))), .da (.int x), s2] _
    have hx6 : x + 1 ≤ 1000000 := by omega
    refine gs_cons (g1_asgE (psN 1) (gl_cat (gv_var 1) (gv_map [("y", 3)] (fun k => .rat (R x (x + 1 + k))) (gi_range2N B.range (gv_succ (gv_var 2)) (gv_mn T.ct (gv_var 0)) hx6 hn6) (by omega) (fun i hi => gg_name 3) fun i hi => gv_rowIx (x := x) (y := x + 1 + i) hx (by omega) (gv_mr T.ct (gv_var 0)) (gv_var 2) (gv_var 3)) ?_).gv fun d e => ?_)
    · have := flat_len (f := fun x => rg (n - (x + 1)) fun k => D.rat (R x (x + 1 + k))) (k := 8) (fun x => by rw [rg_len]; omega) x
      rw [rg_len]
      have : x * 8 ≤ 8 * 8 := Nat.mul_le_mul_right 8 (by omega)
      omega
    · subst e
      rw [← flat_succ x x fun x => rg (n - (x + 1)) fun k => D.rat (R x (x + 1 + k))]
      exact gs_nil ⟨_, _, rfl⟩
  · subst e
    exact gs_cons (g1_ret (gv_tupleOf B.tuple (gv_var 1)) fun d e => e)
end K33
end
section
set_option Elab.async false
set_option linter.all false
set_option maxRecDepth 100000
set_option exponentiation.threshold 10000
/-! W7: build.py, pair_row, cut_columns -/
namespace K33
open PySem L2
variable {c : Cl} {g : Gx}
abbrev sIsInt : Stmt := top 8
abbrev sCount : Stmt := top 20
abbrev sPoints : Stmt := top 21
abbrev sSplits : Stmt := top 22
abbrev sIsSplit : Stmt := top 23
abbrev sCutRows : Stmt := top 24
theorem scIsInt : FnScope ["value"] ["value"] (defScope sIsInt) := ⟨rfl, rfl, rfl, by decide +kernel, rfl, by decide +kernel, by decide +kernel⟩
theorem scCount : FnScope ["n"] ["n"] (defScope sCount) := ⟨rfl, rfl, rfl, by decide +kernel, rfl, by decide +kernel, by decide +kernel⟩
theorem scPoints : FnScope ["n"] ["n"] (defScope sPoints) := ⟨rfl, rfl, rfl, by decide +kernel, rfl, by decide +kernel, by decide +kernel⟩
abbrev NS : List Str := ["n", "found", "x", "row"]
theorem scSplits : FnScope NS ["n"] (defScope sSplits) := ⟨rfl, rfl, rfl, by decide +kernel, rfl, by decide +kernel, by decide +kernel⟩
abbrev NIs : List Str := ["n", "value", "x"]
theorem scIsSplit : FnScope NIs ["n", "value"] (defScope sIsSplit) := ⟨rfl, rfl, rfl, by decide +kernel, rfl, by decide +kernel, by decide +kernel⟩
abbrev NCR : List Str := ["n", "split", "rows", "x", "y"]
theorem scCutRows : FnScope NCR ["n", "split"] (defScope sCutRows) := ⟨rfl, rfl, rfl, by decide +kernel, rfl, by decide +kernel, by decide +kernel⟩
abbrev spIsInt (c : Cl) : Sp := spG c (fun i : Int => [.da (.int i)]) (fun _ => True) (fun _ d => d = .bl true)
abbrev spCount (c : Cl) : Sp := spG c (fun n : Nat => [.da (.int (n : Int))]) (fun n => 1 ≤ n ∧ n ≤ 8) (fun _ d => d = .non)
theorem ok_isInt {f : Addr} {fd : FuncData} (F : Fun g.K "is_integer" "is_integer" sIsInt f fd) (B : Nb g) : Fo g 1 f fd ["value"] (spIsInt c) := by
  refine fn_ok F scIsInt (fun _ => rfl) fun b i hr _ => ?_
  show GS c _ _ [.da (.int i)] _
  exact gs_cons (g1_ret (gv_and (gv_isi (t := "int") (b := true) rfl (by decide +kernel) B.isinstance B.int PyProof.Rows.boot_int (gv_var 0)) fun _ => gv_one (gv_notV (gv_isi (t := "int") (b := false) rfl (by decide +kernel) B.isinstance B.bool PyProof.Rows.boot_bool (gv_var 0)))) fun d e => e)
theorem ok_count {f : Addr} {fd : FuncData} (F : Fun g.K "check_count" "check_count" sCount f fd) (f1 : Fg g 1 "is_integer" (spIsInt c)) : Fo g 2 f fd ["n"] (spCount c) := by
  refine fn_ok F scCount (fun _ => rfl) fun b n hr ⟨h1, h8⟩ => ?_
  show GS c _ _ [.da (.int (n : Int))] _
  refine gs_cons (g1_ifB (gb_or (gb_not (gb_val (ge_call f1 hr (ga1 (gv_var 0)) fun ws e => ⟨_, e.symm, trivial, fun d e => e⟩))) fun _ => gb_lt (gv_var 0) gv_int) (fun z => ?_) fun _ => gs_nil (gs_nil rfl))
  have : ¬ ((n : Int) < 1) := by omega
  simp [this] at z
theorem ok_points {f : Addr} {fd : FuncData} (F : Fun g.K "check_points" "check_points" sPoints f fd) {t : Tok} (hM8 : g.mg "MOST" = some (.int 8 t)) (f1 : Fg g 2 "check_count" (spCount c)) : Fo g 3 f fd ["n"] (spCount c) := by
  refine fn_ok F scPoints (fun _ => rfl) fun b n hr ⟨h1, h8⟩ => ?_
  show GS c _ _ [.da (.int (n : Int))] _
  refine gs_cons (g1_expr (ge_call f1 hr (ga1 (gv_var 0)) fun ws e => ⟨_, e.symm, ⟨h1, h8⟩, fun d e => e⟩) ?_)
  refine gs_cons (g1_ifB (gb_gt (gv_var 0) (gv_glob hM8)) (fun z => ?_) fun _ => gs_nil (gs_nil rfl))
  have : ¬ ((8 : Int) < n) := by omega
  simp [this] at z
/-- the splits found by the i-th turn -/
def splF (n : Nat) : Nat → List (List Int)
  | 0 => []
  | i + 1 => [((n - i : Nat) : Int)] :: ((splF n i).map (((n - i : Nat) : Int) :: ·) ++ splF n i)
def spl (n : Nat) : List (List Int) := splF (n - 1) (n - 1)
theorem splF_len (n : Nat) : ∀ i, (splF n i).length + 1 = 2 ^ i
  | 0 => rfl
  | i + 1 => by
    have := splF_len n i
    simp only [splF, List.length_cons, List.length_append, List.length_map, Nat.pow_succ]
    omega
theorem splF_row (n : Nat) : ∀ i s, s ∈ splF n i → s.length ≤ i
  | 0, s, h => by cases h
  | i + 1, s, h => by
    simp only [splF, List.mem_cons, List.mem_append, List.mem_map] at h
    rcases h with h | ⟨t, h, rfl⟩ | h
    · subst h; simp
    · have := splF_row n i t h
      simp; exact this
    · have := splF_row n i s h
      omega
abbrev spSplits (c : Cl) : Sp := spG c (fun n : Nat => [.da (.int (n : Int))]) (fun n => 1 ≤ n ∧ n ≤ 8) (fun n d => d = tT (spl n))
theorem ok_splits {f : Addr} {fd : FuncData} (F : Fun g.K "splits" "splits" sSplits f fd) (B : Nb g) (f1 : Fg g 3 "check_points" (spCount c)) : Fo g 4 f fd ["n"] (spSplits c) := by
  refine fn_ok F scSplits (fun _ => rfl) fun b n hr ⟨h1, h8⟩ => ?_
  show GS c _ _ [.da (.int (n : Int)), .no, .no, .no] _
  refine gs_cons (g1_expr (ge_call f1 hr (ga1 (gv_var 0)) fun ws e => ⟨_, e.symm, ⟨h1, h8⟩, fun d e => e⟩) ?_)
  refine gs_cons (g1_asgE (psN 1) gv_nil fun d e => ?_)
  subst e
  show GS c _ _ [.da (.int (n : Int)), .da (.lst []), .no, .no] _
  have hn6 : n - 1 ≤ 1000000 := by omega
  have e1 : ((n - 1 : Nat) : Int) = (n : Int) - 1 := by omega
  refine gs_cons (g1_for (fun i A => ∃ s, A = [.da (.int (n : Int)), .da (.lst ((splF (n - 1) i).map tI)), s, .no]) (gi_down (n := n - 1) B.range ((gv_sub (gv_var 0) gv_int).eq (by rw [e1])) gv_int (gv_neg gv_int) hn6) ⟨_, rfl⟩ (fun i d A hi yd ⟨s, e⟩ => ⟨_, tg1_name 2, ?_⟩) fun A ⟨s, e⟩ => ?_)
  · subst e yd
    show GS c _ _ [.da (.int (n : Int)), .da (.lst ((splF (n - 1) i).map tI)), .da (.int ((n - 1 - i : Nat) : Int)), .no] _
    have hl : (splF (n - 1) i).length ≤ 1000 := by
      have := splF_len (n - 1) i
      have h2 : 2 ^ i ≤ 2 ^ 7 := Nat.pow_le_pow_right (by decide) (by omega)
      have h3 : (2 : Nat) ^ 7 = 128 := rfl
      omega
    refine gs_cons (g1_asgE (psN 1) (gl_cat (gl_cat (xs := [tI [((n - 1 - i : Nat) : Int)]]) (gl_lst (ds := [tI [((n - 1 - i : Nat) : Int)]]) (ga1 (gv_tup (ds := [.int ((n - 1 - i : Nat) : Int)]) (ga1 (gv_var 2))))).gv
      (gv_mapL [("row", 3)] (fun s : List Int => tI (((n - 1 - i : Nat) : Int) :: s)) (gi_listL (gv_var 1)) (by omega) (fun x hx => gg_name 3) fun x hx => gv_catT (xs := [.int ((n - 1 - i : Nat) : Int)]) (gv_tup (ds := [.int ((n - 1 - i : Nat) : Int)]) (ga1 (gv_var 2))) (gv_var 3) ?_) ?_).gv (gv_var 1) ?_).gv fun d e => ?_)
    · have := splF_row (n - 1) i x hx
      simp; omega
    · simp; omega
    · simp; omega
    · subst e
      refine gs_nil ⟨.da (.int ((n - 1 - i : Nat) : Int)), ?_⟩
      show [Sl.da _, Sl.da _, Sl.da _, Sl.no] = _
      simp [splF]
  · subst e
    exact gs_cons (g1_ret (gv_tupleOf B.tuple (gv_var 1)) fun d e => e)
abbrev spIsSplit (c : Cl) : Sp := spG c (fun p : Nat × List Int => [.da (.int (p.1 : Int)), .da (tI p.2)]) (fun p => 1 ≤ p.1 ∧ p.1 ≤ 8) (fun p d => d = .bl (decide (p.2 ∈ spl p.1)))
theorem ok_isSplit {f : Addr} {fd : FuncData} (F : Fun g.K "is_split" "is_split" sIsSplit f fd) (B : Nb g) (f1 : Fg g 1 "is_integer" (spIsInt c)) (f2 : Fg g 4 "splits" (spSplits c)) : Fo g 5 f fd ["n", "value"] (spIsSplit c) := by
  refine fn_ok F scIsSplit (fun _ => rfl) fun b ⟨n, s⟩ hr ⟨h1, h8⟩ => ?_
  show GS c _ _ [.da (.int (n : Int)), .da (tI s), .no] _
  refine gs_cons (g1_ifB (gb_not (gb_val (gv_isi (t := "tuple") (b := true) rfl (by decide +kernel) B.isinstance B.tuple PyProof.Rows.boot_tuple (gv_var 1)))) (fun z => nomatch z) fun _ => gs_nil ?_)
  refine gs_cons (g1_for (fun i A => ∃ s1, A = [.da (.int (n : Int)), .da (tI s), s1]) (gi_tupL (l0 := s) (e := D.int) (gv_var 1)) ⟨_, rfl⟩ (fun i d A hi yd ⟨s1, e⟩ => ⟨_, tg1_name 2, ?_⟩) fun A ⟨s1, e⟩ => ?_)
  · subst e
    obtain ⟨x, _, rfl⟩ := yd
    show GS c _ _ [.da (.int (n : Int)), .da (tI s), .da (.int x)] _
    exact gs_cons (g1_ifB (gb_not (gb_val (ge_call f1 (hr.mono (by decide)) (ga1 (gv_var 2)) fun ws e => ⟨_, e.symm, trivial, fun d e => e⟩))) (fun z => nomatch z) fun _ => gs_nil (gs_nil ⟨_, rfl⟩))
  · subst e
    exact gs_cons (g1_ret (gv_inT hr (gv_var 1) (ge_call f2 hr (ga1 (gv_var 0)) fun ws e => ⟨_, e.symm, ⟨h1, h8⟩, fun d e => e⟩)) fun d e => e)
def cutR (s : List Int) (x y : Nat) : Rat := if (decide ((x : Int) ∈ s) != decide ((y : Int) ∈ s)) = true then 1 else 0
abbrev spCutRows (c : Cl) : Sp := spG c (fun p : Nat × List Int => [.da (.int (p.1 : Int)), .da (tI p.2)]) (fun p => 1 ≤ p.1 ∧ p.1 ≤ 8 ∧ p.2 ∈ spl p.1) (fun p d => d = .tup (mD p.1 (cutR p.2)))
theorem ok_cutRows {f : Addr} {fd : FuncData} (F : Fun g.K "cut_rows" "cut_rows" sCutRows f fd) (B : Nb g) (T : Rt c g) (f1 : Fg g 3 "check_points" (spCount c)) (f2 : Fg g 5 "is_split" (spIsSplit c)) : Fo g 6 f fd ["n", "split"] (spCutRows c) := by
  refine fn_ok F scCutRows (fun _ => rfl) fun b ⟨n, s⟩ hr ⟨h1, h8, hs⟩ => ?_
  replace h8 : n ≤ 8 := h8
  have hn6 : n ≤ 1000000 := Nat.le_trans h8 (by decide)
  show GS c _ _ [.da (.int (n : Int)), .da (tI s), .no, .no, .no] _
  refine gs_cons (g1_expr (ge_call f1 (hr.mono (by decide)) (ga1 (gv_var 0)) fun ws e => ⟨_, e.symm, ⟨h1, h8⟩, fun d e => e⟩) ?_)
  refine gs_cons (g1_ifB (gb_not (gb_val (ge_call f2 hr (ga2 (gv_var 0) (gv_var 1)) fun ws e => ⟨(n, s), e.symm, ⟨h1, h8⟩, fun d e => e⟩))) (fun z => ?_) fun _ => gs_nil ?_)
  · rw [decide_eq_true hs] at z; cases z
  refine gs_cons (g1_asgL (psN 2) (gl_lst (ds := []) ga_nil) fun d e => ?_)
  subst e
  show GS c _ _ [.da (.int (n : Int)), .da (tI s), .mu [], .no, .no] _
  refine gs_cons (g1_for (fun i A => ∃ s1, A = [.da (.int (n : Int)), .da (tI s), .mu (rg i fun x => .tup (rg n fun y => .rat (cutR s x y))), s1, .no]) (gi_range1 B.range (gv_var 0) hn6) ⟨_, rfl⟩ (fun x d A hx yd ⟨s1, e⟩ => ⟨_, tg1_name 3, ?_⟩) fun A ⟨s1, e⟩ => ?_)
  · subst e yd
    show GS c _ _ [.da (.int (n : Int)), .da (tI s), .mu (rg x fun x => .tup (rg n fun y => .rat (cutR s x y))), .da (.int (x : Int)), .no] _
    refine gs_cons (g1_append 2 rfl (gv_tupleOf B.tuple (gv_map [("y", 4)] (fun y => .rat (cutR s x y)) (gi_range1 B.range (gv_var 0) hn6) (by omega) (fun i hi => gg_name 4) fun y hy => GV.eq (gv_ratio1 T.mr (hr.mono (by decide)) (gv_intB B.int (gv_neB (gv_inI (gv_var 3) (gv_var 1)) (gv_inI (gv_var 4) (gv_var 1))))) ?_)) (by rw [rg_len]; omega) fun d e => ?_)
    · show D.rat _ = D.rat _
      congr 1
      unfold cutR
      by_cases p1 : (x : Int) ∈ s <;> by_cases p2 : (y : Int) ∈ s <;> simp [p1, p2]
    · subst e
      refine gs_nil ⟨.da (.int (x : Int)), ?_⟩
      rw [rg_succ]
      rfl
  · subst e
    exact gs_cons (g1_ret (gv_tupleOf B.tuple (gv_var 2)) fun d e => e)
end K33
end
section
set_option Elab.async false
set_option linter.all false
set_option maxRecDepth 100000
/-! B19: calls of defs that may raise; raise Refused(text) -/
namespace K33
open PySem L2
variable {c : Cl} {X : Fm} {Γ : List Vw}
/-- a def of the module that keeps sp and may raise -/
def FcX (P : Program) (w : World) (K : PySem.W.Frag) (mg : Str → Option Value) (base : Heap) (k : Nat) (x : Str) (sp : Sp) : Prop :=
  ∃ (f : Addr) (fd : FuncData) (ps : List Str), FnOk P w K mg base (L2.CX P w) k f fd ps sp ∧ mg x = some (.ref f) ∧ PySem.W.keepIn K (.ref f) = true ∧ Binds K fd ps []
abbrev FgX (g : Gx) (k : Nat) (x : Str) (sp : Sp) : Prop := FcX g.P g.w g.K g.mg g.base k x sp
section
variable {x : Str} {p pos : Pos} {e : Expr} {es : List Expr} {P : D → Prop} {Ps : List Vw → Prop} {k : Nat} {sp : Sp}
/-- the call, where it does not raise -/
theorem ge_callX (F : FcX X.prog X.w X.K X.mg X.base k x sp) (hr : Room k X.A) (ha : GA c X (e :: es) Γ Ps)
    (h : ∀ ws, Ps ws → ∀ (M : Addr → Prop) (B : Option Addr) (H : Hp) (vs : List V), Hc M B H → Paired (IsV c (hid M H) B) vs ws → ∀ Q : VK, (∀ d v H', To B H H' → P d → Is c (hid M H') v d → Q v H') → sp vs H Q E0)
    (hg : ∀ i, Gl (X.X i) x := by intro _; rfl) (hdb : (x == ("__debug__" : Str)) = false := by decide) (he : ∀ i, starEach (e :: es) (X.X i).env = (false, eval e (X.X i).env) :: starEach es (X.X i).env := by intro _; rfl)
    (hpl : ∀ i, (backTo pos (starEach es (X.X i).env)).any (·.1) = false := by intro _; rfl) : GE c X (.Call (.Name x p) (e :: es) [] pos) Γ P := fun σ M B H rr hh Q q => by
  obtain ⟨f, fd, ps, F, hm, hk, hb⟩ := F
  refine ⟨_, fun i => pe_call (E := E0) (fnAt F) (room_at hr) (hg i) (by rw [X.hmg i]; exact hm) (by rw [X.hK i]; exact hk) (by rw [X.hK i]; exact hb) (.nil : Vals [] []) (by rw [← X.hp i, ← X.hw i]; exact passL) (pa_w (e :: es) i) hdb (he i) (hpl i), ?_⟩
  refine ha σ M B H rr hh _ fun ws vs H1 t pw s => ?_
  rw [List.append_nil]
  exact h ws pw M B H1 vs (t.hc hh) s Q fun d v H2 t2 p2 s2 => q d v H2 (t.trans t2) p2 s2
end
/-- what is asked of the class Refused, at C -/
structure RfX (P : Program) (w : World) (K : PySem.W.Frag) (mg : Str → Option Value) (base : Heap) (C : Addr) : Prop where
  nm : mg "Refused" = some (.ref C)
  oex : OexC K C
  ex : ∃ (f : Addr) (fd : FuncData), PySem.W.findIn K (.ref C) "__init__" = some (some (.ref f)) ∧ PySem.W.typeIn K (.ref f) = some (.type "function") ∧ FnOk P w K mg base CX0 1 f fd ["self", "reason"] (spRf C) ∧ Binds K fd ["self", "reason"] []
  xf : XfC K C
  noR : PySem.W.findIn K (.ref C) "reason" = some none
  te : PySem.W.exmOne K (.ref C) (.ref C) = some true
theorem del_upd {H : Hp} {a dx : Addr} {fs : List (Str × V)} {y : HO} {o1 o2 : HO} (na : H a = none) (nd : H dx = none) (ne : dx ≠ a) : upd (del (upd (upd (upd H a o1) dx y) a o2) a) dx (.xd fs) = upd H dx (.xd fs) := by
  funext b
  by_cases h1 : b = dx
  · subst h1; rw [upd_same, upd_same]
  · rw [upd_ne h1, upd_ne h1]
    by_cases h2 : b = a
    · subst h2; rw [del_same, na]
    · rw [del_ne h2, upd_ne h2, upd_ne h1, upd_ne h2]
/-- raise Refused(e), e a text -/
theorem w_raise {C : Addr} {W : WX} {e : Expr} {s : Str} {p pos pos2 : Pos} (tk : ∀ i, Takes (X.X i) W) (R : RfX X.prog X.w X.K X.mg X.base C) (hr : Room 2 X.A) {σ : L2.St} {M : Addr → Prop} {B : Option Addr} {H : Hp} {Dn : Ends} (r : Rep c Γ σ (hid M H) B) (hc : Hc M B H) (ha : GV c X e Γ (.str s))
    (k : ∀ dx H1, To B H H1 → H1 dx = none → W (.ref C) (some dx) σ (upd H1 dx (.xd [("reason", .str s)])))
    (hg : ∀ i, Gl (X.X i) "Refused" := by intro _; rfl) (he : ∀ i, starEach [e] (X.X i).env = (false, eval e (X.X i).env) :: starEach [] (X.X i).env := by intro _; rfl) (hpl : ∀ i, (backTo pos (starEach [] (X.X i).env)).any (·.1) = false := by intro _; rfl) :
    wS X (.Raise (some (.Call (.Name "Refused" p) [e] [] pos)) none pos2) Dn σ H := by
  obtain ⟨f, fd, h1, h2, F, hb⟩ := R.ex
  refine ⟨_, fun i => L2.ps_raise (X.calm i) (tk i) (pmk_oex (ds := []) (dvs := []) (by rw [X.hK i]; exact R.oex) (by rw [X.hK i]; exact h1) (by rw [X.hK i]; exact h2) (fnAt F) (room_at hr) (by rw [X.hK i]; exact hb) .nil pass0 (hg i) (by rw [X.hmg i]; exact R.nm) (pa_w [e] i) (by decide) (he i) (hpl i)), ?_⟩
  refine ga1 ha he σ M B H r hc _ fun ws vs H1 t p sv => ?_
  subst p
  obtain ⟨v, rfl, s1⟩ := Paired.inv1 sv
  rw [(show Is c _ v (.str s) from s1).strE]
  refine ⟨Nat.le_of_ble_eq_true rfl, fun a na => ⟨a, .str s, rfl, upd_same, fun dx nd ne => ⟨rfl, dx, [("reason", .str s)], upd_same, ?_, ?_, ?_⟩⟩⟩
  · rw [upd_ne ne, upd_same]
  · rw [upd_ne ne] at nd; exact nd
  · rw [upd_ne ne] at nd
    rw [del_upd na nd ne]
    exact k dx H1 t nd
/-- the call, where it may raise into W -/
theorem pe_callW {x : Str} {p pos : Pos} {e : Expr} {es : List Expr} {k : Nat} {sp : Sp} {W : WX} {f : Addr} {fd : FuncData} {ps : List Str} (tk : ∀ i, Takes (X.X i) W) (F : FnOk X.prog X.w X.K X.mg X.base (L2.CX X.prog X.w) k f fd ps sp) (hm : X.mg x = some (.ref f)) (hk : PySem.W.keepIn X.K (.ref f) = true) (hb : Binds X.K fd ps []) (hr : Room k X.A)
    (hg : ∀ i, Gl (X.X i) x := by intro _; rfl) (hdb : (x == ("__debug__" : Str)) = false := by decide) (he : ∀ i, starEach (e :: es) (X.X i).env = (false, eval e (X.X i).env) :: starEach es (X.X i).env := by intro _; rfl)
    (hpl : ∀ i, (backTo pos (starEach es (X.X i).env)).any (·.1) = false := by intro _; rfl) (i : X.ι) : PE (X.X i) (.Call (.Name x p) (e :: es) [] pos) (tCallS sp (WE W) (wA X (e :: es))) :=
  pe_callS (fnAt F) (room_at hr) (hg i) (by rw [X.hmg i]; exact hm) (by rw [X.hK i]; exact hk) (by rw [X.hK i]; exact hb) (fun σ => by rw [← X.hp i, ← X.hw i]; exact passAt (tk i) σ) (pa_w (e :: es) i) hdb (he i) (hpl i)
/-- y = the call -/
theorem psW {x y : Str} {p pos pos' spos : Pos} {e : Expr} {es : List Expr} {k : Nat} {sp : Sp} {W : WX} {f : Addr} {fd : FuncData} {ps : List Str} (i : Nat) (tk : ∀ i, Takes (X.X i) W) (F : FnOk X.prog X.w X.K X.mg X.base (L2.CX X.prog X.w) k f fd ps sp) (hm : X.mg x = some (.ref f)) (hk : PySem.W.keepIn X.K (.ref f) = true) (hb : Binds X.K fd ps []) (hr : Room k X.A)
    (hg : ∀ i, Gl (X.X i) x := by intro _; rfl) (hdb : (x == ("__debug__" : Str)) = false := by decide) (he : ∀ i, starEach (e :: es) (X.X i).env = (false, eval e (X.X i).env) :: starEach es (X.X i).env := by intro _; rfl)
    (hpl : ∀ i, (backTo pos (starEach es (X.X i).env)).any (·.1) = false := by intro _; rfl)
    (hN : X.N[i]? = some y := by rfl) (hx : ∀ j, Loc (X.X j).env.scope y := by first | exact fun _ => Or.inl rfl | exact fun _ => Or.inr rfl) (hs : ∀ j, swapsWith (.Call (.Name x p) (e :: es) [] pos) (some (.Name y pos')) spos.line (X.X j).env = pure false := by intro _; rfl)
    (hf : ∀ j, (X.X j).fn y = true ∨ (X.X j).env.scope.names.lookup y = some .local := by first | exact fun _ => Or.inl rfl | exact fun _ => Or.inr rfl) (j : X.ι) : PS (X.X j) (.Assign [.Name y pos'] (.Call (.Name x p) (e :: es) [] pos) spos) (tAsg (tCallS sp (WE W) (wA X (e :: es))) (gName i)) :=
  ps_set (by rw [X.hN j]; exact X.nd) (by rw [X.hN j]; exact hN) (hx j) (pe_callW tk F hm hk hb hr hg hdb he hpl j) (hs j) (hf j)
/-- an if whose test is known, raw -/
theorem w_if {e : Expr} {a b : List Stmt} {pos : Pos} {k : Bool} {σ : L2.St} {M : Addr → Prop} {B : Option Addr} {H : Hp} {Dn : Ends} (r : Rep c Γ σ (hid M H) B) (hc : Hc M B H) (he : GB c X e Γ k) (h : ∀ H1, To B H H1 → if k = true then wSs X a Dn σ H1 else wSs X b Dn σ H1) : wS X (.If e a b pos) Dn σ H :=
  ⟨_, fun i => ps_if (pt_w e i) (pss_w a i) (pss_w b i), he σ M B H r hc _ fun k' H1 t p => by
    subst p
    exact h H1 t⟩
theorem wss_cons {st : Stmt} {rest : List Stmt} {σ : L2.St} {H : Hp} {Dn : Ends} (h : wS X st { Dn with nx := wSs X rest Dn } σ H) : wSs X (st :: rest) Dn σ H := ⟨_, fun i => pss_cons (ps_w st i) (pss_w rest i), h⟩
theorem wss_one {st : Stmt} {σ : L2.St} {H : Hp} {Dn : Ends} (h : wS X st Dn σ H) : wSs X [st] Dn σ H := ⟨_, fun i => pss_one (ps_w st i), h⟩
section
variable {g : Gx} {x qual : Str} {st : Stmt} {f : Addr} {fd : FuncData} {N ps : List Str} {k : Nat}
theorem takesD {N : List Str} {sc : Scope} {nd : N.Nodup} {b : Bx} (hb : b.CX = L2.CX g.P g.w) (i : Unit) : Takes ((fmD g N sc nd b).X i) (fun cls d _ H => b.E cls d H) := by
  obtain ⟨CX, qual, f, cd, A, outer, s, H, E⟩ := b
  subst hb
  exact takes_of rfl rfl rfl rfl
end
end K33
end
section
set_option Elab.async false
set_option linter.all false
set_option autoImplicit false
set_option maxRecDepth 100000
namespace K33
open PySem PySem.Spec PyProof.Rows L2
open PySem.W (EachIs AllAlike Sortable alike alike_ints)
theorem each_of {α β : Type} {P : α → β → Prop} : ∀ {xs : List α} {bs : List β}, xs.length = bs.length → (∀ (i : Nat) x b, xs[i]? = some x → bs[i]? = some b → P x b) → EachIs P xs bs
  | [], [], _, _ => .nil
  | x :: xs, b :: bs, h, q => .cons (q 0 x b rfl rfl) (each_of (by simpa using h) fun i y c e1 e2 => q (i + 1) y c (by simpa using e1) (by simpa using e2))
theorem each_to {α β : Type} {P : α → β → Prop} : ∀ {xs : List α} {bs : List β}, EachIs P xs bs → ∀ (i : Nat) x b, xs[i]? = some x → bs[i]? = some b → P x b
  | _, _, .nil, i, x, b, e, _ => by simp at e
  | _, _, .cons h t, 0, x, b, e1, e2 => by
    simp at e1 e2
    subst e1; subst e2; exact h
  | _, _, .cons h t, i + 1, x, b, e1, e2 => each_to t i x b (by simpa using e1) (by simpa using e2)
def leP (l m : List Int) : Bool := PySem.W.dataLe false pI l m
def rSortL (K : PySem.W.Frag) (P : V → List Int → Prop) : List V → Hp → VK → Prop := fun vs H Q => ∃ (a : Addr) (xs : List V) (bs : List (List Int)), vs = [V.ref a] ∧ SqL K H a xs ∧ bs.length ≤ 100 ∧ (∀ b ∈ bs, b ≠ []) ∧ xs.length = bs.length ∧
  (∀ (i : Nat) x b, xs[i]? = some x → bs[i]? = some b → P x b) ∧ (∀ x b, P x b → (∃ t, x = .ref t) ∧ Dp K H x (pI b)) ∧
  ∀ (ys : List V) (p : Addr), ys.length = bs.length → (∀ (i : Nat) y b, ys[i]? = some y → (bs.mergeSort leP)[i]? = some b → P y b) → H p = none → Q (.ref p) (upd H p (.lst ys))
theorem cr_sortL {X : Cx} {P : V → List Int → Prop} (hu : X.A.units + 64 < cLine) : CallR X (.builtin "sorted") (rSortL X.K P) := by
  intro pins s σ H vs us Q I r h
  obtain ⟨a, xs, bs, rfl, hs, h1, hne, hl, hp, hd, q⟩ := h
  obtain ⟨its, rv, hL, hz⟩ := I.list hs
  rw [Vals.ref1 r]
  obtain ⟨e1, e2⟩ := bkV_refs rv fun x m => by
    obtain ⟨i, e⟩ := List.getElem?_of_mem m
    have hi : i < bs.length := by rw [← hl]; exact (List.getElem?_eq_some_iff.mp e).1
    exact (hd x bs[i] (hp i x _ e (List.getElem?_eq_getElem hi))).1
  have E0 : EachIs (fun (u : Value) b => (∃ t, u = .ref t) ∧ P (bkV u) b) its bs := by
    refine each_of (by rw [← rv.length, hl]) fun i u b f1 f2 => ⟨e2 u (List.mem_of_getElem? f1), hp i _ b ?_ f2⟩
    rw [e1, List.getElem?_map, f1]; rfl
  have E1 : EachIs (fun (u : Value) b => ∃ as, Reads s.heap u (pI b) as) its bs := E0.mono fun u b ⟨⟨t, e⟩, p⟩ => by
    subst e
    exact Dp.reads I _ _ _ (hd _ _ p).2 (show RelV (.ref t) (.ref t) from rfl)
  have hle : bs.length ≤ sizeLine := by rw [sizeLine_eq]; omega
  refine PySem.W.sorted_data (enc := pI) (bs := bs) hL.isList E0 E1 ?_ ?_ hle ?_ fun out g1 g2 => ?_
  · exact AllAlike.of fun b b' => by
      show alike (.tuple _) (.tuple _) = true
      rw [alike]
      exact alike_ints b b'
  · refine .inl fun d m => ?_
    obtain ⟨b, mb, rfl⟩ := List.mem_map.mp m
    cases b with
    | nil => exact absurd rfl (hne _ mb)
    | cons x t => exact ⟨_, _, rfl⟩
  · intro b mb
    rw [dep_tI]
    omega
  · obtain ⟨ep, he'⟩ := PyProof.Rows.sortedAll_at s.heap its out.toArray
    have g2' : EachIs (fun (u : Value) b => (∃ t, u = .ref t) ∧ P (bkV u) b) out (bs.mergeSort leP) := g2
    have h3 : ∀ u ∈ out, ∃ a, u = Value.ref a := fun u hu => by
      obtain ⟨i, e⟩ := List.getElem?_of_mem hu
      have hi : i < (bs.mergeSort leP).length := by rw [← g2'.length]; exact (List.getElem?_eq_some_iff.mp e).1
      exact (each_to g2' i u _ e (List.getElem?_eq_getElem hi)).1
    have hlen : (out.map bkV).length ≤ sizeLine := by rw [List.length_map, g1]; exact hle
    refine ⟨.ref _, upd H (s.heap.objs.size + 1) (.lst (out.map bkV)), I.laid (t' := s.toks) (fun _ _ => PyProof.Rows.sortedAll_old) (Nat.le_succ _) ⟨hlen, out, ep, bkV_vals h3, by simpa using he'⟩, rfl, q _ _ (by rw [List.length_map, g1]) ?_ (I.hok.fresh (Nat.le_succ _))⟩
    intro i y b f1 f2
    rw [List.getElem?_map] at f1
    cases f : out[i]? with
    | none => rw [f] at f1; simp at f1
    | some u =>
      rw [f] at f1
      simp at f1
      subst f1
      exact (each_to g2' i u b f f2).2
end K33
namespace K33
open PySem L2
variable {c : Cl} {X : Fm} {Γ : List Vw} {a : Expr} {p pos : Pos}
/-- sorted(a list of tuples of ints) -/
theorem gl_sorted {bs : List (List Int)} {k : Nat} (hr : Room k X.A) (hb : bs.length ≤ 100) (hne : ∀ b ∈ bs, b ≠ []) (hm : X.mg "sorted" = none) (ha : GV c X a Γ (.lst (bs.map tI))) (hg : ∀ i, Gl (X.X i) "sorted" := by intro _; rfl) (he : ∀ i, starEach [a] (X.X i).env = (false, eval a (X.X i).env) :: starEach [] (X.X i).env := by intro _; rfl)
    (hpl : ∀ i, (backTo pos (starEach [] (X.X i).env)).any (·.1) = false := by intro _; rfl) : GL c X (.Call (.Name "sorted" p) [a] [] pos) Γ (fun x => x = (bs.mergeSort leP).map tI) := fun σ M B H r hc Q k => by
  refine gl_cb (X := X) (T := "sorted") (r := fun vs H Q => ∃ P, rSortL X.K P vs H Q) (fun i => ?_) hm (by decide +kernel) (ga1 ha he) (fun ws q M B H vs hc s Q k => ?_) hg (by decide) (by decide) he hpl σ M B H r hc Q k
  · intro pins s σ H vs us Q I r ⟨P, h⟩
    rw [← X.hK i] at h
    exact cr_sortL (units_at (i := i) hr |> fun h => by omega) pins s σ H vs us Q I r h
  · subst q
    obtain ⟨v, rfl, sv⟩ := Paired.inv1 s
    have sv : Is c _ v (.lst (bs.map tI)) := sv
    obtain ⟨p, us, rfl, e, l⟩ := sv.lstE
    refine ⟨fun v b => Is c (hid M H) v (tI b), p, us, bs, rfl, SqL.of (hid_le _ _ e), hb, hne, by rw [l.len]; simp, fun i x b f1 f2 => ?_, fun x b f => ?_, fun ys q g1 g2 hq => ?_⟩
    · exact l.at_ i x _ f1 (by rw [List.getElem?_map, f2]; rfl)
    · refine ⟨?_, dp_of (dp_tI b) f⟩
      obtain ⟨a, vs, e, _⟩ := Is.tupE f
      exact ⟨a, e⟩
    · refine k _ q ys _ (.new hq hc.st) rfl hq upd_same (new_lst hc ⟨by rw [g1]; simp, fun i v d f1 f2 => ?_⟩ hq)
      rw [List.getElem?_map] at f2
      cases f : (bs.mergeSort leP)[i]? with
      | none => rw [f] at f2; simp at f2
      | some b =>
        rw [f] at f2
        simp at f2
        subst f2
        exact g2 i v b f1 f
end K33
namespace K33
open PySem L2
theorem leP_t (l m n : List Int) (h1 : leP l m = true) (h2 : leP m n = true) : leP l n = true := (PySem.W.sortLe_total (PyProof.Rows.listOrd PyProof.Rows.itemOrd) false (fun b : List Int => PySem.W.keyToks (pI b))).trans l m n h1 h2
theorem leP_o (l m : List Int) : (leP l m || leP m l) = true := by
  rcases (PySem.W.sortLe_total (PyProof.Rows.listOrd PyProof.Rows.itemOrd) false (fun b : List Int => PySem.W.keyToks (pI b))).total l m with h | h
  · exact Bool.or_eq_true _ _ |>.mpr (.inl h)
  · exact Bool.or_eq_true _ _ |>.mpr (.inr h)
theorem sort_is {l m : List (List Int)} (hp : l.Perm m) (ha : ∀ a ∈ m, ∀ b ∈ m, leP a b = true → leP b a = true → a = b) (hs : m.Pairwise fun a b => leP a b = true) : l.mergeSort leP = m := by
  have p1 := (List.mergeSort_perm l leP).trans hp
  exact List.Perm.eq_of_pairwise (le := fun a b => leP a b = true) (fun a b h1 h2 => ha a (p1.mem_iff.mp h1) b h2) (List.pairwise_mergeSort leP_t leP_o l) hs p1
end K33
end
section
set_option Elab.async false
set_option linter.all false
set_option maxRecDepth 100000
/-! B21: lists of lists of ints that change -/
namespace K33
open PySem L2
variable {c : Cl} {X : Fm} {Γ : List Vw}
def lI (r : List Int) : List D := r.map .int
def mI (rs : List (List Int)) : List (List D) := rs.map lI
def GM (c : Cl) (te : TE) (Γ : List Vw) (P : List (List Int) → Prop) : Prop :=
  ∀ (σ : L2.St) (M : Addr → Prop) (B : Option Addr) (H : Hp), Rep c Γ σ (hid M H) B → Hc M B H → ∀ Q : VK,
    (∀ (rs : List (List Int)) (a : Addr) (ps : List Addr) (H' : Hp), To B H H' → P rs → H a = none → (∀ p, p ∈ ps → H p = none) → (a :: ps).Nodup → H' a = some (.lst (ps.map .ref)) → ps.length = rs.length →
      (∀ (k : Nat) p r, ps[k]? = some p → rs[k]? = some r → H' p = some (.lst (r.map .int))) → Q (.ref a) H') → te σ H Q
section
variable {elt tg it : Expr} {scope : Scope} {own : List (Str × Nat)} {pos : Pos}
theorem gm_inv {n : Nat} {y : Nat → D → Prop} (Iv : Nat → List (List Int) → Prop) {P : List (List Int) → Prop} {Pd : Nat → List Int → Prop} {Γ' : Nat → D → List Vw} {js : List Nat} (hi : GI c X tg it Γ n y) (hn : n ≤ 100000) (hj : ∀ j, j ∈ js → j ∈ own.map (·.2))
    (hg : ∀ i d, i < n → y i d → GG c (X.blk scope) tg (wipeV Γ (own.map (·.2))) d (Γ' i d) js) (he : ∀ i d, i < n → y i d → GL c (X.blk scope) elt (Γ' i d) (fun ds => ∃ r, ds = lI r ∧ Pd i r))
    (h0 : Iv 0 []) (h1 : ∀ i rs r, i < n → Iv i rs → Pd i r → Iv (i + 1) (rs ++ [r])) (hP : ∀ rs, Iv n rs → P rs) :
    GM c (tLcW X elt tg it [] scope own) Γ P := fun σ M B H r hc Q k => by
  refine hi σ M B H r hc _ fun J H1 G Yh t W hG hY Dl hD => ?_
  have hc1 := t.hc hc
  have nM : ¬ M Dl := hc1.no hD
  have nB : B ≠ some Dl := fun z => nM (hc.bm Dl z)
  have nBf : ∀ p, H1 p = none → B ≠ some p := fun p z e => hc1.no z (hc.bm p e)
  have ext : ∀ {H2 : Hp}, To B H1 H2 → Ex (hid M H1) (hid (fun b => b = Dl ∨ M b) H2) := fun {H2} t2 b o e => by
    obtain ⟨e1, e2⟩ := hid_some.mp e
    have nb : b ≠ Dl := fun z => by rw [z, hD] at e2; cases e2
    exact hid_some.mpr ⟨fun z => z.elim nb e1, t2.ex b o (fun z => e1 (hc.bm b z)) e2⟩
  refine lc_it W (fun i H2 => To B H1 H2 ∧ ∃ (ps : List Addr) (rs : List (List Int)), H2 Dl = some (.lst (ps.map .ref)) ∧ ps.length = rs.length ∧ (∀ (k : Nat) p r, ps[k]? = some p → rs[k]? = some r → H2 p = some (.lst (r.map .int))) ∧ (Dl :: ps).Nodup ∧ (∀ p, p ∈ ps → H1 p = none) ∧ Iv i rs ∧ rs.length ≤ i)
    ⟨.new hD t.st, [], [], upd_same, rfl, fun k p r e => by simp at e, by simp, fun p z => by simp at z, h0, Nat.le_refl _⟩ (fun i H2 _ p => hG H2 ((p.1.hid hc.bm).trans hid_le)) ?_ ?_
  · rintro i x H2 H3 hi' ⟨t2, ps, rs, e2, ln, hrs, nd, fr, hv, hl⟩ yy
    have hc2 := t2.hc hc1
    have hc2' : Hc (fun b => b = Dl ∨ M b) B H2 := ⟨fun b z => z.elim (fun z => ⟨ps.map .ref, by rw [z]; exact e2⟩) (hc2.ml b), fun a z => .inr (hc.bm a z), hc2.st⟩
    obtain ⟨t3, d, yd, sd⟩ := hY i x H2 H3 _ hi' (ext t2) hc2.st (fun p hp => hc2'.no hp) hc2'.bm yy
    have hc3' := t3.hc hc2'
    have e3 : H3 Dl = some (.lst (ps.map .ref)) := t3.ex Dl _ nB e2
    have rw3 : Rep c (wipeV Γ (own.map (·.2))) (L2.wipe σ (own.map (·.2))) (hid (fun b => b = Dl ∨ M b) H3) B := ((r.mono (t.hid hc.bm)).mono ((ext (t2.trans t3)))).wipe _
    refine hg i d hi' yd _ _ B H3 x rw3 hc3' sd _ fun σ' r' sg => ?_
    refine ⟨(sg.wipe hj).trans (Sg.wipe Sg.wiped fun j z => z), ?_⟩
    refine gts_nil σ' _ B H3 r' hc3' _ fun H4 t4 => ?_
    have e4 : H4 Dl = some (.lst (ps.map .ref)) := t4.ex Dl _ nB e3
    have t14 := (t2.trans t3).trans t4
    show wE (X.blk scope) elt σ' H4 _
    refine he i d hi' yd σ' _ B H4 (r'.mono (t4.hid hc2'.bm)) (t4.hc hc3') _ fun ds l us H5 t5 ⟨rr, er, pr⟩ nl sl il => ?_
    have hus : us = rr.map .int := by rw [er] at il; exact il.ints
    subst hus
    have e5 : H5 Dl = some (.lst (ps.map .ref)) := t5.ex Dl _ nB e4
    have t15 := t14.trans t5
    have t25 := (t3.trans t4).trans t5
    have lD : l ≠ Dl := fun z => by rw [z, e4] at nl; cases nl
    have l1 : H1 l = none := t14.free nl
    have lps : l ∉ ps := fun z => by
      obtain ⟨k, q⟩ := List.getElem?_of_mem z
      have hk : k < rs.length := by rw [← ln]; exact (List.getElem?_eq_some_iff.mp q).1
      have w := (t3.trans t4).ex l _ (nBf l l1) (hrs k l _ q (List.getElem?_eq_getElem hk))
      rw [nl] at w; cases w
    refine ⟨ps.map .ref, e5, by rw [List.length_map, ln]; exact Nat.lt_of_le_of_lt hl (Nat.lt_of_lt_of_le hi' (Nat.le_trans hn (by decide))), ?_⟩
    have keep : ∀ b, b ≠ Dl → upd H5 Dl (.lst (ps.map V.ref ++ [V.ref l])) b = H5 b := fun b z => upd_ne z
    refine ⟨⟨fun b o n z => ?_, fun a z => ?_⟩, ps ++ [l], rs ++ [rr], by rw [List.map_append]; exact upd_same, by simp [ln], fun k p r2 a b => ?_, ?_, fun p z => ?_, h1 i rs rr hi' hv pr, by simp; omega⟩
    · rw [keep b (fun q => by rw [q, hD] at z; cases z)]
      exact t15.ex b o n z
    · obtain ⟨s1, s2, s3, s4⟩ := t15.st a z
      exact ⟨s1, s2, s3, by rw [keep a (fun q => nB (by rw [← q]; exact z))]; exact s4⟩
    · by_cases hk : k < ps.length
      · rw [List.getElem?_append_left hk] at a
        rw [List.getElem?_append_left (by omega)] at b
        have pm := List.mem_of_getElem? a
        rw [keep p (fun z => (List.nodup_cons.mp nd).1 (by rw [← z]; exact pm))]
        exact t25.ex p _ (nBf p (fr p pm)) (hrs k p r2 a b)
      · rw [List.getElem?_append_right (by omega)] at a b
        have k0 : k - ps.length = 0 := by
          by_cases z : k - ps.length = 0
          · exact z
          · rw [List.getElem?_eq_none (by simp; omega)] at a; cases a
        rw [k0] at a
        rw [← ln, k0] at b
        simp at a b
        subst a; subst b
        rw [keep l lD]
        exact sl
    · rw [← List.cons_append]
      refine List.nodup_append.mpr ⟨nd, by simp, ?_⟩
      intro a1 h1 a2 h2
      have : a2 = l := by simpa using h2
      subst this
      rintro rfl
      rcases List.mem_cons.mp h1 with z | z
      · exact lD z
      · exact lps z
    · rcases List.mem_append.mp z with z | z
      · exact fr p z
      · have : p = l := by simpa using z
        rw [this]; exact l1
  · rintro H2 ⟨t2, ps, rs, e2, ln, hrs, nd, fr, hv, hl⟩
    exact k rs Dl ps H2 (t.trans t2) (hP rs hv) (t.free hD) (fun p z => t.free (fr p z)) nd e2 ln hrs
/-- each row is known -/
theorem gm_map {n : Nat} {f : Nat → D} (h : Nat → List Int) {Γ' : Nat → List Vw} {js : List Nat} (hi : GI c X tg it Γ n (fun i d => d = f i)) (hn : n ≤ 100000) (hg : ∀ i, i < n → GG c (X.blk scope) tg (wipeV Γ (own.map (·.2))) (f i) (Γ' i) js)
    (he : ∀ i, i < n → GL c (X.blk scope) elt (Γ' i) (fun ds => ds = lI (h i))) (hj : ∀ j, j ∈ js → j ∈ own.map (·.2) := by decide) : GM c (tLcW X elt tg it [] scope own) Γ (fun rs => rs = rg n h) :=
  gm_inv (fun i rs => rs = rg i h) (Pd := fun i r => r = h i) (Γ' := fun i _ => Γ' i) hi hn hj (fun i d hi e => by rw [e]; exact hg i hi) (fun i d hi _ => (he i hi).imp fun ds e => ⟨_, e, rfl⟩) rfl (fun i rs r _ e1 e2 => by rw [e1, e2, rg_succ]) (fun rs e => e)
end
section
variable {A : List Sl} {σ : L2.St} {H0 G0 H H1 : Hp} {M0 : Addr → Prop} {B : Option Addr} {F : Nat → List Addr}
theorem RepS.putMM (r : RepS c A σ H0 M0 B G0 F H) (t : To B H H1) {i : Nat} {a : Addr} {ps : List Addr} {rs : List (List Int)} (na : H a = none) (np : ∀ p, p ∈ ps → H p = none) (nd : (a :: ps).Nodup) (ha : H1 a = some (.lst (ps.map .ref))) (ln : ps.length = rs.length)
    (hr : ∀ (k : Nat) p r, ps[k]? = some p → rs[k]? = some r → H1 p = some (.lst (r.map .int))) : RS c (A.set i (.mm (mI rs))) (σ.set i (some (.ref a))) H0 M0 B G0 H1 := by
  have fr : ∀ b, b ∈ a :: ps → H b = none ∧ ∃ vs, H1 b = some (.lst vs) := fun b z => by
    rcases List.mem_cons.mp z with z | z
    · subst z; exact ⟨na, _, ha⟩
    · obtain ⟨k, q⟩ := List.getElem?_of_mem z
      have hk : k < rs.length := by rw [← ln]; exact (List.getElem?_eq_some_iff.mp q).1
      exact ⟨np b z, _, hr k b _ q (List.getElem?_eq_getElem hk)⟩
  obtain ⟨F', h2, _⟩ := r.put (i := i) (s := .ref a) (a := .mm (mI rs)) t (f := a :: ps) nd fr ⟨a, ps, rfl, rfl, ha, by simp [mI, ln], fun k p rr e1 e2 => by
    unfold mI at e2
    rw [List.getElem?_map] at e2
    cases w : rs[k]? with
    | none => rw [w] at e2; cases e2
    | some x =>
      rw [w] at e2
      cases e2
      exact ⟨_, hr k p x e1 w, IsL.ofInts⟩⟩
  exact ⟨F', h2⟩
theorem RepS.mmE (r : RepS c A σ H0 M0 B G0 F H) {i : Nat} {rs : List (List Int)} (h : A[i]? = some (.mm (mI rs))) :
    ∃ l ps, σ[i]? = some (some (.ref l)) ∧ F i = l :: ps ∧ H l = some (.lst (ps.map .ref)) ∧ ps.length = rs.length ∧ ∀ (k : Nat) p x, ps[k]? = some p → rs[k]? = some x → H p = some (.lst (x.map .int)) := by
  obtain ⟨s, e1, l, ps, rfl, e3, e4, e5⟩ := r.sl i _ h
  refine ⟨l, ps, e1, e3, e4, by rw [e5.len]; simp [mI], fun k p x a b => ?_⟩
  obtain ⟨vs, q1, q2⟩ := e5.at_ k p (lI x) a (by unfold mI; rw [List.getElem?_map, b]; rfl)
  rw [q1, q2.ints]
theorem RepS.mutMM (r : RepS c A σ H0 M0 B G0 F H) {i n : Nat} {rs : List (List Int)} {x : List Int} (e : A[i]? = some (.mm (mI rs))) {l p : Addr} {ps : List Addr} (hl : σ[i]? = some (some (.ref l))) (hF : F i = l :: ps) (hp : ps[n]? = some p) :
    RepS c (A.set i (.mm (mI (rs.set n x)))) σ H0 M0 B G0 F (upd H p (.lst (x.map .int))) := by
  obtain ⟨l', ps', g1, g2, g3, g4, g5⟩ := r.mmE e
  rw [hl] at g1; cases g1
  rw [hF] at g2; cases g2
  have pm := List.mem_of_getElem? hp
  have nd := r.nd i
  rw [hF] at nd
  have lp : l ≠ p := fun z => (List.nodup_cons.mp nd).1 (by rw [z]; exact pm)
  have lm : p ∈ F i := by rw [hF]; exact List.mem_cons_of_mem _ pm
  have mM : MF M0 F p := .inr ⟨i, lm⟩
  have keep : Ex (hid (MF M0 F) H) (hid (MF M0 F) (upd H p (.lst (x.map .int)))) := fun b o z => by
    obtain ⟨z1, z2⟩ := hid_some.mp z
    exact hid_some.mpr ⟨z1, by rw [upd_ne (fun q => z1 (by rw [q]; exact mM))]; exact z2⟩
  refine ⟨by simp [r.len], fun j hj => r.fo j (by simpa using hj), r.nd, r.dj, r.fr, ⟨fun b h => ?_, r.hc.bm, fun a h => ?_⟩, r.b0, fun b o n q => ?_, r.g0.trans keep, fun j a q => ?_⟩
  · by_cases z : b = p
    · subst z; exact ⟨_, upd_same⟩
    · rw [upd_ne z]; exact r.hc.ml b h
  · have z : a ≠ p := fun z => r.nB lm (by rw [← z]; exact h)
    rw [upd_ne z]; exact r.hc.st a h
  · have z : b ≠ p := fun z => by rw [z, (r.fr i p lm).1] at q; cases q
    rw [upd_ne z]; exact r.ex b o n q
  · by_cases ej : j = i
    · subst ej
      have hi : j < A.length := (List.getElem?_eq_some_iff.mp e).1
      rw [List.getElem?_set_self hi] at q
      cases q
      refine ⟨_, hl, l, ps, rfl, hF, by rw [upd_ne lp]; exact g3, by simp [mI, g4], fun k p' rr a b => ?_⟩
      unfold mI at b
      rw [List.getElem?_map] at b
      cases w : (rs.set n x)[k]? with
      | none => rw [w] at b; cases b
      | some y =>
        rw [w] at b
        cases b
        refine ⟨y.map .int, ?_, IsL.ofInts⟩
        by_cases hk : k = n
        · subst hk
          rw [hp] at a; cases a
          rw [List.getElem?_set_self (by rw [← g4]; exact (List.getElem?_eq_some_iff.mp hp).1)] at w
          cases w
          exact upd_same
        · rw [List.getElem?_set_ne (Ne.symm hk)] at w
          have : p' ≠ p := fun z => by
            subst z
            have n1 := (List.nodup_cons.mp nd).2
            obtain ⟨u1, u2⟩ := List.getElem?_eq_some_iff.mp a
            obtain ⟨u3, u4⟩ := List.getElem?_eq_some_iff.mp hp
            have pw := List.pairwise_iff_getElem.mp n1
            rcases Nat.lt_or_gt_of_ne hk with w | w
            · exact pw _ _ u1 u3 w (u2.trans u4.symm)
            · exact pw _ _ u3 u1 w (u4.trans u2.symm)
          rw [upd_ne this]
          exact g5 k p' y a w
    · rw [List.getElem?_set_ne (Ne.symm ej)] at q
      obtain ⟨s', q1, q2⟩ := r.sl j a q
      refine ⟨s', q1, q2.mono keep fun b vs hb z => ?_⟩
      rw [upd_ne (fun w => ej (r.dj j i b hb (by rw [w]; exact lm)))]
      exact z
end
end K33
end
section
set_option Elab.async false
set_option linter.all false
set_option maxRecDepth 100000
/-! B22: statements on lists of lists of ints -/
namespace K33
open PySem L2
variable {c : Cl} {X : Fm}
section
variable {A : List Sl} {K : Kk} {x : Str} {elt tg it : Expr} {scope : Scope} {pos pos' spos : Pos}
theorem g1_asgMM (i : Nat) (own : List (Str × Nat)) {P : List (List Int) → Prop} (h : GM c (tLcW X elt tg it [] scope own) (A.map vw0) P) (k : ∀ rs, P rs → K.nx (A.set i (.mm (mI rs))))
    (hps : ∀ j, PS (X.X j) (.Assign [.Name x pos] (.ListComp elt [⟨tg, it, [], 0⟩] scope pos') spos) (tAsg (tLcW X elt tg it [] scope own) (gName i)) := by exact psC _) : G1 c X (.Assign [.Name x pos] (.ListComp elt [⟨tg, it, [], 0⟩] scope pos') spos) A K := fun H0 M0 B G0 σ H ⟨F, r⟩ Dn q =>
  ⟨_, hps, h σ _ B H r.v0 r.hc _ fun rs a ps H1 t p na np nd ha ln hr => q.nx _ _ H1 (k rs p) (r.putMM t na np nd ha ln hr)⟩
end
section
variable {A : List Sl} {K : Kk} {x : Str} {e1 e2 e3 e4 ea eb : Expr} {p p' q1 q2 q3 q4 pos tpos : Pos} {k0 k1 : Nat}
theorem ixN_nat {n k : Nat} (h : k < n) : ixN n (k : Int) = some k := by
  unfold ixN
  rw [if_pos (by omega), if_pos (by omega)]
  simp
/-- the target x[e1][e3] -/
def gMM (X : Fm) (i : Nat) (e1 e3 : Expr) : TG := gSub (tOp (rIxL X.K) (tVar i) (wE X e1)) (wE X e3) rSetL
theorem pg_MM (i : Nat) (hN : X.N[i]? = some x) (hx : ∀ j, Vis (X.X j).env.scope x) (hd : (x == ("__debug__" : Str)) = false) (hcd : (x == ("__classdict__" : Str)) = false) (hs : PlainIx e1)
    (ha : ∀ j v, assign (.Subscript (.Subscript (.Name x p) e1 q1) e3 q2) (X.X j).env v = (do let ov ← holding [v] (eval (.Subscript (.Name x p) e1 q1) (X.X j).env); let iv ← holding [v, ov] (eval e3 (X.X j).env); standAt q2; holding [v, ov, iv] (setItem ov iv v); release [v, ov, iv] [])) (j : X.ι) :
    PG (X.X j) (.Subscript (.Subscript (.Name x p) e1 q1) e3 q2) (gMM X i e1 e3) := by
  refine pg_subF ?_ (pe_w e3 j) (ha j)
  rw [← X.hK j]
  exact pe_ix ix_list (pe_var (by rw [X.hN j]; exact hN) (hx j) hd hcd) (pe_w e1 j) hs
theorem run_MM {σ : L2.St} {H0 G0 H : Hp} {M0 : Addr → Prop} {B : Option Addr} (i : Nat) {rs : List (List Int)} {r : List Int} {n m : Nat} {u : Int} (rr : RS c A σ H0 M0 B G0 H) (hA : A[i]? = some (.mm (mI rs))) (h1 : GV c X e1 (A.map vw0) (.int n)) (h3 : GV c X e3 (A.map vw0) (.int m))
    (hn : rs[n]? = some r) (hm : m < r.length) {Q : L2.St → Hp → Prop} (k : ∀ H2, To B H H2 ∨ True → RS c (A.set i (.mm (mI (rs.set n (r.set m u))))) σ H0 M0 B G0 H2 → Ex (hid (fun b => ∃ F, RepS c A σ H0 M0 B G0 F H ∧ MF M0 F b) H) H2 → Q σ H2) : gMM X i e1 e3 (.int u) σ H Q := by
  obtain ⟨F, rr⟩ := rr
  obtain ⟨l, ps, f1, f2, f3, f4, f5⟩ := rr.mmE hA
  refine ⟨_, f1, ?_⟩
  refine h1 σ _ B H rr.v0 rr.hc _ fun n' w H1 t1 p1 s1 => ?_
  subst p1
  rw [s1.intE]
  have r1 := rr.to t1
  obtain ⟨l', ps', g1, g2, g3, g4, g5⟩ := r1.mmE hA
  rw [f1] at g1; cases g1
  rw [f2] at g2; cases g2
  have hl : n < ps.length := by rw [f4]; exact (List.getElem?_eq_some_iff.mp hn).1
  have hp := List.getElem?_eq_getElem hl
  refine ⟨l, ps.map .ref, n, .ref ps[n], rfl, rfl, SqL.of g3, ?_, ?_⟩
  · unfold atI
    rw [List.length_map, ixN_nat hl]
    show (ps.map V.ref)[n]? = _
    rw [List.getElem?_map, hp]; rfl
  refine h3 σ _ B H1 r1.v0 r1.hc _ fun m' w2 H2 t2 p2 s2 => ?_
  subst p2
  rw [s2.intE]
  have r2 := r1.to t2
  obtain ⟨l', ps', g1', g2', g3', g4', g5'⟩ := r2.mmE hA
  rw [f1] at g1'; cases g1'
  rw [f2] at g2'; cases g2'
  refine ⟨ps[n], r.map .int, m, m, rfl, rfl, g5' n _ r hp hn, by rw [List.length_map]; exact ixN_nat hm, ?_⟩
  have r3 := r2.mutMM (x := r.set m u) hA f1 f2 hp
  rw [← List.map_set]
  refine k _ (.inr trivial) ⟨F, r3⟩ ?_
  intro b o e
  obtain ⟨z1, z2⟩ := hid_some.mp e
  have nb : ¬ MF M0 F b := fun z => z1 ⟨F, rr, z⟩
  have nB : B ≠ some b := fun z => nb (rr.hc.bm b z)
  rw [upd_ne (fun z => nb (by rw [z]; exact .inr ⟨i, by rw [f2]; exact List.mem_cons_of_mem _ (List.mem_of_getElem? hp)⟩))]
  exact t2.ex b o nB (t1.ex b o nB z2)
theorem g1_setMM (i : Nat) {rs : List (List Int)} {r : List Int} {n m : Nat} {P : Int → Prop} (hA : A[i]? = some (.mm (mI rs))) (hv : GE c X e2 (A.map vwF) (fun d => ∃ u : Int, d = .int u ∧ P u)) (h1 : GV c X e1 (A.map vw0) (.int n)) (h3 : GV c X e3 (A.map vw0) (.int m))
    (hn : rs[n]? = some r) (hm : m < r.length) (k : ∀ u, P u → K.nx (A.set i (.mm (mI (rs.set n (r.set m u))))))
    (hN : X.N[i]? = some x := by rfl) (hx : ∀ j, Vis (X.X j).env.scope x := by first | exact fun _ => Or.inl rfl | exact fun _ => Or.inr (Or.inl rfl) | exact fun _ => Or.inr (Or.inr rfl)) (hd : (x == ("__debug__" : Str)) = false := by decide) (hcd : (x == ("__classdict__" : Str)) = false := by decide)
    (hs : PlainIx e1 := by exact fun _ _ => rfl)
    (ha : ∀ j v, assign (.Subscript (.Subscript (.Name x p) e1 q1) e3 q2) (X.X j).env v = (do let ov ← holding [v] (eval (.Subscript (.Name x p) e1 q1) (X.X j).env); let iv ← holding [v, ov] (eval e3 (X.X j).env); standAt q2; holding [v, ov, iv] (setItem ov iv v); release [v, ov, iv] []) := by intro _ _; rfl)
    (s1 : ∀ j, swapsWithSole [.Subscript (.Subscript (.Name x p) e1 q1) e3 q2] e2 pos.line (X.X j).env = pure false := by intro _; rfl) (s2 : ∀ j, swappedStores [.Subscript (.Subscript (.Name x p) e1 q1) e3 q2] e2 (X.X j).env = pure none := by intro _; rfl)
    (s3 : ∀ j, List.map (·.2) (assignEach [.Subscript (.Subscript (.Name x p) e1 q1) e3 q2] (X.X j).env) = [assign (.Subscript (.Subscript (.Name x p) e1 q1) e3 q2) (X.X j).env] := by intro _; rfl) :
    G1 c X (.Assign [.Subscript (.Subscript (.Name x p) e1 q1) e3 q2] e2 pos) A K := fun H0 M0 B G0 σ H ⟨F, rr⟩ Dn q => by
  refine ⟨_, fun j => ps_asg (pe_w e2 j) (pg_MM i hN hx hd hcd hs ha j) (s1 j) (s2 j) (s3 j), ?_⟩
  refine hv σ _ B H rr.vF rr.hc0 _ fun d v H1 t1 ⟨u, p1, pu⟩ sv => ?_
  subst p1
  rw [sv.intE]
  exact run_MM i ⟨F, rr.to t1⟩ hA h1 h3 hn hm fun H2 _ r2 _ => q.nx _ _ _ (k u pu) r2
/-- x[e1][e3], x[e3'][e1'] = (a, b), both ints -/
theorem g1_symMM (i : Nat) {rs : List (List Int)} {r r' : List Int} {n m n' m' : Nat} {u w : Int} (hA : A[i]? = some (.mm (mI rs))) (hv : GA c X [ea, eb] (A.map vw0) (fun z => z = [.da (.int u), .da (.int w)]))
    (h1 : GV c X e1 (A.map vw0) (.int n)) (h3 : GV c X e3 (A.map vw0) (.int m)) (h2 : GV c X e2 (A.map vw0) (.int n')) (h4 : GV c X e4 (A.map vw0) (.int m'))
    (hn : rs[n]? = some r) (hm : m < r.length) (hn' : (rs.set n (r.set m u))[n']? = some r') (hm' : m' < r'.length) (k : K.nx (A.set i (.mm (mI ((rs.set n (r.set m u)).set n' (r'.set m' w))))))
    (hN : X.N[i]? = some x := by rfl) (hx : ∀ j, Vis (X.X j).env.scope x := by first | exact fun _ => Or.inl rfl | exact fun _ => Or.inr (Or.inl rfl) | exact fun _ => Or.inr (Or.inr rfl)) (hd : (x == ("__debug__" : Str)) = false := by decide) (hcd : (x == ("__classdict__" : Str)) = false := by decide)
    (hs : PlainIx e1 := by exact fun _ _ => rfl) (hs2 : PlainIx e2 := by exact fun _ _ => rfl)
    (ha : ∀ j v, assign (.Subscript (.Subscript (.Name x p) e1 q1) e3 q2) (X.X j).env v = (do let ov ← holding [v] (eval (.Subscript (.Name x p) e1 q1) (X.X j).env); let iv ← holding [v, ov] (eval e3 (X.X j).env); standAt q2; holding [v, ov, iv] (setItem ov iv v); release [v, ov, iv] []) := by intro _ _; rfl)
    (ha2 : ∀ j v, assign (.Subscript (.Subscript (.Name x p') e2 q3) e4 q4) (X.X j).env v = (do let ov ← holding [v] (eval (.Subscript (.Name x p') e2 q3) (X.X j).env); let iv ← holding [v, ov] (eval e4 (X.X j).env); standAt q4; holding [v, ov, iv] (setItem ov iv v); release [v, ov, iv] []) := by intro _ _; rfl)
    (a1 : ∀ i, (assignEach [Expr.Subscript (.Subscript (.Name x p) e1 q1) e3 q2, .Subscript (.Subscript (.Name x p') e2 q3) e4 q4] (X.X i).env).length = 2 := by intro _; rfl)
    (a2 : ∀ i, List.findIdx? (·.1) (assignEach [Expr.Subscript (.Subscript (.Name x p) e1 q1) e3 q2, .Subscript (.Subscript (.Name x p') e2 q3) e4 q4] (X.X i).env) = none := by intro _; rfl)
    (s1 : ∀ l, swapsWithSole [.Tuple [.Subscript (.Subscript (.Name x p) e1 q1) e3 q2, .Subscript (.Subscript (.Name x p') e2 q3) e4 q4] k0 tpos] (.Tuple [ea, eb] k1 pos') pos.line (X.X l).env = pure false := by intro _; rfl)
    (s2 : ∀ l, swappedStores [.Tuple [.Subscript (.Subscript (.Name x p) e1 q1) e3 q2, .Subscript (.Subscript (.Name x p') e2 q3) e4 q4] k0 tpos] (.Tuple [ea, eb] k1 pos') (X.X l).env = pure none := by intro _; rfl)
    (s3 : ∀ l, List.map (·.2) (assignEach [.Tuple [.Subscript (.Subscript (.Name x p) e1 q1) e3 q2, .Subscript (.Subscript (.Name x p') e2 q3) e4 q4] k0 tpos] (X.X l).env) = [assign (.Tuple [.Subscript (.Subscript (.Name x p) e1 q1) e3 q2, .Subscript (.Subscript (.Name x p') e2 q3) e4 q4] k0 tpos) (X.X l).env] := by intro _; rfl) :
    G1 c X (.Assign [.Tuple [.Subscript (.Subscript (.Name x p) e1 q1) e3 q2, .Subscript (.Subscript (.Name x p') e2 q3) e4 q4] k0 tpos] (.Tuple [ea, eb] k1 pos') pos) A K := fun H0 M0 B G0 σ H ⟨F, rr⟩ Dn q => by
  refine ⟨_, fun l => ps_asg (pe_w _ l) (?_ : PG (X.X l) _ (gTup X.K 2 (gCons (gMM X i e1 e3) (gCons (gMM X i e2 e4) gNil)))) (s1 l) (s2 l) (s3 l), ?_⟩
  · rw [← X.hK l]
    exact pg_tup (X.calm l) (pgs_cons (pg_MM i hN hx hd hcd hs ha l) (pgs_cons (pg_MM i hN hx hd hcd hs2 ha2 l) pgs_nil)) (a1 l) (a2 l)
  refine gv_tup (ds := [.int u, .int w]) hv (Nat.le_of_ble_eq_true rfl) σ _ B H rr.v0 rr.hc _ fun d v H1 t1 p1 sv => ?_
  subst p1
  obtain ⟨a, vs, rfl, e0, il⟩ := sv.tupE
  have hvs := (show IsL c _ vs (lI [u, w]) from il).ints
  subst hvs
  refine ⟨a, _, rfl, SqT.of (hid_le _ _ e0), rfl, .int u, _, rfl, ?_⟩
  refine run_MM i ⟨F, rr.to t1⟩ hA h1 h3 hn hm fun H2 _ r2 _ => ?_
  refine ⟨.int w, _, rfl, ?_⟩
  have hi : i < A.length := (List.getElem?_eq_some_iff.mp hA).1
  have e : ∀ s : Sl, (A.set i s).map vw0 = (A.map vw0).set i (vw0 s) := fun s => List.map_set
  have e' : ((A.set i (.mm (mI (rs.set n (r.set m u))))).map vw0) = A.map vw0 := by
    rw [e]
    refine List.ext_getElem? fun j => ?_
    by_cases z : j = i
    · subst z
      rw [List.getElem?_set_self (by simpa using hi), List.getElem?_map, hA]; rfl
    · rw [List.getElem?_set_ne (Ne.symm z)]
  refine run_MM i r2 (List.getElem?_set_self hi) (by rw [e']; exact h2) (by rw [e']; exact h4) hn' hm' fun H3 _ r3 _ => ⟨rfl, ?_⟩
  rw [List.set_set] at r3
  exact q.nx _ _ _ k r3
end
end K33
end
section
set_option Elab.async false
set_option linter.all false
set_option maxRecDepth 100000
/-! B23: ints known by a property; the law's state; a walk over the script -/
namespace K33
open PySem L2
variable {c : Cl} {X : Fm} {Γ : List Vw}
def IP (P : Int → Prop) : D → Prop := fun d => ∃ s, d = .int s ∧ P s
section
variable {a b : Expr} {pos p : Pos} {P Pa Pb : Int → Prop}
theorem ge_ip {i : Int} (h : GV c X a Γ (.int i)) (p : P i) : GE c X a Γ (IP P) := GE.imp h fun d e => ⟨i, e, p⟩
theorem ip_imp (h : GE c X a Γ (IP P)) (i : ∀ x, P x → Pa x) : GE c X a Γ (IP Pa) := GE.imp h fun d ⟨s, e, p⟩ => ⟨s, e, i s p⟩
theorem rd_ip {C : Int → Int → Prop} {f : Int → Int → Int} {x y : Int} (hC : C x y) (p : P (f x y)) : RD c (rI C fun i j => .int (f i j)) (.int x) (.int y) (IP P) := fun M B H v w hc h1 h2 Q k => by
  rw [h1.intE, h2.intE]
  exact ⟨x, y, rfl, rfl, hC, k _ _ H (.refl hc.st) ⟨_, rfl, p⟩ (.int _)⟩
theorem rd_ip0 {f : Int → Int → Int} {x y : Int} (p : P (f x y)) : RD c (rI0 fun i j => .int (f i j)) (.int x) (.int y) (IP P) := fun M B H v w hc h1 h2 Q k => by
  rw [h1.intE, h2.intE]
  exact ⟨x, y, rfl, rfl, k _ _ H (.refl hc.st) ⟨_, rfl, p⟩ (.int _)⟩
theorem ge_add (ha : GE c X a Γ (IP Pa)) (hb : GE c X b Γ (IP Pb)) (h : ∀ x y, Pa x → Pb y → P (x + y)) : GE c X (.BinOp a .Add b pos) Γ (IP P) := ge_op (fun _ => op_add) ha hb fun x y ⟨i, e1, p1⟩ ⟨j, e2, p2⟩ => by subst e1 e2; exact rd_ip0 (f := fun i j => i + j) (h i j p1 p2)
theorem ge_sub (ha : GE c X a Γ (IP Pa)) (hb : GE c X b Γ (IP Pb)) (h : ∀ x y, Pa x → Pb y → P (x - y)) : GE c X (.BinOp a .Sub b pos) Γ (IP P) := ge_op (fun _ => op_sub) ha hb fun x y ⟨i, e1, p1⟩ ⟨j, e2, p2⟩ => by subst e1 e2; exact rd_ip0 (f := fun i j => i - j) (h i j p1 p2)
theorem ge_mul (ha : GE c X a Γ (IP Pa)) (hb : GE c X b Γ (IP Pb)) (h : ∀ x y, Pa x → Pb y → CMul x y ∧ P (x * y)) : GE c X (.BinOp a .Mult b pos) Γ (IP P) := ge_op (fun _ => op_mul) ha hb fun x y ⟨i, e1, p1⟩ ⟨j, e2, p2⟩ => by subst e1 e2; exact rd_ip (f := fun i j => i * j) (h i j p1 p2).1 (h i j p1 p2).2
theorem ge_fdiv (ha : GE c X a Γ (IP Pa)) (hb : GE c X b Γ (IP Pb)) (h : ∀ x y, Pa x → Pb y → CDiv x y ∧ P (x / y)) : GE c X (.BinOp a .FloorDiv b pos) Γ (IP P) := ge_op (fun _ => op_fdiv) ha hb fun x y ⟨i, e1, p1⟩ ⟨j, e2, p2⟩ => by subst e1 e2; exact rd_ip (f := fun i j => i / j) (h i j p1 p2).1 (h i j p1 p2).2
theorem ge_mod (ha : GE c X a Γ (IP Pa)) (hb : GE c X b Γ (IP Pb)) (h : ∀ x y, Pa x → Pb y → 0 < y ∧ P (x % y)) : GE c X (.BinOp a .Mod b pos) Γ (IP P) := ge_op (fun _ => op_mod) ha hb fun x y ⟨i, e1, p1⟩ ⟨j, e2, p2⟩ => by subst e1 e2; exact rd_ip (f := fun i j => i % j) (h i j p1 p2).1 (h i j p1 p2).2
theorem rd_cb {f : Int → Int → Bool} {x y : Int} {Pk : Bool → Prop} (p : Pk (f x y)) : RD c (rI0 fun i j => .bl (f i j)) (.int x) (.int y) (fun d => ∃ k, d = .bl k ∧ Pk k) := fun M B H v w hc h1 h2 Q k => by
  rw [h1.intE, h2.intE]
  exact ⟨x, y, rfl, rfl, k _ _ H (.refl hc.st) ⟨_, rfl, p⟩ (.bl _)⟩
theorem gt_gt {Pk : Bool → Prop} (ha : GE c X a Γ (IP Pa)) (hb : GE c X b Γ (IP Pb)) (h : ∀ x y, Pa x → Pb y → Pk (decide (y < x))) : GT c X (.Compare a [.Gt] [b] pos) Γ Pk := gt_cmp (fun _ => op_gt) ha hb fun x y ⟨i, e1, p1⟩ ⟨j, e2, p2⟩ => by subst e1 e2; exact rd_cb (f := fun i j => decide (j < i)) (h i j p1 p2)
theorem ge_intI (hm : X.mg "int" = none) (ha : GE c X a Γ (IP P)) (hg : ∀ i, Gl (X.X i) "int" := by intro _; rfl) (he : ∀ i, starEach [a] (X.X i).env = (false, eval a (X.X i).env) :: starEach [] (X.X i).env := by intro _; rfl)
    (hpl : ∀ i, (backTo pos (starEach [] (X.X i).env)).any (·.1) = false := by intro _; rfl) : GE c X (.Call (.Name "int" p) [a] [] pos) Γ (IP P) :=
  ge_ct (fun _ => call_int1) hm (by decide +kernel) (ga_cons ha ga_nil he) (fun ws ⟨d, ws', e, ⟨n, e1, p1⟩, e2⟩ M B H vs hc s Q k => by
    subst e2; subst e1; subst e
    obtain ⟨v, rfl, sv⟩ := Paired.inv1 s
    rw [(show Is c _ v (.int n) from sv).intE]
    exact .inl ⟨n, rfl, k _ _ H (.refl hc.st) ⟨n, rfl, p1⟩ (.int _)⟩) hg (by decide) (by decide) he hpl
end
/-! ### the state -/
section
variable {x : Str} {p q1 pos : Pos} {kk : Nat}
theorem atI_pair {u w : V} {k : Int} (h : k = 0 ∨ k = 1) : atI [u, w] k = some (if k = 0 then u else w) := by
  rcases h with rfl | rfl
  · rfl
  · rfl
theorem ge_st (j : Nat) {k : Int} (hk : k = 0 ∨ k = 1) (hΓ : Γ[j]? = some .st := by rfl) (hN : X.N[j]? = some x := by rfl) (hv : ∀ i, Vis (X.X i).env.scope x := by first | exact fun _ => Or.inl rfl | exact fun _ => Or.inr (Or.inl rfl) | exact fun _ => Or.inr (Or.inr rfl))
    (hd : (x == ("__debug__" : Str)) = false := by decide) (hcd : (x == ("__classdict__" : Str)) = false := by decide) : GE c X (.Subscript (.Name x p) (.Constant (.int k) kk q1) pos) Γ (IP fun s => k = 0 → 0 ≤ s) := fun σ M B H r hc Q q => by
  obtain ⟨v, e1, a, e2, e3⟩ := r.at_ j _ hΓ (fun z => nomatch z)
  subst e3
  obtain ⟨s, t, hs, e⟩ := hc.st a e2
  refine ⟨tOp (rIxL X.K) (tVar j) _, fun i => by rw [← X.hK i]; exact pe_ix ix_list (pe_var (by rw [X.hN i]; exact hN) (hv i) hd hcd) pe_int (fun _ _ => rfl), ?_⟩
  refine ⟨_, e1, ?_⟩
  refine ⟨a, _, k, _, rfl, rfl, SqL.of e, atI_pair hk, ?_⟩
  by_cases z : k = 0
  · rw [if_pos z]
    exact q _ _ H (.refl hc.st) ⟨s, rfl, fun _ => hs⟩ (.int _)
  · rw [if_neg z]
    exact q _ _ H (.refl hc.st) ⟨t, rfl, fun w => (z w).elim⟩ (.int _)
variable {A : List Sl} {K : Kk} {e2 : Expr} {spos : Pos}
theorem g1_setSt (i : Nat) {k : Int} (hk : k = 0 ∨ k = 1) (hA : A[i]? = some .st) (hv : GE c X e2 (A.map vwF) (IP fun s => k = 0 → 0 ≤ s)) (kn : K.nx A)
    (hN : X.N[i]? = some x := by rfl) (hx : ∀ j, Vis (X.X j).env.scope x := by first | exact fun _ => Or.inl rfl | exact fun _ => Or.inr (Or.inl rfl) | exact fun _ => Or.inr (Or.inr rfl)) (hd : (x == ("__debug__" : Str)) = false := by decide) (hcd : (x == ("__classdict__" : Str)) = false := by decide)
    (ha : ∀ j v, assign (.Subscript (.Name x p) (.Constant (.int k) kk q1) spos) (X.X j).env v = (do let ov ← holding [v] (eval (.Name x p) (X.X j).env); let iv ← holding [v, ov] (eval (.Constant (.int k) kk q1) (X.X j).env); standAt spos; holding [v, ov, iv] (setItem ov iv v); release [v, ov, iv] []) := by intro _ _; rfl)
    (s1 : ∀ j, swapsWithSole [.Subscript (.Name x p) (.Constant (.int k) kk q1) spos] e2 pos.line (X.X j).env = pure false := by intro _; rfl) (s2 : ∀ j, swappedStores [.Subscript (.Name x p) (.Constant (.int k) kk q1) spos] e2 (X.X j).env = pure none := by intro _; rfl)
    (s3 : ∀ j, List.map (·.2) (assignEach [.Subscript (.Name x p) (.Constant (.int k) kk q1) spos] (X.X j).env) = [assign (.Subscript (.Name x p) (.Constant (.int k) kk q1) spos) (X.X j).env] := by intro _; rfl) :
    G1 c X (.Assign [.Subscript (.Name x p) (.Constant (.int k) kk q1) spos] e2 pos) A K := fun H0 M0 B G0 σ H ⟨F, r⟩ Dn q => by
  refine ⟨_, fun j => ps_asg (pe_w e2 j) (pg_subF (pe_var (by rw [X.hN j]; exact hN) (hx j) hd hcd) pe_int (ha j)) (s1 j) (s2 j) (s3 j), ?_⟩
  refine hv σ _ B H r.vF r.hc0 _ fun d v H1 t1 ⟨u, p1, pu⟩ sv => ?_
  subst p1
  rw [sv.intE]
  have r1 := r.to t1
  obtain ⟨s, f1, f2, a, f3, f4⟩ := r1.sl i _ hA
  subst f4
  refine ⟨_, f1, ?_⟩
  obtain ⟨s0, t0, h0, e0⟩ := r1.hc.st a f3
  have t2 : To B H1 (upd H1 a (.lst ([.int s0, .int t0].set k.toNat (.int u)))) := ⟨fun b o n z => by rw [upd_ne (fun w => n (by rw [w]; exact f3))]; exact z, fun b z => by
    rw [f3] at z; cases z
    rcases hk with rfl | rfl
    · exact ⟨u, t0, pu rfl, upd_same⟩
    · exact ⟨s0, u, h0, upd_same⟩⟩
  refine ⟨a, _, k, k.toNat, rfl, rfl, e0, ?_, ?_⟩
  · rcases hk with rfl | rfl
    · rfl
    · rfl
  exact q.nx _ _ _ kn ⟨F, r1.to t2⟩
end
end K33
end
section
set_option Elab.async false
set_option linter.all false
set_option maxRecDepth 100000
/-! B24: list(range(n)) -/
namespace K33
open PySem L2
variable {c : Cl} {X : Fm} {Γ : List Vw} {a : Expr} {p p2 pos pos2 : Pos}
theorem rgV_nat (n : Nat) : rgV 0 (n : Int) = (List.range n).map fun (i : Nat) => V.int (i : Int) := by
  unfold rgV
  have e : ((n : Int) - 0).toNat = n := by omega
  rw [e]
  exact List.map_congr_left fun i _ => by rw [Int.zero_add]
theorem gl_listRg {n : Nat} (hm : X.mg "list" = none) (hm2 : X.mg "range" = none) (ha : GV c X a Γ (.int (n : Int))) (hn : n ≤ 1000000) (hg : ∀ i, Gl (X.X i) "list" := by intro _; rfl) (hg2 : ∀ i, Gl (X.X i) "range" := by intro _; rfl)
    (h1 : ∀ i, starEach [a] (X.X i).env = (false, eval a (X.X i).env) :: starEach [] (X.X i).env := by intro _; rfl)
    (h2 : ∀ i, starEach [.Call (.Name "range" p2) [a] [] pos2] (X.X i).env = (false, eval (.Call (.Name "range" p2) [a] [] pos2) (X.X i).env) :: starEach [] (X.X i).env := by intro _; rfl) : GL c X (.Call (.Name "list" p) [.Call (.Name "range" p2) [a] [] pos2] [] pos) Γ (fun ds => ds = (List.range n).map fun (i : Nat) => D.int (i : Int)) := fun σ M B H r hc Q k => by
  refine ⟨_, fun i => pe_listRg (X.calm i) (hg i) (by rw [X.hmg i]; exact hm) (prg_1 (hg2 i) (by rw [X.hmg i]; exact hm2) (pe_w a i) (h1 i)) (h2 i), ?_⟩
  refine ha σ M B H r hc _ fun d v H1 t p s => ?_
  subst p
  rw [s.intE]
  refine ⟨(n : Int), rfl, ⟨by decide, by decide, by omega, by omega, by omega⟩, fun q hq => ?_⟩
  refine k _ q _ _ (t.trans (.new hq t.st)) rfl (t.free hq) upd_same (new_lst (t.hc hc) ?_ hq)
  rw [rgV_nat]
  have e1 : ((List.range n).map fun (i : Nat) => V.int (i : Int)) = ((List.range n).map fun (i : Nat) => (i : Int)).map V.int := by rw [List.map_map]; rfl
  have e2 : ((List.range n).map fun (i : Nat) => D.int (i : Int)) = ((List.range n).map fun (i : Nat) => (i : Int)).map D.int := by rw [List.map_map]; rfl
  rw [e1, e2]
  exact IsL.ofInts
end K33
end
section
set_option Elab.async false
set_option linter.all false
set_option maxRecDepth 100000
/-! B25: a Metric of rows known by a property; not of a test known by a property -/
namespace K33
open PySem L2
variable {c : Cl} {X : Fm} {Γ : List Vw} {p pos : Pos} {a : Expr} {k : Nat} {Pr : List D → Nat → List D → Prop}
theorem gt_not {P : Bool → Prop} (h : GT c X a Γ P) : GT c X (.UnaryOp .Not a pos) Γ (fun x => P (!x)) := fun σ M B H r hc Q q =>
  ⟨_, fun i => pt_not (pt_w a i), h σ M B H r hc _ fun x H1 t p => q (!x) H1 t (by show P (!(!x)); rw [Bool.not_not]; exact p)⟩
theorem ge_metric {Pe Po : D → Prop} (R : MMk c X.prog X.w X.K X.mg X.base k Pr) (hr : Room (k + 1) X.A) (ha : GE c X a Γ Pe) (hp : ∀ d, Pe d → ∃ ds n rs, d = .tup ds ∧ Pr ds n rs ∧ Po (.met n rs)) (hg : ∀ i, Gl (X.X i) "Metric" := by intro _; rfl)
    (he : ∀ i, starEach [a] (X.X i).env = (false, eval a (X.X i).env) :: starEach [] (X.X i).env := by intro _; rfl)
    (hpl : ∀ i, (backTo pos (starEach [] (X.X i).env)).any (·.1) = false := by intro _; rfl) : GE c X (.Call (.Name "Metric" p) [a] [] pos) Γ Po := fun σ M B H rr hh Q q => by
  obtain ⟨f, fd, M1, F, hb0⟩ := R.ex
  refine ⟨_, fun i => pe_make (E := E0) (by rw [X.hK i]; exact M1) (fnAt F) (room_at hr) (hg i) (by rw [X.hmg i]; exact R.nm) (by rw [X.hK i]; exact hb0) (.nil : Vals [] []) passF (pa_w [a] i) (by decide) (he i) (hpl i), ?_⟩
  refine ga_cons ha ga_nil he σ M B H rr hh _ fun ws vs H1 t ⟨d, ws', e1, pd, e2⟩ s => ?_
  subst e2; subst e1
  obtain ⟨ds, n, rs, rfl, hpr, hpo⟩ := hp d pd
  obtain ⟨v, rfl, sv⟩ := Paired.inv1 s
  intro x dx nx ndx nex
  have ex1 : Ex H1 (upd (upd H1 dx (.own x)) x (.ins c.M dx [])) := fun b o e => by
    rw [upd_ne (ne_of_none e nx), upd_ne (ne_of_none e ndx)]; exact e
  have t2 : To B H1 _ := .of ex1 t.st
  have hx : ¬ M x := (t.hc hh).no nx
  refine ⟨M, B, x, dx, v, ds, n, rs, rfl, t2.hc (t.hc hh), Is.mono (t2.hid hh.bm) sv, hpr, upd_same, fun b H' k1 k2 k3 k4 => ⟨rfl, ?_⟩⟩
  exact q _ _ _ (t.trans ⟨fun a o n e => k1 a o (ne_of_none e nx) n (ex1 a o e), k2⟩) hpo (.met (hid_some.mpr ⟨hx, k3⟩) k4)
end K33
end
section
set_option linter.all false
/-! A1: finite sums, a multilinear alternating integer form (determinant) -/
namespace K33
def Sm : Nat → (Nat → Int) → Int
  | 0, _ => 0
  | m + 1, f => Sm m f + f m
theorem Sm_congr {m : Nat} {f g : Nat → Int} (h : ∀ i, i < m → f i = g i) : Sm m f = Sm m g := by
  induction m with
  | zero => rfl
  | succ m ih => simp only [Sm]; rw [ih (fun i hi => h i (by omega)), h m (by omega)]
theorem Sm_zero {m : Nat} {f : Nat → Int} (h : ∀ i, i < m → f i = 0) : Sm m f = 0 := by
  induction m with
  | zero => rfl
  | succ m ih => simp only [Sm]; rw [ih (fun i hi => h i (by omega)), h m (by omega)]; rfl
theorem Sm_add (m : Nat) (f g : Nat → Int) : Sm m (fun i => f i + g i) = Sm m f + Sm m g := by
  induction m with
  | zero => rfl
  | succ m ih => simp only [Sm]; rw [ih]; omega
theorem Sm_sub (m : Nat) (f g : Nat → Int) : Sm m (fun i => f i - g i) = Sm m f - Sm m g := by
  induction m with
  | zero => rfl
  | succ m ih => simp only [Sm]; rw [ih]; omega
theorem Sm_mul (m : Nat) (c : Int) (f : Nat → Int) : Sm m (fun i => c * f i) = c * Sm m f := by
  induction m with
  | zero => simp [Sm]
  | succ m ih => simp only [Sm]; rw [ih, Int.mul_add]
theorem Sm_mulr (m : Nat) (c : Int) (f : Nat → Int) : Sm m (fun i => f i * c) = Sm m f * c := by
  induction m with
  | zero => simp [Sm]
  | succ m ih => simp only [Sm]; rw [ih, Int.add_mul]
theorem Sm_single {m k : Nat} {f : Nat → Int} (hk : k < m) (h : ∀ i, i < m → i ≠ k → f i = 0) : Sm m f = f k := by
  induction m with
  | zero => omega
  | succ m ih =>
    simp only [Sm]
    by_cases e : k = m
    · subst e
      rw [Sm_zero (fun i hi => h i (by omega) (by omega))]; omega
    · rw [ih (by omega) (fun i hi => h i (by omega)), h m (by omega) (by omega)]; omega
theorem Sm_two {m k : Nat} {f : Nat → Int} (hk : k + 1 < m) (h : ∀ i, i < m → i ≠ k → i ≠ k + 1 → f i = 0) : Sm m f = f k + f (k + 1) := by
  induction m with
  | zero => omega
  | succ m ih =>
    simp only [Sm]
    by_cases e : k + 1 = m
    · subst e
      rw [Sm_single (k := k) (by omega) (fun i hi hne => h i (by omega) hne (by omega))]
    · rw [ih (by omega) (fun i hi => h i (by omega)), h m (by omega) (by omega) (by omega)]; omega
theorem Sm_swap (m n : Nat) (f : Nat → Nat → Int) : Sm m (fun i => Sm n (fun j => f i j)) = Sm n (fun j => Sm m (fun i => f i j)) := by
  induction m with
  | zero => simp only [Sm]; exact (Sm_zero (fun _ _ => rfl)).symm
  | succ m ih => simp only [Sm]; rw [ih, Sm_add]
theorem Sm_nonneg {m : Nat} {f : Nat → Int} (h : ∀ i, i < m → 0 ≤ f i) : 0 ≤ Sm m f := by
  induction m with
  | zero => exact Int.le_refl 0
  | succ m ih => simp only [Sm]; have := ih (fun i hi => h i (by omega)); have := h m (by omega); omega
theorem Sm_nonpos {m : Nat} {f : Nat → Int} (h : ∀ i, i < m → f i ≤ 0) : Sm m f ≤ 0 := by
  induction m with
  | zero => exact Int.le_refl 0
  | succ m ih => simp only [Sm]; have := ih (fun i hi => h i (by omega)); have := h m (by omega); omega
theorem Sm_pos_ex {m : Nat} {f : Nat → Int} (h : 0 < Sm m f) : ∃ i, i < m ∧ 0 < f i := by
  induction m with
  | zero => simp [Sm] at h
  | succ m ih =>
    simp only [Sm] at h
    by_cases e : 0 < f m
    · exact ⟨m, by omega, e⟩
    · obtain ⟨i, hi, hf⟩ := ih (by omega)
      exact ⟨i, by omega, hf⟩
theorem Sm_zero_of_nonneg {m : Nat} {f : Nat → Int} (h : ∀ i, i < m → 0 ≤ f i) (z : Sm m f ≤ 0) : ∀ i, i < m → f i = 0 := by
  induction m with
  | zero => intro i hi; omega
  | succ m ih =>
    simp only [Sm] at z
    have h1 := Sm_nonneg (fun i (hi : i < m) => h i (by omega))
    have h2 := h m (by omega)
    intro i hi
    by_cases e : i = m
    · subst e; omega
    · exact ih (fun i hi => h i (by omega)) (by omega) i (by omega)
theorem Sm_abs {m : Nat} {f : Nat → Int} {B : Nat} (h : ∀ i, i < m → (f i).natAbs ≤ B) : (Sm m f).natAbs ≤ m * B := by
  induction m with
  | zero => simp [Sm]
  | succ m ih =>
    simp only [Sm]
    have h1 := ih (fun i hi => h i (by omega))
    have h2 := h m (by omega)
    have h3 := Int.natAbs_add_le (Sm m f) (f m)
    rw [Nat.succ_mul]; omega

def sk (i a : Nat) : Nat := if a < i then a else a + 1
def pk (i a : Nat) : Nat := if a < i then a else a - 1
def sg (i : Nat) : Int := if i % 2 = 0 then 1 else -1
def up (M : Nat → Nat → Int) (k : Nat) (v : Nat → Int) : Nat → Nat → Int := fun a => if a = k then v else M a
def minor (M : Nat → Nat → Int) (i : Nat) : Nat → Nat → Int := fun a b => M (sk i a) (b + 1)
def det : Nat → (Nat → Nat → Int) → Int
  | 0, _ => 1
  | m + 1, M => Sm (m + 1) (fun i => sg i * M i 0 * det m (minor M i))

theorem up_same (M : Nat → Nat → Int) (k : Nat) (v : Nat → Int) : up M k v k = v := by simp [up]
theorem up_ne (M : Nat → Nat → Int) {k a : Nat} (v : Nat → Int) (h : a ≠ k) : up M k v a = M a := by simp [up, h]
theorem up_up (M : Nat → Nat → Int) (k : Nat) (v w : Nat → Int) : up (up M k v) k w = up M k w := by
  funext a; unfold up; split <;> rfl
theorem up_comm (M : Nat → Nat → Int) {k l : Nat} (v w : Nat → Int) (h : k ≠ l) : up (up M k v) l w = up (up M l w) k v := by
  funext a; unfold up; split <;> split <;> first | rfl | omega
theorem up_self (M : Nat → Nat → Int) (k : Nat) : up M k (M k) = M := by
  funext a; unfold up; split
  · rename_i h; rw [h]
  · rfl
theorem minor_up_same (M : Nat → Nat → Int) (k : Nat) (v : Nat → Int) : minor (up M k v) k = minor M k := by
  funext a b
  unfold minor
  rw [up_ne]
  unfold sk; split <;> omega
theorem minor_up_ne (M : Nat → Nat → Int) {i k : Nat} (v : Nat → Int) (h : i ≠ k) : minor (up M k v) i = up (minor M i) (pk i k) (fun b => v (b + 1)) := by
  funext a b
  unfold minor
  by_cases e : a = pk i k
  · subst e
    rw [up_same]
    have : sk i (pk i k) = k := by unfold sk pk; (repeat' split) <;> omega
    rw [this, up_same]
  · rw [up_ne _ _ e, up_ne]
    intro q; apply e; unfold sk at q; unfold pk; split at q <;> (split <;> omega)
theorem det_lin (m : Nat) : ∀ (M : Nat → Nat → Int) (k : Nat) (c : Int) (v w : Nat → Int), k < m →
    det m (up M k (fun j => c * v j + w j)) = c * det m (up M k v) + det m (up M k w) := by
  induction m with
  | zero => intro M k c v w h; omega
  | succ m ih =>
    intro M k c v w hk
    simp only [det]
    rw [← Sm_mul, ← Sm_add]
    apply Sm_congr
    intro i hi
    by_cases e : i = k
    · subst e
      rw [minor_up_same, minor_up_same, minor_up_same, up_same, up_same, up_same]
      grind
    · rw [minor_up_ne M _ e, minor_up_ne M _ e, minor_up_ne M _ e, up_ne _ _ e, up_ne _ _ e, up_ne _ _ e]
      rw [ih (minor M i) (pk i k) c (fun b => v (b + 1)) (fun b => w (b + 1)) (by unfold pk; split <;> omega)]
      grind
theorem sg_succ (i : Nat) : sg (i + 1) = - sg i := by unfold sg; split <;> split <;> omega
theorem det_adj (m : Nat) : ∀ (M : Nat → Nat → Int) (k : Nat), k + 1 < m → M k = M (k + 1) → det m M = 0 := by
  induction m with
  | zero => intro M k h; omega
  | succ m ih =>
    intro M k hk e
    simp only [det]
    rw [Sm_two (k := k) hk]
    · have h1 : minor M k = minor M (k + 1) := by
        funext a b
        unfold minor
        by_cases q : a = k
        · subst q
          have s1 : sk a a = a + 1 := by unfold sk; split <;> omega
          have s2 : sk (a + 1) a = a := by unfold sk; split <;> omega
          rw [s1, s2, e]
        · have : sk k a = sk (k + 1) a := by unfold sk; split <;> split <;> omega
          rw [this]
      rw [h1, ← e, sg_succ]
      grind
    · intro i hi h1 h2
      by_cases l : i < k
      · rw [ih (minor M i) (k - 1) (by omega) (by
          funext b; unfold minor
          have s1 : sk i (k - 1) = k := by unfold sk; split <;> omega
          have s2 : sk i (k - 1 + 1) = k + 1 := by unfold sk; split <;> omega
          rw [s1, s2, e])]
        simp
      · rw [ih (minor M i) k (by omega) (by
          funext b; unfold minor
          have s1 : sk i k = k := by unfold sk; split <;> omega
          have s2 : sk i (k + 1) = k + 1 := by unfold sk; split <;> omega
          rw [s1, s2, e])]
        simp
theorem det_zero {m : Nat} (M : Nat → Nat → Int) {k : Nat} (hk : k < m) : det m (up M k (fun _ => 0)) = 0 := by
  have h := det_lin m M k 1 (fun _ => 0) (fun _ => 0) hk
  have e : (fun j : Nat => (1 : Int) * (fun _ : Nat => (0 : Int)) j + (fun _ : Nat => (0 : Int)) j) = (fun _ : Nat => (0 : Int)) := by funext j; simp
  rw [e] at h
  omega
theorem det_addv {m : Nat} (M : Nat → Nat → Int) {k : Nat} (v w : Nat → Int) (hk : k < m) : det m (up M k (fun j => v j + w j)) = det m (up M k v) + det m (up M k w) := by
  have h := det_lin m M k 1 v w hk
  simpa using h
theorem det_smul {m : Nat} (M : Nat → Nat → Int) {k : Nat} (c : Int) (v : Nat → Int) (hk : k < m) : det m (up M k (fun j => c * v j)) = c * det m (up M k v) := by
  have h := det_lin m M k c v (fun _ => 0) hk
  rw [det_zero M hk] at h
  simpa using h
theorem det_swap_of {m a b : Nat} (ha : a < m) (hb : b < m) (ne : a ≠ b) (alt : ∀ M : Nat → Nat → Int, M a = M b → det m M = 0) (M : Nat → Nat → Int) (x y : Nat → Int) :
    det m (up (up M a x) b y) = - det m (up (up M a y) b x) := by
  have h0 := alt (up (up M a (fun j => x j + y j)) b (fun j => x j + y j)) (by rw [up_same, up_ne _ _ ne, up_same])
  have h1 := alt (up (up M a x) b x) (by rw [up_same, up_ne _ _ ne, up_same])
  have h2 := alt (up (up M a y) b y) (by rw [up_same, up_ne _ _ ne, up_same])
  rw [det_addv _ _ _ hb, up_comm _ _ _ ne, up_comm _ _ _ ne, det_addv _ _ _ ha, det_addv _ _ _ ha, up_comm _ _ _ ne.symm, up_comm _ _ _ ne.symm, up_comm _ _ _ ne.symm, up_comm _ _ _ ne.symm] at h0
  omega
theorem det_alt {m : Nat} : ∀ (n : Nat) (M : Nat → Nat → Int) (a b : Nat), b - a = n → a < b → b < m → M a = M b → det m M = 0 := by
  intro n
  induction n with
  | zero => intro M a b h1 h2; omega
  | succ n ih =>
    intro M a b hn hab hb e
    by_cases q : b = a + 1
    · subst q; exact det_adj m M a hb e
    · have hs := det_swap_of (m := m) (a := b - 1) (b := b) (by omega) hb (by omega) (fun M' e' => det_adj m M' (b - 1) (by omega) (by rw [show b - 1 + 1 = b by omega]; exact e')) M (M (b - 1)) (M b)
      rw [up_self, up_self] at hs
      rw [hs, ih (up (up M (b - 1) (M b)) b (M (b - 1))) a (b - 1) (by omega) (by omega) (by omega) (by rw [up_ne _ _ (by omega), up_ne _ _ (by omega), up_ne _ _ (by omega), up_same, e])]
      rfl
theorem det_eq0 {m : Nat} (M : Nat → Nat → Int) {a b : Nat} (ha : a < m) (hb : b < m) (ne : a ≠ b) (e : M a = M b) : det m M = 0 := by
  rcases Nat.lt_or_gt_of_ne ne with h | h
  · exact det_alt _ M a b rfl h hb e
  · exact det_alt _ M b a rfl h ha e.symm
theorem det_swap {m : Nat} (M : Nat → Nat → Int) {a b : Nat} (ha : a < m) (hb : b < m) (ne : a ≠ b) (x y : Nat → Int) : det m (up (up M a x) b y) = - det m (up (up M a y) b x) :=
  det_swap_of ha hb ne (fun _ e => det_eq0 _ ha hb ne e) M x y
theorem det_sum {m : Nat} (M : Nat → Nat → Int) {k : Nat} (hk : k < m) (n : Nat) (c : Nat → Int) (V : Nat → Nat → Int) :
    det m (up M k (fun j => Sm n (fun i => c i * V i j))) = Sm n (fun i => c i * det m (up M k (V i))) := by
  induction n with
  | zero => simp only [Sm]; exact det_zero M hk
  | succ n ih =>
    simp only [Sm]
    rw [det_addv M _ _ hk, ih, det_smul M _ _ hk]
theorem det_congr {m : Nat} : ∀ {M N : Nat → Nat → Int}, (∀ i j, i < m → j < m → M i j = N i j) → det m M = det m N := by
  induction m with
  | zero => intro M N _; rfl
  | succ m ih =>
    intro M N h
    simp only [det]
    apply Sm_congr
    intro i hi
    rw [h i 0 hi (by omega), ih (M := minor M i) (N := minor N i) (fun a b ha hb => by
      unfold minor; exact h _ _ (by unfold sk; split <;> omega) (by omega))]
theorem det_id {m : Nat} : ∀ {M : Nat → Nat → Int}, (∀ i j, i < m → j < m → M i j = if i = j then 1 else 0) → det m M = 1 := by
  induction m with
  | zero => intro M _; rfl
  | succ m ih =>
    intro M h
    simp only [det]
    rw [Sm_single (k := 0) (by omega) (fun i hi hne => by rw [h i 0 hi (by omega), if_neg hne]; simp)]
    rw [h 0 0 (by omega) (by omega), ih (M := minor M 0) (fun a b ha hb => by
      unfold minor
      rw [h _ _ (by unfold sk; split <;> omega) (by omega)]
      have : sk 0 a = a + 1 := by unfold sk; split <;> omega
      rw [this]
      by_cases e : a = b
      · subst e; simp
      · rw [if_neg (by omega), if_neg e])]
    rfl
def fac : Nat → Nat
  | 0 => 1
  | m + 1 => (m + 1) * fac m
theorem det_bound (B : Nat) (m : Nat) : ∀ {M : Nat → Nat → Int}, (∀ i j, i < m → j < m → (M i j).natAbs ≤ B) → (det m M).natAbs ≤ fac m * B ^ m := by
  induction m with
  | zero => intro M _; simp [det, fac]
  | succ m ih =>
    intro M h
    simp only [det, fac]
    have h1 := Sm_abs (m := m + 1) (f := fun i => sg i * M i 0 * det m (minor M i)) (B := B * (fac m * B ^ m)) (fun i hi => by
      have e1 : (sg i).natAbs = 1 := by unfold sg; split <;> rfl
      have e2 := h i 0 hi (by omega)
      have e3 := ih (M := minor M i) (fun a b ha hb => by unfold minor; exact h _ _ (by unfold sk; split <;> omega) (by omega))
      simp only [Int.natAbs_mul, e1, Nat.one_mul]
      exact Nat.mul_le_mul e2 e3)
    have e : (m + 1) * (B * (fac m * B ^ m)) = (m + 1) * fac m * B ^ (m + 1) := by
      rw [Nat.pow_succ]; grind
    rw [← e]; exact h1
end K33
end
section
set_option linter.all false
/-! A2: the tableau of the simplex method with integers; a pivot; Bland's rule ends -/
namespace K33
theorem ilt_or_ge (a b : Int) : a < b ∨ b ≤ a := by omega
theorem Sm_pair {m a b : Nat} {f : Nat → Int} (ha : a < m) (hb : b < m) (ne : a ≠ b) (h : ∀ i, i < m → i ≠ a → i ≠ b → f i = 0) : Sm m f = f a + f b := by
  have e : Sm m f = Sm m (fun i => (if i = a then f a else 0) + (if i = b then f b else 0)) := Sm_congr fun i hi => by
    by_cases e1 : i = a
    · subst e1; rw [if_pos rfl, if_neg ne]; omega
    · by_cases e2 : i = b
      · subst e2; rw [if_neg e1, if_pos rfl]; omega
      · rw [if_neg e1, if_neg e2, h i hi e1 e2]; rfl
  rw [e, Sm_add, Sm_single (k := a) ha (fun i _ q => if_neg q), Sm_single (k := b) hb (fun i _ q => if_neg q), if_pos rfl, if_pos rfl]
def upb (b : Nat → Nat) (r s : Nat) : Nat → Nat := fun k => if k = r then s else b k
section
variable (m count : Nat) (A : Nat → Nat → Int)
def Bm (b : Nat → Nat) : Nat → Nat → Int := fun k => A (b k)
def sc (b : Nat → Nat) : Int := det m (Bm A b)
def Tb (b : Nat → Nat) (k j : Nat) : Int := det m (up (Bm A b) k (A j))
def cst (j : Nat) : Int := if count ≤ j ∧ j < count + m then 1 else 0
def pr (b : Nat → Nat) (j : Nat) : Int := sc m A b * cst m count j - Sm m (fun k => cst m count (b k) * Tb m A b k j)
structure Ok (b : Nat → Nat) : Prop where
  lt : ∀ k, k < m → b k < count + m
  inj : ∀ k l, k < m → l < m → b k = b l → k = l
  pos : 0 < sc m A b
  cr : ∀ j, j ≤ count + m → ∀ i, i < m → sc m A b * A j i = Sm m (fun k => A (b k) i * Tb m A b k j)
  nn : ∀ k, k < m → 0 ≤ Tb m A b k (count + m)
/-- the entering column s, the leaving row r, by Bland's rule -/
structure Step (b : Nat → Nat) (r s : Nat) : Prop where
  sl : s < count
  neg : pr m count A b s < 0
  fst : ∀ j, j < s → 0 ≤ pr m count A b j
  rl : r < m
  pos : 0 < Tb m A b r s
  least : ∀ k, k < m → 0 < Tb m A b k s → Tb m A b r (count + m) * Tb m A b k s < Tb m A b k (count + m) * Tb m A b r s ∨
    (Tb m A b r (count + m) * Tb m A b k s = Tb m A b k (count + m) * Tb m A b r s ∧ b r ≤ b k)
end
section
variable {m count : Nat} {A : Nat → Nat → Int} {b : Nat → Nat} {r s : Nat}
theorem Bm_upb : Bm A (upb b r s) = up (Bm A b) r (A s) := by
  funext k; unfold Bm upb up; split <;> rfl
theorem cst_nn (j : Nat) : 0 ≤ cst m count j := by unfold cst; split <;> omega
theorem cst_lt {j : Nat} (h : j < count) : cst m count j = 0 := by unfold cst; rw [if_neg (by omega)]
theorem cst_N : cst m count (count + m) = 0 := by unfold cst; rw [if_neg (by omega)]
theorem T_same {k : Nat} : Tb m A b k (b k) = sc m A b := by
  unfold Tb sc
  have : A (b k) = Bm A b k := rfl
  rw [this, up_self]
theorem T_other {k l : Nat} (hk : k < m) (hl : l < m) (ne : k ≠ l) : Tb m A b k (b l) = 0 := by
  unfold Tb
  refine det_eq0 _ hk hl ne ?_
  rw [up_same, up_ne _ _ ne.symm]
  rfl
theorem pr_basis {l : Nat} (hl : l < m) : pr m count A b (b l) = 0 := by
  unfold pr
  rw [Sm_single (k := l) hl (fun i hi ne => by rw [T_other hi hl ne]; simp), T_same, Int.mul_comm]
  omega
theorem sc_upb : sc m A (upb b r s) = Tb m A b r s := by unfold sc Tb; rw [Bm_upb]
theorem T_upb_r {j : Nat} : Tb m A (upb b r s) r j = Tb m A b r j := by unfold Tb; rw [Bm_upb, up_up]
theorem T_upb {k j : Nat} (O : Ok m count A b) (hr : r < m) (hk : k < m) (ne : k ≠ r) (hs : s ≤ count + m) :
    sc m A b * Tb m A (upb b r s) k j = Tb m A b r s * Tb m A b k j - Tb m A b k s * Tb m A b r j := by
  unfold Tb
  rw [Bm_upb, up_comm _ _ _ ne.symm, ← det_smul _ _ _ hr]
  have e : det m (up (up (Bm A b) k (A j)) r (fun i => sc m A b * A s i)) = det m (up (up (Bm A b) k (A j)) r (fun i => Sm m (fun k' => Tb m A b k' s * Bm A b k' i))) := by
    refine det_congr fun a i ha hi => ?_
    by_cases q : a = r
    · subst q; rw [up_same, up_same, O.cr s hs i hi]
      exact Sm_congr fun k' _ => Int.mul_comm _ _
    · rw [up_ne _ _ q, up_ne _ _ q]
  rw [e, det_sum _ hr, Sm_pair hr hk ne.symm]
  · have e1 : up (up (Bm A b) k (A j)) r (Bm A b r) = up (Bm A b) k (A j) := by rw [up_comm _ _ _ ne, up_self]
    have e2 : det m (up (up (Bm A b) k (A j)) r (Bm A b k)) = - det m (up (Bm A b) r (A j)) := by
      rw [det_swap _ hk hr ne, up_self]
    rw [e1, e2]
    unfold Tb
    grind
  · intro i hi h1 h2
    rw [det_eq0 (up (up (Bm A b) k (A j)) r (Bm A b i)) hr hi (Ne.symm h1) (by rw [up_same, up_ne _ _ h1, up_ne _ _ h2])]
    simp
theorem lin_upb (O : Ok m count A b) (hr : r < m) (hs : s ≤ count + m) (u u' : Nat → Int) (us : Int) (h1 : u' r = us) (h2 : ∀ k, k < m → k ≠ r → u' k = u k) (j : Nat) :
    sc m A b * Sm m (fun k => u' k * Tb m A (upb b r s) k j) = Tb m A b r s * Sm m (fun k => u k * Tb m A b k j) - Tb m A b r j * Sm m (fun k => u k * Tb m A b k s) + sc m A b * us * Tb m A b r j := by
  rw [← Sm_mul]
  have e : Sm m (fun k => sc m A b * (u' k * Tb m A (upb b r s) k j)) = Sm m (fun k => (Tb m A b r s * (u k * Tb m A b k j) - Tb m A b r j * (u k * Tb m A b k s)) + (if k = r then sc m A b * us * Tb m A b r j else 0)) := by
    refine Sm_congr fun k hk => ?_
    by_cases q : k = r
    · subst q
      rw [T_upb_r, if_pos rfl, h1]
      grind
    · rw [if_neg q, h2 k hk q]
      have := T_upb (j := j) O hr hk q hs
      grind
  rw [e, Sm_add, Sm_sub, Sm_mul, Sm_mul, Sm_single (k := r) hr (fun i _ q => if_neg q), if_pos rfl]
theorem pr_upb (O : Ok m count A b) (hr : r < m) (hs : s ≤ count + m) (j : Nat) :
    sc m A b * pr m count A (upb b r s) j = Tb m A b r s * pr m count A b j - pr m count A b s * Tb m A b r j := by
  have h := lin_upb O hr hs (fun k => cst m count (b k)) (fun k => cst m count (upb b r s k)) (cst m count s) (by simp [upb]) (fun k _ q => by simp [upb, q]) j
  unfold pr
  rw [sc_upb]
  grind
theorem Int.cancel {a x y : Int} (h : 0 < a) (e : a * x = a * y) : x = y := Int.eq_of_mul_eq_mul_left (by omega) e
theorem pr_neg_row (O : Ok m count A b) (hs : s < count) (h : pr m count A b s < 0) : ∃ k, k < m ∧ 0 < Tb m A b k s := by
  unfold pr at h
  rw [cst_lt hs] at h
  obtain ⟨k, hk, q⟩ := Sm_pos_ex (m := m) (f := fun k => cst m count (b k) * Tb m A b k s) (by omega)
  refine ⟨k, hk, ?_⟩
  have := cst_nn (m := m) (count := count) (b k)
  rcases ilt_or_ge 0 (Tb m A b k s) with z | z
  · exact z
  · have := Int.mul_nonpos_of_nonneg_of_nonpos this z
    omega
theorem Ok.next (O : Ok m count A b) (S : Step m count A b r s) : Ok m count A (upb b r s) where
  lt := fun k hk => by
    unfold upb; split
    · have := S.sl; omega
    · exact O.lt k hk
  inj := fun k l hk hl e => by
    have no : ∀ k, k < m → b k ≠ s := fun k hk q => by
      have := pr_basis (count := count) (A := A) (b := b) hk
      rw [q] at this
      have := S.neg
      omega
    unfold upb at e
    split at e <;> split at e
    · omega
    · exact absurd e.symm (no l hl)
    · exact absurd e (no k hk)
    · exact O.inj k l hk hl e
  pos := by rw [sc_upb]; exact S.pos
  cr := fun j hj i hi => by
    have hs : s ≤ count + m := by have := S.sl; omega
    have h := lin_upb O S.rl hs (fun k => A (b k) i) (fun k => A (upb b r s k) i) (A s i) (by simp [upb]) (fun k _ q => by simp [upb, q]) j
    rw [← O.cr j hj i hi, ← O.cr s hs i hi] at h
    refine Int.cancel O.pos ?_
    rw [h, sc_upb]
    grind
  nn := fun k hk => by
    have hs : s ≤ count + m := by have := S.sl; omega
    by_cases q : k = r
    · subst q; rw [T_upb_r]; exact O.nn k hk
    · have h := T_upb (j := count + m) O S.rl hk q hs
      have p := O.pos
      have n1 := O.nn k hk
      have n2 := O.nn r S.rl
      have t : 0 ≤ Tb m A b r s * Tb m A b k (count + m) - Tb m A b k s * Tb m A b r (count + m) := by
        rcases ilt_or_ge 0 (Tb m A b k s) with z | z
        · rcases S.least k hk z with w | ⟨w, _⟩ <;> grind
        · have a1 := Int.mul_nonneg (Int.le_of_lt S.pos) n1
          have a2 := Int.mul_nonpos_of_nonpos_of_nonneg z n2
          omega
      rw [← h] at t
      exact Int.nonneg_of_mul_nonneg_right t p
/-- the prices of another basis along the direction of s -/
theorem star {b' : Nat → Nat} (O : Ok m count A b) (hs : s ≤ count + m) :
    sc m A b * pr m count A b' s - Sm m (fun k => Tb m A b k s * pr m count A b' (b k)) = sc m A b' * pr m count A b s := by
  have key : ∀ l, l < m → Sm m (fun k => Tb m A b k s * Tb m A b' l (b k)) = sc m A b * Tb m A b' l s := fun l hl => by
    unfold Tb
    rw [← det_sum _ hl, ← det_smul _ _ _ hl]
    refine det_congr fun a i ha hi => ?_
    by_cases q : a = l
    · subst q; rw [up_same, up_same, O.cr s hs i hi]
      exact Sm_congr fun k' _ => Int.mul_comm _ _
    · rw [up_ne _ _ q, up_ne _ _ q]
  have e : Sm m (fun k => Tb m A b k s * pr m count A b' (b k)) = sc m A b' * Sm m (fun k => cst m count (b k) * Tb m A b k s) - Sm m (fun l => cst m count (b' l) * (sc m A b * Tb m A b' l s)) := by
    have e1 : Sm m (fun l => cst m count (b' l) * (sc m A b * Tb m A b' l s)) = Sm m (fun k => Sm m (fun l => cst m count (b' l) * (Tb m A b k s * Tb m A b' l (b k)))) := by
      rw [Sm_swap]
      exact Sm_congr fun l hl => by rw [Sm_mul, key l hl]
    rw [e1, ← Sm_mul, ← Sm_sub]
    refine Sm_congr fun k hk => ?_
    unfold pr
    have e2 : Sm m (fun l => cst m count (b' l) * (Tb m A b k s * Tb m A b' l (b k))) = Tb m A b k s * Sm m (fun l => cst m count (b' l) * Tb m A b' l (b k)) := by
      rw [← Sm_mul]
      exact Sm_congr fun l _ => by grind
    rw [e2]
    grind
  have e3 : Sm m (fun l => cst m count (b' l) * (sc m A b * Tb m A b' l s)) = sc m A b * Sm m (fun l => cst m count (b' l) * Tb m A b' l s) := by
    rw [← Sm_mul]
    exact Sm_congr fun l _ => by grind
  rw [e, e3]
  unfold pr
  grind
theorem Step.det {r' s' : Nat} (O : Ok m count A b) (S : Step m count A b r s) (S' : Step m count A b r' s') : r = r' ∧ s = s' := by
  have e : s = s' := by
    rcases Nat.lt_trichotomy s s' with h | h | h
    · have := S'.fst s h; have := S.neg; omega
    · exact h
    · have := S.fst s' h; have := S'.neg; omega
  subst e
  refine ⟨?_, rfl⟩
  have h1 := S.least r' S'.rl S'.pos
  have h2 := S'.least r S.rl S.pos
  refine O.inj r r' S.rl S'.rl ?_
  rcases h1 with h1 | ⟨h1, h3⟩ <;> rcases h2 with h2 | ⟨h2, h4⟩ <;> omega
end
theorem pig : ∀ (K : Nat) (f : Nat → Nat), (∀ n, n ≤ K → f n < K) → ∃ i j, i < j ∧ j ≤ K ∧ f i = f j := by
  intro K
  induction K with
  | zero => intro f h; have := h 0 (Nat.le_refl 0); omega
  | succ K ih =>
    intro f h
    by_cases q : ∃ i, i ≤ K ∧ f i = f (K + 1)
    · obtain ⟨i, hi, e⟩ := q
      exact ⟨i, K + 1, by omega, Nat.le_refl _, e⟩
    · have q' : ∀ i, i ≤ K → f i ≠ f (K + 1) := fun i hi e => q ⟨i, hi, e⟩
      obtain ⟨i, j, h1, h2, e⟩ := ih (fun n => if f n = K then f (K + 1) else f n) (fun n hn => by
        have a := h n (by omega)
        have b := h (K + 1) (Nat.le_refl _)
        have c := q' n hn
        show (if f n = K then f (K + 1) else f n) < K
        split <;> omega)
      refine ⟨i, j, h1, by omega, ?_⟩
      have a := q' i (by omega)
      have c := q' j (by omega)
      have e' : (if f i = K then f (K + 1) else f i) = (if f j = K then f (K + 1) else f j) := e
      split at e' <;> split at e' <;> omega
def code (n : Nat) : Nat → (Nat → Nat) → Nat
  | 0, _ => 0
  | m + 1, b => code n m b * n + b m
theorem code_lt {n : Nat} : ∀ {m : Nat} {b : Nat → Nat}, (∀ k, k < m → b k < n) → code n m b < n ^ m
  | 0, _, _ => by simp [code]
  | m + 1, b, h => by
    have h1 := code_lt (n := n) (m := m) (b := b) (fun k hk => h k (by omega))
    have h2 := h m (by omega)
    simp only [code, Nat.pow_succ]
    have : (code n m b + 1) * n ≤ n ^ m * n := Nat.mul_le_mul_right n h1
    rw [Nat.succ_mul] at this
    omega
theorem code_inj {n : Nat} : ∀ {m : Nat} {b c : Nat → Nat}, (∀ k, k < m → b k < n) → (∀ k, k < m → c k < n) → code n m b = code n m c → ∀ k, k < m → b k = c k
  | 0, _, _, _, _, _ => fun k hk => by omega
  | m + 1, b, c, hb, hc, e => by
    simp only [code] at e
    have h1 := hb m (by omega)
    have h2 := hc m (by omega)
    have n0 : 0 < n := by omega
    have e1 : code n m b = code n m c := by
      have a : (code n m b * n + b m) / n = code n m b := by
        rw [Nat.mul_comm, Nat.mul_add_div n0, Nat.div_eq_of_lt h1]; rfl
      have a' : (code n m c * n + c m) / n = code n m c := by
        rw [Nat.mul_comm, Nat.mul_add_div n0, Nat.div_eq_of_lt h2]; rfl
      rw [← a, ← a', e]
    have e2 : b m = c m := by rw [e1] at e; omega
    intro k hk
    by_cases q : k = m
    · subst q; exact e2
    · exact code_inj (fun k hk => hb k (by omega)) (fun k hk => hc k (by omega)) e1 k (by omega)
/-- a run of Bland's rule that does not end -/
structure Run (m count : Nat) (A : Nat → Nat → Int) (b : Nat → Nat → Nat) (r s : Nat → Nat) : Prop where
  ok : Ok m count A (b 0)
  st : ∀ n, Step m count A (b n) (r n) (s n)
  nx : ∀ n, b (n + 1) = upb (b n) (r n) (s n)
section
variable {m count : Nat} {A : Nat → Nat → Int} {b : Nat → Nat → Nat} {r s : Nat → Nat}
theorem Run.oks (R : Run m count A b r s) : ∀ n, Ok m count A (b n)
  | 0 => R.ok
  | n + 1 => by rw [R.nx n]; exact (R.oks n).next (R.st n)
theorem Run.shift (R : Run m count A b r s) (i : Nat) : Run m count A (fun n => b (i + n)) (fun n => r (i + n)) (fun n => s (i + n)) :=
  ⟨R.oks _, fun n => R.st _, fun n => R.nx _⟩
theorem Run.high (R : Run m count A b r s) : ∀ n k, m ≤ k → b n k = b 0 k
  | 0, _, _ => rfl
  | n + 1, k, hk => by
    rw [R.nx n]
    unfold upb
    rw [if_neg (by have := (R.st n).rl; omega)]
    exact R.high n k hk
theorem Run.per (R : Run m count A b r s) {L : Nat} (e : b L = b 0) : ∀ n, b (L + n) = b n ∧ r (L + n) = r n ∧ s (L + n) = s n := by
  have go : ∀ n, b (L + n) = b n → r (L + n) = r n ∧ s (L + n) = s n := fun n h => by
    have S := R.st (L + n)
    rw [h] at S
    exact Step.det (R.oks n) S (R.st n)
  intro n
  induction n with
  | zero => exact ⟨e, go 0 e⟩
  | succ n ih =>
    obtain ⟨h1, h2, h3⟩ := ih
    have e1 : b (L + (n + 1)) = b (n + 1) := by
      rw [show L + (n + 1) = (L + n) + 1 by omega, R.nx (L + n), R.nx n, h1, h2, h3]
    exact ⟨e1, go (n + 1) e1⟩
theorem frac_trans {a b c d e f : Int} (hb : 0 < b) (hd : 0 < d) (hf : 0 < f) (h1 : a * d ≤ c * b) (h2 : c * f ≤ e * d) : a * f ≤ e * b := by
  have x1 := Int.mul_le_mul_of_nonneg_right h1 (Int.le_of_lt hf)
  have x2 := Int.mul_le_mul_of_nonneg_right h2 (Int.le_of_lt hb)
  have x3 : d * (a * f) ≤ d * (e * b) := by grind
  exact Int.le_of_mul_le_mul_left x3 hd
theorem Run.gain (R : Run m count A b r s) (n : Nat) : pr m count A (b (n + 1)) (count + m) * sc m A (b n) = pr m count A (b n) (count + m) * sc m A (b (n + 1)) + (- pr m count A (b n) (s n)) * Tb m A (b n) (r n) (count + m) := by
  have h := pr_upb (R.oks n) (R.st n).rl (by have := (R.st n).sl; omega) (s := s n) (count + m)
  rw [R.nx n, sc_upb]
  grind
theorem Run.mono (R : Run m count A b r s) (n d : Nat) : pr m count A (b n) (count + m) * sc m A (b (n + d)) ≤ pr m count A (b (n + d)) (count + m) * sc m A (b n) := by
  induction d with
  | zero => exact Int.le_refl _
  | succ d ih =>
    refine frac_trans (R.oks n).pos (R.oks (n + d)).pos (R.oks (n + (d + 1))).pos ih ?_
    have g := R.gain (n + d)
    have p1 := (R.st (n + d)).neg
    have p2 := (R.oks (n + d)).nn _ (R.st (n + d)).rl
    have p3 := Int.mul_nonneg (a := - pr m count A (b (n + d)) (s (n + d))) (by omega) p2
    rw [show n + (d + 1) = n + d + 1 by omega]
    omega
theorem Run.degen (R : Run m count A b r s) {L : Nat} (hL : 0 < L) (e : b L = b 0) (n : Nat) : Tb m A (b n) (r n) (count + m) = 0 := by
  have g := R.gain n
  have p1 := (R.st n).neg
  have p2 := (R.oks n).nn _ (R.st n).rl
  rcases ilt_or_ge 0 (Tb m A (b n) (r n) (count + m)) with z | z
  · have p3 := Int.mul_pos (a := - pr m count A (b n) (s n)) (by omega) z
    have h := R.mono (n + 1) (L - 1)
    rw [show n + 1 + (L - 1) = L + n by omega, (R.per e n).1] at h
    omega
  · omega
def In (m : Nat) (c : Nat → Nat) (j : Nat) : Prop := ∃ k, k < m ∧ c k = j
theorem Run.enter_not (R : Run m count A b r s) (n : Nat) : ¬ In m (b n) (s n) := fun ⟨k, hk, e⟩ => by
  have h := pr_basis (count := count) (A := A) (b := b n) hk
  rw [e] at h
  have := (R.st n).neg
  omega
theorem Run.leaves (R : Run m count A b r s) {n j : Nat} (h1 : In m (b n) j) (h2 : ¬ In m (b (n + 1)) j) : b n (r n) = j := by
  obtain ⟨k, hk, e⟩ := h1
  by_cases q : k = r n
  · rw [← q]; exact e
  · exact (h2 ⟨k, hk, by rw [R.nx n]; unfold upb; rw [if_neg q]; exact e⟩).elim
theorem Run.enters (R : Run m count A b r s) {n j : Nat} (h1 : ¬ In m (b n) j) (h2 : In m (b (n + 1)) j) : s n = j := by
  obtain ⟨k, hk, e⟩ := h2
  rw [R.nx n] at e
  unfold upb at e
  split at e
  · exact e
  · exact (h1 ⟨k, hk, e⟩).elim
theorem find_up {P : Nat → Prop} {n : Nat} : ∀ d, ¬ P n → P (n + d) → ∃ k, n ≤ k ∧ k < n + d ∧ ¬ P k ∧ P (k + 1)
  | 0, h1, h2 => (h1 h2).elim
  | d + 1, h1, h2 => by
    by_cases q : P (n + d)
    · obtain ⟨k, a, b, c⟩ := find_up d h1 q
      exact ⟨k, a, by omega, c⟩
    · exact ⟨n + d, by omega, by omega, q, h2⟩
theorem max_ex (f : Nat → Nat) : ∀ L, 0 < L → ∃ i, i < L ∧ ∀ n, n < L → f n ≤ f i
  | 0, h => by omega
  | 1, _ => ⟨0, by omega, fun n hn => by rw [show n = 0 by omega]; exact Nat.le_refl _⟩
  | L + 2, _ => by
    obtain ⟨i, hi, h⟩ := max_ex f (L + 1) (by omega)
    by_cases q : f (L + 1) ≤ f i
    · refine ⟨i, by omega, fun n hn => ?_⟩
      by_cases e : n = L + 1
      · subst e; exact q
      · exact h n (by omega)
    · refine ⟨L + 1, by omega, fun n hn => ?_⟩
      by_cases e : n = L + 1
      · subst e; exact Nat.le_refl _
      · have := h n (by omega); omega
def Zr (m count : Nat) (A : Nat → Nat → Int) (c : Nat → Nat) (j : Nat) : Prop := ∀ k, k < m → c k = j → Tb m A c k (count + m) = 0
theorem Run.zr (R : Run m count A b r s) {n j : Nat} (d : Tb m A (b n) (r n) (count + m) = 0) (h : Zr m count A (b n) j) : Zr m count A (b (n + 1)) j := by
  intro k hk e
  rw [R.nx n] at e ⊢
  by_cases q : k = r n
  · rw [q, T_upb_r]; exact d
  · have t := T_upb (j := count + m) (R.oks n) (R.st n).rl hk q (by have := (R.st n).sl; omega) (s := s n)
    unfold upb at e
    rw [if_neg q] at e
    rw [h k hk e, d] at t
    have p := (R.oks n).pos
    rcases Int.mul_eq_zero.mp (show sc m A (b n) * Tb m A (upb (b n) (r n) (s n)) k (count + m) = 0 by rw [t]; simp) with z | z
    · omega
    · exact z
theorem Run.no_cycle (R : Run m count A b r s) {L : Nat} (hL : 0 < L) (e : b L = b 0) : False := by
  have dg := R.degen hL e
  have per := R.per e
  obtain ⟨n1, hn1, hmax⟩ := max_ex s L hL
  have smax : ∀ n, s n ≤ s n1 := by
    intro n
    induction n using Nat.strongRecOn with
    | ind n ih =>
      by_cases q : n < L
      · exact hmax n q
      · have := ih (n - L) (by omega)
        rw [← (per (n - L)).2.2, show L + (n - L) = n by omega] at this
        exact this
  -- t = s n1 enters at n1, leaves at n2
  have in1 : In m (b (n1 + 1)) (s n1) := ⟨r n1, (R.st n1).rl, by rw [R.nx n1]; unfold upb; rw [if_pos rfl]⟩
  have out0 : ¬ In m (b n1) (s n1) := R.enter_not n1
  have outL : ¬ In m (b (L + n1)) (s n1) := by rw [(per n1).1]; exact out0
  obtain ⟨n2, g1, g2, g3, g4⟩ := find_up (P := fun n => ¬ In m (b n) (s n1)) (n := n1 + 1) (L - 1) (fun h => h in1) (by rw [show n1 + 1 + (L - 1) = L + n1 by omega]; exact outL)
  have in2 : In m (b n2) (s n1) := Classical.byContradiction g3
  have lv : b n2 (r n2) = s n1 := R.leaves in2 g4
  have sne : s n2 ≠ s n1 := fun q => R.enter_not n2 (by rw [q]; exact in2)
  have slt : s n2 < s n1 := Nat.lt_of_le_of_ne (smax n2) sne
  have st := star (b' := b n1) (R.oks n2) (s := s n2) (by have := (R.st n2).sl; omega)
  have a1 : 0 ≤ pr m count A (b n1) (s n2) := (R.st n1).fst _ slt
  have a2 := (R.st n2).neg
  have a3 := Int.mul_nonneg (Int.le_of_lt (R.oks n2).pos) a1
  have a4 := Int.mul_neg_of_pos_of_neg (R.oks n1).pos a2
  obtain ⟨k, hk, hp⟩ := Sm_pos_ex (m := m) (f := fun k => Tb m A (b n2) k (s n2) * pr m count A (b n1) (b n2 k)) (by omega)
  have hp : 0 < Tb m A (b n2) k (s n2) * pr m count A (b n1) (b n2 k) := hp
  have nin : ¬ In m (b n1) (b n2 k) := fun ⟨l, hl, q⟩ => by
    rw [← q, pr_basis hl] at hp
    simp at hp
  have inn : In m (b (n1 + (n2 - n1))) (b n2 k) := by rw [show n1 + (n2 - n1) = n2 by omega]; exact ⟨k, hk, rfl⟩
  obtain ⟨n3, f1, f2, f3, f4⟩ := find_up (P := fun n => In m (b n) (b n2 k)) (n := n1) (n2 - n1) nin inn
  have e3 := R.enters f3 f4
  have jle : b n2 k ≤ s n1 := by rw [← e3]; exact smax n3
  by_cases q : b n2 k = s n1
  · have kr : k = r n2 := (R.oks n2).inj k (r n2) hk (R.st n2).rl (by rw [q, lv])
    have t1 := (R.st n2).pos
    have t2 := (R.st n1).neg
    rw [kr, lv] at hp
    have := Int.mul_neg_of_pos_of_neg t1 t2
    omega
  · have jlt : b n2 k < s n1 := by omega
    have t1 := (R.st n1).fst _ jlt
    have t2 : 0 < Tb m A (b n2) k (s n2) := by
      rcases ilt_or_ge 0 (Tb m A (b n2) k (s n2)) with z | z
      · exact z
      · have := Int.mul_nonpos_of_nonpos_of_nonneg z t1
        omega
    have z1 : Zr m count A (b n1) (b n2 k) := fun l hl e => (nin ⟨l, hl, e⟩).elim
    have z2 : ∀ d, Zr m count A (b (n1 + d)) (b n2 k) := by
      intro d
      induction d with
      | zero => exact z1
      | succ d ih => exact R.zr (dg (n1 + d)) ih
    have z3 := z2 (n2 - n1)
    rw [show n1 + (n2 - n1) = n2 by omega] at z3
    have z4 := z3 k hk rfl
    have l := (R.st n2).least k hk t2
    rw [z4, dg n2, lv] at l
    rcases l with l | ⟨_, l⟩
    · simp at l
    · omega
theorem Run.false (R : Run m count A b r s) : False := by
  obtain ⟨i, j, hij, _, e⟩ := pig ((count + m) ^ m) (fun n => code (count + m) m (b n)) (fun n _ => code_lt (R.oks n).lt)
  have e' := code_inj (R.oks i).lt (R.oks j).lt e
  have R' := R.shift i
  refine R'.no_cycle (L := j - i) (by omega) ?_
  show b (i + (j - i)) = b (i + 0)
  rw [show i + (j - i) = j by omega]
  funext k
  by_cases q : k < m
  · exact (e' k q).symm
  · rw [R.high j k (by omega), R.high (i + 0) k (by omega)]
end
end K33
end
section
set_option linter.all false
set_option exponentiation.threshold 400
/-! A3: the first tableau, the end of the run, sizes, weights or none -/
namespace K33
def Sq : Nat → (Nat → Rat) → Rat
  | 0, _ => 0
  | m + 1, f => Sq m f + f m
theorem Sq_congr {m : Nat} {f g : Nat → Rat} (h : ∀ i, i < m → f i = g i) : Sq m f = Sq m g := by
  induction m with
  | zero => rfl
  | succ m ih => simp only [Sq]; rw [ih (fun i hi => h i (by omega)), h m (by omega)]
theorem Sq_zero {m : Nat} {f : Nat → Rat} (h : ∀ i, i < m → f i = 0) : Sq m f = 0 := by
  induction m with
  | zero => rfl
  | succ m ih => simp only [Sq]; rw [ih (fun i hi => h i (by omega)), h m (by omega)]; grind
theorem Sq_add (m : Nat) (f g : Nat → Rat) : Sq m (fun i => f i + g i) = Sq m f + Sq m g := by
  induction m with
  | zero => simp only [Sq]; grind
  | succ m ih => simp only [Sq]; rw [ih]; grind
theorem Sq_mul (m : Nat) (c : Rat) (f : Nat → Rat) : Sq m (fun i => c * f i) = c * Sq m f := by
  induction m with
  | zero => simp only [Sq]; grind
  | succ m ih => simp only [Sq]; rw [ih]; grind
theorem Sq_sub (m : Nat) (f g : Nat → Rat) : Sq m (fun i => f i - g i) = Sq m f - Sq m g := by
  induction m with
  | zero => simp only [Sq]; grind
  | succ m ih => simp only [Sq]; rw [ih]; grind
theorem Sq_swap (m n : Nat) (f : Nat → Nat → Rat) : Sq m (fun i => Sq n (fun j => f i j)) = Sq n (fun j => Sq m (fun i => f i j)) := by
  induction m with
  | zero => simp only [Sq]; exact (Sq_zero (fun _ _ => rfl)).symm
  | succ m ih => simp only [Sq]; rw [ih, Sq_add]
theorem Sq_nonneg {m : Nat} {f : Nat → Rat} (h : ∀ i, i < m → 0 ≤ f i) : 0 ≤ Sq m f := by
  induction m with
  | zero => exact Rat.le_refl
  | succ m ih => simp only [Sq]; have := ih (fun i hi => h i (by omega)); have := h m (by omega); grind
theorem Sq_nonpos {m : Nat} {f : Nat → Rat} (h : ∀ i, i < m → f i ≤ 0) : Sq m f ≤ 0 := by
  induction m with
  | zero => exact Rat.le_refl
  | succ m ih => simp only [Sq]; have := ih (fun i hi => h i (by omega)); have := h m (by omega); grind
theorem Sq_cast (m : Nat) (f : Nat → Int) : ((Sm m f : Int) : Rat) = Sq m (fun i => (f i : Rat)) := by
  induction m with
  | zero => rfl
  | succ m ih => simp only [Sq, Sm]; rw [Rat.intCast_add, ih]
theorem Sq_upd {n p : Nat} {v : Rat} {f g : Nat → Rat} : Sq n (fun j => (if j = p then v else f j) * g j) = Sq n (fun j => f j * g j) + (if p < n then (v - f p) * g p else 0) := by
  induction n with
  | zero => simp only [Sq]; rw [if_neg (by omega)]; grind
  | succ n ih =>
    simp only [Sq]
    rw [ih]
    by_cases e : n = p
    · subst e
      rw [if_neg (by omega), if_pos rfl, if_pos (by omega)]
      grind
    · rw [if_neg e]
      by_cases q : p < n
      · rw [if_pos q, if_pos (by omega)]; grind
      · rw [if_neg q, if_neg (by omega)]; grind
/-! ### the first tableau -/
section
variable {m count : Nat} {A : Nat → Nat → Int}
structure Start (m count : Nat) (A : Nat → Nat → Int) : Prop where
  id : ∀ k i, k < m → i < m → A (count + k) i = if k = i then 1 else 0
  nn : ∀ i, i < m → 0 ≤ A (count + m) i
def b0 (count : Nat) : Nat → Nat := fun k => count + k
theorem sc_b0 (S : Start m count A) : sc m A (b0 count) = 1 := det_id fun i j hi hj => S.id i j hi hj
theorem T_b0 (S : Start m count A) {k j : Nat} (hk : k < m) : Tb m A (b0 count) k j = A j k := by
  have e : Tb m A (b0 count) k j = det m (up (Bm A (b0 count)) k (fun i => Sm m (fun l => A j l * Bm A (b0 count) l i))) := by
    refine det_congr fun a i ha hi => ?_
    by_cases q : a = k
    · subst q
      rw [up_same, up_same, Sm_single (k := i) hi]
      · show A j i = A j i * A (count + i) i
        rw [S.id i i hi hi, if_pos rfl, Int.mul_one]
      · intro l hl ne
        show A j l * A (count + l) i = 0
        rw [S.id l i hl hi, if_neg ne, Int.mul_zero]
    · rw [up_ne _ _ q, up_ne _ _ q]
  rw [e, det_sum _ hk, Sm_single (k := k) hk]
  · rw [up_self]
    have := sc_b0 S
    unfold sc at this
    rw [this, Int.mul_one]
  · intro i hi ne
    rw [det_eq0 (up (Bm A (b0 count)) k (Bm A (b0 count) i)) hk hi (Ne.symm ne) (by rw [up_same, up_ne _ _ ne])]
    simp
theorem ok_b0 (S : Start m count A) : Ok m count A (b0 count) where
  lt := fun k hk => by unfold b0; omega
  inj := fun k l _ _ e => by unfold b0 at e; omega
  pos := by rw [sc_b0 S]; decide
  cr := fun j hj i hi => by
    rw [sc_b0 S, Int.one_mul, Sm_single (k := i) hi]
    · rw [T_b0 S hi]
      show A j i = A (count + i) i * A j i
      rw [S.id i i hi hi, if_pos rfl, Int.one_mul]
    · intro k hk ne
      show A (count + k) i * _ = 0
      rw [S.id k i hk hi, if_neg ne, Int.zero_mul]
  nn := fun k hk => by rw [T_b0 S hk]; exact S.nn k hk
theorem pr_b0 (S : Start m count A) (j : Nat) : pr m count A (b0 count) j = cst m count j - Sm m (fun k => A j k) := by
  unfold pr
  rw [sc_b0 S, Int.one_mul]
  congr 1
  refine Sm_congr fun k hk => ?_
  rw [T_b0 S hk]
  have : cst m count (b0 count k) = 1 := by unfold cst b0; rw [if_pos (by omega)]
  rw [this, Int.one_mul]
/-! ### the run ends -/
def Ends (m count : Nat) (A : Nat → Nat → Int) : Nat → (Nat → Nat) → Prop
  | 0, b => ∀ r s, ¬ Step m count A b r s
  | n + 1, b => ∀ r s, Step m count A b r s → Ends m count A n (upb b r s)
def Stuck (m count : Nat) (A : Nat → Nat → Int) (b : Nat → Nat) : Prop := Ok m count A b ∧ ∀ n, ¬ Ends m count A n b
theorem Stuck.next {b : Nat → Nat} (h : Stuck m count A b) : ∃ r s, Step m count A b r s ∧ Stuck m count A (upb b r s) := by
  obtain ⟨O, ne⟩ := h
  have h0 := ne 0
  have : ∃ r s, Step m count A b r s := Classical.byContradiction fun z => h0 fun r s S => z ⟨r, s, S⟩
  obtain ⟨r, s, S⟩ := this
  refine ⟨r, s, S, O.next S, fun n e => ne (n + 1) fun r' s' S' => ?_⟩
  obtain ⟨rfl, rfl⟩ := Step.det O S S'
  exact e
open Classical in
noncomputable def nxR (m count : Nat) (A : Nat → Nat → Int) (b : Nat → Nat) : Nat := if h : ∃ r s, Step m count A b r s ∧ Stuck m count A (upb b r s) then Classical.choose h else 0
open Classical in
noncomputable def nxS (m count : Nat) (A : Nat → Nat → Int) (b : Nat → Nat) : Nat := if h : ∃ s, Step m count A b (nxR m count A b) s ∧ Stuck m count A (upb b (nxR m count A b) s) then Classical.choose h else 0
theorem nx_spec {b : Nat → Nat} (h : Stuck m count A b) : Step m count A b (nxR m count A b) (nxS m count A b) ∧ Stuck m count A (upb b (nxR m count A b) (nxS m count A b)) := by
  have h1 := h.next
  have h2 : ∃ s, Step m count A b (nxR m count A b) s ∧ Stuck m count A (upb b (nxR m count A b) s) := by
    unfold nxR
    rw [dif_pos h1]
    exact Classical.choose_spec h1
  unfold nxS
  rw [dif_pos h2]
  exact Classical.choose_spec h2
noncomputable def seqB (m count : Nat) (A : Nat → Nat → Int) (b : Nat → Nat) : Nat → Nat → Nat
  | 0 => b
  | n + 1 => upb (seqB m count A b n) (nxR m count A (seqB m count A b n)) (nxS m count A (seqB m count A b n))
theorem ends {b : Nat → Nat} (O : Ok m count A b) : ∃ n, Ends m count A n b := Classical.byContradiction fun z => by
  have st : Stuck m count A b := ⟨O, fun n e => z ⟨n, e⟩⟩
  have all : ∀ n, Stuck m count A (seqB m count A b n) := fun n => by
    induction n with
    | zero => exact st
    | succ n ih => exact (nx_spec ih).2
  exact Run.false (b := seqB m count A b) (r := fun n => nxR m count A (seqB m count A b n)) (s := fun n => nxS m count A (seqB m count A b n)) ⟨O, fun n => (nx_spec (all n)).1, fun n => rfl⟩
/-! ### sizes -/
theorem fac_mono : ∀ {m n : Nat}, m ≤ n → fac m ≤ fac n
  | m, 0, h => by rw [show m = 0 by omega]; exact Nat.le_refl _
  | m, n + 1, h => by
    by_cases e : m = n + 1
    · subst e; exact Nat.le_refl _
    · have := fac_mono (show m ≤ n by omega)
      show fac m ≤ (n + 1) * fac n
      have h2 : 1 * fac n ≤ (n + 1) * fac n := Nat.mul_le_mul_right _ (by omega)
      omega
def bigB (m : Nat) : Nat := fac m * (2 ^ 24) ^ m
theorem big_lt {m : Nat} (h : m ≤ 10) : (m + 1) * bigB m < 2 ^ 290 := by
  unfold bigB
  have h1 : fac m ≤ 3628800 := fac_mono h
  have h2 : (2 ^ 24) ^ m ≤ (2 ^ 24) ^ 10 := Nat.pow_le_pow_right (by decide) h
  have h3 : fac m * (2 ^ 24) ^ m ≤ 3628800 * (2 ^ 24) ^ 10 := Nat.mul_le_mul h1 h2
  have h4 : (m + 1) * (fac m * (2 ^ 24) ^ m) ≤ 11 * (3628800 * (2 ^ 24) ^ 10) := Nat.mul_le_mul (by omega) h3
  exact Nat.lt_of_le_of_lt h4 (by decide)
theorem T_size {b : Nat → Nat} {k j : Nat} (O : Ok m count A b) (hA : ∀ j i, j ≤ count + m → i < m → (A j i).natAbs ≤ 2 ^ 24) (hj : j ≤ count + m) : (Tb m A b k j).natAbs ≤ bigB m := by
  refine det_bound _ m fun a i ha hi => ?_
  by_cases q : a = k
  · subst q; rw [up_same]; exact hA j i hj hi
  · rw [up_ne _ _ q]; exact hA _ i (by have := O.lt a ha; omega) hi
theorem sc_size {b : Nat → Nat} (O : Ok m count A b) (hA : ∀ j i, j ≤ count + m → i < m → (A j i).natAbs ≤ 2 ^ 24) : (sc m A b).natAbs ≤ bigB m :=
  det_bound _ m fun a i ha hi => hA _ i (by have := O.lt a ha; omega) hi
theorem cst_01 (j : Nat) : (cst m count j).natAbs ≤ 1 := by unfold cst; split <;> simp
theorem pr_size {b : Nat → Nat} {j : Nat} (O : Ok m count A b) (hA : ∀ j i, j ≤ count + m → i < m → (A j i).natAbs ≤ 2 ^ 24) (hj : j ≤ count + m) : (pr m count A b j).natAbs ≤ (m + 1) * bigB m := by
  unfold pr
  have h1 := sc_size O hA
  have h2 : (Sm m (fun k => cst m count (b k) * Tb m A b k j)).natAbs ≤ m * bigB m := Sm_abs fun k hk => by
    rw [Int.natAbs_mul]
    have := Nat.mul_le_mul (cst_01 (m := m) (count := count) (b k)) (T_size (k := k) O hA hj)
    omega
  have h3 : (sc m A b * cst m count j).natAbs ≤ bigB m := by
    rw [Int.natAbs_mul]
    have := Nat.mul_le_mul h1 (cst_01 (m := m) (count := count) j)
    omega
  have h4 := Int.natAbs_sub_le (sc m A b * cst m count j) (Sm m (fun k => cst m count (b k) * Tb m A b k j))
  rw [Nat.succ_mul]
  omega
/-! ### what the end says -/
/-- no negative price is left -/
def Opt (m count : Nat) (A : Nat → Nat → Int) (b : Nat → Nat) : Prop := ∀ j, j < count → 0 ≤ pr m count A b j
def phi (m count : Nat) (A : Nat → Nat → Int) (b : Nat → Nat) (i : Nat) : Int := Sm m (fun k => cst m count (b k) * det m (up (Bm A b) k (fun l => if l = i then 1 else 0)))
theorem phi_lin {b : Nat → Nat} (j : Nat) : Sm m (fun k => cst m count (b k) * Tb m A b k j) = Sm m (fun i => A j i * phi m count A b i) := by
  have e : ∀ k, k < m → Tb m A b k j = Sm m (fun i => A j i * det m (up (Bm A b) k (fun l => if l = i then 1 else 0))) := fun k hk => by
    rw [← det_sum _ hk]
    refine det_congr fun a l ha hl => ?_
    by_cases q : a = k
    · subst q
      rw [up_same, up_same, Sm_single (k := l) hl]
      · rw [if_pos rfl, Int.mul_one]
      · intro i hi ne; rw [if_neg (Ne.symm ne), Int.mul_zero]
    · rw [up_ne _ _ q, up_ne _ _ q]
  have e1 : Sm m (fun k => cst m count (b k) * Tb m A b k j) = Sm m (fun k => Sm m (fun i => A j i * (cst m count (b k) * det m (up (Bm A b) k (fun l => if l = i then 1 else 0))))) := Sm_congr fun k hk => by
    rw [e k hk, ← Sm_mul]
    exact Sm_congr fun i _ => by grind
  rw [e1, Sm_swap]
  refine Sm_congr fun i _ => ?_
  rw [Sm_mul]
  rfl
theorem no_weights {b : Nat → Nat} (O : Opt m count A b) (neg : pr m count A b (count + m) < 0) (x : Nat → Rat) (hx : ∀ j, j < count → 0 ≤ x j) (eq : ∀ i, i < m → Sq count (fun j => x j * (A j i : Rat)) = (A (count + m) i : Rat)) : False := by
  have h1 : ∀ j, j < count → Sq m (fun i => (A j i : Rat) * (phi m count A b i : Rat)) ≤ 0 := fun j hj => by
    have h := O j hj
    unfold pr at h
    rw [cst_lt hj, phi_lin] at h
    have h2 : Sm m (fun i => A j i * phi m count A b i) ≤ 0 := by omega
    have h3 := Sq_cast m (fun i => A j i * phi m count A b i)
    have h4 : ((Sm m (fun i => A j i * phi m count A b i) : Int) : Rat) ≤ 0 := by exact_mod_cast h2
    rw [h3] at h4
    rw [Sq_congr (g := fun i => ((A j i * phi m count A b i : Int) : Rat)) (fun i _ => by rw [Rat.intCast_mul])]
    exact h4
  have h2 : 0 < Sq m (fun i => (A (count + m) i : Rat) * (phi m count A b i : Rat)) := by
    unfold pr at neg
    rw [cst_N, phi_lin] at neg
    have h2 : 0 < Sm m (fun i => A (count + m) i * phi m count A b i) := by omega
    have h4 : (0 : Rat) < ((Sm m (fun i => A (count + m) i * phi m count A b i) : Int) : Rat) := by exact_mod_cast h2
    rw [Sq_cast] at h4
    rw [Sq_congr (g := fun i => ((A (count + m) i * phi m count A b i : Int) : Rat)) (fun i _ => by rw [Rat.intCast_mul])]
    exact h4
  have h3 : Sq m (fun i => (A (count + m) i : Rat) * (phi m count A b i : Rat)) = Sq count (fun j => x j * Sq m (fun i => (A j i : Rat) * (phi m count A b i : Rat))) := by
    have e1 : Sq m (fun i => (A (count + m) i : Rat) * (phi m count A b i : Rat)) = Sq m (fun i => Sq count (fun j => x j * ((A j i : Rat) * (phi m count A b i : Rat)))) := Sq_congr fun i hi => by
      rw [← eq i hi, show Sq count (fun j => x j * (A j i : Rat)) * (phi m count A b i : Rat) = (phi m count A b i : Rat) * Sq count (fun j => x j * (A j i : Rat)) from by grind, ← Sq_mul]
      exact Sq_congr fun j _ => by grind
    rw [e1, Sq_swap]
    exact Sq_congr fun j _ => by rw [Sq_mul]
  have h4 : Sq count (fun j => x j * Sq m (fun i => (A j i : Rat) * (phi m count A b i : Rat))) ≤ 0 := Sq_nonpos fun j hj => by
    have a := hx j hj
    have c := h1 j hj
    have d := Rat.mul_nonneg a (show (0 : Rat) ≤ - Sq m (fun i => (A j i : Rat) * (phi m count A b i : Rat)) by grind)
    grind
  grind
/-- the weights as the program lays them -/
def xF (m count : Nat) (A : Nat → Nat → Int) (b : Nat → Nat) : Nat → Nat → Rat
  | 0, _ => 0
  | i + 1, j => if j = b i then Rat.divInt (Tb m A b i (count + m)) (sc m A b) else xF m count A b i j
theorem xF_none {b : Nat → Nat} {j : Nat} : ∀ {i : Nat}, (∀ k, k < i → b k ≠ j) → xF m count A b i j = 0
  | 0, _ => rfl
  | i + 1, h => by
    unfold xF
    rw [if_neg (fun z => h i (by omega) z.symm), xF_none (fun k hk => h k (by omega))]
theorem rdiv_nn {a d : Rat} (h1 : 0 ≤ a) (h2 : 0 < d) : 0 ≤ a / d := by
  rw [Rat.div_def]
  exact Rat.mul_nonneg h1 (Rat.le_of_lt (Rat.inv_pos.mpr h2))
theorem divInt_nn {a d : Int} (ha : 0 ≤ a) (hd : 0 < d) : 0 ≤ Rat.divInt a d := by
  rw [Rat.divInt_eq_div]
  have h1 : (0 : Rat) ≤ (a : Rat) := by exact_mod_cast ha
  have h2 : (0 : Rat) < (d : Rat) := by exact_mod_cast hd
  exact rdiv_nn h1 h2
theorem xF_nn {b : Nat → Nat} (O : Ok m count A b) {j : Nat} : ∀ {i : Nat}, i ≤ m → 0 ≤ xF m count A b i j
  | 0, _ => Rat.le_refl
  | i + 1, h => by
    unfold xF
    split
    · exact divInt_nn (O.nn i (by omega)) O.pos
    · exact xF_nn O (by omega)
theorem xF_sum {b : Nat → Nat} (O : Ok m count A b) (g : Nat → Rat) : ∀ {i : Nat}, i ≤ m → Sq count (fun j => xF m count A b i j * g j) = Sq i (fun k => if b k < count then Rat.divInt (Tb m A b k (count + m)) (sc m A b) * g (b k) else 0)
  | 0, _ => by simp only [Sq]; exact Sq_zero fun j _ => by unfold xF; grind
  | i + 1, h => by
    have e : Sq count (fun j => xF m count A b (i + 1) j * g j) = Sq count (fun j => (if j = b i then Rat.divInt (Tb m A b i (count + m)) (sc m A b) else xF m count A b i j) * g j) := Sq_congr fun j _ => by rw [xF]
    rw [e, Sq_upd, xF_sum O g (by omega), xF_none (j := b i) (fun k hk z => by have := O.inj k i (by omega) (by omega) z; omega)]
    simp only [Sq]
    congr 1
    split <;> grind
theorem weights {b : Nat → Nat} (O : Ok m count A b) (hp : 0 ≤ pr m count A b (count + m)) {i : Nat} (hi : i < m) : Sq count (fun j => xF m count A b m j * (A j i : Rat)) = (A (count + m) i : Rat) := by
  rw [xF_sum O (fun j => (A j i : Rat)) (Nat.le_refl m)]
  have z : ∀ k, k < m → cst m count (b k) * Tb m A b k (count + m) = 0 := by
    refine Sm_zero_of_nonneg (fun k hk => Int.mul_nonneg (cst_nn _) (O.nn k hk)) ?_
    unfold pr at hp
    rw [cst_N] at hp
    omega
  have z2 : ∀ k, k < m → ¬ b k < count → Tb m A b k (count + m) = 0 := fun k hk hn => by
    have := z k hk
    have hl := O.lt k hk
    have c1 : cst m count (b k) = 1 := by unfold cst; rw [if_pos (by omega)]
    rw [c1] at this
    omega
  have sp : (0 : Rat) < (sc m A b : Rat) := by exact_mod_cast O.pos
  have e : Sq m (fun k => if b k < count then Rat.divInt (Tb m A b k (count + m)) (sc m A b) * (A (b k) i : Rat) else 0) = Sq m (fun k => (1 / (sc m A b : Rat)) * ((A (b k) i * Tb m A b k (count + m) : Int) : Rat)) := Sq_congr fun k hk => by
    by_cases q : b k < count
    · rw [if_pos q, Rat.divInt_eq_div, Rat.intCast_mul]
      grind
    · rw [if_neg q, z2 k hk q]
      simp
  rw [e, Sq_mul, ← Sq_cast, ← O.cr (count + m) (Nat.le_refl _) i hi, Rat.intCast_mul]
  grind
end
end K33
end
section
set_option Elab.async false
set_option linter.all false
set_option maxRecDepth 100000
set_option exponentiation.threshold 10000
/-! W8: pair_row, cut_columns; simplex.py: row_factor, starting, costs -/
namespace K33
open PySem L2
variable {c : Cl} {g : Gx}
/-! ### slices by place -/
section
variable {α : Type} {n k : Nat} {f : Nat → α}
theorem rg_drop : (rg n f).drop k = rg (n - k) fun i => f (k + i) := by
  refine List.ext_getElem? fun i => ?_
  rw [List.getElem?_drop]
  by_cases h : i < n - k
  · rw [rg_at h, rg_at (by omega)]
  · rw [List.getElem?_eq_none (by rw [rg_len]; omega), List.getElem?_eq_none (by rw [rg_len]; omega)]
theorem rg_take : (rg n f).take k = rg (min k n) f := by
  refine List.ext_getElem? fun i => ?_
  rw [List.getElem?_take]
  by_cases h : i < min k n
  · rw [if_pos (by omega), rg_at h, rg_at (by omega)]
  · rw [List.getElem?_eq_none (l := rg (min k n) f) (by rw [rg_len]; omega)]
    split
    · rw [List.getElem?_eq_none (by rw [rg_len]; omega)]
    · rfl
theorem rg_eq {n m : Nat} {f f' : Nat → α} (h : n = m) (e : ∀ i, i < n → f i = f' i) : rg n f = rg m f' := by subst h; exact rg_congr e
theorem cut_from : cutD (rg n f) (some (k : Int)) none = rg (n - k) fun i => f (k + i) := by
  unfold cutD
  rw [HT.sIx_none, HT.sIx_nat, rg_drop, rg_take, rg_len]
  by_cases h : k ≤ n
  · rw [Nat.min_eq_left h]
    exact rg_eq (by omega) fun i _ => rfl
  · rw [Nat.min_eq_right (by omega)]
    exact rg_eq (by omega) fun i hi => by omega
theorem cut_to : cutD (rg n f) none (some (k : Int)) = rg (min k n) f := by
  unfold cutD
  rw [HT.sIx_none, HT.sIx_nat, rg_drop, rg_take, rg_len]
  exact rg_eq (by omega) fun i _ => by rw [Nat.zero_add]
theorem cut_init : cutD (rg (n + 1) f) none (some (-1)) = rg n f := by
  unfold cutD
  have e : HT.sIx (n + 1) (n + 1) (some (-1)) = n := by
    show (if (-1 : Int) < 0 then (-1 + ((n + 1 : Nat) : Int)).toNat else min (-1 : Int).toNat (n + 1)) = n
    rw [if_pos (by decide)]; omega
  rw [HT.sIx_none, rg_len, e, rg_drop, rg_take]
  exact rg_eq (n := min (n - 0) (n + 1 - 0)) (by omega) fun i _ => by rw [Nat.zero_add]
theorem cut_last : cutD (rg (n + 1) f) (some (-1)) none = rg 1 fun _ => f n := by
  unfold cutD
  have e : HT.sIx (n + 1) 0 (some (-1)) = n := by
    show (if (-1 : Int) < 0 then (-1 + ((n + 1 : Nat) : Int)).toNat else min (-1 : Int).toNat (n + 1)) = n
    rw [if_pos (by decide)]; omega
  rw [HT.sIx_none, rg_len, e, rg_drop, rg_take]
  exact rg_eq (n := min (n + 1 - n) (n + 1 - n)) (by omega) fun i hi => by congr 1; omega
theorem atI_last : atI (rg (n + 1) f) (-1) = some (f n) := by
  unfold atI ixN
  rw [rg_len, if_neg (by decide), if_pos (by omega)]
  show (rg (n + 1) f)[(-1 + ((n + 1 : Nat) : Int)).toNat]? = _
  have : (-1 + ((n + 1 : Nat) : Int)).toNat = n := by omega
  rw [this, rg_at (by omega)]
end
/-! ### pair_row, cut_columns -/
abbrev sPairRow : Stmt := top 37
abbrev sCutCols : Stmt := top 38
abbrev NPR : List Str := ["n", "rows", "found", "x"]
theorem scPairRow : FnScope NPR ["n", "rows"] (defScope sPairRow) := ⟨rfl, rfl, rfl, by decide +kernel, rfl, by decide +kernel, by decide +kernel⟩
abbrev NCC : List Str := ["n", "split"]
theorem scCutCols : FnScope NCC ["n"] (defScope sCutCols) := ⟨rfl, rfl, rfl, by decide +kernel, rfl, by decide +kernel, by decide +kernel⟩
abbrev spPairRow (c : Cl) : Sp := spG c (fun p : Nat × (Nat → Nat → Rat) => [.da (.int (p.1 : Int)), .da (.tup (mD p.1 p.2))]) (fun p => p.1 ≤ 8) (fun p d => d = .tup (prs p.1 fun x y => .rat (p.2 x y)))
theorem ok_pairRow {f : Addr} {fd : FuncData} (F : Fun g.K "pair_row" "pair_row" sPairRow f fd) (B : Nb g) : Fo g 1 f fd ["n", "rows"] (spPairRow c) := by
  refine fn_ok F scPairRow (fun _ => rfl) fun b ⟨n, R⟩ hr h8 => ?_
  replace h8 : n ≤ 8 := h8
  have hn6 : n ≤ 1000000 := Nat.le_trans h8 (by decide)
  show GS c _ _ [.da (.int (n : Int)), .da (.tup (mD n R)), .no, .no] _
  refine gs_cons (g1_asgL (psN 2) (gl_lst (ds := []) ga_nil) fun d e => ?_)
  subst e
  show GS c _ _ [.da (.int (n : Int)), .da (.tup (mD n R)), .mu [], .no] _
  refine gs_cons (g1_for (fun i A => ∃ s1, A = [.da (.int (n : Int)), .da (.tup (mD n R)), .mu ((List.range i).flatMap fun x => rg (n - (x + 1)) fun k => .rat (R x (x + 1 + k))), s1]) (gi_range1 B.range (gv_var 0) hn6) ⟨_, rfl⟩ (fun x d A hx yd ⟨s1, e⟩ => ⟨_, tg1_name 3, ?_⟩) fun A ⟨s1, e⟩ => ?_)
  · subst e yd
    show GS c _ _ [.da (.int (n : Int)), .da (.tup (mD n R)), .mu ((List.range x).flatMap fun x => rg (n - (x + 1)) fun k => .rat (R x (x + 1 + k))), .da (.int (x : Int))] _
    refine gs_cons (g1_extend 2 rfl (es := rg (n - (x + 1)) fun k => .rat (R x (x + 1 + k))) ((gv_slT (gv_ixTn (gv_var 1) (gv_var 3) (rg_at hx)) (go_some (gv_succ (gv_var 3))) go_none).eq (by rw [cut_from])) ?_ (gs_nil ⟨.da (.int (x : Int)), ?_⟩))
    · have := flat_len (f := fun x => rg (n - (x + 1)) fun k => D.rat (R x (x + 1 + k))) (k := 8) (fun x => by rw [rg_len]; omega) x
      rw [rg_len]
      have : x * 8 ≤ 8 * 8 := Nat.mul_le_mul_right 8 (by omega)
      omega
    · rw [flat_succ x x]
      rfl
  · subst e
    exact gs_cons (g1_ret (gv_tupleOf B.tuple (gv_var 2)) fun d e => e)
abbrev cutD1 (n : Nat) (s : List Int) : D := .tup (prs n fun x y => .rat (cutR s x y))
abbrev spCutCols (c : Cl) : Sp := spG c (fun n : Nat => [.da (.int (n : Int))]) (fun n => 1 ≤ n ∧ n ≤ 8) (fun n d => d = .lst ((spl n).map (cutD1 n)))
theorem spl_len (n : Nat) (h : n ≤ 8) : (spl n).length ≤ 127 := by
  have := splF_len (n - 1) (n - 1)
  have h2 : 2 ^ (n - 1) ≤ 2 ^ 7 := Nat.pow_le_pow_right (by decide) (by omega)
  have h3 : (2 : Nat) ^ 7 = 128 := rfl
  unfold spl
  omega
theorem ok_cutCols {f : Addr} {fd : FuncData} (F : Fun g.K "cut_columns" "cut_columns" sCutCols f fd) (f1 : Fg g 4 "splits" (spSplits c)) (f2 : Fg g 6 "cut_rows" (spCutRows c)) (f3 : Fg g 1 "pair_row" (spPairRow c)) : Fo g 7 f fd ["n"] (spCutCols c) := by
  refine fn_ok F scCutCols (fun _ => rfl) fun b n hr ⟨h1, h8⟩ => ?_
  show GS c _ _ [.da (.int (n : Int)), .no] _
  have hl := spl_len n h8
  exact gs_cons (g1_ret (gv_mapL [("split", 1)] (cutD1 n) (gi_tupL (ge_call f1 (hr.mono (by decide)) (ga1 (gv_var 0)) fun ws e => ⟨n, e.symm, ⟨h1, h8⟩, fun d e => e⟩)) (by omega) (fun s hs => gg_name 1) fun s hs => ge_call f3 (hr.mono (by decide)) (ga2 (gv_var 0) (ge_call f2 hr (ga2 (gv_var 0) (gv_var 1)) fun ws e => ⟨(n, s), e.symm, ⟨h1, h8, hs⟩, fun d e => e⟩)) fun ws e => ⟨(n, cutR s), e.symm, h8, fun d e => e⟩) fun d e => e)
/-! ### row_factor -/
def lcmF (f : Nat → Rat) : Nat → Nat
  | 0 => 1
  | k + 1 => Nat.lcm (lcmF f k) (f k).den
theorem lcmF_dvd {f : Nat → Rat} : ∀ {k : Nat}, (∀ j, j < k → (f j).den ∣ 6) → lcmF f k ∣ 6
  | 0, _ => ⟨6, rfl⟩
  | k + 1, h => Nat.lcm_dvd (lcmF_dvd fun j hj => h j (by omega)) (h k (by omega))
theorem dvd_lcmF {f : Nat → Rat} : ∀ {k j : Nat}, j < k → (f j).den ∣ lcmF f k
  | k + 1, j, h => by
    by_cases e : j = k
    · subst e; exact Nat.dvd_lcm_right _ _
    · exact Nat.dvd_trans (dvd_lcmF (show j < k by omega)) (Nat.dvd_lcm_left _ _)
theorem six {n : Nat} (h : n ∣ 6) : 0 < n ∧ n ≤ 6 := ⟨Nat.pos_of_dvd_of_pos h (by decide), Nat.le_of_dvd (by decide) h⟩
/-- the factor of a row of k + 1 items -/
def fctF (f : Nat → Rat) (k : Nat) : Int := if (f k).num.sign < 0 then -(lcmF f (k + 1) : Int) else lcmF f (k + 1)
abbrev sRowF : Stmt := top 30
abbrev NRF : List Str := ["items", "found", "item"]
theorem scRowF : FnScope NRF ["items"] (defScope sRowF) := ⟨rfl, rfl, rfl, by decide +kernel, rfl, by decide +kernel, by decide +kernel⟩
abbrev spRowF (c : Cl) : Sp := spG c (fun p : Nat × (Nat → Rat) => [.da (.lst (rg (p.1 + 1) fun j => .rat (p.2 j)))]) (fun p => ∀ j, j < p.1 + 1 → (p.2 j).den ∣ 6) (fun p d => d = .int (fctF p.2 p.1))
theorem ok_rowF {f : Addr} {fd : FuncData} (F : Fun g.K "row_factor" "row_factor" sRowF f fd) (T : Rt c g) (hL : g.mg "lcm" = some (.builtin "math.lcm")) : Fo g 2 f fd ["items"] (spRowF c) := by
  refine fn_ok F scRowF (fun _ => rfl) fun b ⟨k, q⟩ hr h6 => ?_
  replace h6 : ∀ j, j < k + 1 → (q j).den ∣ 6 := h6
  show GS c _ _ [.da (.lst (rg (k + 1) fun j => .rat (q j))), .no, .no] _
  refine gs_cons (g1_asgE (psN 1) gv_int fun d e => ?_)
  subst e
  show GS c _ _ [.da (.lst (rg (k + 1) fun j => .rat (q j))), .da (.int 1), .no] _
  refine gs_cons (g1_for (n := k + 1) (fun i A => ∃ s1, A = [.da (.lst (rg (k + 1) fun j => .rat (q j))), .da (.int (lcmF q i : Int)), s1]) (gi_listR (f := fun j => .rat (q j)) (gv_var 0)) ⟨_, rfl⟩ (fun j d A hj yd ⟨s1, e⟩ => ⟨_, tg1_name 2, ?_⟩) fun A ⟨s1, e⟩ => ?_)
  · subst e yd
    show GS c _ _ [.da (.lst (rg (k + 1) fun j => .rat (q j))), .da (.int (lcmF q j : Int)), .da (.rat (q j))] _
    have a1 := (six (lcmF_dvd (k := j) fun i hi => h6 i (by omega))).2
    have a2 := (six (h6 j hj)).2
    refine gs_cons (g1_asgE (psN 1) (gv_lcm hL (gv_var 1) (gv_d T.ct (gv_var 2)) (by rw [Int.natAbs_natCast]; exact Nat.lt_of_le_of_lt a1 (by decide)) (by rw [Int.natAbs_natCast]; exact Nat.lt_of_le_of_lt a2 (by decide))) fun d e => ?_)
    subst e
    exact gs_nil ⟨.da (.rat (q j)), rfl⟩
  · subst e
    refine gs_cons (g1_ret (gv_if (gb_lt (gv_sgn T hr (gv_ixL (gv_var 0) (gv_neg gv_int) atI_last)) gv_int) (d := .int (fctF q k)) (fun z => (gv_neg (gv_var 1)).eq ?_) fun z => (gv_var 1 (d := .int (lcmF q (k + 1) : Int))).eq ?_) fun d e => e)
    · have z' := of_decide_eq_true z
      unfold fctF; rw [if_pos z']
    · have z' := of_decide_eq_false z
      unfold fctF; rw [if_neg z']
end K33
end
section
set_option Elab.async false
set_option linter.all false
set_option maxRecDepth 100000
set_option exponentiation.threshold 10000
/-! W9: simplex.py: starting, costs, subtracted -/
namespace K33
open PySem L2
variable {c : Cl} {g : Gx}
section
variable (m count : Nat) (col : Nat → Nat → Rat)
def fcI (i : Nat) : Int := fctF (fun j => col j i) count
def eI (j i : Nat) : Int := (col j i).num * (fcI count col i / ((col j i).den : Int))
def tA (j i : Nat) : Int := if j < count then eI count col j i else if j < count + m then (if j - count = i then 1 else 0) else eI count col count i
/-- columns 0 .. count - 1, the right side as column count -/
structure Cf : Prop where
  m10 : m ≤ 10
  c16 : count ≤ 16
  den : ∀ j i, j ≤ count → i < m → (col j i).den ∣ 6
  num : ∀ j i, j ≤ count → i < m → (col j i).num.natAbs ≤ 2 ^ 20
end
abbrev cD (m count : Nat) (col : Nat → Nat → Rat) : D := .lst (rg count fun j => .tup (rg m fun i => .rat (col j i)))
abbrev rD (m count : Nat) (col : Nat → Nat → Rat) : D := .tup (rg m fun i => .rat (col count i))
structure Cfg where
  m : Nat
  count : Nat
  col : Nat → Nat → Rat
abbrev cfArg : Cfg → List Vw := fun p => [.da (cD p.m p.count p.col), .da (rD p.m p.count p.col)]
abbrev rowsD (m w : Nat) (f : Nat → Nat → Int) : D := .lst (rg m fun i => .lst (rg w fun j => .int (f i j)))
abbrev sStart : Stmt := top 31
abbrev NSt : List Str := ["columns", "right", "factors", "rows", "i", "items", "factor", "own", "extra", "column", "item", "k"]
theorem scStart : FnScope NSt ["columns", "right"] (defScope sStart) := ⟨rfl, rfl, rfl, by decide +kernel, rfl, by decide +kernel, by decide +kernel⟩
abbrev spStart (c : Cl) : Sp := spG c cfArg (fun p => Cf p.m p.count p.col) (fun p d => d = .tup [.lst (rg p.m fun i => .int (fcI p.count p.col i)), rowsD p.m (p.count + p.m + 1) fun i j => tA p.m p.count p.col j i])
theorem fcI_abs {m count : Nat} {col : Nat → Nat → Rat} (C : Cf m count col) {i : Nat} (hi : i < m) : (fcI count col i).natAbs ≤ 6 ∧ fcI count col i ≠ 0 ∧ ∀ j, j ≤ count → ((col j i).den : Int) ∣ fcI count col i := by
  have h := lcmF_dvd (f := fun j => col j i) (k := count + 1) fun j hj => C.den j i (by omega) hi
  have h1 := six h
  have e : fcI count col i = -(lcmF (fun j => col j i) (count + 1) : Int) ∨ fcI count col i = (lcmF (fun j => col j i) (count + 1) : Int) := by
    unfold fcI fctF; split
    · exact .inl rfl
    · exact .inr rfl
  have d : ∀ j, j ≤ count → ((col j i).den : Int) ∣ (lcmF (fun j => col j i) (count + 1) : Int) := fun j hj => Int.natCast_dvd_natCast.mpr (dvd_lcmF (f := fun j => col j i) (by omega))
  rcases e with e | e <;> rw [e]
  · exact ⟨by omega, by omega, fun j hj => Int.dvd_neg.mpr (d j hj)⟩
  · exact ⟨by omega, by omega, d⟩
theorem ok_start {f : Addr} {fd : FuncData} (F : Fun g.K "starting" "starting" sStart f fd) (B : Nb g) (T : Rt c g) (f1 : Fg g 2 "row_factor" (spRowF c)) : Fo g 3 f fd ["columns", "right"] (spStart c) := by
  refine fn_ok F scStart (fun _ => rfl) fun b ⟨m, count, col⟩ hr C => ?_
  replace C : Cf m count col := C
  have m10 := C.m10
  have c16 := C.c16
  have hm6 : m ≤ 1000000 := by omega
  show GS c _ _ [.da (cD m count col), .da (rD m count col), .no, .no, .no, .no, .no, .no, .no, .no, .no, .no] _
  refine gs_cons (g1_asgL (psN 2) (gl_lst (ds := []) ga_nil) fun d e => ?_)
  subst e
  refine gs_cons (g1_asgL (psN 3) (gl_lst (ds := []) ga_nil) fun d e => ?_)
  subst e
  show GS c _ _ [.da (cD m count col), .da (rD m count col), .mu [], .mu [], .no, .no, .no, .no, .no, .no, .no, .no] _
  refine gs_cons (g1_for (fun i A => ∃ s4 s5 s6 s7 s8, A = [.da (cD m count col), .da (rD m count col), .mu (rg i fun i => .int (fcI count col i)), .mu (rg i fun i => .lst (rg (count + m + 1) fun j => .int (tA m count col j i))), s4, s5, s6, s7, s8, .no, .no, .no])
    (gi_range1 B.range ((gv_lenT B.len (gv_var 1)).eq (by rw [rg_len])) hm6) ⟨_, _, _, _, _, rfl⟩ (fun i d A hi yd ⟨s4, s5, s6, s7, s8, e⟩ => ⟨_, tg1_name 4, ?_⟩) fun A ⟨s4, s5, s6, s7, s8, e⟩ => ?_)
  · subst e yd
    show GS c _ _ [.da (cD m count col), .da (rD m count col), .mu (rg i fun i => .int (fcI count col i)), .mu (rg i fun i => .lst (rg (count + m + 1) fun j => .int (tA m count col j i))), .da (.int (i : Int)), s5, s6, s7, s8, .no, .no, .no] _
    obtain ⟨f6, f0, fd6⟩ := fcI_abs C hi
    refine gs_cons (g1_asgE (psN 5) (gl_cat (gv_map [("column", 9)] (fun j => .rat (col j i)) (gi_listR (gv_var 0)) (by omega) (fun j hj => gg_name 9) fun j hj => gv_ixTn (gv_var 9) (gv_var 4) (rg_at hi)) (gl_lst (ds := [.rat (col count i)]) (ga1 (gv_ixTn (gv_var 1) (gv_var 4) (rg_at hi)))).gv (by rw [rg_len]; simp; omega)).gv fun d e => ?_)
    subst e
    rw [← rg_succ (n := count) (f := fun j => D.rat (col j i))]
    show GS c _ _ [.da (cD m count col), .da (rD m count col), .mu (rg i fun i => .int (fcI count col i)), .mu (rg i fun i => .lst (rg (count + m + 1) fun j => .int (tA m count col j i))), .da (.int (i : Int)), .da (.lst (rg (count + 1) fun j => .rat (col j i))), s6, s7, s8, .no, .no, .no] _
    refine gs_cons (g1_asgE (psN 6) (ge_call f1 hr (ga1 (gv_var 5)) fun ws e => ⟨(count, fun j => col j i), e.symm, fun j hj => C.den j i (by omega) hi, fun d e => e⟩) fun d e => ?_)
    subst e
    show GS c _ _ [.da (cD m count col), .da (rD m count col), .mu (rg i fun i => .int (fcI count col i)), .mu (rg i fun i => .lst (rg (count + m + 1) fun j => .int (tA m count col j i))), .da (.int (i : Int)), .da (.lst (rg (count + 1) fun j => .rat (col j i))), .da (.int (fcI count col i)), s7, s8, .no, .no, .no] _
    refine gs_cons (g1_asgC 7 [("item", 10)] (gc_mapR (fun j => .int (eI count col j i)) (gi_listR (gv_var 5)) (by omega) (fun j hj => gg_name 10) fun j hj => gv_mul (gv_n T.ct (gv_var 10)) (gv_fdivW (gv_var 6) (gv_d T.ct (gv_var 10)) ⟨by have := (col j i).den_pos; omega, ?_⟩) (.inl ?_)) fun ds e => ?_)
    · rw [Int.natAbs_natCast]
      have h := (six (C.den j i (by omega) hi)).2
      have h0 := (col j i).den_pos
      have : (col j i).den.log2 < 3 := (Nat.log2_lt (by omega)).mpr (by omega)
      omega
    · have := C.num j i (by omega) hi
      omega
    subst e
    show GS c _ _ [.da (cD m count col), .da (rD m count col), .mu (rg i fun i => .int (fcI count col i)), .mu (rg i fun i => .lst (rg (count + m + 1) fun j => .int (tA m count col j i))), .da (.int (i : Int)), .da (.lst (rg (count + 1) fun j => .rat (col j i))), .da (.int (fcI count col i)), .da (.lst (rg (count + 1) fun j => .int (eI count col j i))), s8, .no, .no, .no] _
    refine gs_cons (g1_asgC 8 [("k", 11)] (gc_mapR (fun k => .int (if k = i then 1 else 0)) (gi_range1 B.range ((gv_lenT B.len (gv_var 1)).eq (by rw [rg_len])) hm6) (by omega) (fun j hj => gg_name 11) fun k hk => (gv_intB B.int (gv_eqI (gv_var 11) (gv_var 4))).eq ?_) fun ds e => ?_)
    · by_cases z : k = i
      · subst z; simp
      · have : ¬ ((k : Int) = i) := by omega
        simp [z, this]
    subst e
    show GS c _ _ [.da (cD m count col), .da (rD m count col), .mu (rg i fun i => .int (fcI count col i)), .mu (rg i fun i => .lst (rg (count + m + 1) fun j => .int (tA m count col j i))), .da (.int (i : Int)), .da (.lst (rg (count + 1) fun j => .rat (col j i))), .da (.int (fcI count col i)), .da (.lst (rg (count + 1) fun j => .int (eI count col j i))), .da (.lst (rg m fun k => .int (if k = i then 1 else 0))), .no, .no, .no] _
    refine gs_cons (g1_append 2 rfl (gv_var 6) (by rw [rg_len]; omega) fun d e => ?_)
    subst e
    rw [← rg_succ (n := i) (f := fun i => D.int (fcI count col i))]
    refine gs_cons (g1_append 3 rfl (gl_cat (gl_cat ((gl_sl (gv_var 7) go_none (go_some (gv_neg gv_int))).gv.eq (by rw [cut_init])) (gv_var 8) (by rw [rg_len, rg_len]; omega)).gv ((gl_sl (gv_var 7) (go_some (gv_neg gv_int)) go_none).gv.eq (by rw [cut_last])) (by rw [List.length_append, rg_len, rg_len, rg_len]; omega)).gv (by rw [rg_len]; omega) fun d e => ?_)
    subst e
    have e2 : (rg count (fun j => D.int (eI count col j i)) ++ rg m fun k => D.int (if k = i then 1 else 0)) ++ rg 1 (fun _ => D.int (eI count col count i)) = rg (count + m + 1) fun j => .int (tA m count col j i) := by
      rw [rg_append, rg_append]
      refine rg_congr fun j hj => ?_
      unfold tA
      by_cases z1 : j < count + m
      · rw [if_pos z1]
        by_cases z2 : j < count
        · rw [if_pos z2, if_pos z2]
        · rw [if_neg z2, if_neg z2, if_pos z1]
      · rw [if_neg z1, if_neg (by omega), if_neg z1]
    rw [e2, ← rg_succ (n := i) (f := fun i => D.lst (rg (count + m + 1) fun j => .int (tA m count col j i)))]
    exact gs_nil ⟨_, _, _, _, _, rfl⟩
  · subst e
    refine gs_cons (g1_ret (gv_tup (ds := [.lst (rg m fun i => .int (fcI count col i)), rowsD m (count + m + 1) fun i j => tA m count col j i]) (ga2 (gv_var 2) (gv_var 3))) fun d e => e)
end K33
end
section
set_option Elab.async false
set_option linter.all false
set_option maxRecDepth 100000
set_option exponentiation.threshold 10000
/-! W10: simplex.py: costs, leaving, subtracted -/
namespace K33
open PySem L2
variable {c : Cl} {g : Gx}
theorem sum_rg {n : Nat} {f : Nat → Int} : (rg n f).sum = Sm n f := by
  induction n with
  | zero => rfl
  | succ n ih => rw [rg_succ, List.sum_append, ih]; simp [Sm]
abbrev sCosts : Stmt := top 32
abbrev NCo : List Str := ["rows", "count", "width", "found", "j", "row"]
theorem scCosts : FnScope NCo ["rows", "count"] (defScope sCosts) := ⟨rfl, rfl, rfl, by decide +kernel, rfl, by decide +kernel, by decide +kernel⟩
structure Tbl where
  m : Nat
  count : Nat
  f : Nat → Nat → Int
abbrev spCosts (c : Cl) : Sp := spG c (fun p : Tbl => [.da (rowsD p.m (p.count + p.m + 1) p.f), .da (.int (p.count : Int))]) (fun p => p.m ≤ 10 ∧ p.count ≤ 16) (fun p d => d = .lst (rg (p.count + p.m + 1) fun j => .int (cst p.m p.count j - Sm p.m (fun k => p.f k j))))
theorem ok_costs {f : Addr} {fd : FuncData} (F : Fun g.K "costs" "costs" sCosts f fd) (B : Nb g) : Fo g 1 f fd ["rows", "count"] (spCosts c) := by
  refine fn_ok F scCosts (fun _ => rfl) fun b ⟨m, count, q⟩ hr ⟨hm, hc⟩ => ?_
  replace hm : m ≤ 10 := hm
  replace hc : count ≤ 16 := hc
  show GS c _ _ [.da (rowsD m (count + m + 1) q), .da (.int (count : Int)), .no, .no, .no, .no] _
  refine gs_cons (g1_asgE (psN 2) (gv_succ (gv_addN (gv_var 1) (gv_len B.len (gv_var 0)))) fun d e => ?_)
  subst e
  rw [rg_len]
  show GS c _ _ [.da (rowsD m (count + m + 1) q), .da (.int (count : Int)), .da (.int ((count + m + 1 : Nat) : Int)), .no, .no, .no] _
  refine gs_cons (g1_asgL (psN 3) (gl_lst (ds := []) ga_nil) fun d e => ?_)
  subst e
  show GS c _ _ [.da (rowsD m (count + m + 1) q), .da (.int (count : Int)), .da (.int ((count + m + 1 : Nat) : Int)), .mu [], .no, .no] _
  have hw6 : count + m + 1 ≤ 1000000 := by omega
  refine gs_cons (g1_for (fun i A => ∃ s1, A = [.da (rowsD m (count + m + 1) q), .da (.int (count : Int)), .da (.int ((count + m + 1 : Nat) : Int)), .mu (rg i fun j => .int (cst m count j - Sm m (fun k => q k j))), s1, .no]) (gi_range1 B.range (gv_var 2) hw6) ⟨_, rfl⟩ (fun j d A hj yd ⟨s1, e⟩ => ⟨_, tg1_name 4, ?_⟩) fun A ⟨s1, e⟩ => ?_)
  · subst e yd
    show GS c _ _ [.da (rowsD m (count + m + 1) q), .da (.int (count : Int)), .da (.int ((count + m + 1 : Nat) : Int)), .mu (rg j fun j => .int (cst m count j - Sm m (fun k => q k j))), .da (.int (j : Int)), .no] _
    refine gs_cons (g1_append 3 rfl (gv_sub (gv_intB B.int (gv_leLt (gv_var 1) (gv_var 4) (gv_sub (gv_var 2) gv_int))) (gv_sum (l := rg m fun k => q k j) B.sum (GV.eq (gv_map [("row", 5)] (fun k => .int (q k j)) (gi_listR (gv_var 0)) (by omega) (fun i hi => gg_name 5) fun k hk => gv_ixLn (gv_var 5) (gv_var 4) (rg_at hj)) (by rw [rg_map])))) (by rw [rg_len]; omega) fun d e => ?_)
    subst e
    have e2 : (if decide ((count : Int) ≤ (j : Int) ∧ (j : Int) < ((count + m + 1 : Nat) : Int) - 1) = true then (1 : Int) else 0) = cst m count j := by
      unfold cst
      by_cases z : count ≤ j ∧ j < count + m
      · rw [if_pos z, if_pos (decide_eq_true (by omega))]
      · rw [if_neg z, if_neg (fun w => z (by have := of_decide_eq_true w; omega))]
    rw [e2, sum_rg, ← rg_succ (n := j) (f := fun j => D.int (cst m count j - Sm m (fun k => q k j)))]
    exact gs_nil ⟨_, rfl⟩
  · subst e
    exact gs_cons (g1_ret (gv_var 3) fun d e => e)
/-! ### subtracted -/
abbrev sSub : Stmt := top 34
abbrev NSu : List Str := ["row", "head", "at", "scale", "top", "factor", "x", "y"]
theorem scSub : FnScope NSu ["row", "head", "at", "scale"] (defScope sSub) := ⟨rfl, rfl, rfl, by decide +kernel, rfl, by decide +kernel, by decide +kernel⟩
structure SuA where
  w : Nat
  f : Nat → Int
  h : Nat → Int
  t : Nat
  s : Int
abbrev listI (w : Nat) (f : Nat → Int) : D := .lst (rg w fun j => .int (f j))
abbrev spSub (c : Cl) : Sp := spG c (fun p : SuA => [.da (listI p.w p.f), .da (listI p.w p.h), .da (.int (p.t : Int)), .da (.int p.s)])
  (fun p => p.w ≤ 1000 ∧ p.t < p.w ∧ 0 < p.s ∧ p.s.natAbs < 2 ^ 400 ∧ ∀ j, j < p.w → (p.f j).natAbs < 2 ^ 400 ∧ (p.h j).natAbs < 2 ^ 400) (fun p d => d = listI p.w fun j => (p.f j * p.h p.t - p.f p.t * p.h j) / p.s)
theorem mulw4 {i j : Int} (hi : i.natAbs < 2 ^ 400) (hj : j.natAbs < 2 ^ 400) : CMulW i j := wide_mul hi hj (by decide) (by decide) (by decide)
theorem ok_sub {f : Addr} {fd : FuncData} (F : Fun g.K "subtracted" "subtracted" sSub f fd) (B : Nb g) : Fo g 1 f fd ["row", "head", "at", "scale"] (spSub c) := by
  refine fn_ok F scSub (fun _ => rfl) fun b ⟨w, q, h, t, s⟩ hr ⟨hw, ht, hs, hs4, hf⟩ => ?_
  replace hf : ∀ j, j < w → (q j).natAbs < 2 ^ 400 ∧ (h j).natAbs < 2 ^ 400 := hf
  show GS c _ _ [.da (listI w q), .da (listI w h), .da (.int (t : Int)), .da (.int s), .no, .no, .no, .no] _
  refine gs_cons (g1_asgE (psN 4) (gv_ixLn (gv_var 1) (gv_var 2) (rg_at ht)) fun d e => ?_)
  subst e
  refine gs_cons (g1_asgE (psN 5) (gv_ixLn (gv_var 0) (gv_var 2) (rg_at ht)) fun d e => ?_)
  subst e
  show GS c _ _ [.da (listI w q), .da (listI w h), .da (.int (t : Int)), .da (.int s), .da (.int (h t)), .da (.int (q t)), .no, .no] _
  exact gs_cons (g1_ret (gv_map [("x", 6), ("y", 7)] (fun j => .int ((q j * h t - q t * h j) / s)) (gi_zipLR B.zip (gv_var 0) (gv_var 1)) (Nat.le_trans hw (by decide)) (fun j hj => gg_pair 6 7) fun j hj =>
    gv_fdivW (gv_sub (gv_mulW (gv_var 6) (gv_var 4) (mulw4 (hf j hj).1 (hf t ht).2)) (gv_mulW (gv_var 5) (gv_var 7) (mulw4 (hf t ht).1 (hf j hj).2))) (gv_var 3) (wide_div hs hs4 (by decide) (by decide))) fun d e => e)
end K33
end
section
set_option Elab.async false
set_option linter.all false
set_option maxRecDepth 100000
set_option exponentiation.threshold 10000
/-! W11: simplex.py: leaving -/
namespace K33
open PySem L2
variable {c : Cl} {g : Gx}
abbrev sLeav : Stmt := top 33
abbrev NLe : List Str := ["rows", "basis", "at", "best", "i", "one", "two"]
theorem scLeav : FnScope NLe ["rows", "basis", "at"] (defScope sLeav) := ⟨rfl, rfl, rfl, by decide +kernel, rfl, by decide +kernel, by decide +kernel⟩
structure LeA where
  m : Nat
  w : Nat
  f : Nat → Nat → Int
  bs : Nat → Nat
  t : Nat
def LeR (f : Nat → Nat → Int) (w t : Nat) (bs : Nat → Nat) (r k : Nat) : Prop := f r w * f k t < f k w * f r t ∨ (f r w * f k t = f k w * f r t ∧ bs r ≤ bs k)
theorem LeR.trans {f : Nat → Nat → Int} {w t : Nat} {bs : Nat → Nat} {i r k : Nat} (hi : 0 < f i t) (hr : 0 < f r t) (hk : 0 < f k t) (a : LeR f w t bs i r) (b : LeR f w t bs r k) : LeR f w t bs i k := by
  unfold LeR at *
  have key : ∀ {x y : Int}, f r t * x < f r t * y → x < y := fun h => Int.lt_of_mul_lt_mul_left h (Int.le_of_lt hr)
  have keyE : ∀ {x y : Int}, f r t * x = f r t * y → x = y := fun h => Int.cancel hr h
  rcases a with a | ⟨a, a2⟩
  · left
    apply key
    have h1 : (f i w * f r t) * f k t < (f r w * f i t) * f k t := Int.mul_lt_mul_of_pos_right a hk
    have h2 : (f r w * f k t) * f i t ≤ (f k w * f r t) * f i t := Int.mul_le_mul_of_nonneg_right (by rcases b with b | ⟨b, _⟩ <;> omega) (Int.le_of_lt hi)
    grind
  · rcases b with b | ⟨b, b2⟩
    · left
      apply key
      have h1 : (f i w * f r t) * f k t = (f r w * f i t) * f k t := by rw [a]
      have h2 : (f r w * f k t) * f i t < (f k w * f r t) * f i t := Int.mul_lt_mul_of_pos_right b hi
      grind
    · right
      refine ⟨keyE ?_, Nat.le_trans a2 b2⟩
      have h1 : (f i w * f r t) * f k t = (f r w * f i t) * f k t := by rw [a]
      have h2 : (f r w * f k t) * f i t = (f k w * f r t) * f i t := by rw [b]
      grind
def Bst (f : Nat → Nat → Int) (w t : Nat) (bs : Nat → Nat) (i : Nat) (v : Int) : Prop :=
  (v = -1 ∧ ∀ k, k < i → ¬ 0 < f k t) ∨ ∃ r : Nat, r < i ∧ v = r ∧ 0 < f r t ∧ ∀ k, k < i → 0 < f k t → LeR f w t bs r k
abbrev spLeav (c : Cl) : Sp := spG c (fun p : LeA => [.da (rowsD p.m (p.w + 1) p.f), .da (.lst (rg p.m fun k => .int (p.bs k : Int))), .da (.int (p.t : Int))])
  (fun p => p.m ≤ 1000 ∧ p.w ≤ 1000 ∧ p.t < p.w ∧ (∃ k, k < p.m ∧ 0 < p.f k p.t) ∧ ∀ k j, k < p.m → j < p.w + 1 → (p.f k j).natAbs < 2 ^ 400)
  (fun p d => ∃ r : Nat, r < p.m ∧ d = .int r ∧ 0 < p.f r p.t ∧ ∀ k, k < p.m → 0 < p.f k p.t → LeR p.f p.w p.t p.bs r k)
theorem ok_leav {f : Addr} {fd : FuncData} (F : Fun g.K "leaving" "leaving" sLeav f fd) (B : Nb g) : Fo g 1 f fd ["rows", "basis", "at"] (spLeav c) := by
  refine fn_ok F scLeav (fun _ => rfl) fun b ⟨m, w, q, bs, t⟩ hr ⟨hm, hw, ht, hex, hf⟩ => ?_
  replace hm : m ≤ 1000 := hm
  replace ht : t < w := ht
  replace hex : ∃ k, k < m ∧ 0 < q k t := hex
  replace hf : ∀ k j, k < m → j < w + 1 → (q k j).natAbs < 2 ^ 400 := hf
  have hm6 : m ≤ 1000000 := by omega
  have ht1 : t < w + 1 := by omega
  show GS c _ _ [.da (rowsD m (w + 1) q), .da (.lst (rg m fun k => .int (bs k : Int))), .da (.int (t : Int)), .no, .no, .no, .no] _
  refine gs_cons (g1_asgE (psN 3) (gv_neg gv_int) fun d e => ?_)
  subst e
  refine gs_cons (g1_for (fun i A => ∃ v s4 s5 s6, Bst q w t bs i v ∧ A = [.da (rowsD m (w + 1) q), .da (.lst (rg m fun k => .int (bs k : Int))), .da (.int (t : Int)), .da (.int v), s4, s5, s6]) (gi_range1 B.range ((gv_len B.len (gv_var 0)).eq (by rw [rg_len])) hm6)
    ⟨-1, _, _, _, .inl ⟨rfl, fun k hk => by omega⟩, rfl⟩ (fun i d A hi yd ⟨v, s4, s5, s6, hB, e⟩ => ⟨_, tg1_name 4, ?_⟩) fun A ⟨v, s4, s5, s6, hB, e⟩ => ?_)
  · subst e yd
    show GS c _ _ [.da (rowsD m (w + 1) q), .da (.lst (rg m fun k => .int (bs k : Int))), .da (.int (t : Int)), .da (.int v), .da (.int (i : Int)), s5, s6] _
    refine gs_cons (g1_ifB (gb_gt (gv_ixLn (gv_ixLn (gv_var 0) (gv_var 4) (rg_at hi)) (gv_var 2) (rg_at ht1)) gv_int) (fun z => ?_) (fun z => gs_nil (gs_nil ?_)))
    · have hp : 0 < q i t := of_decide_eq_true z
      obtain ⟨r, hr1, hr2, hr3, hr4⟩ : ∃ r : Nat, r ≤ i ∧ (if decide (v < 0) = true then (r : Int) = i else (r : Int) = v) ∧ 0 < q r t ∧ ∀ k, k < i → 0 < q k t → LeR q w t bs r k := by
        rcases hB with ⟨rfl, h⟩ | ⟨r, h1, rfl, h3, h4⟩
        · exact ⟨i, Nat.le_refl _, by simp, hp, fun k hk z => (h k hk z).elim⟩
        · have : ¬ ((r : Int) < 0) := by omega
          exact ⟨r, by omega, by simp [this], h3, h4⟩
      refine gs_cons (g1_imp (K' := ⟨fun A' => A' = [.da (rowsD m (w + 1) q), .da (.lst (rg m fun k => .int (bs k : Int))), .da (.int (t : Int)), .da (.int (r : Int)), .da (.int (i : Int)), s5, s6], fun _ => False, fun _ => False, fun _ => False⟩) (g1_ifB (gb_lt (gv_var 3) gv_int) (fun z => ?_) fun z => ?_) (fun A e => ?_) (fun _ z => z.elim) (fun _ z => z.elim) (fun _ z => z.elim))
      · rw [if_pos z] at hr2
        exact gs_cons (g1_asgE (psN 3) (gv_var 4) fun d e => by subst e; rw [← hr2]; exact gs_nil rfl)
      · rw [if_neg (by rw [z]; simp)] at hr2
        rw [← hr2]
        exact gs_nil rfl
      · subst e
        have hrm : r < m := by omega
        refine gs_cons (g1_asgE (psN 5) (gv_mulW (gv_ixL (gv_ixLn (gv_var 0) (gv_var 4) (rg_at hi)) (gv_neg gv_int) atI_last) (gv_ixLn (gv_ixLn (gv_var 0) (gv_var 3) (rg_at hrm)) (gv_var 2) (rg_at ht1)) (mulw4 (hf i w hi (by omega)) (hf r t hrm (by omega)))) fun d e => ?_)
        subst e
        refine gs_cons (g1_asgE (psN 6) (gv_mulW (gv_ixL (gv_ixLn (gv_var 0) (gv_var 3) (rg_at hrm)) (gv_neg gv_int) atI_last) (gv_ixLn (gv_ixLn (gv_var 0) (gv_var 4) (rg_at hi)) (gv_var 2) (rg_at ht1)) (mulw4 (hf r w hrm (by omega)) (hf i t hi (by omega)))) fun d e => ?_)
        subst e
        show GS c _ _ [.da (rowsD m (w + 1) q), .da (.lst (rg m fun k => .int (bs k : Int))), .da (.int (t : Int)), .da (.int (r : Int)), .da (.int (i : Int)), .da (.int (q i w * q r t)), .da (.int (q r w * q i t))] _
        refine gs_cons (g1_ifB (gb_or (gb_lt (gv_var 5) (gv_var 6)) fun _ => gb_and (gb_eqI (gv_var 5) (gv_var 6)) fun _ => gb_lt (gv_ixLn (gv_var 1) (gv_var 4) (rg_at hi)) (gv_ixLn (gv_var 1) (gv_var 3) (rg_at hrm))) (fun z => ?_) fun z => ?_)
        · refine gs_cons (g1_asgE (psN 3) (gv_var 4) fun d e => ?_)
          subst e
          refine gs_nil (gs_nil (gs_nil ⟨i, _, _, _, .inr ⟨i, by omega, rfl, hp, fun k hk hpk => ?_⟩, rfl⟩))
          have lt1 : LeR q w t bs i r := by
            simp only [Bool.or_eq_true, Bool.and_eq_true, decide_eq_true_eq] at z
            rcases z with z | ⟨z1, z2⟩
            · exact .inl z
            · exact .inr ⟨z1, by omega⟩
          by_cases e : k = i
          · subst e; exact .inr ⟨rfl, Nat.le_refl _⟩
          · exact LeR.trans hp hr3 hpk lt1 (hr4 k (by omega) hpk)
        · refine gs_nil (gs_nil (gs_nil ⟨r, _, _, _, .inr ⟨r, by omega, rfl, hr3, fun k hk hpk => ?_⟩, rfl⟩))
          by_cases e : k = i
          · subst e
            simp only [Bool.or_eq_false_iff, Bool.and_eq_false_iff, decide_eq_false_iff_not] at z
            obtain ⟨z1, z2⟩ := z
            unfold LeR
            rcases z2 with z2 | z2
            · left; omega
            · by_cases w1 : q r w * q k t = q k w * q r t
              · right; exact ⟨w1, by omega⟩
              · left; omega
          · exact hr4 k (by omega) hpk
    · have hp : ¬ 0 < q i t := of_decide_eq_false z
      refine ⟨v, _, _, _, ?_, rfl⟩
      rcases hB with ⟨rfl, h⟩ | ⟨r, h1, rfl, h3, h4⟩
      · refine .inl ⟨rfl, fun k hk => ?_⟩
        by_cases e : k = i
        · subst e; exact hp
        · exact h k (by omega)
      · refine .inr ⟨r, by omega, rfl, h3, fun k hk hpk => ?_⟩
        by_cases e : k = i
        · subst e; exact (hp hpk).elim
        · exact h4 k (by omega) hpk
  · subst e
    refine gs_cons (g1_ret (gv_var 3) fun d e => ?_)
    subst e
    rcases hB with ⟨rfl, h⟩ | ⟨r, h1, rfl, h3, h4⟩
    · obtain ⟨k, hk, hp⟩ := hex
      exact (h k hk hp).elim
    · exact ⟨r, h1, rfl, h3, h4⟩
end K33
end
section
set_option Elab.async false
set_option linter.all false
set_option maxRecDepth 100000
set_option exponentiation.threshold 10000
/-! W12: simplex.py: feasible -/
namespace K33
open PySem L2
variable {c : Cl} {g : Gx}
/-! ### the problem as a tableau -/
section
variable {m count : Nat} {col : Nat → Nat → Rat}
theorem den_mul_num (q : Rat) : (q.den : Rat) * q = q.num := by
  have h := Rat.num_divInt_den q
  rw [Rat.divInt_eq_div] at h
  have h2 : ((q.den : Int) : Rat) = (q.den : Rat) := rfl
  rw [h2] at h
  have h0 : (q.den : Rat) ≠ 0 := by exact_mod_cast q.den_nz
  have e : (q.den : Rat) * ((q.num : Rat) / (q.den : Rat)) = q.num := by
    generalize (q.den : Rat) = u at *
    generalize (q.num : Rat) = v at *
    grind
  rw [h] at e
  exact e
theorem eI_rat (C : Cf m count col) {j i : Nat} (hj : j ≤ count) (hi : i < m) : (eI count col j i : Rat) = (fcI count col i : Rat) * col j i := by
  obtain ⟨t, ht⟩ := (fcI_abs C hi).2.2 j hj
  have h0 := (col j i).den_pos
  have e : fcI count col i / ((col j i).den : Int) = t := by rw [ht]; exact Int.mul_ediv_cancel_left _ (by omega)
  unfold eI
  rw [e, ht, Rat.intCast_mul, Rat.intCast_mul]
  have h1 : ((col j i).den : Rat) * col j i = (col j i).num := den_mul_num _
  have h2 : (((col j i).den : Int) : Rat) = ((col j i).den : Rat) := rfl
  rw [h2]
  grind
theorem tA_lt {j i : Nat} (h : j < count) : tA m count col j i = eI count col j i := by unfold tA; rw [if_pos h]
theorem tA_N {i : Nat} : tA m count col (count + m) i = eI count col count i := by unfold tA; rw [if_neg (by omega), if_neg (by omega)]
theorem tA_id {k i : Nat} (h : k < m) : tA m count col (count + k) i = if k = i then 1 else 0 := by
  unfold tA
  rw [if_neg (by omega), if_pos (by omega)]
  have : count + k - count = k := by omega
  rw [this]
theorem tA_size (C : Cf m count col) {j i : Nat} (hi : i < m) (hj : j ≤ count + m) : (tA m count col j i).natAbs ≤ 2 ^ 24 := by
  have he : ∀ j, j ≤ count → (eI count col j i).natAbs ≤ 2 ^ 24 := fun j hj => by
    unfold eI
    rw [Int.natAbs_mul]
    have h1 := C.num j i hj hi
    have h2 : (fcI count col i / ((col j i).den : Int)).natAbs ≤ 6 := by
      have h3 := (fcI_abs C hi).1
      obtain ⟨t, ht⟩ := (fcI_abs C hi).2.2 j hj
      have h0 := (col j i).den_pos
      have e : fcI count col i / ((col j i).den : Int) = t := by rw [ht]; exact Int.mul_ediv_cancel_left _ (by omega)
      rw [e]
      rw [ht, Int.natAbs_mul, Int.natAbs_natCast] at h3
      have : 1 * t.natAbs ≤ (col j i).den * t.natAbs := Nat.mul_le_mul_right _ h0
      omega
    have h3 := Nat.mul_le_mul h1 h2
    have h4 : (2 : Nat) ^ 20 * 6 ≤ 2 ^ 24 := by decide
    omega
  unfold tA
  split
  · exact he j (by omega)
  · split
    · split <;> decide
    · exact he count (Nat.le_refl _)
theorem tA_start (C : Cf m count col) : Start m count (tA m count col) where
  id := fun k i hk hi => tA_id hk
  nn := fun i hi => by
    rw [tA_N]
    have h := eI_rat C (Nat.le_refl count) hi
    have h2 : (0 : Rat) ≤ (fcI count col i : Rat) * col count i := by
      unfold fcI fctF
      by_cases z : (col count i).num.sign < 0
      · rw [if_pos z]
        have h3 : (col count i).num < 0 := Int.sign_neg_iff.mp z
        have h4 : col count i ≤ 0 := by
          rcases Rat.le_total (a := col count i) (b := 0) with q | q
          · exact q
          · have := Rat.num_nonneg.mpr q
            omega
        have h5 : (0 : Rat) ≤ ((lcmF (fun j => col j i) (count + 1) : Int) : Rat) := by exact_mod_cast Int.natCast_nonneg _
        have := Rat.mul_nonneg h5 (show (0 : Rat) ≤ - col count i by grind)
        rw [Rat.intCast_neg]
        grind
      · rw [if_neg z]
        have h3 : 0 ≤ (col count i).num := by
          rcases ilt_or_ge (col count i).num 0 with q | q
          · exact (z (Int.sign_neg_iff.mpr q)).elim
          · exact q
        have h4 : 0 ≤ col count i := Rat.num_nonneg.mp h3
        have h5 : (0 : Rat) ≤ ((lcmF (fun j => col j i) (count + 1) : Int) : Rat) := by exact_mod_cast Int.natCast_nonneg _
        exact Rat.mul_nonneg h5 h4
    rw [← h] at h2
    exact_mod_cast h2
/-- nonnegative weights of the columns that give the right side -/
def Wts (m count : Nat) (col : Nat → Nat → Rat) (x : Nat → Rat) : Prop := (∀ j, j < count → 0 ≤ x j) ∧ ∀ i, i < m → Sq count (fun j => x j * col j i) = col count i
theorem wts_iff (C : Cf m count col) {x : Nat → Rat} {i : Nat} (hi : i < m) : Sq count (fun j => x j * (tA m count col j i : Rat)) = (tA m count col (count + m) i : Rat) ↔ Sq count (fun j => x j * col j i) = col count i := by
  have e1 : Sq count (fun j => x j * (tA m count col j i : Rat)) = (fcI count col i : Rat) * Sq count (fun j => x j * col j i) := by
    rw [← Sq_mul]
    refine Sq_congr fun j hj => ?_
    rw [tA_lt hj, eI_rat C (by omega) hi]
    grind
  rw [e1, tA_N, eI_rat C (Nat.le_refl _) hi]
  have h0 : (fcI count col i : Rat) ≠ 0 := by exact_mod_cast (fcI_abs C hi).2.1
  constructor
  · intro h; grind
  · intro h; rw [h]
end
theorem filter_head {n s : Nat} {p : Nat → Bool} {l : List Nat} (h : (List.range n).filter p = s :: l) : s < n ∧ p s = true ∧ ∀ j, j < s → p j = false := by
  have hm : s ∈ (List.range n).filter p := by rw [h]; exact List.mem_cons_self
  have h1 := List.mem_filter.mp hm
  refine ⟨List.mem_range.mp h1.1, h1.2, fun j hj => ?_⟩
  cases q : p j with
  | false => rfl
  | true =>
    have hj2 : j ∈ (List.range n).filter p := List.mem_filter.mpr ⟨List.mem_range.mpr (Nat.lt_trans hj (List.mem_range.mp h1.1)), q⟩
    have pw : ((List.range n).filter p).Pairwise (· < ·) := List.Pairwise.filter _ List.pairwise_lt_range
    rw [h] at hj2 pw
    rcases List.mem_cons.mp hj2 with e | e
    · omega
    · have := (List.pairwise_cons.mp pw).1 j e
      omega
theorem filter_none {n : Nat} {p : Nat → Bool} (h : (List.range n).filter p = []) : ∀ j, j < n → p j = false := fun j hj => by
  cases q : p j with
  | false => rfl
  | true =>
    have hj2 : j ∈ (List.range n).filter p := List.mem_filter.mpr ⟨List.mem_range.mpr hj, q⟩
    rw [h] at hj2
    cases hj2
/-! ### the walk -/
abbrev sFeas : Stmt := top 35
abbrev NF : List Str := ["columns", "right", "factors", "rows", "count", "basis", "price", "scale", "entering", "at", "out", "head", "found", "i", "j", "_"]
theorem scFeas : FnScope NF ["columns", "right"] (defScope sFeas) := ⟨rfl, rfl, rfl, by decide +kernel, rfl, by decide +kernel, by decide +kernel⟩
def FPost (p : Cfg) (d : D) : Prop :=
  (∃ x : Nat → Rat, Wts p.m p.count p.col x ∧ (∀ j, j < p.count → Bq 300 (x j)) ∧ d = .tup [.str "weights", .tup (rg p.count fun j => .rat (x j))]) ∨
  ((¬ ∃ x, Wts p.m p.count p.col x) ∧ ∃ ds, d = .tup [.str "functional", .tup ds])
abbrev spFeas (c : Cl) : Sp := spG c cfArg (fun p => Cf p.m p.count p.col) FPost
abbrev entL (m count : Nat) (A : Nat → Nat → Int) (b : Nat → Nat) : List Nat := (List.range count).filter fun j => decide (pr m count A b j < 0)
/-- the slots in the loop -/
abbrev fSt (m count : Nat) (col : Nat → Nat → Rat) (fd : D) (b : Nat → Nat) (s9 s10 s11 : Sl) : List Sl :=
  [.da (cD m count col), .da (rD m count col), .da fd, .da (rowsD m (count + m + 1) fun k j => Tb m (tA m count col) b k j), .da (.int (count : Int)), .mu (rg m fun k => .int (b k : Int)), .da (listI (count + m + 1) fun j => pr m count (tA m count col) b j), .da (.int (sc m (tA m count col) b)),
    .da (.lst ((entL m count (tA m count col) b).map fun j : Nat => .int (j : Int))), s9, s10, s11, .no, .no, .no, .no]
theorem lt400 {m n : Nat} (hm : m ≤ 10) (h : n ≤ (m + 1) * bigB m) : n < 2 ^ 400 := Nat.lt_of_le_of_lt h (Nat.lt_trans (big_lt hm) (Nat.pow_lt_pow_right (by decide) (by decide)))
theorem ok_feas {f : Addr} {fd : FuncData} (F : Fun g.K "feasible" "feasible" sFeas f fd) (B : Nb g) (T : Rt c g) (f1 : Fg g 3 "starting" (spStart c)) (f2 : Fg g 1 "costs" (spCosts c)) (f3 : Fg g 1 "leaving" (spLeav c)) (f4 : Fg g 1 "subtracted" (spSub c)) (f5 : Fg g 3 "zero" (spZero c)) : Fo g 4 f fd ["columns", "right"] (spFeas c) := by
  refine fn_ok F scFeas (fun _ => rfl) fun bx ⟨m, count, col⟩ hr C => ?_
  replace C : Cf m count col := C
  have m10 := C.m10
  have c16 := C.c16
  have hm6 : m ≤ 1000000 := by omega
  have hc6 : count ≤ 1000000 := by omega
  have hA : ∀ j i, j ≤ count + m → i < m → (tA m count col j i).natAbs ≤ 2 ^ 24 := fun j i hj hi => tA_size C hi hj
  have S0 := tA_start C
  show GS c _ _ [.da (cD m count col), .da (rD m count col), .no, .no, .no, .no, .no, .no, .no, .no, .no, .no, .no, .no, .no, .no] _
  refine gs_cons (g1_unpack 2 3 (ge_call f1 hr (ga2 (gv_var 0) (gv_var 1)) fun ws e => ⟨⟨m, count, col⟩, e.symm, C, fun d e => e⟩) fun d e => ⟨_, _, e, ?_⟩)
  have er : rowsD m (count + m + 1) (fun i j => tA m count col j i) = rowsD m (count + m + 1) fun k j => Tb m (tA m count col) (b0 count) k j := congrArg D.lst (rg_congr fun k hk => congrArg D.lst (rg_congr fun j hj => congrArg D.int (T_b0 S0 hk).symm))
  show GS c _ _ [.da (cD m count col), .da (rD m count col), .da (.lst (rg m fun i => .int (fcI count col i))), .da (rowsD m (count + m + 1) fun i j => tA m count col j i), .no, .no, .no, .no, .no, .no, .no, .no, .no, .no, .no, .no] _
  rw [er]
  refine gs_cons (g1_asgE (psN 4) (gv_len B.len (gv_var 0)) fun d e => ?_)
  subst e
  rw [rg_len]
  show GS c _ _ [.da (cD m count col), .da (rD m count col), .da (.lst (rg m fun i => .int (fcI count col i))), .da (rowsD m (count + m + 1) fun k j => Tb m (tA m count col) (b0 count) k j), .da (.int (count : Int)), .no, .no, .no, .no, .no, .no, .no, .no, .no, .no, .no] _
  refine gs_cons (g1_asgCM 5 [("i", 13)] (gc_mapR (fun k => .int ((b0 count k : Nat) : Int)) (gi_range1 B.range ((gv_len B.len (gv_var 3)).eq (by rw [rg_len])) hm6) (by omega) (fun i hi => gg_name 13) fun i hi => gv_addN (gv_var 4) (gv_var 13)) fun ds e => ?_)
  subst e
  refine gs_cons (g1_asgE (psN 6) (ge_call f2 (hr.mono (by decide)) (ga2 (gv_var 3) (gv_var 4)) fun ws e => ⟨⟨m, count, fun k j => Tb m (tA m count col) (b0 count) k j⟩, e.symm, ⟨m10, c16⟩, fun d e => e⟩) fun d e => ?_)
  subst e
  have ep : (D.lst (rg (count + m + 1) fun j => .int (cst m count j - Sm m (fun k => Tb m (tA m count col) (b0 count) k j)))) = listI (count + m + 1) fun j => pr m count (tA m count col) (b0 count) j := congrArg D.lst (rg_congr fun j hj => congrArg D.int (by
    show _ = pr m count (tA m count col) (b0 count) j
    rw [pr_b0 S0, Sm_congr (g := fun k => tA m count col j k) fun k hk => T_b0 S0 hk]))
  show GS c _ _ [.da (cD m count col), .da (rD m count col), .da (.lst (rg m fun i => .int (fcI count col i))), .da (rowsD m (count + m + 1) fun k j => Tb m (tA m count col) (b0 count) k j), .da (.int (count : Int)), .mu (rg m fun k => .int ((b0 count k : Nat) : Int)), .da (.lst (rg (count + m + 1) fun j => .int (cst m count j - Sm m (fun k => Tb m (tA m count col) (b0 count) k j)))), .no, .no, .no, .no, .no, .no, .no, .no, .no] _
  rw [ep]
  refine gs_cons (g1_asgE (psN 7) (gv_int.eq (d' := .int (sc m (tA m count col) (b0 count))) (by rw [sc_b0 S0])) fun d e => ?_)
  subst e
  have ent : ∀ (b : Nat → Nat) (s9 s10 s11 s8 : Sl) (K : List Sl → Prop), K (fSt m count col (.lst (rg m fun i => .int (fcI count col i))) b s9 s10 s11) →
      ∀ ds : List D, ds = ((List.range count).filter fun j => decide (pr m count (tA m count col) b j < 0)).map (fun j : Nat => .int (j : Int)) →
      K (([.da (cD m count col), .da (rD m count col), .da (.lst (rg m fun i => .int (fcI count col i))), .da (rowsD m (count + m + 1) fun k j => Tb m (tA m count col) b k j), .da (.int (count : Int)), .mu (rg m fun k => .int (b k : Int)), .da (listI (count + m + 1) fun j => pr m count (tA m count col) b j), .da (.int (sc m (tA m count col) b)), s8, s9, s10, s11, .no, .no, .no, .no] : List Sl).set 8 (.da (.lst ds))) := fun b s9 s10 s11 s8 K h ds e => by rw [e]; exact h
  show GS c _ _ [.da (cD m count col), .da (rD m count col), .da (.lst (rg m fun i => .int (fcI count col i))), .da (rowsD m (count + m + 1) fun k j => Tb m (tA m count col) (b0 count) k j), .da (.int (count : Int)), .mu (rg m fun k => .int ((b0 count k : Nat) : Int)), .da (listI (count + m + 1) fun j => pr m count (tA m count col) (b0 count) j), .da (.int (sc m (tA m count col) (b0 count))), .no, .no, .no, .no, .no, .no, .no, .no] _
  refine gs_cons (g1_asgC 8 [("j", 14)] (gc_fnR (fun j => decide (pr m count (tA m count col) (b0 count) j < 0)) (fun j => .int (j : Int)) (gi_range1 B.range (gv_var 4) hc6) (by omega) (fun i hi => gg_name 14) (fun j hj => gts_one (gb_lt (gv_ixLn (gv_var 6) (gv_var 14) (rg_at (show j < count + m + 1 by omega))) gv_int)) fun j hj _ => gv_var 14) fun ds e => ?_)
  refine ent _ _ _ _ _ (fun A => GS c _ _ A _) ?_ ds e
  have O0 := ok_b0 S0
  refine gs_cons (g1_while (fun n A => ∃ b s9 s10 s11, Ok m count (tA m count col) b ∧ Ends m count (tA m count col) n b ∧ A = fSt m count col (.lst (rg m fun i => .int (fcI count col i))) b s9 s10 s11) ?_ (fun n A ⟨b, s9, s10, s11, O, En, e⟩ => ?_))
  · obtain ⟨n, hn⟩ := ends O0
    exact ⟨n, _, _, _, _, O0, hn, rfl⟩
  · subst e
    refine ⟨_, gb_gt (gv_len B.len (gv_var 8)) gv_int, fun z => ?_, fun z => ?_⟩
    · rw [List.length_map] at z
      obtain ⟨s, l, hl⟩ : ∃ s l, entL m count (tA m count col) b = s :: l := by
        cases q : entL m count (tA m count col) b with
        | nil => rw [q] at z; simp at z
        | cons s l => exact ⟨s, l, rfl⟩
      obtain ⟨h1, h2, h3⟩ := filter_head hl
      have h2' : pr m count (tA m count col) b s < 0 := of_decide_eq_true h2
      have hs1 : s < count + m + 1 := by omega
      have sizT : ∀ k j, k < m → j < count + m + 1 → (Tb m (tA m count col) b k j).natAbs < 2 ^ 400 := fun k j hk hj => lt400 m10 (Nat.le_trans (T_size O hA (by omega)) (Nat.le_mul_of_pos_left _ (by omega)))
      have sizP : ∀ j, j < count + m + 1 → (pr m count (tA m count col) b j).natAbs < 2 ^ 400 := fun j hj => lt400 m10 (pr_size O hA (by omega))
      have sizS : (sc m (tA m count col) b).natAbs < 2 ^ 400 := lt400 m10 (Nat.le_trans (sc_size O hA) (Nat.le_mul_of_pos_left _ (by omega)))
      refine gs_cons (g1_asgE (psN 9) (gv_ixLn (j := 0) (d := .int (s : Int)) (gv_var 8) gv_int ?_) fun d e => ?_)
      · show ((entL m count (tA m count col) b).map fun j : Nat => D.int (j : Int))[0]? = _
        rw [hl]; rfl
      subst e
      show GS c _ _ (fSt m count col (.lst (rg m fun i => .int (fcI count col i))) b (.da (.int (s : Int))) s10 s11) _
      refine gs_cons (g1_asgEF (psN 10) (ge_call f3 (hr.mono (by decide)) (ga3 (gv_var 3) (gv_var 5) (gv_var 9)) fun ws e => ⟨⟨m, count + m, fun k j => Tb m (tA m count col) b k j, b, s⟩, e.symm, ⟨by show m ≤ 1000; omega, by show count + m ≤ 1000; omega, by show s < count + m; omega, pr_neg_row O h1 h2', sizT⟩, fun d e => e⟩) fun d ⟨r, hr1, e, hr2, hr3⟩ => ⟨e ▸ .int _, ?_⟩)
      subst e
      replace hr1 : r < m := hr1
      have St : Step m count (tA m count col) b r s := ⟨h1, h2', fun j hj => by have := of_decide_eq_false (h3 j hj); omega, hr1, hr2, hr3⟩
      have hs2 : s ≤ count + m := by omega
      show GS c _ _ (fSt m count col (.lst (rg m fun i => .int (fcI count col i))) b (.da (.int (s : Int))) (.da (.int (r : Int))) s11) _
      refine gs_cons (g1_asgE (psN 11) (gv_ixLn (gv_var 3) (gv_var 10) (rg_at hr1)) fun d e => ?_)
      subst e
      show GS c _ _ (fSt m count col (.lst (rg m fun i => .int (fcI count col i))) b (.da (.int (s : Int))) (.da (.int (r : Int))) (.da (listI (count + m + 1) fun j => Tb m (tA m count col) b r j))) _
      have O2 := O.next St
      have p0 := O.pos
      have newT : ∀ k j, k < m → k ≠ r → (Tb m (tA m count col) b k j * Tb m (tA m count col) b r s - Tb m (tA m count col) b k s * Tb m (tA m count col) b r j) / sc m (tA m count col) b = Tb m (tA m count col) (upb b r s) k j := fun k j hk ne => by
        have h := T_upb (j := j) O hr1 hk ne hs2
        rw [show Tb m (tA m count col) b k j * Tb m (tA m count col) b r s - Tb m (tA m count col) b k s * Tb m (tA m count col) b r j = sc m (tA m count col) b * Tb m (tA m count col) (upb b r s) k j by rw [h]; grind]
        exact Int.mul_ediv_cancel_left _ (by omega)
      have newP : ∀ j, (pr m count (tA m count col) b j * Tb m (tA m count col) b r s - pr m count (tA m count col) b s * Tb m (tA m count col) b r j) / sc m (tA m count col) b = pr m count (tA m count col) (upb b r s) j := fun j => by
        have h := pr_upb O hr1 hs2 j
        rw [show pr m count (tA m count col) b j * Tb m (tA m count col) b r s - pr m count (tA m count col) b s * Tb m (tA m count col) b r j = sc m (tA m count col) b * pr m count (tA m count col) (upb b r s) j by rw [h]; grind]
        exact Int.mul_ediv_cancel_left _ (by omega)
      refine gs_cons (g1_asgE (psN 3) (gv_map [("i", 13)] (fun k => listI (count + m + 1) fun j => Tb m (tA m count col) (upb b r s) k j) (gi_range1 B.range ((gv_len B.len (gv_var 3)).eq (by rw [rg_len])) hm6) (by omega) (fun i hi => gg_name 13) fun k hk =>
        gv_if (gb_eqI (gv_var 13) (gv_var 10)) (fun z => (gv_var 11 (d := listI (count + m + 1) fun j => Tb m (tA m count col) b r j)).eq ?_) (fun z => GE.imp (ge_call f4 (hr.mono (by decide)) (ga_consV (gv_ixLn (gv_var 3) (gv_var 13) (rg_at hk)) (ga3 (gv_var 11) (gv_var 9) (gv_var 7))) fun ws e => ⟨⟨count + m + 1, fun j => Tb m (tA m count col) b k j, fun j => Tb m (tA m count col) b r j, s, sc m (tA m count col) b⟩, e.symm, ⟨by show count + m + 1 ≤ 1000; omega, hs1, p0, sizS, fun j hj => ⟨sizT k j hk hj, sizT r j hr1 hj⟩⟩, fun d e => e⟩) ?_)) fun ds e => ?_)
      · have zk : k = r := by have := of_decide_eq_true z; omega
        subst zk
        exact congrArg D.lst (rg_congr fun j hj => congrArg D.int T_upb_r.symm)
      · intro d e
        have zk : k ≠ r := fun w => by have := of_decide_eq_false z; omega
        rw [e]
        exact congrArg D.lst (rg_congr fun j hj => congrArg D.int (newT k j hk zk))
      subst e
      refine gs_cons (g1_asgE (psN 6) (ge_call f4 (hr.mono (by decide)) (ga_consV (gv_var 6) (ga3 (gv_var 11) (gv_var 9) (gv_var 7))) fun ws e => ⟨⟨count + m + 1, fun j => pr m count (tA m count col) b j, fun j => Tb m (tA m count col) b r j, s, sc m (tA m count col) b⟩, e.symm, ⟨by show count + m + 1 ≤ 1000; omega, hs1, p0, sizS, fun j hj => ⟨sizP j hj, sizT r j hr1 hj⟩⟩, fun d e => e⟩) fun d e => ?_)
      subst e
      have ep2 : (listI (count + m + 1) fun j => (pr m count (tA m count col) b j * Tb m (tA m count col) b r s - pr m count (tA m count col) b s * Tb m (tA m count col) b r j) / sc m (tA m count col) b) = listI (count + m + 1) fun j => pr m count (tA m count col) (upb b r s) j := congrArg D.lst (rg_congr fun j hj => congrArg D.int (newP j))
      rw [show (listI { w := count + m + 1, f := fun j => pr m count (tA m count col) b j, h := fun j => Tb m (tA m count col) b r j, t := s, s := sc m (tA m count col) b : SuA }.w fun j => _) = _ from ep2]
      refine gs_cons (g1_asgE (psN 7) (GV.eq (gv_ixLn (gv_var 11) (gv_var 9) (rg_at hs1)) (d' := .int (sc m (tA m count col) (upb b r s))) (by rw [sc_upb])) fun d e => ?_)
      subst e
      refine gs_cons (g1_setItem 5 rfl (gv_var 9) (gv_var 10) (by rw [rg_len]; exact hr1) fun d e => ⟨e ▸ .int _, ?_⟩)
      subst e
      have eb : (rg m fun k => D.int (b k : Int)).set r (.int (s : Int)) = rg m fun k => D.int ((upb b r s k : Nat) : Int) := by
        rw [rg_set]
        refine rg_congr fun k hk => ?_
        unfold upb
        by_cases q : k = r
        · rw [if_pos q, if_pos q]
        · rw [if_neg q, if_neg q]
      rw [eb]
      show GS c _ _ [.da (cD m count col), .da (rD m count col), .da (.lst (rg m fun i => .int (fcI count col i))), .da (rowsD m (count + m + 1) fun k j => Tb m (tA m count col) (upb b r s) k j), .da (.int (count : Int)), .mu (rg m fun k => .int ((upb b r s k : Nat) : Int)), .da (listI (count + m + 1) fun j => pr m count (tA m count col) (upb b r s) j), .da (.int (sc m (tA m count col) (upb b r s))), _, .da (.int (s : Int)), .da (.int (r : Int)), .da (listI (count + m + 1) fun j => Tb m (tA m count col) b r j), .no, .no, .no, .no] _
      refine gs_cons (g1_asgC 8 [("j", 14)] (gc_fnR (fun j => decide (pr m count (tA m count col) (upb b r s) j < 0)) (fun j => .int (j : Int)) (gi_range1 B.range (gv_var 4) hc6) (by omega) (fun i hi => gg_name 14) (fun j hj => gts_one (gb_lt (gv_ixLn (gv_var 6) (gv_var 14) (rg_at (show j < count + m + 1 by omega))) gv_int)) fun j hj _ => gv_var 14) fun ds e => ?_)
      refine ent _ _ _ _ _ (fun A => GS c _ _ A _) ?_ ds e
      cases n with
      | zero => exact (En r s St).elim
      | succ n => exact gs_nil ⟨n, Nat.lt_succ_self n, _, _, _, _, O2, En r s St, rfl⟩
    · have hnil : entL m count (tA m count col) b = [] := by
        cases q : entL m count (tA m count col) b with
        | nil => rfl
        | cons s l => rw [List.length_map, q] at z; simp at z
      have opt : Opt m count (tA m count col) b := fun j hj => by have := of_decide_eq_false (filter_none hnil j hj); omega
      have p0 := O.pos
      have sizT : ∀ k j, k < m → j < count + m + 1 → (Tb m (tA m count col) b k j).natAbs < 2 ^ 290 := fun k j hk hj => Nat.lt_of_le_of_lt (Nat.le_trans (T_size O hA (by omega)) (Nat.le_mul_of_pos_left _ (by omega))) (big_lt m10)
      have sizP : ∀ j, j < count + m + 1 → (pr m count (tA m count col) b j).natAbs < 2 ^ 290 := fun j hj => Nat.lt_of_le_of_lt (pr_size O hA (by omega)) (big_lt m10)
      have sizS : (sc m (tA m count col) b).natAbs < 2 ^ 290 := Nat.lt_of_le_of_lt (Nat.le_trans (sc_size O hA) (Nat.le_mul_of_pos_left _ (by omega))) (big_lt m10)
      have s9k : (sc m (tA m count col) b).natAbs < 2 ^ 9000 := Nat.lt_of_lt_of_le sizS (Nat.pow_le_pow_right (by decide) (by decide))
      have hlen : ∀ f : Nat → D, (rg m f).length = m := fun f => rg_len
      refine gs_cons (g1_ifB (gb_lt (gv_ixL (gv_var 6) (gv_neg gv_int) atI_last) gv_int) (fun z => ?_) fun z => ?_)
      · have neg : pr m count (tA m count col) b (count + m) < 0 := of_decide_eq_true z
        refine gs_cons (g1_ret (gv_tup (ds := [.str "functional", .tup (rg m fun i => .rat (Rat.divInt (fcI count col i * (sc m (tA m count col) b - pr m count (tA m count col) b (count + i))) (sc m (tA m count col) b)))]) (ga2 gv_str (gv_tupleOf B.tuple (gv_map [("i", 13)] _ (gi_range1 B.range (GV.eq (gv_len B.len (gv_var 3)) (by rw [hlen])) hm6) (by omega) (fun i hi => gg_name 13) fun i hi =>
          gv_ratio T.mr (hr.mono (by decide)) (gv_mulW (gv_ixLn (gv_var 2) (gv_var 13) (rg_at hi)) (gv_sub (gv_var 7) (gv_ixLn (gv_var 6) (gv_addN (gv_var 4) (gv_var 13)) (rg_at (show count + i < count + m + 1 by omega)))) ?_) (gv_var 7) (by omega) s9k)))) fun d e => ?_)
        · refine mulw4 ?_ ?_
          · exact Nat.lt_of_le_of_lt (fcI_abs C hi).1 (Nat.lt_of_lt_of_le (show 6 < 2 ^ 3 by decide) (Nat.pow_le_pow_right (by decide) (by decide)))
          · have h1 := Int.natAbs_sub_le (sc m (tA m count col) b) (pr m count (tA m count col) b (count + i))
            have h2 := sizP (count + i) (by omega)
            have h3 : (2 : Nat) ^ 290 + 2 ^ 290 ≤ 2 ^ 400 := by decide +kernel
            omega
        · subst e
          exact .inr ⟨fun ⟨x, hx1, hx2⟩ => no_weights opt neg x hx1 fun i hi => (wts_iff C hi).mpr (hx2 i hi), _, rfl⟩
      · have nneg : 0 ≤ pr m count (tA m count col) b (count + m) := by have zz : ¬ pr m count (tA m count col) b (count + m) < 0 := of_decide_eq_false z; omega
        refine gs_nil ?_
        refine gs_cons (g1_asgCM 12 [("_", 15)] (gc_mapR (fun j => .rat (xF m count (tA m count col) b 0 j)) (gi_range1 B.range (gv_var 4) hc6) (by omega) (fun i hi => gg_name 15) fun i hi => ge_call0 f5 hr ⟨(), rfl, trivial, fun d e => e⟩) fun ds e => ?_)
        subst e
        refine gs_cons (g1_for (fun i A => ∃ s13, A = [.da (cD m count col), .da (rD m count col), .da (.lst (rg m fun i => .int (fcI count col i))), .da (rowsD m (count + m + 1) fun k j => Tb m (tA m count col) b k j), .da (.int (count : Int)), .mu (rg m fun k => .int (b k : Int)), .da (listI (count + m + 1) fun j => pr m count (tA m count col) b j), .da (.int (sc m (tA m count col) b)),
          .da (.lst ((entL m count (tA m count col) b).map fun j : Nat => .int (j : Int))), s9, s10, s11, .mu (rg count fun j => .rat (xF m count (tA m count col) b i j)), s13, .no, .no]) (gi_range1 B.range (GV.eq (gv_len B.len (gv_var 3)) (by rw [hlen])) hm6) ⟨_, rfl⟩ (fun i d A hi yd ⟨s13, e⟩ => ⟨_, tg1_name 13, ?_⟩) fun A ⟨s13, e⟩ => ?_)
        · subst e yd
          show GS c _ _ [.da (cD m count col), .da (rD m count col), .da (.lst (rg m fun i => .int (fcI count col i))), .da (rowsD m (count + m + 1) fun k j => Tb m (tA m count col) b k j), .da (.int (count : Int)), .mu (rg m fun k => .int (b k : Int)), .da (listI (count + m + 1) fun j => pr m count (tA m count col) b j), .da (.int (sc m (tA m count col) b)),
            .da (.lst ((entL m count (tA m count col) b).map fun j : Nat => .int (j : Int))), s9, s10, s11, .mu (rg count fun j => .rat (xF m count (tA m count col) b i j)), .da (.int (i : Int)), .no, .no] _
          refine gs_cons (g1_ifB (gb_lt (gv_ixLn (gv_var 5) (gv_var 13) (rg_at hi)) (gv_var 4)) (fun z => ?_) fun z => ?_)
          · have hb : b i < count := by have := of_decide_eq_true z; omega
            refine gs_cons (g1_setItem 12 rfl (gv_ratio T.mr (hr.mono (by decide)) (gv_ixL (gv_ixLn (gv_var 3) (gv_var 13) (rg_at hi)) (gv_neg gv_int) atI_last) (gv_var 7) (by omega) s9k) (gv_ixLn (gv_var 5) (gv_var 13) (rg_at hi)) (by rw [rg_len]; exact hb) fun d e => ⟨e ▸ .rat _, ?_⟩)
            subst e
            rw [rg_set]
            have e2 : (rg count fun j => if j = b i then D.rat (Rat.divInt (Tb m (tA m count col) b i (count + m)) (sc m (tA m count col) b)) else D.rat (xF m count (tA m count col) b i j)) = rg count fun j => .rat (xF m count (tA m count col) b (i + 1) j) := rg_congr fun j hj => by
              rw [xF]
              split <;> rfl
            rw [e2]
            exact gs_nil (gs_nil ⟨_, rfl⟩)
          · have hb : ¬ b i < count := by have := of_decide_eq_false z; omega
            refine gs_nil (gs_nil ⟨.da (.int (i : Int)), ?_⟩)
            have e2 : (rg count fun j => D.rat (xF m count (tA m count col) b i j)) = rg count fun j => .rat (xF m count (tA m count col) b (i + 1) j) := rg_congr fun j hj => by
              rw [xF, if_neg (by omega)]
            rw [e2]
        · subst e
          refine gs_cons (g1_ret (gv_tup (ds := [.str "weights", .tup (rg count fun j => .rat (xF m count (tA m count col) b m j))]) (ga2 gv_str (gv_tupleOf B.tuple (gv_var 12)))) fun d e => ?_)
          subst e
          refine .inl ⟨xF m count (tA m count col) b m, ⟨fun j hj => xF_nn O (Nat.le_refl _), fun i hi => (wts_iff C hi).mp (weights O nneg hi)⟩, fun j hj => ?_, rfl⟩
          have go : ∀ i, i ≤ m → Bq 300 (xF m count (tA m count col) b i j) := fun i => by
            induction i with
            | zero => intro _; exact ⟨by show (0 : Nat) < 2 ^ 300; exact Nat.two_pow_pos _, by show 1 < 2 ^ 300; exact Nat.one_lt_two_pow (by decide)⟩
            | succ i ih =>
              intro hi
              rw [xF]
              split
              · exact .of p0 (Nat.lt_of_lt_of_le (sizT i (count + m) (by omega) (by omega)) (Nat.pow_le_pow_right (by decide) (by decide))) (Nat.lt_of_lt_of_le sizS (Nat.pow_le_pow_right (by decide) (by decide)))
              · exact ih (by omega)
          exact go m (Nat.le_refl _)
end K33
end
section
set_option linter.all false
set_option maxRecDepth 100000
/-! A4: row reduction as the program does it; its answer on the cuts of four points -/
namespace K33
def clr (row head : List Rat) (a : Nat) : List Rat := if row.getD a 0 = 0 then row else (row.zip head).map fun p => p.1 - row.getD a 0 * p.2
structure RS3 where
  left : List (List Rat)
  found : List (List Rat)
  piv : List Nat
  ok : Bool
def smallR (q : Rat) : Bool := decide (q.num.natAbs < 1000) && decide (q.den < 1000)
def headsR (s : RS3) (a : Nat) : List Nat := (List.range s.left.length).filter fun k => !decide ((s.left.getD k []).getD a 0 = 0)
def hd2 (s : RS3) (k a : Nat) : List Rat := (s.left.getD k []).map fun x => x / (s.left.getD k []).getD a 0
def stepK (s : RS3) (k a : Nat) : RS3 :=
  ⟨(s.left.eraseIdx k).map fun r => clr r (hd2 s k a) a, (s.found.map fun r => clr r (hd2 s k a) a) ++ [hd2 s k a], s.piv ++ [a],
    s.ok && (hd2 s k a).all smallR && ((s.left.eraseIdx k).map fun r => clr r (hd2 s k a) a).all (·.all smallR) && (s.found.map fun r => clr r (hd2 s k a) a).all (·.all smallR)⟩
def stepR (s : RS3) (a : Nat) : RS3 := match headsR s a with
  | [] => s
  | k :: _ => stepK s k a
def sOf (rows : List (List Rat)) : Nat → RS3
  | 0 => ⟨rows, [], [], true⟩
  | i + 1 => stepR (sOf rows i) i
theorem stepR_cases (s : RS3) (a : Nat) : (headsR s a = [] ∧ stepR s a = s) ∨ ∃ k l, headsR s a = k :: l ∧ stepR s a = stepK s k a := by
  unfold stepR
  cases e : headsR s a with
  | nil => exact .inl ⟨rfl, rfl⟩
  | cons k l => exact .inr ⟨k, l, rfl, rfl⟩
theorem stepR_ok {s : RS3} {a : Nat} (h : (stepR s a).ok = true) : s.ok = true := by
  rcases stepR_cases s a with ⟨_, e⟩ | ⟨k, l, _, e⟩ <;> rw [e] at h
  · exact h
  · unfold stepK at h
    simp only [Bool.and_eq_true] at h
    exact h.1.1.1
theorem sOf_ok {rows : List (List Rat)} : ∀ {n i : Nat}, i ≤ n → (sOf rows n).ok = true → (sOf rows i).ok = true
  | 0, i, h, k => by rw [show i = 0 by omega]; exact k
  | n + 1, i, h, k => by
    by_cases e : i = n + 1
    · subst e; exact k
    · exact sOf_ok (show i ≤ n by omega) (stepR_ok k)
structure Good (w : Nat) (s : RS3) : Prop where
  l1 : ∀ r, r ∈ s.left → r.length = w ∧ r.all smallR = true
  l2 : ∀ r, r ∈ s.found → r.length = w ∧ r.all smallR = true
theorem clr_len {r h : List Rat} {a w : Nat} (h1 : r.length = w) (h2 : h.length = w) : (clr r h a).length = w := by
  unfold clr
  split
  · exact h1
  · rw [List.length_map, List.length_zip, h1, h2, Nat.min_self]
theorem getD_mem {α : Type} {l : List α} {k : Nat} {d : α} (h : k < l.length) : l.getD k d ∈ l := by
  rw [List.getD_eq_getElem?_getD, List.getElem?_eq_getElem h]
  exact List.getElem_mem h
theorem heads_mem {s : RS3} {k a : Nat} {l : List Nat} (h : headsR s a = k :: l) : k < s.left.length ∧ (s.left.getD k []).getD a 0 ≠ 0 := by
  have hm : k ∈ headsR s a := by rw [h]; exact List.mem_cons_self
  have := List.mem_filter.mp hm
  exact ⟨List.mem_range.mp this.1, by simpa using this.2⟩
theorem Good.step {w : Nat} {s : RS3} {a : Nat} (g : Good w s) (h : (stepR s a).ok = true) : Good w (stepR s a) := by
  rcases stepR_cases s a with ⟨_, e⟩ | ⟨k, l, e0, e⟩ <;> rw [e] at h ⊢
  · exact g
  · unfold stepK at h ⊢
    simp only [Bool.and_eq_true] at h
    obtain ⟨⟨⟨h0, h1⟩, h2⟩, h3⟩ := h
    obtain ⟨hk, _⟩ := heads_mem e0
    have hl : (hd2 s k a).length = w := by
      unfold hd2
      rw [List.length_map]
      exact (g.l1 _ (getD_mem hk)).1
    refine ⟨fun r hr => ?_, fun r hr => ?_⟩
    · obtain ⟨r0, hr0, rfl⟩ := List.mem_map.mp hr
      exact ⟨clr_len (g.l1 r0 (List.mem_of_mem_eraseIdx hr0)).1 hl, List.all_eq_true.mp h2 _ hr⟩
    · rcases List.mem_append.mp hr with hr | hr
      · obtain ⟨r0, hr0, rfl⟩ := List.mem_map.mp hr
        exact ⟨clr_len (g.l2 r0 hr0).1 hl, List.all_eq_true.mp h3 _ hr⟩
      · have : r = hd2 s k a := by simpa using hr
        subst this
        exact ⟨hl, h1⟩
theorem sOf_good {rows : List (List Rat)} {w : Nat} (h0 : ∀ r, r ∈ rows → r.length = w ∧ r.all smallR = true) : ∀ {n : Nat}, (sOf rows n).ok = true → Good w (sOf rows n)
  | 0, _ => ⟨h0, fun r hr => by cases hr⟩
  | n + 1, k => (sOf_good h0 (stepR_ok k)).step k
theorem sOf_piv {rows : List (List Rat)} : ∀ {n : Nat}, (sOf rows n).piv.length ≤ n ∧ (sOf rows n).found.length ≤ n ∧ (sOf rows n).left.length ≤ rows.length ∧ ∀ p, p ∈ (sOf rows n).piv → p < n
  | 0 => ⟨Nat.le_refl _, Nat.le_refl _, Nat.le_refl _, fun p hp => by cases hp⟩
  | n + 1 => by
    obtain ⟨a, b, c, d⟩ := sOf_piv (rows := rows) (n := n)
    have e1 : sOf rows (n + 1) = stepR (sOf rows n) n := rfl
    rw [e1]
    rcases stepR_cases (sOf rows n) n with ⟨_, e⟩ | ⟨k, l, e0, e⟩ <;> rw [e]
    · exact ⟨by omega, by omega, c, fun p hp => by have := d p hp; omega⟩
    · unfold stepK
      refine ⟨by simp; omega, by simp; omega, ?_, fun p hp => ?_⟩
      · show (((sOf rows n).left.eraseIdx k).map _).length ≤ _
        rw [List.length_map]
        have := List.length_eraseIdx_le (sOf rows n).left k
        omega
      · rcases List.mem_append.mp hp with hp | hp
        · have := d p hp; omega
        · have : p = n := by simpa using hp
          omega
def subl {α : Type} : List α → List (List α)
  | [] => [[]]
  | x :: l => (subl l).map (x :: ·) ++ subl l
theorem mem_subl {α : Type} (p : α → Bool) : ∀ l : List α, l.filter p ∈ subl l
  | [] => List.mem_cons_self
  | x :: l => by
    have ih := mem_subl p l
    unfold subl
    rw [List.mem_append]
    cases q : p x with
    | true => left; rw [List.filter_cons_of_pos q]; exact List.mem_map.mpr ⟨_, ih, rfl⟩
    | false => right; rw [List.filter_cons_of_neg (by rw [q]; simp)]; exact ih
/-- the reduction of rows of width w tells whether they are independent: n rows of N -/
def rankOk (w N : Nat) (l : List (List Rat)) : Bool := (sOf l w).ok && (l.all fun r => decide (r.length = w) && r.all smallR) && (decide ((sOf l w).piv.length = l.length) == decide (l.length ≠ N))
def cuts4 : List (List Rat) := [[1,0,0,1,1,0],[1,1,0,0,1,1],[1,1,1,0,0,0],[1,0,1,1,0,1],[0,1,0,1,0,1],[0,1,1,1,1,0],[0,0,1,0,1,1]]
def cuts3 : List (List Rat) := [[1,0,1],[1,1,0],[0,1,1]]
def cuts2 : List (List Rat) := [[1]]
theorem rank4 : (subl cuts4).all (rankOk 6 7) = true := by decide +kernel
theorem rank3 : (subl cuts3).all (rankOk 3 100) = true := by decide +kernel
theorem rank2 : (subl cuts2).all (rankOk 1 100) = true := by decide +kernel
theorem rank1 : (subl ([] : List (List Rat))).all (rankOk 0 100) = true := by decide +kernel
end K33
end
section
set_option Elab.async false
set_option linter.all false
set_option maxRecDepth 100000
set_option exponentiation.threshold 10000
/-! W13: linear.py -/
namespace K33
open PySem L2
variable {c : Cl} {g : Gx}
def tR (r : List Rat) : D := .tup (r.map .rat)
theorem getD_map {α β : Type} {l : List α} {a : Nat} {d : α} {f : α → β} (h : a < l.length) : (l.map f)[a]? = some (f (l.getD a d)) := by
  rw [List.getElem?_map, List.getD_eq_getElem?_getD, List.getElem?_eq_getElem h]; rfl
theorem small_Bq {q : Rat} (h : smallR q = true) : Bq 10 q := by
  unfold smallR at h
  simp only [Bool.and_eq_true, decide_eq_true_eq] at h
  exact ⟨Nat.lt_of_lt_of_le h.1 (by decide), Nat.lt_of_lt_of_le h.2 (by decide)⟩
abbrev sClr : Stmt := top 26
abbrev NCl : List Str := ["row", "head", "at", "factor", "x", "y"]
theorem scClr : FnScope NCl ["row", "head", "at"] (defScope sClr) := ⟨rfl, rfl, rfl, by decide +kernel, rfl, by decide +kernel, by decide +kernel⟩
structure ClA where
  row : List Rat
  head : List Rat
  a : Nat
abbrev spClr (c : Cl) : Sp := spG c (fun p : ClA => [.da (tR p.row), .da (tR p.head), .da (.int (p.a : Int))])
  (fun p => p.row.length ≤ 1000 ∧ p.head.length = p.row.length ∧ p.a < p.row.length ∧ p.row.all smallR = true ∧ p.head.all smallR = true) (fun p d => d = tR (clr p.row p.head p.a))
theorem ok_clr {f : Addr} {fd : FuncData} (F : Fun g.K "cleared" "cleared" sClr f fd) (B : Nb g) (T : Rt c g) : Fo g 4 f fd ["row", "head", "at"] (spClr c) := by
  refine fn_ok F scClr (fun _ => rfl) fun b ⟨row, head, a⟩ hr ⟨h1, h2, h3, h4, h5⟩ => ?_
  replace h1 : row.length ≤ 1000 := h1
  replace h2 : head.length = row.length := h2
  replace h3 : a < row.length := h3
  have s1 : ∀ q, q ∈ row → Bq 10 q := fun q hq => small_Bq (List.all_eq_true.mp h4 q hq)
  have s2 : ∀ q, q ∈ head → Bq 10 q := fun q hq => small_Bq (List.all_eq_true.mp h5 q hq)
  have sf : Bq 10 (row.getD a 0) := s1 _ (getD_mem h3)
  show GS c _ _ [.da (tR row), .da (tR head), .da (.int (a : Int)), .no, .no, .no] _
  refine gs_cons (g1_ifB (gb_val (gv_isz T (hr.mono (by decide)) (gv_ixTn (d := .rat (row.getD a 0)) (gv_var 0) (gv_var 2) (getD_map h3)))) (fun z => ?_) fun z => gs_nil ?_)
  · refine gs_cons (g1_ret (gv_var 0) fun d e => ?_)
    subst e
    show tR row = tR (clr row head a)
    unfold clr
    rw [if_pos (of_decide_eq_true z)]
  refine gs_cons (g1_asgE (psN 3) (gv_ixTn (d := .rat (row.getD a 0)) (gv_var 0) (gv_var 2) (getD_map h3)) fun d e => ?_)
  subst e
  show GS c _ _ [.da (tR row), .da (tR head), .da (.int (a : Int)), .da (.rat (row.getD a 0)), .no, .no] _
  have hl : (row.zip head).length ≤ 100000 := by rw [List.length_zip]; omega
  refine gs_cons (g1_ret (gv_tupleOf B.tuple (gv_mapL [("x", 4), ("y", 5)] (fun p : Rat × Rat => .rat (p.1 - row.getD a 0 * p.2)) (gi_zipTL (l1 := row) (l2 := head) (f1 := D.rat) (f2 := D.rat) B.zip (gv_var 0) (gv_var 1)) hl (fun p hp => gg_pair 4 5) fun p hp =>
    gv_rsub T hr (gv_var 4) (gv_rmul T hr (gv_var 3) (gv_var 5) (sf.sz (by decide)) ((s2 p.2 (List.of_mem_zip hp).2).sz (by decide))) ((s1 p.1 (List.of_mem_zip hp).1).sz (by decide)) ((sf.mul (s2 p.2 (List.of_mem_zip hp).2)).sz (by decide)))) fun d e => ?_)
  subst e
  show D.tup _ = tR (clr row head a)
  unfold clr tR
  rw [if_neg (of_decide_eq_false z), List.map_map]
  rfl
/-! ### reduced -/
abbrev sRed : Stmt := top 27
abbrev NRe : List Str := ["rows", "width", "left", "found", "pivots", "at", "heads", "head", "top", "row", "k", "x"]
theorem scRed : FnScope NRe ["rows", "width"] (defScope sRed) := ⟨rfl, rfl, rfl, by decide +kernel, rfl, by decide +kernel, by decide +kernel⟩
structure ReA where
  rows : List (List Rat)
  w : Nat
abbrev spRed (c : Cl) : Sp := spG c (fun p : ReA => [.da (.lst (p.rows.map tR)), .da (.int (p.w : Int))])
  (fun p => p.w ≤ 100 ∧ p.rows.length ≤ 100 ∧ (sOf p.rows p.w).ok = true ∧ ∀ r, r ∈ p.rows → r.length = p.w ∧ r.all smallR = true) (fun p d => d = .tup [.tup ((sOf p.rows p.w).found.map tR), .tup ((sOf p.rows p.w).piv.map fun k : Nat => .int (k : Int))])
theorem erase_map {α β : Type} (f : α → β) : ∀ (l : List α) (k : Nat), (l.map f).eraseIdx k = (l.eraseIdx k).map f
  | [], _ => rfl
  | _ :: _, 0 => rfl
  | x :: l, k + 1 => congrArg (f x :: ·) (erase_map f l k)
theorem lf_tR (r : List Rat) : LF (tR r) := .tup fun d h => by
  obtain ⟨q, _, rfl⟩ := List.mem_map.mp h
  exact .rat q
abbrev rSt (rows : List (List Rat)) (w : Nat) (s : RS3) (s5 s6 s7 s8 : Sl) : List Sl :=
  [.da (.lst (rows.map tR)), .da (.int (w : Int)), .mu (s.left.map tR), .da (.lst (s.found.map tR)), .mu (s.piv.map fun k : Nat => .int (k : Int)), s5, s6, s7, s8, .no, .no, .no]
theorem ok_red {f : Addr} {fd : FuncData} (F : Fun g.K "reduced" "reduced" sRed f fd) (B : Nb g) (T : Rt c g) (f1 : Fg g 4 "cleared" (spClr c)) : Fo g 5 f fd ["rows", "width"] (spRed c) := by
  refine fn_ok F scRed (fun _ => rfl) fun b ⟨rows, w⟩ hr ⟨hw, hn, hok, hrows⟩ => ?_
  replace hw : w ≤ 100 := hw
  replace hn : rows.length ≤ 100 := hn
  replace hok : (sOf rows w).ok = true := hok
  replace hrows : ∀ r, r ∈ rows → r.length = w ∧ r.all smallR = true := hrows
  have hw6 : w ≤ 1000000 := by omega
  show GS c _ _ [.da (.lst (rows.map tR)), .da (.int (w : Int)), .no, .no, .no, .no, .no, .no, .no, .no, .no, .no] _
  refine gs_cons (g1_asgL (psN 2) (gl_lr (gl_mapL [("row", 9)] tR (gi_listL (l0 := rows) (e := tR) (gv_var 0)) (by omega) (fun r hr => gg_name 9) fun r hr => gv_tupleT B.tuple (gv_var 9))) fun ds e => ?_)
  subst e
  refine gs_cons (g1_asgE (psN 3) gv_nil fun d e => ?_)
  subst e
  refine gs_cons (g1_asgL (psN 4) (gl_lst (ds := []) ga_nil) fun d e => ?_)
  subst e
  show GS c _ _ (rSt rows w (sOf rows 0) .no .no .no .no) _
  refine gs_cons (g1_for (fun i A => ∃ s5 s6 s7 s8, A = rSt rows w (sOf rows i) s5 s6 s7 s8) (gi_range1 B.range (gv_var 1) hw6) ⟨_, _, _, _, rfl⟩ (fun a d A ha yd ⟨s5, s6, s7, s8, e⟩ => ⟨_, tg1_name 5, ?_⟩) fun A ⟨s5, s6, s7, s8, e⟩ => ?_)
  · subst e yd
    show GS c _ _ (rSt rows w (sOf rows a) (.da (.int (a : Int))) s6 s7 s8) _
    have ok1 : (sOf rows a).ok = true := sOf_ok (by omega) hok
    have ok2 : (stepR (sOf rows a) a).ok = true := sOf_ok (n := w) (i := a + 1) (by omega) hok
    have G := sOf_good hrows ok1
    obtain ⟨p1, p2, p3, p4⟩ := sOf_piv (rows := rows) (n := a)
    have hL6 : (sOf rows a).left.length ≤ 1000000 := by omega
    have lrow : ∀ k, k < (sOf rows a).left.length → (((sOf rows a).left.getD k []).length = w) := fun k hk => (G.l1 _ (getD_mem hk)).1
    refine gs_cons (g1_asgCF 6 [("k", 10)] (gc_fnR (fun k => !decide (((sOf rows a).left.getD k []).getD a 0 = 0)) (fun k => .int (k : Int)) (gi_range1 B.range (GV.eq (gv_len B.len (gv_var 2)) (by rw [List.length_map])) hL6) (by omega) (fun i hi => gg_name 10)
      (fun k hk => gts_one (gb_not (gb_val (gv_isz T (hr.mono (by decide)) (gv_ixTn (d := .rat (((sOf rows a).left.getD k []).getD a 0)) (gv_ixLn (d := tR ((sOf rows a).left.getD k [])) (gv_var 2) (gv_var 10) (getD_map hk)) (gv_var 5) (getD_map (by rw [lrow k hk]; exact ha))))))) fun k hk _ => gv_var 10) fun ds e => ⟨fun d hd => ?_, ?_⟩)
    · subst e
      obtain ⟨k, _, rfl⟩ := List.mem_map.mp hd
      exact .int _
    subst e
    show GS c _ _ (rSt rows w (sOf rows a) (.da (.int (a : Int))) (.mu ((headsR (sOf rows a) a).map fun k : Nat => .int (k : Int))) s7 s8) _
    refine gs_cons (g1_ifB (gb_gt (gv_len B.len (gv_var 6)) gv_int) (fun z => ?_) fun z => ?_)
    · rw [List.length_map] at z
      rcases stepR_cases (sOf rows a) a with ⟨e, _⟩ | ⟨k, l, e, e2⟩
      · rw [e] at z; simp at z
      obtain ⟨hk, hne⟩ := heads_mem e
      rw [e2] at ok2
      have ok3 := ok2
      unfold stepK at ok3
      simp only [Bool.and_eq_true] at ok3
      have hd2s : (hd2 (sOf rows a) k a).all smallR = true := ok3.1.1.2
      have hl2 : (hd2 (sOf rows a) k a).length = w := by unfold hd2; rw [List.length_map]; exact lrow k hk
      have rs : ∀ q, q ∈ (sOf rows a).left.getD k [] → Bq 10 q := fun q hq => small_Bq (List.all_eq_true.mp (G.l1 _ (getD_mem hk)).2 q hq)
      have ts : Bq 10 (((sOf rows a).left.getD k []).getD a 0) := rs _ (getD_mem (by rw [lrow k hk]; exact ha))
      rw [e]
      refine gs_cons (g1_asgP 7 (gp_pop 2 rfl (gv_ixLn (j := 0) (d := .int (k : Int)) (gv_var 6) gv_int rfl) (by rw [List.length_map]; omega) (fun d e => ⟨k, e, by rw [List.length_map]; exact hk⟩)) fun d A' ⟨k', ek, hk', hd, eA⟩ => ?_)
      have ek2 : k' = k := by injection ek with ek; omega
      subst ek2
      rw [getD_map (d := []) hk] at hd
      cases hd
      subst eA
      rw [erase_map]
      show GS c _ _ [.da (.lst (rows.map tR)), .da (.int (w : Int)), .mu (((sOf rows a).left.eraseIdx k').map tR), .da (.lst ((sOf rows a).found.map tR)), .mu ((sOf rows a).piv.map fun k : Nat => .int (k : Int)), .da (.int (a : Int)), _, .da (tR ((sOf rows a).left.getD k' [])), s8, .no, .no, .no] _
      refine gs_cons (g1_asgE (psN 8) (gv_ixTn (d := .rat (((sOf rows a).left.getD k' []).getD a 0)) (gv_var 7) (gv_var 5) (getD_map (by rw [lrow k' hk]; exact ha))) fun d e => ?_)
      subst e
      refine gs_cons (g1_asgE (psN 7) (GV.eq (d' := tR (hd2 (sOf rows a) k' a)) (gv_tupleOf B.tuple (gv_mapL [("x", 11)] (fun q : Rat => .rat (q / ((sOf rows a).left.getD k' []).getD a 0)) (gi_tupL (l0 := (sOf rows a).left.getD k' []) (e := D.rat) (gv_var 7)) (by rw [lrow k' hk]; omega) (fun q hq => gg_name 11) fun q hq => gv_over T (hr.mono (by decide)) (gv_var 11) (gv_var 8) ((rs q hq).sz (by decide)) (ts.sz (by decide)) hne)) (by unfold tR hd2; rw [List.map_map]; rfl)) fun d e => ?_)
      subst e
      show GS c _ _ [.da (.lst (rows.map tR)), .da (.int (w : Int)), .mu (((sOf rows a).left.eraseIdx k').map tR), .da (.lst ((sOf rows a).found.map tR)), .mu ((sOf rows a).piv.map fun k : Nat => .int (k : Int)), .da (.int (a : Int)), _, .da (tR (hd2 (sOf rows a) k' a)), .da (.rat (((sOf rows a).left.getD k' []).getD a 0)), .no, .no, .no] _
      have hle : ((sOf rows a).left.eraseIdx k').length ≤ 100 := by have := List.length_eraseIdx_le (sOf rows a).left k'; omega
      refine gs_cons (g1_asgLF (psN 2) (gl_lr (gl_mapL [("row", 9)] (fun r : List Rat => tR (clr r (hd2 (sOf rows a) k' a) a)) (gi_listL (l0 := (sOf rows a).left.eraseIdx k') (e := tR) (gv_var 2)) (by omega) (fun r hr => gg_name 9) fun r hrr => ge_call f1 hr (ga3 (gv_var 9) (gv_var 7) (gv_var 5)) fun ws e => ⟨⟨r, hd2 (sOf rows a) k' a, a⟩, e.symm, ?_, fun d e => e⟩)) fun ds e => ⟨fun d hd => ?_, ?_⟩)
      · obtain ⟨g1, g2⟩ := G.l1 r (List.mem_of_mem_eraseIdx hrr)
        exact ⟨by show r.length ≤ 1000; omega, by show (hd2 (sOf rows a) k' a).length = r.length; omega, by show a < r.length; omega, g2, hd2s⟩
      · subst e
        obtain ⟨r, _, rfl⟩ := List.mem_map.mp hd
        exact lf_tR _
      subst e
      refine gs_cons (g1_asgE (psN 3) (GL.gv (gl_cat (gv_mapL [("row", 9)] (fun r : List Rat => tR (clr r (hd2 (sOf rows a) k' a) a)) (gi_listL (l0 := (sOf rows a).found) (e := tR) (gv_var 3)) (by omega) (fun r hr => gg_name 9) fun r hrr => ge_call f1 hr (ga3 (gv_var 9) (gv_var 7) (gv_var 5)) fun ws e => ⟨⟨r, hd2 (sOf rows a) k' a, a⟩, e.symm, ?_, fun d e => e⟩) (GL.gv (gl_lst (ds := [tR (hd2 (sOf rows a) k' a)]) (ga1 (gv_var 7)))) ?_)) fun d e => ?_)
      · obtain ⟨g1, g2⟩ := G.l2 r hrr
        exact ⟨by show r.length ≤ 1000; omega, by show (hd2 (sOf rows a) k' a).length = r.length; omega, by show a < r.length; omega, g2, hd2s⟩
      · simp; omega
      subst e
      refine gs_cons (g1_append 4 rfl (gv_var 5) (by rw [List.length_map]; omega) fun d e => ?_)
      subst e
      refine gs_nil (gs_nil ⟨.da (.int (a : Int)), .mu ((k' :: l).map fun k : Nat => .int (k : Int)), .da (tR (hd2 (sOf rows a) k' a)), .da (.rat (((sOf rows a).left.getD k' []).getD a 0)), ?_⟩)
      have e5 : sOf rows (a + 1) = stepK (sOf rows a) k' a := e2
      rw [e5]
      unfold rSt stepK
      simp only [List.map_append, List.map_map]
      rfl
    · rw [List.length_map] at z
      rcases stepR_cases (sOf rows a) a with ⟨e, e2⟩ | ⟨k, l, e, _⟩
      · have e5 : sOf rows (a + 1) = sOf rows a := e2
        refine gs_nil (gs_nil ⟨.da (.int (a : Int)), .mu ((headsR (sOf rows a) a).map fun k : Nat => .int (k : Int)), s7, s8, ?_⟩)
        rw [e5]
      · rw [e] at z; simp at z
  · subst e
    obtain ⟨p1, p2, p3, p4⟩ := sOf_piv (rows := rows) (n := w)
    refine gs_cons (g1_ret (gv_tup (ds := [.tup ((sOf rows w).found.map tR), .tup ((sOf rows w).piv.map fun k : Nat => .int (k : Int))]) (ga2 (gv_tupleOf B.tuple (gv_var 3)) (gv_tupleOf B.tuple (gv_var 4)))) fun d e => e)
/-! ### rank -/
abbrev sRank : Stmt := top 28
theorem scRank : FnScope ["rows", "width"] ["rows", "width"] (defScope sRank) := ⟨rfl, rfl, rfl, by decide +kernel, rfl, by decide +kernel, by decide +kernel⟩
abbrev spRank (c : Cl) : Sp := spG c (fun p : ReA => [.da (.lst (p.rows.map tR)), .da (.int (p.w : Int))])
  (fun p => p.w ≤ 100 ∧ p.rows.length ≤ 100 ∧ (sOf p.rows p.w).ok = true ∧ ∀ r, r ∈ p.rows → r.length = p.w ∧ r.all smallR = true) (fun p d => d = .int ((sOf p.rows p.w).piv.length : Int))
theorem ok_rank {f : Addr} {fd : FuncData} (F : Fun g.K "rank" "rank" sRank f fd) (B : Nb g) (f1 : Fg g 5 "reduced" (spRed c)) : Fo g 6 f fd ["rows", "width"] (spRank c) := by
  refine fn_ok F scRank (fun _ => rfl) fun b p hr hp => ?_
  show GS c _ _ [.da (.lst (p.rows.map tR)), .da (.int (p.w : Int))] _
  refine gs_cons (g1_ret (gv_lenT B.len (gv_ixTn (j := 1) (d := .tup ((sOf p.rows p.w).piv.map fun k : Nat => .int (k : Int))) (ge_call f1 hr (ga2 (gv_var 0) (gv_var 1)) fun ws e => ⟨p, e.symm, hp, fun d e => e⟩) gv_int rfl)) fun d e => ?_)
  subst e
  rw [List.length_map]
end K33
end
section
set_option Elab.async false
set_option linter.all false
set_option maxRecDepth 100000
set_option exponentiation.threshold 10000
/-! W14: cuts.py: decided, cut_weights -/
namespace K33
open PySem L2
variable {c : Cl} {g : Gx}
/-! ### the pairs of points -/
def pls (n : Nat) : List (Nat × Nat) := prs n fun x y => (x, y)
def np (n : Nat) : Nat := (pls n).length
def px (n i : Nat) : Nat × Nat := (pls n).getD i (0, 0)
theorem prs_map {α : Type} (n : Nat) (f : Nat → Nat → α) : prs n f = (pls n).map fun p => f p.1 p.2 := by
  unfold pls prs
  rw [List.map_flatMap]
  congr 1
  funext x
  rw [rg_map]
theorem prs_rg {α : Type} (n : Nat) (f : Nat → Nat → α) : prs n f = rg (np n) fun i => f (px n i).1 (px n i).2 := by
  rw [prs_map, rg_of (pls n) (0, 0), rg_map]
  rfl
theorem px_mem {n i : Nat} (h : i < np n) : (px n i).1 < (px n i).2 ∧ (px n i).2 < n := by
  have hm : px n i ∈ pls n := by
    unfold px
    exact getD_mem h
  unfold pls prs at hm
  obtain ⟨x, hx, hm⟩ := List.mem_flatMap.mp hm
  obtain ⟨k, hk, e⟩ := rg_mem hm
  rw [e]
  have := List.mem_range.mp hx
  exact ⟨by show x < x + 1 + k; omega, by show x + 1 + k < n; omega⟩
abbrev Fn2 : Type := Nat → Nat → Rat
/-- columns fs, right side r -/
def colF (n : Nat) (fs : List Fn2) (r : Fn2) (j i : Nat) : Rat := (fs.getD j r) (px n i).1 (px n i).2
def cfgF (n : Nat) (fs : List Fn2) (r : Fn2) : Cfg := ⟨np n, fs.length, colF n fs r⟩
abbrev colD (n : Nat) (f : Fn2) : D := .tup (prs n fun x y => .rat (f x y))
theorem cD_F {n : Nat} {fs : List Fn2} {r : Fn2} : cD (np n) fs.length (colF n fs r) = .lst (fs.map (colD n)) := by
  refine congrArg D.lst (List.ext_getElem? fun j => ?_)
  by_cases h : j < fs.length
  · rw [rg_at h, getD_map (d := r) h]
    congr 1
    show _ = D.tup (prs n fun x y => .rat (fs.getD j r x y))
    rw [prs_rg]
    rfl
  · rw [List.getElem?_eq_none (by rw [rg_len]; omega), List.getElem?_eq_none (by simp; omega)]
theorem rD_F {n : Nat} {fs : List Fn2} {r : Fn2} : rD (np n) fs.length (colF n fs r) = colD n r := by
  show D.tup _ = D.tup _
  rw [prs_rg]
  congr 1
  refine rg_congr fun i hi => ?_
  unfold colF
  rw [List.getD_eq_getElem?_getD, List.getElem?_eq_none (Nat.le_refl _)]
  rfl
theorem cf_F {n : Nat} {fs : List Fn2} {r : Fn2} (hn : np n ≤ 10) (hl : fs.length ≤ 16) (h : ∀ f, f ∈ fs ∨ f = r → ∀ x y, x < n → y < n → (f x y).den ∣ 6 ∧ (f x y).num.natAbs ≤ 2 ^ 20) : Cf (np n) fs.length (colF n fs r) := by
  have key : ∀ j i, i < np n → ((colF n fs r j i).den ∣ 6 ∧ (colF n fs r j i).num.natAbs ≤ 2 ^ 20) := fun j i hi => by
    obtain ⟨h1, h2⟩ := px_mem hi
    refine h (fs.getD j r) ?_ (px n i).1 (px n i).2 (by omega) h2
    by_cases q : j < fs.length
    · exact .inl (getD_mem q)
    · right
      rw [List.getD_eq_getElem?_getD, List.getElem?_eq_none (by omega)]
      rfl
  exact ⟨hn, hl, fun j i _ hi => (key j i hi).1, fun j i _ hi => (key j i hi).2⟩
/-- nonnegative weights with sum r -/
def RepW (n : Nat) (fs : List Fn2) (r : Fn2) (x : Nat → Rat) : Prop := Wts (np n) fs.length (colF n fs r) x
/-- a metric with small fractions, up to five points -/
structure Met6 (n : Nat) (R : Fn2) : Prop where
  met : Met n R
  n5 : n ≤ 5
  den : ∀ x y, x < n → y < n → (R x y).den ∣ 6 ∧ (R x y).num.natAbs ≤ 2 ^ 20
theorem np_le {n : Nat} (h : n ≤ 5) : np n ≤ 10 := by
  match n, h with
  | 0, _ => decide
  | 1, _ => decide
  | 2, _ => decide
  | 3, _ => decide
  | 4, _ => decide
  | 5, _ => decide
theorem spl_len5 {n : Nat} (h : n ≤ 5) : (spl n).length ≤ 15 := by
  have := splF_len (n - 1) (n - 1)
  have h2 : 2 ^ (n - 1) ≤ 2 ^ 4 := Nat.pow_le_pow_right (by decide) (by omega)
  have h3 : (2 : Nat) ^ 4 = 16 := rfl
  unfold spl
  omega
theorem cutR_small (s : List Int) (x y : Nat) : (cutR s x y).den ∣ 6 ∧ (cutR s x y).num.natAbs ≤ 2 ^ 20 := by
  unfold cutR
  split <;> exact ⟨⟨6, rfl⟩, by decide⟩
abbrev cuts (n : Nat) : List Fn2 := (spl n).map cutR
theorem cf_dec {n : Nat} {R : Fn2} (M : Met6 n R) : Cf (np n) (cuts n).length (colF n (cuts n) R) := cf_F (np_le M.n5) (by rw [List.length_map]; have := spl_len5 M.n5; omega) fun f hf x y hx hy => by
  rcases hf with hf | hf
  · obtain ⟨s, _, rfl⟩ := List.mem_map.mp hf
    exact cutR_small s x y
  · subst hf
    exact M.den x y hx hy
theorem cuts_map (n : Nat) : (spl n).map (cutD1 n) = (cuts n).map (colD n) := by rw [List.map_map]; rfl
abbrev sDec : Stmt := top 39
theorem scDec : FnScope ["m"] ["m"] (defScope sDec) := ⟨rfl, rfl, rfl, by decide +kernel, rfl, by decide +kernel, by decide +kernel⟩
abbrev spDec (c : Cl) : Sp := spG c metArg (fun p => Met6 p.1 p.2) (fun p d => FPost (cfgF p.1 (cuts p.1) p.2) d)
/-- methods of Metric -/
theorem gv_pairs {X : Fm} {Γ : List Vw} {o : Expr} {apos pos : Pos} {n : Nat} {R : Fn2} (T : Rt c (XG X)) (F : Mc X.prog X.w X.K X.mg X.base 1 c.M "pairs" (spPairs c)) (hr : Room 1 X.A) (ho : GV c X o Γ (.met n (mD n R))) (h8 : n ≤ 8)
    (hev : ∃ pl : X.ι → Sem Bool, ∀ i, eval (.Call (.Attribute o "pairs" apos) [] [] pos) (X.X i).env = (do let ov ← eval o (X.X i).env; standAt apos.atName; let (f, first) ← holding [ov] (getMethod ov "pairs" (pl i)); callWith pos f first (backTo pos (starEach [] (X.X i).env)) (backToKw pos (keywordEach [] (X.X i).env))) := by exact ⟨_, fun _ => rfl⟩) : GV c X (.Call (.Attribute o "pairs" apos) [] [] pos) Γ (colD n R) := by
  obtain ⟨pl, hev⟩ := hev
  exact ge_meth0 T.ct.clM F hr ho (fun d e M H v s => in_met (by decide) (by decide) (e ▸ s)) (fun d e => ⟨(n, R), by rw [e], h8, fun _ z => z⟩) hev
theorem ok_dec {f : Addr} {fd : FuncData} (F : Fun g.K "decided" "decided" sDec f fd) (T : Rt c g) (f1 : Fg g 7 "cut_columns" (spCutCols c)) (f2 : Fg g 4 "feasible" (spFeas c)) (f3 : Mg g 1 c.M "pairs" (spPairs c)) : Fo g 8 f fd ["m"] (spDec c) := by
  refine fn_ok F scDec (fun _ => rfl) fun b ⟨n, R⟩ hr M => ?_
  replace M : Met6 n R := M
  have h8 := M.met.le
  show GS c _ _ [.da (.met n (mD n R))] _
  refine gs_cons (g1_ret (ge_call f2 (hr.mono (by decide)) (ga2 (ge_call f1 hr (ga1 (gv_mn T.ct (gv_var 0))) fun ws e => ⟨n, e.symm, ⟨M.met.pos, h8⟩, fun d e => e⟩) (gv_pairs T f3 (hr.mono (by decide)) (gv_var 0) h8)) fun ws e => ⟨cfgF n (cuts n) R, ?_, cf_dec M, fun d e => e⟩) fun d e => e)
  rw [e]
  show [Vw.da (cD (np n) (cuts n).length (colF n (cuts n) R)), .da (rD (np n) (cuts n).length (colF n (cuts n) R))] = _
  rw [cD_F, rD_F, cuts_map]
/-! ### cut_weights -/
abbrev sCW : Stmt := top 40
abbrev NCW : List Str := ["m", "kind", "told", "split", "weight"]
theorem scCW : FnScope NCW ["m"] (defScope sCW) := ⟨rfl, rfl, rfl, by decide +kernel, rfl, by decide +kernel, by decide +kernel⟩
abbrev wtD : List Int × Rat → D := fun p => .tup [tI p.1, .rat p.2]
abbrev spCW (c : Cl) : Sp := spG c metArg (fun p => Met6 p.1 p.2 ∧ ∃ x, RepW p.1 (cuts p.1) p.2 x)
  (fun p d => ∃ x : Nat → Rat, RepW p.1 (cuts p.1) p.2 x ∧ (∀ j, j < (spl p.1).length → Bq 300 (x j)) ∧ d = .tup ((((spl p.1).zip (rg (spl p.1).length x)).filter fun q => decide (0 < q.2.num.sign)).map wtD))
theorem ok_CW {f : Addr} {fd : FuncData} (F : Fun g.K "cut_weights" "cut_weights" sCW f fd) (B : Nb g) (T : Rt c g) (f1 : Fg g 8 "decided" (spDec c)) (f2 : Fg g 4 "splits" (spSplits c)) : Fo g 9 f fd ["m"] (spCW c) := by
  refine fn_ok F scCW (fun _ => rfl) fun b ⟨n, R⟩ hr ⟨M, hex⟩ => ?_
  replace M : Met6 n R := M
  have h8 := M.met.le
  show GS c _ _ [.da (.met n (mD n R)), .no, .no, .no, .no] _
  refine gs_cons (g1_unpack 1 2 (ge_call f1 hr (ga1 (gv_var 0)) fun ws e => ⟨(n, R), e.symm, M, fun d e => e⟩) fun d hd => ?_)
  rcases hd with ⟨x, hx, hq, e⟩ | ⟨hno, _⟩
  · refine ⟨_, _, e, ?_⟩
    have hl : (cuts n).length = (spl n).length := List.length_map _
    show GS c _ _ [.da (.met n (mD n R)), .da (.str "weights"), .da (.tup (rg (cuts n).length fun j => .rat (x j))), .no, .no] _
    refine gs_cons (g1_ifB (gb_eqS (gv_var 1) gv_str) (fun z => ?_) fun _ => gs_nil ?_)
    · exact absurd z (by decide)
    · have e2 : (D.tup (rg (cuts n).length fun j => .rat (x j))) = .tup ((rg (spl n).length x).map .rat) := by rw [rg_map, hl]
      rw [e2]
      have hlen : ((spl n).zip (rg (spl n).length x)).length ≤ 100000 := by rw [List.length_zip, rg_len]; have := spl_len5 M.n5; omega
      exact gs_cons (g1_ret (gv_tupleOf B.tuple (gv_mapLF [("split", 3), ("weight", 4)] (fun q : List Int × Rat => decide (0 < q.2.num.sign)) wtD (gi_zipTL (l1 := spl n) (l2 := rg (spl n).length x) (f1 := tI) (f2 := D.rat) B.zip (ge_call f2 (hr.mono (by decide)) (ga1 (gv_mn T.ct (gv_var 0))) fun ws e => ⟨n, e.symm, ⟨M.met.pos, h8⟩, fun d e => e⟩) (gv_var 2)) hlen (fun q hq => gg_pair 3 4)
        (fun q hq => gts_one (gb_gt (gv_sgn T (hr.mono (by decide)) (gv_var 4)) gv_int)) fun q hq _ => gv_tup (ds := [tI q.1, .rat q.2]) (ga2 (gv_var 3) (gv_var 4)))) fun d e => ⟨x, hx, fun j hj => hq j (by show j < (cuts n).length; rw [hl]; exact hj), e⟩)
  · exact (hno hex).elim
end K33
end
section
set_option Elab.async false
set_option linter.all false
set_option maxRecDepth 100000
set_option exponentiation.threshold 10000
/-! W15: cuts.py: possible_splits -/
namespace K33
open PySem L2
variable {c : Cl} {g : Gx}
def neF (f : Fn2) : Fn2 := fun x y => -(f x y)
/-- the columns of possible_splits' second question -/
abbrev pcol (n : Nat) (R : Fn2) : List Fn2 := cuts n ++ [neF R]
def PossP (n : Nat) (R : Fn2) (s : List Int) : Prop := ∃ x, RepW n (pcol n R) (neF (cutR s)) x
open Classical in
noncomputable def possL (n : Nat) (R : Fn2) : List (List Int) := (spl n).filter fun s => decide (PossP n R s)
abbrev sPS : Stmt := top 41
abbrev NPS : List Str := ["m", "columns", "turned", "found", "split", "column", "told", "x"]
theorem scPS : FnScope NPS ["m"] (defScope sPS) := ⟨rfl, rfl, rfl, by decide +kernel, rfl, by decide +kernel, by decide +kernel⟩
/-- Refused("cuts") is raised -/
def Refu (C : Addr) (B : Option Addr) (H : Hp) (E : XK) : Prop := ∀ dx H1, To B H H1 → H1 dx = none → E (.ref C) (some dx) (upd H1 dx (.xd [("reason", .str "cuts")]))
def spPS (c : Cl) (C : Addr) : Sp := fun vs H Q E => ∃ (n : Nat) (R : Fn2) (M : Addr → Prop) (B : Option Addr), Met6 n R ∧ Hc M B H ∧ Paired (IsV c (hid M H) B) vs (metArg (n, R)) ∧
  (((∃ x, RepW n (cuts n) R x) ∧ ∀ d v H', To B H H' → d = tT (possL n R) → Is c (hid M H') v d → Q v H') ∨ ((¬ ∃ x, RepW n (cuts n) R x) ∧ Refu C B H E))
theorem neg_small {q : Rat} (h : q.den ∣ 6 ∧ q.num.natAbs ≤ 2 ^ 20) : (-q).den ∣ 6 ∧ (-q).num.natAbs ≤ 2 ^ 20 := by rw [Rat.neg_den, Rat.neg_num, Int.natAbs_neg]; exact h
theorem small_sz {q : Rat} (h : q.den ∣ 6 ∧ q.num.natAbs ≤ 2 ^ 20) : Sz q :=
  ⟨Nat.lt_of_le_of_lt h.2 (Nat.pow_lt_pow_right (by decide) (by decide)), Nat.lt_of_le_of_lt (six h.1).2 (Nat.lt_of_lt_of_le (show 6 < 2 ^ 3 by decide) (Nat.pow_le_pow_right (by decide) (by decide)))⟩
theorem cf_ps {n : Nat} {R : Fn2} {s : List Int} (M : Met6 n R) : Cf (np n) (pcol n R).length (colF n (pcol n R) (neF (cutR s))) := cf_F (np_le M.n5) (by rw [List.length_append, List.length_map]; have := spl_len5 M.n5; simp; omega) fun f hf x y hx hy => by
  rcases hf with hf | hf
  · rcases List.mem_append.mp hf with hf | hf
    · obtain ⟨s, _, rfl⟩ := List.mem_map.mp hf
      exact cutR_small s x y
    · have : f = neF R := by simpa using hf
      subst this
      exact neg_small (M.den x y hx hy)
  · subst hf
    exact neg_small (cutR_small s x y)
theorem zip_self_map {α β : Type} (f : α → β) : ∀ l : List α, l.zip (l.map f) = l.map fun a => (a, f a)
  | [] => rfl
  | a :: l => by rw [List.map_cons, List.zip_cons_cons, zip_self_map f l]; rfl
/-- what stands behind the first test -/
theorem ps_rest {b : Bx} {n : Nat} {R : Fn2} {st : Stmt} {rest : List Stmt} (hb : defBody sPS = st :: rest) (B : Nb g) (T : Rt c g) (f1 : Fg g 7 "cut_columns" (spCutCols c)) (f2 : Fg g 4 "feasible" (spFeas c)) (f3 : Mg g 1 c.M "pairs" (spPairs c)) (f4 : Fg g 4 "splits" (spSplits c))
    (hr : Room 8 (fmD g NPS (defScope sPS) scPS.nd b).A) (M : Met6 n R) : GS c (fmD g NPS (defScope sPS) scPS.nd b) rest [.da (.met n (mD n R)), .no, .no, .no, .no, .no, .no, .no] ⟨fun _ => False, fun d => d = tT (possL n R), fun _ => False, fun _ => False⟩ := by
  have hb2 := (List.cons.inj hb).2
  subst hb2
  have h8 := M.met.le
  have hl := spl_len5 M.n5
  refine gs_cons (g1_asgE (psN 1) (ge_call f1 (hr.mono (by decide)) (ga1 (gv_mn T.ct (gv_var 0))) fun ws e => ⟨n, e.symm, ⟨M.met.pos, h8⟩, fun d e => e⟩) fun d e => ?_)
  subst e
  rw [cuts_map]
  have prsn : ∀ f : Fn2, colD n f = .tup ((pls n).map fun p => .rat (f p.1 p.2)) := fun f => by show D.tup _ = _; rw [prs_map]
  have hnp : (pls n).length ≤ 100000 := by have := np_le M.n5; unfold np at this; omega
  have pm : ∀ p, p ∈ pls n → p.1 < n ∧ p.2 < n := fun p hp => by
    obtain ⟨i, hi⟩ := List.getElem?_of_mem hp
    have hi2 := (List.getElem?_eq_some_iff.mp hi).1
    have := px_mem (n := n) hi2
    unfold px at this
    rw [List.getD_eq_getElem?_getD, hi] at this
    exact ⟨Nat.lt_trans this.1 this.2, this.2⟩
  have neg : ∀ f : Fn2, (D.tup ((pls n).map fun p => .rat (-(f p.1 p.2)))) = colD n (neF f) := fun f => by rw [prsn]; rfl
  show GS c _ _ [.da (.met n (mD n R)), .da (.lst ((cuts n).map (colD n))), .no, .no, .no, .no, .no, .no] _
  refine gs_cons (g1_asgE (psN 2) (GV.eq (gv_tupleOf B.tuple (gv_mapL [("x", 7)] (fun p : Nat × Nat => .rat (-(R p.1 p.2))) (gi_tupL (l0 := pls n) (e := fun p => .rat (R p.1 p.2)) (GV.eq (gv_pairs T f3 (hr.mono (by decide)) (gv_var 0) h8) (prsn R))) hnp (fun p hp => gg_name 7) fun p hp => gv_rneg T (hr.mono (by decide)) (gv_var 7) (small_sz (M.den p.1 p.2 (pm p hp).1 (pm p hp).2)))) (neg R)) fun d e => ?_)
  subst e
  refine gs_cons (g1_asgL (psN 3) (gl_lst (ds := []) ga_nil) fun d e => ?_)
  subst e
  show GS c _ _ [.da (.met n (mD n R)), .da (.lst ((cuts n).map (colD n))), .da (colD n (neF R)), .mu [], .no, .no, .no, .no] _
  have hz : (spl n).zip (cuts n) = (spl n).map fun s => (s, cutR s) := zip_self_map cutR (spl n)
  refine gs_cons (g1_for (hp := fun _ => passes_of rfl) (fun i A => ∃ s4 s5 s6, A = [.da (.met n (mD n R)), .da (.lst ((cuts n).map (colD n))), .da (colD n (neF R)), .mu (((((spl n).take i).filter fun s => @decide (PossP n R s) (Classical.propDecidable _))).map tI), s4, s5, s6, .no])
    (gi_zipM (l1 := spl n) (l2 := cuts n) (f1 := tI) (f2 := colD n) B.zip (ge_call f4 (hr.mono (by decide)) (ga1 (gv_mn T.ct (gv_var 0))) fun ws e => ⟨n, e.symm, ⟨M.met.pos, h8⟩, fun d e => e⟩) (gv_var 1)) ⟨_, _, _, rfl⟩ (fun i d A hi yd ⟨s4, s5, s6, e⟩ => ?_) fun A ⟨s4, s5, s6, e⟩ => ?_)
  · obtain ⟨x, hx, rfl⟩ := yd
    rw [hz, List.getElem?_map] at hx
    cases hs : (spl n)[i]? with
    | none => rw [hs] at hx; cases hx
    | some s =>
      rw [hs] at hx
      cases hx
      subst e
      refine ⟨_, tg1_pair 4 5, ?_⟩
      show GS c _ _ [.da (.met n (mD n R)), .da (.lst ((cuts n).map (colD n))), .da (colD n (neF R)), .mu (((((spl n).take i).filter fun s => @decide (PossP n R s) (Classical.propDecidable _))).map tI), .da (tI s), .da (colD n (cutR s)), s6, .no] _
      have hi2 : i < (spl n).length := (List.getElem?_eq_some_iff.mp hs).1
      have tk : (spl n).take (i + 1) = (spl n).take i ++ [s] := by rw [List.take_add_one, hs]; rfl
      refine gs_cons (g1_asgE (psN 6) (ge_call f2 (hr.mono (by decide)) (ga2 (GL.gv (gl_cat (gv_var 1) (GL.gv (gl_lst (ds := [colD n (neF R)]) (ga1 (gv_var 2)))) (by rw [List.length_map, List.length_map]; simp; omega)))
        (GV.eq (gv_tupleOf B.tuple (gv_mapL [("x", 7)] (fun p : Nat × Nat => .rat (-(cutR s p.1 p.2))) (gi_tupL (l0 := pls n) (e := fun p => .rat (cutR s p.1 p.2)) (GV.eq (gv_var 5) (prsn (cutR s)))) hnp (fun p hp => gg_name 7) fun p hp => gv_rneg T (hr.mono (by decide)) (gv_var 7) (small_sz (cutR_small s p.1 p.2)))) (neg (cutR s)))) fun ws e => ⟨cfgF n (pcol n R) (neF (cutR s)), ?_, cf_ps M, fun d e => e⟩) fun d hd => ?_)
      · rw [e]
        show [Vw.da (cD (np n) (pcol n R).length (colF n (pcol n R) (neF (cutR s)))), .da (rD (np n) (pcol n R).length (colF n (pcol n R) (neF (cutR s))))] = _
        rw [cD_F, rD_F, List.map_append]
        rfl
      · have key : ∃ (k : Str) (d2 : D), d = .tup [.str k, d2] ∧ decide (k = ("weights" : Str)) = @decide (PossP n R s) (Classical.propDecidable _) := by
          rcases hd with ⟨x, hx, _, rfl⟩ | ⟨hno, ds, rfl⟩
          · refine ⟨_, _, rfl, ?_⟩
            rw [@decide_eq_true _ (Classical.propDecidable _) (show PossP n R s from ⟨x, hx⟩)]
            rfl
          · refine ⟨_, _, rfl, ?_⟩
            rw [@decide_eq_false _ (Classical.propDecidable _) (show ¬ PossP n R s from hno)]
            decide
        obtain ⟨k, d2, rfl, hk⟩ := key
        refine gs_cons (g1_ifB (gb_eqS (gv_ixTn (j := 0) (d := .str k) (gv_var 6) gv_int rfl) gv_str) (fun z => ?_) fun z => ?_)
        · rw [z] at hk
          refine gs_cons (g1_append 3 rfl (gv_var 4) ?_ fun d e => ?_)
          · rw [List.length_map]
            have := List.length_filter_le (fun s => @decide (PossP n R s) (Classical.propDecidable _)) ((spl n).take i)
            rw [List.length_take] at this
            omega
          · subst e
            refine gs_nil (gs_nil ⟨.da (tI s), .da (colD n (cutR s)), .da (.tup [.str k, d2]), ?_⟩)
            rw [tk, List.filter_append, List.map_append]
            have : [s].filter (fun s => @decide (PossP n R s) (Classical.propDecidable _)) = [s] := List.filter_cons_of_pos hk.symm
            rw [this]
            rfl
        · rw [z] at hk
          refine gs_nil (gs_nil ⟨.da (tI s), .da (colD n (cutR s)), .da (.tup [.str k, d2]), ?_⟩)
          rw [tk, List.filter_append, List.map_append]
          have : [s].filter (fun s => @decide (PossP n R s) (Classical.propDecidable _)) = [] := by rw [List.filter_cons_of_neg (by rw [← hk]; simp)]; rfl
          rw [this, List.map_nil, List.append_nil]
          rfl
  · subst e
    refine gs_cons (g1_ret (gv_tupleOf B.tuple (gv_var 3)) fun d e => ?_)
    subst e
    show D.tup _ = tT (possL n R)
    have : ((spl n).zip (cuts n)).length = (spl n).length := by rw [hz, List.length_map]
    rw [this, List.take_length]
    rfl
end K33
end
section
set_option Elab.async false
set_option linter.all false
set_option maxRecDepth 100000
set_option exponentiation.threshold 10000
/-! W16: possible_splits, is_rigid as promises -/
namespace K33
open PySem L2
variable {c : Cl} {g : Gx} {C : Addr}
theorem ok_PS {f : Addr} {fd : FuncData} (F : Fun g.K "possible_splits" "possible_splits" sPS f fd) (B : Nb g) (T : Rt c g) (f0 : Fg g 8 "decided" (spDec c)) (f1 : Fg g 7 "cut_columns" (spCutCols c)) (f2 : Fg g 4 "feasible" (spFeas c)) (f3 : Mg g 1 c.M "pairs" (spPairs c)) (f4 : Fg g 4 "splits" (spSplits c))
    (RR : RfX g.P g.w g.K g.mg g.base C) : FnOk g.P g.w g.K g.mg g.base (L2.CX g.P g.w) 9 f fd ["m"] (spPS c C) := by
  refine F.okX scPS (fun vs H Q E h => ?_) (fun cdv A outer s H vs Q E hr h => ?_)
  · obtain ⟨n, R, M, Bo, _, _, p, _⟩ := h
    rw [Paired.len p]; rfl
  · obtain ⟨n, R, M, Bo, M6, hc, p, h⟩ := h
    have key : wSs (fmD g NPS (defScope sPS) scPS.nd ⟨L2.CX g.P g.w, "possible_splits", f, cdv, A, outer, s, H, E⟩) (defBody sPS) { nx := fun _ H' => Q .non H', rt := Q } (L2.start NPS vs) H := by
      obtain ⟨F0, r0⟩ := rs_entry (c := c) (N := NPS) hc p
      replace r0 : RepS c [.da (.met n (mD n R)), .no, .no, .no, .no, .no, .no, .no] _ _ _ _ _ F0 _ := r0
      rcases h with ⟨hex, hQ⟩ | ⟨hno, hE⟩
      · refine wss_cons (w_if r0.vF r0.hc0 (gb_eqS (i := "weights") (ge_ixT (ge_call f0 hr (ga1 (gv_var 0)) fun ws e => ⟨(n, R), e.symm, M6, fun d e => e⟩) gv_int fun x y hx hy => ?_) gv_str) fun H1 t => ?_)
        · rcases hx with ⟨x, hx, _, rfl⟩ | ⟨hno, _⟩
          · exact ⟨_, 0, _, rfl, hy, rfl, rfl⟩
          · exact (hno hex).elim
        · rw [if_neg (by decide)]
          exact ⟨_, fun _ => pss_nil, ps_rest (b := ⟨L2.CX g.P g.w, "possible_splits", f, cdv, A, outer, s, H, E⟩) rfl B T f1 f2 f3 f4 hr M6 H M Bo (hid M H) _ H1 ⟨F0, r0.to t⟩ _ ⟨fun _ _ _ h => h.elim, fun d v H' p e st s => hQ d v H' ⟨e, st⟩ p s, fun _ _ _ h => h.elim, fun _ _ _ h => h.elim⟩⟩
      · refine wss_cons (w_if r0.vF r0.hc0 (gb_eqS (i := "functional") (ge_ixT (ge_call f0 hr (ga1 (gv_var 0)) fun ws e => ⟨(n, R), e.symm, M6, fun d e => e⟩) gv_int fun x y hx hy => ?_) gv_str) fun H1 t => ?_)
        · rcases hx with ⟨x, hx, _, rfl⟩ | ⟨_, ds, rfl⟩
          · exact (hno ⟨x, hx⟩).elim
          · exact ⟨_, 0, _, rfl, hy, rfl, rfl⟩
        · rw [if_pos (by decide)]
          have r1 := r0.to t
          exact wss_one (w_raise (takesD (g := g) rfl) RR (hr.mono (by decide)) r1.vF r1.hc0 gv_str fun dx H2 t2 nd => hE dx H2 (t.trans t2) nd)
    obtain ⟨t, ht, tq⟩ := key
    exact ⟨t, ht (), tq⟩
/-! ### is_rigid -/
def rkN (n : Nat) : Nat := if n = 4 then 7 else 100
abbrev rowsQ (n : Nat) (ss : List (List Int)) : List (List Rat) := ss.map fun s => prs n (cutR s)
theorem prs_map' {α β : Type} (n : Nat) (f : Nat → Nat → α) (h : α → β) : (prs n f).map h = prs n fun x y => h (f x y) := by
  rw [prs_map, prs_map n fun x y => h (f x y), List.map_map]; rfl
theorem tR_prs (n : Nat) (f : Fn2) : tR (prs n f) = colD n f := by unfold tR; rw [prs_map']
theorem mem_subl_map {α β : Type} (p : α → Bool) (f : α → β) : ∀ l : List α, (l.filter p).map f ∈ subl (l.map f)
  | [] => List.mem_cons_self
  | x :: l => by
    have ih := mem_subl_map p f l
    rw [List.map_cons]
    unfold subl
    rw [List.mem_append]
    cases q : p x with
    | true => left; rw [List.filter_cons_of_pos q, List.map_cons]; exact List.mem_map.mpr ⟨_, ih, rfl⟩
    | false => right; rw [List.filter_cons_of_neg (by rw [q]; simp)]; exact ih
theorem rank_all : ∀ {n : Nat}, 1 ≤ n → n ≤ 4 → (subl (rowsQ n (spl n))).all (rankOk (np n) (rkN n)) = true
  | 1, _, _ => by have e : rowsQ 1 (spl 1) = [] := by decide +kernel
                  rw [e]; exact rank1
  | 2, _, _ => by have e : rowsQ 2 (spl 2) = cuts2 := by decide +kernel
                  rw [e]; exact rank2
  | 3, _, _ => by have e : rowsQ 3 (spl 3) = cuts3 := by decide +kernel
                  rw [e]; exact rank3
  | 4, _, _ => by have e : rowsQ 4 (spl 4) = cuts4 := by decide +kernel
                  rw [e]; exact rank4
theorem rank_poss {n : Nat} {R : Fn2} (h1 : 1 ≤ n) (h4 : n ≤ 4) : rankOk (np n) (rkN n) (rowsQ n (possL n R)) = true := List.all_eq_true.mp (rank_all h1 h4) _ (mem_subl_map _ _ _)
abbrev sRig : Stmt := top 42
abbrev NRg : List Str := ["m", "found", "rows", "split"]
theorem scRig : FnScope NRg ["m"] (defScope sRig) := ⟨rfl, rfl, rfl, by decide +kernel, rfl, by decide +kernel, by decide +kernel⟩
def spRig (c : Cl) (C : Addr) : Sp := fun vs H Q E => ∃ (n : Nat) (R : Fn2) (M : Addr → Prop) (B : Option Addr), Met6 n R ∧ Hc M B H ∧ Paired (IsV c (hid M H) B) vs (metArg (n, R)) ∧
  ((n ≤ 4 ∧ (∃ x, RepW n (cuts n) R x) ∧ ∀ d v H', To B H H' → d = .bl (decide ((possL n R).length ≠ rkN n)) → Is c (hid M H') v d → Q v H') ∨ ((¬ ∃ x, RepW n (cuts n) R x) ∧ Refu C B H E))
theorem ok_Rig {f : Addr} {fd : FuncData} (F : Fun g.K "is_rigid" "is_rigid" sRig f fd) (B : Nb g) (T : Rt c g) (f1 : FgX g 9 "possible_splits" (spPS c C)) (f2 : Fg g 1 "pair_row" (spPairRow c)) (f3 : Fg g 6 "cut_rows" (spCutRows c)) (f4 : Fg g 6 "rank" (spRank c)) (f5 : Mg g 1 c.M "pairs" (spPairs c)) :
    FnOk g.P g.w g.K g.mg g.base (L2.CX g.P g.w) 10 f fd ["m"] (spRig c C) := by
  refine F.okX scRig (fun vs H Q E h => ?_) (fun cdv A outer s H vs Q E hr h => ?_)
  · obtain ⟨n, R, M, Bo, _, _, p, _⟩ := h
    rw [Paired.len p]; rfl
  · obtain ⟨n, R, M, Bo, M6, hc, p, h⟩ := h
    have h8 := M6.met.le
    have key : wSs (fmD g NRg (defScope sRig) scRig.nd ⟨L2.CX g.P g.w, "is_rigid", f, cdv, A, outer, s, H, E⟩) (defBody sRig) { nx := fun _ H' => Q .non H', rt := Q } (L2.start NRg vs) H := by
      obtain ⟨F0, r0⟩ := rs_entry (c := c) (N := NRg) hc p
      replace r0 : RepS c [.da (.met n (mD n R)), .no, .no, .no] _ _ _ _ _ F0 _ := r0
      rcases h with ⟨n4, hex, hQ⟩ | ⟨hno, hE⟩
      · have gs : GS c (fmD g NRg (defScope sRig) scRig.nd ⟨L2.CX g.P g.w, "is_rigid", f, cdv, A, outer, s, H, E⟩) (defBody sRig) [.da (.met n (mD n R)), .no, .no, .no] ⟨fun _ => False, fun d => d = .bl (decide ((possL n R).length ≠ rkN n)), fun _ => False, fun _ => False⟩ := by
          refine gs_cons (g1_asgE (psN 1) (ge_callX (P := fun d => d = tT (possL n R)) f1 hr (ga1 (gv_var 0)) fun ws e M B H vs hc p Q k => ⟨n, R, M, B, M6, hc, by rw [e] at p; exact p, .inl ⟨hex, k⟩⟩) fun d e => ?_)
          subst e
          show GS c _ _ [.da (.met n (mD n R)), .da (tT (possL n R)), .no, .no] _
          have hl : (possL n R).length ≤ (spl n).length := List.length_filter_le _ _
          have hl2 := spl_len5 M6.n5
          refine gs_cons (g1_asgC 2 [("split", 3)] (gc_mapL (ifs := []) (fun _ => true) (cutD1 n) (gi_tupL (l0 := possL n R) (e := tI) (gv_var 1)) (by omega) (fun s hs => gg_name 3) (fun _ _ => gts_nil) fun s hs _ => ge_call f2 (hr.mono (by decide)) (ga2 (gv_mn T.ct (gv_var 0)) (ge_call f3 (hr.mono (by decide)) (ga2 (gv_mn T.ct (gv_var 0)) (gv_var 3)) fun ws e => ⟨(n, s), e.symm, ⟨M6.met.pos, h8, (List.mem_filter.mp hs).1⟩, fun d e => e⟩)) fun ws e => ⟨(n, cutR s), e.symm, h8, fun d e => e⟩) fun ds e => ?_)
          rw [List.filter_eq_self.mpr (fun _ _ => rfl)] at e
          subst e
          have rk := rank_poss (R := R) M6.met.pos n4
          unfold rankOk at rk
          simp only [Bool.and_eq_true, List.all_eq_true, decide_eq_true_eq] at rk
          obtain ⟨⟨rk1, rk2⟩, rk3⟩ := rk
          have e3 : (possL n R).map (cutD1 n) = (rowsQ n (possL n R)).map tR := by
            rw [List.map_map]
            exact List.map_congr_left fun s _ => (tR_prs n (cutR s)).symm
          rw [e3]
          have hnp : np n ≤ 10 := np_le M6.n5
          have hrl : (rowsQ n (possL n R)).length = (possL n R).length := List.length_map _
          have hpl : (prs n fun x y => D.rat (R x y)).length = np n := by rw [prs_rg, rg_len]
          show GS c _ _ [.da (.met n (mD n R)), .da (tT (possL n R)), .da (.lst ((rowsQ n (possL n R)).map tR)), .no] _
          refine gs_cons (g1_ret (gv_eqI (ge_call f4 (hr.mono (by decide)) (ga2 (gv_var 2) (GV.eq (d' := .int (np n : Int)) (gv_lenT B.len (gv_pairs T f5 (hr.mono (by decide)) (gv_var 0) h8)) (by rw [hpl]))) fun ws e => ⟨⟨rowsQ n (possL n R), np n⟩, e.symm, ⟨by show np n ≤ 100; omega, by show (rowsQ n (possL n R)).length ≤ 100; omega, rk1, fun r hr => ⟨(rk2 r hr).1, List.all_eq_true.mpr (rk2 r hr).2⟩⟩, fun d e => e⟩) (gv_len B.len (gv_var 2))) fun d e => ?_)
          subst e
          show D.bl _ = D.bl _
          congr 1
          rw [List.length_map, hrl]
          rw [hrl] at rk3
          have rk4 := beq_iff_eq.mp rk3
          rw [← rk4]
          show decide (((sOf (rowsQ n (possL n R)) (np n)).piv.length : Int) = ((possL n R).length : Int)) = _
          exact decide_eq_decide.mpr (by omega)
        exact gs H M Bo (hid M H) _ H ⟨F0, r0⟩ _ ⟨fun _ _ _ h => h.elim, fun d v H' p e st s => hQ d v H' ⟨e, st⟩ p s, fun _ _ _ h => h.elim, fun _ _ _ h => h.elim⟩
      · obtain ⟨f', fd', ps', F1, hm, hk, hb⟩ := f1
        refine wss_cons ⟨_, fun i => psW 1 (takesD (g := g) rfl) F1 hm hk hb hr (j := i), ?_⟩
        refine ga1 (gv_var 0) (by intro _; rfl) _ _ Bo H r0.v0 r0.hc _ fun ws vs H1 t e s => ?_
        exact ⟨n, R, _, Bo, M6, t.hc r0.hc, by rw [e] at s; exact s, .inr ⟨hno, fun dx H2 t2 nd => hE dx H2 (t.trans t2) nd⟩⟩
    obtain ⟨t, ht, tq⟩ := key
    exact ⟨t, ht (), tq⟩
end K33
end
section
set_option Elab.async false
set_option linter.all false
set_option maxRecDepth 100000
set_option exponentiation.threshold 10000
/-! V1: the law's fractions -/
namespace K33
open PySem L2
variable {c : Cl} {g : Gx}
def qD (q : Rat) : D := .tup [.int q.num, .int q.den]
abbrev sFrac : Stmt := top 47
abbrev sPlus : Stmt := top 48
abbrev sLess : Stmt := top 49
abbrev sWeight : Stmt := top 66
abbrev sLeast : Stmt := top 67
theorem scFrac : FnScope ["_law_n", "_law_d", "_law_g"] ["_law_n", "_law_d"] (defScope sFrac) := ⟨rfl, rfl, rfl, by decide +kernel, rfl, by decide +kernel, by decide +kernel⟩
theorem scPlus : FnScope ["_law_a", "_law_b"] ["_law_a", "_law_b"] (defScope sPlus) := ⟨rfl, rfl, rfl, by decide +kernel, rfl, by decide +kernel, by decide +kernel⟩
theorem scLess : FnScope ["_law_a", "_law_b"] ["_law_a", "_law_b"] (defScope sLess) := ⟨rfl, rfl, rfl, by decide +kernel, rfl, by decide +kernel, by decide +kernel⟩
theorem scWeight : FnScope ["_law_told", "_law_split", "_law_item"] ["_law_told", "_law_split"] (defScope sWeight) := ⟨rfl, rfl, rfl, by decide +kernel, rfl, by decide +kernel, by decide +kernel⟩
theorem scLeast : FnScope ["_law_items", "_law_best", "_law_x"] ["_law_items"] (defScope sLeast) := ⟨rfl, rfl, rfl, by decide +kernel, rfl, by decide +kernel, by decide +kernel⟩
abbrev spFrac (c : Cl) : Sp := spG c (fun p : Int × Int => [.da (.int p.1), .da (.int p.2)]) (fun p => 0 < p.2 ∧ p.2.natAbs < 2 ^ 9000) (fun p d => d = qD (Rat.divInt p.1 p.2))
abbrev arQ2 : Rat × Rat → List Vw := fun q => [.da (qD q.1), .da (qD q.2)]
abbrev spPlus (c : Cl) : Sp := spG c arQ2 (fun q => Sz q.1 ∧ Sz q.2) (fun q d => d = qD (q.1 + q.2))
abbrev spLess (c : Cl) : Sp := spG c arQ2 (fun q => Sz q.1 ∧ Sz q.2) (fun q d => d = .bl (decide (q.1 < q.2)))
theorem ok_frac {f : Addr} {fd : FuncData} (F : Fun g.K "_law_frac" "_law_frac" sFrac f fd) (f1 : Fg g 1 "_law_gcd" (spGcd c)) : Fo g 2 f fd ["_law_n", "_law_d"] (spFrac c) := by
  refine fn_ok F scFrac (fun _ => rfl) fun b ⟨n, d⟩ hr ⟨h0, h1⟩ => ?_
  show GS c _ _ [.da (.int n), .da (.int d), .no] _
  refine gs_cons (g1_ifB (gb_lt (gv_var 1) gv_int) (fun z => ?_) (fun z => gs_nil ?_))
  · have : d < 0 := by simpa using z
    have h0 : 0 < d := h0
    omega
  refine gs_cons (g1_asgE (psN 2) (ge_call f1 hr (ga2 (gv_var 0) (gv_var 1)) fun ws e => ⟨(n, d), e.symm, trivial, fun d e => e⟩) fun x e => ?_)
  subst e
  obtain ⟨c1, c2⟩ := gcd_lt (n := n) (show 0 < d from h0) h1
  show GS c _ _ [.da (.int n), .da (.int d), .da (.int (Int.gcd n d))] _
  refine gs_cons (g1_ret (gv_tup (ds := [.int (n / (Int.gcd n d : Int)), .int (d / (Int.gcd n d : Int))]) (ga2 (gv_fdivW (gv_var 0) (gv_var 2) c1) (gv_fdivW (gv_var 1) (gv_var 2) c2))) fun x e => ?_)
  subst e
  show _ = qD _
  unfold qD
  rw [divInt_n n d h0, divInt_d n d h0]
theorem gv_q0 {X : Fm} {Γ : List Vw} {e : Expr} {pos : Pos} {k : Nat} {kp : Pos} {q : Rat} (h : GV c X e Γ (qD q)) : GV c X (.Subscript e (.Constant (.int 0) k kp) pos) Γ (.int q.num) := gv_ixT h gv_int rfl
theorem gv_q1 {X : Fm} {Γ : List Vw} {e : Expr} {pos : Pos} {k : Nat} {kp : Pos} {q : Rat} (h : GV c X e Γ (qD q)) : GV c X (.Subscript e (.Constant (.int 1) k kp) pos) Γ (.int q.den) := gv_ixT h gv_int rfl
theorem ok_plus {f : Addr} {fd : FuncData} (F : Fun g.K "_law_plus" "_law_plus" sPlus f fd) (f1 : Fg g 2 "_law_frac" (spFrac c)) : Fo g 3 f fd ["_law_a", "_law_b"] (spPlus c) := by
  refine fn_ok F scPlus (fun _ => rfl) fun b ⟨p, q⟩ hr ⟨h0, h1⟩ => ?_
  show GS c _ _ [.da (qD p), .da (qD q)] _
  refine gs_cons (g1_ret (ge_call f1 hr (ga2 (gv_add (gv_mulW (gv_q0 (gv_var 0)) (gv_q1 (gv_var 1)) (mulw h0.1 (natw h1.2))) (gv_mulW (gv_q0 (gv_var 1)) (gv_q1 (gv_var 0)) (mulw h1.1 (natw h0.2)))) (gv_mulW (gv_q1 (gv_var 0)) (gv_q1 (gv_var 1)) (mulw (natw h0.2) (natw h1.2)))) fun ws e => ⟨(_, _), e.symm, ⟨?_, mul_lt (natw h0.2) (natw h1.2)⟩, fun d e => e⟩) fun d e => ?_)
  · show (0 : Int) < _
    have h3 : 0 < (p.den : Int) := by have := p.den_pos; omega
    have h4 : 0 < (q.den : Int) := by have := q.den_pos; omega
    exact Int.mul_pos h3 h4
  · subst e
    show qD _ = qD _
    rw [← rat_add p q]
theorem ok_less {f : Addr} {fd : FuncData} (F : Fun g.K "_law_less" "_law_less" sLess f fd) : Fo g 1 f fd ["_law_a", "_law_b"] (spLess c) := by
  refine fn_ok F scLess (fun _ => rfl) fun b ⟨p, q⟩ hr ⟨h0, h1⟩ => ?_
  show GS c _ _ [.da (qD p), .da (qD q)] _
  refine gs_cons (g1_ret (gv_lt (gv_mulW (gv_q0 (gv_var 0)) (gv_q1 (gv_var 1)) (mulw h0.1 (natw h1.2))) (gv_mulW (gv_q0 (gv_var 1)) (gv_q1 (gv_var 0)) (mulw h1.1 (natw h0.2)))) fun d e => ?_)
  subst e
  show D.bl _ = D.bl _
  congr 1
  refine decide_eq_decide.mpr ?_
  exact (Rat.lt_iff _ _).symm
def wLook (ws : List (List Int × Rat)) (s : List Int) : Rat := ((ws.find? fun p => decide (p.1 = s)).map (·.2)).getD 0
abbrev spWeight (c : Cl) : Sp := spG c (fun p : List (List Int × Rat) × List Int => [.da (.tup (p.1.map wtD)), .da (tI p.2)]) (fun p => p.1.length ≤ 100) (fun p d => d = qD (wLook p.1 p.2))
theorem ok_weight {f : Addr} {fd : FuncData} (T : Rt c g) (F : Fun g.K "_law_weight" "_law_weight" sWeight f fd) : Fo g 1 f fd ["_law_told", "_law_split"] (spWeight c) := by
  refine fn_ok F scWeight (fun _ => rfl) fun b ⟨ws, s⟩ hr hl => ?_
  replace hl : ws.length ≤ 100 := hl
  show GS c _ _ [.da (.tup (ws.map wtD)), .da (tI s), .no] _
  refine gs_cons (g1_for (fun i A => (∃ w, A = [.da (.tup (ws.map wtD)), .da (tI s), w]) ∧ ∀ p ∈ ws.take i, p.1 ≠ s) (gi_tupL (l0 := ws) (e := wtD) (gv_var 0)) ⟨⟨_, rfl⟩, by simp⟩ (fun i d A hi ⟨⟨t, q⟩, h1, h2⟩ ⟨⟨w, e⟩, hno⟩ => ⟨_, tg1_name 2, ?_⟩) fun A ⟨⟨w, e⟩, hno⟩ => ?_)
  · subst e
    subst h2
    show GS c _ _ [.da (.tup (ws.map wtD)), .da (tI s), .da (.tup [tI t, .rat q])] _
    refine gs_cons (g1_ifB (gb_eqTI (s := t) (t := s) hr (gv_ixT (gv_var 2) gv_int rfl) (gv_var 1)) (fun z => ?_) (fun z => gs_nil (gs_nil ?_)))
    · refine gs_cons (g1_ret (gv_tup (ds := [.int q.num, .int q.den]) (ga2 (gv_n T.ct (gv_ixT (gv_var 2) gv_int rfl)) (gv_d T.ct (gv_ixT (gv_var 2) gv_int rfl)))) fun d e => ?_)
      subst e
      show D.tup _ = qD _
      have : wLook ws s = q := by
        unfold wLook
        have ht : t = s := by simpa using z
        have : ws.find? (fun p => decide (p.1 = s)) = some (t, q) := by
          rw [List.find?_eq_some_iff_append]
          refine ⟨by simpa using ht, ws.take i, ws.drop (i + 1), ?_, fun p hp => by simpa using hno p hp⟩
          have : ws[i]? = some (t, q) := h1
          obtain ⟨u1, u2⟩ := List.getElem?_eq_some_iff.mp this
          rw [← u2, List.getElem_cons_drop, List.take_append_drop]
        rw [this]
        rfl
      rw [this]
      rfl
    · refine ⟨⟨_, rfl⟩, ?_⟩
      have : ws[i]? = some (t, q) := h1
      obtain ⟨u1, u2⟩ := List.getElem?_eq_some_iff.mp this
      rw [List.take_add_one, this]
      intro p hp
      rcases List.mem_append.mp hp with hp | hp
      · exact hno p hp
      · have : p = (t, q) := by simpa using hp
        subst this
        simpa using z
  · subst e
    rw [List.take_length] at hno
    refine gs_cons (g1_ret (gv_tup (ds := [.int 0, .int 1]) (ga2 gv_int gv_int)) fun d e => ?_)
    subst e
    show D.tup _ = qD _
    have : wLook ws s = 0 := by
      unfold wLook
      rw [List.find?_eq_none.mpr (fun p hp => by simpa using hno p hp)]
      rfl
    rw [this]
    rfl
end K33
end
section
set_option Elab.async false
set_option linter.all false
set_option maxRecDepth 100000
set_option exponentiation.threshold 10000
/-! V2: the law's small helpers -/
namespace K33
open PySem L2
variable {c : Cl} {g : Gx}
def lmin (l : List Rat) (b : Rat) : Rat := l.foldl (fun b x => if x < b then x else b) b
abbrev spLeast (c : Cl) : Sp := spG c (fun p : Rat × List Rat => [.da (.lst ((p.1 :: p.2).map qD))]) (fun p => p.2.length ≤ 100 ∧ Sz p.1 ∧ ∀ q ∈ p.2, Sz q) (fun p d => d = qD (lmin p.2 p.1))
theorem ok_least {f : Addr} {fd : FuncData} (F : Fun g.K "_law_least" "_law_least" sLeast f fd) (f1 : Fg g 1 "_law_less" (spLess c)) : Fo g 2 f fd ["_law_items"] (spLeast c) := by
  refine fn_ok F scLeast (fun _ => rfl) fun b ⟨q, qs⟩ hr ⟨hl, h0, h1⟩ => ?_
  replace hl : qs.length ≤ 100 := hl
  replace h0 : Sz q := h0
  replace h1 : ∀ r ∈ qs, Sz r := h1
  show GS c _ _ [.da (.lst ((q :: qs).map qD)), .no, .no] _
  refine gs_cons (g1_asgE (psN 1) (gv_ixLn (j := 0) (d := qD q) (gv_var 0) gv_int rfl) fun d e => ?_)
  subst e
  show GS c _ _ [.da (.lst ((q :: qs).map qD)), .da (qD q), .no] _
  refine gs_cons (g1_for (fun i A => (∃ w, A = [.da (.lst ((q :: qs).map qD)), .da (qD (lmin ((q :: qs).take i) q)), w]) ∧ Sz (lmin ((q :: qs).take i) q)) (gi_listL (l0 := q :: qs) (e := qD) (gv_var 0)) ⟨⟨_, rfl⟩, h0⟩ (fun i d A hi ⟨r, hr1, hd⟩ ⟨⟨w, e⟩, hz⟩ => ⟨_, tg1_name 2, ?_⟩) fun A ⟨⟨w, e⟩, hz⟩ => ?_)
  · subst e; subst hd
    have hrz : Sz r := by
      rcases List.mem_cons.mp (List.mem_of_getElem? hr1) with h | h
      · rw [h]; exact h0
      · exact h1 r h
    have et : lmin ((q :: qs).take (i + 1)) q = if r < lmin ((q :: qs).take i) q then r else lmin ((q :: qs).take i) q := by
      rw [List.take_add_one, hr1]
      unfold lmin
      rw [List.foldl_append]
      rfl
    show GS c _ _ [.da (.lst ((q :: qs).map qD)), .da (qD (lmin ((q :: qs).take i) q)), .da (qD r)] _
    refine gs_cons (g1_ifB (gb_val (ge_call f1 hr (ga2 (gv_var 2) (gv_var 1)) fun ws e => ⟨(r, lmin ((q :: qs).take i) q), e.symm, ⟨hrz, hz⟩, fun d e => e⟩)) (fun z => ?_) (fun z => gs_nil (gs_nil ⟨⟨.da (qD r), ?_⟩, ?_⟩)))
    · have z : r < lmin ((q :: qs).take i) q := by simpa using z
      refine gs_cons (g1_asgE (psN 1) (gv_var 2) fun d e => ?_)
      subst e
      refine gs_nil (gs_nil ⟨⟨.da (qD r), ?_⟩, ?_⟩)
      · rw [et, if_pos z]; rfl
      · rw [et, if_pos z]; exact hrz
    · have z : ¬ r < lmin ((q :: qs).take i) q := by simpa using z
      rw [et, if_neg z]
    · have z : ¬ r < lmin ((q :: qs).take i) q := by simpa using z
      rw [et, if_neg z]; exact hz
  · subst e
    rw [List.take_length]
    refine gs_cons (g1_ret (gv_var 1) fun d e => ?_)
    subst e
    show qD _ = qD _
    congr 1
    unfold lmin
    rw [List.foldl_cons, if_neg (Rat.lt_irrefl)]
abbrev sTake : Stmt := top 45
theorem scTake : FnScope ["_law_state_here", "_law_m", "_law_value"] ["_law_state_here", "_law_m"] (defScope sTake) := ⟨rfl, rfl, rfl, by decide +kernel, rfl, by decide +kernel, by decide +kernel⟩
def NtP (P : Nat → Prop) : D → Prop := fun d => ∃ v : Nat, d = .int (v : Int) ∧ P v
abbrev spTake (c : Cl) : Sp := spG c (fun m : Nat => [.st, .da (.int (m : Int))]) (fun m => 0 < m ∧ m ≤ 1000000) (fun m d => NtP (fun v => v < m) d)
theorem mod_np {x : Int} {m : Nat} (h : 0 < m) : ∃ v : Nat, x % (m : Int) = v ∧ v < m := by
  have h1 := Int.emod_nonneg x (b := (m : Int)) (by omega)
  have h2 := Int.emod_lt_of_pos x (b := (m : Int)) (by omega)
  exact ⟨(x % (m : Int)).toNat, by omega, by omega⟩
theorem ok_take {f : Addr} {fd : FuncData} (F : Fun g.K "_law_take" "_law_take" sTake f fd) (B : Nb g) : Fo g 1 f fd ["_law_state_here", "_law_m"] (spTake c) := by
  refine fn_ok F scTake (fun _ => rfl) fun b m hr ⟨h0, h1⟩ => ?_
  show GS c _ _ [.st, .da (.int (m : Int)), .no] _
  refine gs_cons (g1_if (gt_gt (Pk := fun _ => True) (Pb := fun _ => True) (ge_st 0 (.inl rfl)) (ge_ip gv_int trivial) fun _ _ _ _ => trivial) (fun _ => ?_) (fun _ => gs_nil ?_))
  · refine gs_cons (g1_asgE (psN 2) (ge_mod (P := fun s => ∃ v : Nat, s = v ∧ v < m) (Pb := fun s => s = m) (ge_intI B.int (ge_st 0 (.inl rfl))) (ge_ip (gv_var 1) rfl) fun x y _ e => by subst e; exact ⟨by omega, mod_np h0⟩) fun d ⟨s, e, v, e2, hv⟩ => ?_)
    subst e; subst e2
    show GS c _ _ [.st, .da (.int (m : Int)), .da (.int (v : Int))] _
    refine gs_cons (g1_setSt 0 (.inl rfl) rfl (ge_fdiv (Pb := fun s => s = m) (ge_st 0 (.inl rfl)) (ge_ip (gv_var 1) rfl) fun x y hx e => by subst e; exact ⟨⟨by omega, by omega⟩, fun _ => Int.ediv_nonneg (hx rfl) (by omega)⟩) ?_)
    exact gs_cons (g1_ret (gv_var 2) fun d e => ⟨v, e, hv⟩)
  · refine gs_cons (g1_setSt 0 (.inr rfl) rfl (ge_mod (Pa := fun _ => True) (Pb := fun s => s = 2147483647) (ge_intI B.int (ge_add (Pa := fun _ => True) (Pb := fun _ => True) (ge_mul (Pb := fun s => s = 48271) (ge_st 0 (.inr rfl)) (ge_ip gv_int rfl) fun x y _ e => ⟨.inr (by subst e; decide), trivial⟩) (ge_ip gv_int trivial) fun _ _ _ _ => trivial)) (ge_ip gv_int rfl) fun x y _ e => ⟨by subst e; decide, fun z => nomatch z⟩) ?_)
    refine gs_cons (g1_ret (ge_mod (P := fun s => ∃ v : Nat, s = v ∧ v < m) (Pa := fun _ => True) (Pb := fun s => s = m) (ge_intI B.int (ge_fdiv (Pb := fun s => s = 7) (ge_st 0 (.inr rfl)) (ge_ip gv_int rfl) fun x y _ e => ⟨by subst e; exact ⟨by decide, by decide⟩, trivial⟩)) (ge_ip (gv_var 1) rfl) fun x y _ e => by subst e; exact ⟨by omega, mod_np h0⟩) fun d ⟨s, e, v, e2, hv⟩ => ⟨v, by rw [e, e2], hv⟩)
abbrev sFactor : Stmt := top 63
theorem scFactor : FnScope ["_law_state_here"] ["_law_state_here"] (defScope sFactor) := ⟨rfl, rfl, rfl, by decide +kernel, rfl, by decide +kernel, by decide +kernel⟩
def FacP (d : D) : Prop := ∃ a b : Nat, d = .tup [.int (a : Int), .int (b : Int)] ∧ 1 ≤ a ∧ a ≤ 4 ∧ 1 ≤ b ∧ b ≤ 3
abbrev spFactor (c : Cl) : Sp := spG c (fun _ : Unit => [.st]) (fun _ => True) (fun _ d => FacP d)
theorem ge_take {X : Fm} {Γ : List Vw} {x : Str} {p pos tp : Pos} {e : Expr} {m : Nat} (f : Fc X.prog X.w X.K X.mg X.base 1 "_law_take" (spTake c)) (hr : Room 1 X.A) (j : Nat) (he : GV c X e Γ (.int (m : Int))) (h0 : 0 < m) (h1 : m ≤ 1000000) (hΓ : Γ[j]? = some .st := by rfl) (hN : X.N[j]? = some x := by rfl)
    (hv : ∀ i, Vis (X.X i).env.scope x := by first | exact fun _ => Or.inl rfl | exact fun _ => Or.inr (Or.inl rfl) | exact fun _ => Or.inr (Or.inr rfl)) (hd : (x == ("__debug__" : Str)) = false := by decide) (hcd : (x == ("__classdict__" : Str)) = false := by decide)
    (hs : ∀ i, starEach (Expr.Name x p :: [e]) (X.X i).env = (false, eval (Expr.Name x p) (X.X i).env) :: starEach [e] (X.X i).env := by intro _; rfl) (hs2 : ∀ i, starEach [e] (X.X i).env = (false, eval e (X.X i).env) :: starEach [] (X.X i).env := by intro _; rfl)
    (hg : ∀ i, Gl (X.X i) "_law_take" := by intro _; rfl)
    (hpl : ∀ i, (backTo pos (starEach [e] (X.X i).env)).any (·.1) = false := by intro _; rfl) : GE c X (.Call (.Name "_law_take" tp) [.Name x p, e] [] pos) Γ (NtP (fun v => v < m)) :=
  ge_call f hr (ga_consS j (ga1 he hs2) hΓ hN hv hd hcd hs) (fun ws e => ⟨m, e.symm, ⟨h0, h1⟩, fun d e => e⟩) hg (by decide) hs hpl
theorem ok_factor {f : Addr} {fd : FuncData} (F : Fun g.K "_law_factor" "_law_factor" sFactor f fd) (f1 : Fg g 1 "_law_take" (spTake c)) : Fo g 2 f fd ["_law_state_here"] (spFactor c) := by
  refine fn_ok F scFactor (fun _ => rfl) fun b _ hr _ => ?_
  show GS c _ _ [.st] _
  refine gs_cons (g1_ret (ge_tup (ga_cons (ge_add (P := fun s => ∃ a : Nat, s = a ∧ 1 ≤ a ∧ a ≤ 4) (Pa := fun s => s = 1) (Pb := fun s => ∃ v : Nat, s = v ∧ v < 4) (ge_ip gv_int rfl) (GE.imp (ge_take f1 hr 0 (m := 4) gv_int (by decide) (by decide)) fun d ⟨v, e, h⟩ => ⟨v, e, v, rfl, h⟩) fun x y e ⟨v, e2, h⟩ => ⟨1 + v, by subst e e2; simp, by omega, by omega⟩) (ga_cons (ge_add (P := fun s => ∃ a : Nat, s = a ∧ 1 ≤ a ∧ a ≤ 3) (Pa := fun s => s = 1) (Pb := fun s => ∃ v : Nat, s = v ∧ v < 3) (ge_ip gv_int rfl) (GE.imp (ge_take f1 hr 0 (m := 3) gv_int (by decide) (by decide)) fun d ⟨v, e, h⟩ => ⟨v, e, v, rfl, h⟩) fun x y e ⟨v, e2, h⟩ => ⟨1 + v, by subst e e2; simp, by omega, by omega⟩) ga_nil)) fun ws ⟨d, ws1, e1, ⟨s, es, a, ea, a1, a2⟩, d2, ws2, e2, ⟨s2, es2, b, eb, b1, b2⟩, e3⟩ => ⟨[.int (a : Int), .int (b : Int)], ?_, (Nat.le_of_ble_eq_true rfl), a, b, rfl, a1, a2, b1, b2⟩) fun d h => h)
  subst e3 e2 es es2 ea eb e1
  rfl
end K33
end
section
set_option Elab.async false
set_option linter.all false
set_option maxRecDepth 100000
set_option exponentiation.threshold 10000
/-! V3: the law's splits -/
namespace K33
open PySem L2
variable {c : Cl} {g : Gx}
def fnd : Nat → List (List Int)
  | 0 => [[]]
  | i + 1 => fnd i ++ (fnd i).map (· ++ [((i + 1 : Nat) : Int)])
theorem fnd_len : ∀ i, (fnd i).length = 2 ^ i
  | 0 => rfl
  | i + 1 => by rw [fnd, List.length_append, List.length_map, fnd_len i, Nat.pow_succ]; omega
theorem fnd_row : ∀ i s, s ∈ fnd i → s.length ≤ i
  | 0, s, h => by
    have : s = [] := by simpa [fnd] using h
    rw [this]; simp
  | i + 1, s, h => by
    rw [fnd] at h
    rcases List.mem_append.mp h with h | h
    · have := fnd_row i s h; omega
    · obtain ⟨t, ht, rfl⟩ := List.mem_map.mp h
      have := fnd_row i t ht
      simp; omega
theorem fnd_sort : ∀ {n : Nat}, 1 ≤ n → n ≤ 4 → ((fnd (n - 1)).filter fun s => decide ((0 : Int) < (s.length : Int))).mergeSort leP = spl n
  | 1, _, _ => sort_is (by decide +kernel) (by decide +kernel) (by decide +kernel)
  | 2, _, _ => sort_is (by decide +kernel) (by decide +kernel) (by decide +kernel)
  | 3, _, _ => sort_is (by decide +kernel) (by decide +kernel) (by decide +kernel)
  | 4, _, _ => sort_is (by decide +kernel) (by decide +kernel) (by decide +kernel)
abbrev sSplL : Stmt := top 50
theorem scSplL : FnScope ["_law_n", "_law_found", "_law_x", "_law_row"] ["_law_n"] (defScope sSplL) := ⟨rfl, rfl, rfl, by decide +kernel, rfl, by decide +kernel, by decide +kernel⟩
abbrev spSplL (c : Cl) : Sp := spG c (fun n : Nat => [.da (.int (n : Int))]) (fun n => 1 ≤ n ∧ n ≤ 4) (fun n d => d = .lst ((spl n).map tI))
theorem ok_splL {f : Addr} {fd : FuncData} (F : Fun g.K "_law_splits" "_law_splits" sSplL f fd) (B : Nb g) : Fo g 1 f fd ["_law_n"] (spSplL c) := by
  refine fn_ok F scSplL (fun _ => rfl) fun b n hr ⟨h1, h4⟩ => ?_
  replace h4 : n ≤ 4 := h4
  have hn6 : n ≤ 1000000 := by omega
  show GS c _ _ [.da (.int (n : Int)), .no, .no, .no] _
  refine gs_cons (g1_asgE (psN 1) (GL.gv (gl_lst (ds := [tI []]) (ga1 (gv_tup (ds := []) ga_nil)))) fun d e => ?_)
  subst e
  show GS c _ _ [.da (.int (n : Int)), .da (.lst ((fnd 0).map tI)), .no, .no] _
  refine gs_cons (g1_for (fun i A => ∃ w, A = [.da (.int (n : Int)), .da (.lst ((fnd i).map tI)), w, .no]) (gi_range2N (lo := 1) B.range gv_int (gv_var 0) (by decide) hn6) ⟨_, rfl⟩ (fun i d A hi yd ⟨w, e⟩ => ⟨_, tg1_name 2, ?_⟩) fun A ⟨w, e⟩ => ?_)
  · subst e yd
    have hl : (fnd i).length ≤ 8 := by rw [fnd_len]; exact show 2 ^ _ ≤ 2 ^ 3 from Nat.pow_le_pow_right (by decide) (by omega)
    show GS c _ _ [.da (.int (n : Int)), .da (.lst ((fnd i).map tI)), .da (.int ((1 + i : Nat) : Int)), .no] _
    refine gs_cons (g1_asgE (psN 1) (GL.gv (gl_cat (gv_var 1) (GL.gv (gl_mapL [("_law_row", 3)] (fun s => tI (s ++ [((1 + i : Nat) : Int)])) (gi_listL (l0 := fnd i) (e := tI) (gv_var 1)) (by omega) (fun s hs => gg_name 3) fun s hs => GV.eq (gv_catT (xs := s.map .int) (ys := [.int ((1 + i : Nat) : Int)]) (gv_var 3) (gv_tup (ga1 (gv_var 2))) ?_) ?_)) (by rw [List.length_map, List.length_map]; omega))) fun d e => ?_)
    · have := fnd_row i s hs
      rw [List.length_map]; simp; omega
    · show D.tup _ = D.tup _
      rw [List.map_append]; rfl
    · subst e
      refine gs_nil ⟨.da (.int ((1 + i : Nat) : Int)), ?_⟩
      have e : (fnd i).map tI ++ (fnd i).map (fun s => tI (s ++ [((1 + i : Nat) : Int)])) = (fnd (i + 1)).map tI := by
        rw [fnd, List.map_append, List.map_map]
        have : (1 + i : Nat) = i + 1 := by omega
        rw [this]; rfl
      rw [e]; rfl
  · subst e
    have hl : (fnd (n - 1)).length ≤ 8 := by rw [fnd_len]; exact show 2 ^ _ ≤ 2 ^ 3 from Nat.pow_le_pow_right (by decide) (by omega)
    show GS c _ _ [.da (.int (n : Int)), .da (.lst ((fnd (n - 1)).map tI)), w, .no] _
    refine gs_cons (g1_ret (GL.gv (gl_sorted (bs := (fnd (n - 1)).filter fun s => decide ((0 : Int) < (s.length : Int))) hr ?_ ?_ B.sorted (gv_mapLF [("_law_row", 3)] (fun s : List Int => decide ((0 : Int) < (s.length : Int))) tI (gi_listL (l0 := fnd (n - 1)) (e := tI) (gv_var 1)) (by omega) (fun s hs => gg_name 3) (fun s hs => gts_one (GB.eq (gb_gt (gv_lenT B.len (gv_var 3)) gv_int) (by rw [List.length_map]))) fun s hs _ => gv_var 3))) fun d e => ?_)
    · have := List.length_filter_le (fun s : List Int => decide ((0 : Int) < (s.length : Int))) (fnd (n - 1))
      omega
    · intro s hs z
      subst z
      have := (List.mem_filter.mp hs).2
      simp at this
    · subst e
      show D.lst _ = D.lst _
      rw [fnd_sort h1 h4]
/-! ### rows of ints as functions -/
abbrev F2 : Type := Nat → Nat → Int
def lrowD (n : Nat) (f : Nat → Int) : D := .tup (rg n fun y => .int (f y))
def lrowsD (n : Nat) (f : F2) : D := .lst (rg n fun x => lrowD n (f x))
abbrev sApL : Stmt := top 53
theorem scApL : FnScope ["_law_rows_here", "_law_x", "_law_y"] ["_law_rows_here"] (defScope sApL) := ⟨rfl, rfl, rfl, by decide +kernel, rfl, by decide +kernel, by decide +kernel⟩
def apL (n : Nat) (f : F2) : Prop := ∀ x y, x < n → y < n → y ≠ x → f x y ≠ 0
abbrev arR : Nat × F2 → List Vw := fun p => [.da (lrowsD p.1 p.2)]
abbrev spApL (c : Cl) : Sp := spG c arR (fun p => p.1 ≤ 8) (fun p d => ∃ k, d = .bl k ∧ (k = true ↔ apL p.1 p.2))
theorem ok_apL {f : Addr} {fd : FuncData} (F : Fun g.K "_law_is_apart" "_law_is_apart" sApL f fd) (B : Nb g) : Fo g 1 f fd ["_law_rows_here"] (spApL c) := by
  refine fn_ok F scApL (fun _ => rfl) fun b ⟨n, R⟩ hr h8 => ?_
  replace h8 : n ≤ 8 := h8
  have hn6 : n ≤ 1000000 := by omega
  show GS c _ _ [.da (lrowsD n R), .no, .no] _
  let b2 : Nat → Nat → Bool := fun x y => (!decide ((y : Int) = (x : Int))) && decide (R x y = 0)
  let b1 : Nat → Bool := fun x => decide ((0 : Int) < ((((List.range n).filter (b2 x)).map fun y : Nat => D.int (y : Int)).length : Int))
  refine gs_cons (g1_ret (gv_eqI (gv_len B.len (gv_fn [("_law_x", 1)] b1 (fun x => .int (x : Int)) (gi_range1 B.range (GV.eq (d' := .int (n : Int)) (gv_len (ds := rg n fun x => lrowD n (R x)) B.len (gv_var 0)) (by rw [rg_len])) hn6) (by omega) (fun x hx => gg_name 1)
    (fun x hx => gts_one (gb_gt (gv_len B.len (gv_fn [("_law_y", 2)] (b2 x) (fun y => .int (y : Int)) (gi_range1 B.range (GV.eq (d' := .int (n : Int)) (gv_len (ds := rg n fun x => lrowD n (R x)) B.len (gv_var 0)) (by rw [rg_len])) hn6) (by omega) (fun y hy => gg_name 2) (fun y hy => gts_one (gb_and (gb_neI (gv_var 2) (gv_var 1)) fun _ => gb_eqI (gv_ixTn (gv_ixLn (gv_var 0) (gv_var 1) (rg_at hx)) (gv_var 2) (rg_at hy)) gv_int)) fun y hy _ => gv_var 2)) gv_int)) fun x hx _ => gv_var 1)) gv_int) fun d e => ⟨_, e, ?_⟩)
  show decide (((((List.range n).filter b1).map fun x : Nat => D.int (x : Int)).length : Int) = 0) = true ↔ _
  rw [decide_eq_true_iff]
  have e0 : ∀ (p : Nat → Bool) (h : Nat → D), (((((List.range n).filter p).map h).length : Int) = 0) ↔ ∀ x, x < n → p x = false := fun p h => by
    rw [List.length_map]
    constructor
    · intro z x hx
      have z : (List.range n).filter p = [] := List.length_eq_zero_iff.mp (by omega)
      have := List.filter_eq_nil_iff.mp z x (List.mem_range.mpr hx)
      simpa using this
    · intro z
      rw [List.filter_eq_nil_iff.mpr (fun x hx => by rw [z x (List.mem_range.mp hx)]; simp)]
      rfl
  rw [e0]
  have e1 : ∀ x, b1 x = false ↔ ∀ y, y < n → b2 x y = false := fun x => by
    rw [← e0 (b2 x) fun y : Nat => D.int (y : Int)]
    show decide _ = false ↔ _
    rw [decide_eq_false_iff_not]
    omega
  constructor
  · intro h x y hx hy hxy z
    have := (e1 x).mp (h x hx) y hy
    have hn : ¬ ((y : Int) = (x : Int)) := by omega
    have z : R x y = 0 := z
    simp [b2, hn, z] at this
  · intro h x hx
    refine (e1 x).mpr fun y hy => ?_
    by_cases hxy : y = x
    · simp [b2, hxy]
    · have := h x y hx hy hxy
      simp [b2, this]
end K33
end
section
set_option Elab.async false
set_option linter.all false
/-! A5: Floyd-Warshall on int rows -/
namespace K33
structure Pm (n : Nat) (f : Nat → Nat → Int) : Prop where
  sym : ∀ x y, x < n → y < n → f x y = f y x
  dia : ∀ x, x < n → f x x = 0
  nn : ∀ x y, x < n → y < n → 0 ≤ f x y
  le : ∀ x y, x < n → y < n → f x y ≤ 100000
structure Mt (n : Nat) (f : Nat → Nat → Int) : Prop extends Pm n f where
  tri : ∀ x y z, x < n → y < n → z < n → f x z ≤ f x y + f y z
def fwS (f : Nat → Nat → Int) (k x y : Nat) : Int := if f x k + f k y < f x y then f x k + f k y else f x y
def fw (f : Nat → Nat → Int) : Nat → Nat → Nat → Int
  | 0 => f
  | k + 1 => fwS (fw f k) k
theorem fwS_le (f : Nat → Nat → Int) (k x y : Nat) : fwS f k x y ≤ f x y := by
  unfold fwS
  split <;> omega
theorem fwS_le2 (f : Nat → Nat → Int) (k x y : Nat) : fwS f k x y ≤ f x k + f k y := by
  unfold fwS
  split <;> omega
theorem fwS_cases (f : Nat → Nat → Int) (k x y : Nat) : fwS f k x y = f x y ∨ fwS f k x y = f x k + f k y := by
  unfold fwS
  split
  · right; rfl
  · left; rfl
theorem Pm.step {n k : Nat} {f : Nat → Nat → Int} (h : Pm n f) (hk : k < n) : Pm n (fwS f k) := by
  refine ⟨fun x y hx hy => ?_, fun x hx => ?_, fun x y hx hy => ?_, fun x y hx hy => ?_⟩
  · unfold fwS
    rw [h.sym x y hx hy, h.sym x k hx hk, h.sym k y hk hy, Int.add_comm]
  · have h1 := h.nn x k hx hk
    have h2 := h.nn k x hk hx
    have h3 := h.dia x hx
    rcases fwS_cases f k x x with e | e
    · rw [e, h3]
    · unfold fwS at e ⊢
      split <;> omega
  · have h1 := h.nn x k hx hk
    have h2 := h.nn k y hk hy
    have h3 := h.nn x y hx hy
    rcases fwS_cases f k x y with e | e <;> omega
  · have h1 := h.le x y hx hy
    have h2 := fwS_le f k x y
    omega
theorem tri_step {n k : Nat} {f : Nat → Nat → Int} (h : Pm n f) (hk : k < n) (ht : ∀ z, z < k → ∀ x y, x < n → y < n → f x y ≤ f x z + f z y) : ∀ z, z < k + 1 → ∀ x y, x < n → y < n → fwS f k x y ≤ fwS f k x z + fwS f k z y := by
  intro z hz x y hx hy
  have hzn : z < n := by omega
  have hkk := h.dia k hk
  have a1 := fwS_le f k x y
  have a2 := fwS_le2 f k x y
  have n1 := h.nn k z hk hzn
  have n2 := h.nn z k hzn hk
  rcases Nat.lt_succ_iff_lt_or_eq.mp hz with hz | rfl
  · have t1 := ht z hz x y hx hy
    have t2 := ht z hz x k hx hk
    have t3 := ht z hz k y hk hy
    rcases fwS_cases f k x z with e1 | e1 <;> rcases fwS_cases f k z y with e2 | e2 <;> omega
  · rcases fwS_cases f z x z with e1 | e1 <;> rcases fwS_cases f z z y with e2 | e2 <;> omega
theorem fw_pm {n : Nat} {f : Nat → Nat → Int} (h : Pm n f) : ∀ k, k ≤ n → Pm n (fw f k)
  | 0, _ => h
  | k + 1, hk => (fw_pm h k (by omega)).step (by omega)
theorem fw_tri {n : Nat} {f : Nat → Nat → Int} (h : Pm n f) : ∀ k, k ≤ n → ∀ z, z < k → ∀ x y, x < n → y < n → fw f k x y ≤ fw f k x z + fw f k z y
  | 0, _, z, hz => by omega
  | k + 1, hk, z, hz => tri_step (fw_pm h k (by omega)) (by omega) (fw_tri h k (by omega)) z hz
theorem fw_mt {n : Nat} {f : Nat → Nat → Int} (h : Pm n f) : Mt n (fw f n) := ⟨fw_pm h n (Nat.le_refl _), fun x y z hx hy hz => fw_tri h n (Nat.le_refl _) y hy x z hx hz⟩
/-- the rows in the midst of phase k: rows before x are done, in row x the places before y -/
def fwM (f : Nat → Nat → Int) (k x y a b : Nat) : Int := if a < x ∨ (a = x ∧ b < y) then fwS f k a b else f a b
theorem fwS_col {n k : Nat} {f : Nat → Nat → Int} (h : Pm n f) (hk : k < n) {x : Nat} (hx : x < n) : fwS f k x k = f x k ∧ fwS f k k x = f k x := by
  have := h.dia k hk
  unfold fwS
  constructor
  · split <;> omega
  · split <;> omega
theorem fwM_col {n k : Nat} {f : Nat → Nat → Int} (h : Pm n f) (hk : k < n) {x y a : Nat} (ha : a < n) : fwM f k x y a k = f a k ∧ fwM f k x y k a = f k a := by
  unfold fwM
  constructor
  · split
    · exact (fwS_col h hk ha).1
    · rfl
  · split
    · exact (fwS_col h hk ha).2
    · rfl
theorem fwM_here (f : Nat → Nat → Int) (k x y : Nat) : fwM f k x y x y = f x y := by
  unfold fwM
  rw [if_neg (by omega)]
theorem fwM_put (f : Nat → Nat → Int) (k x y a b : Nat) : (if a = x ∧ b = y then fwS f k x y else fwM f k x y a b) = fwM f k x (y + 1) a b := by
  unfold fwM
  by_cases h : a = x ∧ b = y
  · rw [if_pos h, if_pos (.inr ⟨h.1, by omega⟩), h.1, h.2]
  · rw [if_neg h]
    by_cases h2 : a < x ∨ (a = x ∧ b < y)
    · rw [if_pos h2, if_pos (by omega)]
    · rw [if_neg h2, if_neg (by omega)]
theorem fwM_row {n : Nat} (f : Nat → Nat → Int) (k x a b : Nat) (hb : b < n) : fwM f k x n a b = fwM f k (x + 1) 0 a b := by
  unfold fwM
  by_cases h2 : a < x ∨ (a = x ∧ b < n)
  · rw [if_pos h2, if_pos (by omega)]
  · rw [if_neg h2, if_neg (by omega)]
theorem fwM_0 (f : Nat → Nat → Int) (k a b : Nat) : fwM f k 0 0 a b = f a b := by
  unfold fwM
  rw [if_neg (by omega)]
theorem fwM_n {n : Nat} (f : Nat → Nat → Int) (k a b : Nat) (ha : a < n) : fwM f k n 0 a b = fwS f k a b := by
  unfold fwM
  rw [if_pos (by omega)]
end K33
end
section
set_option Elab.async false
set_option linter.all false
set_option maxRecDepth 100000
set_option exponentiation.threshold 10000
/-! V4: the law's row helpers -/
namespace K33
open PySem L2
variable {c : Cl} {g : Gx}
abbrev sRen : Stmt := top 57
theorem scRen : FnScope ["_law_rows_here", "_law_order", "_law_x", "_law_y"] ["_law_rows_here", "_law_order"] (defScope sRen) := ⟨rfl, rfl, rfl, by decide +kernel, rfl, by decide +kernel, by decide +kernel⟩
structure RenA where
  m : Nat
  f : F2
  n : Nat
  o : Nat → Nat
def ordD (n : Nat) (o : Nat → Nat) : D := .lst (rg n fun i => .int (o i : Int))
abbrev spRen (c : Cl) : Sp := spG c (fun p : RenA => [.da (lrowsD p.m p.f), .da (ordD p.n p.o)]) (fun p => p.n ≤ 100 ∧ ∀ i, i < p.n → p.o i < p.m) (fun p d => d = lrowsD p.n fun x y => p.f (p.o x) (p.o y))
theorem ok_ren {f : Addr} {fd : FuncData} (F : Fun g.K "_law_renamed" "_law_renamed" sRen f fd) (B : Nb g) : Fo g 1 f fd ["_law_rows_here", "_law_order"] (spRen c) := by
  refine fn_ok F scRen (fun _ => rfl) fun b ⟨m, R, n, o⟩ hr ⟨h8, ho⟩ => ?_
  replace h8 : n ≤ 100 := h8
  replace ho : ∀ i, i < n → o i < m := ho
  show GS c _ _ [.da (lrowsD m R), .da (ordD n o), .no, .no] _
  refine gs_cons (g1_ret (gv_map [("_law_x", 2)] (fun x => lrowD n fun y => R (o x) (o y)) (gi_listR (n := n) (f := fun i => .int (o i : Int)) (gv_var 1)) (by omega) (fun x hx => gg_name 2) fun x hx => gv_tupleOf B.tuple (gv_map [("_law_y", 3)] (fun y => .int (R (o x) (o y))) (gi_listR (n := n) (f := fun i => .int (o i : Int)) (gv_var 1)) (by omega) (fun y hy => gg_name 3) fun y hy => gv_ixTn (gv_ixLn (gv_var 0) (gv_var 2) (rg_at (ho x hx))) (gv_var 3) (rg_at (ho y hy)))) fun d e => ?_)
  subst e
  rfl
abbrev sRat : Stmt := top 64
theorem scRat : FnScope ["_law_rows_here", "_law_factor_here", "_law_row", "_law_x"] ["_law_rows_here", "_law_factor_here"] (defScope sRat) := ⟨rfl, rfl, rfl, by decide +kernel, rfl, by decide +kernel, by decide +kernel⟩
structure RatA where
  n : Nat
  f : F2
  a : Nat
  b : Nat
def ratR (f : F2) (a b : Nat) : Fn2 := fun x y => Rat.divInt (f x y * (a : Int)) (b : Int)
abbrev spRat (c : Cl) : Sp := spG c (fun p : RatA => [.da (lrowsD p.n p.f), .da (.tup [.int (p.a : Int), .int (p.b : Int)])]) (fun p => p.n ≤ 8 ∧ 1 ≤ p.a ∧ p.a ≤ 4 ∧ 1 ≤ p.b ∧ p.b ≤ 3) (fun p d => d = .tup (mD p.n (ratR p.f p.a p.b)))
theorem ok_rat {f : Addr} {fd : FuncData} (F : Fun g.K "_law_ratios" "_law_ratios" sRat f fd) (B : Nb g) (T : Rt c g) : Fo g 3 f fd ["_law_rows_here", "_law_factor_here"] (spRat c) := by
  refine fn_ok F scRat (fun _ => rfl) fun b ⟨n, R, a, d⟩ hr ⟨h8, a1, a4, b1, b3⟩ => ?_
  replace h8 : n ≤ 8 := h8
  replace a1 : 1 ≤ a := a1
  replace a4 : a ≤ 4 := a4
  replace b1 : 1 ≤ d := b1
  replace b3 : d ≤ 3 := b3
  show GS c _ _ [.da (lrowsD n R), .da (.tup [.int (a : Int), .int (d : Int)]), .no, .no] _
  refine gs_cons (g1_ret (gv_tupleOf B.tuple (gv_map [("_law_row", 2)] (fun x => .tup (rg n fun y => .rat (ratR R a d x y))) (gi_listR (n := n) (f := fun x => lrowD n (R x)) (gv_var 0)) (by omega) (fun x hx => gg_name 2) fun x hx => gv_tupleOf B.tuple (gv_map [("_law_x", 3)] (fun y => .rat (ratR R a d x y)) (gi_tupR (n := n) (f := fun y => .int (R x y)) (gv_var 2)) (by omega) (fun y hy => gg_name 3) fun y hy => gv_ratio T.mr (hr.mono (by decide)) (gv_mul (gv_var 3) (gv_ixT (gv_var 1) gv_int rfl) (.inr ⟨by omega, by omega⟩)) (gv_ixT (gv_var 1) gv_int rfl) (by omega) ?_))) fun d e => e)
  rw [Int.natAbs_natCast]
  exact Nat.lt_of_le_of_lt b3 (Nat.lt_of_lt_of_le (show 3 < 2 ^ 2 by decide) (Nat.pow_le_pow_right (by decide) (by decide)))
abbrev sSho : Stmt := top 55
theorem scSho : FnScope ["_law_rows_here", "_law_n", "_law_found", "_law_k", "_law_x", "_law_y", "_law_row"] ["_law_rows_here"] (defScope sSho) := ⟨rfl, rfl, rfl, by decide +kernel, rfl, by decide +kernel, by decide +kernel⟩
abbrev mmF (n : Nat) (f : F2) : Sl := .mm (mI (rg n fun x => rg n (f x)))
theorem mmF_congr {n : Nat} {f f' : F2} (h : ∀ x y, x < n → y < n → f x y = f' x y) : mmF n f = mmF n f' := by
  have e : (rg n fun x => rg n (f x)) = rg n fun x => rg n (f' x) := rg_congr fun x hx => rg_congr fun y hy => h x y hx hy
  unfold mmF
  rw [e]
theorem mmF_set {n : Nat} {f : F2} {x y : Nat} {v : Int} : (.mm (mI ((rg n fun x => rg n (f x)).set x ((rg n (f x)).set y v))) : Sl) = mmF n fun a b => if a = x ∧ b = y then v else f a b := by
  have e : (rg n fun x => rg n (f x)).set x ((rg n (f x)).set y v) = rg n fun a => rg n fun b => if a = x ∧ b = y then v else f a b := by
    rw [rg_set]
    refine rg_congr fun a ha => ?_
    by_cases h : a = x
    · subst h
      rw [if_pos rfl, rg_set]
      refine rg_congr fun b hb => ?_
      by_cases h2 : b = y <;> simp [h2]
    · rw [if_neg h]
      refine rg_congr fun b hb => ?_
      rw [if_neg (fun z => h z.1)]
  rw [e]
theorem mmF_data {n : Nat} {f : F2} : D.lst ((mI (rg n fun x => rg n (f x))).map .lst) = .lst (rg n fun x => .lst (rg n fun y => .int (f x y))) := by
  unfold mI lI
  rw [rg_map, rg_map]
  congr 1
  exact rg_congr fun x hx => by rw [rg_map]
def llD (n : Nat) (f : F2) : D := .lst (rg n fun x => .lst (rg n fun y => .int (f x y)))
abbrev arL : Nat × F2 → List Vw := fun p => [.da (llD p.1 p.2)]
abbrev spSho (c : Cl) : Sp := spG c arL (fun p => p.1 ≤ 8 ∧ Pm p.1 p.2) (fun p d => d = lrowsD p.1 (fw p.2 p.1))
theorem mm_at {n : Nat} {f : F2} {x : Nat} (h : x < n) : ((mI (rg n fun x => rg n (f x))).map D.lst)[x]? = some (.lst (rg n fun y => .int (f x y))) := by
  unfold mI lI
  rw [rg_map, rg_map, rg_at h, rg_map]
section
variable {X : Fm} {Γ : List Vw} {e1 e2 : Expr} {x : Str} {p p1 p2 : Pos}
/-- found[x][y] -/
theorem gv_mm (j : Nat) {n a b : Nat} {f : F2} (ha : a < n) (hb : b < n) (h1 : GV c X e1 Γ (.int (a : Int))) (h2 : GV c X e2 Γ (.int (b : Int))) (hΓ : Γ[j]? = some (.da (.lst ((mI (rg n fun x => rg n (f x))).map .lst))) := by rfl) (hN : X.N[j]? = some x := by rfl) (hv : ∀ i, Vis (X.X i).env.scope x := by first | exact fun _ => Or.inl rfl | exact fun _ => Or.inr (Or.inl rfl) | exact fun _ => Or.inr (Or.inr rfl))
    (hd : (x == ("__debug__" : Str)) = false := by decide) (hcd : (x == ("__classdict__" : Str)) = false := by decide) (hs : PlainIx e1 := by exact fun _ _ => rfl) (hs2 : PlainIx e2 := by exact fun _ _ => rfl) : GV c X (.Subscript (.Subscript (.Name x p) e1 p1) e2 p2) Γ (.int (f a b)) :=
  gv_ixLn (gv_ixLn (gv_var j hΓ hN hv hd hcd) h1 (mm_at ha) hs) h2 (rg_at hb) hs2
end
theorem ok_sho {f : Addr} {fd : FuncData} (F : Fun g.K "_law_shortest" "_law_shortest" sSho f fd) (B : Nb g) : Fo g 1 f fd ["_law_rows_here"] (spSho c) := by
  refine fn_ok F scSho (fun _ => rfl) fun b ⟨n, R⟩ hr ⟨h8, hP⟩ => ?_
  replace h8 : n ≤ 8 := h8
  replace hP : Pm n R := hP
  have hn6 : n ≤ 1000000 := by omega
  show GS c _ _ [.da (llD n R), .no, .no, .no, .no, .no, .no] _
  refine gs_cons (g1_asgE (psN 1) (GV.eq (d' := .int (n : Int)) (gv_len (ds := rg n fun x => .lst (rg n fun y => .int (R x y))) B.len (gv_var 0)) (by rw [rg_len])) fun d e => ?_)
  subst e
  show GS c _ _ [.da (llD n R), .da (.int (n : Int)), .no, .no, .no, .no, .no] _
  refine gs_cons (g1_asgMM 2 [("_law_row", 6)] (gm_map (fun x => rg n (R x)) (gi_listR (n := n) (f := fun x => .lst (rg n fun y => .int (R x y))) (gv_var 0)) (by omega) (fun x hx => gg_name 6) fun x hx => GL.imp (gl_listOf (.inl rfl) B.list (gv_var 6)) fun ds e => by rw [e]; unfold lI; rw [rg_map]) fun rs e => ?_)
  subst e
  show GS c _ _ [.da (llD n R), .da (.int (n : Int)), mmF n R, .no, .no, .no, .no] _
  refine gs_cons (g1_for (fun k A => ∃ w1 w2 w3, A = [.da (llD n R), .da (.int (n : Int)), mmF n (fw R k), w1, w2, w3, .no]) (gi_range1 B.range (gv_var 1) hn6) ⟨_, _, _, rfl⟩ (fun k d A hk yd ⟨w1, w2, w3, e⟩ => ⟨_, tg1_name 3, ?_⟩) fun A ⟨w1, w2, w3, e⟩ => ?_)
  · subst e yd
    have hPk := fw_pm hP k (by omega)
    show GS c _ _ [.da (llD n R), .da (.int (n : Int)), mmF n (fw R k), .da (.int (k : Int)), w2, w3, .no] _
    refine gs_cons (g1_for (fun x A => ∃ w2 w3, A = [.da (llD n R), .da (.int (n : Int)), mmF n (fwM (fw R k) k x 0), .da (.int (k : Int)), w2, w3, .no]) (gi_range1 B.range (gv_var 1) hn6) ⟨w2, w3, by rw [mmF_congr fun a b _ _ => fwM_0 (fw R k) k a b]⟩ (fun x d A hx yd ⟨w2, w3, e⟩ => ⟨_, tg1_name 4, ?_⟩) fun A ⟨w2, w3, e⟩ => gs_nil ?_)
    · subst e yd
      show GS c _ _ [.da (llD n R), .da (.int (n : Int)), mmF n (fwM (fw R k) k x 0), .da (.int (k : Int)), .da (.int (x : Int)), w3, .no] _
      refine gs_cons (g1_for (fun y A => ∃ w3, A = [.da (llD n R), .da (.int (n : Int)), mmF n (fwM (fw R k) k x y), .da (.int (k : Int)), .da (.int (x : Int)), w3, .no]) (gi_range1 B.range (gv_var 1) hn6) ⟨_, rfl⟩ (fun y d A hy yd ⟨w3, e⟩ => ⟨_, tg1_name 5, ?_⟩) fun A ⟨w3, e⟩ => gs_nil ?_)
      · subst e yd
        show GS c _ _ [.da (llD n R), .da (.int (n : Int)), mmF n (fwM (fw R k) k x y), .da (.int (k : Int)), .da (.int (x : Int)), .da (.int (y : Int)), .no] _
        refine gs_cons (g1_setMM 2 (rs := rg n fun a => rg n (fwM (fw R k) k x y a)) (r := rg n (fwM (fw R k) k x y x)) (P := fun u => u = fwS (fw R k) k x y) rfl (GE.imp (gv_min B.min (gv_mm 2 hx hy (gv_var 4) (gv_var 5)) (gv_add (gv_mm 2 hx hk (gv_var 4) (gv_var 3)) (gv_mm 2 hk hy (gv_var 3) (gv_var 5)))) fun d e => ⟨_, e, ?_⟩) (gv_var 4) (gv_var 5) (rg_at hx) (by rw [rg_len]; exact hy) fun u eu => ?_)
        · rw [fwM_here, (fwM_col hPk hk hx).1, (fwM_col hPk hk hy).2]
          rfl
        · refine gs_nil ⟨.da (.int (y : Int)), ?_⟩
          show [_, _, Sl.mm _, _, _, _, _] = _
          rw [mmF_set, eu, mmF_congr fun a b _ _ => fwM_put (fw R k) k x y a b]
      · subst e
        refine ⟨.da (.int (x : Int)), w3, ?_⟩
        rw [mmF_congr fun a b _ hb => fwM_row (fw R k) k x a b hb]
    · subst e
      refine ⟨.da (.int (k : Int)), w2, w3, ?_⟩
      rw [mmF_congr fun a b ha _ => fwM_n (fw R k) k a b ha]
      rfl
  · subst e
    refine gs_cons (g1_ret (gv_map [("_law_row", 6)] (fun x => lrowD n (fw R n x)) (gi_listR (n := n) (f := fun x => .lst (rg n fun y => .int (fw R n x y))) (GV.eq (gv_var 2) mmF_data)) (by omega) (fun x hx => gg_name 6) fun x hx => gv_tupleOf B.tuple (gv_var 6)) fun d e => ?_)
    subst e
    rfl
end K33
end
section
set_option Elab.async false
set_option linter.all false
set_option maxRecDepth 100000
set_option exponentiation.threshold 10000
/-! V5: the law's makers of rows -/
namespace K33
open PySem L2
variable {c : Cl} {g : Gx}
abbrev sOrd : Stmt := top 54
theorem scOrd : FnScope ["_law_state_here", "_law_n", "_law_left", "_law_found", "_law_k"] ["_law_state_here", "_law_n"] (defScope sOrd) := ⟨rfl, rfl, rfl, by decide +kernel, rfl, by decide +kernel, by decide +kernel⟩
def OrdP (n : Nat) (d : D) : Prop := ∃ o : Nat → Nat, d = ordD n o ∧ (∀ i, i < n → o i < n) ∧ ∀ i j, i < n → j < n → o i = o j → i = j
abbrev arS : Nat → List Vw := fun n => [.st, .da (.int (n : Int))]
abbrev spOrd (c : Cl) : Sp := spG c arS (fun n => n ≤ 100) (fun n d => OrdP n d)
def nI (l : List Nat) : List D := l.map fun (i : Nat) => D.int (i : Int)
theorem eraseIdx_map' {α β : Type} (f : α → β) : ∀ (l : List α) (k : Nat), (l.map f).eraseIdx k = (l.eraseIdx k).map f
  | [], _ => rfl
  | _ :: _, 0 => rfl
  | x :: l, k + 1 => by rw [List.map_cons, List.eraseIdx_cons_succ, List.eraseIdx_cons_succ, List.map_cons, eraseIdx_map' f l k]
theorem eraseIdx_perm {α : Type} : ∀ (l : List α) (k : Nat) (h : k < l.length), (l[k] :: l.eraseIdx k).Perm l
  | x :: l, 0, _ => List.Perm.refl _
  | x :: l, k + 1, h => by
    rw [List.eraseIdx_cons_succ, List.getElem_cons_succ]
    exact (List.Perm.swap _ _ _).trans (List.Perm.cons _ (eraseIdx_perm l k (by simpa using h)))
theorem eraseIdx_nI (l : List Nat) (k : Nat) : (nI l).eraseIdx k = nI (l.eraseIdx k) := eraseIdx_map' _ l k
theorem ord_of {n : Nat} {l : List Nat} (h : l.Perm (List.range n)) : OrdP n (.lst (nI l)) := by
  have hl : l.length = n := by rw [h.length_eq, List.length_range]
  refine ⟨fun i => l.getD i 0, ?_, fun i hi => ?_, fun i j hi hj e => ?_⟩
  · unfold ordD nI
    congr 1
    have := rg_of l 0
    rw [hl] at this
    conv => lhs; rw [this]
    rw [rg_map]
  · have hm : l.getD i 0 ∈ l := by
      rw [List.getD_eq_getElem?_getD, List.getElem?_eq_getElem (by omega)]
      exact List.getElem_mem _
    exact List.mem_range.mp (h.mem_iff.mp hm)
  · have nd : l.Nodup := h.nodup_iff.mpr List.nodup_range
    simp only [List.getD_eq_getElem?_getD] at e
    rw [List.getElem?_eq_getElem (by omega), List.getElem?_eq_getElem (by omega)] at e
    have e : l[i]'(by omega) = l[j]'(by omega) := e
    have pw := List.pairwise_iff_getElem.mp nd
    rcases Nat.lt_trichotomy i j with w | w | w
    · exact absurd e (pw i j (by omega) (by omega) w)
    · exact w
    · exact absurd e.symm (pw j i (by omega) (by omega) w)
theorem ok_ord {f : Addr} {fd : FuncData} (F : Fun g.K "_law_order_of" "_law_order_of" sOrd f fd) (B : Nb g) (f1 : Fg g 1 "_law_take" (spTake c)) : Fo g 2 f fd ["_law_state_here", "_law_n"] (spOrd c) := by
  refine fn_ok F scOrd (fun _ => rfl) fun b n hr h8 => ?_
  replace h8 : n ≤ 100 := h8
  have hn6 : n ≤ 1000000 := by omega
  show GS c _ _ [.st, .da (.int (n : Int)), .no, .no, .no] _
  refine gs_cons (g1_asgL (psN 2) (gl_listRg B.list B.range (gv_var 1) hn6) fun ds e => ?_)
  subst e
  refine gs_cons (g1_asgL (psN 3) (gl_lst (ds := []) ga_nil) fun ds e => ?_)
  subst e
  show GS c _ _ [.st, .da (.int (n : Int)), .mu (nI (List.range n)), .mu (nI []), .no] _
  refine gs_cons (g1_for (fun i A => ∃ (L Fo : List Nat) (w : Sl), A = [.st, .da (.int (n : Int)), .mu (nI L), .mu (nI Fo), w] ∧ (Fo ++ L).Perm (List.range n) ∧ Fo.length = i ∧ L.length = n - i) (gi_range1 B.range (gv_var 1) hn6) ⟨List.range n, [], _, rfl, List.Perm.refl _, rfl, by simp⟩ (fun k d A hk yd ⟨L, Fo, w, e, hp, hf, hL⟩ => ⟨_, tg1_name 4, ?_⟩) fun A ⟨L, Fo, w, e, hp, hf, hL⟩ => ?_)
  · subst e yd
    show GS c _ _ [.st, .da (.int (n : Int)), .mu (nI L), .mu (nI Fo), .da (.int (k : Int))] _
    refine gs_cons (g1_appendP 3 rfl (gp_pop 2 (Pe := NtP (fun v => v < L.length)) rfl (ge_take f1 hr 0 (m := L.length) (GV.eq (gv_len (ds := nI L) B.len (gv_var 2)) (by unfold nI; rw [List.length_map])) (by omega) (by omega)) (by unfold nI; rw [List.length_map]; omega) (fun d ⟨v, e, h⟩ => ⟨v, e, by unfold nI; rw [List.length_map]; exact h⟩)) (by unfold nI; rw [List.length_map]; omega) fun d A' ⟨v, ek, hv, hd, eA⟩ => ⟨by subst eA; rfl, gs_nil ?_⟩)
    subst eA
    have hv' : v < L.length := by unfold nI at hv; rwa [List.length_map] at hv
    have hd' : d = .int ((L[v]'hv' : Nat) : Int) := by
      unfold nI at hd
      rw [List.getElem?_map, List.getElem?_eq_getElem hv'] at hd
      exact (Option.some.inj hd).symm
    subst hd'
    refine ⟨L.eraseIdx v, Fo ++ [L[v]], .da (.int (k : Int)), ?_, ?_, by simp [hf], by rw [List.length_eraseIdx_of_lt hv', hL]; omega⟩
    · rw [← eraseIdx_nI]
      have : nI Fo ++ [.int ((L[v] : Nat) : Int)] = nI (Fo ++ [L[v]]) := by unfold nI; rw [List.map_append]; rfl
      rw [← this]
      rfl
    · rw [List.append_assoc]
      refine (List.Perm.append_left Fo ?_).trans hp
      exact eraseIdx_perm L v hv'
  · subst e
    have : L = [] := List.length_eq_zero_iff.mp (by omega)
    subst this
    rw [List.append_nil] at hp
    refine gs_cons (g1_ret (gv_var 3) fun d e => ?_)
    subst e
    exact ord_of hp
/-- 2 3: K_{2,3} -/
def k23 (x y : Nat) : Int := if x = y then 0 else if (decide (x < 2)) = (decide (y < 2)) then 2 else 1
end K33
end
section
set_option Elab.async false
set_option linter.all false
set_option maxRecDepth 100000
set_option exponentiation.threshold 10000
/-! V6: two_three, band, web, of_tree -/
namespace K33
open PySem L2
variable {c : Cl} {g : Gx}
section
variable {X : Fm} {Γ : List Vw} {a b e : Expr} {pos p2 : Pos}
theorem gt_or {P1 P2 P : Bool → Prop} (h1 : GT c X a Γ P1) (h2 : P1 false → GT c X b Γ P2) (ht : ∀ k, P2 k → P k) (hf : P1 true → P true) : GT c X (.BoolOp .Or [a, b] pos) Γ P := gw_gt (gw_or h1 (fun e => gw_or1 (h2 e)) ht hf)
theorem gt_eqT {Pa Pb : Int → Prop} (ha : GE c X a Γ (IP Pa)) (hb : GE c X b Γ (IP Pb)) : GT c X (.Compare a [.Eq] [b] pos) Γ (fun _ => True) := gt_cmp (fun _ => op_eq) ha hb fun x y ⟨i, e1, p1⟩ ⟨j, e2, p2⟩ => by
  subst e1 e2
  intro M B H v w hc h1 h2 Q k
  exact rd_eqI M B H v w hc h1 h2 Q fun d u H' t e s => k d u H' t ⟨_, e, trivial⟩ s
theorem gl_slP {lo hi : Option Expr} {ol oh : Option Int} {Pe : D → Prop} (ha : GE c X e Γ Pe) (hP : ∀ d, Pe d → ∃ ds, d = .lst ds) (hl : GO c X lo Γ ol) (hh : GO c X hi Γ oh) : GL c X (.Subscript e (.Slice lo hi none p2) pos) Γ (fun x => ∃ ds, Pe (.lst ds) ∧ x = cutD ds ol oh) := fun σ M B H r hc Q k =>
  ⟨_, pe_slL, ha σ M B H r hc _ fun x v H1 t1 p1 s1 => by
    obtain ⟨ds, rfl⟩ := hP x p1
    obtain ⟨tl, hl1, hl2⟩ := hl σ M B H1 (r.mono (t1.hid hc.bm)) (t1.hc hc)
    refine ⟨tl, hl1, hl2 _ fun H2 t2 => ?_⟩
    obtain ⟨th, hh1, hh2⟩ := hh σ M B H2 (r.mono ((t1.trans t2).hid hc.bm)) ((t1.trans t2).hc hc)
    refine ⟨th, hh1, hh2 _ fun H3 t3 => ?_⟩
    obtain ⟨p, vs, rfl, e, l⟩ := (s1.mono ((t2.trans t3).hid hc.bm)).lstE
    have t := (t1.trans t2).trans t3
    refine ⟨p, vs, rfl, SqL.of (hid_le _ _ e), fun q hq => ?_⟩
    exact k _ q _ _ (t.trans (.new hq t.st)) ⟨ds, p1, rfl⟩ (t.free hq) upd_same (new_lst (t.hc hc) (cut_isL l ol oh) hq)⟩
end
/-- rows that keep a metric's laws -/
def MtP (n : Nat) (d : D) : Prop := ∃ f : F2, d = lrowsD n f ∧ Mt n f
theorem set_rg {n : Nat} {f : F2} {x y : Nat} {v : Int} : (rg n fun x => rg n (f x)).set x ((rg n (f x)).set y v) = rg n fun a => rg n fun b => if a = x ∧ b = y then v else f a b := by
  rw [rg_set]
  refine rg_congr fun a ha => ?_
  by_cases h : a = x
  · subst h
    rw [if_pos rfl, rg_set]
    refine rg_congr fun b hb => ?_
    by_cases h2 : b = y <;> simp [h2]
  · rw [if_neg h]
    refine rg_congr fun b hb => ?_
    rw [if_neg (fun z => h z.1)]
def putS (f : F2) (x y : Nat) (v : Int) : F2 := fun a b => if a = y ∧ b = x then v else if a = x ∧ b = y then v else f a b
theorem set_sym {n : Nat} {f : F2} {x y : Nat} {v : Int} : (((rg n fun x => rg n (f x)).set x ((rg n (f x)).set y v))).set y ((rg n fun b => if y = x ∧ b = y then v else f y b).set x v) = rg n fun a => rg n (putS f x y v a) := by
  rw [set_rg]
  exact set_rg (f := fun a b => if a = x ∧ b = y then v else f a b)
theorem Pm.put {n x y : Nat} {f : F2} {v : Int} (h : Pm n f) (hxy : x ≠ y) (h0 : 0 ≤ v) (h1 : v ≤ 100000) : Pm n (putS f x y v) := by
  refine ⟨fun a b ha hb => ?_, fun a ha => ?_, fun a b ha hb => ?_, fun a b ha hb => ?_⟩
  · have := h.sym a b ha hb
    unfold putS
    by_cases c1 : a = y ∧ b = x
    · rw [if_pos c1]
      by_cases c2 : b = y ∧ a = x
      · rw [if_pos c2]
      · rw [if_neg c2, if_pos ⟨c1.2, c1.1⟩]
    · rw [if_neg c1]
      by_cases c2 : a = x ∧ b = y
      · rw [if_pos c2, if_pos ⟨c2.2, c2.1⟩]
      · rw [if_neg c2, if_neg (fun z => c2 ⟨z.2, z.1⟩), if_neg (fun z => c1 ⟨z.2, z.1⟩)]
        exact this
  · unfold putS
    rw [if_neg (by omega), if_neg (by omega)]
    exact h.dia a ha
  · have := h.nn a b ha hb
    unfold putS
    split
    · exact h0
    · split
      · exact h0
      · exact this
  · have := h.le a b ha hb
    unfold putS
    split
    · exact h1
    · split
      · exact h1
      · exact this
abbrev sTwo : Stmt := top 51
theorem scTwo : FnScope ["_law_state_here", "_law_order", "_law_rows_here", "_law_x", "_law_y", "_law_row"] ["_law_state_here"] (defScope sTwo) := ⟨rfl, rfl, rfl, by decide +kernel, rfl, by decide +kernel, by decide +kernel⟩
def TwoP (d : D) : Prop := ∃ o : Nat → Nat, d = lrowsD 5 (fun x y => k23 (o x) (o y)) ∧ (∀ i, i < 5 → o i < 5) ∧ ∀ i j, i < 5 → j < 5 → o i = o j → i = j
abbrev arT : Unit → List Vw := fun _ => [.st]
abbrev spTwo (c : Cl) : Sp := spG c arT (fun _ => True) (fun _ d => TwoP d)
theorem ok_two {f : Addr} {fd : FuncData} (F : Fun g.K "_law_two_three" "_law_two_three" sTwo f fd) (B : Nb g) (f1 : Fg g 2 "_law_order_of" (spOrd c)) (f2 : Fg g 1 "_law_renamed" (spRen c)) : Fo g 3 f fd ["_law_state_here"] (spTwo c) := by
  refine fn_ok F scTwo (fun _ => rfl) fun b _ hr _ => ?_
  show GS c _ _ [.st, .no, .no, .no, .no, .no] _
  refine gs_cons (g1_asgE (psN 1) (ge_call f1 hr (ga_consS 0 (ga1 gv_int)) fun ws e => ⟨5, e.symm, by decide, fun d e => e⟩) fun d ⟨o, e, ho, hi⟩ => ?_)
  subst e
  show GS c _ _ [.st, .da (ordD 5 o), .no, .no, .no, .no] _
  have h5 : (5 : Nat) ≤ 1000000 := by decide
  refine gs_cons (g1_asgC 2 [("_law_x", 3)] (gc_mapR (fun x => .lst (rg 5 fun y => .int (k23 x y))) (gi_range1 (n := 5) B.range gv_int h5) (by decide) (fun x hx => gg_name 3) fun x hx => gv_map [("_law_y", 4)] (fun y => .int (k23 x y)) (gi_range1 (n := 5) B.range gv_int h5) (by decide) (fun y hy => gg_name 4) fun y hy => gv_if (gb_eqI (gv_var 3) (gv_var 4)) (fun z => GV.eq gv_int ?_) fun z => gv_if (gb_eqB (gv_lt (gv_var 3) gv_int) (gv_lt (gv_var 4) gv_int)) (fun z2 => GV.eq gv_int ?_) (fun z2 => GV.eq gv_int ?_)) fun ds e => ?_)
  · have : x = y := by have := of_decide_eq_true z; omega
    unfold k23
    rw [if_pos this]
  · have h1 : ¬ x = y := by have := of_decide_eq_false z; omega
    have z2 := of_decide_eq_true z2
    unfold k23
    rw [if_neg h1, if_pos]
    have e1 : decide ((x : Int) < 2) = decide (x < 2) := decide_eq_decide.mpr (by omega)
    have e2 : decide ((y : Int) < 2) = decide (y < 2) := decide_eq_decide.mpr (by omega)
    rw [← e1, ← e2]; exact z2
  · have h1 : ¬ x = y := by have := of_decide_eq_false z; omega
    have z2 := of_decide_eq_false z2
    unfold k23
    rw [if_neg h1, if_neg]
    have e1 : decide ((x : Int) < 2) = decide (x < 2) := decide_eq_decide.mpr (by omega)
    have e2 : decide ((y : Int) < 2) = decide (y < 2) := decide_eq_decide.mpr (by omega)
    rw [← e1, ← e2]; exact z2
  · subst e
    show GS c _ _ [.st, .da (ordD 5 o), .da (llD 5 k23), .no, .no, .no] _
    refine gs_cons (g1_ret (ge_call f2 (hr.mono (by decide)) (ga2 (gv_map [("_law_row", 5)] (fun x => lrowD 5 (k23 x)) (gi_listR (n := 5) (f := fun x => .lst (rg 5 fun y => .int (k23 x y))) (gv_var 2)) (by decide) (fun x hx => gg_name 5) fun x hx => gv_tupleOf B.tuple (gv_var 5)) (gv_var 1)) fun ws e => ⟨⟨5, k23, 5, o⟩, e.symm, ⟨(show (5 : Nat) ≤ 100 by decide), ho⟩, fun d e => e⟩) fun d e => ⟨o, e, ho, hi⟩)
/-! ### band -/
structure Bnd (n low : Nat) (f : F2) (X Y : Nat) : Prop where
  sym : ∀ a b, a < n → b < n → f a b = f b a
  dia : ∀ a, a < n → f a a = 0
  in_ : ∀ a b, a < n → b < a → (a < X ∨ (a = X ∧ b < Y)) → (low : Int) ≤ f a b ∧ f a b ≤ 2 * low
theorem Bnd.put {n low x y : Nat} {f : F2} {v : Int} (h : Bnd n low f x y) (hxy : y < x) (h1 : (low : Int) ≤ v) (h2 : v ≤ 2 * low) : Bnd n low (putS f x y v) x (y + 1) := by
  refine ⟨fun a b ha hb => ?_, fun a ha => ?_, fun a b ha hb hab => ?_⟩
  · have := h.sym a b ha hb
    unfold putS
    by_cases c1 : a = y ∧ b = x
    · rw [if_pos c1, if_neg (by omega), if_pos ⟨c1.2, c1.1⟩]
    · rw [if_neg c1]
      by_cases c2 : a = x ∧ b = y
      · rw [if_pos c2, if_pos ⟨c2.2, c2.1⟩]
      · rw [if_neg c2, if_neg (fun z => c2 ⟨z.2, z.1⟩), if_neg (fun z => c1 ⟨z.2, z.1⟩)]
        exact this
  · unfold putS
    rw [if_neg (by omega), if_neg (by omega)]
    exact h.dia a ha
  · unfold putS
    by_cases c1 : a = y ∧ b = x
    · omega
    · rw [if_neg c1]
      by_cases c2 : a = x ∧ b = y
      · rw [if_pos c2]; exact ⟨h1, h2⟩
      · rw [if_neg c2]
        exact h.in_ a b ha hb (by omega)
theorem Bnd.row {n low x : Nat} {f : F2} (h : Bnd n low f x x) : Bnd n low f (x + 1) 0 := ⟨h.sym, h.dia, fun a b ha hb hab => h.in_ a b ha hb (by omega)⟩
theorem Bnd.mt {n low : Nat} {f : F2} (h : Bnd n low f n 0) (hl : low ≤ 1000) : Mt n f := by
  have key : ∀ a b, a < n → b < n → a ≠ b → (low : Int) ≤ f a b ∧ f a b ≤ 2 * low := fun a b ha hb hab => by
    rcases Nat.lt_or_gt_of_ne hab with w | w
    · rw [h.sym a b ha hb]; exact h.in_ b a hb w (by omega)
    · exact h.in_ a b ha w (by omega)
  refine ⟨⟨h.sym, h.dia, fun a b ha hb => ?_, fun a b ha hb => ?_⟩, fun x y z hx hy hz => ?_⟩
  · by_cases w : a = b
    · subst w; rw [h.dia a ha]; exact Int.le_refl _
    · have := key a b ha hb w; omega
  · by_cases w : a = b
    · subst w; rw [h.dia a ha]; decide
    · have := key a b ha hb w; omega
  · by_cases w1 : x = y
    · subst w1; rw [h.dia x hx]; omega
    · by_cases w2 : y = z
      · subst w2; rw [h.dia y hy]; omega
      · have k1 := key x y hx hy w1
        have k2 := key y z hy hz w2
        by_cases w3 : x = z
        · subst w3; rw [h.dia x hx]; omega
        · have k3 := key x z hx hz w3; omega
abbrev sBand : Stmt := top 60
theorem scBand : FnScope ["_law_state_here", "_law_n", "_law_low", "_law_rows_here", "_law_x", "_law_y", "_law_length", "_law_row"] ["_law_state_here", "_law_n"] (defScope sBand) := ⟨rfl, rfl, rfl, by decide +kernel, rfl, by decide +kernel, by decide +kernel⟩
abbrev spMk (c : Cl) : Sp := spG c arS (fun n => n ≤ 4) (fun n d => MtP n d)
theorem zero_rows {n : Nat} : (rg n fun _ => rg n fun _ => (0 : Int)) = rg n fun x => rg n ((fun _ _ => 0 : F2) x) := rfl
theorem ok_band {f : Addr} {fd : FuncData} (F : Fun g.K "_law_band" "_law_band" sBand f fd) (B : Nb g) (f1 : Fg g 1 "_law_take" (spTake c)) : Fo g 2 f fd ["_law_state_here", "_law_n"] (spMk c) := by
  refine fn_ok F scBand (fun _ => rfl) fun b n hr h4 => ?_
  replace h4 : n ≤ 4 := h4
  have hn6 : n ≤ 1000000 := by omega
  show GS c _ _ [.st, .da (.int (n : Int)), .no, .no, .no, .no, .no, .no] _
  refine gs_cons (g1_asgE (psN 2) (ge_add (P := fun s => ∃ a : Nat, s = a ∧ 1 ≤ a ∧ a ≤ 3) (Pa := fun s => s = 1) (Pb := fun s => ∃ v : Nat, s = v ∧ v < 3) (ge_ip gv_int rfl) (GE.imp (ge_take f1 hr 0 (m := 3) gv_int (by decide) (by decide)) fun d ⟨v, e, h⟩ => ⟨v, e, v, rfl, h⟩) fun x y e ⟨v, e2, h⟩ => ⟨1 + v, by subst e e2; simp, by omega, by omega⟩) fun d ⟨s, e, low, e2, l1, l3⟩ => ?_)
  subst e; subst e2
  refine gs_cons (g1_asgMM 3 [("_law_x", 4)] (gm_map (fun x => rg n fun _ => 0) (gi_range1 B.range (gv_var 1) hn6) (by omega) (fun x hx => gg_name 4) fun x hx => GL.imp (gl_map [("_law_y", 5)] (fun _ => .int 0) (gi_range1 B.range (gv_var 1) hn6) (by omega) (fun y hy => gg_name 5) fun y hy => gv_int) fun ds e => by rw [e]; unfold lI; rw [rg_map]) fun rs e => ?_)
  subst e
  show GS c _ _ [.st, .da (.int (n : Int)), .da (.int (low : Int)), mmF n (fun _ _ => 0), .no, .no, .no, .no] _
  refine gs_cons (g1_for (fun x A => ∃ (f : F2) (w4 w5 w6 : Sl), A = [.st, .da (.int (n : Int)), .da (.int (low : Int)), mmF n f, w4, w5, w6, .no] ∧ Bnd n low f x 0) (gi_range1 B.range (gv_var 1) hn6) ⟨_, _, _, _, rfl, fun _ _ _ _ => rfl, fun _ _ => rfl, fun _ _ _ _ h => by omega⟩ (fun x d A hx yd ⟨f, w4, w5, w6, e, hB⟩ => ⟨_, tg1_name 4, ?_⟩) fun A ⟨f, w4, w5, w6, e, hB⟩ => ?_)
  · subst e yd
    have hx6 : x ≤ 1000000 := by omega
    show GS c _ _ [.st, .da (.int (n : Int)), .da (.int (low : Int)), mmF n f, .da (.int (x : Int)), w5, w6, .no] _
    refine gs_cons (g1_for (fun y A => ∃ (f : F2) (w5 w6 : Sl), A = [.st, .da (.int (n : Int)), .da (.int (low : Int)), mmF n f, .da (.int (x : Int)), w5, w6, .no] ∧ Bnd n low f x y) (gi_range1 B.range (gv_var 4) hx6) ⟨_, _, _, rfl, hB⟩ (fun y d A hy yd ⟨f, w5, w6, e, hB⟩ => ⟨_, tg1_name 5, ?_⟩) fun A ⟨f, w5, w6, e, hB⟩ => gs_nil ?_)
    · subst e yd
      have hyn : y < n := by omega
      show GS c _ _ [.st, .da (.int (n : Int)), .da (.int (low : Int)), mmF n f, .da (.int (x : Int)), .da (.int (y : Int)), w6, .no] _
      refine gs_cons (g1_asgE (psN 6) (ge_add (P := fun s => (low : Int) ≤ s ∧ s ≤ 2 * low) (Pa := fun s => s = low) (Pb := fun s => ∃ v : Nat, s = v ∧ v < low + 1) (ge_ip (gv_var 2) rfl) (GE.imp (ge_take f1 hr 0 (m := low + 1) (gv_succ (gv_var 2)) (by omega) (by omega)) fun d ⟨v, e, h⟩ => ⟨v, e, v, rfl, h⟩) fun x y e ⟨v, e2, h⟩ => by subst e e2; omega) fun d ⟨L, e, l1, l2⟩ => ?_)
      subst e
      show GS c _ _ [.st, .da (.int (n : Int)), .da (.int (low : Int)), mmF n f, .da (.int (x : Int)), .da (.int (y : Int)), .da (.int L), .no] _
      refine gs_cons (g1_symMM 3 (rs := rg n fun a => rg n (f a)) (r := rg n (f x)) (r' := rg n fun b => if y = x ∧ b = y then L else f y b) rfl (ga2 (gv_var 6) (gv_var 6)) (gv_var 4) (gv_var 5) (gv_var 5) (gv_var 4) (rg_at hx) (by rw [rg_len]; exact hyn) (by rw [set_rg]; exact rg_at hyn) (by rw [rg_len]; exact hx) ?_)
      rw [set_sym]
      exact gs_nil ⟨putS f x y L, .da (.int (y : Int)), .da (.int L), rfl, hB.put hy l1 l2⟩
    · subst e
      exact ⟨f, .da (.int (x : Int)), w5, w6, rfl, hB.row⟩
  · subst e
    refine gs_cons (g1_ret (gv_map [("_law_row", 7)] (fun x => lrowD n (f x)) (gi_listR (n := n) (f := fun x => .lst (rg n fun y => .int (f x y))) (GV.eq (gv_var 3) mmF_data)) (by omega) (fun x hx => gg_name 7) fun x hx => gv_tupleOf B.tuple (gv_var 7)) fun d e => ⟨f, e, hB.mt (by omega)⟩)
end K33
end
section
set_option Elab.async false
set_option linter.all false
set_option maxRecDepth 100000
set_option exponentiation.threshold 10000
/-! V7: web, of_tree -/
namespace K33
open PySem L2
variable {c : Cl} {g : Gx}
def far (x y : Nat) : Int := if x = y then 0 else 10000
theorem far_pm (n : Nat) : Pm n far := by
  refine ⟨fun x y _ _ => ?_, fun x _ => ?_, fun x y _ _ => ?_, fun x y _ _ => ?_⟩
  · unfold far
    by_cases h : x = y
    · rw [if_pos h, if_pos h.symm]
    · rw [if_neg h, if_neg (fun z => h z.symm)]
  · unfold far; rw [if_pos rfl]
  · unfold far; split <;> decide
  · unfold far; split <;> decide
theorem mmF_ll {n : Nat} {f : F2} : D.lst ((mI (rg n fun x => rg n (f x))).map .lst) = llD n f := mmF_data
abbrev sWeb : Stmt := top 56
theorem scWeb : FnScope ["_law_state_here", "_law_n", "_law_thick", "_law_rows_here", "_law_x", "_law_y", "_law_z", "_law_length"] ["_law_state_here", "_law_n", "_law_thick"] (defScope sWeb) := ⟨rfl, rfl, rfl, by decide +kernel, rfl, by decide +kernel, by decide +kernel⟩
abbrev spWeb (c : Cl) : Sp := spG c (fun p : Nat × Nat => [.st, .da (.int (p.1 : Int)), .da (.int (p.2 : Int))]) (fun p => p.1 ≤ 4 ∧ 1 ≤ p.2 ∧ p.2 ≤ 10) (fun p d => MtP p.1 d)
theorem ok_web {f : Addr} {fd : FuncData} (F : Fun g.K "_law_web" "_law_web" sWeb f fd) (B : Nb g) (f1 : Fg g 1 "_law_take" (spTake c)) (f2 : Fg g 1 "_law_shortest" (spSho c)) : Fo g 2 f fd ["_law_state_here", "_law_n", "_law_thick"] (spWeb c) := by
  refine fn_ok F scWeb (fun _ => rfl) fun b ⟨n, th⟩ hr ⟨h4, t1, t10⟩ => ?_
  replace h4 : n ≤ 4 := h4
  replace t1 : 1 ≤ th := t1
  replace t10 : th ≤ 10 := t10
  have hn6 : n ≤ 1000000 := by omega
  show GS c _ _ [.st, .da (.int (n : Int)), .da (.int (th : Int)), .no, .no, .no, .no, .no] _
  refine gs_cons (g1_asgMM 3 [("_law_x", 4)] (gm_map (fun x => rg n (far x)) (gi_range1 B.range (gv_var 1) hn6) (by omega) (fun x hx => gg_name 4) fun x hx => GL.imp (gl_map [("_law_y", 5)] (fun y => .int (far x y)) (gi_range1 B.range (gv_var 1) hn6) (by omega) (fun y hy => gg_name 5) fun y hy => gv_if (gb_eqI (gv_var 4) (gv_var 5)) (fun z => GV.eq gv_int ?_) (fun z => GV.eq gv_int ?_)) fun ds e => by rw [e]; unfold lI; rw [rg_map]) fun rs e => ?_)
  · have : x = y := by have := of_decide_eq_true z; omega
    unfold far; rw [if_pos this]
  · have : ¬ x = y := by have := of_decide_eq_false z; omega
    unfold far; rw [if_neg this]
  subst e
  show GS c _ _ [.st, .da (.int (n : Int)), .da (.int (th : Int)), mmF n far, .no, .no, .no, .no] _
  refine gs_cons (g1_for (fun x A => ∃ (f : F2) (w4 w5 w6 w7 : Sl), A = [.st, .da (.int (n : Int)), .da (.int (th : Int)), mmF n f, w4, w5, w6, w7] ∧ Pm n f) (gi_range1 B.range (gv_var 1) hn6) ⟨_, _, _, _, _, rfl, far_pm n⟩ (fun x d A hx yd ⟨f, w4, w5, w6, w7, e, hB⟩ => ⟨_, tg1_name 4, ?_⟩) fun A ⟨f, w4, w5, w6, w7, e, hB⟩ => ?_)
  · subst e yd
    have hx6 : x ≤ 1000000 := by omega
    show GS c _ _ [.st, .da (.int (n : Int)), .da (.int (th : Int)), mmF n f, .da (.int (x : Int)), w5, w6, w7] _
    refine gs_cons (g1_for (fun y A => ∃ (f : F2) (w5 w6 w7 : Sl), A = [.st, .da (.int (n : Int)), .da (.int (th : Int)), mmF n f, .da (.int (x : Int)), w5, w6, w7] ∧ Pm n f) (gi_range1 B.range (gv_var 4) hx6) ⟨_, _, _, _, rfl, hB⟩ (fun y d A hy yd ⟨f, w5, w6, w7, e, hB⟩ => ⟨_, tg1_name 5, ?_⟩) fun A ⟨f, w5, w6, w7, e, hB⟩ => gs_nil ?_)
    · subst e yd
      have hyn : y < n := by omega
      show GS c _ _ [.st, .da (.int (n : Int)), .da (.int (th : Int)), mmF n f, .da (.int (x : Int)), .da (.int (y : Int)), w6, w7] _
      refine gs_cons (g1_if (gt_or (P := fun _ => True) (P1 := fun _ => True) (P2 := fun _ => True) (GT.imp (gb_eqI (gv_var 5) (gv_sub (gv_var 4) gv_int)) fun _ _ => trivial) (fun _ => gt_eqT (Pa := fun _ => True) (Pb := fun _ => True) (GE.imp (ge_take f1 hr 0 (m := th) (gv_var 2) (by omega) (by omega)) fun d ⟨v, e, _⟩ => ⟨v, e, trivial⟩) (ge_ip gv_int trivial)) (fun _ _ => trivial) fun _ => trivial) (fun _ => ?_) (fun _ => gs_nil (gs_nil ⟨f, _, w6, w7, rfl, hB⟩)))
      refine gs_cons (g1_asgE (psN 6) (gv_var 5) fun d e => ?_)
      subst e
      show GS c _ _ [.st, .da (.int (n : Int)), .da (.int (th : Int)), mmF n f, .da (.int (x : Int)), .da (.int (y : Int)), .da (.int (y : Int)), w7] _
      refine gs_cons (g1_imp (K' := ⟨fun A => ∃ z : Nat, z < x ∧ A = [.st, .da (.int (n : Int)), .da (.int (th : Int)), mmF n f, .da (.int (x : Int)), .da (.int (y : Int)), .da (.int (z : Int)), w7], fun _ => False, fun _ => False, fun _ => False⟩) (g1_ifB (gb_eqI (gv_var 5) (gv_sub (gv_var 4) gv_int)) (fun _ => ?_) (fun _ => gs_nil ⟨y, hy, rfl⟩)) (fun A ⟨z, hz, e⟩ => ?_) (fun _ h => h.elim) (fun _ h => h.elim) (fun _ h => h.elim))
      · refine gs_cons (g1_asgE (psN 6) (ge_take f1 hr 0 (m := x) (gv_var 4) (by omega) (by omega)) fun d ⟨v, e, hv⟩ => ?_)
        subst e
        exact gs_nil ⟨v, hv, rfl⟩
      · subst e
        have hzn : z < n := by omega
        refine gs_cons (g1_asgE (psN 7) (ge_add (P := fun s => 0 ≤ s ∧ s ≤ 100000) (Pa := fun s => s = 1) (Pb := fun s => ∃ v : Nat, s = v ∧ v < 4) (ge_ip gv_int rfl) (GE.imp (ge_take f1 hr 0 (m := 4) gv_int (by decide) (by decide)) fun d ⟨v, e, h⟩ => ⟨v, e, v, rfl, h⟩) fun x y e ⟨v, e2, h⟩ => by subst e e2; omega) fun d ⟨L, e, l1, l2⟩ => ?_)
        subst e
        show GS c _ _ [.st, .da (.int (n : Int)), .da (.int (th : Int)), mmF n f, .da (.int (x : Int)), .da (.int (y : Int)), .da (.int (z : Int)), .da (.int L)] _
        refine gs_cons (g1_symMM 3 (rs := rg n fun a => rg n (f a)) (r := rg n (f x)) (r' := rg n fun b => if z = x ∧ b = z then L else f z b) rfl (ga2 (gv_var 7) (gv_var 7)) (gv_var 4) (gv_var 6) (gv_var 6) (gv_var 4) (rg_at hx) (by rw [rg_len]; exact hzn) (by rw [set_rg]; exact rg_at hzn) (by rw [rg_len]; exact hx) ?_)
        rw [set_sym]
        exact gs_nil (gs_nil ⟨putS f x z L, .da (.int (y : Int)), .da (.int (z : Int)), .da (.int L), rfl, hB.put (by omega) l1 l2⟩)
    · subst e
      exact ⟨f, .da (.int (x : Int)), w5, w6, w7, rfl, hB⟩
  · subst e
    refine gs_cons (g1_ret (ge_call f2 (hr.mono (by decide)) (ga1 (GV.eq (gv_var 3) mmF_ll)) fun ws e => ⟨(n, f), e.symm, ⟨by show n ≤ 8; omega, hB⟩, fun d e => e⟩) fun d e => ⟨_, e, fw_mt hB⟩)
abbrev sTree : Stmt := top 58
theorem scTree : FnScope ["_law_state_here", "_law_n", "_law_m", "_law_rows_here", "_law_x", "_law_z", "_law_length", "_law_y"] ["_law_state_here", "_law_n"] (defScope sTree) := ⟨rfl, rfl, rfl, by decide +kernel, rfl, by decide +kernel, by decide +kernel⟩
theorem cutD_to {n m : Nat} {o : Nat → D} (h : n ≤ m) : cutD (rg m o) none (some (n : Int)) = rg n o := by
  unfold cutD
  rw [rg_len]
  have e1 : HT.sIx m 0 none = 0 := rfl
  have e2 : HT.sIx m m (some (n : Int)) = n := by
    unfold HT.sIx
    simp
    split <;> omega
  rw [e1, e2, List.drop_zero, Nat.sub_zero]
  unfold rg
  rw [← List.map_take, List.take_range, Nat.min_eq_left h]
theorem Mt.ren {m n : Nat} {f : F2} {o : Nat → Nat} (h : Mt m f) (ho : ∀ i, i < n → o i < m) : Mt n fun x y => f (o x) (o y) :=
  ⟨⟨fun x y hx hy => h.sym _ _ (ho x hx) (ho y hy), fun x hx => h.dia _ (ho x hx), fun x y hx hy => h.nn _ _ (ho x hx) (ho y hy), fun x y hx hy => h.le _ _ (ho x hx) (ho y hy)⟩, fun x y z hx hy hz => h.tri _ _ _ (ho x hx) (ho y hy) (ho z hz)⟩
theorem ok_tree {f : Addr} {fd : FuncData} (F : Fun g.K "_law_of_tree" "_law_of_tree" sTree f fd) (B : Nb g) (f1 : Fg g 1 "_law_take" (spTake c)) (f2 : Fg g 1 "_law_shortest" (spSho c)) (f3 : Fg g 2 "_law_order_of" (spOrd c)) (f4 : Fg g 1 "_law_renamed" (spRen c)) : Fo g 3 f fd ["_law_state_here", "_law_n"] (spMk c) := by
  refine fn_ok F scTree (fun _ => rfl) fun b n hr h4 => ?_
  replace h4 : n ≤ 4 := h4
  show GS c _ _ [.st, .da (.int (n : Int)), .no, .no, .no, .no, .no, .no] _
  refine gs_cons (g1_asgE (psN 2) (ge_add (P := fun s => ∃ a : Nat, s = a ∧ n ≤ a ∧ a ≤ n + 2) (Pa := fun s => s = n) (Pb := fun s => ∃ v : Nat, s = v ∧ v < 3) (ge_ip (gv_var 1) rfl) (GE.imp (ge_take f1 (hr.mono (by decide)) 0 (m := 3) gv_int (by decide) (by decide)) fun d ⟨v, e, h⟩ => ⟨v, e, v, rfl, h⟩) fun x y e ⟨v, e2, h⟩ => ⟨n + v, by subst e e2; simp, by omega, by omega⟩) fun d ⟨s, e, m, e2, l1, l3⟩ => ?_)
  subst e; subst e2
  have hm6 : m ≤ 1000000 := by omega
  show GS c _ _ [.st, .da (.int (n : Int)), .da (.int (m : Int)), .no, .no, .no, .no, .no] _
  refine gs_cons (g1_asgMM 3 [("_law_x", 4)] (gm_map (fun x => rg m (far x)) (gi_range1 B.range (gv_var 2) hm6) (by omega) (fun x hx => gg_name 4) fun x hx => GL.imp (gl_map [("_law_y", 7)] (fun y => .int (far x y)) (gi_range1 B.range (gv_var 2) hm6) (by omega) (fun y hy => gg_name 7) fun y hy => gv_if (gb_eqI (gv_var 4) (gv_var 7)) (fun z => GV.eq gv_int ?_) (fun z => GV.eq gv_int ?_)) fun ds e => by rw [e]; unfold lI; rw [rg_map]) fun rs e => ?_)
  · have : x = y := by have := of_decide_eq_true z; omega
    unfold far; rw [if_pos this]
  · have : ¬ x = y := by have := of_decide_eq_false z; omega
    unfold far; rw [if_neg this]
  subst e
  show GS c _ _ [.st, .da (.int (n : Int)), .da (.int (m : Int)), mmF m far, .no, .no, .no, .no] _
  refine gs_cons (g1_for (fun _ A => ∃ (f : F2) (w4 w5 w6 : Sl), A = [.st, .da (.int (n : Int)), .da (.int (m : Int)), mmF m f, w4, w5, w6, .no] ∧ Pm m f) (gi_range2N (lo := 1) B.range gv_int (gv_var 2) (by decide) hm6) ⟨_, _, _, _, rfl, far_pm m⟩ (fun i d A hi yd ⟨f, w4, w5, w6, e, hB⟩ => ⟨_, tg1_name 4, ?_⟩) fun A ⟨f, w4, w5, w6, e, hB⟩ => ?_)
  · subst e yd
    have hx : 1 + i < m := by omega
    generalize hxi : 1 + i = x at hx
    have h0 : 0 < x := by omega
    show GS c _ _ [.st, .da (.int (n : Int)), .da (.int (m : Int)), mmF m f, .da (.int (x : Int)), w5, w6, .no] _
    refine gs_cons (g1_asgE (psN 5) (ge_take f1 (hr.mono (by decide)) 0 (m := x) (gv_var 4) h0 (by omega)) fun d ⟨z, e, hz⟩ => ?_)
    subst e
    have hzn : z < m := by omega
    refine gs_cons (g1_asgE (psN 6) (ge_add (P := fun s => 0 ≤ s ∧ s ≤ 100000) (Pa := fun s => s = 1) (Pb := fun s => ∃ v : Nat, s = v ∧ v < 4) (ge_ip gv_int rfl) (GE.imp (ge_take f1 (hr.mono (by decide)) 0 (m := 4) gv_int (by decide) (by decide)) fun d ⟨v, e, h⟩ => ⟨v, e, v, rfl, h⟩) fun x y e ⟨v, e2, h⟩ => by subst e e2; omega) fun d ⟨L, e, l1, l2⟩ => ?_)
    subst e
    show GS c _ _ [.st, .da (.int (n : Int)), .da (.int (m : Int)), mmF m f, .da (.int (x : Int)), .da (.int (z : Int)), .da (.int L), .no] _
    refine gs_cons (g1_symMM 3 (rs := rg m fun a => rg m (f a)) (r := rg m (f x)) (r' := rg m fun b => if z = x ∧ b = z then L else f z b) rfl (ga2 (gv_var 6) (gv_var 6)) (gv_var 4) (gv_var 5) (gv_var 5) (gv_var 4) (rg_at hx) (by rw [rg_len]; exact hzn) (by rw [set_rg]; exact rg_at hzn) (by rw [rg_len]; exact hx) ?_)
    rw [set_sym]
    exact gs_nil ⟨putS f x z L, .da (.int (x : Int)), .da (.int (z : Int)), .da (.int L), rfl, hB.put (by omega) l1 l2⟩
  · subst e
    refine gs_cons (g1_ret (ge_call f4 (hr.mono (by decide)) (ga_cons (ge_call f2 (hr.mono (by decide)) (ga1 (GV.eq (gv_var 3) mmF_ll)) fun ws e => ⟨(m, f), e.symm, ⟨by show m ≤ 8; omega, hB⟩, fun d e => e⟩) (ga_cons (GL.ge (gl_slP (ol := none) (oh := some (n : Int)) (Pe := OrdP m) (ge_call f3 hr (ga_consS 0 (ga1 (gv_var 2))) fun ws e => ⟨m, e.symm, by show m ≤ 100; omega, fun d e => e⟩) (fun d ⟨o, e, _⟩ => ⟨_, e⟩) go_none (go_some (gv_var 1)))) ga_nil)) fun ws ⟨d1, ws1, e1, p1, d2, ws2, e2, ⟨ds, p2, ds2, p3, p4⟩, e3⟩ => ?_) fun d h => h)
    obtain ⟨o, q1, q2, q3⟩ := p3
    cases q1
    subst e3 e2 e1 p1 p2
    rw [cutD_to l1] at p4
    subst p4
    exact ⟨⟨m, fw f m, n, o⟩, rfl, ⟨by show n ≤ 100; omega, fun i hi => q2 i (Nat.lt_of_lt_of_le (show i < n from hi) l1)⟩, fun d e => ⟨_, e, (fw_mt hB).ren fun i hi => q2 i (by omega)⟩⟩
end K33
end
section
set_option Elab.async false
set_option linter.all false
set_option maxRecDepth 100000
set_option exponentiation.threshold 10000
/-! V8: cut_sum, grid -/
namespace K33
open PySem L2
variable {c : Cl} {g : Gx}
abbrev sCS : Stmt := top 52
theorem scCS : FnScope ["_law_state_here", "_law_n", "_law_rows_here", "_law_split", "_law_weight_here", "_law_x", "_law_y", "_law_row"] ["_law_state_here", "_law_n"] (defScope sCS) := ⟨rfl, rfl, rfl, by decide +kernel, rfl, by decide +kernel, by decide +kernel⟩
def cutI (s : List Int) (w : Int) (x y : Nat) : Int := (if (decide ((x : Int) ∈ s) != decide ((y : Int) ∈ s)) = true then 1 else 0) * (if 0 < w then w else 0)
theorem cutI_val (s : List Int) (w : Int) (x y : Nat) : cutI s w x y = 0 ∨ (0 < w ∧ cutI s w x y = w) := by
  unfold cutI
  split
  · split
    · right; omega
    · left; omega
  · left; omega
theorem cutI_sym (s : List Int) (w : Int) (x y : Nat) : cutI s w x y = cutI s w y x := by
  unfold cutI
  by_cases a : (x : Int) ∈ s <;> by_cases b : (y : Int) ∈ s <;> simp [a, b]
theorem cutI_dia (s : List Int) (w : Int) (x : Nat) : cutI s w x x = 0 := by
  unfold cutI
  simp
theorem cutI_tri (s : List Int) (w : Int) (x y z : Nat) : cutI s w x z ≤ cutI s w x y + cutI s w y z := by
  unfold cutI
  by_cases a : (x : Int) ∈ s <;> by_cases b : (y : Int) ∈ s <;> by_cases d : (z : Int) ∈ s <;> simp [a, b, d] <;> split <;> omega
/-- in the midst of the adding: rows before x are done, in row x the places before y -/
def adM (f h : F2) (x y a b : Nat) : Int := if a < x ∨ (a = x ∧ b < y) then f a b + h a b else f a b
theorem adM_here (f h : F2) (x y : Nat) : adM f h x y x y = f x y := by unfold adM; rw [if_neg (by omega)]
theorem adM_put (f h : F2) (x y a b : Nat) : (if a = x ∧ b = y then f x y + h x y else adM f h x y a b) = adM f h x (y + 1) a b := by
  unfold adM
  by_cases q : a = x ∧ b = y
  · rw [if_pos q, if_pos (.inr ⟨q.1, by omega⟩), q.1, q.2]
  · rw [if_neg q]
    by_cases h2 : a < x ∨ (a = x ∧ b < y)
    · rw [if_pos h2, if_pos (by omega)]
    · rw [if_neg h2, if_neg (by omega)]
theorem adM_row {n : Nat} (f h : F2) (x a b : Nat) (hb : b < n) : adM f h x n a b = adM f h (x + 1) 0 a b := by
  unfold adM
  by_cases h2 : a < x ∨ (a = x ∧ b < n)
  · rw [if_pos h2, if_pos (by omega)]
  · rw [if_neg h2, if_neg (by omega)]
theorem adM_0 (f h : F2) (a b : Nat) : adM f h 0 0 a b = f a b := by unfold adM; rw [if_neg (by omega)]
theorem adM_n {n : Nat} (f h : F2) (a b : Nat) (ha : a < n) : adM f h n 0 a b = f a b + h a b := by unfold adM; rw [if_pos (by omega)]
structure CsI (n i : Nat) (f : F2) : Prop where
  mt : Mt n f
  bd : ∀ x y, x < n → y < n → f x y ≤ 2 * i
theorem CsI.add {n i : Nat} {f : F2} {s : List Int} {w : Int} (h : CsI n i f) (hi : i ≤ 100) (hw : w ≤ 2) : CsI n (i + 1) fun a b => f a b + cutI s w a b := by
  have v := cutI_val s w
  refine ⟨⟨⟨fun x y hx hy => ?_, fun x hx => ?_, fun x y hx hy => ?_, fun x y hx hy => ?_⟩, fun x y z hx hy hz => ?_⟩, fun x y hx hy => ?_⟩
  · show f x y + _ = f y x + _
    rw [h.mt.sym x y hx hy, cutI_sym]
  · show f x x + _ = 0
    rw [h.mt.dia x hx, cutI_dia]; rfl
  · have := h.mt.nn x y hx hy
    have := v x y
    show 0 ≤ f x y + _
    omega
  · have := h.bd x y hx hy
    have := v x y
    show f x y + _ ≤ _
    omega
  · have := h.mt.tri x y z hx hy hz
    have := cutI_tri s w x y z
    show f x z + _ ≤ (f x y + _) + (f y z + _)
    omega
  · have := h.bd x y hx hy
    have := v x y
    show f x y + _ ≤ _
    omega
theorem CsI.keep {n i : Nat} {f : F2} (h : CsI n i f) : CsI n (i + 1) f := ⟨h.mt, fun x y hx hy => by have := h.bd x y hx hy; omega⟩
theorem zero_mt (n : Nat) : CsI n 0 fun _ _ => 0 := ⟨⟨⟨fun _ _ _ _ => rfl, fun _ _ => rfl, fun _ _ _ _ => Int.le_refl _, fun _ _ _ _ => by decide⟩, fun _ _ _ _ _ _ => by decide⟩, fun _ _ _ _ => by decide⟩
abbrev spCS (c : Cl) : Sp := spG c arS (fun n => 1 ≤ n ∧ n ≤ 4) (fun n d => MtP n d)
theorem ok_CS {f : Addr} {fd : FuncData} (F : Fun g.K "_law_cut_sum" "_law_cut_sum" sCS f fd) (B : Nb g) (f1 : Fg g 1 "_law_take" (spTake c)) (f2 : Fg g 1 "_law_splits" (spSplL c)) : Fo g 2 f fd ["_law_state_here", "_law_n"] (spCS c) := by
  refine fn_ok F scCS (fun _ => rfl) fun b n hr ⟨h1, h4⟩ => ?_
  replace h4 : n ≤ 4 := h4
  replace h1 : 1 ≤ n := h1
  have hn6 : n ≤ 1000000 := by omega
  have hl5 : (spl n).length ≤ 15 := spl_len5 (by omega)
  show GS c _ _ [.st, .da (.int (n : Int)), .no, .no, .no, .no, .no, .no] _
  refine gs_cons (g1_asgMM 2 [("_law_x", 5)] (gm_map (fun x => rg n fun _ => 0) (gi_range1 B.range (gv_var 1) hn6) (by omega) (fun x hx => gg_name 5) fun x hx => GL.imp (gl_map [("_law_y", 6)] (fun _ => .int 0) (gi_range1 B.range (gv_var 1) hn6) (by omega) (fun y hy => gg_name 6) fun y hy => gv_int) fun ds e => by rw [e]; unfold lI; rw [rg_map]) fun rs e => ?_)
  subst e
  show GS c _ _ [.st, .da (.int (n : Int)), mmF n (fun _ _ => 0), .no, .no, .no, .no, .no] _
  refine gs_cons (g1_for (fun i A => ∃ (f : F2) (w3 w4 w5 w6 : Sl), A = [.st, .da (.int (n : Int)), mmF n f, w3, w4, w5, w6, .no] ∧ CsI n i f) (gi_listL (l0 := spl n) (e := tI) (ge_call f2 hr (ga1 (gv_var 1)) fun ws e => ⟨n, e.symm, ⟨h1, h4⟩, fun d e => e⟩)) ⟨_, _, _, _, _, rfl, zero_mt n⟩ (fun i d A hi ⟨s, hs, hd⟩ ⟨f, w3, w4, w5, w6, e, hC⟩ => ⟨_, tg1_name 3, ?_⟩) fun A ⟨f, w3, w4, w5, w6, e, hC⟩ => ?_)
  · subst e hd
    show GS c _ _ [.st, .da (.int (n : Int)), mmF n f, .da (tI s), w4, w5, w6, .no] _
    refine gs_cons (g1_asgE (psN 4) (ge_sub (P := fun w => w ≤ 2) (Pa := fun s => ∃ v : Nat, s = v ∧ v < 4) (Pb := fun s => s = 1) (GE.imp (ge_take f1 hr 0 (m := 4) gv_int (by decide) (by decide)) fun d ⟨v, e, h⟩ => ⟨v, e, v, rfl, h⟩) (ge_ip gv_int rfl) fun x y ⟨v, e2, h⟩ e => by subst e e2; omega) fun d ⟨w, e, hw⟩ => ?_)
    subst e
    show GS c _ _ [.st, .da (.int (n : Int)), mmF n f, .da (tI s), .da (.int w), w5, w6, .no] _
    refine gs_cons (g1_ifB (gb_or (gb_eqI (gv_lenT (ds := s.map .int) B.len (gv_var 3)) gv_int) fun _ => gb_gt (gv_var 4) gv_int) (fun _ => ?_) (fun _ => gs_nil (gs_nil ⟨f, _, _, w5, w6, rfl, hC.keep⟩)))
    refine gs_cons (g1_for (fun x A => ∃ (w5 w6 : Sl), A = [.st, .da (.int (n : Int)), mmF n (adM f (cutI s w) x 0), .da (tI s), .da (.int w), w5, w6, .no]) (gi_range1 B.range (gv_var 1) hn6) ⟨w5, w6, by rw [mmF_congr fun a b _ _ => adM_0 f (cutI s w) a b]⟩ (fun x d A hx yd ⟨w5, w6, e⟩ => ⟨_, tg1_name 5, ?_⟩) fun A ⟨w5, w6, e⟩ => gs_nil (gs_nil ?_))
    · subst e yd
      show GS c _ _ [.st, .da (.int (n : Int)), mmF n (adM f (cutI s w) x 0), .da (tI s), .da (.int w), .da (.int (x : Int)), w6, .no] _
      refine gs_cons (g1_for (fun y A => ∃ w6, A = [.st, .da (.int (n : Int)), mmF n (adM f (cutI s w) x y), .da (tI s), .da (.int w), .da (.int (x : Int)), w6, .no]) (gi_range1 B.range (gv_var 1) hn6) ⟨_, rfl⟩ (fun y d A hy yd ⟨w6, e⟩ => ⟨_, tg1_name 6, ?_⟩) fun A ⟨w6, e⟩ => gs_nil ?_)
      · subst e yd
        show GS c _ _ [.st, .da (.int (n : Int)), mmF n (adM f (cutI s w) x y), .da (tI s), .da (.int w), .da (.int (x : Int)), .da (.int (y : Int)), .no] _
        refine gs_cons (g1_setMM 2 (rs := rg n fun a => rg n (adM f (cutI s w) x y a)) (r := rg n (adM f (cutI s w) x y x)) (P := fun u => u = f x y + cutI s w x y) rfl (GE.imp (gv_add (gv_mm 2 hx hy (gv_var 5) (gv_var 6)) (gv_mul (gv_intB B.int (gv_neB (gv_inI (gv_var 5) (gv_var 3)) (gv_inI (gv_var 6) (gv_var 3)))) (gv_max B.max (gv_var 4) gv_int) (.inl ?_))) fun d e => ⟨_, e, ?_⟩) (gv_var 5) (gv_var 6) (rg_at hx) (by rw [rg_len]; exact hy) fun u eu => ?_)
        · split <;> decide
        · rw [adM_here]
          unfold cutI
          congr 1
          have e2 : (if (0 : Int) > w then (0 : Int) else w) = if 0 < w then w else 0 := by split <;> split <;> omega
          rw [e2]
          by_cases p : (x : Int) ∈ s <;> by_cases q : (y : Int) ∈ s <;> simp [p, q]
        · refine gs_nil ⟨.da (.int (y : Int)), ?_⟩
          show [_, _, Sl.mm _, _, _, _, _, _] = _
          rw [mmF_set, eu, mmF_congr fun a b _ _ => adM_put f (cutI s w) x y a b]
      · subst e
        refine ⟨.da (.int (x : Int)), w6, ?_⟩
        rw [mmF_congr fun a b _ hb => adM_row f (cutI s w) x a b hb]
    · subst e
      refine ⟨fun a b => f a b + cutI s w a b, .da (tI s), .da (.int w), w5, w6, ?_, hC.add (by omega) hw⟩
      rw [mmF_congr fun a b ha _ => adM_n f (cutI s w) a b ha]
  · subst e
    refine gs_cons (g1_ret (gv_map [("_law_row", 7)] (fun x => lrowD n (f x)) (gi_listR (n := n) (f := fun x => .lst (rg n fun y => .int (f x y))) (GV.eq (gv_var 2) mmF_data)) (by omega) (fun x hx => gg_name 7) fun x hx => gv_tupleOf B.tuple (gv_var 7)) fun d e => ⟨f, e, hC.mt⟩)
/-! ### grid -/
def pD (p : Nat × Nat) : D := .tup [.int (p.1 : Int), .int (p.2 : Int)]
def ab (x : Int) : Int := if x < 0 then -x else x
def l1 (o : Nat → Nat × Nat) (x y : Nat) : Int := ab ((o x).1 - (o y).1) + ab ((o x).2 - (o y).2)
theorem l1_mt {n : Nat} {o : Nat → Nat × Nat} (h : ∀ i, i < n → (o i).1 < 4 ∧ (o i).2 < 4) : Mt n (l1 o) := by
  refine ⟨⟨fun x y hx hy => ?_, fun x hx => ?_, fun x y hx hy => ?_, fun x y hx hy => ?_⟩, fun x y z hx hy hz => ?_⟩
  · unfold l1 ab; repeat (first | split | omega)
  · unfold l1 ab; repeat (first | split | omega)
  · unfold l1 ab; repeat (first | split | omega)
  · have := h x hx
    have := h y hy
    unfold l1 ab; repeat (first | split | omega)
  · have t : ∀ a b d : Int, ab (a - d) ≤ ab (a - b) + ab (b - d) := fun a b d => by unfold ab; repeat (first | split | omega)
    have t1 := t (o x).1 (o y).1 (o z).1
    have t2 := t (o x).2 (o y).2 (o z).2
    unfold l1
    omega
abbrev sGrid : Stmt := top 59
theorem scGrid : FnScope ["_law_state_here", "_law_n", "_law_left", "_law_points", "_law_k", "_law_x", "_law_a", "_law_b"] ["_law_state_here", "_law_n"] (defScope sGrid) := ⟨rfl, rfl, rfl, by decide +kernel, rfl, by decide +kernel, by decide +kernel⟩
theorem ok_grid {f : Addr} {fd : FuncData} (F : Fun g.K "_law_grid" "_law_grid" sGrid f fd) (B : Nb g) (f1 : Fg g 1 "_law_take" (spTake c)) : Fo g 2 f fd ["_law_state_here", "_law_n"] (spMk c) := by
  refine fn_ok F scGrid (fun _ => rfl) fun b n hr h4 => ?_
  replace h4 : n ≤ 4 := h4
  have hn6 : n ≤ 1000000 := by omega
  have h16 : (16 : Nat) ≤ 1000000 := by decide
  show GS c _ _ [.st, .da (.int (n : Int)), .no, .no, .no, .no, .no, .no] _
  refine gs_cons (g1_asgCM 2 [("_law_x", 5)] (gc_mapR (fun x => pD (x / 4, x % 4)) (gi_range1 (n := 16) B.range gv_int h16) (by decide) (fun x hx => gg_name 5) fun x hx => GV.eq (gv_tup (ds := [.int ((x : Int) / 4), .int ((x : Int) % 4)]) (ga2 (gv_fdiv (gv_var 5) gv_int ⟨by decide, by decide⟩) (gv_mod (gv_intI B.int (gv_var 5)) gv_int (by decide)))) rfl) fun ds e => ?_)
  subst e
  refine gs_cons (g1_asgL (psN 3) (gl_lst (ds := []) ga_nil) fun ds e => ?_)
  subst e
  have e0 : (rg 16 fun x => pD (x / 4, x % 4)) = (rg 16 fun x => (x / 4, x % 4)).map pD := by rw [rg_map]
  rw [e0]
  show GS c _ _ [.st, .da (.int (n : Int)), .mu ((rg 16 fun x => (x / 4, x % 4)).map pD), .mu (([] : List (Nat × Nat)).map pD), .no, .no, .no, .no] _
  refine gs_cons (g1_for (fun i A => ∃ (L Fo : List (Nat × Nat)) (w : Sl), A = [.st, .da (.int (n : Int)), .mu (L.map pD), .mu (Fo.map pD), w, .no, .no, .no] ∧ (∀ p, p ∈ L ∨ p ∈ Fo → p.1 < 4 ∧ p.2 < 4) ∧ Fo.length = i ∧ L.length = 16 - i) (gi_range1 B.range (gv_var 1) hn6) ⟨_, [], _, rfl, fun p hp => ?_, rfl, by rw [rg_len]⟩ (fun k d A hk yd ⟨L, Fo, w, e, hp, hf, hL⟩ => ⟨_, tg1_name 4, ?_⟩) fun A ⟨L, Fo, w, e, hp, hf, hL⟩ => ?_)
  · rcases hp with hp | hp
    · obtain ⟨i, hi, rfl⟩ := rg_mem hp
      exact ⟨by show i / 4 < 4; omega, by show i % 4 < 4; omega⟩
    · simp at hp
  · subst e yd
    show GS c _ _ [.st, .da (.int (n : Int)), .mu (L.map pD), .mu (Fo.map pD), .da (.int (k : Int)), .no, .no, .no] _
    refine gs_cons (g1_appendP 3 rfl (gp_pop 2 (Pe := NtP (fun v => v < L.length)) rfl (ge_take f1 hr 0 (m := L.length) (GV.eq (gv_len (ds := L.map pD) B.len (gv_var 2)) (by rw [List.length_map])) (by omega) (by omega)) (by rw [List.length_map]; omega) (fun d ⟨v, e, h⟩ => ⟨v, e, by rw [List.length_map]; exact h⟩)) (by rw [List.length_map]; omega) fun d A' ⟨v, ek, hv, hd, eA⟩ => ⟨by subst eA; rfl, gs_nil ?_⟩)
    subst eA
    have hv' : v < L.length := by rwa [List.length_map] at hv
    have hd' : d = pD (L[v]'hv') := by
      rw [List.getElem?_map, List.getElem?_eq_getElem hv'] at hd
      exact (Option.some.inj hd).symm
    subst hd'
    refine ⟨L.eraseIdx v, Fo ++ [L[v]], .da (.int (k : Int)), ?_, fun p q => ?_, by simp [hf], by rw [List.length_eraseIdx_of_lt hv', hL]; omega⟩
    · rw [← eraseIdx_map', List.map_append]
      rfl
    · rcases q with q | q
      · exact hp p (.inl (List.mem_of_mem_eraseIdx q))
      · rcases List.mem_append.mp q with q | q
        · exact hp p (.inr q)
        · have : p = L[v] := by simpa using q
          rw [this]
          exact hp _ (.inl (List.getElem_mem hv'))
  · subst e
    have eF := rg_of Fo (0, 0)
    rw [hf] at eF
    generalize ho : (fun i => Fo.getD i (0, 0)) = o at eF
    have hob : ∀ i, i < n → (o i).1 < 4 ∧ (o i).2 < 4 := fun i hi => hp _ (.inr (by rw [eF]; exact List.mem_of_getElem? (rg_at hi)))
    rw [eF, rg_map]
    show GS c _ _ [.st, .da (.int (n : Int)), .mu (L.map pD), .mu (rg n fun i => pD (o i)), w, .no, .no, .no] _
    refine gs_cons (g1_ret (gv_map [("_law_a", 6)] (fun x => lrowD n (l1 o x)) (gi_listR (n := n) (f := fun i => pD (o i)) (gv_var 3)) (by omega) (fun x hx => gg_name 6) fun x hx => gv_tupleOf B.tuple (gv_map [("_law_b", 7)] (fun y => .int (l1 o x y)) (gi_listR (n := n) (f := fun i => pD (o i)) (gv_var 3)) (by omega) (fun y hy => gg_name 7) fun y hy => gv_add (gv_abs B.abs (gv_sub (gv_ixT (gv_var 6) gv_int rfl) (gv_ixT (gv_var 7) gv_int rfl))) (gv_abs B.abs (gv_sub (gv_ixT (gv_var 6) gv_int rfl) (gv_ixT (gv_var 7) gv_int rfl))))) fun d e => ⟨l1 o, e, l1_mt hob⟩)
end K33
end
section
set_option Elab.async false
set_option linter.all false
set_option maxRecDepth 100000
set_option exponentiation.threshold 10000
/-! V9: levels, rows -/
namespace K33
open PySem L2
variable {c : Cl} {g : Gx}
theorem gp_of {X : Fm} {e : Expr} {A : List Sl} {P : D → Prop} (h : GE c X e (A.map vwF) P) (lf : ∀ d, P d → LF d) : GP c X e A (fun d A' => P d ∧ A' = A) := fun H0 M0 B G0 F σ H r Q q =>
  h σ _ B H r.vF r.hc0 _ fun d v H1 t p s => q d v A F H1 ⟨p, rfl⟩ (r.to t) (RS.lf (r.to t) (lf d p) s)
def wv (o : Nat × Nat) (x k : Nat) : Nat := if k = 0 then o.1 else if k = 1 then o.2 else x
def wdD (o : Nat × Nat) (x : Nat) : D := .tup (rg 3 fun k => .int (wv o x k : Int))
def lv (h : Nat → Int) (o : Nat → Nat × Nat) (x y : Nat) : Int := if (o x).1 ≠ (o y).1 then h 2 else if (o x).2 ≠ (o y).2 then h 1 else if x ≠ y then h 0 else 0
structure Hts (h : Nat → Int) (i : Nat) : Prop where
  pos : ∀ j, j ≤ i → 1 ≤ h j ∧ h j ≤ 2 + 3 * j
  inc : ∀ j, j < i → h j < h (j + 1)
theorem lv_mt {n : Nat} {h : Nat → Int} {o : Nat → Nat × Nat} (H : Hts h 2) : Mt n (lv h o) := by
  have p0 := H.pos 0 (by decide)
  have p1 := H.pos 1 (by decide)
  have p2 := H.pos 2 (by decide)
  have i0 := H.inc 0 (by decide)
  have i1 := H.inc 1 (by decide)
  simp only [Nat.zero_add, Nat.reduceAdd] at i0 i1
  refine ⟨⟨fun x y hx hy => ?_, fun x hx => ?_, fun x y hx hy => ?_, fun x y hx hy => ?_⟩, fun x y z hx hy hz => ?_⟩
  · unfold lv; repeat (first | omega | split)
  · unfold lv; simp
  · unfold lv; repeat (first | omega | split)
  · unfold lv; repeat (first | omega | split)
  · unfold lv; repeat (first | omega | split)
abbrev apF (o : Nat → Nat × Nat) (x y : Nat) : List Nat := (List.range 3).filter fun k => !decide ((wv (o x) x k : Int) = (wv (o y) y k : Int))
theorem ap_lv (h : Nat → Int) (o : Nat → Nat × Nat) (x y : Nat) : (apF o x y = [] ∧ lv h o x y = 0) ∨ ∃ k t, apF o x y = k :: t ∧ k < 3 ∧ lv h o x y = h (2 - k) := by
  have e : List.range 3 = [0, 1, 2] := rfl
  unfold apF lv
  rw [e]
  by_cases h0 : (o x).1 = (o y).1
  · by_cases h1 : (o x).2 = (o y).2
    · by_cases h2 : x = y
      · left; simp [wv, h0, h1, h2]
      · right
        refine ⟨2, [], ?_, by decide, by simp [h0, h1, h2]⟩
        have : ¬ ((x : Int) = (y : Int)) := by omega
        simp [wv, h0, h1, h2, this]
    · right
      have : ¬ (((o x).2 : Int) = ((o y).2 : Int)) := by omega
      exact ⟨1, [2].filter fun k => !decide ((wv (o x) x k : Int) = (wv (o y) y k : Int)), by simp [wv, h0, h1, this, List.filter], by decide, by simp [h0, h1]⟩
  · right
    have : ¬ (((o x).1 : Int) = ((o y).1 : Int)) := by omega
    exact ⟨0, [1, 2].filter fun k => !decide ((wv (o x) x k : Int) = (wv (o y) y k : Int)), by simp [wv, h0, this, List.filter], by decide, by simp [h0]⟩
abbrev sLev : Stmt := top 61
abbrev NLev : List Str := ["_law_state_here", "_law_n", "_law_heights", "_law_k", "_law_words", "_law_rows_here", "_law_one", "_law_row", "_law_two", "_law_apart", "_law_x"]
theorem scLev : FnScope NLev ["_law_state_here", "_law_n"] (defScope sLev) := ⟨rfl, rfl, rfl, by decide +kernel, rfl, by decide +kernel, by decide +kernel⟩
theorem ok_lev {f : Addr} {fd : FuncData} (F : Fun g.K "_law_levels" "_law_levels" sLev f fd) (B : Nb g) (f1 : Fg g 1 "_law_take" (spTake c)) : Fo g 2 f fd ["_law_state_here", "_law_n"] (spMk c) := by
  refine fn_ok F scLev (fun _ => rfl) fun b n hr h4 => ?_
  replace h4 : n ≤ 4 := h4
  have hn6 : n ≤ 1000000 := by omega
  have h2 : (2 : Nat) ≤ 1000000 := by decide
  have h3 : (3 : Nat) ≤ 1000000 := by decide
  show GS c _ _ [.st, .da (.int (n : Int)), .no, .no, .no, .no, .no, .no, .no, .no, .no] _
  refine gs_cons (g1_asgL (psN 2) (gl_lstP (P := fun ds => ∃ v : Int, ds = [.int v] ∧ 1 ≤ v ∧ v ≤ 2) (ga_cons (ge_add (P := fun s => 1 ≤ s ∧ s ≤ 2) (Pa := fun s => s = 1) (Pb := fun s => ∃ v : Nat, s = v ∧ v < 2) (ge_ip gv_int rfl) (GE.imp (ge_take f1 hr 0 (m := 2) gv_int (by decide) (by decide)) fun d ⟨v, e, h⟩ => ⟨v, e, v, rfl, h⟩) fun x y e ⟨v, e2, h⟩ => by subst e e2; omega) ga_nil) fun ws ⟨d, ws1, e1, ⟨s, e2, p⟩, e3⟩ => ⟨[.int s], by subst e3 e1 e2; rfl, by simp, s, rfl, p⟩) fun ds ⟨v, e, v1, v2⟩ => ?_)
  subst e
  show GS c _ _ [.st, .da (.int (n : Int)), .mu [.int v], .no, .no, .no, .no, .no, .no, .no, .no] _
  refine gs_cons (g1_for (fun i A => ∃ (h : Nat → Int) (w : Sl), A = [.st, .da (.int (n : Int)), .mu (rg (i + 1) fun j => .int (h j)), w, .no, .no, .no, .no, .no, .no, .no] ∧ Hts h i) (gi_range1 (n := 2) B.range gv_int h2) ⟨fun _ => v, _, rfl, fun j hj => by show 1 ≤ v ∧ v ≤ _; omega, fun j hj => by omega⟩ (fun i d A hi yd ⟨h, w, e, hH⟩ => ⟨_, tg1_name 3, ?_⟩) fun A ⟨h, w, e, hH⟩ => ?_)
  · subst e yd
    show GS c _ _ [.st, .da (.int (n : Int)), .mu (rg (i + 1) fun j => .int (h j)), .da (.int (i : Int)), .no, .no, .no, .no, .no, .no, .no] _
    refine gs_cons (g1_appendP 2 rfl (gp_of (P := IP fun s => h i < s ∧ s ≤ h i + 3) (ge_add (Pa := fun s => s = h i + 1) (Pb := fun s => ∃ v : Nat, s = v ∧ v < 3) (ge_ip (gv_add (gv_ixL (gv_var 2) (gv_neg gv_int) atI_last) gv_int) rfl) (GE.imp (ge_take f1 hr 0 (m := 3) gv_int (by decide) (by decide)) fun d ⟨v, e, h⟩ => ⟨v, e, v, rfl, h⟩) fun x y e ⟨v, e2, h⟩ => by subst e e2; omega) fun d ⟨s, e, _⟩ => by subst e; exact .int s) (by rw [rg_len]; omega) fun d A' ⟨⟨s, e, p1, p2⟩, eA⟩ => ⟨by rw [eA]; rfl, gs_nil ?_⟩)
    subst e eA
    have hp := hH.pos i (Nat.le_refl _)
    refine ⟨fun j => if j = i + 1 then s else h j, .da (.int (i : Int)), ?_, fun j hj => ?_, fun j hj => ?_⟩
    · have e : (rg (i + 1 + 1) fun j => D.int (if j = i + 1 then s else h j)) = (rg (i + 1) fun j => .int (h j)) ++ [.int s] := by
        rw [rg_succ, if_pos rfl]
        congr 1
        exact rg_congr fun j hj => by rw [if_neg (by omega)]
      rw [e]; rfl
    · by_cases w : j = i + 1
      · show 1 ≤ (if j = i + 1 then s else h j) ∧ _
        rw [if_pos w]; omega
      · show 1 ≤ (if j = i + 1 then s else h j) ∧ _
        rw [if_neg w]
        exact hH.pos j (by omega)
    · show (if j = i + 1 then s else h j) < if j + 1 = i + 1 then s else h (j + 1)
      rw [if_neg (by omega)]
      by_cases w : j = i
      · rw [if_pos (by omega), w]; exact p1
      · rw [if_neg (by omega)]
        exact hH.inc j (by omega)
  subst e
  show GS c _ _ [.st, .da (.int (n : Int)), .mu (rg 3 fun j => .int (h j)), w, .no, .no, .no, .no, .no, .no, .no] _
  refine gs_cons (g1_asgC 4 [("_law_x", 10)] (P := fun ds => ∃ o : Nat → Nat × Nat, ds = rg n fun x => wdD (o x) x) (gc_inv (fun _ => true) (fun i ds => ∃ o : Nat → Nat × Nat, ds = rg i fun x => wdD (o x) x) (Pd := fun i d => ∃ p : Nat × Nat, d = wdD p i) (Γ' := fun i _ => [.st, .da (.int (n : Int)), .no, vw0 w, .no, .no, .no, .no, .no, .no, .da (.int (i : Int))]) (gi_range1 B.range (gv_var 1) hn6) (by omega) (js := [10]) (by decide) (fun i d hi yd => by subst yd; exact gg_name 10) (fun i d hi yd => gts_nil) (fun i d hi yd _ => ?_) ⟨fun _ => (0, 0), rfl⟩ (fun i ds d hi _ ⟨o, e⟩ ⟨p, e2⟩ => ⟨fun j => if j = i then p else o j, ?_⟩) (fun i ds hi z => nomatch z) (fun ds h => h)) fun ds ⟨o, e⟩ => ?_)
  · refine ge_tup (ga_cons (ge_take (X := (fmN g NLev (defScope sLev) scLev.nd b).blk _) f1 hr 0 (m := 2) gv_int (by decide) (by decide)) (ga_cons (ge_take (X := (fmN g NLev (defScope sLev) scLev.nd b).blk _) f1 hr 0 (m := 2) gv_int (by decide) (by decide)) (ga_cons (gv_var 10 (d := .int (i : Int))) ga_nil))) fun ws ⟨d1, ws1, e1, ⟨u1, q1, _⟩, d2, ws2, e2, ⟨u2, q2, _⟩, d3, ws3, e3, q3, e4⟩ => ⟨[.int (u1 : Int), .int (u2 : Int), .int (i : Int)], by subst e4 e3 e2 e1 q1 q2 q3; rfl, by simp, (u1, u2), rfl⟩
  · rw [e, e2, rg_succ]
    show _ = _ ++ [wdD (if i = i then p else o i) i]
    rw [if_pos rfl]
    congr 1
    exact rg_congr fun j hj => by show _ = wdD (if j = i then p else o j) j; rw [if_neg (by omega)]
  subst e
  refine gs_cons (g1_asgL (psN 5) (gl_lst (ds := []) ga_nil) fun ds e => ?_)
  subst e
  show GS c _ _ [.st, .da (.int (n : Int)), .mu (rg 3 fun j => .int (h j)), w, .da (.lst (rg n fun x => wdD (o x) x)), .mu [], .no, .no, .no, .no, .no] _
  refine gs_cons (g1_for (fun x A => ∃ (w3 w6 w7 w8 w9 : Sl), A = [.st, .da (.int (n : Int)), .mu (rg 3 fun j => .int (h j)), w3, .da (.lst (rg n fun x => wdD (o x) x)), .mu (rg x fun x => lrowD n (lv h o x)), w6, w7, w8, w9, .no]) (gi_listR (n := n) (f := fun x => wdD (o x) x) (gv_var 4)) ⟨_, _, _, _, _, rfl⟩ (fun x d A hx yd ⟨w3, w6, w7, w8, w9, e⟩ => ⟨_, tg1_name 6, ?_⟩) fun A ⟨w3, w6, w7, w8, w9, e⟩ => ?_)
  · subst e yd
    refine gs_cons (g1_asgL (psN 7) (gl_lst (ds := []) ga_nil) fun ds e => ?_)
    subst e
    show GS c _ _ [.st, .da (.int (n : Int)), .mu (rg 3 fun j => .int (h j)), w3, .da (.lst (rg n fun x => wdD (o x) x)), .mu (rg x fun x => lrowD n (lv h o x)), .da (wdD (o x) x), .mu [], w8, w9, .no] _
    refine gs_cons (g1_for (fun y A => ∃ (w8 w9 : Sl), A = [.st, .da (.int (n : Int)), .mu (rg 3 fun j => .int (h j)), w3, .da (.lst (rg n fun x => wdD (o x) x)), .mu (rg x fun x => lrowD n (lv h o x)), .da (wdD (o x) x), .mu (rg y fun y => .int (lv h o x y)), w8, w9, .no]) (gi_listR (n := n) (f := fun x => wdD (o x) x) (gv_var 4)) ⟨_, _, rfl⟩ (fun y d A hy yd ⟨w8, w9, e⟩ => ⟨_, tg1_name 8, ?_⟩) fun A ⟨w8, w9, e⟩ => ?_)
    · subst e yd
      show GS c _ _ [.st, .da (.int (n : Int)), .mu (rg 3 fun j => .int (h j)), w3, .da (.lst (rg n fun x => wdD (o x) x)), .mu (rg x fun x => lrowD n (lv h o x)), .da (wdD (o x) x), .mu (rg y fun y => .int (lv h o x y)), .da (wdD (o y) y), w9, .no] _
      refine gs_cons (g1_asgC 9 [("_law_k", 3)] (gc_fn (fun k => !decide ((wv (o x) x k : Int) = (wv (o y) y k : Int))) (fun k => .int (k : Int)) (gi_range1 (n := 3) B.range gv_int h3) (fun _ _ _ e => e) (by decide) (fun k hk => gg_name 3) (fun k hk => gts_one (gb_neI (gv_ixTn (gv_var 6) (gv_var 3) (rg_at hk)) (gv_ixTn (gv_var 8) (gv_var 3) (rg_at hk)))) fun k hk _ => gv_var 3) fun ds e => ?_)
      subst e
      have key := ap_lv h o x y
      unfold apF at key
      generalize ((List.range 3).filter fun k => !decide ((wv (o x) x k : Int) = (wv (o y) y k : Int))) = ap at key ⊢
      show GS c _ _ [.st, .da (.int (n : Int)), .mu (rg 3 fun j => .int (h j)), w3, .da (.lst (rg n fun x => wdD (o x) x)), .mu (rg x fun x => lrowD n (lv h o x)), .da (wdD (o x) x), .mu (rg y fun y => .int (lv h o x y)), .da (wdD (o y) y), .da (.lst (ap.map fun (k : Nat) => D.int (k : Int))), .no] _
      refine gs_cons (g1_appendP 7 rfl (gp_of (P := fun d => d = .int (lv h o x y)) (gv_if (gb_eqI (gv_len (ds := ap.map fun (k : Nat) => D.int (k : Int)) B.len (gv_var 9)) gv_int) (fun z => GV.eq gv_int ?_) fun z => ?_) fun d e => by subst e; exact .int _) (by rw [rg_len]; omega) fun d A' ⟨e, eA⟩ => ⟨by rw [eA]; rfl, gs_nil ?_⟩)
      · have z := of_decide_eq_true z
        rw [List.length_map] at z
        rcases key with ⟨_, k2⟩ | ⟨k, t, k1, _⟩
        · rw [k2]
        · rw [k1] at z; simp at z; omega
      · have z := of_decide_eq_false z
        rw [List.length_map] at z
        rcases key with ⟨k1, _⟩ | ⟨k, t, k1, k2, k3⟩
        · rw [k1] at z; simp at z
        · subst k1
          rw [k3]
          refine gv_ixLn (j := 2 - k) (gv_var 2) (GV.eq (gv_sub gv_int (gv_ixLn (j := 0) (d := .int (k : Int)) (gv_var 9) gv_int rfl)) ?_) (rg_at (show 2 - k < 3 by omega))
          congr 1
          omega
      · subst e eA
        refine ⟨.da (wdD (o y) y), .da (.lst (ap.map fun (k : Nat) => D.int (k : Int))), ?_⟩
        rw [rg_succ (n := y)]; rfl
    · subst e
      refine gs_cons (g1_appendP 5 rfl (gp_of (P := fun d => d = lrowD n (lv h o x)) (gv_tupleOf (ds := rg n fun y => .int (lv h o x y)) B.tuple (gv_var 7)) fun d e => by subst e; exact .tup fun d hd => by obtain ⟨i, _, rfl⟩ := rg_mem hd; exact .int _) (by rw [rg_len]; omega) fun d A' ⟨e, eA⟩ => ⟨by rw [eA]; rfl, gs_nil ?_⟩)
      subst e eA
      refine ⟨w3, .da (wdD (o x) x), .mu (rg n fun y => .int (lv h o x y)), w8, w9, ?_⟩
      rw [rg_succ (n := x)]; rfl
  · subst e
    exact gs_cons (g1_ret (gv_var 5) fun d e => ⟨lv h o, e, lv_mt hH⟩)
abbrev sRows : Stmt := top 62
theorem scRows : FnScope ["_law_state_here", "_law_most", "_law_n", "_law_pick"] ["_law_state_here", "_law_most"] (defScope sRows) := ⟨rfl, rfl, rfl, by decide +kernel, rfl, by decide +kernel, by decide +kernel⟩
def RowsP (d : D) : Prop := ∃ n, 1 ≤ n ∧ n ≤ 4 ∧ MtP n d
abbrev spRows (c : Cl) : Sp := spG c (fun _ : Unit => [.st, .da (.int 4)]) (fun _ => True) (fun _ d => RowsP d)
theorem ok_rows {f : Addr} {fd : FuncData} (F : Fun g.K "_law_rows" "_law_rows" sRows f fd) (B : Nb g) (f1 : Fg g 1 "_law_take" (spTake c)) (f2 : Fg g 2 "_law_web" (spWeb c)) (f3 : Fg g 3 "_law_of_tree" (spMk c)) (f4 : Fg g 2 "_law_grid" (spMk c)) (f5 : Fg g 2 "_law_band" (spMk c)) (f6 : Fg g 2 "_law_levels" (spMk c)) :
    Fo g 4 f fd ["_law_state_here", "_law_most"] (spRows c) := by
  refine fn_ok F scRows (fun _ => rfl) fun b _ hr _ => ?_
  show GS c _ _ [.st, .da (.int 4), .no, .no] _
  refine gs_cons (g1_asgE (psN 2) (ge_add (P := fun s => ∃ a : Nat, s = a ∧ 1 ≤ a ∧ a ≤ 4) (Pa := fun s => s = 1) (Pb := fun s => ∃ v : Nat, s = v ∧ v < 4) (ge_ip gv_int rfl) (GE.imp (ge_take f1 (hr.mono (by decide)) 0 (m := 4) (gv_var 1) (by decide) (by decide)) fun d ⟨v, e, h⟩ => ⟨v, e, v, rfl, h⟩) fun x y e ⟨v, e2, h⟩ => ⟨1 + v, by subst e e2; simp, by omega, by omega⟩) fun d ⟨s, e, n, e2, n1, n4⟩ => ?_)
  subst e e2
  refine gs_cons (g1_asgE (psN 3) (ge_take f1 (hr.mono (by decide)) 0 (m := 6) gv_int (by decide) (by decide)) fun d ⟨v, e, h⟩ => ?_)
  subst e
  show GS c _ _ [.st, .da (.int 4), .da (.int (n : Int)), .da (.int (v : Int))] _
  refine gs_cons (g1_ifB (gb_eqI (gv_var 3) gv_int) (fun _ => ?_) (fun _ => gs_nil ?_))
  · exact gs_cons (g1_ret (ge_call f2 (hr.mono (by decide)) (ga_consS 0 (ga2 (gv_var 2) gv_int)) fun ws e => ⟨(n, 2), e.symm, ⟨n4, by show 1 ≤ 2; omega, by show 2 ≤ 10; omega⟩, fun d e => e⟩) fun d e => ⟨n, n1, n4, e⟩)
  refine gs_cons (g1_ifB (gb_eqI (gv_var 3) gv_int) (fun _ => ?_) (fun _ => gs_nil ?_))
  · exact gs_cons (g1_ret (ge_call f2 (hr.mono (by decide)) (ga_consS 0 (ga2 (gv_var 2) gv_int)) fun ws e => ⟨(n, 5), e.symm, ⟨n4, by show 1 ≤ 5; omega, by show 5 ≤ 10; omega⟩, fun d e => e⟩) fun d e => ⟨n, n1, n4, e⟩)
  refine gs_cons (g1_ifB (gb_eqI (gv_var 3) gv_int) (fun _ => ?_) (fun _ => gs_nil ?_))
  · exact gs_cons (g1_ret (ge_call f3 (hr.mono (by decide)) (ga_consS 0 (ga1 (gv_var 2))) fun ws e => ⟨n, e.symm, n4, fun d e => e⟩) fun d e => ⟨n, n1, n4, e⟩)
  refine gs_cons (g1_ifB (gb_eqI (gv_var 3) gv_int) (fun _ => ?_) (fun _ => gs_nil ?_))
  · exact gs_cons (g1_ret (ge_call f4 (hr.mono (by decide)) (ga_consS 0 (ga1 (gv_var 2))) fun ws e => ⟨n, e.symm, n4, fun d e => e⟩) fun d e => ⟨n, n1, n4, e⟩)
  refine gs_cons (g1_ifB (gb_eqI (gv_var 3) gv_int) (fun _ => ?_) (fun _ => gs_nil ?_))
  · exact gs_cons (g1_ret (ge_call f5 (hr.mono (by decide)) (ga_consS 0 (ga1 (gv_var 2))) fun ws e => ⟨n, e.symm, n4, fun d e => e⟩) fun d e => ⟨n, n1, n4, e⟩)
  exact gs_cons (g1_ret (ge_call f6 (hr.mono (by decide)) (ga_consS 0 (ga1 (gv_var 2))) fun ws e => ⟨n, e.symm, n4, fun d e => e⟩) fun d e => ⟨n, n1, n4, e⟩)
end K33
end
section
set_option Elab.async false
set_option linter.all false
set_option maxRecDepth 100000
set_option exponentiation.threshold 10000
/-! V10: the law's state from the script -/
namespace K33
open PySem L2
variable {c : Cl} {g : Gx}
section
variable {X : Fm} {A : List Sl} {K : Kk} {tg it : Expr} {body : List Stmt} {pos : Pos} {n : Nat} {Y : Nat → D → Prop}
/-- a for loop at one state -/
theorem wS_for {σ : L2.St} {H0 G0 H : Hp} {M0 : Addr → Prop} {B : Option Addr} {F : Nat → List Addr} {Dn : L2.Ends} (Iv : Nat → List Sl → Prop) (r : RepS c A σ H0 M0 B G0 F H) (q : Conts c K Dn H0 M0 B G0)
    (hi : ∀ R : It → Hp → Prop, (∀ (J : It) (H1 : Hp) (G : Hp → Prop) (Yh : Nat → Hp → V → Hp → Prop), To B H H1 → Walk J n G Yh → (∀ H2, Ex (hid (MF M0 F) H1) H2 → G H2) →
      (∀ i x H2 H3 (M' : Addr → Prop), i < n → Ex (hid (MF M0 F) H1) (hid M' H2) → StB B H2 → (∀ p, H2 p = none → ¬ M' p) → (∀ a, B = some a → M' a) → Yh i H2 x H3 → To B H2 H3 ∧ ∃ d, Y i d ∧ Is c (hid M' H3) x d) → R J H1) → wI X tg it σ H R)
    (h0 : Iv 0 A) (hb : ∀ i d A', i < n → Y i d → Iv i A' → ∃ tr, TG1 c X tg d tr ∧ GS c X body (tr A') ⟨Iv (i + 1), K.rt, K.nx, Iv (i + 1)⟩) (hd : ∀ A', Iv n A' → K.nx A')
    (hp : ∀ i, PassesOwn (model (X.X i).prog (X.X i).w) (X.X i).A (X.X i).env (X.X i).xe := by exact fun _ => PassesOwn.never) (hs : ∀ i x, foldedSetIterable it (X.X i).env x = pure x := by intro _ _; rfl) : wS X (.For tg it body [] pos) Dn σ H :=
  ⟨_, fun i => ps_for (hp i) (X.calm i) (pi_w tg it i) (pg_w tg i) (pss_w body i) (hs i), hi _ fun J H1 G Yh t W hG hY => by
    have r1 := r.to t
    refine for_it W (fun i σ' H' => ∃ A', Iv i A' ∧ RS c A' σ' H0 M0 B (hid (MF M0 F) H1) H') ⟨A, h0, F, r1.rebase⟩ (fun i σ' H' _ ⟨A', _, F2, r2⟩ => hG H' (r2.g0.trans hid_le)) ?_ ?_
    · rintro i x σ' H' H'' hi' ⟨A', iv, F2, r2⟩ y
      obtain ⟨t3, d, yd, sd⟩ := hY i x H' H'' (MF M0 F2) hi' r2.g0 r2.hc.st (fun p hp => r2.hc.no hp) r2.hc.bm y
      obtain ⟨tr, ht, gb⟩ := hb i d A' hi' yd iv
      refine ht A' σ' H0 M0 B _ F2 H'' x (r2.to t3) sd _ fun σ'' rs => ?_
      refine gb H0 M0 B _ σ'' H'' rs _ ⟨fun A3 σ3 H3 g r3 => ⟨A3, g, r3⟩, q.rt, fun A3 σ3 H3 g r3 => q.nx A3 σ3 H3 g (r3.weak r1.g0), fun A3 σ3 H3 g r3 => ⟨A3, g, r3⟩⟩
    · rintro σ' H' ⟨A', iv, r'⟩
      exact q.nx A' σ' H' (hd A' iv) (r'.weak r1.g0)⟩
end
theorem SqL.hidK {K : PySem.W.Frag} {H H' : Hp} {M M' : Addr → Prop} {a : Addr} {xs : List V} (h : SqL K H a xs) (hm : ∀ b, ¬ M b) (e : Ex (hid M H) (hid M' H')) : SqL K H' a xs := by
  have e2 : Ex H H' := fun b o q => hid_le b o (e b o (hid_some.mpr ⟨hm b, q⟩))
  rcases h with h | h
  · left
    rcases h with h | ⟨o, h⟩
    · exact .inl (e2 _ _ h)
    · exact .inr ⟨o, e2 _ _ h⟩
  · exact .inr h
abbrev sState : Stmt := top 44
abbrev NStt : List Str := ["_law_script", "_law_seed", "_law_total", "_law_cell"]
theorem scState : FnScope NStt ["_law_script"] (defScope sState) := ⟨rfl, rfl, rfl, by decide +kernel, rfl, by decide +kernel, by decide +kernel⟩
def spState (K : PySem.W.Frag) : Sp := fun vs H Q E => ∃ (a : Addr) (ns : List Int), vs = [.ref a] ∧ SqL K H a (ns.map V.int) ∧ ∀ (p : Addr) (s t : Int) (H' : Hp), 0 ≤ s → Ex H H' → H p = none → H' p = some (.lst [.int s, .int t]) → Q (.ref p) H'
theorem cut_ints (ns : List Int) (lo hi : Option Int) : ∃ ms : List Int, cutV (ns.map V.int) lo hi = ms.map .int := by
  refine ⟨(ns.drop (HT.sIx (ns.map V.int).length 0 lo)).take (HT.sIx (ns.map V.int).length (ns.map V.int).length hi - HT.sIx (ns.map V.int).length 0 lo), ?_⟩
  unfold cutV
  rw [List.map_take, List.map_drop]
theorem ok_state {f : Addr} {fd : FuncData} (c : Cl) (F : Fun g.K "_law_state" "_law_state" sState f fd) (B : Nb g) : Fo g 1 f fd ["_law_script"] (spState g.K) := by
  refine F.ok scState (fun vs H Q E h => ?_) (fun cdv A outer s H vs Q E hr h => ?_)
  · obtain ⟨p, ns, rfl, _⟩ := h
    rfl
  · obtain ⟨p, ns, rfl, hs, k⟩ := h
    have key : wSs (fmN g NStt (defScope sState) scState.nd ⟨CX0, "_law_state", f, cdv, A, outer, s, H, E⟩) (defBody sState) { nx := fun _ H' => Q .non H', rt := Q } (L2.start NStt [.ref p]) H := by
      have hc : Hc (fun _ => False) none H := ⟨fun _ z => z.elim, fun _ z => (nomatch z), fun _ z => nomatch z⟩
      have r0 := rs_entryR (c := c) (N := NStt) (v := .ref p) (vs := []) (ws := []) hc .nil
      replace r0 : RS c [.raw (.ref p), .no, .no, .no] _ _ _ _ _ _ := r0
      refine gs_then (K := ⟨fun A' => A' = [.raw (.ref p), .da (.int 0), .no, .no], fun _ => False, fun _ => False, fun _ => False⟩) (g1_asgE (psN 1) gv_int fun d e => by subst e; rfl) r0 (fun A1 σ1 H1 e1 r1 => ?_) (fun _ z => z) (fun _ z => z) (fun _ z => z)
      subst e1
      refine gs_then (K := ⟨fun A' => A' = [.raw (.ref p), .da (.int 0), .da (.int 1), .no], fun _ => False, fun _ => False, fun _ => False⟩) (g1_asgE (psN 2) gv_int fun d e => by subst e; rfl) r1 (fun A2 σ2 H2 e2 r2 => ?_) (fun _ z => z) (fun _ z => z) (fun _ z => z)
      subst e2
      obtain ⟨F2, r2⟩ := r2
      have hs2 := SqL.hidK hs (fun b z => z) r2.g0
      obtain ⟨ms, hms⟩ := cut_ints ns none (some 63)
      have hp0 : σ2[0]? = some (some (.ref p)) := by
        obtain ⟨s, e, q⟩ := r2.sl 0 _ rfl
        rw [e, q.2]
      refine ⟨_, fun i => pss_cons (ps_w _ i) (pss_w _ i), wS_for (K := ⟨fun A' => ∃ (s t : Int) (w : Sl), 0 ≤ s ∧ A' = [.raw (.ref p), .da (.int s), .da (.int t), w], fun _ => False, fun _ => False, fun _ => False⟩) (n := ms.length) (Y := fun i d => ∃ m : Int, d = .int m) (fun i A' => ∃ (s t : Int) (w : Sl), 0 ≤ s ∧ A' = [.raw (.ref p), .da (.int s), .da (.int t), w]) r2 ⟨fun A3 σ3 H3 e3 r3 => ?_, fun _ _ _ z => z.elim, fun _ _ _ z => z.elim, fun _ _ _ z => z.elim⟩ ?_ ⟨0, 1, _, Int.le_refl _, rfl⟩ (fun i d A' hi ⟨m, em⟩ ⟨s, t, w, h0, e⟩ => ⟨_, tg1_name 3, ?_⟩) fun A' h => h⟩
      · obtain ⟨s, t, w, h0, e⟩ := e3
        subst e
        obtain ⟨F3, r3⟩ := r3
        refine ⟨_, fun i => pss_one (ps_w _ i), _, fun j => ps_ret (pe_w _ j), ?_⟩
        refine gl_lst (ds := [.int s, .int t]) (ga2 (gv_var 1) (gv_var 2)) (Nat.le_of_ble_eq_true rfl) σ3 _ none H3 r3.v0 r3.hc _ fun ds a vs H4 t4 e4 n4 s4 l4 => ?_
        subst e4
        have hvs := (show IsL c _ vs (lI [s, t]) from l4).ints
        subst hvs
        have ex : Ex H H4 := fun b o z => t4.ex b o (fun z => nomatch z) (r3.ex b o (fun z => nomatch z) z)
        refine k a s t H4 h0 ex ?_ s4
        cases z : H a with
        | none => rfl
        | some o => have := r3.ex a o (fun z => nomatch z) z; rw [n4] at this; cases this
      · intro R kk
        refine ⟨iList g.K (wE _ _), fun i => pi_list (pe_w _ i), ⟨_, pe_slL, tVar 0, fun i => pe_var rfl (Or.inl rfl) (by decide) (by decide), _, hp0, ?_⟩⟩
        refine ⟨_, fun _ => po_none, _, fun i => po_some (pe_w _ i), ?_⟩
        refine gv_int σ2 _ none H2 r2.v0 r2.hc _ fun d v H3 t3 e3 s3 => ?_
        subst e3
        rw [s3.intE]
        have hs3 := SqL.hidK hs2 (M := fun _ => False) (M' := fun _ => False) (fun b z => z) (fun b o z => hid_some.mpr ⟨fun z => z, t3.ex b o (fun z => nomatch z) (hid_some.mp z).2⟩)
        refine ⟨63, rfl, p, _, rfl, hs3, fun q hq => ?_⟩
        rw [hms]
        refine ⟨q, rfl, ⟨_, SqL.of upd_same⟩, ?_⟩
        have hc3 := t3.hc r2.hc
        refine kk _ _ _ _ (t3.trans (.new hq t3.st)) (by have := walk_list (K := g.K) (a := q) (xs := ms.map V.int); rwa [List.length_map] at this) (fun H4 x => SqL.of (x _ _ (hid_some.mpr ⟨hc3.no hq, upd_same⟩))) fun i x H4 H5 M' hi ex st nm bm y => ?_
        obtain ⟨rfl, hx⟩ := y
        rw [List.getElem?_map, List.getElem?_eq_getElem hi] at hx
        have hx := Option.some.inj hx
        subst hx
        exact ⟨.refl st, _, ⟨_, rfl⟩, .int _⟩
      · subst e em
        show GS c _ _ [.raw (.ref p), .da (.int s), .da (.int t), .da (.int m)] _
        refine gs_cons (g1_asgE (psN 1) (gv_add (gv_mul (gv_var 1) gv_int (.inr (by decide))) (gv_abs B.abs (gv_var 3))) fun d e => ?_)
        subst e
        refine gs_cons (g1_asgE (psN 2) (gv_mod (gv_intI B.int (gv_add (gv_mul (gv_var 2) gv_int (.inr (by decide))) (gv_var 3))) gv_int (by decide)) fun d e => ?_)
        subst e
        refine gs_nil ⟨_, _, .da (.int m), ?_, rfl⟩
        have : 0 ≤ (if m < 0 then -m else m) := by split <;> omega
        omega
    obtain ⟨t, ht, tq⟩ := key
    exact ⟨t, ht (), tq⟩
end K33
end
section
set_option Elab.async false
set_option linter.all false
set_option maxRecDepth 100000
set_option exponentiation.threshold 10000
/-! V11: the law's reasons: two try statements -/
namespace K33
open PySem L2
variable {c : Cl} {g : Gx} {C : Addr}
abbrev sRea : Stmt := top 65
abbrev NRea : List Str := ["_law_m", "_law_found", "e"]
theorem scRea : FnScope NRea ["_law_m"] (defScope sRea) := ⟨rfl, rfl, rfl, by decide +kernel, rfl, by decide +kernel, by decide +kernel⟩
abbrev cutsD : D := .lst [.str "cuts", .str "cuts"]
abbrev spRea (c : Cl) : Sp := spG c metArg (fun p => Met6 p.1 p.2 ∧ ¬ ∃ x, RepW p.1 (cuts p.1) p.2 x) (fun _ d => d = cutsD)
def tTry (K : PySem.W.Frag) (C : Addr) (sp : Sp) : TS := fun D σ H => tDrop (tCallS sp (WE (wAs K (.ref C) 2 (fun a cls d => tDrop (tBM K "list" rAppend (tVar 1) (tCons (tXf a cls d C "reason" (tVar 2)) tNil))) (fun _ _ _ _ => False) D)) (tCons (tVar 0) tNil)) D σ H
theorem run_try {K : PySem.W.Frag} {B : Option Addr} {H0 H : Hp} {sp : Sp} {D : L2.Ends} {v : V} {l : Addr} {w : Option V} {xs : List V} (te : PySem.W.exmOne K (.ref C) (.ref C) = some true) (nB : B ≠ some l) (hl : H l = some (.lst xs)) (h0 : H0 l = none) (t0 : To B H0 H) (hx : xs.length ≤ 100)
    (hsp : ∀ (Q : VK) (E : XK), (∀ dx H1, To B H H1 → H1 dx = none → E (.ref C) (some dx) (upd H1 dx (.xd [("reason", .str "cuts")]))) → sp [v] H Q E)
    (k : ∀ H2, To B H0 H2 → H2 l = some (.lst (xs ++ [.str "cuts"])) → D.nx [some v, some (.ref l), none] H2) : tTry K C sp D [some v, some (.ref l), w] H := by
  refine ⟨v, rfl, ?_⟩
  refine hsp _ _ fun dx H1 t1 nd => ?_
  refine ⟨true, te, fun _ a na => ?_, fun z => nomatch z⟩
  have hl1 : H1 l = some (.lst xs) := t1.ex l _ nB hl
  have ld : l ≠ dx := fun z => by rw [z, nd] at hl1; cases hl1
  have hl2 : upd H1 dx (.xd [("reason", .str "cuts")]) l = some (.lst xs) := by rw [upd_ne ld]; exact hl1
  refine ⟨_, rfl, .inl ⟨rfl, xs, SqL.of hl2⟩, _, rfl, rfl, rfl, dx, _, _, rfl, upd_same, rfl, ?_⟩
  refine ⟨l, xs, .str "cuts", rfl, rfl, hl2, by rw [sizeLine_eq]; omega, ?_⟩
  have t2 := t0.trans t1
  refine k _ ⟨fun b o n z => ?_, fun b z => ?_⟩ upd_same
  · have bl : b ≠ l := fun w => by rw [w, h0] at z; cases z
    have z2 := t2.ex b o n z
    have bd : b ≠ dx := fun w => by rw [w, nd] at z2; cases z2
    rw [upd_ne bl, upd_ne bd]; exact z2
  · obtain ⟨s, t, hs, e⟩ := t2.st b z
    have bl : b ≠ l := fun w => nB (by rw [← w]; exact z)
    have bd : b ≠ dx := fun w => by rw [w, nd] at e; cases e
    exact ⟨s, t, hs, by rw [upd_ne bl, upd_ne bd]; exact e⟩
theorem tk0 {X : Cx} : Takes X (fun _ _ _ _ => False) := fun _ _ x => by
  obtain ⟨_, _, _, _, _, _, _, _, _, _, _, _, _, _, _, _, z⟩ := x
  exact z.elim
theorem ok_rea {f : Addr} {fd : FuncData} (F : Fun g.K "_law_reasons" "_law_reasons" sRea f fd) (RR : RfX g.P g.w g.K g.mg g.base C) (f1 : FgX g 9 "possible_splits" (spPS c C)) (f2 : FgX g 10 "is_rigid" (spRig c C)) : Fo g 12 f fd ["_law_m"] (spRea c) := by
  obtain ⟨a1, d1, p1, F1, m1, k1, b1⟩ := f1
  obtain ⟨a2, d2, p2, F2, m2, k2, b2⟩ := f2
  refine F.ok scRea (fun vs H Q E h => ?_) (fun cdv A outer s H vs Q E hr h => ⟨tSeq (tAsg (tLst tNil) (gName 1)) (tSeq (tTry g.K C (spPS c C)) (tSeq (tTry g.K C (spRig c C)) (tRet (tVar 1)))), ?_, ?_⟩)
  · obtain ⟨i, M, B, _, _, p, _⟩ := h
    rw [Paired.len p]; rfl
  · have hr9 : Room 9 _ := hr.mono (by decide)
    have hr10 : Room 10 _ := hr.mono (by decide)
    refine pss_cons (ps_set (i := 1) scRea.nd rfl (Or.inl rfl) (pe_lst pa_nil)) (pss_cons ?_ (pss_cons ?_ (pss_one (ps_ret (pe_var (i := 1) (x := "_law_found") rfl (Or.inl rfl))))))
    · exact ps_try_as (i := 2) (tb := fun W => tDrop (tCallS (spPS c C) (WE W) (tCons (tVar 0) tNil))) (ts := fun a cls d => tDrop (tBM g.K "list" rAppend (tVar 1) (tCons (tXf a cls d C "reason" (tVar 2)) tNil))) (Wout := fun _ _ _ _ => False) rfl rfl scRea.nd rfl rfl ⟨rfl, by decide, Or.inl RR.nm⟩ tk0
        (fun W pn xe tk _ => pss_one (ps_expr (by exact (pe_callS F1 hr9 rfl m1 k1 b1 (fun σ => passAt tk σ) (by exact (pa_cons (pe_var rfl (Or.inl rfl)) pa_nil))))))
        (fun a oe cls d pn hz hf => pss_one (ps_expr (by exact (pe_bm PySem.F.plainAttrs_list PySem.F.slot_list_append PySem.F.type_list_append mt_append (pe_var rfl (Or.inl rfl)) (pa_cons (pe_xf RR.xf RR.noR hz hf (pe_var rfl (Or.inl rfl))) pa_nil)))))
    · exact ps_try_as (i := 2) (tb := fun W => tDrop (tCallS (spRig c C) (WE W) (tCons (tVar 0) tNil))) (ts := fun a cls d => tDrop (tBM g.K "list" rAppend (tVar 1) (tCons (tXf a cls d C "reason" (tVar 2)) tNil))) (Wout := fun _ _ _ _ => False) rfl rfl scRea.nd rfl rfl ⟨rfl, by decide, Or.inl RR.nm⟩ tk0
        (fun W pn xe tk _ => pss_one (ps_expr (by exact (pe_callS F2 hr10 rfl m2 k2 b2 (fun σ => passAt tk σ) (by exact (pa_cons (pe_var rfl (Or.inl rfl)) pa_nil))))))
        (fun a oe cls d pn hz hf => pss_one (ps_expr (by exact (pe_bm PySem.F.plainAttrs_list PySem.F.slot_list_append PySem.F.type_list_append mt_append (pe_var rfl (Or.inl rfl)) (pa_cons (pe_xf RR.xf RR.noR hz hf (pe_var rfl (Or.inl rfl))) pa_nil)))))
  · obtain ⟨⟨n, R⟩, M, B, ⟨M6, hno⟩, hc, p, hQ⟩ := h
    obtain ⟨v, rfl, sv⟩ := Paired.inv1 p
    refine ⟨Nat.zero_le _, fun l nl => ?_⟩
    show tTry g.K C (spPS c C) _ [some v, some (.ref l), none] (upd H l (.lst []))
    have nM : ¬ M l := hc.no nl
    have nB : B ≠ some l := fun z => nM (hc.bm l z)
    have t1 : To B H (upd H l (.lst [])) := .new nl hc.st
    have args : ∀ H2, To B H H2 → Hc M B H2 ∧ Paired (IsV c (hid M H2) B) [v] (metArg (n, R)) := fun H2 t => ⟨t.hc hc, .cons (IsV.mono (t.hid hc.bm) sv) .nil⟩
    refine run_try RR.te nB upd_same nl t1 (by simp) (fun Q E hE => ?_) fun H2 t2 hl2 => ?_
    · obtain ⟨q1, q2⟩ := args _ t1
      exact ⟨n, R, M, B, M6, q1, q2, .inr ⟨hno, hE⟩⟩
    · refine run_try RR.te nB hl2 nl t2 (by simp) (fun Q E hE => ?_) fun H3 t3 hl3 => ?_
      · obtain ⟨q1, q2⟩ := args _ t2
        exact ⟨n, R, M, B, M6, q1, q2, .inr ⟨hno, hE⟩⟩
      · refine ⟨_, rfl, ?_⟩
        refine hQ cutsD _ H3 t3 rfl ?_
        refine IsL.lstI (vs := [.str "cuts", .str "cuts"]) (hid_some.mpr ⟨nM, hl3⟩) ?_
        exact .cons (.str _) (.cons (.str _) .nil)
end K33
end
section
set_option Elab.async false
set_option linter.all false
set_option maxRecDepth 100000
set_option exponentiation.threshold 10000
/-! M1: weights on up to four points, in numbers -/
namespace K33
open PySem L2
theorem spl4 : spl 4 = [[1], [1, 2], [1, 2, 3], [1, 3], [2], [2, 3], [3]] := by decide +kernel
theorem spl3 : spl 3 = [[1], [1, 2], [2]] := by decide +kernel
theorem spl2 : spl 2 = [[1]] := by decide +kernel
theorem spl1 : spl 1 = [] := by decide +kernel
structure E4 (R : Fn2) (x : Nat → Rat) : Prop where
  p0 : 0 ≤ x 0
  p1 : 0 ≤ x 1
  p2 : 0 ≤ x 2
  p3 : 0 ≤ x 3
  p4 : 0 ≤ x 4
  p5 : 0 ≤ x 5
  p6 : 0 ≤ x 6
  e01 : x 0 + x 1 + x 2 + x 3 = R 0 1
  e02 : x 1 + x 2 + x 4 + x 5 = R 0 2
  e03 : x 2 + x 3 + x 5 + x 6 = R 0 3
  e12 : x 0 + x 3 + x 4 + x 5 = R 1 2
  e13 : x 0 + x 1 + x 5 + x 6 = R 1 3
  e23 : x 1 + x 3 + x 4 + x 6 = R 2 3
theorem np4 : np 4 = 6 := by decide +kernel
theorem px4 : px 4 0 = (0, 1) ∧ px 4 1 = (0, 2) ∧ px 4 2 = (0, 3) ∧ px 4 3 = (1, 2) ∧ px 4 4 = (1, 3) ∧ px 4 5 = (2, 3) := by decide +kernel
def cN (s : List Int) (x y : Nat) : Rat := cutR s x y
theorem cutR_01 (s : List Int) (x y : Nat) : cutR s x y = if (decide ((x : Int) ∈ s) != decide ((y : Int) ∈ s)) = true then 1 else 0 := rfl
theorem rep4 {R : Fn2} {x : Nat → Rat} : RepW 4 (cuts 4) R x ↔ E4 R x := by
  obtain ⟨q0, q1, q2, q3, q4, q5⟩ := px4
  have hl : (cuts 4).length = 7 := by rw [List.length_map, spl4]; rfl
  have row : ∀ i, Sq 7 (fun j => x j * colF 4 (cuts 4) R j i) = x 0 * cutR [1] (px 4 i).1 (px 4 i).2 + x 1 * cutR [1, 2] (px 4 i).1 (px 4 i).2 + x 2 * cutR [1, 2, 3] (px 4 i).1 (px 4 i).2 + x 3 * cutR [1, 3] (px 4 i).1 (px 4 i).2 + x 4 * cutR [2] (px 4 i).1 (px 4 i).2 + x 5 * cutR [2, 3] (px 4 i).1 (px 4 i).2 + x 6 * cutR [3] (px 4 i).1 (px 4 i).2 := fun i => by
    simp only [Sq]
    unfold colF cuts
    rw [spl4]
    simp only [List.map_cons, List.map_nil, List.getD_cons_zero, List.getD_cons_succ]
    grind
  have rhs : ∀ i, colF 4 (cuts 4) R 7 i = R (px 4 i).1 (px 4 i).2 := fun i => by
    unfold colF cuts
    rw [spl4]
    rfl
  unfold RepW Wts
  rw [hl, np4]
  constructor
  · rintro ⟨h, e⟩
    have r0 := e 0 (by decide)
    have r1 := e 1 (by decide)
    have r2 := e 2 (by decide)
    have r3 := e 3 (by decide)
    have r4 := e 4 (by decide)
    have r5 := e 5 (by decide)
    rw [row, rhs, q0] at r0
    rw [row, rhs, q1] at r1
    rw [row, rhs, q2] at r2
    rw [row, rhs, q3] at r3
    rw [row, rhs, q4] at r4
    rw [row, rhs, q5] at r5
    simp [cutR] at r0 r1 r2 r3 r4 r5
    exact ⟨h 0 (by decide), h 1 (by decide), h 2 (by decide), h 3 (by decide), h 4 (by decide), h 5 (by decide), h 6 (by decide), by grind, by grind, by grind, by grind, by grind, by grind⟩
  · intro E
    obtain ⟨p0, p1, p2, p3, p4, p5, p6, e0, e1, e2, e3, e4, e5⟩ := E
    refine ⟨fun j hj => ?_, fun i hi => ?_⟩
    · match j, hj with
      | 0, _ => exact p0
      | 1, _ => exact p1
      | 2, _ => exact p2
      | 3, _ => exact p3
      | 4, _ => exact p4
      | 5, _ => exact p5
      | 6, _ => exact p6
    · rw [row, rhs]
      match i, hi with
      | 0, _ => rw [q0]; simp [cutR]; grind
      | 1, _ => rw [q1]; simp [cutR]; grind
      | 2, _ => rw [q2]; simp [cutR]; grind
      | 3, _ => rw [q3]; simp [cutR]; grind
      | 4, _ => rw [q4]; simp [cutR]; grind
      | 5, _ => rw [q5]; simp [cutR]; grind
def mx (a b c : Rat) : Rat := if a ≤ b then (if b ≤ c then c else b) else (if a ≤ c then c else a)
theorem mx_ge (a b c : Rat) : a ≤ mx a b c ∧ b ≤ mx a b c ∧ c ≤ mx a b c := by
  unfold mx
  split <;> split <;> grind
theorem mx_le {a b c d : Rat} (h1 : a ≤ d) (h2 : b ≤ d) (h3 : c ≤ d) : mx a b c ≤ d := by
  unfold mx
  split <;> split <;> assumption
theorem ex4 {R : Fn2} (M : Met 4 R) : ∃ x, RepW 4 (cuts 4) R x := by
  have t := M.tri
  have s := M.sym
  have k : ∀ x y z, x < 4 → y < 4 → z < 4 → R x z ≤ R x y + R y z := t
  let Mx := mx (R 0 1 + R 2 3) (R 0 2 + R 1 3) (R 0 3 + R 1 2)
  obtain ⟨g1, g2, g3⟩ := mx_ge (R 0 1 + R 2 3) (R 0 2 + R 1 3) (R 0 3 + R 1 2)
  have s01 := s 0 1 (by decide) (by decide)
  have s02 := s 0 2 (by decide) (by decide)
  have s03 := s 0 3 (by decide) (by decide)
  have s12 := s 1 2 (by decide) (by decide)
  have s13 := s 1 3 (by decide) (by decide)
  have s23 := s 2 3 (by decide) (by decide)
  have T : ∀ x y z, x < 4 → y < 4 → z < 4 → R x z ≤ R x y + R y z := k
  have t1 := T 0 1 2 (by decide) (by decide) (by decide)
  have t2 := T 0 1 3 (by decide) (by decide) (by decide)
  have t3 := T 0 2 1 (by decide) (by decide) (by decide)
  have t4 := T 0 2 3 (by decide) (by decide) (by decide)
  have t5 := T 0 3 1 (by decide) (by decide) (by decide)
  have t6 := T 0 3 2 (by decide) (by decide) (by decide)
  have t7 := T 1 0 2 (by decide) (by decide) (by decide)
  have t8 := T 1 0 3 (by decide) (by decide) (by decide)
  have t9 := T 2 0 3 (by decide) (by decide) (by decide)
  have ta := T 1 2 3 (by decide) (by decide) (by decide)
  have tb := T 1 3 2 (by decide) (by decide) (by decide)
  have tc := T 2 1 3 (by decide) (by decide) (by decide)
  have u0 : mx (R 0 1 + R 2 3) (R 0 2 + R 1 3) (R 0 3 + R 1 2) ≤ R 0 1 + R 0 2 + R 0 3 := mx_le (by grind) (by grind) (by grind)
  have u1 : mx (R 0 1 + R 2 3) (R 0 2 + R 1 3) (R 0 3 + R 1 2) ≤ R 0 1 + R 1 2 + R 1 3 := mx_le (by grind) (by grind) (by grind)
  have u2 : mx (R 0 1 + R 2 3) (R 0 2 + R 1 3) (R 0 3 + R 1 2) ≤ R 0 2 + R 1 2 + R 2 3 := mx_le (by grind) (by grind) (by grind)
  have u3 : mx (R 0 1 + R 2 3) (R 0 2 + R 1 3) (R 0 3 + R 1 2) ≤ R 0 3 + R 1 3 + R 2 3 := mx_le (by grind) (by grind) (by grind)
  generalize mx (R 0 1 + R 2 3) (R 0 2 + R 1 3) (R 0 3 + R 1 2) = m at g1 g2 g3 u0 u1 u2 u3
  refine ⟨fun j => match j with | 0 => (R 0 1 + R 1 2 + R 1 3 - m) / 2 | 1 => (m - (R 0 3 + R 1 2)) / 2 | 2 => (R 0 1 + R 0 2 + R 0 3 - m) / 2 | 3 => (m - (R 0 2 + R 1 3)) / 2 | 4 => (R 0 2 + R 1 2 + R 2 3 - m) / 2 | 5 => (m - (R 0 1 + R 2 3)) / 2 | _ => (R 0 3 + R 1 3 + R 2 3 - m) / 2, rep4.mpr ?_⟩
  constructor <;> grind
end K33
end
section
set_option Elab.async false
set_option linter.all false
set_option maxRecDepth 100000
set_option exponentiation.threshold 10000
/-! M2: possible splits are those that bear weight -/
namespace K33
open PySem L2
theorem cut_some : ∀ {n : Nat}, 1 ≤ n → n ≤ 4 → ∀ s ∈ spl n, ∃ i, i < np n ∧ cutR s (px n i).1 (px n i).2 = 1
  | 1, _, _ => by rw [spl1]; intro s h; cases h
  | 2, _, _ => by rw [spl2]; decide +kernel
  | 3, _, _ => by rw [spl3]; decide +kernel
  | 4, _, _ => by rw [spl4]; decide +kernel
section
variable {n k : Nat} {R : Fn2} {s : List Int}
theorem pcol_lt {j i : Nat} (h : j < (cuts n).length) : colF n (pcol n R) (neF (cutR s)) j i = colF n (cuts n) R j i := by
  unfold colF pcol
  rw [List.getD_eq_getElem?_getD, List.getD_eq_getElem?_getD, List.getElem?_append_left h, List.getElem?_eq_getElem h]
  rfl
theorem pcol_at {i : Nat} : colF n (pcol n R) (neF (cutR s)) (cuts n).length i = -(R (px n i).1 (px n i).2) := by
  unfold colF pcol
  rw [List.getD_eq_getElem?_getD, List.getElem?_append_right (Nat.le_refl _), Nat.sub_self]
  rfl
theorem pcol_end {i : Nat} : colF n (pcol n R) (neF (cutR s)) ((cuts n).length + 1) i = -(cutR s (px n i).1 (px n i).2) := by
  unfold colF pcol
  rw [List.getD_eq_getElem?_getD, List.getElem?_eq_none (by simp)]
  rfl
theorem col_R {i : Nat} : colF n (cuts n) R (cuts n).length i = R (px n i).1 (px n i).2 := by
  unfold colF
  rw [List.getD_eq_getElem?_getD, List.getElem?_eq_none (Nat.le_refl _)]
  rfl
theorem col_k {i : Nat} (h : (spl n)[k]? = some s) : colF n (cuts n) R k i = cutR s (px n i).1 (px n i).2 := by
  unfold colF cuts
  rw [List.getD_eq_getElem?_getD, List.getElem?_map, h]
  rfl
theorem cutR_nn (s : List Int) (x y : Nat) : 0 ≤ cutR s x y := by
  unfold cutR
  split <;> decide
theorem poss_iff (h1 : 1 ≤ n) (h4 : n ≤ 4) (hk : (spl n)[k]? = some s) : PossP n R s ↔ ∃ w, RepW n (cuts n) R w ∧ 0 < w k := by
  have hL : k < (cuts n).length := by rw [List.length_map]; exact (List.getElem?_eq_some_iff.mp hk).1
  have hP : (pcol n R).length = (cuts n).length + 1 := by unfold pcol; simp
  have sum : ∀ (y : Nat → Rat) (i : Nat), Sq ((cuts n).length + 1) (fun j => y j * colF n (pcol n R) (neF (cutR s)) j i) = Sq (cuts n).length (fun j => y j * colF n (cuts n) R j i) - y (cuts n).length * R (px n i).1 (px n i).2 := fun y i => by
    show Sq (cuts n).length _ + y (cuts n).length * colF n (pcol n R) (neF (cutR s)) (cuts n).length i = _
    rw [Sq_congr (fun j hj => by rw [pcol_lt hj]), pcol_at]
    grind
  constructor
  · rintro ⟨y, hy, he⟩
    rw [hP] at hy he
    obtain ⟨i0, hi0, hc0⟩ := cut_some h1 h4 s (List.mem_of_getElem? hk)
    have key : ∀ i, i < np n → Sq (cuts n).length (fun j => y j * colF n (cuts n) R j i) + cutR s (px n i).1 (px n i).2 = y (cuts n).length * R (px n i).1 (px n i).2 := fun i hi => by
      have := he i hi
      rw [sum, pcol_end] at this
      grind
    have ht : 0 ≤ y (cuts n).length := hy _ (by omega)
    have hS : ∀ i, 0 ≤ Sq (cuts n).length (fun j => y j * colF n (cuts n) R j i) := fun i => Sq_nonneg fun j hj => by
      refine Rat.mul_nonneg (hy j (by omega)) ?_
      have hj2 : j < (spl n).length := by rwa [List.length_map] at hj
      rw [col_k (List.getElem?_eq_getElem hj2)]
      exact cutR_nn _ _ _
    have ht0 : 0 < y (cuts n).length := by
      have e := key i0 hi0
      rw [hc0] at e
      have := hS i0
      rcases Rat.le_iff_lt_or_eq.mp ht with z | z
      · exact z
      · rw [← z] at e; grind
    refine ⟨fun j => (y (cuts n).length)⁻¹ * (if j = k then y k + 1 else y j), ⟨fun j hj => ?_, fun i hi => ?_⟩, ?_⟩
    · refine Rat.mul_nonneg (Rat.le_of_lt (Rat.inv_pos.mpr ht0)) ?_
      split
      · have := hy k (by omega); grind
      · exact hy j (by omega)
    · have e1 : Sq (cuts n).length (fun j => (y (cuts n).length)⁻¹ * (if j = k then y k + 1 else y j) * colF n (cuts n) R j i) = (y (cuts n).length)⁻¹ * Sq (cuts n).length (fun j => (if j = k then y k + 1 else y j) * colF n (cuts n) R j i) := by
        rw [← Sq_mul]
        exact Sq_congr fun j _ => by grind
      rw [e1, Sq_upd, if_pos hL, col_k hk, col_R]
      have e2 := key i hi
      have e3 : (y (cuts n).length)⁻¹ * y (cuts n).length = 1 := Rat.inv_mul_cancel _ (by grind)
      have e4 : (y k + 1 - y k) * cutR s (px n i).1 (px n i).2 = cutR s (px n i).1 (px n i).2 := by grind
      rw [e4, e2, ← Rat.mul_assoc, e3, Rat.one_mul]
    · show 0 < _ * (if k = k then y k + 1 else y k)
      rw [if_pos rfl]
      refine Rat.mul_pos (Rat.inv_pos.mpr ht0) ?_
      have := hy k (by omega)
      grind
  · rintro ⟨w, ⟨hw, he⟩, h0⟩
    have hi0 : 0 < (w k)⁻¹ := Rat.inv_pos.mpr h0
    have e3 : (w k)⁻¹ * w k = 1 := Rat.inv_mul_cancel _ (by grind)
    refine ⟨fun j => if j = (cuts n).length then (w k)⁻¹ else if j = k then 0 else (w k)⁻¹ * w j, fun j hj => ?_, fun i hi => ?_⟩
    · show 0 ≤ (if j = (cuts n).length then (w k)⁻¹ else if j = k then 0 else (w k)⁻¹ * w j)
      rw [hP] at hj
      split
      · exact Rat.le_of_lt hi0
      · split
        · exact Rat.le_refl
        · exact Rat.mul_nonneg (Rat.le_of_lt hi0) (hw j (by omega))
    · rw [hP, sum, pcol_end, if_pos rfl]
      have e1 : Sq (cuts n).length (fun j => (if j = (cuts n).length then (w k)⁻¹ else if j = k then 0 else (w k)⁻¹ * w j) * colF n (cuts n) R j i) = Sq (cuts n).length (fun j => (if j = k then 0 else (fun j => (w k)⁻¹ * w j) j) * colF n (cuts n) R j i) := Sq_congr fun j hj => by rw [if_neg (by omega)]
      have e5 : Sq (cuts n).length (fun j => (w k)⁻¹ * w j * colF n (cuts n) R j i) = (w k)⁻¹ * R (px n i).1 (px n i).2 := by
        rw [← col_R (R := R), ← he i hi, ← Sq_mul]
        exact Sq_congr fun j _ => by grind
      rw [e1, Sq_upd, if_pos hL, col_k hk, e5, e3]
      grind
end
end K33
end
section
set_option Elab.async false
set_option linter.all false
set_option maxRecDepth 100000
set_option exponentiation.threshold 10000
/-! M3: what the law says of possible splits and rigidity -/
namespace K33
open PySem L2
structure E3 (R : Fn2) (x : Nat → Rat) : Prop where
  p0 : 0 ≤ x 0
  p1 : 0 ≤ x 1
  p2 : 0 ≤ x 2
  e01 : x 0 + x 1 = R 0 1
  e02 : x 1 + x 2 = R 0 2
  e12 : x 0 + x 2 = R 1 2
theorem np3 : np 3 = 3 := by decide +kernel
theorem px3 : px 3 0 = (0, 1) ∧ px 3 1 = (0, 2) ∧ px 3 2 = (1, 2) := by decide +kernel
theorem rep3 {R : Fn2} {x : Nat → Rat} : RepW 3 (cuts 3) R x ↔ E3 R x := by
  obtain ⟨q0, q1, q2⟩ := px3
  have hl : (cuts 3).length = 3 := by rw [List.length_map, spl3]; rfl
  have row : ∀ i, Sq 3 (fun j => x j * colF 3 (cuts 3) R j i) = x 0 * cutR [1] (px 3 i).1 (px 3 i).2 + x 1 * cutR [1, 2] (px 3 i).1 (px 3 i).2 + x 2 * cutR [2] (px 3 i).1 (px 3 i).2 := fun i => by
    simp only [Sq]
    unfold colF cuts
    rw [spl3]
    simp only [List.map_cons, List.map_nil, List.getD_cons_zero, List.getD_cons_succ]
    grind
  have rhs : ∀ i, colF 3 (cuts 3) R 3 i = R (px 3 i).1 (px 3 i).2 := fun i => by
    unfold colF cuts
    rw [spl3]
    rfl
  unfold RepW Wts
  rw [hl, np3]
  constructor
  · rintro ⟨h, e⟩
    have r0 := e 0 (by decide)
    have r1 := e 1 (by decide)
    have r2 := e 2 (by decide)
    rw [row, rhs, q0] at r0
    rw [row, rhs, q1] at r1
    rw [row, rhs, q2] at r2
    simp [cutR] at r0 r1 r2
    exact ⟨h 0 (by decide), h 1 (by decide), h 2 (by decide), by grind, by grind, by grind⟩
  · intro E
    obtain ⟨p0, p1, p2, e0, e1, e2⟩ := E
    refine ⟨fun j hj => ?_, fun i hi => ?_⟩
    · match j, hj with
      | 0, _ => exact p0
      | 1, _ => exact p1
      | 2, _ => exact p2
    · rw [row, rhs]
      match i, hi with
      | 0, _ => rw [q0]; simp [cutR]; grind
      | 1, _ => rw [q1]; simp [cutR]; grind
      | 2, _ => rw [q2]; simp [cutR]; grind
structure E2 (R : Fn2) (x : Nat → Rat) : Prop where
  p0 : 0 ≤ x 0
  e01 : x 0 = R 0 1
theorem rep2 {R : Fn2} {x : Nat → Rat} : RepW 2 (cuts 2) R x ↔ E2 R x := by
  have hn : np 2 = 1 := by decide +kernel
  have q0 : px 2 0 = (0, 1) := by decide +kernel
  have hl : (cuts 2).length = 1 := by rw [List.length_map, spl2]; rfl
  have row : ∀ i, Sq 1 (fun j => x j * colF 2 (cuts 2) R j i) = x 0 * cutR [1] (px 2 i).1 (px 2 i).2 := fun i => by
    simp only [Sq]
    unfold colF cuts
    rw [spl2]
    simp only [List.map_cons, List.map_nil, List.getD_cons_zero, List.getD_cons_succ]
    grind
  have rhs : ∀ i, colF 2 (cuts 2) R 1 i = R (px 2 i).1 (px 2 i).2 := fun i => by
    unfold colF cuts
    rw [spl2]
    rfl
  unfold RepW Wts
  rw [hl, hn]
  constructor
  · rintro ⟨h, e⟩
    have r0 := e 0 (by decide)
    rw [row, rhs, q0] at r0
    simp [cutR] at r0
    exact ⟨h 0 (by decide), by grind⟩
  · intro E
    obtain ⟨p0, e0⟩ := E
    refine ⟨fun j hj => ?_, fun i hi => ?_⟩
    · match j, hj with
      | 0, _ => exact p0
    · rw [row, rhs]
      match i, hi with
      | 0, _ => rw [q0]; simp [cutR]; grind
/-- every metric on up to four points is a sum of cuts -/
theorem ex_all {R : Fn2} : ∀ {n : Nat}, Met n R → n ≤ 4 → ∃ x, RepW n (cuts n) R x
  | 0, M, _ => absurd M.pos (by decide)
  | 1, _, _ => by
    have hn : np 1 = 0 := by decide +kernel
    refine ⟨fun _ => 0, fun j hj => Rat.le_refl, fun i hi => ?_⟩
    rw [hn] at hi
    omega
  | 2, M, _ => ⟨fun _ => R 0 1, rep2.mpr ⟨Rat.le_of_lt (M.apa 0 1 (by decide) (by decide) (by decide)), rfl⟩⟩
  | 3, M, _ => by
    have s01 := M.sym 0 1 (by decide) (by decide)
    have s02 := M.sym 0 2 (by decide) (by decide)
    have s12 := M.sym 1 2 (by decide) (by decide)
    have t1 := M.tri 0 1 2 (by decide) (by decide) (by decide)
    have t2 := M.tri 0 2 1 (by decide) (by decide) (by decide)
    have t3 := M.tri 1 0 2 (by decide) (by decide) (by decide)
    refine ⟨fun j => match j with | 0 => (R 0 1 + R 1 2 - R 0 2) / 2 | 1 => (R 0 1 + R 0 2 - R 1 2) / 2 | _ => (R 0 2 + R 1 2 - R 0 1) / 2, rep3.mpr ?_⟩
    constructor <;> grind
  | 4, M, _ => ex4 M
theorem lmin_le (l : List Rat) : ∀ b, lmin l b ≤ b ∧ ∀ q ∈ l, lmin l b ≤ q := by
  induction l with
  | nil => intro b; exact ⟨Rat.le_refl, fun q h => by cases h⟩
  | cons a l ih =>
    intro b
    have e : lmin (a :: l) b = lmin l (if a < b then a else b) := rfl
    rw [e]
    obtain ⟨i1, i2⟩ := ih (if a < b then a else b)
    refine ⟨?_, fun q hq => ?_⟩
    · split at i1 <;> grind
    · rcases List.mem_cons.mp hq with rfl | hq
      · split at i1 <;> grind
      · exact i2 q hq
theorem lmin_mem (l : List Rat) : ∀ b, lmin l b = b ∨ lmin l b ∈ l := by
  induction l with
  | nil => intro b; exact .inl rfl
  | cons a l ih =>
    intro b
    have e : lmin (a :: l) b = lmin l (if a < b then a else b) := rfl
    rw [e]
    rcases ih (if a < b then a else b) with h | h
    · rw [h]
      split
      · right; exact List.mem_cons_self
      · left; rfl
    · right; exact List.mem_cons_of_mem _ h
/-- the shifts -/
def upQ (n : Nat) (x : Nat → Rat) : Rat := if n = 4 then lmin [x 3, x 5] (x 1) else 0
def dnQ (n : Nat) (x : Nat → Rat) : Rat := if n = 4 then lmin [x 2, x 4, x 6] (x 0) else 0
def moQ (n : Nat) (x : Nat → Rat) (k : Nat) (s : List Int) : Rat := x k + if s.length = 2 then dnQ n x else upQ n x
theorem up4 (x : Nat → Rat) : upQ 4 x ≤ x 1 ∧ upQ 4 x ≤ x 3 ∧ upQ 4 x ≤ x 5 ∧ (upQ 4 x = x 1 ∨ upQ 4 x = x 3 ∨ upQ 4 x = x 5) := by
  unfold upQ
  rw [if_pos rfl]
  obtain ⟨h1, h2⟩ := lmin_le [x 3, x 5] (x 1)
  refine ⟨h1, h2 _ (by simp), h2 _ (by simp), ?_⟩
  rcases lmin_mem [x 3, x 5] (x 1) with h | h
  · exact .inl h
  · simp at h; exact .inr h
theorem dn4 (x : Nat → Rat) : dnQ 4 x ≤ x 0 ∧ dnQ 4 x ≤ x 2 ∧ dnQ 4 x ≤ x 4 ∧ dnQ 4 x ≤ x 6 ∧ (dnQ 4 x = x 0 ∨ dnQ 4 x = x 2 ∨ dnQ 4 x = x 4 ∨ dnQ 4 x = x 6) := by
  unfold dnQ
  rw [if_pos rfl]
  obtain ⟨h1, h2⟩ := lmin_le [x 2, x 4, x 6] (x 0)
  refine ⟨h1, h2 _ (by simp), h2 _ (by simp), h2 _ (by simp), ?_⟩
  rcases lmin_mem [x 2, x 4, x 6] (x 0) with h | h
  · exact .inl h
  · simp at h; exact .inr h
theorem e4_eq {R : Fn2} {x w : Nat → Rat} (a : E4 R x) (b : E4 R w) : ∃ l : Rat, w 0 = x 0 + l ∧ w 1 = x 1 - l ∧ w 2 = x 2 + l ∧ w 3 = x 3 - l ∧ w 4 = x 4 + l ∧ w 5 = x 5 - l ∧ w 6 = x 6 + l := by
  obtain ⟨_, _, _, _, _, _, _, a1, a2, a3, a4, a5, a6⟩ := a
  obtain ⟨_, _, _, _, _, _, _, b1, b2, b3, b4, b5, b6⟩ := b
  exact ⟨w 0 - x 0, by grind, by grind, by grind, by grind, by grind, by grind, by grind⟩
theorem e4_mv {R : Fn2} {x : Nat → Rat} (a : E4 R x) {l : Rat} (h1 : l ≤ upQ 4 x) (h2 : -l ≤ dnQ 4 x) : E4 R fun j => if j % 2 = 1 then x j - l else x j + l := by
  obtain ⟨u1, u3, u5, _⟩ := up4 x
  obtain ⟨d0, d2, d4, d6, _⟩ := dn4 x
  obtain ⟨_, _, _, _, _, _, _, a1, a2, a3, a4, a5, a6⟩ := a
  constructor <;> simp <;> grind
theorem poss4 {R : Fn2} {x : Nat → Rat} (a : E4 R x) {k : Nat} (hk : k < 7) : (∃ w, E4 R w ∧ 0 < w k) ↔ 0 < x k + if k % 2 = 1 then dnQ 4 x else upQ 4 x := by
  obtain ⟨u1, u3, u5, ue⟩ := up4 x
  obtain ⟨d0, d2, d4, d6, de⟩ := dn4 x
  have p : 0 ≤ upQ 4 x ∧ 0 ≤ dnQ 4 x := by
    obtain ⟨_, _, _, _, _, _, _, _, _, _, _, _, _⟩ := a
    constructor <;> grind
  constructor
  · rintro ⟨w, b, h0⟩
    obtain ⟨l, e0, e1, e2, e3, e4, e5, e6⟩ := e4_eq a b
    obtain ⟨b0, b1, b2, b3, b4, b5, b6, _, _, _, _, _, _⟩ := b
    have hl : l ≤ upQ 4 x ∧ -l ≤ dnQ 4 x := by constructor <;> grind
    match k, hk with
    | 0, _ => simp; grind
    | 1, _ => simp; grind
    | 2, _ => simp; grind
    | 3, _ => simp; grind
    | 4, _ => simp; grind
    | 5, _ => simp; grind
    | 6, _ => simp; grind
  · intro h
    by_cases q : k % 2 = 1
    · rw [if_pos q] at h
      refine ⟨_, e4_mv a (l := -dnQ 4 x) (by grind) (by grind), ?_⟩
      show 0 < if k % 2 = 1 then _ else _
      rw [if_pos q]
      grind
    · rw [if_neg q] at h
      refine ⟨_, e4_mv a (l := upQ 4 x) (by grind) (by grind), ?_⟩
      show 0 < if k % 2 = 1 then _ else _
      rw [if_neg q]
      grind
theorem poss_law {R : Fn2} {x : Nat → Rat} : ∀ {n k : Nat} {s : List Int}, 1 ≤ n → n ≤ 4 → RepW n (cuts n) R x → (spl n)[k]? = some s → (PossP n R s ↔ 0 < moQ n x k s)
  | 1, k, s, _, _, _, hk => by rw [spl1] at hk; simp at hk
  | 2, k, s, h1, h4, hx, hk => by
    rw [poss_iff h1 h4 hk]
    have a := rep2.mp hx
    have k0 : k = 0 := by
      rw [spl2] at hk
      have := (List.getElem?_eq_some_iff.mp hk).1
      simpa using this
    subst k0
    have e : moQ 2 x 0 s = x 0 := by
      have e1 : dnQ 2 x = 0 := if_neg (by decide)
      have e2 : upQ 2 x = 0 := if_neg (by decide)
      unfold moQ
      rw [e1, e2]
      split <;> grind
    rw [e]
    constructor
    · rintro ⟨w, hw, h0⟩
      have b := rep2.mp hw
      have := a.e01
      have := b.e01
      grind
    · intro h; exact ⟨x, hx, h⟩
  | 3, k, s, h1, h4, hx, hk => by
    rw [poss_iff h1 h4 hk]
    have a := rep3.mp hx
    have k3 : k < 3 := by
      rw [spl3] at hk
      have := (List.getElem?_eq_some_iff.mp hk).1
      simpa using this
    have e : moQ 3 x k s = x k := by
      have e1 : dnQ 3 x = 0 := if_neg (by decide)
      have e2 : upQ 3 x = 0 := if_neg (by decide)
      unfold moQ
      rw [e1, e2]
      split <;> grind
    rw [e]
    constructor
    · rintro ⟨w, hw, h0⟩
      obtain ⟨_, _, _, b1, b2, b3⟩ := rep3.mp hw
      obtain ⟨_, _, _, a1, a2, a3⟩ := a
      match k, k3 with
      | 0, _ => grind
      | 1, _ => grind
      | 2, _ => grind
    · intro h; exact ⟨x, hx, h⟩
  | 4, k, s, h1, h4, hx, hk => by
    rw [poss_iff h1 h4 hk]
    have a := rep4.mp hx
    have k7 : k < 7 := by
      rw [spl4] at hk
      have := (List.getElem?_eq_some_iff.mp hk).1
      simpa using this
    have e : moQ 4 x k s = x k + if k % 2 = 1 then dnQ 4 x else upQ 4 x := by
      unfold moQ
      rw [spl4] at hk
      match k, k7 with
      | 0, _ => cases hk; rfl
      | 1, _ => cases hk; rfl
      | 2, _ => cases hk; rfl
      | 3, _ => cases hk; rfl
      | 4, _ => cases hk; rfl
      | 5, _ => cases hk; rfl
      | 6, _ => cases hk; rfl
    rw [e, ← poss4 a k7]
    constructor
    · rintro ⟨w, hw, h0⟩; exact ⟨w, rep4.mp hw, h0⟩
    · rintro ⟨w, hw, h0⟩; exact ⟨w, rep4.mpr hw, h0⟩
end K33
end
section
set_option Elab.async false
set_option linter.all false
set_option maxRecDepth 100000
set_option exponentiation.threshold 10000
/-! M4: rigidity; K_{2,3} is no sum of cuts -/
namespace K33
open PySem L2
theorem rig_law {R : Fn2} {x : Nat → Rat} {n : Nat} (h1 : 1 ≤ n) (h4 : n ≤ 4) (hx : RepW n (cuts n) R x) : ((possL n R).length ≠ rkN n) ↔ upQ n x + dnQ n x = 0 := by
  by_cases q : n = 4
  · subst q
    have a := rep4.mp hx
    obtain ⟨u1, u3, u5, ue⟩ := up4 x
    obtain ⟨d0, d2, d4, d6, de⟩ := dn4 x
    have p : 0 ≤ upQ 4 x ∧ 0 ≤ dnQ 4 x := by
      obtain ⟨_, _, _, _, _, _, _, _, _, _, _, _, _⟩ := a
      constructor <;> grind
    have hl : (spl 4).length = 7 := by rw [spl4]; rfl
    have er : rkN 4 = 7 := rfl
    rw [er]
    constructor
    · intro h
      refine Classical.byContradiction fun hne => h ?_
      rw [← hl]
      unfold possL
      congr 1
      refine List.filter_eq_self.mpr fun s hs => ?_
      obtain ⟨k, hk⟩ := List.getElem?_of_mem hs
      refine @decide_eq_true _ (Classical.propDecidable _) ((poss_law h1 h4 hx hk).mpr ?_)
      have k7 : k < 7 := by rw [← hl]; exact (List.getElem?_eq_some_iff.mp hk).1
      obtain ⟨a0, a1, a2, a3, a4, a5, a6, _, _, _, _, _, _⟩ := a
      unfold moQ
      rw [spl4] at hk
      match k, k7 with
      | 0, _ => cases hk; simp; grind
      | 1, _ => cases hk; simp; grind
      | 2, _ => cases hk; simp; grind
      | 3, _ => cases hk; simp; grind
      | 4, _ => cases hk; simp; grind
      | 5, _ => cases hk; simp; grind
      | 6, _ => cases hk; simp; grind
    · intro h hlen
      have full : possL 4 R = spl 4 := List.Sublist.eq_of_length List.filter_sublist (by rw [hl]; exact hlen)
      have no : ∀ k s, (spl 4)[k]? = some s → 0 < moQ 4 x k s := fun k s hk => by
        refine (poss_law h1 h4 hx hk).mp ?_
        have hm : s ∈ possL 4 R := by rw [full]; exact List.mem_of_getElem? hk
        exact @of_decide_eq_true _ (Classical.propDecidable _) (List.mem_filter.mp hm).2
      have n1 := no 1 [1, 2] (by rw [spl4]; rfl)
      have n3 := no 3 [1, 3] (by rw [spl4]; rfl)
      have n5 := no 5 [2, 3] (by rw [spl4]; rfl)
      unfold moQ at n1 n3 n5
      simp at n1 n3 n5
      grind
  · have e1 : upQ n x = 0 := if_neg q
    have e2 : dnQ n x = 0 := if_neg q
    have e3 : rkN n = 100 := if_neg q
    rw [e1, e2, e3]
    have : (possL n R).length ≤ (spl n).length := List.length_filter_le _ _
    have := spl_len5 (n := n) (by omega)
    constructor
    · intro _; exact Rat.add_zero 0
    · intro _; omega
/-! ### K_{2,3} -/
def sgn5 (o : List Nat) (i : Nat) : Int := if o.getD i 0 < 2 then -1 else 1
def e5 (o : List Nat) (i : Nat) : Int := sgn5 o (px 5 i).1 * sgn5 o (px 5 i).2
def cI5 (s : List Int) (i : Nat) : Int := if (decide (((px 5 i).1 : Int) ∈ s) != decide (((px 5 i).2 : Int) ∈ s)) = true then 1 else 0
def chk (o : List Nat) : Bool := decide (Sm 10 (fun i => e5 o i * k23 (o.getD (px 5 i).1 0) (o.getD (px 5 i).2 0)) = 2) && (spl 5).all fun s => decide (Sm 10 (fun i => e5 o i * cI5 s i) ≤ 0)
def all5 : List (List Nat) := (List.range 5).flatMap fun a => (List.range 5).flatMap fun b => (List.range 5).flatMap fun c => (List.range 5).flatMap fun d => (List.range 5).map fun e => [a, b, c, d, e]
theorem chk_all : (all5.all fun o => !decide o.Nodup || chk o) = true := by decide +kernel
theorem cI5_cut (s : List Int) (i : Nat) : cutR s (px 5 i).1 (px 5 i).2 = (cI5 s i : Rat) := by
  unfold cutR cI5
  split <;> rfl
theorem no_k23 {o : Nat → Nat} (ho : ∀ i, i < 5 → o i < 5) (inj : ∀ i j, i < 5 → j < 5 → o i = o j → i = j) {a b : Nat} (ha : 1 ≤ a) (hb : 1 ≤ b) : ¬ ∃ x, RepW 5 (cuts 5) (ratR (fun x y => k23 (o x) (o y)) a b) x := by
  rintro ⟨x, hx, he⟩
  have hn : np 5 = 10 := by decide +kernel
  have pxl : ∀ i, i < 10 → (px 5 i).1 < 5 ∧ (px 5 i).2 < 5 := by decide +kernel
  let ol := [o 0, o 1, o 2, o 3, o 4]
  have og : ∀ i, i < 5 → ol.getD i 0 = o i := fun i hi => by
    match i, hi with
    | 0, _ => rfl
    | 1, _ => rfl
    | 2, _ => rfl
    | 3, _ => rfl
    | 4, _ => rfl
  have hmem : ol ∈ all5 := by
    unfold all5
    simp only [List.mem_flatMap, List.mem_map, List.mem_range]
    exact ⟨o 0, ho 0 (by decide), o 1, ho 1 (by decide), o 2, ho 2 (by decide), o 3, ho 3 (by decide), o 4, ho 4 (by decide), rfl⟩
  have hnd : ol.Nodup := by
    have d : ∀ i j, i < 5 → j < 5 → i ≠ j → o i ≠ o j := fun i j hi hj h e => h (inj i j hi hj e)
    have d01 := d 0 1 (by decide) (by decide) (by decide)
    have d02 := d 0 2 (by decide) (by decide) (by decide)
    have d03 := d 0 3 (by decide) (by decide) (by decide)
    have d04 := d 0 4 (by decide) (by decide) (by decide)
    have d12 := d 1 2 (by decide) (by decide) (by decide)
    have d13 := d 1 3 (by decide) (by decide) (by decide)
    have d14 := d 1 4 (by decide) (by decide) (by decide)
    have d23 := d 2 3 (by decide) (by decide) (by decide)
    have d24 := d 2 4 (by decide) (by decide) (by decide)
    have d34 := d 3 4 (by decide) (by decide) (by decide)
    show [o 0, o 1, o 2, o 3, o 4].Nodup
    simp [d01, d02, d03, d04, d12, d13, d14, d23, d24, d34]
  have hc := List.all_eq_true.mp chk_all ol hmem
  rw [decide_eq_true hnd] at hc
  have hc : chk ol = true := hc
  unfold chk at hc
  rw [Bool.and_eq_true] at hc
  have h2 := of_decide_eq_true hc.1
  have h3 : ∀ s ∈ spl 5, Sm 10 (fun i => e5 ol i * cI5 s i) ≤ 0 := fun s hs => of_decide_eq_true (List.all_eq_true.mp hc.2 s hs)
  have q0 : (0 : Rat) < (a : Int) / (b : Int) := by
    have h1 : (0 : Rat) < ((a : Int) : Rat) := by exact_mod_cast (show (0 : Int) < a by omega)
    have h2 : (0 : Rat) < ((b : Int) : Rat) := by exact_mod_cast (show (0 : Int) < b by omega)
    rw [Rat.div_def]
    exact Rat.mul_pos h1 (Rat.inv_pos.mpr h2)
  have hR : ∀ i, i < 10 → ratR (fun x y => k23 (o x) (o y)) a b (px 5 i).1 (px 5 i).2 = (k23 (ol.getD (px 5 i).1 0) (ol.getD (px 5 i).2 0) : Rat) * (((a : Int) : Rat) / ((b : Int) : Rat)) := fun i hi => by
    obtain ⟨l1, l2⟩ := pxl i hi
    rw [og _ l1, og _ l2]
    unfold ratR
    rw [Rat.divInt_eq_div, Rat.intCast_mul, Rat.div_def, Rat.div_def, Rat.mul_assoc]
  have total : Sq 10 (fun i => (e5 ol i : Rat) * ratR (fun x y => k23 (o x) (o y)) a b (px 5 i).1 (px 5 i).2) = 2 * (((a : Int) : Rat) / ((b : Int) : Rat)) := by
    rw [Sq_congr (g := fun i => (((a : Int) : Rat) / ((b : Int) : Rat)) * ((e5 ol i * k23 (ol.getD (px 5 i).1 0) (ol.getD (px 5 i).2 0) : Int) : Rat)) (fun i hi => by rw [hR i hi, Rat.intCast_mul]; grind)]
    rw [Sq_mul, ← Sq_cast, h2]
    grind
  have left : Sq 10 (fun i => (e5 ol i : Rat) * ratR (fun x y => k23 (o x) (o y)) a b (px 5 i).1 (px 5 i).2) ≤ 0 := by
    have e1 : ∀ i, i < 10 → (e5 ol i : Rat) * ratR (fun x y => k23 (o x) (o y)) a b (px 5 i).1 (px 5 i).2 = Sq (cuts 5).length (fun j => x j * ((e5 ol i : Rat) * colF 5 (cuts 5) (ratR (fun x y => k23 (o x) (o y)) a b) j i)) := fun i hi => by
      rw [← col_R (n := 5) (R := ratR (fun x y => k23 (o x) (o y)) a b), ← he i (by rw [hn]; exact hi), ← Sq_mul]
      exact Sq_congr fun j _ => by grind
    rw [Sq_congr e1, Sq_swap]
    refine Sq_nonpos fun j hj => ?_
    have hj2 : j < (spl 5).length := by rwa [List.length_map] at hj
    rw [Sq_mul]
    have e2 : Sq 10 (fun i => (e5 ol i : Rat) * colF 5 (cuts 5) (ratR (fun x y => k23 (o x) (o y)) a b) j i) = ((Sm 10 (fun i => e5 ol i * cI5 (spl 5)[j] i) : Int) : Rat) := by
      rw [Sq_cast]
      exact Sq_congr fun i _ => by rw [col_k (List.getElem?_eq_getElem hj2), cI5_cut, Rat.intCast_mul]
    rw [e2]
    have h4 := h3 _ (List.getElem_mem hj2)
    have h5 : ((Sm 10 (fun i => e5 ol i * cI5 (spl 5)[j] i) : Int) : Rat) ≤ 0 := by exact_mod_cast h4
    have h6 := hx j hj
    have := Rat.mul_nonneg h6 (show 0 ≤ -((Sm 10 (fun i => e5 ol i * cI5 (spl 5)[j] i) : Int) : Rat) by grind)
    grind
  rw [total] at left
  grind
end K33
end
section
set_option Elab.async false
set_option linter.all false
set_option maxRecDepth 100000
set_option exponentiation.threshold 10000
/-! M5: the law's rows make metrics with small fractions -/
namespace K33
open PySem L2
theorem ratR_eq (f : F2) {a b : Nat} (x y : Nat) : ratR f a b x y = ((f x y : Int) : Rat) * (((a : Int) : Rat) / ((b : Int) : Rat)) := by
  unfold ratR
  rw [Rat.divInt_eq_div, Rat.intCast_mul, Rat.div_def, Rat.div_def, Rat.mul_assoc]
theorem ratR_small {f : F2} {a b x y : Nat} (b1 : 1 ≤ b) (b3 : b ≤ 3) (a4 : a ≤ 4) (h0 : 0 ≤ f x y) (h1 : f x y ≤ 100000) : (ratR f a b x y).den ∣ 6 ∧ (ratR f a b x y).num.natAbs ≤ 2 ^ 20 := by
  have hb : (0 : Int) < (b : Int) := by omega
  have hn := divInt_n (f x y * a) b hb
  have hd := divInt_d (f x y * a) b hb
  have hg : (Int.gcd (f x y * a) b : Int) ∣ (b : Int) := Int.gcd_dvd_right ..
  constructor
  · have e : (ratR f a b x y).den ∣ b := by
      have : ((ratR f a b x y).den : Int) ∣ (b : Int) := by
        unfold ratR
        rw [hd]
        obtain ⟨t, ht⟩ := hg
        refine ⟨(Int.gcd (f x y * a) b : Int), ?_⟩
        rw [Int.ediv_mul_cancel (Int.gcd_dvd_right ..)]
      exact Int.natCast_dvd_natCast.mp this
    refine Nat.dvd_trans e ?_
    have : b = 1 ∨ b = 2 ∨ b = 3 := by omega
    rcases this with rfl | rfl | rfl <;> decide
  · unfold ratR
    rw [hn]
    have h2 : (f x y * (a : Int)) ≤ 400000 := by
      have : (a : Int) ≤ 4 := by omega
      have h3 : f x y * (a : Int) ≤ f x y * 4 := Int.mul_le_mul_of_nonneg_left this h0
      omega
    have h3 : 0 ≤ f x y * (a : Int) := Int.mul_nonneg h0 (by omega)
    have h4 : (f x y * (a : Int) / (Int.gcd (f x y * a) b : Int)) ≤ f x y * (a : Int) := Int.ediv_le_self _ h3
    have h5 : 0 ≤ (f x y * (a : Int) / (Int.gcd (f x y * a) b : Int)) := Int.ediv_nonneg h3 (by omega)
    have : (2 : Nat) ^ 20 = 1048576 := by decide
    omega
theorem met6_of {n : Nat} {f : F2} {a b : Nat} (n1 : 1 ≤ n) (n5 : n ≤ 5) (M : Mt n f) (hap : apL n f) (a1 : 1 ≤ a) (a4 : a ≤ 4) (b1 : 1 ≤ b) (b3 : b ≤ 3) : Met6 n (ratR f a b) := by
  have q0 : (0 : Rat) < (a : Int) / (b : Int) := by
    have h1 : (0 : Rat) < ((a : Int) : Rat) := by exact_mod_cast (show (0 : Int) < a by omega)
    have h2 : (0 : Rat) < ((b : Int) : Rat) := by exact_mod_cast (show (0 : Int) < b by omega)
    rw [Rat.div_def]
    exact Rat.mul_pos h1 (Rat.inv_pos.mpr h2)
  have sm : ∀ x y, x < n → y < n → (ratR f a b x y).den ∣ 6 ∧ (ratR f a b x y).num.natAbs ≤ 2 ^ 20 := fun x y hx hy => ratR_small b1 b3 a4 (M.nn x y hx hy) (M.le x y hx hy)
  refine ⟨⟨n1, by omega, fun x hx => ?_, fun x y hx hy => ?_, fun x y z hx hy hz => ?_, fun x y hx hy hxy => ?_, fun x y hx hy => ?_⟩, n5, sm⟩
  · rw [ratR_eq, M.dia x hx]
    exact Rat.zero_mul _
  · rw [ratR_eq, ratR_eq, M.sym x y hx hy]
  · rw [ratR_eq, ratR_eq, ratR_eq]
    have t : ((f x z : Int) : Rat) ≤ ((f x y : Int) : Rat) + ((f y z : Int) : Rat) := by
      have := M.tri x y z hx hy hz
      rw [← Rat.intCast_add]
      exact_mod_cast this
    rw [← Rat.add_mul]
    exact Rat.mul_le_mul_of_nonneg_right t (Rat.le_of_lt q0)
  · rw [ratR_eq]
    have h1 := M.nn x y hx hy
    have h2 := hap x y hx hy (fun z => hxy z.symm)
    have : (0 : Rat) < ((f x y : Int) : Rat) := by exact_mod_cast (show (0 : Int) < f x y by omega)
    exact Rat.mul_pos this q0
  · obtain ⟨h1, h2⟩ := sm x y hx hy
    exact ⟨Nat.lt_of_le_of_lt h2 (Nat.pow_lt_pow_right (by decide) (by decide)), Nat.lt_of_le_of_lt (Nat.le_of_dvd (by decide) h1) (Nat.lt_of_lt_of_le (show 6 < 2 ^ 3 by decide) (Nat.pow_le_pow_right (by decide) (by decide)))⟩
theorem k23_mt : Mt 5 k23 := by
  have h1 : ∀ x, x < 5 → ∀ y, y < 5 → k23 x y = k23 y x := by decide
  have h2 : ∀ x, x < 5 → k23 x x = 0 := by decide
  have h3 : ∀ x, x < 5 → ∀ y, y < 5 → 0 ≤ k23 x y := by decide
  have h4 : ∀ x, x < 5 → ∀ y, y < 5 → k23 x y ≤ 100000 := by decide
  have h5 : ∀ x, x < 5 → ∀ y, y < 5 → ∀ z, z < 5 → k23 x z ≤ k23 x y + k23 y z := by decide +kernel
  exact ⟨⟨fun x y hx hy => h1 x hx y hy, h2, fun x y hx hy => h3 x hx y hy, fun x y hx hy => h4 x hx y hy⟩, fun x y z hx hy hz => h5 x hx y hy z hz⟩
theorem k23_ap {o : Nat → Nat} (ho : ∀ i, i < 5 → o i < 5) (inj : ∀ i j, i < 5 → j < 5 → o i = o j → i = j) : apL 5 fun x y => k23 (o x) (o y) := by
  have h : ∀ x, x < 5 → ∀ y, y < 5 → y ≠ x → k23 x y ≠ 0 := by decide +kernel
  exact fun x y hx hy hxy => h _ (ho x hx) _ (ho y hy) fun e => hxy (inj y x hy hx e)
end K33
end
section
set_option Elab.async false
set_option linter.all false
set_option maxRecDepth 100000
set_option exponentiation.threshold 10000
/-! V12: the law -/
namespace K33
open PySem L2
variable {c : Cl} {g : Gx} {C : Addr}
abbrev sLaw : Stmt := top 68
abbrev NLaw : List Str := ["_law_script", "_law_state_here", "_law_rows_here", "_law_n", "_law_m", "_law_weights", "_law_names", "_law_plain", "_law_up", "_law_down", "_law_due", "_law_k", "_law_most", "_law_told", "_law_split"]
theorem scLaw : FnScope NLaw ["_law_script"] (defScope sLaw) := ⟨rfl, rfl, rfl, by decide +kernel, rfl, by decide +kernel, by decide +kernel⟩
def tri1 (x y : Nat) : Int := if x = y then 0 else 1
theorem tri1_mt : Mt 3 tri1 := by
  have h1 : ∀ x, x < 3 → ∀ y, y < 3 → tri1 x y = tri1 y x := by decide
  have h2 : ∀ x, x < 3 → tri1 x x = 0 := by decide
  have h3 : ∀ x, x < 3 → ∀ y, y < 3 → 0 ≤ tri1 x y := by decide
  have h4 : ∀ x, x < 3 → ∀ y, y < 3 → tri1 x y ≤ 100000 := by decide
  have h5 : ∀ x, x < 3 → ∀ y, y < 3 → ∀ z, z < 3 → tri1 x z ≤ tri1 x y + tri1 y z := by decide
  exact ⟨⟨fun x y hx hy => h1 x hx y hy, h2, fun x y hx hy => h3 x hx y hy, fun x y hx hy => h4 x hx y hy⟩, fun x y z hx hy hz => h5 x hx y hy z hz⟩
theorem tri1_ap : apL 3 tri1 := by
  have h : ∀ x, x < 3 → ∀ y, y < 3 → y ≠ x → tri1 x y ≠ 0 := by decide
  exact fun x y hx hy hxy => h x hx y hy hxy
/-- the promises that the law leans on -/
structure LawT (c : Cl) (g : Gx) (C : Addr) : Prop where
  B : Nb g
  T : Rt c g
  MM : MMk c g.P g.w g.K g.mg g.base 5 mPr
  st : Fg g 1 "_law_state" (spState g.K)
  rows : Fg g 4 "_law_rows" (spRows c)
  take : Fg g 1 "_law_take" (spTake c)
  cs : Fg g 2 "_law_cut_sum" (spCS c)
  ap : Fg g 1 "_law_is_apart" (spApL c)
  rat : Fg g 3 "_law_ratios" (spRat c)
  fac : Fg g 2 "_law_factor" (spFactor c)
  cw : Fg g 9 "cut_weights" (spCW c)
  spl : Fg g 1 "_law_splits" (spSplL c)
  wt : Fg g 1 "_law_weight" (spWeight c)
  least : Fg g 2 "_law_least" (spLeast c)
  plus : Fg g 3 "_law_plus" (spPlus c)
  ps : FgX g 9 "possible_splits" (spPS c C)
  rig : FgX g 10 "is_rigid" (spRig c C)
  two : Fg g 3 "_law_two_three" (spTwo c)
  rea : Fg g 12 "_law_reasons" (spRea c)
def wW' (n : Nat) (x : Nat → Rat) : List (List Int × Rat) := ((spl n).zip (rg (spl n).length x)).filter fun q => decide (0 < q.2.num.sign)
theorem spl_nodup : ∀ {n : Nat}, n ≤ 4 → (spl n).Nodup
  | 0, _ => by decide +kernel
  | 1, _ => by decide +kernel
  | 2, _ => by decide +kernel
  | 3, _ => by decide +kernel
  | 4, _ => by decide +kernel
theorem zip_mem {n : Nat} {x : Nat → Rat} {p : List Int × Rat} (h : p ∈ (spl n).zip (rg (spl n).length x)) : ∃ k, (spl n)[k]? = some p.1 ∧ p.2 = x k := by
  obtain ⟨k, hk⟩ := List.getElem?_of_mem h
  rw [List.getElem?_zip_eq_some] at hk
  exact ⟨k, hk.1, (rg_get hk.2).2⟩
theorem wLook_at {n k : Nat} {x : Nat → Rat} {s : List Int} (h4 : n ≤ 4) (hk : (spl n)[k]? = some s) (h0 : 0 ≤ x k) : wLook (wW' n x) s = x k := by
  have hlt := (List.getElem?_eq_some_iff.mp hk).1
  have uniq : ∀ p ∈ wW' n x, p.1 = s → p.2 = x k := fun p hp e => by
    obtain ⟨j, hj, e2⟩ := zip_mem (List.mem_filter.mp hp).1
    have pw := List.pairwise_iff_getElem.mp (spl_nodup h4)
    obtain ⟨u1, u2⟩ := List.getElem?_eq_some_iff.mp hj
    obtain ⟨v1, v2⟩ := List.getElem?_eq_some_iff.mp hk
    have : j = k := by
      rcases Nat.lt_trichotomy j k with w | w | w
      · exact absurd (u2.trans (e.trans v2.symm)) (pw j k u1 v1 w)
      · exact w
      · exact absurd (v2.trans (e.symm.trans u2.symm)) (pw k j v1 u1 w)
    rw [e2, this]
  unfold wLook
  cases q : (wW' n x).find? (fun p => decide (p.1 = s)) with
  | some p =>
    have h1 := List.mem_of_find?_eq_some q
    have h2 := List.find?_some q
    exact uniq p h1 (of_decide_eq_true h2)
  | none =>
    have h1 := List.find?_eq_none.mp q
    have : ¬ 0 < (x k).num.sign := fun z => by
      have hm : (s, x k) ∈ wW' n x := List.mem_filter.mpr ⟨List.mem_of_getElem? (i := k) (List.getElem?_zip_eq_some.mpr ⟨hk, rg_at hlt⟩), decide_eq_true z⟩
      exact h1 _ hm (decide_eq_true rfl)
    have h2 : (x k).num ≤ 0 := by
      rcases Int.lt_or_le 0 (x k).num with z | z
      · exact absurd (Int.sign_eq_one_of_pos z ▸ (by decide : (0 : Int) < 1)) this
      · exact z
    have h3 : 0 ≤ (x k).num := Rat.num_nonneg.mpr h0
    have h4 : (x k).num = 0 := by omega
    show (0 : Rat) = x k
    exact (Rat.num_eq_zero.mp h4).symm
end K33
end
section
set_option Elab.async false
set_option linter.all false
set_option maxRecDepth 100000
set_option exponentiation.threshold 10000
/-! V13: the walk of the law, behind its first statement -/
namespace K33
open PySem L2
variable {c : Cl} {g : Gx} {C : Addr}
theorem numpos {q : Rat} : 0 < q.num ↔ 0 < q := by
  have h1 := @Rat.num_nonneg q
  have h2 := @Rat.num_eq_zero q
  constructor
  · intro h
    have := h1.mp (by omega)
    rcases Rat.le_iff_lt_or_eq.mp this with z | z
    · exact z
    · rw [← z] at h; exact absurd h (by decide)
  · intro h
    have a := h1.mpr (Rat.le_of_lt h)
    have b : q.num ≠ 0 := fun z => by rw [h2.mp z] at h; exact absurd h (by decide)
    omega
def restL : List Stmt := (defBody sLaw).tail
theorem law_rest (L : LawT c g C) {b : Bx} {v : V} (hr : Room 12 (fmN g NLaw (defScope sLaw) scLaw.nd b).A) : GS c (fmN g NLaw (defScope sLaw) scLaw.nd b) restL [.raw v, .st, .no, .no, .no, .no, .no, .no, .no, .no, .no, .no, .no, .no, .no] ⟨fun _ => False, fun d => d = .bl true, fun _ => False, fun _ => False⟩ := by
  show GS c _ _ [.raw v, .st, .no, .no, .no, .no, .no, .no, .no, .no, .no, .no, .no, .no, .no] _
  refine gs_cons (g1_asgE (psN 2) (ge_call L.rows (hr.mono (by decide)) (ga_consS 1 (ga1 gv_int)) fun ws e => ⟨(), e.symm, trivial, fun d e => e⟩) fun d ⟨n0, a1, a4, f0, e, hf0⟩ => ?_)
  subst e
  show GS c _ _ [.raw v, .st, .da (lrowsD n0 f0), .no, .no, .no, .no, .no, .no, .no, .no, .no, .no, .no, .no] _
  refine gs_cons (g1_imp (K' := ⟨fun A => ∃ (n : Nat) (f : F2), 1 ≤ n ∧ n ≤ 4 ∧ Mt n f ∧ A = [.raw v, .st, .da (lrowsD n f), .no, .no, .no, .no, .no, .no, .no, .no, .no, .no, .no, .no], fun _ => False, fun _ => False, fun _ => False⟩) (g1_if (gt_eqT (Pa := fun _ => True) (Pb := fun _ => True) (GE.imp (ge_take L.take (hr.mono (by decide)) 1 (m := 2) gv_int (by decide) (by decide)) fun d ⟨v, e, _⟩ => ⟨v, e, trivial⟩) (ge_ip gv_int trivial)) (fun _ => ?_) (fun _ => gs_nil ⟨n0, f0, a1, a4, hf0, rfl⟩)) (fun A ⟨n1, f1, b1, b4, hf1, e⟩ => ?_) (fun _ h => h.elim) (fun _ h => h.elim) (fun _ h => h.elim))
  · refine gs_cons (g1_asgE (psN 2) (ge_call L.cs (hr.mono (by decide)) (ga_consS 1 (ga1 gv_int)) fun ws e => ⟨4, e.symm, ⟨by decide, by decide⟩, fun d e => e⟩) fun d ⟨f, e, hf⟩ => ?_)
    subst e
    exact gs_nil ⟨4, f, by decide, by decide, hf, rfl⟩
  subst e
  show GS c _ _ [.raw v, .st, .da (lrowsD n1 f1), .no, .no, .no, .no, .no, .no, .no, .no, .no, .no, .no, .no] _
  refine gs_cons (g1_imp (K' := ⟨fun A => ∃ (n : Nat) (f : F2), 1 ≤ n ∧ n ≤ 4 ∧ Mt n f ∧ apL n f ∧ A = [.raw v, .st, .da (lrowsD n f), .no, .no, .no, .no, .no, .no, .no, .no, .no, .no, .no, .no], fun _ => False, fun _ => False, fun _ => False⟩) (g1_if (gt_not (P := fun k => k = true ↔ apL n1 f1) (gt_val (ge_call L.ap (hr.mono (by decide)) (ga1 (gv_var 2)) fun ws e => ⟨(n1, f1), e.symm, by show n1 ≤ 8; omega, fun d e => e⟩))) (fun _ => ?_) (fun h => gs_nil ⟨n1, f1, b1, b4, hf1, h.mp rfl, rfl⟩)) (fun A ⟨n, f, n1, n4, hM, hA, e⟩ => ?_) (fun _ h => h.elim) (fun _ h => h.elim) (fun _ h => h.elim))
  · refine gs_cons (g1_asgE (psN 2) (GL.gv (gl_lst (ds := [.tup [.int 0, .int 1, .int 1], .tup [.int 1, .int 0, .int 1], .tup [.int 1, .int 1, .int 0]]) (ga3 (gv_tup (ds := [.int 0, .int 1, .int 1]) (ga3 gv_int gv_int gv_int)) (gv_tup (ds := [.int 1, .int 0, .int 1]) (ga3 gv_int gv_int gv_int)) (gv_tup (ds := [.int 1, .int 1, .int 0]) (ga3 gv_int gv_int gv_int))))) fun d e => ?_)
    subst e
    exact gs_nil ⟨3, tri1, by decide, by decide, tri1_mt, tri1_ap, rfl⟩
  subst e
  show GS c _ _ [.raw v, .st, .da (lrowsD n f), .no, .no, .no, .no, .no, .no, .no, .no, .no, .no, .no, .no] _
  refine gs_cons (g1_asgE (psN 3) (GV.eq (d' := .int (n : Int)) (gv_len (ds := rg n fun x => lrowD n (f x)) L.B.len (gv_var 2)) (by rw [rg_len])) fun d e => ?_)
  subst e
  refine gs_cons (g1_asgE (psN 4) (ge_metric (Pe := fun d => ∃ a b : Nat, 1 ≤ a ∧ a ≤ 4 ∧ 1 ≤ b ∧ b ≤ 3 ∧ d = .tup (mD n (ratR f a b))) (Po := fun d => ∃ R : Fn2, Met6 n R ∧ d = .met n (mD n R)) L.MM (hr.mono (by decide)) (ge_call L.rat (hr.mono (by decide)) (ga_cons (gv_var 2 (d := lrowsD n f)) (ga_cons (ge_call L.fac (hr.mono (by decide)) (ga_consS 1 ga_nil) fun ws e => ⟨(), e.symm, trivial, fun d e => e⟩) ga_nil)) fun ws ⟨d1, ws1, e1, p1, d2, ws2, e2, ⟨a, b, p2, q1, q2, q3, q4⟩, e3⟩ => ⟨⟨n, f, a, b⟩, by subst e3 e2 e1 p1 p2; rfl, ⟨by show n ≤ 8; omega, q1, q2, q3, q4⟩, fun d e => ⟨a, b, q1, q2, q3, q4, e⟩⟩) fun d ⟨a, b, q1, q2, q3, q4, e⟩ => ⟨mD n (ratR f a b), n, mD n (ratR f a b), e, ⟨ratR f a b, rfl, rfl, (met6_of n1 (by omega) hM hA q1 q2 q3 q4).met⟩, ratR f a b, met6_of n1 (by omega) hM hA q1 q2 q3 q4, rfl⟩) fun d ⟨R, M6, e⟩ => ?_)
  subst e
  show GS c _ _ [.raw v, .st, .da (lrowsD n f), .da (.int (n : Int)), .da (.met n (mD n R)), .no, .no, .no, .no, .no, .no, .no, .no, .no, .no] _
  refine gs_cons (g1_asgE (psN 5) (ge_call L.cw (hr.mono (by decide)) (ga1 (gv_var 4)) fun ws e => ⟨(n, R), e.symm, ⟨M6, ex_all M6.met n4⟩, fun d e => e⟩) fun d ⟨x, hx, hb, e⟩ => ?_)
  subst e
  refine gs_cons (g1_asgE (psN 6) (ge_call L.spl (hr.mono (by decide)) (ga1 (gv_var 3)) fun ws e => ⟨n, e.symm, ⟨n1, n4⟩, fun d e => e⟩) fun d e => ?_)
  subst e
  show GS c _ _ [.raw v, .st, .da (lrowsD n f), .da (.int (n : Int)), .da (.met n (mD n R)), .da (.tup ((wW' n x).map wtD)), .da (.lst ((spl n).map tI)), .no, .no, .no, .no, .no, .no, .no, .no] _
  have h8 := M6.met.le
  have hl15 : (spl n).length ≤ 15 := spl_len5 (by omega)
  have hw100 : (wW' n x).length ≤ 100 := by
    have h1 : (wW' n x).length ≤ ((spl n).zip (rg (spl n).length x)).length := List.length_filter_le _ _
    rw [List.length_zip, rg_len] at h1
    omega
  refine gs_cons (g1_asgE (psN 7) (GL.gv (gl_mapL [("_law_split", 14)] (fun s => qD (wLook (wW' n x) s)) (gi_listL (l0 := spl n) (e := tI) (gv_var 6)) (by omega) (fun s hs => gg_name 14) fun s hs => ge_call L.wt (hr.mono (by decide)) (ga2 (gv_var 5) (gv_var 14)) fun ws e => ⟨(wW' n x, s), e.symm, hw100, fun d e => e⟩)) fun d e => ?_)
  subst e
  have hx0 : ∀ k, k < (spl n).length → 0 ≤ x k := fun k hk => hx.1 k (by rw [List.length_map]; exact hk)
  have epl : (spl n).map (fun s => qD (wLook (wW' n x) s)) = rg (spl n).length fun k => qD (x k) := by
    refine List.ext_getElem? fun k => ?_
    by_cases hk : k < (spl n).length
    · rw [List.getElem?_map, List.getElem?_eq_getElem hk, rg_at hk]
      show some (qD _) = _
      rw [wLook_at n4 (List.getElem?_eq_getElem hk) (hx0 k hk)]
    · rw [List.getElem?_eq_none (by rw [List.length_map]; omega), List.getElem?_eq_none (by rw [rg_len]; omega)]
  rw [epl]
  show GS c _ _ [.raw v, .st, .da (lrowsD n f), .da (.int (n : Int)), .da (.met n (mD n R)), .da (.tup ((wW' n x).map wtD)), .da (.lst ((spl n).map tI)), .da (.lst (rg (spl n).length fun k => qD (x k))), .no, .no, .no, .no, .no, .no, .no] _
  refine gs_cons (g1_unpack 8 9 (gv_tup (ds := [qD 0, qD 0]) (ga2 (gv_tup (ds := [.int 0, .int 1]) (ga2 gv_int gv_int)) (gv_tup (ds := [.int 0, .int 1]) (ga2 gv_int gv_int)))) fun d e => ⟨qD 0, qD 0, e, ?_⟩)
  show GS c _ _ [.raw v, .st, .da (lrowsD n f), .da (.int (n : Int)), .da (.met n (mD n R)), .da (.tup ((wW' n x).map wtD)), .da (.lst ((spl n).map tI)), .da (.lst (rg (spl n).length fun k => qD (x k))), .da (qD 0), .da (qD 0), .no, .no, .no, .no, .no] _
  have h7 : (7 : Nat) ≤ 1000000 := by decide
  refine gs_cons (g1_imp (K' := ⟨fun A => A = [.raw v, .st, .da (lrowsD n f), .da (.int (n : Int)), .da (.met n (mD n R)), .da (.tup ((wW' n x).map wtD)), .da (.lst ((spl n).map tI)), .da (.lst (rg (spl n).length fun k => qD (x k))), .da (qD (upQ n x)), .da (qD (dnQ n x)), .no, .no, .no, .no, .no], fun _ => False, fun _ => False, fun _ => False⟩) (g1_ifB (gb_eqI (gv_var 3) gv_int) (fun z => ?_) (fun z => gs_nil ?_)) (fun A e => ?_) (fun _ h => h.elim) (fun _ h => h.elim) (fun _ h => h.elim))
  · have z := of_decide_eq_true z
    have n4' : n = 4 := by omega
    subst n4'
    have hl7 : (spl 4).length = 7 := by rw [spl4]; rfl
    have at7 : ∀ k, k < 7 → ((spl 4).map tI)[k]? = some (tI ((spl 4).getD k [])) := fun k hk => by
      rw [List.getElem?_map, List.getD_eq_getElem?_getD, List.getElem?_eq_getElem (by rw [hl7]; exact hk)]; rfl
    have pl7 : ∀ k, k < 7 → (rg (spl 4).length fun k => qD (x k))[k]? = some (qD (x k)) := fun k hk => rg_at (by rw [hl7]; exact hk)
    have Sz7 : ∀ k, k < 7 → Sz (x k) := fun k hk => by
      obtain ⟨q1, q2⟩ := hb k (by rw [hl7]; exact hk)
      exact ⟨Nat.lt_of_lt_of_le q1 (Nat.pow_le_pow_right (by decide) (by decide)), Nat.lt_of_lt_of_le q2 (Nat.pow_le_pow_right (by decide) (by decide))⟩
    have f1 : (List.range 7).filter (fun k => decide (((((spl 4).getD k []).map D.int).length : Int) = 2)) = [1, 3, 5] := by decide +kernel
    have f2 : (List.range 7).filter (fun k => !decide (((((spl 4).getD k []).map D.int).length : Int) = 2)) = [0, 2, 4, 6] := by decide +kernel
    refine gs_cons (g1_asgE (psN 8) (ge_call L.least (hr.mono (by decide)) (ga1 (GV.eq (d' := .lst (([x 1, x 3, x 5] : List Rat).map qD)) (gv_fn [("_law_k", 11)] (fun k => decide (((((spl 4).getD k []).map D.int).length : Int) = 2)) (fun k => qD (x k)) (gi_range1 (n := 7) L.B.range gv_int h7) (by decide) (fun k hk => gg_name 11) (fun k hk => gts_one (gb_eqI (gv_lenT L.B.len (gv_ixLn (gv_var 6) (gv_var 11) (at7 k hk))) gv_int)) fun k hk _ => gv_ixLn (gv_var 7) (gv_var 11) (pl7 k hk)) (by rw [f1]; rfl))) fun ws e => ⟨(x 1, [x 3, x 5]), e.symm, ⟨by show 2 ≤ 100; omega, Sz7 1 (by decide), fun q hq => ?_⟩, fun d e => e⟩) fun d e => ?_)
    · rcases List.mem_cons.mp hq with rfl | hq
      · exact Sz7 3 (by decide)
      · have : q = x 5 := by simpa using hq
        rw [this]; exact Sz7 5 (by decide)
    subst e
    refine gs_cons (g1_asgE (psN 9) (ge_call L.least (hr.mono (by decide)) (ga1 (GV.eq (d' := .lst (([x 0, x 2, x 4, x 6] : List Rat).map qD)) (gv_fn [("_law_k", 11)] (fun k => !decide (((((spl 4).getD k []).map D.int).length : Int) = 2)) (fun k => qD (x k)) (gi_range1 (n := 7) L.B.range gv_int h7) (by decide) (fun k hk => gg_name 11) (fun k hk => gts_one (gb_neI (gv_lenT L.B.len (gv_ixLn (gv_var 6) (gv_var 11) (at7 k hk))) gv_int)) fun k hk _ => gv_ixLn (gv_var 7) (gv_var 11) (pl7 k hk)) (by rw [f2]; rfl))) fun ws e => ⟨(x 0, [x 2, x 4, x 6]), e.symm, ⟨by show 3 ≤ 100; omega, Sz7 0 (by decide), fun q hq => ?_⟩, fun d e => e⟩) fun d e => ?_)
    · rcases List.mem_cons.mp hq with rfl | hq
      · exact Sz7 2 (by decide)
      · rcases List.mem_cons.mp hq with rfl | hq
        · exact Sz7 4 (by decide)
        · have : q = x 6 := by simpa using hq
          rw [this]; exact Sz7 6 (by decide)
    subst e
    exact gs_nil rfl
  · have z := of_decide_eq_false z
    have e1 : upQ n x = 0 := if_neg (by omega)
    have e2 : dnQ n x = 0 := if_neg (by omega)
    rw [e1, e2]
  subst e
  have hSz : ∀ k, k < (spl n).length → Sz (x k) := fun k hk => by
    obtain ⟨q1, q2⟩ := hb k hk
    exact ⟨Nat.lt_of_lt_of_le q1 (Nat.pow_le_pow_right (by decide) (by decide)), Nat.lt_of_lt_of_le q2 (Nat.pow_le_pow_right (by decide) (by decide))⟩
  have hU : Sz (upQ n x) := by
    by_cases q : n = 4
    · subst q
      have hl7 : (spl 4).length = 7 := by rw [spl4]; rfl
      obtain ⟨_, _, _, e⟩ := up4 x
      rcases e with e | e | e <;> rw [e] <;> exact hSz _ (by rw [hl7]; decide)
    · have e : upQ n x = 0 := if_neg q
      rw [e]; exact ⟨Nat.two_pow_pos _, Nat.one_lt_two_pow (by decide)⟩
  have hD : Sz (dnQ n x) := by
    by_cases q : n = 4
    · subst q
      have hl7 : (spl 4).length = 7 := by rw [spl4]; rfl
      obtain ⟨_, _, _, _, e⟩ := dn4 x
      rcases e with e | e | e | e <;> rw [e] <;> exact hSz _ (by rw [hl7]; decide)
    · have e : dnQ n x = 0 := if_neg q
      rw [e]; exact ⟨Nat.two_pow_pos _, Nat.one_lt_two_pow (by decide)⟩
  refine gs_cons (g1_asgL (psN 10) (gl_lst (ds := []) ga_nil) fun ds e => ?_)
  subst e
  let pb : List Int → Bool := fun s => @decide (PossP n R s) (Classical.propDecidable _)
  have hl6 : (spl n).length ≤ 1000000 := by omega
  refine gs_cons (g1_for (fun i A => ∃ w11 w12, A = [.raw v, .st, .da (lrowsD n f), .da (.int (n : Int)), .da (.met n (mD n R)), .da (.tup ((wW' n x).map wtD)), .da (.lst ((spl n).map tI)), .da (.lst (rg (spl n).length fun k => qD (x k))), .da (qD (upQ n x)), .da (qD (dnQ n x)), .mu ((((spl n).take i).filter pb).map tI), w11, w12, .no, .no]) (gi_range1 L.B.range (GV.eq (d' := .int ((spl n).length : Int)) (gv_len (ds := (spl n).map tI) L.B.len (gv_var 6)) (by rw [List.length_map])) hl6) ⟨_, _, rfl⟩ (fun k d A hk yd ⟨w11, w12, e⟩ => ⟨_, tg1_name 11, ?_⟩) fun A ⟨w11, w12, e⟩ => ?_)
  · subst e yd
    obtain ⟨s, hs⟩ : ∃ s, (spl n)[k]? = some s := ⟨_, List.getElem?_eq_getElem hk⟩
    have hsI : ((spl n).map tI)[k]? = some (tI s) := by rw [List.getElem?_map, hs]; rfl
    show GS c _ _ [.raw v, .st, .da (lrowsD n f), .da (.int (n : Int)), .da (.met n (mD n R)), .da (.tup ((wW' n x).map wtD)), .da (.lst ((spl n).map tI)), .da (.lst (rg (spl n).length fun k => qD (x k))), .da (qD (upQ n x)), .da (qD (dnQ n x)), .mu ((((spl n).take k).filter pb).map tI), .da (.int (k : Int)), w12, .no, .no] _
    refine gs_cons (g1_asgE (psN 12) (ge_call L.plus (hr.mono (by decide)) (ga2 (gv_ixLn (gv_var 7) (gv_var 11) (rg_at hk)) (gv_if (d := qD (if s.length = 2 then dnQ n x else upQ n x)) (gb_eqI (gv_lenT (ds := s.map .int) L.B.len (gv_ixLn (gv_var 6) (gv_var 11) hsI)) gv_int) (fun z => GV.eq (gv_var 9) ?_) (fun z => GV.eq (gv_var 8) ?_))) fun ws e => ⟨(x k, if s.length = 2 then dnQ n x else upQ n x), e.symm, ⟨hSz k hk, ?_⟩, fun d e => e⟩) fun d e => ?_)
    · have z := of_decide_eq_true z
      rw [List.length_map] at z
      rw [if_pos (by omega)]
    · have z := of_decide_eq_false z
      rw [List.length_map] at z
      rw [if_neg (by omega)]
    · show Sz (if s.length = 2 then dnQ n x else upQ n x)
      split
      · exact hD
      · exact hU
    subst e
    have key := poss_law (R := R) n1 n4 hx hs
    have etk : (spl n).take (k + 1) = (spl n).take k ++ [s] := by rw [List.take_add_one, hs]; rfl
    have hfl : (((spl n).take k).filter pb).length ≤ 15 := by
      have h1 := List.length_filter_le pb ((spl n).take k)
      rw [List.length_take] at h1
      omega
    show GS c _ _ [.raw v, .st, .da (lrowsD n f), .da (.int (n : Int)), .da (.met n (mD n R)), .da (.tup ((wW' n x).map wtD)), .da (.lst ((spl n).map tI)), .da (.lst (rg (spl n).length fun k => qD (x k))), .da (qD (upQ n x)), .da (qD (dnQ n x)), .mu ((((spl n).take k).filter pb).map tI), .da (.int (k : Int)), .da (qD (moQ n x k s)), .no, .no] _
    refine gs_cons (g1_ifB (gb_gt (gv_q0 (gv_var 12)) gv_int) (fun z => ?_) (fun z => gs_nil (gs_nil ⟨.da (.int (k : Int)), .da (qD (moQ n x k s)), ?_⟩)))
    · have z : 0 < moQ n x k s := numpos.mp (of_decide_eq_true z)
      have hp : pb s = true := @decide_eq_true _ (Classical.propDecidable _) (key.mpr z)
      refine gs_cons (g1_append 10 rfl (gv_ixLn (gv_var 6) (gv_var 11) hsI) (by rw [List.length_map]; omega) fun d e => gs_nil (gs_nil ⟨.da (.int (k : Int)), .da (qD (moQ n x k s)), ?_⟩))
      subst e
      rw [etk, List.filter_append, List.map_append, List.filter_cons_of_pos hp]
      rfl
    · have z : ¬ 0 < moQ n x k s := fun q => of_decide_eq_false z (numpos.mpr q)
      have hp : ¬ pb s = true := fun q => z (key.mp (@of_decide_eq_true _ (Classical.propDecidable _) q))
      rw [etk, List.filter_append, List.filter_cons_of_neg hp, List.filter_nil, List.append_nil]
  subst e
  rw [List.take_length]
  show GS c _ _ [.raw v, .st, .da (lrowsD n f), .da (.int (n : Int)), .da (.met n (mD n R)), .da (.tup ((wW' n x).map wtD)), .da (.lst ((spl n).map tI)), .da (.lst (rg (spl n).length fun k => qD (x k))), .da (qD (upQ n x)), .da (qD (dnQ n x)), .mu ((possL n R).map tI), w11, w12, .no, .no] _
  refine gs_cons (g1_ifB (gb_neT (s := possL n R) (t := possL n R) (hr.mono (show 0 ≤ 12 by decide)) (ge_callX L.ps (hr.mono (by decide)) (ga1 (gv_var 4)) fun ws e M B H vs hc p Q k => ⟨n, R, M, B, M6, hc, by rw [e] at p; exact p, .inl ⟨⟨x, hx⟩, k⟩⟩) (gv_tupleOf L.B.tuple (gv_var 10))) (fun z => ?_) (fun _ => gs_nil ?_))
  · rw [decide_eq_true rfl] at z; cases z
  refine gs_cons (g1_asgE (psN 13) (ge_callX (P := fun d => d = .bl (decide ((possL n R).length ≠ rkN n))) L.rig (hr.mono (by decide)) (ga1 (gv_var 4)) fun ws e M B H vs hc p Q k => ⟨n, R, M, B, M6, hc, by rw [e] at p; exact p, .inl ⟨n4, ⟨x, hx⟩, k⟩⟩) fun d e => ?_)
  subst e
  have rig := rig_law n1 n4 hx
  have ep : decide (((upQ n x + dnQ n x).num : Int) = 0) = decide ((possL n R).length ≠ rkN n) := by
    refine decide_eq_decide.mpr ?_
    rw [rig, Rat.num_eq_zero]
  refine gs_cons (g1_ifB (gb_or (l := false) (gb_not (gb_val (gv_isi (t := "bool") (b := true) rfl (by decide +kernel) L.B.isinstance L.B.bool PyProof.Rows.boot_bool (gv_var 13)))) fun _ => GB.eq (gb_neB (gv_var 13) (gv_eqI (gv_q0 (ge_call L.plus (hr.mono (by decide)) (ga2 (gv_var 8) (gv_var 9)) fun ws e => ⟨(upQ n x, dnQ n x), e.symm, ⟨hU, hD⟩, fun d e => e⟩)) gv_int)) ?_) (fun z => ?_) (fun _ => gs_nil ?_))
  · rw [ep]; simp
  · cases z
  refine gs_cons (g1_ret (gv_eqL (k := 0) (hr.mono (by decide)) (l := [.str "cuts", .str "cuts"]) (ps := [.str "cuts", .str "cuts"]) ?_ ?_ ?_ (ge_call L.rea hr (ga_cons (ge_metric (Pe := fun d => ∃ (o : Nat → Nat) (a b : Nat), 1 ≤ a ∧ a ≤ 4 ∧ 1 ≤ b ∧ b ≤ 3 ∧ (∀ i, i < 5 → o i < 5) ∧ (∀ i j, i < 5 → j < 5 → o i = o j → i = j) ∧ d = .tup (mD 5 (ratR (fun x y => k23 (o x) (o y)) a b))) (Po := fun d => ∃ R : Fn2, Met6 5 R ∧ (¬ ∃ x, RepW 5 (cuts 5) R x) ∧ d = .met 5 (mD 5 R)) L.MM (hr.mono (by decide)) (ge_call L.rat (hr.mono (by decide)) (ga_cons (ge_call L.two (hr.mono (by decide)) (ga_consS 1 ga_nil) fun ws e => ⟨(), e.symm, trivial, fun d e => e⟩) (ga_cons (ge_call L.fac (hr.mono (by decide)) (ga_consS 1 ga_nil) fun ws e => ⟨(), e.symm, trivial, fun d e => e⟩) ga_nil)) fun ws ⟨d1, ws1, e1, ⟨o, p1, o1, o2⟩, d2, ws2, e2, ⟨a, b, p2, q1, q2, q3, q4⟩, e3⟩ => ⟨⟨5, fun x y => k23 (o x) (o y), a, b⟩, by subst e3 e2 e1 p1 p2; rfl, ⟨(show (5 : Nat) ≤ 8 by decide), q1, q2, q3, q4⟩, fun d e => ⟨o, a, b, q1, q2, q3, q4, o1, o2, e⟩⟩) fun d ⟨o, a, b, q1, q2, q3, q4, o1, o2, e⟩ => ?_) ga_nil) fun ws ⟨d1, ws1, e1, ⟨R, r1, r2, r3⟩, e3⟩ => ⟨(5, R), by subst e3 e1 r3; rfl, ⟨r1, r2⟩, fun d e => e⟩) (GL.gv (gl_lst (ds := [.str "cuts", .str "cuts"]) (ga2 gv_str gv_str)))) fun d e => e)
  · exact .lst (.cons (.str _) (.cons (.str _) .nil))
  · first | decide +kernel | simp [SeqAt.shaped, PyData.canLay0, PyData.canLayAll0, PyData.depth, PyData.depthAll]
  · first | decide +kernel | simp [PyData.eqv, PyData.eqvAll]
  · have m6 := met6_of (n := 5) (by decide) (by decide) (k23_mt.ren o1) (k23_ap o1 o2) q1 q2 q3 q4
    exact ⟨_, 5, _, e, ⟨_, rfl, rfl, m6.met⟩, _, m6, no_k23 o1 o2 q1 q3, rfl⟩
end K33
end
section
set_option Elab.async false
set_option linter.all false
set_option maxRecDepth 100000
set_option exponentiation.threshold 10000
/-! V14: the law as a promise -/
namespace K33
open PySem L2
variable {c : Cl} {g : Gx} {C : Addr}
def spLaw (K : PySem.W.Frag) : Sp := fun vs H Q E => ∃ (a : Addr) (ns : List Int), vs = [.ref a] ∧ SqL K H a (ns.map V.int) ∧ ∀ H', Q (.bl true) H'
theorem ok_law {f : Addr} {fd : FuncData} (F : Fun g.K "law" "law" sLaw f fd) (L : LawT c g C) : Fo g 13 f fd ["_law_script"] (spLaw g.K) := by
  obtain ⟨f1, fd1, ps1, F1, hm, hk, hb⟩ := L.st
  refine F.ok scLaw (fun vs H Q E h => ?_) (fun cdv A outer s H vs Q E hr h => ?_)
  · obtain ⟨p, ns, rfl, _⟩ := h
    rfl
  · obtain ⟨a, ns, rfl, hs, k⟩ := h
    have hr12 : Room 12 (fmN g NLaw (defScope sLaw) scLaw.nd ⟨CX0, "law", f, cdv, A, outer, s, H, E⟩).A := hr
    have key : wSs (fmN g NLaw (defScope sLaw) scLaw.nd ⟨CX0, "law", f, cdv, A, outer, s, H, E⟩) (defBody sLaw) { nx := fun _ H' => Q .non H', rt := Q } (L2.start NLaw [.ref a]) H := by
      refine wss_cons ⟨_, psN 1, ?_⟩
      refine ⟨_, fun i => pe_call (E := E0) (fnAt F1) (room_at (hr12.mono (show 1 ≤ 12 by decide))) rfl hm hk hb (.nil : Vals [] []) passF (pa_cons (pe_var (i := 0) rfl (Or.inl rfl)) pa_nil) (by decide) rfl rfl, ?_⟩
      refine ⟨_, rfl, ?_⟩
      refine ⟨a, ns, rfl, hs, fun p s t H' h0 ex np hp => ?_⟩
      have hc : Hc (fun b => b = p) (some p) H' := ⟨fun b z => ⟨[.int s, .int t], by rw [z]; exact hp⟩, fun b z => (Option.some.inj z).symm, fun b z => by cases z; exact ⟨s, t, h0, hp⟩⟩
      have r0 := rs_entryR (c := c) (N := NLaw) (v := .ref a) (vs := [.ref p]) (ws := [.st]) hc (.cons ⟨p, rfl, rfl⟩ .nil)
      replace r0 : RS c [.raw (.ref a), .st, .no, .no, .no, .no, .no, .no, .no, .no, .no, .no, .no, .no, .no] _ _ _ _ _ _ := r0
      exact law_rest L hr12 _ _ _ _ _ _ r0 _ ⟨fun _ _ _ z => z.elim, fun d v H2 e _ _ s => by subst e; rw [s.blE]; exact k H2, fun _ _ _ z => z.elim, fun _ _ _ z => z.elim⟩
    obtain ⟨t, ht, tq⟩ := key
    exact ⟨t, ht (), tq⟩
end K33
end
section
set_option Elab.async false
set_option linter.all false
set_option maxRecDepth 100000
set_option exponentiation.threshold 10000
/-! E1: from the facts of the text to the promises -/
namespace K33
open PySem L2
/-- a def of the module as it stands behind the top -/
def DefP (K : PySem.W.Frag) (x : Str) (st : Stmt) : Prop := ∃ (f : Addr) (fd : FuncData), PySem.W.nsIn K mainGlobals x = some (some (.ref f)) ∧ Fun K x x st f fd
def MetP (K : PySem.W.Frag) (C : Addr) (m q : Str) (st : Stmt) : Prop := ∃ (f : Addr) (fd : FuncData), PySem.W.findIn K (.ref C) m = some (some (.ref f)) ∧ PySem.W.isFn K (.ref f) = true ∧ Fun K m q st f fd
theorem defP_mk {K : PySem.W.Frag} {x : Str} {st : Stmt} {f : Addr} {oc : Value} {od an : Option Addr} {osl : Array (Option Value)} {kV doc pm cdv ct : Value} (a : PySem.W.nsIn K mainGlobals x = some (some (.ref f)))
    (l : K.lookup f = some ⟨oc, od, .func (PySem.W.fnOf x x (defArgs st) (defBody st) (defScope st) .none kV doc pm an cdv ct), osl⟩) (c : PySem.W.codeIn K cdv x = true) (k : PySem.W.keepIn K (.ref f) = true) : DefP K x st := ⟨f, _, a, fun_mk l c k⟩
theorem metP_mk {K : PySem.W.Frag} {C : Addr} {m q : Str} {st : Stmt} {f : Addr} {oc : Value} {od an : Option Addr} {osl : Array (Option Value)} {kV doc pm cdv ct : Value} (a : PySem.W.findIn K (.ref C) m = some (some (.ref f))) (i : PySem.W.isFn K (.ref f) = true)
    (l : K.lookup f = some ⟨oc, od, .func (PySem.W.fnOf m q (defArgs st) (defBody st) (defScope st) .none kV doc pm an cdv ct), osl⟩) (c : PySem.W.codeIn K cdv q = true) (k : PySem.W.keepIn K (.ref f) = true) : MetP K C m q st := ⟨f, _, a, i, fun_mk l c k⟩
theorem fg_of {g : Gx} {h : Heap} {x : Str} {st : Stmt} {k : Nat} {sp : Sp} {ps : List Str} (X : g.K.In h) (G : h.Ns mainGlobals g.mg) (d : DefP g.K x st)
    (hb : ∀ (kV doc pm : Value) (an : Option Addr) (cdv ct : Value) (us : List Value), us.length = ps.length → bindArgs (PySem.W.fnOf x x (defArgs st) (defBody st) (defScope st) .none kV doc pm an cdv ct) ⟨us, []⟩ = pure (ps.zip us))
    (ok : ∀ (f : Addr) (fd : FuncData), Fun g.K x x st f fd → Fo g k f fd ps sp) : Fg g k x sp := by
  obtain ⟨f, fd, a, F⟩ := d
  exact ⟨f, fd, ps, ok f fd F, PySem.W.mg_of X G a, F.kp, F.binds hb⟩
theorem fgX_of {g : Gx} {h : Heap} {x : Str} {st : Stmt} {k : Nat} {sp : Sp} {ps : List Str} (X : g.K.In h) (G : h.Ns mainGlobals g.mg) (d : DefP g.K x st)
    (hb : ∀ (kV doc pm : Value) (an : Option Addr) (cdv ct : Value) (us : List Value), us.length = ps.length → bindArgs (PySem.W.fnOf x x (defArgs st) (defBody st) (defScope st) .none kV doc pm an cdv ct) ⟨us, []⟩ = pure (ps.zip us))
    (ok : ∀ (f : Addr) (fd : FuncData), Fun g.K x x st f fd → FnOk g.P g.w g.K g.mg g.base (L2.CX g.P g.w) k f fd ps sp) : FgX g k x sp := by
  obtain ⟨f, fd, a, F⟩ := d
  exact ⟨f, fd, ps, ok f fd F, PySem.W.mg_of X G a, F.kp, F.binds hb⟩
theorem og_of {g : Gx} {C : Addr} {m q : Str} {st : Stmt} {k : Nat} {sp : Sp} {ps : List Str} (d : MetP g.K C m q st)
    (hb : ∀ (kV doc pm : Value) (an : Option Addr) (cdv ct : Value) (us : List Value), us.length = ps.length → bindArgs (PySem.W.fnOf m q (defArgs st) (defBody st) (defScope st) .none kV doc pm an cdv ct) ⟨us, []⟩ = pure (ps.zip us))
    (ok : ∀ (f : Addr) (fd : FuncData), Fun g.K m q st f fd → Fo g k f fd ps sp) : Og g k C m sp := by
  obtain ⟨f, fd, a, i, F⟩ := d
  exact ⟨f, fd, ps, ok f fd F, ⟨a, i⟩, F.binds hb⟩
theorem mg_of' {g : Gx} {C : Addr} {m q : Str} {st : Stmt} {k : Nat} {sp : Sp} {ps : List Str} (d : MetP g.K C m q st)
    (hb : ∀ (kV doc pm : Value) (an : Option Addr) (cdv ct : Value) (us : List Value), us.length = ps.length → bindArgs (PySem.W.fnOf m q (defArgs st) (defBody st) (defScope st) .none kV doc pm an cdv ct) ⟨us, []⟩ = pure (ps.zip us))
    (ok : ∀ (f : Addr) (fd : FuncData), Fun g.K m q st f fd → Fo g k f fd ps sp) : Mg g k C m sp := by
  obtain ⟨f, fd, a, i, F⟩ := d
  exact ⟨f, fd, ps, ok f fd F, ⟨a, i, F.kp⟩, F.binds hb⟩

/-- the defs of the text -/
structure Defs (K : PySem.W.Frag) : Prop where
  dGcd : DefP K "_law_gcd" sGcd
  dZero : DefP K "zero" sZero
  dIsRat : DefP K "is_rational" sIsRat
  dAsRat : DefP K "as_ratio" sAsRat
  dTaken : DefP K "taken_rows" sTaken
  dKeeps : DefP K "keeps_triangles" sKeeps
  dApart : DefP K "is_apart" sApart
  dIsInt : DefP K "is_integer" sIsInt
  dCount : DefP K "check_count" sCount
  dPoints : DefP K "check_points" sPoints
  dSplits : DefP K "splits" sSplits
  dIsSplit : DefP K "is_split" sIsSplit
  dCutRows : DefP K "cut_rows" sCutRows
  dPairRow : DefP K "pair_row" sPairRow
  dCutCols : DefP K "cut_columns" sCutCols
  dRowF : DefP K "row_factor" sRowF
  dStart : DefP K "starting" sStart
  dCosts : DefP K "costs" sCosts
  dSub : DefP K "subtracted" sSub
  dLeav : DefP K "leaving" sLeav
  dFeas : DefP K "feasible" sFeas
  dClr : DefP K "cleared" sClr
  dRed : DefP K "reduced" sRed
  dRank : DefP K "rank" sRank
  dDec : DefP K "decided" sDec
  dCW : DefP K "cut_weights" sCW
  dPS : DefP K "possible_splits" sPS
  dRig : DefP K "is_rigid" sRig
  dFrac : DefP K "_law_frac" sFrac
  dPlus : DefP K "_law_plus" sPlus
  dLess : DefP K "_law_less" sLess
  dWeight : DefP K "_law_weight" sWeight
  dLeast : DefP K "_law_least" sLeast
  dTake : DefP K "_law_take" sTake
  dFactor : DefP K "_law_factor" sFactor
  dSplL : DefP K "_law_splits" sSplL
  dApL : DefP K "_law_is_apart" sApL
  dRen : DefP K "_law_renamed" sRen
  dRat : DefP K "_law_ratios" sRat
  dSho : DefP K "_law_shortest" sSho
  dOrd : DefP K "_law_order_of" sOrd
  dTwo : DefP K "_law_two_three" sTwo
  dBand : DefP K "_law_band" sBand
  dWeb : DefP K "_law_web" sWeb
  dTree : DefP K "_law_of_tree" sTree
  dCS : DefP K "_law_cut_sum" sCS
  dGrid : DefP K "_law_grid" sGrid
  dLev : DefP K "_law_levels" sLev
  dRows : DefP K "_law_rows" sRows
  dState : DefP K "_law_state" sState
  dRea : DefP K "_law_reasons" sRea
end K33
end
section
set_option Elab.async false
set_option linter.all false
set_option maxRecDepth 100000
set_option exponentiation.threshold 10000
set_option maxHeartbeats 0
/-! E2: all promises of the law, from the facts -/
namespace K33
open PySem L2
/-- what stands of the classes and the globals -/
structure Cla (c : Cl) (g : Gx) (C : Addr) : Prop where
  B : Nb g
  ct : Ct c g.K
  isR : CtI c.R g.K
  nmR : g.mg "Ratio" = some (.ref c.R)
  nmM : g.mg "Metric" = some (.ref c.M)
  sf : PySem.W.selfFirst g.K c.R = true
  ne : PySem.W.findIn g.K (.ref c.R) "__ne__" = some (some (.builtin "object.__ne__"))
  gcd : g.mg "gcd" = some (.builtin "math.gcd")
  lcm : g.mg "lcm" = some (.builtin "math.lcm")
  m8 : ∃ t : Tok, g.mg "MOST" = some (.int 8 t)
  kR : PySem.W.makesIn g.K c.R = true ∧ PySem.W.keepIn g.K (.ref c.R) = true
  kM : PySem.W.makesIn g.K c.M = true ∧ PySem.W.keepIn g.K (.ref c.M) = true
  ri : ∃ (f : Addr) (fd : FuncData), PySem.W.findIn g.K (.ref c.R) "__init__" = some (some (.ref f)) ∧ PySem.W.isFn g.K (.ref f) = true ∧ FunD g.K "__init__" "Ratio.__init__" (defArgs sRI) (defBody sRI) (defScope sRI) [.int 1] [] f fd ∧ Binds g.K fd ["self", "n", "d"] [] ∧ ∃ ds, Vals [.int 1] ds ∧ Binds g.K fd ["self", "n", "d"] ds
  req : MetP g.K c.R "__eq__" "Ratio.__eq__" sREq
  radd : MetP g.K c.R "__add__" "Ratio.__add__" sRAdd
  rsub : MetP g.K c.R "__sub__" "Ratio.__sub__" sRSub
  rmul : MetP g.K c.R "__mul__" "Ratio.__mul__" sRMul
  rneg : MetP g.K c.R "__neg__" "Ratio.__neg__" sRNeg
  rz : MetP g.K c.R "is_zero" "Ratio.is_zero" sRZ
  rsg : MetP g.K c.R "sign" "Ratio.sign" sRSg
  rov : MetP g.K c.R "over" "Ratio.over" sROver
  mi : MetP g.K c.M "__init__" "Metric.__init__" sMI
  mp : MetP g.K c.M "pairs" "Metric.pairs" sPairs
  RR : RfX g.P g.w g.K g.mg g.base C

theorem all_of {g : Gx} {h : Heap} {c : Cl} {C : Addr} (X : g.K.In h) (G : h.Ns mainGlobals g.mg) (D : Defs g.K) (A : Cla c g C) : LawT c g C := by
  obtain ⟨B, ct, isR, nmR, nmM, sf, ne, gcd, lcm, ⟨t8, m8⟩, kR, kM, ⟨fi, fdi, ri1, ri2, ri3, ri4, ri5⟩, req, radd, rsub, rmul, rneg, rz, rsg, rov, mi, mp, RR⟩ := A
  have mr : RM c g := ⟨nmR, fi, fdi, ⟨kR.1, ri1, ri2, kR.2⟩, ok_RI ri3 ct gcd, ri4, ri5⟩
  have T : Rt c g := ⟨ct, isR, nmR, sf, ne, mr,
    og_of req (ps := N2) (fun _ _ _ _ _ _ us hl => match us, hl with | [_, _], _ => rfl) (fun f fd F => ok_REq F ct isR B nmR),
    og_of radd (ps := N2) (fun _ _ _ _ _ _ us hl => match us, hl with | [_, _], _ => rfl) (fun f fd F => ok_RAdd F ct mr),
    og_of rsub (ps := N2) (fun _ _ _ _ _ _ us hl => match us, hl with | [_, _], _ => rfl) (fun f fd F => ok_RSub F ct mr),
    og_of rmul (ps := N2) (fun _ _ _ _ _ _ us hl => match us, hl with | [_, _], _ => rfl) (fun f fd F => ok_RMul F ct mr),
    og_of rneg (ps := N1) (fun _ _ _ _ _ _ us hl => match us, hl with | [_], _ => rfl) (fun f fd F => ok_RNeg F ct mr),
    mg_of' rz (ps := N1) (fun _ _ _ _ _ _ us hl => match us, hl with | [_], _ => rfl) (fun f fd F => ok_RZ F ct),
    mg_of' rsg (ps := N1) (fun _ _ _ _ _ _ us hl => match us, hl with | [_], _ => rfl) (fun f fd F => ok_RSg F ct B),
    mg_of' rov (ps := N2) (fun _ _ _ _ _ _ us hl => match us, hl with | [_, _], _ => rfl) (fun f fd F => ok_ROver F ct mr)⟩
  have gcd' : Fg g 1 "_law_gcd" (spGcd c) := fg_of X G D.dGcd (fun _ _ _ _ _ _ us hl => match us, hl with | [_, _], _ => rfl) fun f fd F => ok_gcd F B
  have zero : Fg g 3 "zero" (spZero c) := fg_of X G D.dZero (fun _ _ _ _ _ _ us hl => match us, hl with | [], _ => rfl) fun f fd F => ok_zero F mr
  have israt : Fg g 1 "is_rational" (spIsRat c) := fg_of X G D.dIsRat (fun _ _ _ _ _ _ us hl => match us, hl with | [_], _ => rfl) fun f fd F => ok_isRat F isR B nmR
  have asrat : Fg g 1 "as_ratio" (spAsRat c) := fg_of X G D.dAsRat (fun _ _ _ _ _ _ us hl => match us, hl with | [_], _ => rfl) fun f fd F => ok_asRat F isR B nmR
  have taken : Fg g 2 "taken_rows" (spTaken c) := fg_of X G D.dTaken (fun _ _ _ _ _ _ us hl => match us, hl with | [_], _ => rfl) fun f fd F => ok_taken F B israt asrat
  have keeps : Fg g 4 "keeps_triangles" (spKeeps c) := fg_of X G D.dKeeps (fun _ _ _ _ _ _ us hl => match us, hl with | [_], _ => rfl) fun f fd F => ok_keeps F B T
  have apart : Fg g 2 "is_apart" (spKeeps c) := fg_of X G D.dApart (fun _ _ _ _ _ _ us hl => match us, hl with | [_], _ => rfl) fun f fd F => ok_apart F B T
  have isint : Fg g 1 "is_integer" (spIsInt c) := fg_of X G D.dIsInt (fun _ _ _ _ _ _ us hl => match us, hl with | [_], _ => rfl) fun f fd F => ok_isInt F B
  have count : Fg g 2 "check_count" (spCount c) := fg_of X G D.dCount (fun _ _ _ _ _ _ us hl => match us, hl with | [_], _ => rfl) fun f fd F => ok_count F isint
  have points : Fg g 3 "check_points" (spCount c) := fg_of X G D.dPoints (fun _ _ _ _ _ _ us hl => match us, hl with | [_], _ => rfl) fun f fd F => ok_points F m8 count
  have splits : Fg g 4 "splits" (spSplits c) := fg_of X G D.dSplits (fun _ _ _ _ _ _ us hl => match us, hl with | [_], _ => rfl) fun f fd F => ok_splits F B points
  have issplit : Fg g 5 "is_split" (spIsSplit c) := fg_of X G D.dIsSplit (fun _ _ _ _ _ _ us hl => match us, hl with | [_, _], _ => rfl) fun f fd F => ok_isSplit F B isint splits
  have cutrows : Fg g 6 "cut_rows" (spCutRows c) := fg_of X G D.dCutRows (fun _ _ _ _ _ _ us hl => match us, hl with | [_, _], _ => rfl) fun f fd F => ok_cutRows F B T points issplit
  have pairrow : Fg g 1 "pair_row" (spPairRow c) := fg_of X G D.dPairRow (fun _ _ _ _ _ _ us hl => match us, hl with | [_, _], _ => rfl) fun f fd F => ok_pairRow F B
  have cutcols : Fg g 7 "cut_columns" (spCutCols c) := fg_of X G D.dCutCols (fun _ _ _ _ _ _ us hl => match us, hl with | [_], _ => rfl) fun f fd F => ok_cutCols F splits cutrows pairrow
  have rowf : Fg g 2 "row_factor" (spRowF c) := fg_of X G D.dRowF (fun _ _ _ _ _ _ us hl => match us, hl with | [_], _ => rfl) fun f fd F => ok_rowF F T lcm
  have start : Fg g 3 "starting" (spStart c) := fg_of X G D.dStart (fun _ _ _ _ _ _ us hl => match us, hl with | [_, _], _ => rfl) fun f fd F => ok_start F B T rowf
  have costs : Fg g 1 "costs" (spCosts c) := fg_of X G D.dCosts (fun _ _ _ _ _ _ us hl => match us, hl with | [_, _], _ => rfl) fun f fd F => ok_costs F B
  have sub : Fg g 1 "subtracted" (spSub c) := fg_of X G D.dSub (fun _ _ _ _ _ _ us hl => match us, hl with | [_, _, _, _], _ => rfl) fun f fd F => ok_sub F B
  have leav : Fg g 1 "leaving" (spLeav c) := fg_of X G D.dLeav (fun _ _ _ _ _ _ us hl => match us, hl with | [_, _, _], _ => rfl) fun f fd F => ok_leav F B
  have feas : Fg g 4 "feasible" (spFeas c) := fg_of X G D.dFeas (fun _ _ _ _ _ _ us hl => match us, hl with | [_, _], _ => rfl) fun f fd F => ok_feas F B T start costs leav sub zero
  have clr : Fg g 4 "cleared" (spClr c) := fg_of X G D.dClr (fun _ _ _ _ _ _ us hl => match us, hl with | [_, _, _], _ => rfl) fun f fd F => ok_clr F B T
  have red : Fg g 5 "reduced" (spRed c) := fg_of X G D.dRed (fun _ _ _ _ _ _ us hl => match us, hl with | [_, _], _ => rfl) fun f fd F => ok_red F B T clr
  have rank : Fg g 6 "rank" (spRank c) := fg_of X G D.dRank (fun _ _ _ _ _ _ us hl => match us, hl with | [_, _], _ => rfl) fun f fd F => ok_rank F B red
  have pairs : Mg g 1 c.M "pairs" (spPairs c) := mg_of' mp (ps := ["self"]) (fun _ _ _ _ _ _ us hl => match us, hl with | [_], _ => rfl) fun f fd F => ok_pairs F B T
  have dec : Fg g 8 "decided" (spDec c) := fg_of X G D.dDec (fun _ _ _ _ _ _ us hl => match us, hl with | [_], _ => rfl) fun f fd F => ok_dec F T cutcols feas pairs
  have cw : Fg g 9 "cut_weights" (spCW c) := fg_of X G D.dCW (fun _ _ _ _ _ _ us hl => match us, hl with | [_], _ => rfl) fun f fd F => ok_CW F B T dec splits
  have ps : FgX g 9 "possible_splits" (spPS c C) := fgX_of X G D.dPS (ps := ["m"]) (fun _ _ _ _ _ _ us hl => match us, hl with | [_], _ => rfl) fun f fd F => ok_PS F B T dec cutcols feas pairs splits RR
  have rig : FgX g 10 "is_rigid" (spRig c C) := fgX_of X G D.dRig (ps := ["m"]) (fun _ _ _ _ _ _ us hl => match us, hl with | [_], _ => rfl) fun f fd F => ok_Rig F B T ps pairrow cutrows rank pairs
  have frac : Fg g 2 "_law_frac" (spFrac c) := fg_of X G D.dFrac (fun _ _ _ _ _ _ us hl => match us, hl with | [_, _], _ => rfl) fun f fd F => ok_frac F gcd'
  have plus : Fg g 3 "_law_plus" (spPlus c) := fg_of X G D.dPlus (fun _ _ _ _ _ _ us hl => match us, hl with | [_, _], _ => rfl) fun f fd F => ok_plus F frac
  have less : Fg g 1 "_law_less" (spLess c) := fg_of X G D.dLess (fun _ _ _ _ _ _ us hl => match us, hl with | [_, _], _ => rfl) fun f fd F => ok_less F
  have wt : Fg g 1 "_law_weight" (spWeight c) := fg_of X G D.dWeight (fun _ _ _ _ _ _ us hl => match us, hl with | [_, _], _ => rfl) fun f fd F => ok_weight T F
  have least : Fg g 2 "_law_least" (spLeast c) := fg_of X G D.dLeast (fun _ _ _ _ _ _ us hl => match us, hl with | [_], _ => rfl) fun f fd F => ok_least F less
  have take : Fg g 1 "_law_take" (spTake c) := fg_of X G D.dTake (fun _ _ _ _ _ _ us hl => match us, hl with | [_, _], _ => rfl) fun f fd F => ok_take F B
  have fac : Fg g 2 "_law_factor" (spFactor c) := fg_of X G D.dFactor (fun _ _ _ _ _ _ us hl => match us, hl with | [_], _ => rfl) fun f fd F => ok_factor F take
  have spl : Fg g 1 "_law_splits" (spSplL c) := fg_of X G D.dSplL (fun _ _ _ _ _ _ us hl => match us, hl with | [_], _ => rfl) fun f fd F => ok_splL F B
  have apl : Fg g 1 "_law_is_apart" (spApL c) := fg_of X G D.dApL (fun _ _ _ _ _ _ us hl => match us, hl with | [_], _ => rfl) fun f fd F => ok_apL F B
  have ren : Fg g 1 "_law_renamed" (spRen c) := fg_of X G D.dRen (fun _ _ _ _ _ _ us hl => match us, hl with | [_, _], _ => rfl) fun f fd F => ok_ren F B
  have rat : Fg g 3 "_law_ratios" (spRat c) := fg_of X G D.dRat (fun _ _ _ _ _ _ us hl => match us, hl with | [_, _], _ => rfl) fun f fd F => ok_rat F B T
  have sho : Fg g 1 "_law_shortest" (spSho c) := fg_of X G D.dSho (fun _ _ _ _ _ _ us hl => match us, hl with | [_], _ => rfl) fun f fd F => ok_sho F B
  have ord : Fg g 2 "_law_order_of" (spOrd c) := fg_of X G D.dOrd (fun _ _ _ _ _ _ us hl => match us, hl with | [_, _], _ => rfl) fun f fd F => ok_ord F B take
  have two : Fg g 3 "_law_two_three" (spTwo c) := fg_of X G D.dTwo (fun _ _ _ _ _ _ us hl => match us, hl with | [_], _ => rfl) fun f fd F => ok_two F B ord ren
  have band : Fg g 2 "_law_band" (spMk c) := fg_of X G D.dBand (fun _ _ _ _ _ _ us hl => match us, hl with | [_, _], _ => rfl) fun f fd F => ok_band F B take
  have web : Fg g 2 "_law_web" (spWeb c) := fg_of X G D.dWeb (fun _ _ _ _ _ _ us hl => match us, hl with | [_, _, _], _ => rfl) fun f fd F => ok_web F B take sho
  have tree : Fg g 3 "_law_of_tree" (spMk c) := fg_of X G D.dTree (fun _ _ _ _ _ _ us hl => match us, hl with | [_, _], _ => rfl) fun f fd F => ok_tree F B take sho ord ren
  have cs : Fg g 2 "_law_cut_sum" (spCS c) := fg_of X G D.dCS (fun _ _ _ _ _ _ us hl => match us, hl with | [_, _], _ => rfl) fun f fd F => ok_CS F B take spl
  have grid : Fg g 2 "_law_grid" (spMk c) := fg_of X G D.dGrid (fun _ _ _ _ _ _ us hl => match us, hl with | [_, _], _ => rfl) fun f fd F => ok_grid F B take
  have lev : Fg g 2 "_law_levels" (spMk c) := fg_of X G D.dLev (fun _ _ _ _ _ _ us hl => match us, hl with | [_, _], _ => rfl) fun f fd F => ok_lev F B take
  have rows : Fg g 4 "_law_rows" (spRows c) := fg_of X G D.dRows (fun _ _ _ _ _ _ us hl => match us, hl with | [_, _], _ => rfl) fun f fd F => ok_rows F B take web tree grid band lev
  have st : Fg g 1 "_law_state" (spState g.K) := fg_of X G D.dState (fun _ _ _ _ _ _ us hl => match us, hl with | [_], _ => rfl) fun f fd F => ok_state c F B
  have rea : Fg g 12 "_law_reasons" (spRea c) := fg_of X G D.dRea (fun _ _ _ _ _ _ us hl => match us, hl with | [_], _ => rfl) fun f fd F => ok_rea F RR ps rig
  have MM : MMk c g.P g.w g.K g.mg g.base 5 mPr := by
    obtain ⟨f, fd, a, i, F⟩ := mi
    exact ⟨nmM, f, fd, ⟨kM.1, a, i, kM.2⟩, ok_MI F B T m8 taken keeps apart, F.binds (fun _ _ _ _ _ _ us hl => match us, hl with | [_, _], _ => rfl)⟩
  exact ⟨B, T, MM, st, rows, take, cs, apl, rat, fac, cw, spl, wt, least, plus, ps, rig, two, rea⟩
end K33
end
section
set_option Elab.async false
set_option linter.all false
set_option maxRecDepth 100000
set_option exponentiation.threshold 10000
/-! E3: the class's facts, from what the top has written -/
namespace K33
open PySem L2
/-- the names of what is built in -/
def freeN : List Str := ["len", "range", "abs", "int", "tuple", "list", "sum", "zip", "min", "max", "bool", "sorted", "isinstance", "super"]
/-- Ratio's maker -/
def RiP (K : PySem.W.Frag) (R : Addr) : Prop := ∃ (f : Addr) (fd : FuncData), PySem.W.findIn K (.ref R) "__init__" = some (some (.ref f)) ∧ PySem.W.isFn K (.ref f) = true ∧ FunD K "__init__" "Ratio.__init__" (defArgs sRI) (defBody sRI) (defScope sRI) [.int 1] [] f fd ∧ Binds K fd ["self", "n", "d"] [] ∧ ∃ ds, Vals [.int 1] ds ∧ Binds K fd ["self", "n", "d"] ds
theorem riP_mk {K : PySem.W.Frag} {R f T : Addr} {oc oT : Value} {od an dT : Option Addr} {osl sT : Array (Option Value)} {kV doc pm cdv ct : Value} {t1 : Tok} {nT : Nat}
    (a : PySem.W.findIn K (.ref R) "__init__" = some (some (.ref f))) (i : PySem.W.isFn K (.ref f) = true)
    (l : K.lookup f = some ⟨oc, od, .func (PySem.W.fnOf "__init__" "Ratio.__init__" (defArgs sRI) (defBody sRI) (defScope sRI) (.ref T) kV doc pm an cdv ct), osl⟩)
    (c : PySem.W.codeIn K cdv "Ratio.__init__" = true) (k : PySem.W.keepIn K (.ref f) = true) (lT : K.lookup T = some ⟨oT, dT, .seq #[.int 1 t1] nT, sT⟩) : RiP K R := by
  have F : FunD K "__init__" "Ratio.__init__" (defArgs sRI) (defBody sRI) (defScope sRI) [.int 1] [] f (PySem.W.fnOf "__init__" "Ratio.__init__" (defArgs sRI) (defBody sRI) (defScope sRI) (.ref T) kV doc pm an cdv ct) :=
    ⟨⟨oc, od, _, kV, doc, pm, an, cdv, ct, osl, rfl, l, c, .inr ⟨by simp, T, _, [.int 1 t1], nT, rfl, lT, rfl, .cons ⟨t1, rfl⟩ .nil⟩, .inl rfl⟩, k⟩
  refine ⟨f, _, a, i, F, ?_, ?_⟩
  · obtain ⟨ds, v, b⟩ := F.binds1 (ps := ["self", "n", "d"]) 3 1 (by simp) rfl fun T kV doc pm an cdv ct us its hu hi => match us, its, hu, hi with | [_, _, _], [_], _, _ => ⟨_, rfl, rfl⟩
    cases v
    exact b
  · exact F.binds1 (ps := ["self", "n", "d"]) 2 0 (by simp) rfl fun T kV doc pm an cdv ct us its hu hi => match us, its, hu, hi with | [_, _], [_], _, _ => ⟨_, rfl, rfl⟩
/-- Refused's facts, but for the base -/
def RfP (P : Program) (K : PySem.W.Frag) (C : Addr) : Prop := OexC K C ∧ XfC K C ∧ PySem.W.findIn K (.ref C) "reason" = some none ∧ PySem.W.exmOne K (.ref C) (.ref C) = some true ∧
  ∃ (f cc cda : Addr) (fd : FuncData), PySem.W.findIn K (.ref C) "__init__" = some (some (.ref f)) ∧ PySem.W.typeIn K (.ref f) = some (.type "function") ∧ ∀ mg : Str → Option Value, mg "super" = none → RfT P K mg C f cc cda fd
theorem exm_me {K : PySem.W.Frag} {C : Addr} (h1 : PySem.W.subIn K (.ref C) (.type "BaseException") = some true) (h2 : PySem.W.isClsIn K C = true) (h3 : PySem.W.typeIn K (.ref C) = some (.type "type")) (h4 : PySem.W.subIn K (.ref C) (.ref C) = some true) :
    PySem.W.exmOne K (.ref C) (.ref C) = some true := by
  have h2' : (PySem.W.clsIn K C).isSome = true := h2
  unfold PySem.W.exmOne PySem.W.kitCls
  rw [h1]
  simp [h2', h3, h4]
theorem rfP_mk {P : Program} {K : PySem.W.Frag} {C f cc cda : Addr} {nm q0 : Str} {N0 : Addr} {bs bm : List Value} {sn : List Str} {sub0 : List Value} {ab : Bool} {col : Option Bool} {dd : Option Addr} {k0 k1 k2 k3 k5 : Option Value}
    {oc doc pm ct ccl cl : Value} {od cdd cld : Option Addr} {osl ccs csl : Array (Option Value)} {vs : Array Value} {file : Str} {tf : Tok}
    (lC : K.lookup C = some (excClassObj nm q0 C N0 bs bm true sn sub0 ab col dd k0 k1 k2 k3 k5 "ValueError.__new__")) (hbm : PySem.HandSPX.refsVE bm = true)
    (sa : PySem.W.findIn K (.ref C) "__setattr__" = some (some (.builtin "object.__setattr__"))) (exC : PySem.W.subIn K (.ref C) (.type "BaseException") = some true) (tyC : PySem.W.typeIn K (.ref C) = some (.type "type")) (kC : PySem.W.keepIn K (.ref C) = true)
    (ga : PySem.W.findIn K (.ref C) "__getattribute__" = some (some (.builtin "BaseException.__getattribute__"))) (gg : PySem.W.findIn K (.ref C) "__getattr__" = some none) (hdC : PySem.W.hasDictIn K C = true)
    (noR : PySem.W.findIn K (.ref C) "reason" = some none) (iC : PySem.W.isClsIn K C = true) (sC : PySem.W.subIn K (.ref C) (.ref C) = some true)
    (a : PySem.W.findIn K (.ref C) "__init__" = some (some (.ref f))) (tf0 : PySem.W.typeIn K (.ref f) = some (.type "function")) (l : K.lookup f = some ⟨oc, od, .func ((rfF cc cda).fd doc pm ct), osl⟩)
    (cd : PySem.W.codeIn K (.ref cda) "Refused.__init__" = true) (lcode : K.lookup cda = some ⟨ccl, cdd, .fields vs, ccs⟩) (hv : vs[2]? = some (.str file tf)) (hf : ((P.main.file : Str) == file) = true)
    (lcell : K.lookup cc = some ⟨cl, cld, .cell (some (.ref C)), csl⟩) (top : (P.main.scope.names.lookup ("super" : Str)).isSome = false) (ops : PySem.W.nsIn K cStatics "thirdparty.any" = some none)
    (sup : PySem.W.ks_superIn K C C "__init__" = some (some (.builtin "ValueError.__init__"))) (sub : PySem.W.subIn K (.ref C) (.type "ValueError") = some true) (mro : PySem.W.mroIn K C (.ref C) = some true) : RfP P K C := by
  have ox : OexC K C := ⟨⟨nm, q0, N0, bs, bm, sn, sub0, ab, col, dd, k0, k1, k2, k3, k5, lC, hbm⟩, sa, exC, tyC, kC⟩
  exact ⟨ox, ⟨ga, gg, exC, hdC⟩, noR, exm_me exC iC tyC sC, f, cc, cda, _, a, tf0, fun mg ms => ⟨ox, ⟨oc, od, doc, pm, ct, osl, rfl, l⟩, cd, ⟨ccl, cdd, vs, ccs, file, tf, lcode, hv, hf⟩, ⟨cl, cld, csl, lcell⟩, top, ms, ops, sup, sub, noR, mro⟩⟩
theorem binds_Rf {K : PySem.W.Frag} {cc cda : Addr} {doc pm ct : Value} : Binds K ((rfF cc cda).fd doc pm ct) ["self", "reason"] [] := .all fun us hl => match us, hl with | [_, _], _ => rfl
/-- all that stands of the classes and the globals, without a base -/
structure ClaK (P : Program) (K : PySem.W.Frag) (R M C : Addr) : Prop where
  fr : ∀ x ∈ freeN, PySem.W.nsIn K mainGlobals x = some none
  aR : PySem.W.nsIn K mainGlobals "Ratio" = some (some (.ref R))
  aM : PySem.W.nsIn K mainGlobals "Metric" = some (some (.ref M))
  aC : PySem.W.nsIn K mainGlobals "Refused" = some (some (.ref C))
  gcd : PySem.W.nsIn K mainGlobals "gcd" = some (some (.builtin "math.gcd"))
  lcm : PySem.W.nsIn K mainGlobals "lcm" = some (some (.builtin "math.lcm"))
  m8 : ∃ t : Tok, PySem.W.nsIn K mainGlobals "MOST" = some (some (.int 8 t))
  clR : Cls K R
  clM : Cls K M
  rN : NoAttr K R "n"
  rD : NoAttr K R "d"
  mN : NoAttr K M "n"
  mR : NoAttr K M "rows"
  isR : CtI R K
  sf : PySem.W.selfFirst K R = true
  ne : PySem.W.findIn K (.ref R) "__ne__" = some (some (.builtin "object.__ne__"))
  kR : PySem.W.makesIn K R = true ∧ PySem.W.keepIn K (.ref R) = true
  kM : PySem.W.makesIn K M = true ∧ PySem.W.keepIn K (.ref M) = true
  ri : RiP K R
  req : MetP K R "__eq__" "Ratio.__eq__" sREq
  radd : MetP K R "__add__" "Ratio.__add__" sRAdd
  rsub : MetP K R "__sub__" "Ratio.__sub__" sRSub
  rmul : MetP K R "__mul__" "Ratio.__mul__" sRMul
  rneg : MetP K R "__neg__" "Ratio.__neg__" sRNeg
  rz : MetP K R "is_zero" "Ratio.is_zero" sRZ
  rsg : MetP K R "sign" "Ratio.sign" sRSg
  rov : MetP K R "over" "Ratio.over" sROver
  mi : MetP K M "__init__" "Metric.__init__" sMI
  mp : MetP K M "pairs" "Metric.pairs" sPairs
  rf : RfP P K C
theorem claK_ex {P : Program} {K : PySem.W.Frag} {R M C : Addr} {t8 : Tok} (fr : ∀ x ∈ freeN, PySem.W.nsIn K mainGlobals x = some none)
    (aR : PySem.W.nsIn K mainGlobals "Ratio" = some (some (.ref R)))
    (aM : PySem.W.nsIn K mainGlobals "Metric" = some (some (.ref M)))
    (aC : PySem.W.nsIn K mainGlobals "Refused" = some (some (.ref C)))
    (gcd : PySem.W.nsIn K mainGlobals "gcd" = some (some (.builtin "math.gcd")))
    (lcm : PySem.W.nsIn K mainGlobals "lcm" = some (some (.builtin "math.lcm")))
    (m8 : PySem.W.nsIn K mainGlobals "MOST" = some (some (.int 8 t8)))
    (clR : Cls K R)
    (clM : Cls K M)
    (rN : NoAttr K R "n")
    (rD : NoAttr K R "d")
    (mN : NoAttr K M "n")
    (mR : NoAttr K M "rows")
    (isR : CtI R K)
    (sf : PySem.W.selfFirst K R = true)
    (ne : PySem.W.findIn K (.ref R) "__ne__" = some (some (.builtin "object.__ne__")))
    (kR : PySem.W.makesIn K R = true ∧ PySem.W.keepIn K (.ref R) = true)
    (kM : PySem.W.makesIn K M = true ∧ PySem.W.keepIn K (.ref M) = true)
    (ri : RiP K R)
    (req : MetP K R "__eq__" "Ratio.__eq__" sREq)
    (radd : MetP K R "__add__" "Ratio.__add__" sRAdd)
    (rsub : MetP K R "__sub__" "Ratio.__sub__" sRSub)
    (rmul : MetP K R "__mul__" "Ratio.__mul__" sRMul)
    (rneg : MetP K R "__neg__" "Ratio.__neg__" sRNeg)
    (rz : MetP K R "is_zero" "Ratio.is_zero" sRZ)
    (rsg : MetP K R "sign" "Ratio.sign" sRSg)
    (rov : MetP K R "over" "Ratio.over" sROver)
    (mi : MetP K M "__init__" "Metric.__init__" sMI)
    (mp : MetP K M "pairs" "Metric.pairs" sPairs)
    (rf : RfP P K C) :
    ∃ R M C : Addr, ClaK P K R M C := ⟨R, M, C, fr, aR, aM, aC, gcd, lcm, ⟨t8, m8⟩, clR, clM, rN, rD, mN, mR, isR, sf, ne, kR, kM, ri, req, radd, rsub, rmul, rneg, rz, rsg, rov, mi, mp, rf⟩
theorem cla_of {P : Program} {w : World} {K : PySem.W.Frag} {h base : Heap} {mg : Str → Option Value} {R M C : Addr} (X : K.In h) (G : h.Ns mainGlobals mg) (A : ClaK P K R M C) : Cla ⟨R, M⟩ ⟨P, w, K, mg, base⟩ C := by
  have fr : ∀ x ∈ freeN, mg x = none := fun x hx => PySem.W.mg_none_of X G (A.fr x hx)
  have q : ∀ i, ∀ x, freeN[i]? = some x → mg x = none := fun i x e => fr x (List.mem_of_getElem? e)
  have B : Nb ⟨P, w, K, mg, base⟩ := ⟨q 0 _ rfl, q 1 _ rfl, q 2 _ rfl, q 3 _ rfl, q 4 _ rfl, q 5 _ rfl, q 6 _ rfl, q 7 _ rfl, q 8 _ rfl, q 9 _ rfl, q 10 _ rfl, q 11 _ rfl, q 12 _ rfl⟩
  obtain ⟨ox, xf, noR, te, f, cc, cda, fd, ia, it, T⟩ := A.rf
  have T' := T mg (q 13 _ rfl)
  obtain ⟨t8, m8⟩ := A.m8
  refine ⟨B, ⟨A.clR, A.rN, A.rD, A.clM, A.mN, A.mR⟩, A.isR, PySem.W.mg_of X G A.aR, PySem.W.mg_of X G A.aM, A.sf, A.ne, PySem.W.mg_of X G A.gcd, PySem.W.mg_of X G A.lcm, ⟨t8, PySem.W.mg_of X G m8⟩, A.kR, A.kM, A.ri, A.req, A.radd, A.rsub, A.rmul, A.rneg, A.rz, A.rsg, A.rov, A.mi, A.mp, ?_⟩
  refine ⟨PySem.W.mg_of X G A.aC, ox, ⟨f, fd, ia, it, ok_Rf T', ?_⟩, xf, noR, te⟩
  obtain ⟨_, _, _, _, _, _, rfl, _⟩ := T'.fn
  exact binds_Rf
/-- the law's promise, from what the top has written -/
theorem law_fin {P : Program} {w : World} {K : PySem.W.Frag} {h : Heap} {mg : Str → Option Value} {fa R M C : Addr} (X : K.In h) (G : h.Ns mainGlobals mg) (hfa : mg "law" = some (.ref fa)) (D : Defs K) (DL : DefP K "law" sLaw) (A : ClaK P K R M C) :
    ∃ fd : FuncData, (∀ (s : Shared) (v : Value), BindsTo s fd ⟨[v], []⟩ [("_law_script", v)]) ∧ ∀ base : Heap, K.In base → base.Ns mainGlobals mg → FnOk P w K mg base CX0 13 fa fd ["_law_script"] (spLaw K) := by
  obtain ⟨f, fd, a, F⟩ := DL
  have e := hfa.symm.trans (PySem.W.mg_of X G a)
  cases e
  refine ⟨fd, ?_, fun base Xb Gb => ?_⟩
  · obtain ⟨⟨_, _, _, _, _, _, _, _, _, rfl, _, _⟩, _⟩ := F
    exact fun s v => .of_eq rfl
  · exact ok_law (g := ⟨P, w, K, mg, base⟩) F (all_of (g := ⟨P, w, K, mg, base⟩) X G D (cla_of X G A))
theorem walk {l : PySem.W.OpenLaw} {q : Program} {loose : List Str} {XP : (Str → Option Value) → Heap → Prop} {YP : World → Heap → Prop} {d : DefRec} {K : Params → PySem.W.Frag} (hn : l.most = some 63) (hdf : d.params.defaults = []) (hd : d.name = "law")
    (hY : ∀ (w : World) (h : Heap), YP w h → (K w.params).In h) (D : ∀ w : World, Defs (K w.params)) (DL : ∀ w : World, DefP (K w.params) "law" sLaw) (A : ∀ w : World, ∃ R M C : Addr, ClaK l.prog (K w.params) R M C) :
    PySem.W.WalkO q loose XP YP l.row.toRowW d [] (fun f vs => PySem.call f vs) :=
  L2.walk_of (n := 63) (k := 13) (x := "_law_script") (CX := fun _ => CX0) (sp := fun w => spLaw (K w.params)) hn (by decide) hdf ⟨rfl, by decide, by decide⟩ hY
    (fun w mg fa h X G hfa => by
      obtain ⟨R, M, C, A⟩ := A w
      exact law_fin X G (by rw [← hd]; exact hfa) (D w) (DL w) A)
    (fun _ _ a ns _ _ hS => ⟨a, ns, rfl, hS, fun _ => rfl⟩) fun _ _ _ _ _ z => z
end K33
end
open PySem PySem.W PyProof.Rows
set_option maxRecDepth 100000
set_option maxHeartbeats 0
open_top hd for PySem.Challenge.rw_metricparts_k33_whole_possible_splits
set_option maxRecDepth 100000 in
set_option maxHeartbeats 0 in
theorem PySem.Challenge.cw_metricparts_k33_whole_possible_splits_holds : PySem.Challenge.rw_metricparts_k33_whole_possible_splits.Holds := by
  refine hd ?_
  k_fill
  refine K33.walk (l := PySem.Challenge.rw_metricparts_k33_whole_possible_splits) rfl rfl rfl (fun w h Y => PySem.W.kIn_of Y) ?D ?DL ?A
  case D =>
    intro w
    refine K33.Defs.mk ?_ ?_ ?_ ?_ ?_ ?_ ?_ ?_ ?_ ?_ ?_ ?_ ?_ ?_ ?_ ?_ ?_ ?_ ?_ ?_ ?_ ?_ ?_ ?_ ?_ ?_ ?_ ?_ ?_ ?_ ?_ ?_ ?_ ?_ ?_ ?_ ?_ ?_ ?_ ?_ ?_ ?_ ?_ ?_ ?_ ?_ ?_ ?_ ?_ ?_ ?_
    · refine' K33.defP_mk ?a ?l ?c ?k; (case a => k_is); (case l => k_is); (case c => k_is); (case k => k_is)
    · refine' K33.defP_mk ?a ?l ?c ?k; (case a => k_is); (case l => k_is); (case c => k_is); (case k => k_is)
    · refine' K33.defP_mk ?a ?l ?c ?k; (case a => k_is); (case l => k_is); (case c => k_is); (case k => k_is)
    · refine' K33.defP_mk ?a ?l ?c ?k; (case a => k_is); (case l => k_is); (case c => k_is); (case k => k_is)
    · refine' K33.defP_mk ?a ?l ?c ?k; (case a => k_is); (case l => k_is); (case c => k_is); (case k => k_is)
    · refine' K33.defP_mk ?a ?l ?c ?k; (case a => k_is); (case l => k_is); (case c => k_is); (case k => k_is)
    · refine' K33.defP_mk ?a ?l ?c ?k; (case a => k_is); (case l => k_is); (case c => k_is); (case k => k_is)
    · refine' K33.defP_mk ?a ?l ?c ?k; (case a => k_is); (case l => k_is); (case c => k_is); (case k => k_is)
    · refine' K33.defP_mk ?a ?l ?c ?k; (case a => k_is); (case l => k_is); (case c => k_is); (case k => k_is)
    · refine' K33.defP_mk ?a ?l ?c ?k; (case a => k_is); (case l => k_is); (case c => k_is); (case k => k_is)
    · refine' K33.defP_mk ?a ?l ?c ?k; (case a => k_is); (case l => k_is); (case c => k_is); (case k => k_is)
    · refine' K33.defP_mk ?a ?l ?c ?k; (case a => k_is); (case l => k_is); (case c => k_is); (case k => k_is)
    · refine' K33.defP_mk ?a ?l ?c ?k; (case a => k_is); (case l => k_is); (case c => k_is); (case k => k_is)
    · refine' K33.defP_mk ?a ?l ?c ?k; (case a => k_is); (case l => k_is); (case c => k_is); (case k => k_is)
    · refine' K33.defP_mk ?a ?l ?c ?k; (case a => k_is); (case l => k_is); (case c => k_is); (case k => k_is)
    · refine' K33.defP_mk ?a ?l ?c ?k; (case a => k_is); (case l => k_is); (case c => k_is); (case k => k_is)
    · refine' K33.defP_mk ?a ?l ?c ?k; (case a => k_is); (case l => k_is); (case c => k_is); (case k => k_is)
    · refine' K33.defP_mk ?a ?l ?c ?k; (case a => k_is); (case l => k_is); (case c => k_is); (case k => k_is)
    · refine' K33.defP_mk ?a ?l ?c ?k; (case a => k_is); (case l => k_is); (case c => k_is); (case k => k_is)
    · refine' K33.defP_mk ?a ?l ?c ?k; (case a => k_is); (case l => k_is); (case c => k_is); (case k => k_is)
    · refine' K33.defP_mk ?a ?l ?c ?k; (case a => k_is); (case l => k_is); (case c => k_is); (case k => k_is)
    · refine' K33.defP_mk ?a ?l ?c ?k; (case a => k_is); (case l => k_is); (case c => k_is); (case k => k_is)
    · refine' K33.defP_mk ?a ?l ?c ?k; (case a => k_is); (case l => k_is); (case c => k_is); (case k => k_is)
    · refine' K33.defP_mk ?a ?l ?c ?k; (case a => k_is); (case l => k_is); (case c => k_is); (case k => k_is)
    · refine' K33.defP_mk ?a ?l ?c ?k; (case a => k_is); (case l => k_is); (case c => k_is); (case k => k_is)
    · refine' K33.defP_mk ?a ?l ?c ?k; (case a => k_is); (case l => k_is); (case c => k_is); (case k => k_is)
    · refine' K33.defP_mk ?a ?l ?c ?k; (case a => k_is); (case l => k_is); (case c => k_is); (case k => k_is)
    · refine' K33.defP_mk ?a ?l ?c ?k; (case a => k_is); (case l => k_is); (case c => k_is); (case k => k_is)
    · refine' K33.defP_mk ?a ?l ?c ?k; (case a => k_is); (case l => k_is); (case c => k_is); (case k => k_is)
    · refine' K33.defP_mk ?a ?l ?c ?k; (case a => k_is); (case l => k_is); (case c => k_is); (case k => k_is)
    · refine' K33.defP_mk ?a ?l ?c ?k; (case a => k_is); (case l => k_is); (case c => k_is); (case k => k_is)
    · refine' K33.defP_mk ?a ?l ?c ?k; (case a => k_is); (case l => k_is); (case c => k_is); (case k => k_is)
    · refine' K33.defP_mk ?a ?l ?c ?k; (case a => k_is); (case l => k_is); (case c => k_is); (case k => k_is)
    · refine' K33.defP_mk ?a ?l ?c ?k; (case a => k_is); (case l => k_is); (case c => k_is); (case k => k_is)
    · refine' K33.defP_mk ?a ?l ?c ?k; (case a => k_is); (case l => k_is); (case c => k_is); (case k => k_is)
    · refine' K33.defP_mk ?a ?l ?c ?k; (case a => k_is); (case l => k_is); (case c => k_is); (case k => k_is)
    · refine' K33.defP_mk ?a ?l ?c ?k; (case a => k_is); (case l => k_is); (case c => k_is); (case k => k_is)
    · refine' K33.defP_mk ?a ?l ?c ?k; (case a => k_is); (case l => k_is); (case c => k_is); (case k => k_is)
    · refine' K33.defP_mk ?a ?l ?c ?k; (case a => k_is); (case l => k_is); (case c => k_is); (case k => k_is)
    · refine' K33.defP_mk ?a ?l ?c ?k; (case a => k_is); (case l => k_is); (case c => k_is); (case k => k_is)
    · refine' K33.defP_mk ?a ?l ?c ?k; (case a => k_is); (case l => k_is); (case c => k_is); (case k => k_is)
    · refine' K33.defP_mk ?a ?l ?c ?k; (case a => k_is); (case l => k_is); (case c => k_is); (case k => k_is)
    · refine' K33.defP_mk ?a ?l ?c ?k; (case a => k_is); (case l => k_is); (case c => k_is); (case k => k_is)
    · refine' K33.defP_mk ?a ?l ?c ?k; (case a => k_is); (case l => k_is); (case c => k_is); (case k => k_is)
    · refine' K33.defP_mk ?a ?l ?c ?k; (case a => k_is); (case l => k_is); (case c => k_is); (case k => k_is)
    · refine' K33.defP_mk ?a ?l ?c ?k; (case a => k_is); (case l => k_is); (case c => k_is); (case k => k_is)
    · refine' K33.defP_mk ?a ?l ?c ?k; (case a => k_is); (case l => k_is); (case c => k_is); (case k => k_is)
    · refine' K33.defP_mk ?a ?l ?c ?k; (case a => k_is); (case l => k_is); (case c => k_is); (case k => k_is)
    · refine' K33.defP_mk ?a ?l ?c ?k; (case a => k_is); (case l => k_is); (case c => k_is); (case k => k_is)
    · refine' K33.defP_mk ?a ?l ?c ?k; (case a => k_is); (case l => k_is); (case c => k_is); (case k => k_is)
    · refine' K33.defP_mk ?a ?l ?c ?k; (case a => k_is); (case l => k_is); (case c => k_is); (case k => k_is)
  case DL =>
    intro w
    refine' K33.defP_mk ?a ?l ?c ?k; (case a => k_is); (case l => k_is); (case c => k_is); (case k => k_is)
  case A =>
    intro w
    refine' K33.claK_ex ?fr ?aR ?aM ?aC ?gcd ?lcm ?m8 ?clR ?clM ?rN ?rD ?mN ?mR ?isR ?sf ?ne ?kR ?kM ?ri ?req ?radd ?rsub ?rmul ?rneg ?rz ?rsg ?rov ?mi ?mp ?rf
    case aR => k_is
    case aM => k_is
    case aC => k_is
    case gcd => k_is
    case lcm => k_is
    case m8 => k_is
    case fr =>
      intro x hx
      simp only [K33.freeN, List.mem_cons, List.not_mem_nil, or_false] at hx
      rcases hx with rfl | rfl | rfl | rfl | rfl | rfl | rfl | rfl | rfl | rfl | rfl | rfl | rfl | rfl
      all_goals k_is
    case clR => exact ⟨by k_is, by k_is, by k_is, by k_is⟩
    case clM => exact ⟨by k_is, by k_is, by k_is, by k_is⟩
    case rN =>
      unfold L2.NoAttr
      k_is
    case rD =>
      unfold L2.NoAttr
      k_is
    case mN =>
      unfold L2.NoAttr
      k_is
    case mR =>
      unfold L2.NoAttr
      k_is
    case isR => exact ⟨⟨by k_is, by k_is, by k_is, by k_is⟩, by k_is, by k_is, by k_is, by k_is⟩
    case sf => k_is
    case ne => k_is
    case kR => exact ⟨by k_is, by k_is⟩
    case kM => exact ⟨by k_is, by k_is⟩
    case ri =>
      refine' K33.riP_mk ?a ?i ?l ?c ?k ?lT; (case a => k_is); (case i => k_is); (case l => k_is); (case c => k_is); (case k => k_is); (case lT => k_is)
    case req =>
      refine' K33.metP_mk ?a ?i ?l ?c ?k; (case a => k_is); (case i => k_is); (case l => k_is); (case c => k_is); (case k => k_is)
    case radd =>
      refine' K33.metP_mk ?a ?i ?l ?c ?k; (case a => k_is); (case i => k_is); (case l => k_is); (case c => k_is); (case k => k_is)
    case rsub =>
      refine' K33.metP_mk ?a ?i ?l ?c ?k; (case a => k_is); (case i => k_is); (case l => k_is); (case c => k_is); (case k => k_is)
    case rmul =>
      refine' K33.metP_mk ?a ?i ?l ?c ?k; (case a => k_is); (case i => k_is); (case l => k_is); (case c => k_is); (case k => k_is)
    case rneg =>
      refine' K33.metP_mk ?a ?i ?l ?c ?k; (case a => k_is); (case i => k_is); (case l => k_is); (case c => k_is); (case k => k_is)
    case rz =>
      refine' K33.metP_mk ?a ?i ?l ?c ?k; (case a => k_is); (case i => k_is); (case l => k_is); (case c => k_is); (case k => k_is)
    case rsg =>
      refine' K33.metP_mk ?a ?i ?l ?c ?k; (case a => k_is); (case i => k_is); (case l => k_is); (case c => k_is); (case k => k_is)
    case rov =>
      refine' K33.metP_mk ?a ?i ?l ?c ?k; (case a => k_is); (case i => k_is); (case l => k_is); (case c => k_is); (case k => k_is)
    case mi =>
      refine' K33.metP_mk ?a ?i ?l ?c ?k; (case a => k_is); (case i => k_is); (case l => k_is); (case c => k_is); (case k => k_is)
    case mp =>
      refine' K33.metP_mk ?a ?i ?l ?c ?k; (case a => k_is); (case i => k_is); (case l => k_is); (case c => k_is); (case k => k_is)
    case rf =>
      refine' K33.rfP_mk ?lC ?hbm ?sa ?exC ?tyC ?kC ?ga ?gg ?hdC ?noR ?iC ?sC ?a ?tf0 ?l ?cd ?lcode ?hv ?hf ?lcell ?top ?ops ?sup ?sub ?mro
      (case lC => k_is)
      (case sa => k_is)
      (case exC => k_is)
      (case tyC => k_is)
      (case kC => k_is)
      (case ga => k_is)
      (case gg => k_is)
      (case hdC => k_is)
      (case noR => k_is)
      (case iC => k_is)
      (case sC => first | rfl | k_is)
      (case a => k_is)
      (case tf0 => k_is)
      (case l => k_is)
      (case cd => k_is)
      (case lcode => k_is)
      (case hbm => decide +kernel)
      (case hv => rfl)
      (case hf => decide +kernel)
      (case lcell => k_is)
      (case top => decide +kernel)
      (case ops => k_is)
      (case sup => kernel_rfl)
      (case sub => k_is)
      (case mro => k_is)
