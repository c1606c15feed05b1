import PyProof.Rows.All
import Wide.All
import OpenK.AllK
import Wide.FinOn
import HandS.ForMost
import HandS.TupAny
import HandS.TupMul
import HandS.TupLe
import HandS.IsInst
import HandS.Zip
import HandS.Rev
import HandS.Codes
import PyProof.ListMulRoad
import PyProof.FactsAll.tuple_2
import KE.KeyNested
import PySem.Challenge.RW_askagain_k01_setups_recognized
set_option Elab.async false
set_option linter.all false
set_option maxRecDepth 100000
set_option maxHeartbeats 4000000
namespace Ag
open PySem PySem.Spec PyProof.Rows L2

/-! ### names of the built-ins -/
theorem bo_len : bootBuiltins "len" = some (.builtin "len") := by decide +kernel
theorem bo_isinstance : bootBuiltins "isinstance" = some (.builtin "isinstance") := by decide +kernel
theorem bo_max : bootBuiltins "max" = some (.builtin "max") := by decide +kernel
theorem bo_min : bootBuiltins "min" = some (.builtin "min") := by decide +kernel
theorem bo_sum : bootBuiltins "sum" = some (.builtin "sum") := by decide +kernel
theorem bo_all : bootBuiltins "all" = some (.builtin "all") := by decide +kernel
theorem bo_any : bootBuiltins "any" = some (.builtin "any") := by decide +kernel
theorem bo_sorted : bootBuiltins "sorted" = some (.builtin "sorted") := by decide +kernel
theorem bo_abs : bootBuiltins "abs" = some (.builtin "abs") := by decide +kernel
theorem bo_int : bootBuiltins "int" = some (.type "int") := by decide +kernel
theorem bo_bool : bootBuiltins "bool" = some (.type "bool") := by decide +kernel
theorem bo_str : bootBuiltins "str" = some (.type "str") := by decide +kernel
theorem bo_list : bootBuiltins "list" = some (.type "list") := by decide +kernel
theorem bo_tuple : bootBuiltins "tuple" = some (.type "tuple") := by decide +kernel
theorem bo_dict : bootBuiltins "dict" = some (.type "dict") := by decide +kernel
theorem bo_set : bootBuiltins "set" = some (.type "set") := by decide +kernel
theorem bo_range : bootBuiltins "range" = some (.type "range") := by decide +kernel
theorem bo_ValueError : bootBuiltins "ValueError" = some (.type "ValueError") := by decide +kernel

/-! ### defs and methods that may be called -/
/-- a def of the module, as it stands behind the top, with no defaults -/
structure Def (K : PySem.W.Frag) (mg : Str → Option Value) (x : Str) (st : Stmt) (ps : List Str) : Prop where
  ex : ∃ (f : Addr) (fd : FuncData), Fun K x x st f fd ∧ mg x = some (.ref f) ∧ Binds K fd ps []
/-- what a caller of a def needs: its promise, at some level -/
structure Cal (P : Program) (w : World) (K : PySem.W.Frag) (mg : Str → Option Value) (base : Heap) (cx : CXT) (k : Nat) (x : Str) (sp : Sp) : Prop where
  ex : ∃ (f : Addr) (fd : FuncData) (ps : List Str), FnOk P w K mg base cx k f fd ps sp ∧ mg x = some (.ref f) ∧ PySem.W.keepIn K (.ref f) = true ∧ Binds K fd ps []
/-- a method of the class at C -/
structure DefM (K : PySem.W.Frag) (C : Addr) (m qual : Str) (st : Stmt) (ps : List Str) : Prop where
  ex : ∃ (f : Addr) (fd : FuncData), Cls K C ∧ Meth K C m f ∧ Fun K m qual st f fd ∧ Binds K fd ps []
structure Met (P : Program) (w : World) (K : PySem.W.Frag) (mg : Str → Option Value) (base : Heap) (cx : CXT) (k : Nat) (C : Addr) (m : Str) (sp : Sp) : Prop where
  ex : ∃ (f : Addr) (fd : FuncData) (ps : List Str), Cls K C ∧ Meth K C m f ∧ FnOk P w K mg base cx k f fd ps sp ∧ Binds K fd ps []

section
variable {P : Program} {w : World} {K : PySem.W.Frag} {mg : Str → Option Value} {base : Heap} {cx : CXT}
theorem Cal.lift {j k : Nat} {x : Str} {sp : Sp} (c : Cal P w K mg base cx j x sp) (h : j ≤ k) : Cal P w K mg base cx k x sp := by
  obtain ⟨f, fd, ps, F, a, b, d⟩ := c.ex
  exact ⟨f, fd, ps, F.mono h, a, b, d⟩
theorem Met.lift {j k : Nat} {C : Addr} {x : Str} {sp : Sp} (c : Met P w K mg base cx j C x sp) (h : j ≤ k) : Met P w K mg base cx k C x sp := by
  obtain ⟨f, fd, ps, a, b, F, d⟩ := c.ex
  exact ⟨f, fd, ps, a, b, F.mono h, d⟩
theorem Def.cal {x : Str} {st : Stmt} {N ps : List Str} {k : Nat} {sp : Sp} (D : Def K mg x st ps) (S : FnScope N ps (defScope st)) (len : ∀ vs H Q E, sp vs H Q E → vs.length = ps.length)
    (body : ∀ (f : Addr) (cdv : Value) (A : Around) (outer : List Env) (s : Shared) (H : Hp) (vs : List V) (Q : VK) (E : XK), Room k (A.deeper (envOfC x (defScope st) s.heap.objs.size f cdv)) → sp vs H Q E →
      ∃ t, PSs (cxOf CX0 P w K mg base N x (defScope st) f cdv A outer s H E).nox (defBody st) t ∧ t { nx := fun _ H' => Q .non H', rt := Q } (start N vs) H) :
    Cal P w K mg base CX0 (k + 1) x sp := by
  obtain ⟨f, fd, F, hm, b⟩ := D.ex
  exact ⟨f, fd, ps, F.ok S len fun cdv A outer s H vs Q E hr hs => body f cdv A outer s H vs Q E hr hs, hm, F.kp, b⟩
theorem DefM.met {C : Addr} {m qual : Str} {st : Stmt} {N ps : List Str} {k : Nat} {sp : Sp} (D : DefM K C m qual st ps) (S : FnScope N ps (defScope st)) (len : ∀ vs H Q E, sp vs H Q E → vs.length = ps.length)
    (body : ∀ (f : Addr) (cdv : Value) (A : Around) (outer : List Env) (s : Shared) (H : Hp) (vs : List V) (Q : VK) (E : XK), Room k (A.deeper (envOfC qual (defScope st) s.heap.objs.size f cdv)) → sp vs H Q E →
      ∃ t, PSs (cxOf CX0 P w K mg base N qual (defScope st) f cdv A outer s H E).nox (defBody st) t ∧ t { nx := fun _ H' => Q .non H', rt := Q } (start N vs) H) :
    Met P w K mg base CX0 (k + 1) C m sp := by
  obtain ⟨f, fd, c, me, F, b⟩ := D.ex
  exact ⟨f, fd, ps, c, me, F.ok S len fun cdv A outer s H vs Q E hr hs => body f cdv A outer s H vs Q E hr hs, b⟩
theorem Cal.imp {k : Nat} {x : Str} {sp sp' : Sp} (c : Cal P w K mg base cx k x sp) (h : ∀ vs H Q E, sp' vs H Q E → sp vs H Q E) : Cal P w K mg base cx k x sp' := by
  obtain ⟨f, fd, ps, F, a, b, d⟩ := c.ex
  exact ⟨f, fd, ps, F.imp h, a, b, d⟩
theorem Met.imp {k : Nat} {C : Addr} {x : Str} {sp sp' : Sp} (c : Met P w K mg base cx k C x sp) (h : ∀ vs H Q E, sp' vs H Q E → sp vs H Q E) : Met P w K mg base cx k C x sp' := by
  obtain ⟨f, fd, ps, a, b, F, d⟩ := c.ex
  exact ⟨f, fd, ps, a, b, F.imp h, d⟩
end
section
variable {X : Cx} {k j : Nat} {C : Addr} {x m : Str} {sp : Sp} {p pos apos : Pos} {e o : Expr} {es : List Expr} {ta : TE} {t : TA}
theorem pe_c (c : Cal X.prog X.w X.K X.mg X.base CX0 k x sp) (hr : Room j X.A) (hk : k ≤ j) (hg : Gl X x) (ha : PA X (e :: es) t)
    (hdb : (x == ("__debug__" : Str)) = false := by decide) (he : starEach (e :: es) X.env = (false, eval e X.env) :: starEach es X.env := by rfl) (hpl : (backTo pos (starEach es X.env)).any (·.1) = false := by rfl) :
    PE X (.Call (.Name x p) (e :: es) [] pos) (tCall sp [] E0 t) := by
  obtain ⟨f, fd, ps, F, hm, kp, b⟩ := c.ex
  exact pe_call F (hr.mono hk) hg hm kp b .nil pass0 ha hdb he hpl
theorem pe_c0 (c : Cal X.prog X.w X.K X.mg X.base CX0 k x sp) (hr : Room j X.A) (hk : k ≤ j) (hg : Gl X x)
    (hdb : (x == ("__debug__" : Str)) = false := by decide) : PE X (.Call (.Name x p) [] [] pos) (tCall sp [] E0 tNil) := by
  obtain ⟨f, fd, ps, F, hm, kp, b⟩ := c.ex
  exact pe_call0 F (hr.mono hk) hg hm kp b .nil pass0 hdb
theorem pe_mt {pl : Sem Bool} (c : Met X.prog X.w X.K X.mg X.base CX0 k C m sp) (hr : Room j X.A) (hk : k ≤ j) (he : PE X o ta) (ha : PA X (e :: es) t)
    (hst : starEach (e :: es) X.env = (false, eval e X.env) :: starEach es X.env := by rfl) (hpl : (backTo pos (starEach es X.env)).any (·.1) = false := by rfl)
    (ht : eval (.Call (.Attribute o m apos) (e :: es) [] pos) X.env = (do
      let ov ← eval o X.env
      standAt apos.atName
      let (f, first) ← holding [ov] (getMethod ov m pl)
      callWith pos f first (backTo pos (starEach (e :: es) X.env)) (backToKw pos (keywordEach [] X.env))) := by rfl) :
    PE X (.Call (.Attribute o m apos) (e :: es) [] pos) (tMeth C m sp [] E0 ta t) := by
  obtain ⟨f, fd, ps, hc, hm, F, b⟩ := c.ex
  exact pe_meth (pl := pl) he hc hm F (hr.mono hk) b .nil pass0 ha hst hpl ht
theorem pe_mt0 {pl : Sem Bool} (c : Met X.prog X.w X.K X.mg X.base CX0 k C m sp) (hr : Room j X.A) (hk : k ≤ j) (he : PE X o ta)
    (ht : eval (.Call (.Attribute o m apos) [] [] pos) X.env = (do
      let ov ← eval o X.env
      standAt apos.atName
      let (f, first) ← holding [ov] (getMethod ov m pl)
      callWith pos f first (backTo pos (starEach [] X.env)) (backToKw pos (keywordEach [] X.env))) := by rfl) :
    PE X (.Call (.Attribute o m apos) [] [] pos) (tMeth C m sp [] E0 ta tNil) := by
  obtain ⟨f, fd, ps, hc, hm, F, b⟩ := c.ex
  exact pe_meth0 (pl := pl) he hc hm F (hr.mono hk) b .nil pass0 ht
theorem pe_ty {n : String} (hg : Gl X x) (hm : X.mg x = none) (hv : bootBuiltins x = some (.type n)) (hn : x ≠ "__name__" := by decide) (hd : (x == ("__debug__" : Str)) = false := by decide) : PE X (.Name x pos) (tC (.ty n)) :=
  pe_bltn (v := .ty n) hg hm hv rfl hn hd
theorem pe_gc {v : V} (hg : Gl X x) (h : ∃ u, X.mg x = some u ∧ RelV v u) (hd : (x == ("__debug__" : Str)) = false := by decide) : PE X (.Name x pos) (tC v) := by
  obtain ⟨u, hm, r⟩ := h
  exact pe_glob hg hm r hd
end

/-! ### heaps that go on: all that is tracked stays, but what stands at the places M -/
structure Ev (M : List Addr) (H H' : Hp) : Prop where
  keep : ∀ b o, H b = some o → b ∉ M → H' b = some o
  mu : ∀ a ∈ M, Mut (H a)
section
variable {M M' : List Addr} {H H1 H2 H' : Hp} {a b : Addr} {o : HO} {xs : List V} {K : PySem.W.Frag}
theorem Ev.refl : Ev [] H H := ⟨fun _ _ e _ => e, fun _ h => nomatch h⟩
theorem Ev.refl' (h : ∀ a ∈ M, Mut (H a)) : Ev M H H := ⟨fun _ _ e _ => e, h⟩
theorem Ev.trans (x : Ev M H H1) (y : Ev M H1 H2) : Ev M H H2 := ⟨fun b o e h => y.keep b o (x.keep b o e h) h, x.mu⟩
theorem Ev.weak (x : Ev M H H') (h : ∀ a ∈ M, a ∈ M') (hm : ∀ a ∈ M', Mut (H a)) : Ev M' H H' := ⟨fun b o e hb => x.keep b o e fun z => hb (h b z), hm⟩
theorem Ev.same (x : Ev [] H H') : Same H H' := fun b o e => x.keep b o e (by simp)
theorem sEv0 (x : Same H H') : Ev [] H H' := ⟨fun b o e _ => x b o e, fun _ h => nomatch h⟩
theorem sEv (x : Same H H') (h : ∀ a ∈ M, Mut (H a)) : Ev M H H' := ⟨fun b o e _ => x b o e, h⟩
theorem Ev.then_same (x : Ev M H H1) (y : Same H1 H2) : Ev M H H2 := ⟨fun b o e h => y b o (x.keep b o e h), x.mu⟩
theorem sThen (x : Same H H1) (y : Ev M H1 H2) (h : ∀ a ∈ M, Mut (H a)) : Ev M H H2 := ⟨fun b o e z => y.keep b o (x b o e) z, h⟩
theorem Ev.ne (x : Ev M H H') (e : H b = some o) (hn : ¬ Mut (some o)) : b ∉ M := fun z => by
  have := x.mu b z
  rw [e] at this
  exact hn this
theorem Ev.at (x : Ev M H H') (e : H b = some o) (hn : ¬ Mut (some o)) : H' b = some o := x.keep b o e (x.ne e hn)
theorem Ev.tup (x : Ev M H H') (e : H b = some (.tup xs)) : H' b = some (.tup xs) := x.at e fun z => z
theorem Ev.sqT (x : Ev M H H') (h : SqT K H b xs) : SqT K H' b xs := by
  rcases h with (h | ⟨o, h⟩) | h
  · exact .inl (.inl (x.tup h))
  · exact .inl (.inr ⟨o, x.at h fun z => z⟩)
  · exact .inr h
theorem Ev.free (x : Ev M H H') (h : H' b = none) (hb : b ∉ M) : H b = none := by
  cases q : H b with
  | none => rfl
  | some o => rw [x.keep b o q hb] at h; cases h
/-- a new object is no old one, whether written or not -/
theorem Ev.new (x : Ev M H H') (hb : H' b = none) (hm : ∀ a ∈ M, ∃ o, H' a = some o) (e : H a = some o) : a ≠ b := by
  intro z
  subst z
  by_cases h : a ∈ M
  · obtain ⟨u, q⟩ := hm a h
    rw [q] at hb
    cases hb
  · rw [x.keep a o e h] at hb
    cases hb
theorem same_upd (h : H a = none) : Same H (upd H a o) := fun b x e => by
  rw [upd_ne (ne_of_none e h)]
  exact e
theorem ev_upd (h : Mut (H a)) : Ev [a] H (upd H a o) := ⟨fun b x e z => by
  rw [upd_ne (by simpa using z)]
  exact e, fun b z => by
    have e : b = a := by simpa using z
    rw [e]
    exact h⟩
theorem Same.sqT (x : Same H H') (h : SqT K H b xs) : SqT K H' b xs := (sEv0 x).sqT h
end

/-! ### new tuples, in one way whether new or not -/
def nT (K : PySem.W.Frag) (H : Hp) (xs : List V) (Q : VK) : Prop := ∀ p H', Same H H' → SqT K H' p xs → Q (.ref p) H'
def tTupS (K : PySem.W.Frag) (t : TA) : TE := fun σ H Q => t σ H fun xs H1 => xs.length ≤ sizeLine ∧ nT K H1 xs Q
section
variable {X : Cx} {es : List Expr} {t : TA} {pos : Pos}
theorem nT.new {K : PySem.W.Frag} {H : Hp} {xs : List V} {Q : VK} (h : nT K H xs Q) : ∀ p, H p = none → Q (.ref p) (upd H p (.tup xs)) := fun p hp => h p _ (same_upd hp) (SqT.of upd_same)
theorem nT.old {K : PySem.W.Frag} {H : Hp} {xs : List V} {Q : VK} {p : Addr} (h : nT K H xs Q) (e : SqT K H p xs) : Q (.ref p) H := h p H (Same.refl H) e
theorem pe_tupS {x1} (h : PA X es t) : PE X (.Tuple es x1 pos) (tTupS X.K t) := by
  refine ⟨fun pins s σ H Q I q => ?_⟩
  have z : PE X (.Tuple es x1 pos) (tTup fun σ' H' R => ∃ S, t σ' H' S ∧ ∀ xs H1, S xs H1 → R xs H1) := by
    refine pe_tup ⟨fun pos' pins' s' σ' H' R I' hR => ?_⟩
    obtain ⟨S, h1, h2⟩ := hR
    exact thn (h.run pos' pins' s' σ' H' S I' h1) fun us s2 ⟨xs, H2, I2, r2, q2⟩ => ⟨xs, H2, I2, r2, h2 _ _ q2⟩
  exact z.run pins s σ H Q I ⟨_, q, fun xs H1 ⟨h1, h2⟩ => ⟨h1, h2.new⟩⟩
def rCatS (K : PySem.W.Frag) : R2 := fun x y H Q => ∃ a b xs ys, x = .ref a ∧ y = .ref b ∧ SqT K H a xs ∧ SqT K H b ys ∧ xs.length + ys.length ≤ sizeLine ∧ nT K H (xs ++ ys) Q
theorem op_catS : OpR X (binaryOp .Add) (rCatS X.K) := by
  intro pins s σ H x y v u Q I rx ry h
  obtain ⟨a, b, xs, ys, e1, e2, ha, hb, hz, q⟩ := h
  refine op_catA pins s σ H x y v u Q I rx ry ⟨a, b, xs, ys, e1, e2, ha, hb, hz, fun z => ?_, fun _ z => ?_, fun _ _ => q.new⟩
  · subst z; exact q.old hb
  · subst z; rw [List.append_nil] at q; exact q.old ha
def rSlS (K : PySem.W.Frag) : V → Option Int → Option Int → Hp → VK → Prop := fun x lo hi H Q => ∃ a xs, x = .ref a ∧ SqT K H a xs ∧ nT K H (cutV xs lo hi) Q
theorem cutV_all {xs : List V} {lo hi : Option Int} (h : HT.sIx xs.length 0 lo = 0 ∧ HT.sIx xs.length xs.length hi = xs.length) : cutV xs lo hi = xs := by
  unfold cutV
  rw [h.1, h.2]
  simp
theorem sl_tupS : SlR X (rSlS X.K) := by
  intro pins s σ H x v vl vu lo hi sl Q I rx hs pl pu h
  obtain ⟨a, xs, e, hx, q⟩ := h
  exact sl_tupA pins s σ H x v vl vu lo hi sl Q I rx hs pl pu ⟨a, xs, e, hx, fun z => by rw [cutV_all z] at q; exact q.old hx, fun _ => q.new⟩
def rTupS (K : PySem.W.Frag) : List V → Hp → VK → Prop := fun vs H Q => ∃ p ys, vs = [.ref p] ∧ (SqL K H p ys ∨ SqT K H p ys) ∧ nT K H ys Q
theorem call_tupS : CallR X (.type "tuple") (rTupS X.K) := by
  intro pins s σ H xs us Q I r h
  obtain ⟨p, ys, e, hp, q⟩ := h
  refine call_tuple_of pins s σ H xs us Q I r ⟨p, ys, e, ?_⟩
  rcases hp with hp | hp
  · exact .inl ⟨hp, q.new⟩
  · exact .inr ⟨hp, q.old hp⟩
end

theorem ixN_nat {n j : Nat} (h : j < n) : ixN n (j : Int) = some j := by
  unfold ixN
  rw [if_pos (Int.natCast_nonneg j), if_pos (by omega), Int.toNat_natCast]

theorem le1 : 1 ≤ sizeLine := by decide
theorem le2 : 2 ≤ sizeLine := by decide
theorem le3 : 3 ≤ sizeLine := by decide
theorem le4 : 4 ≤ sizeLine := by decide

/-! ### data: values that are nested -/
mutual
theorem Dp.same {K : PySem.W.Frag} {H H' : Hp} (e : Same H H') : ∀ (d : PyData) (v : V), Dp K H v d → Dp K H' v d
  | .none, _, h => by cases h; exact .non
  | .bool _, _, h => by cases h; exact .bl _
  | .int _, _, h => by cases h; exact .int _
  | .str _, _, h => by cases h; exact .str _
  | .list ds, _, h => by
    cases h with
    | lst a b => exact .lst (e.seq a) (Dp.sameAll e ds _ b)
  | .tuple ds, _, h => by
    cases h with
    | tup a b => exact .tup (Same.sqT e a) (Dp.sameAll e ds _ b)
  | .dict _, _, h => by cases h
theorem Dp.sameAll {K : PySem.W.Frag} {H H' : Hp} (e : Same H H') : ∀ (ds : List PyData) (vs : List V), DpAll K H vs ds → DpAll K H' vs ds
  | [], _, h => by cases h; exact .nil
  | d :: ds, _, h => by
    cases h with
    | cons a b => exact .cons (Dp.same e d _ a) (Dp.sameAll e ds _ b)
end
theorem DpAll.len {K : PySem.W.Frag} {H : Hp} : ∀ {vs : List V} {ds : List PyData}, DpAll K H vs ds → vs.length = ds.length
  | _, _, .nil => rfl
  | _, _, .cons _ t => congrArg (· + 1) (DpAll.len t)
theorem DpAll.at {K : PySem.W.Frag} {H : Hp} : ∀ {vs : List V} {ds : List PyData} {i : Nat} {v : V}, DpAll K H vs ds → vs[i]? = some v → ∃ d, ds[i]? = some d ∧ Dp K H v d
  | _, _, _, _, .nil, e => by simp at e
  | _, _, 0, _, .cons h _, e => by simp at e; subst e; exact ⟨_, rfl, h⟩
  | _, _, i + 1, _, .cons _ t, e => by
    obtain ⟨d, h1, h2⟩ := DpAll.at (i := i) t (by simpa using e)
    exact ⟨d, by simpa using h1, h2⟩
end Ag
namespace Ag
open PySem PySem.Spec PyProof.Rows L2
/-! ### the text by places -/
def topS (i : Nat) : Stmt := PySem.Challenge.pw_askagain_k01_setups_recognized.main.body.getD i (.Pass ⟨0, 0, 0, 0⟩)
abbrev s_is_from : Stmt := topS 5
abbrev s_are_steps : Stmt := topS 6
abbrev s_is_rule : Stmt := topS 7
abbrev s_is_setup_of : Stmt := topS 8
abbrev s_is_setup : Stmt := topS 10
abbrev s_law_deck : Stmt := topS 12
abbrev s_law_pick : Stmt := topS 13
abbrev s_law_bool : Stmt := topS 14
abbrev s_law_whole : Stmt := topS 15
abbrev s_law_drawn : Stmt := topS 16
abbrev s_law_right : Stmt := topS 17
abbrev s_law_bent : Stmt := topS 18
abbrev s_law : Stmt := topS 19
theorem sc_is_from : FnScope ["value", "low", "high"] ["value", "low", "high"] (defScope s_is_from) := ⟨rfl, rfl, rfl, by decide +kernel, rfl, by decide +kernel, by decide +kernel⟩
theorem sc_are_steps : FnScope ["value", "step"] ["value"] (defScope s_are_steps) := ⟨rfl, rfl, rfl, by decide +kernel, rfl, by decide +kernel, by decide +kernel⟩
theorem sc_is_rule : FnScope ["value"] ["value"] (defScope s_is_rule) := ⟨rfl, rfl, rfl, by decide +kernel, rfl, by decide +kernel, by decide +kernel⟩
theorem sc_is_setup_of : FnScope ["value"] ["value"] (defScope s_is_setup_of) := ⟨rfl, rfl, rfl, by decide +kernel, rfl, by decide +kernel, by decide +kernel⟩
theorem sc_is_setup : FnScope ["value"] ["value"] (defScope s_is_setup) := ⟨rfl, rfl, rfl, by decide +kernel, rfl, by decide +kernel, by decide +kernel⟩
theorem sc_law_deck : FnScope ["cell", "turn"] ["cell", "turn"] (defScope s_law_deck) := ⟨rfl, rfl, rfl, by decide +kernel, rfl, by decide +kernel, by decide +kernel⟩
theorem sc_law_pick : FnScope ["deck", "limit", "got", "number"] ["deck", "limit"] (defScope s_law_pick) := ⟨rfl, rfl, rfl, by decide +kernel, rfl, by decide +kernel, by decide +kernel⟩
theorem sc_law_bool : FnScope ["got", "due"] ["got", "due"] (defScope s_law_bool) := ⟨rfl, rfl, rfl, by decide +kernel, rfl, by decide +kernel, by decide +kernel⟩
theorem sc_law_whole : FnScope ["thing"] ["thing"] (defScope s_law_whole) := ⟨rfl, rfl, rfl, by decide +kernel, rfl, by decide +kernel, by decide +kernel⟩
theorem sc_law_drawn : FnScope ["deck", "most", "high", "paces", "turn"] ["deck", "most", "high"] (defScope s_law_drawn) := ⟨rfl, rfl, rfl, by decide +kernel, rfl, by decide +kernel, by decide +kernel⟩
theorem sc_law_right : FnScope ["value", "paces", "limit", "kind", "pace"] ["value"] (defScope s_law_right) := ⟨rfl, rfl, rfl, by decide +kernel, rfl, by decide +kernel, by decide +kernel⟩
theorem sc_law_bent : FnScope ["deck", "value", "deep", "odd", "at", "way"] ["deck", "value", "deep"] (defScope s_law_bent) := ⟨rfl, rfl, rfl, by decide +kernel, rfl, by decide +kernel, by decide +kernel⟩
theorem sc_law : FnScope ["script", "cell", "deck", "value", "turn", "some"] ["script"] (defScope s_law) := ⟨rfl, rfl, rfl, by decide +kernel, rfl, by decide +kernel, by decide +kernel⟩
/-- the names of the module that are no defs -/
structure Txt (K : PySem.W.Frag) (mg : Str → Option Value) : Prop where
  b_all : mg "all" = none
  b_bool : mg "bool" = none
  b_int : mg "int" = none
  b_isinstance : mg "isinstance" = none
  b_len : mg "len" = none
  b_list : mg "list" = none
  b_range : mg "range" = none
  b_str : mg "str" = none
  b_tuple : mg "tuple" = none
  c_MOST_STEPS : ∃ u, mg "MOST_STEPS" = some u ∧ RelV (.int 3) u
  c_MOST_STEP : ∃ u, mg "MOST_STEP" = some u ∧ RelV (.int 5) u
  c_MOST_SIZE : ∃ u, mg "MOST_SIZE" = some u ∧ RelV (.int 6) u
  c_RULES : ∃ a, mg "RULES" = some (.ref a) ∧ ∀ H, SqT K H a [.str "low", .str "put", .str "use"]
end Ag
namespace Ag
open PySem PySem.Spec PyProof.Rows L2

/-! ### what is a setup, of data -/
def tyN : PyData → String
  | .none => "NoneType" | .bool _ => "bool" | .int _ => "int" | .str _ => "str" | .list _ => "list" | .tuple _ => "tuple" | .dict _ => "dict"
def isT (T : String) (d : PyData) : Bool := tyN d == T || (T == "int" && tyN d == "bool")
theorem kit_tab : ∀ a ∈ ["NoneType", "bool", "int", "str", "list", "tuple"], ∀ T ∈ ["int", "bool", "str", "tuple", "list"], kitB a T = some (a == T || (T == "int" && a == "bool")) := by decide +kernel
theorem Dp.ty {K : PySem.W.Frag} {H : Hp} {v : V} {d : PyData} (h : Dp K H v d) : TyX K H v (.type (tyN d)) := by
  cases h with
  | non => exact .base .non
  | bl b => exact .base (.bl b)
  | int i => exact .base (.int i)
  | str x => exact .base (.str x)
  | lst a _ =>
    rcases a with (a | ⟨o, a⟩) | ⟨o, its, n, h1, h2, _⟩
    · exact .base (.lst a)
    · exact .base (.frz a)
    · exact .kList h1 h2
  | tup a _ =>
    rcases a with (a | ⟨o, a⟩) | ⟨o, its, n, h1, h2, _⟩
    · exact .base (.tup a)
    · exact .fTuple a
    · exact .kTuple h1 h2
theorem Dp.nodict {K : PySem.W.Frag} {H : Hp} {v : V} {d : PyData} (h : Dp K H v d) : tyN d ∈ ["NoneType", "bool", "int", "str", "list", "tuple"] := by
  cases h <;> simp [tyN]
theorem isk {K : PySem.W.Frag} {H : Hp} {v : V} {d : PyData} {T : String} (h : Dp K H v d) (hT : T ∈ ["int", "bool", "str", "tuple", "list"]) : PySem.W.kitOne K (.type (tyN d)) (.type T) = some (isT T d) := kit_ty (kit_tab _ (Dp.nodict h) _ hT)

def isFrom (lo hi : Int) (d : PyData) : Bool := isT "int" d && (!isT "bool" d && match d with
  | .int i => decide (lo ≤ i) && decide (i ≤ hi)
  | _ => false)
def isSteps : PyData → Bool
  | .tuple ds => decide (1 ≤ ds.length ∧ ds.length ≤ 3) && ds.all (isFrom 1 5)
  | _ => false
def isRule : PyData → Bool
  | .str x => x == "low" || x == "put" || x == "use"
  | _ => false
def isSetup : PyData → Bool
  | .tuple [a, b, c] => isSteps a && (isFrom 0 6 b && isRule c)
  | _ => false
theorem isT_int {d : PyData} (h : isT "int" d = true) (h2 : isT "bool" d = false) : ∃ i, d = .int i := by
  cases d <;> simp_all [isT, tyN]

section
variable {P : Program} {w : World} {K : PySem.W.Frag} {mg : Str → Option Value} {base : Heap}
def sp_is_from (K : PySem.W.Frag) : Sp := fun vs H Q _ => ∃ (v : V) (d : PyData) (lo hi : Int), vs = [v, .int lo, .int hi] ∧ Dp K H v d ∧ Q (.bl (isFrom lo hi d)) H
theorem ok_is_from (D : Def K mg "is_from" s_is_from ["value", "low", "high"]) (T : Txt K mg) : Cal P w K mg base CX0 1 "is_from" (sp_is_from K) := by
  refine D.cal sc_is_from (fun vs H Q E h => ?_) (fun f cdv A outer s H vs Q E hr h => ?_)
  · obtain ⟨v, d, lo, hi, rfl, _⟩ := h
    rfl
  obtain ⟨v, d, lo, hi, rfl, hd, q⟩ := h
  refine ⟨_, (pss_one (ps_ret (pe_and (pe_callB (call_isi) (by rfl) T.b_isinstance bo_isinstance (pa_cons (pv 0) (pa_cons (pe_ty (by rfl) T.b_int bo_int) pa_nil))) (pe_and (pe_not (pe_callB (call_isi) (by rfl) T.b_isinstance bo_isinstance (pa_cons (pv 0) (pa_cons (pe_ty (by rfl) T.b_bool bo_bool) pa_nil)))) (pe_one (pe_chain op_le op_le (pv 1) (pv 0) (pv 2))))))), ?_⟩
  refine ⟨_, rfl, _, _, _, _, _, rfl, .ty "int", Dp.ty hd, isk hd (by decide), _, rfl, ?_⟩
  unfold isFrom at q
  refine ite2 (fun c => ?_) (fun c => ?_)
  · rw [c] at q
    refine ⟨_, rfl, _, _, _, _, _, rfl, .ty "bool", Dp.ty hd, isk hd (by decide), _, rfl, _, rfl, ?_⟩
    refine ite2 (fun c2 => ?_) (fun c2 => ?_)
    · have c3 : isT "bool" d = false := by simpa using c2
      rw [c3] at q
      obtain ⟨i, rfl⟩ := isT_int c c3
      cases hd
      refine ⟨_, rfl, _, rfl, lo, i, rfl, rfl, _, rfl, ite2 (fun c4 => ?_) (fun c4 => ?_)⟩
      · refine ⟨_, rfl, i, hi, rfl, rfl, ?_⟩
        simpa [c4] using q
      · simpa [c4] using q
    · have c3 : isT "bool" d = true := by simpa using c2
      rw [c3] at q
      exact q
  · rw [Bool.eq_false_iff.mpr c] at q
    exact q

def sp_is_rule (K : PySem.W.Frag) : Sp := fun vs H Q _ => ∃ (v : V) (d : PyData), vs = [v] ∧ Dp K H v d ∧ Q (.bl (isRule d)) H
theorem ok_is_rule (D : Def K mg "is_rule" s_is_rule ["value"]) (T : Txt K mg) : Cal P w K mg base CX0 1 "is_rule" (sp_is_rule K) := by
  obtain ⟨aR, hR, sR⟩ := T.c_RULES
  have g_RULES : ∃ u, mg "RULES" = some u ∧ RelV (.ref aR) u := ⟨_, hR, rfl⟩
  refine D.cal sc_is_rule (fun vs H Q E h => ?_) (fun f cdv A outer s H vs Q E hr h => ?_)
  · obtain ⟨v, d, rfl, _⟩ := h
    rfl
  obtain ⟨v, d, rfl, hd, q⟩ := h
  refine ⟨_, (pss_one (ps_ret (pe_and (pe_callB (call_isi) (by rfl) T.b_isinstance bo_isinstance (pa_cons (pv 0) (pa_cons (pe_ty (by rfl) T.b_str bo_str) pa_nil))) (pe_one (pe_cmpR op_in_seq (pv 0) (pe_gc (by rfl) g_RULES) (by rfl)))))), ?_⟩
  refine ⟨_, rfl, _, _, _, _, _, rfl, .ty "str", Dp.ty hd, isk hd (by decide), _, rfl, ?_⟩
  cases hd with
  | str x =>
    refine iteT ⟨_, rfl, aR, _, rfl, .inr (sR _), rfl, rfl, ?_⟩
    have e : isRule (.str x) = (if false then !inV (.str x) [.str "low", .str "put", .str "use"] else inV (.str x) [.str "low", .str "put", .str "use"]) := by
      show (x == "low" || x == "put" || x == "use") = (("low" == x) || (("put" == x) || (("use" == x) || false)))
      rw [Bool.or_false, Bool.or_assoc, BEq.comm (a := x) (b := "low"), BEq.comm (a := x) (b := "put"), BEq.comm (a := x) (b := "use")]
    rw [e] at q
    exact q
  | _ => exact q

theorem allBl {K : PySem.W.Frag} {H : Hp} {D : Addr} {bs : List Bool} (h : H D = some (.lst (bs.map V.bl))) : SqL K H D (bs.map V.bl) := SqL.of h

def sp_are_steps (K : PySem.W.Frag) : Sp := fun vs H Q _ => ∃ (v : V) (d : PyData), vs = [v] ∧ Dp K H v d ∧ ∀ H', Same H H' → Q (.bl (isSteps d)) H'
theorem ok_are_steps (D : Def K mg "are_steps" s_are_steps ["value"]) (T : Txt K mg) (C_is_from : Cal P w K mg base CX0 1 "is_from" (sp_is_from K)) : Cal P w K mg base CX0 2 "are_steps" (sp_are_steps K) := by
  refine D.cal sc_are_steps (fun vs H Q E h => ?_) (fun f cdv A outer s H vs Q E hr h => ?_)
  · obtain ⟨v, d, rfl, _⟩ := h
    rfl
  obtain ⟨v, d, rfl, hd, q⟩ := h
  refine ⟨_, (pss_cons (ps_if (PW.pt (pw_or (pt_not (pt_val (pe_callB (call_isi) (by rfl) T.b_isinstance bo_isinstance (pa_cons (pv 0) (pa_cons (pe_ty (by rfl) T.b_tuple bo_tuple) pa_nil))))) (pw_or1 (pt_not (pt_chain op_le op_le pe_int (pe_callB (call_len_seq) (by rfl) T.b_len bo_len (pa_cons (pv 0) pa_nil)) (pe_gc (by rfl) T.c_MOST_STEPS)))))) (pss_one (ps_ret pe_bl)) pss_nil)
    (pss_one (ps_ret (pe_callB (cr_all rfl) (by rfl) T.b_all bo_all (pa_cons (pe_lc (own := [("step", 1)]) rfl sc_are_steps.nd (pi_tup (pv 0)) (blkOk_by (own := [("step", 1)]) (N := ["value", "step"]) (sc := defScope s_are_steps) (by decide +kernel)) (fun _ _ _ _ _ => (pg_name (i := 1) sc_are_steps.nd rfl (Or.inl rfl))) (fun _ _ _ _ _ => pts_nil) (fun _ _ _ _ _ => (pe_c C_is_from hr (by omega) (by rfl) (pa_cons (pv 1) (pa_cons pe_int (pa_cons (pe_gc (by rfl) T.c_MOST_STEP) pa_nil)))))) pa_nil))))), ?_⟩
  refine ⟨_, rfl, _, _, _, _, _, rfl, .ty "tuple", Dp.ty hd, isk hd (by decide), _, rfl, ?_⟩
  cases hd with
  | tup hs ha =>
    rename_i a xs ds
    refine iteF ⟨_, rfl, a, xs, rfl, .inr hs, _, _, rfl, rfl, _, rfl, ?_⟩
    have el := DpAll.len ha
    refine ite2 (fun c => ?_) (fun c => ?_)
    · have c' : (1 : Int) ≤ (xs.length : Nat) := of_decide_eq_true c
      refine ⟨_, _, rfl, rfl, _, rfl, ?_⟩
      refine ite2 (fun c2 => ?_) (fun c2 => ?_)
      · have c3 : ¬ ((xs.length : Nat) : Int) ≤ 3 := by simpa using c2
        have e : isSteps (.tuple ds) = false := by
          have : ¬ (1 ≤ ds.length ∧ ds.length ≤ 3) := by omega
          simp [isSteps, this]
        have := q H (Same.refl H)
        rw [e] at this
        exact this
      · have c3 : ((xs.length : Nat) : Int) ≤ 3 := by simpa using c2
        refine ⟨_, rfl, a, rfl, ⟨_, hs⟩, fun L nL => lc_tup (xs := xs) (fun i H' => Same H H' ∧ H' L = some (.lst (((ds.take i).map (isFrom 1 5)).map V.bl))) ⟨same_upd nL, by rw [upd_same]; rfl⟩ (fun i H' _ h' => Same.sqT h'.1 hs) (fun i x H' hx h' => ?_) (fun H' h' => ?_)⟩
        · obtain ⟨s', e'⟩ := h'
          obtain ⟨d, hd1, hd2⟩ := DpAll.at ha hx
          refine ⟨rfl, _, rfl, x, d, 1, 5, rfl, Dp.same s' d x hd2, _, e', ?_, fun b o eb => ?_, ?_⟩
          · rw [List.length_map, List.length_map, List.length_take]
            exact Nat.lt_of_le_of_lt (Nat.min_le_right _ _) (small1000 (by omega))
          · rw [upd_ne (ne_of_none eb nL)]
            exact s' b o eb
          · rw [upd_same, List.take_add_one, hd1]
            simp
        · obtain ⟨s', e'⟩ := h'
          refine ⟨L, _, rfl, SqL.of e', ?_⟩
          have e : isSteps (.tuple ds) = (List.all ((ds.take xs.length).map (isFrom 1 5)) id) := by
            have h1 : (1 ≤ ds.length ∧ ds.length ≤ 3) := by omega
            rw [el, List.take_length]
            simp [isSteps, h1]
          rw [← e]
          exact q H' s'
    · have c3 : ¬ (1 : Int) ≤ (xs.length : Nat) := by simpa using c
      refine ⟨_, rfl, iteT ?_⟩
      have e : isSteps (.tuple ds) = false := by
        have : ¬ (1 ≤ ds.length ∧ ds.length ≤ 3) := by omega
        simp [isSteps, this]
      have := q H (Same.refl H)
      rw [e] at this
      exact this
  | _ => exact q H (Same.refl H)

theorem dp3 {K : PySem.W.Frag} {H : Hp} {xs : List V} {ds : List PyData} (h : DpAll K H xs ds) (n : xs.length = 3) :
    ∃ v1 v2 v3 d1 d2 d3, xs = [v1, v2, v3] ∧ ds = [d1, d2, d3] ∧ Dp K H v1 d1 ∧ Dp K H v2 d2 ∧ Dp K H v3 d3 := by
  match xs, ds, h, n with
  | [_, _, _], [_, _, _], .cons a (.cons b (.cons c .nil)), _ => exact ⟨_, _, _, _, _, _, rfl, rfl, a, b, c⟩
def sp_is_setup (K : PySem.W.Frag) : Sp := fun vs H Q _ => ∃ (v : V) (d : PyData), vs = [v] ∧ Dp K H v d ∧ ∀ H', Same H H' → Q (.bl (isSetup d)) H'
theorem ok_is_setup_of (D : Def K mg "is_setup_of" s_is_setup_of ["value"]) (T : Txt K mg) (C_is_from : Cal P w K mg base CX0 1 "is_from" (sp_is_from K)) (C_is_rule : Cal P w K mg base CX0 1 "is_rule" (sp_is_rule K))
    (C_are_steps : Cal P w K mg base CX0 2 "are_steps" (sp_are_steps K)) : Cal P w K mg base CX0 3 "is_setup_of" (sp_is_setup K) := by
  refine D.cal sc_is_setup_of (fun vs H Q E h => ?_) (fun f cdv A outer s H vs Q E hr h => ?_)
  · obtain ⟨v, d, rfl, _⟩ := h
    rfl
  obtain ⟨v, d, rfl, hd, q⟩ := h
  refine ⟨_, (pss_cons (ps_if (PW.pt (pw_or (pt_not (pt_val (pe_callB (call_isi) (by rfl) T.b_isinstance bo_isinstance (pa_cons (pv 0) (pa_cons (pe_ty (by rfl) T.b_tuple bo_tuple) pa_nil))))) (pw_or1 (pt_cmpR op_ne (pe_callB (call_len_seq) (by rfl) T.b_len bo_len (pa_cons (pv 0) pa_nil)) pe_int (nomark _))))) (pss_one (ps_ret pe_bl)) pss_nil)
    (pss_one (ps_ret (pe_and (pe_c C_are_steps hr (by omega) (by rfl) (pa_cons (pe_ix ix_tup (pv 0) pe_int (fun _ _ => rfl)) pa_nil)) (pe_and (pe_c C_is_from hr (by omega) (by rfl) (pa_cons (pe_ix ix_tup (pv 0) pe_int (fun _ _ => rfl)) (pa_cons pe_int (pa_cons (pe_gc (by rfl) T.c_MOST_SIZE) pa_nil)))) (pe_one (pe_c C_is_rule hr (by omega) (by rfl) (pa_cons (pe_ix ix_tup (pv 0) pe_int (fun _ _ => rfl)) pa_nil)))))))), ?_⟩
  refine ⟨_, rfl, _, _, _, _, _, rfl, .ty "tuple", Dp.ty hd, isk hd (by decide), _, rfl, ?_⟩
  cases hd with
  | tup hs ha =>
    rename_i a xs ds
    refine iteF ⟨_, rfl, a, xs, rfl, .inr hs, rfl, _, rfl, ?_⟩
    have el := DpAll.len ha
    refine ite2 (fun c => ?_) (fun c => ?_)
    · have c3 : ¬ xs.length = 3 := fun z => by rw [z] at c; exact absurd c (by decide)
      have e : isSetup (.tuple ds) = false := by
        match ds, el with
        | [], _ => rfl
        | [_], _ => rfl
        | [_, _], _ => rfl
        | [_, _, _], h => exact absurd h c3
        | _ :: _ :: _ :: _ :: _, _ => rfl
      have := q H (Same.refl H)
      rw [e] at this
      exact this
    · have c3 : xs.length = 3 := by
        have := of_decide_eq_true (by simpa using c : decide (V.int (xs.length : Nat) = V.int 3) = true)
        injection this with this
        omega
      obtain ⟨v1, v2, v3, d1, d2, d3, rfl, rfl, h1, h2, h3⟩ := dp3 ha c3
      refine ⟨_, rfl, a, _, 0, v1, rfl, rfl, hs, atI_nat (j := 0) rfl, v1, d1, rfl, h1, fun H1 s1 => ⟨_, rfl, ?_⟩⟩
      have q' : ∀ H', Same H H' → Q (.bl (isSteps d1 && (isFrom 0 6 d2 && isRule d3))) H' := q
      refine ite2 (fun c1 => ?_) (fun c1 => ?_)
      · rw [c1] at q'
        refine ⟨_, rfl, a, _, 1, v2, rfl, rfl, Same.sqT s1 hs, atI_nat (j := 1) rfl, v2, d2, 0, 6, rfl, Dp.same s1 _ _ h2, _, rfl, ?_⟩
        refine ite2 (fun c2 => ?_) (fun c2 => ?_)
        · rw [c2] at q'
          exact ⟨_, rfl, a, _, 2, v3, rfl, rfl, Same.sqT s1 hs, atI_nat (j := 2) rfl, v3, d3, rfl, Dp.same s1 _ _ h3, q' H1 s1⟩
        · rw [Bool.eq_false_iff.mpr c2] at q'
          exact q' H1 s1
      · rw [Bool.eq_false_iff.mpr c1] at q'
        exact q' H1 s1
  | _ => exact q H (Same.refl H)
end
end Ag
namespace Ag
open PySem PySem.Spec PyProof.Rows L2

/-! ### the deck of random numbers: what is drawn may be any number below the limit -/
structure Deck (H : Hp) (a : Addr) (n : Nat) : Prop where
  ex : ∃ x y t : Int, H a = some (.lst [.int x, .int y, .int t]) ∧ 0 ≤ y ∧ y < 2147483579 ∧ 0 ≤ t ∧ t ≤ n
theorem Deck.mut {H : Hp} {a : Addr} {n : Nat} (d : Deck H a n) : Mut (H a) := by
  obtain ⟨x, y, t, e, _⟩ := d.ex
  rw [e]
  exact True.intro
theorem Deck.muts {H : Hp} {a : Addr} {n : Nat} (d : Deck H a n) : ∀ b ∈ [a], Mut (H b) := fun b h => by
  have e : b = a := by simpa using h
  rw [e]
  exact d.mut
theorem Deck.le {H : Hp} {a : Addr} {m n : Nat} (d : Deck H a m) (h : m ≤ n) : Deck H a n := by
  obtain ⟨x, y, t, e, h1, h2, h3, h4⟩ := d.ex
  exact ⟨x, y, t, e, h1, h2, h3, by omega⟩
theorem Deck.same {H H' : Hp} {a : Addr} {n : Nat} (d : Deck H a n) (s : Same H H') : Deck H' a n := by
  obtain ⟨x, y, t, e, h⟩ := d.ex
  exact ⟨x, y, t, s _ _ e, h⟩
theorem Deck.there {H : Hp} {a : Addr} {n : Nat} (d : Deck H a n) : ∃ o, H a = some o := by
  obtain ⟨x, y, t, e, _⟩ := d.ex
  exact ⟨_, e⟩
theorem Deck.ev {H H' : Hp} {a : Addr} {n : Nat} {M : List Addr} (d : Deck H a n) (s : Ev M H H') (h : a ∉ M) : Deck H' a n := by
  obtain ⟨x, y, t, e, q⟩ := d.ex
  exact ⟨x, y, t, s.keep _ _ e h, q⟩

section
variable {P : Program} {w : World} {K : PySem.W.Frag} {mg : Str → Option Value} {base : Heap}
def sp_law_deck : Sp := fun vs H Q _ => ∃ c t : Int, vs = [.int c, .int t] ∧ 0 ≤ t ∧ t ≤ 100 ∧ ∀ a H', Same H H' → H a = none → Deck H' a 100 → Q (.ref a) H'
theorem ok_law_deck (D : Def K mg "_law_deck" s_law_deck ["cell", "turn"]) (T : Txt K mg) : Cal P w K mg base CX0 1 "_law_deck" sp_law_deck := by
  refine D.cal sc_law_deck (fun vs H Q E h => ?_) (fun f cdv A outer s H vs Q E hr h => ?_)
  · obtain ⟨c, t, rfl, _⟩ := h
    rfl
  obtain ⟨c, t, rfl, h1, h2, q⟩ := h
  refine ⟨_, (pss_cons (ps_if (pt_cmpR op_ge (pv 0) (pe_op op_pow pe_int pe_int) (nomark _)) (pss_one (ps_ret (pe_lst (pa_cons (pe_op op_sub (pv 0) (pe_op op_pow pe_int pe_int)) (pa_cons (pe_op op_mod (pe_callTy (call_int1) (by rfl) T.b_int bo_int (pa_cons (pv 0) pa_nil)) pe_int) (pa_cons (pv 1) pa_nil)))))) pss_nil)
    (pss_one (ps_ret (pe_lst (pa_cons pe_int (pa_cons (pe_op op_mod (pe_callTy (call_int1) (by rfl) T.b_int bo_int (pa_cons (pv 0) pa_nil)) pe_int) (pa_cons (pv 1) pa_nil))))))), ?_⟩
  have fin : ∀ x : Int, ∀ a, H a = none → Q (.ref a) (upd H a (.lst [.int x, .int (c % 2147483579), .int t])) := fun x a na =>
    q a _ (same_upd na) na ⟨_, _, _, upd_same, Int.emod_nonneg _ (by decide), Int.emod_lt_of_pos _ (by decide), h1, by omega⟩
  refine ⟨_, rfl, 10, 18, rfl, rfl, ⟨by decide, by decide, by decide⟩, _, _, rfl, rfl, _, rfl, ite2 (fun _ => ?_) (fun _ => ?_)⟩
  · exact ⟨_, rfl, 10, 18, rfl, rfl, ⟨by decide, by decide, by decide⟩, _, _, rfl, rfl, _, rfl, .inl ⟨_, rfl, _, _, rfl, rfl, (by show (0 : Int) < 2147483579; decide), _, rfl, (by show 3 ≤ sizeLine; decide), fin _⟩⟩
  · exact ⟨_, rfl, .inl ⟨_, rfl, _, _, rfl, rfl, (by show (0 : Int) < 2147483579; decide), _, rfl, (by show 3 ≤ sizeLine; decide), fin _⟩⟩

def sp_law_pick : Sp := fun vs H Q _ => ∃ (a : Addr) (l : Int) (n : Nat), vs = [.ref a, .int l] ∧ Deck H a n ∧ n ≤ 1000000 ∧ 0 < l ∧ l < 1073741824 ∧
  ∀ g H', 0 ≤ g → g < l → Ev [a] H H' → Deck H' a (n + 1) → Q (.int g) H'
theorem ok_law_pick (D : Def K mg "_law_pick" s_law_pick ["deck", "limit"]) (T : Txt K mg) : Cal P w K mg base CX0 1 "_law_pick" sp_law_pick := by
  refine D.cal sc_law_pick (fun vs H Q E h => ?_) (fun f cdv A outer s H vs Q E hr h => ?_)
  · obtain ⟨a, l, n, rfl, _⟩ := h
    rfl
  obtain ⟨a, l, n, rfl, d, hn, h0, h1, q⟩ := h
  obtain ⟨x, y, t, e, y0, y1, t0, t1⟩ := d.ex
  refine ⟨_, (pss_cons (ps_if (pt_cmpR op_gt (pe_ix ix_list (pv 0) pe_int (fun _ _ => rfl)) pe_int (nomark _)) (pss_cons (ps_set (i := 2) sc_law_pick.nd rfl (Or.inl rfl) (pe_op op_mod (pe_callTy (call_int1) (by rfl) T.b_int bo_int (pa_cons (pe_ix ix_list (pv 0) pe_int (fun _ _ => rfl)) pa_nil)) (pv 1)))
    (pss_cons (ps_asg (pe_op op_fdiv (pe_ix ix_list (pv 0) pe_int (fun _ _ => rfl)) (pv 1)) (pg_sub (pv 0) pe_int set_list))
    (pss_one (ps_ret (pv 2))))) pss_nil)
    (pss_cons (ps_asg (pe_op op_add (pe_ix ix_list (pv 0) pe_int (fun _ _ => rfl)) pe_int) (pg_sub (pv 0) pe_int set_list))
    (pss_cons (ps_set (i := 3) sc_law_pick.nd rfl (Or.inl rfl) (pe_op op_mod (pe_callTy (call_int1) (by rfl) T.b_int bo_int (pa_cons (pe_op op_pow (pe_callTy (call_int1) (by rfl) T.b_int bo_int (pa_cons (pe_op op_add (pe_ix ix_list (pv 0) pe_int (fun _ _ => rfl)) (pe_op op_mul pe_int (pe_ix ix_list (pv 0) pe_int (fun _ _ => rfl)))) pa_nil)) pe_int) pa_nil)) pe_int))
    (pss_cons (ps_set (i := 2) sc_law_pick.nd rfl (Or.inl rfl) (pe_op op_fdiv (pe_op op_mod (pe_callTy (call_int1) (by rfl) T.b_int bo_int (pa_cons (pe_op op_pow (pe_callTy (call_int1) (by rfl) T.b_int bo_int (pa_cons (pe_op op_add (pv 3) (pe_op op_mul pe_int (pe_ix ix_list (pv 0) pe_int (fun _ _ => rfl)))) pa_nil)) pe_int) pa_nil)) pe_int) pe_int))
    (pss_one (ps_ret (pe_op op_mod (pe_callTy (call_int1) (by rfl) T.b_int bo_int (pa_cons (pv 2) pa_nil)) (pv 1)))))))), ?_⟩
  refine ⟨_, rfl, a, _, 0, .int x, rfl, rfl, SqL.of e, atI_nat (j := 0) rfl, x, 1, rfl, rfl, _, rfl, ite2 (fun c => ?_) (fun c => ?_)⟩
  · have c' : (1 : Int) < x := of_decide_eq_true c
    refine ⟨_, rfl, a, _, 0, .int x, rfl, rfl, SqL.of e, atI_nat (j := 0) rfl, .inl ⟨x, rfl, _, rfl, x, l, rfl, rfl, h0, ?_⟩⟩
    refine ⟨_, rfl, a, _, 0, .int x, rfl, rfl, SqL.of e, atI_nat (j := 0) rfl, _, rfl, x, l, rfl, rfl, ⟨h0, h1⟩, _, rfl, a, _, 0, 0, rfl, rfl, e, rfl, _, rfl, ?_⟩
    exact q (x % l) _ (Int.emod_nonneg _ (by omega)) (Int.emod_lt_of_pos _ h0) (ev_upd (by rw [e]; exact True.intro)) ⟨x / l, y, t, upd_same, y0, y1, t0, by omega⟩
  · have e1 : (upd H a (.lst [.int x, .int y, .int (t + 1)])) a = some (.lst [.int x, .int y, .int (t + 1)]) := upd_same
    refine ⟨_, rfl, a, _, 2, .int t, rfl, rfl, SqL.of e, atI_nat (j := 2) rfl, t, 1, rfl, rfl, _, rfl, a, _, 2, 2, rfl, rfl, e, rfl, ?_⟩
    refine ⟨_, rfl, a, _, 1, .int y, rfl, rfl, SqL.of e1, atI_nat (j := 1) rfl, _, rfl, a, _, 2, .int (t + 1), rfl, rfl, SqL.of e1, atI_nat (j := 2) rfl, 15485867, t + 1, rfl, rfl, .inl ⟨by decide, by decide⟩, y, _, rfl, rfl, .inl ⟨_, rfl, ?_⟩⟩
    refine ⟨_, 5, rfl, rfl, ⟨by decide, by decide, by omega⟩, .inl ⟨_, rfl, _, 2147483647, rfl, rfl, (by show (0 : Int) < 2147483647; decide), ?_⟩⟩
    show tSeq _ _ _ (([some (.ref a), some (.int l), none, none] : L2.St).set 3 (some (.int (((y + 15485867 * (t + 1)) ^ (5 : Int).toNat) % 2147483647)))) _
    have g0 : 0 ≤ ((y + 15485867 * (t + 1)) ^ (5 : Int).toNat) % 2147483647 := Int.emod_nonneg _ (by decide)
    have g1 : ((y + 15485867 * (t + 1)) ^ (5 : Int).toNat) % 2147483647 < 2147483647 := Int.emod_lt_of_pos _ (by decide)
    generalize ((y + 15485867 * (t + 1)) ^ (5 : Int).toNat) % 2147483647 = g at g0 g1 ⊢
    refine ⟨_, rfl, _, rfl, a, _, 2, .int (t + 1), rfl, rfl, SqL.of e1, atI_nat (j := 2) rfl, 7919, t + 1, rfl, rfl, .inl ⟨by decide, by decide⟩, g, _, rfl, rfl, .inl ⟨_, rfl, _, 3, rfl, rfl, ⟨by decide, by decide, by omega⟩, .inl ⟨_, rfl, _, 2147483629, rfl, rfl, (by show (0 : Int) < 2147483629; decide), _, 32, rfl, rfl, ⟨by decide, by decide⟩, ?_⟩⟩⟩
    refine ⟨_, rfl, .inl ⟨_, rfl, _, rfl, _, l, rfl, rfl, h0, ?_⟩⟩
    exact q _ _ (Int.emod_nonneg _ (by omega)) (Int.emod_lt_of_pos _ h0) (ev_upd (by rw [e]; exact True.intro)) ⟨x, y, t + 1, e1, y0, y1, by omega, by omega⟩

/-- what a drawn setup is -/
structure Drawn (K : PySem.W.Frag) (H : Hp) (p : Addr) (ps : List Int) (s : Int) (kd : Str) : Prop where
  ex : ∃ q, SqT K H p [.ref q, .int s, .str kd] ∧ SqT K H q (ps.map V.int)
def Kind (kd : Str) : Prop := kd = "low" ∨ kd = "put" ∨ kd = "use"
structure DrawnOk (most high : Int) (ps : List Int) (s : Int) (kd : Str) : Prop where
  l1 : 1 ≤ ps.length
  l3 : ps.length ≤ 3
  pos : ∀ x ∈ ps, 1 ≤ x ∧ x ≤ most
  s0 : 0 ≤ s
  s1 : s ≤ high
  kd : Kind kd
def sp_law_drawn (K : PySem.W.Frag) : Sp := fun vs H Q _ => ∃ (a : Addr) (most high : Int) (n : Nat), vs = [.ref a, .int most, .int high] ∧ Deck H a n ∧ n ≤ 900000 ∧ 1 ≤ most ∧ most ≤ 1000 ∧ 0 ≤ high ∧ high ≤ 1000 ∧
  ∀ p ps s kd H', Ev [a] H H' → Deck H' a (n + 7) → Drawn K H' p ps s kd → DrawnOk most high ps s kd → Q (.ref p) H'
theorem ints_app (ps : List Int) (x : Int) : ps.map V.int ++ [.int x] = (ps ++ [x]).map V.int := by simp
theorem pick3 {α : Type} {a b c : α} {g : Int} (h0 : 0 ≤ g) (h1 : g < 3) : ∃ v, atI [a, b, c] g = some v ∧ (v = a ∨ v = b ∨ v = c) := by
  have h : g = 0 ∨ g = 1 ∨ g = 2 := by omega
  rcases h with rfl | rfl | rfl
  · exact ⟨a, rfl, .inl rfl⟩
  · exact ⟨b, rfl, .inr (.inl rfl)⟩
  · exact ⟨c, rfl, .inr (.inr rfl)⟩
theorem ok_law_drawn (D : Def K mg "_law_drawn" s_law_drawn ["deck", "most", "high"]) (T : Txt K mg) (C_law_pick : Cal P w K mg base CX0 1 "_law_pick" sp_law_pick) : Cal P w K mg base CX0 2 "_law_drawn" (sp_law_drawn K) := by
  refine D.cal sc_law_drawn (fun vs H Q E h => ?_) (fun f cdv A outer s H vs Q E hr h => ?_)
  · obtain ⟨a, most, high, n, rfl, _⟩ := h
    rfl
  obtain ⟨a, most, high, n, rfl, d, hn, m0, m1, i0, i1, q⟩ := h
  refine ⟨_, (pss_cons (ps_setLc (i := 3) (own := [("turn", 4)]) rfl sc_law_drawn.nd rfl rfl (sw_true rfl rfl rfl (by decide +kernel)) (pi_range1 (by rfl) T.b_range (pa_cons (pe_ix ix_list (pe_lst (pa_cons pe_int (pa_cons pe_int (pa_cons pe_int (pa_cons pe_int (pa_cons pe_int pa_nil)))))) (pe_c C_law_pick hr (by omega) (by rfl) (pa_cons (pv 0) (pa_cons pe_int pa_nil))) (fun _ _ => rfl)) pa_nil)) (blkOk_by (own := [("turn", 4)]) (N := ["deck", "most", "high", "paces", "turn"]) (sc := defScope s_law_drawn) (by decide +kernel)) (fun _ _ _ _ _ => (pg_name (i := 4) sc_law_drawn.nd rfl (Or.inl rfl))) (fun _ _ _ _ _ => pts_nil) (fun _ _ _ _ _ => (pe_op op_add pe_int (pe_c C_law_pick hr (by omega) (by rfl) (pa_cons (pv 0) (pa_cons (pv 1) pa_nil))))))
    (C8.pss_cut (ps_if (pt_cmpR op_eq (pe_c C_law_pick hr (by omega) (by rfl) (pa_cons (pv 0) (pa_cons pe_int pa_nil))) pe_int (nomark _)) (pss_one (ps_asg pe_int (pg_sub (pv 3) pe_int set_list))) pss_nil)
    (pss_one (ps_ret (pe_tupS (pa_cons (pe_callTy (call_tupS) (by rfl) T.b_tuple bo_tuple (pa_cons (pv 3) pa_nil)) (pa_cons (pe_c C_law_pick hr (by omega) (by rfl) (pa_cons (pv 0) (pa_cons (pe_op op_add (pv 2) pe_int) pa_nil))) (pa_cons (pe_ix ix_list (pe_lst (pa_cons pe_str (pa_cons pe_str (pa_cons pe_str pa_nil)))) (pe_c C_law_pick hr (by omega) (by rfl) (pa_cons (pv 0) (pa_cons pe_int pa_nil))) (fun _ _ => rfl)) pa_nil)))))))), ?_⟩
  refine ⟨by decide, fun L nL => ?_⟩
  have dL := d.same (same_upd (o := .lst [.int 1, .int 2, .int 2, .int 2, .int 3]) nL)
  refine ⟨_, rfl, a, 5, n, rfl, dL, by omega, by decide, by decide, fun g H1 g0 g1 ev1 d1 => ?_⟩
  have naL : L ≠ a := fun z => by
    obtain ⟨o, e⟩ := d.there
    rw [← z, nL] at e
    cases e
  have eL : H1 L = some (.lst [.int 1, .int 2, .int 2, .int 2, .int 3]) := ev1.keep _ _ upd_same (by simpa using naL)
  have ev01 : Ev [a] H H1 := sThen (same_upd nL) ev1 d.muts
  obtain ⟨m, hm, hm1, hm3⟩ : ∃ m : Nat, atI [V.int 1, .int 2, .int 2, .int 2, .int 3] g = some (.int (m : Int)) ∧ 1 ≤ m ∧ m ≤ 3 := by
    have h : g = 0 ∨ g = 1 ∨ g = 2 ∨ g = 3 ∨ g = 4 := by omega
    rcases h with rfl | rfl | rfl | rfl | rfl
    · exact ⟨1, rfl, by decide, by decide⟩
    · exact ⟨2, rfl, by decide, by decide⟩
    · exact ⟨2, rfl, by decide, by decide⟩
    · exact ⟨2, rfl, by decide, by decide⟩
    · exact ⟨3, rfl, by decide, by decide⟩
  refine ⟨L, _, g, _, rfl, rfl, SqL.of eL, hm, _, rfl, by omega, by omega, fun R nR => ?_⟩
  refine lc_range (lo := 0) (n := (m : Int).toNat) (fun i H' => ∃ ps : List Int, Ev [a] H H' ∧ Deck H' a (n + 1 + i) ∧ H' R = some (.lst (ps.map V.int)) ∧ ps.length = i ∧ ∀ x ∈ ps, 1 ≤ x ∧ x ≤ most) ⟨[], ev01.then_same (same_upd nR), d1.same (same_upd nR), upd_same, rfl, fun _ z => nomatch z⟩ (fun i H' hi h' => ?_) (fun H' h' => ?_)
  · obtain ⟨ps, ev, dk, eR, el, hp⟩ := h'
    have hi' : i < 3 := by omega
    have naR : R ≠ a := fun z => by
      obtain ⟨o, e⟩ := d1.there
      rw [← z, nR] at e
      cases e
    refine ⟨rfl, _, rfl, _, rfl, a, most, n + 1 + i, rfl, dk, by omega, by omega, by omega, fun g2 H2 g20 g21 ev2 d2 => ?_⟩
    refine ⟨1, g2, rfl, rfl, _, ev2.keep _ _ eR (by simpa using naR), ?_, ps ++ [1 + g2], ?_, ?_, ?_, ?_, ?_⟩
    · rw [List.length_map]
      exact small1000 (by omega)
    · refine ⟨fun b o e hb => ?_, d.muts⟩
      have hbR : b ≠ R := fun z => by
        have := ev01.free nR (by simpa using naR)
        rw [z, this] at e
        cases e
      rw [upd_ne hbR]
      exact ev2.keep _ _ (ev.keep _ _ e hb) hb
    · obtain ⟨x, y, t, e, h⟩ := d2.ex
      exact ⟨x, y, t, by rw [upd_ne naR.symm]; exact e, by obtain ⟨h1, h2, h3, h4⟩ := h; exact ⟨h1, h2, h3, by omega⟩⟩
    · rw [upd_same, ints_app]
    · simp [el]
    · intro x hx
      rcases List.mem_append.mp hx with hx | hx
      · exact hp x hx
      · have : x = 1 + g2 := by simpa using hx
        omega
  · obtain ⟨ps, ev, dk, eR, el, hp⟩ := h'
    have el' : ps.length = m := by omega
    have naR : R ≠ a := fun z => by
      obtain ⟨o, e⟩ := d1.there
      rw [← z, nR] at e
      cases e
    have nR0 : H R = none := ev01.free nR (by simpa using naR)
    refine ⟨fun σ H3 => ∃ ps : List Int, σ = [some (.ref a), some (.int most), some (.int high), some (.ref R), none] ∧ Ev [a] H H3 ∧ Deck H3 a (n + 5) ∧ H3 R = some (.lst (ps.map V.int)) ∧ ps.length = m ∧ ∀ x ∈ ps, 1 ≤ x ∧ x ≤ most, ?_, ?_⟩
    · refine ⟨_, rfl, a, 3, _, rfl, dk, by omega, by decide, by decide, fun g2 H2 _ _ ev2 d2 => ⟨rfl, _, rfl, ?_⟩⟩
      have eR2 := ev2.keep _ _ eR (by simpa using naR)
      have ev' := ev.trans ev2
      refine ite2 (fun _ => ?_) (fun _ => ?_)
      · cases ps with
        | nil => exact absurd el' (by simp; omega)
        | cons x r =>
          refine ⟨_, rfl, R, _, 0, 0, rfl, rfl, eR2, ?_, 1 :: r, rfl, ?_, ?_, ?_, el', fun z hz => ?_⟩
          · exact ixN_nat (j := 0) (by simp)
          · refine ⟨fun b o e hb => ?_, d.muts⟩
            rw [upd_ne (ne_of_none e nR0)]
            exact ev'.keep _ _ e hb
          · refine (Deck.le ?_ (show n + 1 + (m : Int).toNat + 1 ≤ n + 5 by omega))
            exact d2.ev (ev_upd (by rw [eR2]; exact True.intro)) (by simpa using naR.symm)
          · rw [upd_same]
            rfl
          · rcases List.mem_cons.mp hz with rfl | hz
            · exact ⟨by omega, m0⟩
            · exact hp z (List.mem_cons_of_mem _ hz)
      · exact ⟨ps, rfl, ev', d2.le (by omega), eR2, el', hp⟩
    · rintro σ H3 ⟨ps, rfl, ev3, d3, e3, el3, hp3⟩
      refine ⟨_, rfl, R, _, rfl, .inl (SqL.of e3), fun tq H4 s4 t4 => ?_⟩
      refine ⟨_, rfl, _, rfl, _, _, rfl, rfl, a, high + 1, n + 5, rfl, d3.same s4, by omega, by omega, by omega, fun g4 H5 g40 g41 ev5 d5 => ?_⟩
      refine ⟨by decide, fun L2 nL2 => ?_⟩
      refine ⟨_, rfl, a, 3, n + 6, rfl, d5.same (same_upd nL2), by omega, by decide, by decide, fun g6 H7 g60 g61 ev7 d7 => ?_⟩
      have naL2 : L2 ≠ a := fun z => by
        obtain ⟨o, e⟩ := d5.there
        rw [← z, nL2] at e
        cases e
      have eL2 := ev7.keep _ _ upd_same (by simpa using naL2)
      obtain ⟨v, hv, hv2⟩ := pick3 (a := V.str "low") (b := V.str "put") (c := V.str "use") g60 g61
      have t7 : SqT K H7 tq (ps.map V.int) := ev7.sqT (Same.sqT (same_upd nL2) (ev5.sqT t4))
      have ev' : Ev [a] H H7 := ((((ev3.then_same s4).trans ev5).then_same (same_upd nL2)).trans ev7)
      refine ⟨L2, _, g6, v, rfl, rfl, SqL.of eL2, hv, (by show 3 ≤ sizeLine; decide), fun p H8 s8 t8 => ?_⟩
      have ok : ∀ kd, Kind kd → DrawnOk most high ps g4 kd := fun kd hk => ⟨by omega, by omega, hp3, g40, by omega, hk⟩
      rcases hv2 with rfl | rfl | rfl
      · exact q p ps g4 "low" H8 (ev'.then_same s8) (d7.same s8) ⟨tq, t8, Same.sqT s8 t7⟩ (ok _ (.inl rfl))
      · exact q p ps g4 "put" H8 (ev'.then_same s8) (d7.same s8) ⟨tq, t8, Same.sqT s8 t7⟩ (ok _ (.inr (.inl rfl)))
      · exact q p ps g4 "use" H8 (ev'.then_same s8) (d7.same s8) ⟨tq, t8, Same.sqT s8 t7⟩ (ok _ (.inr (.inr rfl)))
end
end Ag
namespace Ag
open PySem PySem.Spec PyProof.Rows L2
/-! ### t * 2, an empty t too -/
theorem mul_empty (l : Addr) (n : Nat) (dd : Option Addr) (sl : Array (Option Value)) (x : Int) (u : Tok) (c0 : (decide (x < -(2 ^ 63)) || decide (x ≥ 2 ^ 63)) = false) :
    Meets (Builtin.«tuple.__mul__» ⟨[.ref l, .int x u], []⟩) (fun _ R s => s.heap.get? l = some { cls := .type "tuple", dict := dd, data := .seq #[] n, slots := sl } ∧
      R (.ok (.ret (Value.ref l))) s) :=
  .of_wp fun prog w A R s h => by
    obtain ⟨hp, g, d, tk, os⟩ := s
    obtain ⟨hl, h⟩ := h
    have f1 := AutoSeq1.idx_int
    wp_walk using wpAny_loadPart' hl
    repeat (first
      | (refine wpAny_ite_false (decide_eq_false (by rw [c0]; exact Bool.false_ne_true)) ?_; wp_walk using wpAny_loadPart' hl))
    exact ⟨_, rfl, h⟩
def rRep2 (K : PySem.W.Frag) : R2 := fun x y H Q => ∃ l xs, x = .ref l ∧ y = .int 2 ∧ SqT K H l xs ∧ xs.length ≤ 1000 ∧ nT K H (xs ++ xs) Q
theorem op_rep2 {X : Cx} : OpR X (binaryOp .Mult) (rRep2 X.K) := by
  intro pins s σ H x y v u Q I rx ry h
  obtain ⟨l, xs, e1, e2, hT, hz, q⟩ := h
  by_cases hn : xs = []
  · subst hn e1 e2
    cases rx
    obtain ⟨t, rfl⟩ := ry
    obtain ⟨its, r, ⟨⟨cls, dd, data, sl⟩, ho, hc, n, hd⟩, hs⟩ := I.tuple hT
    simp only at hc hd
    subst hc hd
    cases r
    refine wpAny_binaryOp_repeat_ref (T := "tuple") (U := "int") (by decide) ⟨_, ho, rfl⟩ (fun s' => typeIs_int s' 2 t) noFill_tuple_mul F.fills_int_mul F.slot_int_rmul repeat_tuple F.slot_int_index.lookup
      (call_meets F.slot_int_rmul (typeIs_int s 2 t) F.entry_int_rmul (F.args_int_rmul_2 _ _) (int_rmul_tuple 2 t l _ n dd sl)
        ⟨ho, rfl, ⟨_, ho, rfl⟩, call_meets F.slot_tuple_mul ⟨_, ho, rfl⟩ F.entry_tuple_mul (F.args_tuple_mul_2 _ _) (mul_empty l n dd sl 2 t (by decide)) ⟨ho, ?_⟩⟩)
    exact ⟨.ref l, H, I, rfl, q.old hT⟩
  · refine op_repT pins s σ H x y v u Q I rx ry ⟨l, 2, xs, e1, e2, hT, hn, by decide, by decide, hz, ?_⟩
    have e : (List.replicate (2 : Int).toNat xs).flatten = xs ++ xs := by simp [List.replicate]
    rw [e]
    exact q.new
end Ag
namespace Ag
open PySem PySem.Spec PyProof.Rows L2
/-! ### list + list, of lists that are only read -/
def rCatL (K : PySem.W.Frag) : R2 := fun x y H Q => ∃ l b xs zs, x = .ref l ∧ y = .ref b ∧ SqL K H l xs ∧ SqL K H b zs ∧ xs.length + zs.length ≤ sizeLine ∧ ∀ p, H p = none → Q (.ref p) (upd H p (.lst (xs ++ zs)))
theorem op_catL {X : Cx} : OpR X (binaryOp .Add) (rCatL X.K) := by
  intro pins s σ H x y v u Q I rx ry h
  obtain ⟨l, b, xs, zs, rfl, rfl, hH, hB, hz, q⟩ := h
  cases rx
  cases ry
  obtain ⟨its, r, ⟨⟨cls, dd, data, sl⟩, n, ho, hc, _, hd⟩, _⟩ := I.list hH
  obtain ⟨its2, r2, ⟨⟨cls2, dd2, data2, sl2⟩, n2, ho2, hc2, _, hd2⟩, _⟩ := I.list hB
  simp only at hc hd hc2 hd2
  subst hc hd hc2 hd2
  have l1 := r.length
  have l2 := r2.length
  have e : its.toArray ++ its2.toArray = (its ++ its2).toArray := by simp
  refine concat_meets ⟨_, ho, rfl⟩ ⟨_, ho2, rfl⟩ noFill_list_add seq_list_add PySem.F.slot_list_add PySem.F.entry_list_add (PySem.F.args_list_add_2 _ _) (list_addW l b its.toArray its2.toArray n n2 dd dd2 sl sl2 (by rw [List.size_toArray, List.size_toArray]; omega)) ⟨ho, ho2, ?_⟩
  rw [e]
  exact ⟨.ref _, _, I.lnew (t' := s.toks) (r.append r2) (by rw [List.length_append]; omega), rfl, q _ I.fresh⟩
theorem cut_ints (ns : List Int) (lo hi : Option Int) : ∃ cs : List Int, cutV (ns.map V.int) lo hi = cs.map V.int ∧ cs.length ≤ ns.length := by
  refine ⟨(ns.drop (HT.sIx (ns.map V.int).length 0 lo)).take (HT.sIx (ns.map V.int).length (ns.map V.int).length hi - HT.sIx (ns.map V.int).length 0 lo), ?_, ?_⟩
  · unfold cutV
    rw [List.map_take, List.map_drop]
  · rw [List.length_take, List.length_drop]
    omega
theorem at_ints {cs : List Int} {i : Nat} {x : V} (h : (cs.map V.int)[i]? = some x) : ∃ c, x = .int c := by
  rw [List.getElem?_map] at h
  cases e : cs[i]? with
  | none => rw [e] at h; cases h
  | some z => rw [e] at h; exact ⟨z, (Option.some.inj h).symm⟩
end Ag
namespace Ag
open PySem PySem.Spec PyProof.Rows L2

/-! ### data without lists: it stays whatever is written -/
mutual
def plain : PyData → Bool
  | .list _ => false
  | .tuple ds => decide (ds.length ≤ 3) && plainAll ds
  | _ => true
def plainAll : List PyData → Bool
  | [] => true
  | d :: ds => plain d && plainAll ds
end
mutual
theorem Dp.ev {K : PySem.W.Frag} {H H' : Hp} {M : List Addr} (e : Ev M H H') : ∀ (d : PyData) (v : V), plain d = true → Dp K H v d → Dp K H' v d
  | .none, _, _, h => by cases h; exact .non
  | .bool _, _, _, h => by cases h; exact .bl _
  | .int _, _, _, h => by cases h; exact .int _
  | .str _, _, _, h => by cases h; exact .str _
  | .list ds, _, p, _ => by simp [plain] at p
  | .tuple ds, _, p, h => by
    cases h with
    | tup a b => exact .tup (e.sqT a) (Dp.evAll e ds _ (by rw [plain, Bool.and_eq_true] at p; exact p.2) b)
  | .dict _, _, _, h => by cases h
theorem Dp.evAll {K : PySem.W.Frag} {H H' : Hp} {M : List Addr} (e : Ev M H H') : ∀ (ds : List PyData) (vs : List V), plainAll ds = true → DpAll K H vs ds → DpAll K H' vs ds
  | [], _, _, h => by cases h; exact .nil
  | d :: ds, _, p, h => by
    rw [plainAll, Bool.and_eq_true] at p
    cases h with
    | cons a b => exact .cons (Dp.ev e d _ p.1 a) (Dp.evAll e ds _ p.2 b)
end
mutual
def deepD : PyData → Nat
  | .tuple ds => deepAll ds + 1
  | _ => 0
def deepAll : List PyData → Nat
  | [] => 0
  | d :: ds => max (deepD d) (deepAll ds)
end
theorem deep_at : ∀ {ds : List PyData} {i : Nat} {d : PyData}, ds[i]? = some d → deepD d ≤ deepAll ds
  | [], _, _, h => by simp at h
  | x :: r, 0, d, h => by simp at h; subst h; exact Nat.le_max_left _ _
  | x :: r, i + 1, d, h => Nat.le_trans (deep_at (by simpa using h)) (Nat.le_max_right _ _)
theorem plain_at : ∀ {ds : List PyData} {i : Nat} {d : PyData}, plainAll ds = true → ds[i]? = some d → plain d = true
  | [], _, _, _, h => by simp at h
  | x :: r, 0, d, p, h => by simp at h; subst h; rw [plainAll, Bool.and_eq_true] at p; exact p.1
  | x :: r, i + 1, d, p, h => by rw [plainAll, Bool.and_eq_true] at p; exact plain_at p.2 (by simpa using h)
theorem DpAll.app {K : PySem.W.Frag} {H : Hp} : ∀ {xs ys : List V} {ds es : List PyData}, DpAll K H xs ds → DpAll K H ys es → DpAll K H (xs ++ ys) (ds ++ es)
  | _, _, _, _, .nil, b => b
  | _, _, _, _, .cons h t, b => .cons h (DpAll.app t b)
theorem DpAll.take {K : PySem.W.Frag} {H : Hp} : ∀ {xs : List V} {ds : List PyData} (n : Nat), DpAll K H xs ds → DpAll K H (xs.take n) (ds.take n)
  | _, _, 0, _ => by simpa using DpAll.nil
  | _, _, n + 1, .nil => by simpa using DpAll.nil
  | _, _, n + 1, .cons h t => .cons h (DpAll.take n t)
theorem DpAll.drop {K : PySem.W.Frag} {H : Hp} : ∀ {xs : List V} {ds : List PyData} (n : Nat), DpAll K H xs ds → DpAll K H (xs.drop n) (ds.drop n)
  | _, _, 0, h => h
  | _, _, n + 1, .nil => by simpa using DpAll.nil
  | _, _, n + 1, .cons h t => DpAll.drop n t
/-- a slice of data is data -/
theorem DpAll.cut {K : PySem.W.Frag} {H : Hp} {xs : List V} {ds : List PyData} (h : DpAll K H xs ds) (lo hi : Option Int) : ∃ es, DpAll K H (cutV xs lo hi) es := ⟨_, DpAll.take _ (DpAll.drop _ h)⟩

section
variable {P : Program} {w : World} {K : PySem.W.Frag} {mg : Str → Option Value} {base : Heap}
theorem ok_is_setup (D : Def K mg "is_setup" s_is_setup ["value"]) (C_is_setup_of : Cal P w K mg base CX0 3 "is_setup_of" (sp_is_setup K)) : Cal P w K mg base CX0 4 "is_setup" (sp_is_setup K) := by
  refine D.cal sc_is_setup (fun vs H Q E h => ?_) (fun f cdv A outer s H vs Q E hr h => ?_)
  · obtain ⟨v, d, rfl, _⟩ := h
    rfl
  obtain ⟨v, d, rfl, hd, q⟩ := h
  refine ⟨_, (pss_one (ps_ret (pe_c C_is_setup_of hr (by omega) (by rfl) (pa_cons (pv 0) pa_nil)))), ?_⟩
  exact ⟨_, rfl, v, d, rfl, hd, q⟩

def sp_law_bool : Sp := fun vs H Q _ => ∃ a b : Bool, vs = [.bl a, .bl b] ∧ Q (.bl (decide (a = b))) H
theorem ok_law_bool (D : Def K mg "_law_bool" s_law_bool ["got", "due"]) (T : Txt K mg) : Cal P w K mg base CX0 1 "_law_bool" sp_law_bool := by
  refine D.cal sc_law_bool (fun vs H Q E h => ?_) (fun f cdv A outer s H vs Q E hr h => ?_)
  · obtain ⟨a, b, rfl, _⟩ := h
    rfl
  obtain ⟨a, b, rfl, q⟩ := h
  refine ⟨_, (pss_one (ps_ret (pe_and (pe_callB (call_isi) (by rfl) T.b_isinstance bo_isinstance (pa_cons (pv 0) (pa_cons (pe_ty (by rfl) T.b_bool bo_bool) pa_nil))) (pe_one (pe_cmpR op_eq (pv 0) (pv 1) (nomark _)))))), ?_⟩
  refine ⟨_, rfl, _, _, _, _, _, rfl, .ty "bool", Dp.ty (K := K) (H := H) (.bl a), isk (H := H) (.bl a) (by decide), _, rfl, iteT ⟨_, rfl, _, rfl, rfl, ?_⟩⟩
  have e : decide (V.bl a = V.bl b) = decide (a = b) := by cases a <;> cases b <;> rfl
  rw [e]
  exact q

def isWhole (d : PyData) : Bool := isT "int" d && !isT "bool" d
def sp_law_whole (K : PySem.W.Frag) : Sp := fun vs H Q _ => ∃ v d, vs = [v] ∧ Dp K H v d ∧ Q (.bl (isWhole d)) H
theorem ok_law_whole (D : Def K mg "_law_whole" s_law_whole ["thing"]) (T : Txt K mg) : Cal P w K mg base CX0 1 "_law_whole" (sp_law_whole K) := by
  refine D.cal sc_law_whole (fun vs H Q E h => ?_) (fun f cdv A outer s H vs Q E hr h => ?_)
  · obtain ⟨v, d, rfl, _⟩ := h
    rfl
  obtain ⟨v, d, rfl, hd, q⟩ := h
  refine ⟨_, (pss_one (ps_ret (pe_and (pe_callB (call_isi) (by rfl) T.b_isinstance bo_isinstance (pa_cons (pv 0) (pa_cons (pe_ty (by rfl) T.b_int bo_int) pa_nil))) (pe_one (pe_not (pe_callB (call_isi) (by rfl) T.b_isinstance bo_isinstance (pa_cons (pv 0) (pa_cons (pe_ty (by rfl) T.b_bool bo_bool) pa_nil)))))))), ?_⟩
  refine ⟨_, rfl, _, _, _, _, _, rfl, .ty "int", Dp.ty hd, isk hd (by decide), _, rfl, ?_⟩
  unfold isWhole at q
  refine ite2 (fun c => ?_) (fun c => ?_)
  · rw [c] at q
    exact ⟨_, rfl, _, _, _, _, _, rfl, .ty "bool", Dp.ty hd, isk hd (by decide), _, rfl, q⟩
  · rw [Bool.eq_false_iff.mpr c] at q
    exact q

theorem isFrom_eq (lo hi : Int) (d : PyData) : isFrom lo hi d = (isWhole d && match d with | .int i => decide (lo ≤ i) && decide (i ≤ hi) | _ => false) := by
  unfold isFrom isWhole
  rw [Bool.and_assoc]
  all_goals rfl
/-- the items that are no steps, one by one -/
def oddS (ds : List PyData) : List PyData := (ds.filter fun d => !isFrom 1 5 d).map fun _ => PyData.int 1
theorem odd_snoc (ds : List PyData) (d : PyData) : oddS (ds ++ [d]) = oddS ds ++ (if isFrom 1 5 d then [] else [.int 1]) := by
  unfold oddS
  rw [List.filter_append, List.map_append]
  cases h : isFrom 1 5 d <;> simp [List.filter_cons, h]
theorem odd_none (ds : List PyData) : (oddS ds = []) ↔ ds.all (isFrom 1 5) = true := by
  unfold oddS
  rw [List.map_eq_nil_iff, List.filter_eq_nil_iff, List.all_eq_true]
  constructor
  · intro h d hd
    have := h d hd
    simpa using this
  · intro h d hd
    simp [h d hd]
theorem eqv_nil (ds : List PyData) : PyData.eqv (.list ds) (.list []) = decide (ds = []) := by
  cases ds with
  | nil => decide
  | cons a b => simp [PyData.eqv, PyData.eqvAll]
theorem shaped_ones (k : Nat) : SeqAt.shaped (.list (List.replicate k (PyData.int 1))) = true := by
  have h1 : ∀ k, PyData.canLayAll0 (List.replicate k (PyData.int 1)) = true := fun k => by
    induction k with
    | zero => rfl
    | succ k ih => rw [List.replicate_succ, PyData.canLayAll0, ih]; rfl
  have h2 : ∀ k, PyData.depthAll (List.replicate k (PyData.int 1)) = 0 := fun k => by
    induction k with
    | zero => rfl
    | succ k ih => rw [List.replicate_succ, PyData.depthAll, ih]; rfl
  unfold SeqAt.shaped
  rw [PyData.canLay0, PyData.depth, h1, h2]
  rfl
theorem ok_law_right (D : Def K mg "_law_right" s_law_right ["value"]) (T : Txt K mg) (C_law_whole : Cal P w K mg base CX0 1 "_law_whole" (sp_law_whole K)) : Cal P w K mg base CX0 2 "_law_right" (sp_is_setup K) := by
  refine D.cal sc_law_right (fun vs H Q E h => ?_) (fun f cdv A outer s H vs Q E hr h => ?_)
  · obtain ⟨v, d, rfl, _⟩ := h
    rfl
  obtain ⟨v, d, rfl, hd, q⟩ := h
  refine ⟨_, (pss_cons (ps_if (PW.pt (pw_or (pt_not (pt_val (pe_callB (call_isi) (by rfl) T.b_isinstance bo_isinstance (pa_cons (pv 0) (pa_cons (pe_ty (by rfl) T.b_tuple bo_tuple) pa_nil))))) (pw_or (pt_cmpR op_ne (pe_callB (call_len_seq) (by rfl) T.b_len bo_len (pa_cons (pv 0) pa_nil)) pe_int (nomark _)) (pw_or1 (pt_not (pt_val (pe_callB (call_isi) (by rfl) T.b_isinstance bo_isinstance (pa_cons (pe_ix ix_tup (pv 0) pe_int (fun _ _ => rfl)) (pa_cons (pe_ty (by rfl) T.b_tuple bo_tuple) pa_nil))))))))) (pss_one (ps_ret pe_bl)) pss_nil)
    (pss_cons (ps_asg (pv 0) (pg_tup (by rfl) (pgs_cons (pg_name (i := 1) sc_law_right.nd rfl (Or.inl rfl)) (pgs_cons (pg_name (i := 2) sc_law_right.nd rfl (Or.inl rfl)) (pgs_cons (pg_name (i := 3) sc_law_right.nd rfl (Or.inl rfl)) pgs_nil)))))
    (pss_cons (ps_if (PW.pt (pw_or (pt_not (pt_chain op_le op_le pe_int (pe_callB (call_len_seq) (by rfl) T.b_len bo_len (pa_cons (pv 1) pa_nil)) pe_int)) (pw_or1 (pt_cmpR (op_neD hr.units) (pe_lc (own := [("pace", 4)]) rfl sc_law_right.nd (pi_tup (pv 1)) (blkOk_by (own := [("pace", 4)]) (N := ["value", "paces", "limit", "kind", "pace"]) (sc := defScope s_law_right) (by decide +kernel)) (fun _ _ _ _ _ => (pg_name (i := 4) sc_law_right.nd rfl (Or.inl rfl))) (fun _ _ _ _ _ => (pts_one (PW.pt (pw_or (pt_not (pt_val (pe_c C_law_whole hr (by omega) (by rfl) (pa_cons (pv 4) pa_nil)))) (pw_or1 (pt_not (pt_chain op_le op_le pe_int (pv 4) pe_int))))))) (fun _ _ _ _ _ => pe_int)) (pe_lst pa_nil) (nomark _))))) (pss_one (ps_ret pe_bl)) pss_nil)
    (pss_cons (ps_if (PW.pt (pw_or (pt_not (pt_val (pe_c C_law_whole hr (by omega) (by rfl) (pa_cons (pv 2) pa_nil)))) (pw_or1 (pt_not (pt_chain op_le op_le pe_int (pv 2) pe_int))))) (pss_one (ps_ret pe_bl)) pss_nil)
    (pss_one (ps_ret (pe_and (pe_callB (call_isi) (by rfl) T.b_isinstance bo_isinstance (pa_cons (pv 3) (pa_cons (pe_ty (by rfl) T.b_str bo_str) pa_nil))) (pe_one (pe_cmpR op_in_seq (pv 3) (pe_lst (pa_cons pe_str (pa_cons pe_str (pa_cons pe_str pa_nil)))) (by rfl)))))))))), ?_⟩
  refine ⟨_, rfl, _, _, _, _, _, rfl, .ty "tuple", Dp.ty hd, isk hd (by decide), _, rfl, ?_⟩
  cases hd with
  | tup hs ha =>
    rename_i a xs ds
    refine iteF ⟨_, rfl, a, xs, rfl, .inr hs, rfl, _, rfl, ?_⟩
    have el := DpAll.len ha
    refine ite2 (fun c => ?_) (fun c => ?_)
    · have c3 : ¬ xs.length = 3 := fun z => by rw [z] at c; exact absurd c (by decide)
      have e : isSetup (.tuple ds) = false := by
        match ds, el with
        | [], _ => rfl
        | [_], _ => rfl
        | [_, _], _ => rfl
        | [_, _, _], h => exact absurd h c3
        | _ :: _ :: _ :: _ :: _, _ => rfl
      have := q H (Same.refl H)
      rw [e] at this
      exact iteT this
    · have c3 : xs.length = 3 := by
        have := of_decide_eq_true (by simpa using c : decide (V.int (xs.length : Nat) = V.int 3) = true)
        injection this with this
        omega
      obtain ⟨v1, v2, v3, d1, d2, d3, rfl, rfl, h1, h2, h3⟩ := dp3 ha c3
      have q' : ∀ H', Same H H' → Q (.bl (isSteps d1 && (isFrom 0 6 d2 && isRule d3))) H' := q
      refine ⟨_, rfl, a, _, 0, v1, rfl, rfl, hs, atI_nat (j := 0) rfl, _, _, _, _, _, rfl, .ty "tuple", Dp.ty h1, isk h1 (by decide), _, rfl, ?_⟩
      cases h1 with
      | tup hs1 ha1 =>
        rename_i a1 xs1 ds1
        have el1 := DpAll.len ha1
        refine iteF ⟨_, rfl, a, _, rfl, hs, rfl, _, _, rfl, _, _, rfl, _, _, rfl, rfl, ?_⟩
        refine ⟨_, rfl, a1, xs1, rfl, .inr hs1, _, _, rfl, rfl, _, rfl, ?_⟩
        have q2 : ∀ b, isSteps (.tuple ds1) = b → ∀ H', Same H H' → Q (.bl (b && (isFrom 0 6 d2 && isRule d3))) H' := fun b e => by rw [← e]; exact q'
        have bad : isSteps (.tuple ds1) = false → ∀ H', Same H H' → Q (.bl false) H' := fun e => q2 false e
        have notl : ¬ (1 ≤ ds1.length ∧ ds1.length ≤ 3) → isSteps (.tuple ds1) = false := fun h => by simp [isSteps, h]
        refine ite2 (fun c => ?_) (fun c => ?_)
        · have c1 : (1 : Int) ≤ (xs1.length : Nat) := of_decide_eq_true c
          refine ⟨_, _, rfl, rfl, _, rfl, ?_⟩
          refine ite2 (fun c2 => ?_) (fun c2 => ?_)
          · have c3 : ¬ ((xs1.length : Nat) : Int) ≤ 3 := by simpa using c2
            exact iteT (bad (notl (by omega)) H (Same.refl H))
          · have c3 : ((xs1.length : Nat) : Int) ≤ 3 := by simpa using c2
            have hl : decide (1 ≤ ds1.length ∧ ds1.length ≤ 3) = true := decide_eq_true (by omega)
            have q3 : ∀ b, ds1.all (isFrom 1 5) = b → ∀ H', Same H H' → Q (.bl (b && (isFrom 0 6 d2 && isRule d3))) H' := fun b e => q2 b (by show (decide (1 ≤ ds1.length ∧ ds1.length ≤ 3) && ds1.all (isFrom 1 5)) = b; rw [hl, e]; rfl)
            refine ⟨_, rfl, a1, rfl, ⟨_, hs1⟩, fun L nL => lc_tup (xs := xs1) (fun i H' => Same H H' ∧ ∃ k, H' L = some (.lst (List.replicate k (V.int 1))) ∧ k ≤ i ∧ (k = 0 ↔ (ds1.take i).all (isFrom 1 5) = true)) ⟨same_upd nL, 0, upd_same, Nat.le_refl _, by simp⟩ (fun i H' _ h' => Same.sqT h'.1 hs1) (fun i x H' hx h' => ?_) (fun H' h' => ?_)⟩
            · obtain ⟨s', k, eL, hk, hk2⟩ := h'
              obtain ⟨d, hd1, hd2⟩ := DpAll.at ha1 hx
              have hi : i < xs1.length := (List.getElem?_eq_some_iff.mp hx).1
              have next : ∀ b, isFrom 1 5 d = b → (b = true → (fun i H' => Same H H' ∧ ∃ k, H' L = some (.lst (List.replicate k (V.int 1))) ∧ k ≤ i ∧ (k = 0 ↔ (ds1.take i).all (isFrom 1 5) = true)) (i + 1) H') ∧
                  (b = false → ∃ acc, H' L = some (.lst acc) ∧ acc.length < sizeLine ∧ (fun i H' => Same H H' ∧ ∃ k, H' L = some (.lst (List.replicate k (V.int 1))) ∧ k ≤ i ∧ (k = 0 ↔ (ds1.take i).all (isFrom 1 5) = true)) (i + 1) (upd H' L (.lst (acc ++ [V.int 1])))) := fun b eb => by
                constructor
                · rintro rfl
                  refine ⟨s', k, eL, by omega, ?_⟩
                  rw [List.take_add_one, hd1]
                  simp [hk2, eb]
                · rintro rfl
                  refine ⟨_, eL, by rw [List.length_replicate]; exact small1000 (by omega), fun b o e => ?_, k + 1, ?_, by omega, ?_⟩
                  · rw [upd_ne (ne_of_none e nL)]
                    exact s' b o e
                  · rw [upd_same, List.replicate_succ']
                  · rw [List.take_add_one, hd1]
                    simp [eb]
              have ef := isFrom_eq 1 5 d
              refine ⟨rfl, _, rfl, x, d, rfl, Dp.same s' d x hd2, _, rfl, ?_⟩
              refine ite2 (fun c => ?_) (fun c => ?_)
              · have c' : isWhole d = false := by simpa using c
                rw [c'] at ef
                exact iteT ((next _ ef).2 rfl)
              · have c' : isWhole d = true := by simpa using c
                obtain ⟨z, rfl⟩ : ∃ z, d = .int z := by
                  unfold isWhole at c'
                  rw [Bool.and_eq_true, Bool.not_eq_true'] at c'
                  exact isT_int c'.1 c'.2
                cases hd2
                refine ⟨_, rfl, 1, z, rfl, rfl, _, rfl, ite2 (fun c4 => ?_) (fun c4 => ?_)⟩
                · have c5 : (1 : Int) ≤ z := of_decide_eq_true c4
                  refine ⟨z, 5, rfl, rfl, _, rfl, ite2 (fun c6 => ?_) (fun c6 => ?_)⟩
                  · have c7 : ¬ z ≤ 5 := by simpa using c6
                    exact (next _ (by simp [ef, c7])).2 rfl
                  · have c7 : z ≤ 5 := by simpa using c6
                    exact (next _ (by simp [ef, c', c5, c7])).1 rfl
                · have c5 : ¬ (1 : Int) ≤ z := by simpa using c4
                  exact ⟨_, rfl, iteT ((next _ (by simp [ef, c5])).2 rfl)⟩
            · obtain ⟨s', k, eL, hk, hk2⟩ := h'
              rw [el1, List.take_length] at hk2
              refine ⟨by decide, fun L2 nL2 => ?_⟩
              have eL' : (upd H' L2 (.lst [])) L = some (.lst (List.replicate k (V.int 1))) := by rw [upd_ne (ne_of_none eL nL2)]; exact eL
              have dr : ∀ k, DpAll K (upd H' L2 (.lst [])) (List.replicate k (V.int 1)) (List.replicate k (PyData.int 1)) := fun k => by
                induction k with
                | zero => exact .nil
                | succ k ih => exact .cons (.int 1) ih
              refine ⟨.list (List.replicate k (.int 1)), .list [], .lst (SqL.of eL') (dr k), .lst (SqL.of upd_same) .nil, shaped_ones k, rfl, _, rfl, ?_⟩
              have s2 : Same H (upd H' L2 (.lst [])) := Same.trans s' (same_upd nL2)
              rw [eqv_nil]
              by_cases k0 : k = 0
              · subst k0
                have q4 := q3 true (hk2.mp rfl)
                refine iteF ?_
                refine ⟨_, rfl, v2, d2, rfl, Dp.same s2 _ _ h2, _, rfl, ?_⟩
                have ef := isFrom_eq 0 6 d2
                have no : isFrom 0 6 d2 = false → Q (.bl false) (upd H' L2 (.lst [])) := fun e => by
                  have := q4 _ s2
                  rw [e] at this
                  exact this
                refine ite2 (fun c => ?_) (fun c => ?_)
                · have c' : isWhole d2 = false := by simpa using c
                  rw [c'] at ef
                  exact iteT (no ef)
                · have c' : isWhole d2 = true := by simpa using c
                  obtain ⟨z, rfl⟩ : ∃ z, d2 = .int z := by
                    unfold isWhole at c'
                    rw [Bool.and_eq_true, Bool.not_eq_true'] at c'
                    exact isT_int c'.1 c'.2
                  cases h2
                  refine ⟨_, rfl, 0, z, rfl, rfl, _, rfl, ite2 (fun c4 => ?_) (fun c4 => ?_)⟩
                  · have c5 : (0 : Int) ≤ z := of_decide_eq_true c4
                    refine ⟨z, 6, rfl, rfl, _, rfl, ite2 (fun c6 => ?_) (fun c6 => ?_)⟩
                    · have c7 : ¬ z ≤ 6 := by simpa using c6
                      exact no (by simp [ef, c7])
                    · have c7 : z ≤ 6 := by simpa using c6
                      have ok : isFrom 0 6 (.int z) = true := by simp [ef, c', c5, c7]
                      rw [ok] at q4
                      refine ⟨_, rfl, _, _, _, _, _, rfl, .ty "str", Dp.ty (Dp.same s2 _ _ h3), isk (Dp.same s2 _ _ h3) (by decide), _, rfl, ?_⟩
                      cases h3 with
                      | str x =>
                        refine iteT ⟨_, rfl, by decide, fun R nR => ⟨R, _, rfl, .inl (SqL.of upd_same), rfl, rfl, ?_⟩⟩
                        have e : isRule (.str x) = (if false then !inV (.str x) [.str "low", .str "put", .str "use"] else inV (.str x) [.str "low", .str "put", .str "use"]) := by
                          show (x == "low" || x == "put" || x == "use") = (("low" == x) || (("put" == x) || (("use" == x) || false)))
                          rw [Bool.or_false, Bool.or_assoc, BEq.comm (a := x) (b := "low"), BEq.comm (a := x) (b := "put"), BEq.comm (a := x) (b := "use")]
                        have q5 : ∀ H', Same H H' → Q (.bl (if false then !inV (.str x) [.str "low", .str "put", .str "use"] else inV (.str x) [.str "low", .str "put", .str "use"])) H' := fun H' s => by
                          have := q4 H' s
                          rw [e] at this
                          exact this
                        exact q5 _ (Same.trans s2 (same_upd nR))
                      | _ => exact iteF (q4 _ s2)
                  · have c5 : ¬ (0 : Int) ≤ z := by simpa using c4
                    exact ⟨_, rfl, iteT (no (by simp [ef, c5]))⟩
              · have hne : ¬ List.replicate k (PyData.int 1) = [] := fun z => k0 (by simpa using z)
                rw [decide_eq_false hne]
                have hall : ds1.all (isFrom 1 5) = false := by
                  cases h : ds1.all (isFrom 1 5) with
                  | true => exact absurd (hk2.mpr h) k0
                  | false => rfl
                exact iteT (q3 false hall _ s2)
        · have c1 : ¬ (1 : Int) ≤ (xs1.length : Nat) := by simpa using c
          exact ⟨_, rfl, iteT (iteT (bad (notl (by omega)) H (Same.refl H)))⟩
      | _ => exact iteT (q' H (Same.refl H))
  | _ => exact iteT (q H (Same.refl H))

/-! ### values with some part changed -/
def oddV (t1 t2 : Addr) : List V := [.int (-1), .int 0, .int 5, .int 6, .int 7, .non, .bl true, .str "use", .str "Put", .str "", .ref t1, .ref t2, .int 3, .str "w"]
def oddD : List PyData := [.int (-1), .int 0, .int 5, .int 6, .int 7, .none, .bool true, .str "use", .str "Put", .str "", .tuple [], .tuple [.int 0], .int 3, .str "w"]
theorem odd_dp {H : Hp} {t1 t2 : Addr} (e1 : SqT K H t1 []) (e2 : SqT K H t2 [.int 0]) : DpAll K H (oddV t1 t2) oddD :=
  .cons (.int _) (.cons (.int _) (.cons (.int _) (.cons (.int _) (.cons (.int _) (.cons .non (.cons (.bl _) (.cons (.str _) (.cons (.str _) (.cons (.str _) (.cons (.tup e1 .nil) (.cons (.tup e2 (.cons (.int _) .nil)) (.cons (.int _) (.cons (.str _) .nil)))))))))))))
theorem at_dp {H : Hp} {xs : List V} {ds : List PyData} {g : Int} (h : DpAll K H xs ds) (g0 : 0 ≤ g) (g1 : g < (xs.length : Nat)) : ∃ v d, atI xs g = some v ∧ ds[g.toNat]? = some d ∧ Dp K H v d := by
  have hj : g.toNat < xs.length := by omega
  obtain ⟨d, h1, h2⟩ := DpAll.at h (List.getElem?_eq_getElem hj)
  have e : g = ((g.toNat : Nat) : Int) := by omega
  refine ⟨xs[g.toNat], d, ?_, h1, h2⟩
  exact at_of e (List.getElem?_eq_getElem hj)
def sp_law_bent (K : PySem.W.Frag) (k : Nat) : Sp := fun vs H Q _ => ∃ (a : Addr) (v : V) (d : PyData) (deep : Int) (n : Nat), vs = [.ref a, v, .int deep] ∧ Deck H a n ∧ n + 5 * k ≤ 1000000 ∧ Dp K H v d ∧ plain d = true ∧ deepD d < k ∧
  ∀ v' d' H', Ev [a] H H' → Deck H' a (n + 5 * k) → Dp K H' v' d' → Q v' H'
theorem ok_bent_step (D : Def K mg "_law_bent" s_law_bent ["deck", "value", "deep"]) (T : Txt K mg) (C_law_pick : Cal P w K mg base CX0 1 "_law_pick" sp_law_pick) {k : Nat}
    (C_law_bent : Cal P w K mg base CX0 (k + 1) "_law_bent" (sp_law_bent K k)) : Cal P w K mg base CX0 (k + 2) "_law_bent" (sp_law_bent K (k + 1)) := by
  refine D.cal sc_law_bent (fun vs H Q E h => ?_) (fun f cdv A outer s H vs Q E hr h => ?_)
  · obtain ⟨a, v, d, deep, n, rfl, _⟩ := h
    rfl
  obtain ⟨a, v, d, deep, n, rfl, dk, hn, hd, hp, hk, q⟩ := h
  refine ⟨_, (pss_cons (ps_set (i := 3) sc_law_bent.nd rfl (Or.inl rfl) (pe_lst (pa_cons (pe_un un_neg pe_int) (pa_cons pe_int (pa_cons pe_int (pa_cons pe_int (pa_cons pe_int (pa_cons pe_non (pa_cons pe_bl (pa_cons pe_str (pa_cons pe_str (pa_cons pe_str (pa_cons (pe_tupS pa_nil) (pa_cons (pe_tupS (pa_cons pe_int pa_nil)) (pa_cons pe_int (pa_cons pe_str pa_nil))))))))))))))))
    (C8.pss_cut (ps_if (PW.pt (pw_or (pt_not (pt_val (pe_callB (call_isi) (by rfl) T.b_isinstance bo_isinstance (pa_cons (pv 1) (pa_cons (pe_ty (by rfl) T.b_tuple bo_tuple) pa_nil))))) (pw_or1 (PW.pt (pw_and (pt_cmpR op_eq (pe_c C_law_pick hr (by omega) (by rfl) (pa_cons (pv 0) (pa_cons pe_int pa_nil))) pe_int (nomark _)) (pw_and1 (pt_cmpR op_lt (pv 2) pe_int (nomark _)))))))) (pss_one (ps_ret (pe_ix ix_list (pv 3) (pe_c C_law_pick hr (by omega) (by rfl) (pa_cons (pv 0) (pa_cons (pe_callB (call_len_seq) (by rfl) T.b_len bo_len (pa_cons (pv 3) pa_nil)) pa_nil))) (fun _ _ => rfl)))) pss_nil)
    (pss_cons (ps_set (i := 4) sc_law_bent.nd rfl (Or.inl rfl) (pe_c C_law_pick hr (by omega) (by rfl) (pa_cons (pv 0) (pa_cons (pe_op op_add (pe_callB (call_len_seq) (by rfl) T.b_len bo_len (pa_cons (pv 1) pa_nil)) pe_int) pa_nil))))
    (pss_cons (ps_set (i := 5) sc_law_bent.nd rfl (Or.inl rfl) (pe_c C_law_pick hr (by omega) (by rfl) (pa_cons (pv 0) (pa_cons pe_int pa_nil))))
    (pss_cons (ps_if (pt_cmpR op_eq (pv 5) pe_int (nomark _)) (pss_one (ps_ret (pe_op op_catS (pe_slice sl_tupS (pv 1) po_none (po_some (pv 4))) (pe_slice sl_tupS (pv 1) (po_some (pe_op op_add (pv 4) pe_int)) po_none)))) pss_nil)
    (pss_cons (ps_if (pt_cmpR op_eq (pv 5) pe_int (nomark _)) (pss_one (ps_ret (pe_op op_catS (pe_op op_catS (pe_slice sl_tupS (pv 1) po_none (po_some (pv 4))) (pe_op op_rep2 (pe_slice sl_tupS (pv 1) (po_some (pv 4)) (po_some (pe_op op_add (pv 4) pe_int))) pe_int)) (pe_slice sl_tupS (pv 1) (po_some (pe_op op_add (pv 4) pe_int)) po_none)))) pss_nil)
    (C8.pss_cut (ps_if (PW.pt (pw_and (pt_cmpR op_eq (pv 5) pe_int (nomark _)) (pw_and1 (pt_cmpR op_lt (pv 2) pe_int (nomark _))))) (pss_one (ps_ret (pe_callTy (call_list_of) (by rfl) T.b_list bo_list (pa_cons (pv 1) pa_nil)))) pss_nil)
    (pss_cons (ps_if (pt_cmpR op_eq (pv 4) (pe_callB (call_len_seq) (by rfl) T.b_len bo_len (pa_cons (pv 1) pa_nil)) (nomark _)) (pss_one (ps_ret (pe_op op_catS (pv 1) (pe_tupS (pa_cons pe_int pa_nil))))) pss_nil)
    (pss_one (ps_ret (pe_op op_catS (pe_op op_catS (pe_slice sl_tupS (pv 1) po_none (po_some (pv 4))) (pe_tupS (pa_cons (pe_c C_law_bent hr (by omega) (by rfl) (pa_cons (pv 0) (pa_cons (pe_ix ix_tup (pv 1) (pv 4) (fun _ _ => rfl)) (pa_cons (pe_op op_sub (pv 2) pe_int) pa_nil)))) pa_nil))) (pe_slice sl_tupS (pv 1) (po_some (pe_op op_add (pv 4) pe_int)) po_none)))))))))))), ?_⟩
  refine ⟨1, rfl, by decide, fun t1 H1 s1 e1 => ⟨by decide, fun t2 H2 s2 e2 => ⟨(by show 14 ≤ sizeLine; decide), fun O nO => ?_⟩⟩⟩
  have dk2 : Deck H2 a n := (dk.same s1).same s2
  have naO : O ≠ a := fun z => by
    obtain ⟨o, e⟩ := dk2.there
    rw [← z, nO] at e
    cases e
  have s3 : Same H (upd H2 O (.lst (oddV t1 t2))) := Same.trans s1 (Same.trans s2 (same_upd nO))
  have dk3 := dk.same s3
  have od : DpAll K (upd H2 O (.lst (oddV t1 t2))) (oddV t1 t2) oddD := odd_dp (Same.sqT (same_upd nO) (Same.sqT s2 e1)) (Same.sqT (same_upd nO) e2)
  have hd3 := Dp.same s3 d v hd
  have ret : ∀ (H4 : Hp) (m : Nat) (g : Int), Ev [a] (upd H2 O (.lst (oddV t1 t2))) H4 → Deck H4 a m → m ≤ n + 5 * (k + 1) → 0 ≤ g → g < 14 → rIxL K (.ref O) (.int g) H4 Q := fun H4 m g ev4 d4 hm g0 g1 => by
    have eO : H4 O = some (.lst (oddV t1 t2)) := ev4.keep _ _ upd_same (by simpa using naO)
    obtain ⟨v', d', h1, h2, h3⟩ := at_dp (Dp.evAll ev4 oddD _ rfl od) g0 g1
    exact ⟨O, _, g, v', rfl, rfl, SqL.of eO, h1, q v' d' H4 (sThen s3 ev4 dk.muts) (d4.le hm) h3⟩
  refine ⟨fun σ H4 => ∃ t ds xs, d = .tuple ds ∧ v = .ref t ∧ σ = [some (.ref a), some (.ref t), some (.int deep), some (.ref O), none, none] ∧ Ev [a] H H4 ∧ Deck H4 a (n + 1) ∧ SqT K H4 t xs ∧ DpAll K H4 xs ds, ?_, ?_⟩
  · refine ⟨_, rfl, _, _, _, _, _, rfl, .ty "tuple", Dp.ty hd3, isk hd3 (by decide), _, rfl, ?_⟩
    refine ite2 (fun c => ?_) (fun c => ?_)
    · refine iteT ?_
      exact ⟨_, rfl, _, rfl, _, rfl, O, _, rfl, .inl (SqL.of upd_same), a, 14, n, rfl, dk3, by omega, by decide, by decide, fun g H4 g0 g1 ev4 d4 => ret H4 _ g ev4 d4 (by omega) g0 g1⟩
    · have c' : isT "tuple" d = true := by simpa using c
      obtain ⟨t, ds, xs, rfl, rfl, hs, ha⟩ : ∃ t ds xs, d = .tuple ds ∧ v = .ref t ∧ SqT K H t xs ∧ DpAll K H xs ds := by
        cases hd with
        | tup hs ha => exact ⟨_, _, _, rfl, rfl, hs, ha⟩
        | _ => exact absurd c' (by simp [isT, tyN])
      have hp2 : plainAll ds = true := by
        rw [plain, Bool.and_eq_true] at hp
        exact hp.2
      refine ⟨_, rfl, a, 3, n, rfl, dk3, by omega, by decide, by decide, fun g H4 g0 g1 ev4 d4 => ⟨rfl, _, rfl, ?_⟩⟩
      have mid : Ev [a] H H4 := sThen s3 ev4 dk.muts
      refine ite2 (fun c1 => ?_) (fun c1 => ?_)
      · refine ⟨_, rfl, deep, 2, rfl, rfl, _, rfl, ite2 (fun c2 => ?_) (fun c2 => ?_)⟩
        · have eO : H4 O = some (.lst (oddV t1 t2)) := ev4.keep _ _ upd_same (by simpa using naO)
          exact ⟨_, rfl, _, rfl, _, rfl, O, _, rfl, .inl (SqL.of eO), a, 14, n + 1, rfl, d4, by omega, by decide, by decide, fun g5 H5 g50 g51 ev5 d5 => ret H5 _ g5 (ev4.trans ev5) d5 (by omega) g50 g51⟩
        · exact ⟨t, ds, xs, rfl, rfl, rfl, mid, d4, mid.sqT hs, Dp.evAll mid ds _ hp2 ha⟩
      · exact iteF ⟨t, ds, xs, rfl, rfl, rfl, mid, d4, mid.sqT hs, Dp.evAll mid ds _ hp2 ha⟩
  · rintro σ H4 ⟨t, ds, xs, rfl, rfl, rfl, ev4, d4, hs4, ha4⟩
    have el := DpAll.len ha4
    have hp2 : plainAll ds = true ∧ ds.length ≤ 3 := by
      rw [plain, Bool.and_eq_true] at hp
      exact ⟨hp.2, of_decide_eq_true hp.1⟩
    have hl : xs.length ≤ 3 := by omega
    refine ⟨_, rfl, _, rfl, t, xs, rfl, .inr hs4, _, _, rfl, rfl, a, _, n + 1, rfl, d4, by omega, by omega, by omega, fun at' H5 a0 a1 ev5 d5 => ?_⟩
    refine ⟨_, rfl, a, 6, n + 2, rfl, d5, by omega, by decide, by decide, fun way H6 w0 w1 ev6 d6 => ?_⟩
    have ev' : Ev [a] H H6 := (ev4.trans ev5).trans ev6
    have ev46 : Ev [a] H4 H6 := ev5.trans ev6
    have hs6 := ev46.sqT hs4
    have ha6 := Dp.evAll ev46 ds _ hp2.1 ha4
    have d6' : Deck H6 a (n + 5 * (k + 1)) := d6.le (by omega)
    have cz : ∀ lo hi, (cutV xs lo hi).length ≤ 3 := fun lo hi => Nat.le_trans (cutV_length xs lo hi) hl
    have sz : ∀ m, m ≤ 100 → m ≤ sizeLine := fun m h => Nat.le_of_lt (small1000 (by omega))
    have fin : ∀ (H7 : Hp) (p : Addr) (ys : List V) (es : List PyData), Same H6 H7 → SqT K H7 p ys → DpAll K H7 ys es → Q (.ref p) H7 := fun H7 p ys es s7 e7 h7 => q _ _ H7 (ev'.then_same s7) (d6'.same s7) (.tup e7 h7)
    refine ⟨_, rfl, rfl, _, rfl, ite2 (fun c1 => ?_) (fun c1 => ?_)⟩
    · refine ⟨_, rfl, _, rfl, _, rfl, t, xs, rfl, hs6, fun p1 H7 s7 e7 => ?_⟩
      refine ⟨_, rfl, _, rfl, _, _, rfl, rfl, _, rfl, t, xs, rfl, Same.sqT s7 hs6, fun p2 H8 s8 e8 => ?_⟩
      refine ⟨p1, p2, _, _, rfl, rfl, Same.sqT s8 e7, e8, sz _ ?_, fun p3 H9 s9 e9 => ?_⟩
      · have := cz none (some at')
        have := cz (some (at' + 1)) none
        omega
      · have s69 := Same.trans s7 (Same.trans s8 s9)
        have h9 := Dp.sameAll s69 ds _ ha6
        obtain ⟨es1, h1⟩ := DpAll.cut h9 none (some at')
        obtain ⟨es2, h2⟩ := DpAll.cut h9 (some (at' + 1)) none
        exact fin H9 p3 _ _ s69 e9 (DpAll.app h1 h2)
    refine ⟨_, rfl, rfl, _, rfl, ite2 (fun c2 => ?_) (fun c2 => ?_)⟩
    · refine ⟨_, rfl, _, rfl, _, rfl, t, xs, rfl, hs6, fun p1 H7 s7 e7 => ?_⟩
      refine ⟨_, rfl, _, rfl, _, rfl, _, rfl, _, _, rfl, rfl, _, rfl, t, xs, rfl, Same.sqT s7 hs6, fun p2 H8 s8 e8 => ?_⟩
      refine ⟨p2, _, rfl, rfl, e8, by have := cz (some at') (some (at' + 1)); omega, fun p3 H9 s9 e9 => ?_⟩
      refine ⟨p1, p3, _, _, rfl, rfl, Same.sqT s9 (Same.sqT s8 e7), e9, sz _ ?_, fun p4 H10 s10 e10 => ?_⟩
      · have := cz none (some at')
        have := cz (some at') (some (at' + 1))
        rw [List.length_append]
        omega
      have s610 := Same.trans s7 (Same.trans s8 (Same.trans s9 s10))
      refine ⟨_, rfl, _, rfl, _, _, rfl, rfl, _, rfl, t, xs, rfl, Same.sqT s610 hs6, fun p5 H11 s11 e11 => ?_⟩
      refine ⟨p4, p5, _, _, rfl, rfl, Same.sqT s11 e10, e11, sz _ ?_, fun p6 H12 s12 e12 => ?_⟩
      · have := cz none (some at')
        have := cz (some at') (some (at' + 1))
        have := cz (some (at' + 1)) none
        rw [List.length_append, List.length_append]
        omega
      · have s612 := Same.trans s610 (Same.trans s11 s12)
        have h9 := Dp.sameAll s612 ds _ ha6
        obtain ⟨es1, h1⟩ := DpAll.cut h9 none (some at')
        obtain ⟨es2, h2⟩ := DpAll.cut h9 (some at') (some (at' + 1))
        obtain ⟨es3, h3⟩ := DpAll.cut h9 (some (at' + 1)) none
        exact fin H12 p6 _ _ s612 e12 (DpAll.app (DpAll.app h1 (DpAll.app h2 h2)) h3)
    refine ⟨fun σ H7 => σ = [some (.ref a), some (.ref t), some (.int deep), some (.ref O), some (.int at'), some (.int way)] ∧ H6 = H7, ?_, ?_⟩
    · refine ⟨_, rfl, rfl, _, rfl, ite2 (fun c3 => ?_) (fun c3 => ?_)⟩
      · refine ⟨_, rfl, deep, 2, rfl, rfl, _, rfl, ite2 (fun c4 => ?_) (fun c4 => ⟨rfl, rfl⟩)⟩
        exact ⟨_, rfl, t, xs, rfl, .inr hs6, fun l nl => q _ (.list ds) _ (ev'.then_same (same_upd nl)) (d6'.same (same_upd nl)) (.lst (SqL.of upd_same) (Dp.sameAll (same_upd nl) ds _ ha6))⟩
      · exact iteF ⟨rfl, rfl⟩
    rintro σ _ ⟨rfl, rfl⟩
    refine ⟨_, rfl, _, rfl, t, xs, rfl, .inr hs6, rfl, _, rfl, ite2 (fun c5 => ?_) (fun c5 => ?_)⟩
    · refine ⟨_, rfl, by decide, fun p1 H7 s7 e7 => ?_⟩
      refine ⟨t, p1, xs, _, rfl, rfl, Same.sqT s7 hs6, e7, sz _ (by show xs.length + 1 ≤ 100; omega), fun p2 H8 s8 e8 => ?_⟩
      have s68 := Same.trans s7 s8
      exact fin H8 p2 _ _ s68 e8 (DpAll.app (Dp.sameAll s68 ds _ ha6) (.cons (.int 0) .nil))
    · have c6 : ¬ at' = (xs.length : Nat) := fun z => c5 (by rw [z]; exact decide_eq_true rfl)
      obtain ⟨y, dy, y1, y2, y3⟩ := at_dp ha6 a0 (show at' < (xs.length : Nat) by omega)
      have hk2 : deepD dy < k := by
        have := deep_at y2
        rw [deepD] at hk
        omega
      refine ⟨_, rfl, _, rfl, _, rfl, t, xs, rfl, hs6, fun p1 H7 s7 e7 => ?_⟩
      refine ⟨_, rfl, _, rfl, _, rfl, t, xs, at', y, rfl, rfl, Same.sqT s7 hs6, y1, _, rfl, deep, 1, rfl, rfl, a, y, dy, deep - 1, n + 3, rfl, d6.same s7, by omega, Dp.same s7 _ _ y3, plain_at hp2.1 y2, hk2, fun v' d' H8 ev8 d8 h8 => ?_⟩
      refine ⟨(by show 1 ≤ sizeLine; decide), fun p2 H9 s9 e9 => ?_⟩
      refine ⟨p1, p2, _, _, rfl, rfl, Same.sqT s9 (ev8.sqT e7), e9, sz _ ?_, fun p3 H10 s10 e10 => ?_⟩
      · have := cz none (some at')
        show (cutV xs none (some at')).length + 1 ≤ 100
        omega
      have ev610 : Ev [a] H6 H10 := ((sThen s7 ev8 d6.muts).then_same s9).then_same s10
      refine ⟨_, rfl, _, rfl, _, _, rfl, rfl, _, rfl, t, xs, rfl, ev610.sqT hs6, fun p4 H11 s11 e11 => ?_⟩
      refine ⟨p3, p4, _, _, rfl, rfl, Same.sqT s11 e10, e11, sz _ ?_, fun p5 H12 s12 e12 => ?_⟩
      · have := cz none (some at')
        have := cz (some (at' + 1)) none
        rw [List.length_append]
        show (cutV xs none (some at')).length + 1 + (cutV xs (some (at' + 1)) none).length ≤ 100
        omega
      · have ev612 := (ev610.then_same s11).then_same s12
        have h9 := Dp.evAll ev612 ds _ hp2.1 ha6
        obtain ⟨es1, h1⟩ := DpAll.cut h9 none (some at')
        obtain ⟨es3, h3⟩ := DpAll.cut h9 (some (at' + 1)) none
        have s812 := Same.trans s9 (Same.trans s10 (Same.trans s11 s12))
        exact q _ _ H12 (ev'.trans ev612) ((Deck.same d8 s812).le (by omega)) (.tup e12 (DpAll.app (DpAll.app h1 (.cons (Dp.same s812 _ _ h8) .nil)) h3))
theorem none_left (D : Def K mg "_law_bent" s_law_bent ["deck", "value", "deep"]) : Cal P w K mg base CX0 1 "_law_bent" (sp_law_bent K 0) := by
  obtain ⟨f, fd, F, hm, b⟩ := D.ex
  have no : ∀ vs H Q E, ¬ sp_law_bent K 0 vs H Q E := fun vs H Q E h => by
    obtain ⟨_, _, _, _, _, _, _, _, _, _, h1, _⟩ := h
    omega
  exact ⟨f, fd, _, ⟨fun vs H Q E h => absurd h (no vs H Q E), fun A outer s H args us vs Q E _ _ _ _ h => absurd h (no vs H Q E)⟩, hm, F.kp, b⟩
theorem ok_law_bent (D : Def K mg "_law_bent" s_law_bent ["deck", "value", "deep"]) (T : Txt K mg) (C_law_pick : Cal P w K mg base CX0 1 "_law_pick" sp_law_pick) : ∀ k, Cal P w K mg base CX0 (k + 1) "_law_bent" (sp_law_bent K k)
  | 0 => none_left D
  | k + 1 => ok_bent_step D T C_law_pick (ok_law_bent D T C_law_pick k)
end
end Ag
namespace Ag
open PySem PySem.Spec PyProof.Rows L2
section
variable {P : Program} {w : World} {K : PySem.W.Frag} {mg : Str → Option Value} {base : Heap}
def setupD (ps : List Int) (s : Int) (kd : Str) : PyData := .tuple [.tuple (ps.map .int), .int s, .str kd]
theorem ints_dp {H : Hp} : ∀ ps : List Int, DpAll K H (ps.map V.int) (ps.map PyData.int)
  | [] => .nil
  | _ :: r => .cons (.int _) (ints_dp r)
theorem Drawn.dp {H : Hp} {p : Addr} {ps : List Int} {s : Int} {kd : Str} (d : Drawn K H p ps s kd) : Dp K H (.ref p) (setupD ps s kd) := by
  obtain ⟨q, h1, h2⟩ := d.ex
  exact .tup h1 (.cons (.tup h2 (ints_dp ps)) (.cons (.int _) (.cons (.str _) .nil)))
theorem Drawn.ev {H H' : Hp} {M : List Addr} {p : Addr} {ps : List Int} {s : Int} {kd : Str} (d : Drawn K H p ps s kd) (e : Ev M H H') : Drawn K H' p ps s kd := by
  obtain ⟨q, h1, h2⟩ := d.ex
  exact ⟨q, e.sqT h1, e.sqT h2⟩
theorem plain_ints : ∀ ps : List Int, plainAll (ps.map .int) = true
  | [] => rfl
  | _ :: r => by rw [List.map_cons, plainAll, plain_ints r]; rfl
theorem plain_setup {ps : List Int} {s : Int} {kd : Str} (h : ps.length ≤ 3) : plain (setupD ps s kd) = true := by
  show (decide (3 ≤ 3) && (((decide ((ps.map PyData.int).length ≤ 3) && plainAll (ps.map .int)) && (true && (true && true))))) = true
  rw [plain_ints, decide_eq_true (show (ps.map PyData.int).length ≤ 3 by simpa using h)]
  rfl
theorem deep_ints : ∀ ps : List Int, deepAll (ps.map .int) = 0
  | [] => rfl
  | _ :: r => by rw [List.map_cons, deepAll, deep_ints r]; rfl
theorem deep_setup {ps : List Int} {s : Int} {kd : Str} : deepD (setupD ps s kd) < 3 := by
  show max (deepAll (ps.map PyData.int) + 1) (max 0 (max 0 0)) + 1 < 3
  rw [deep_ints]
  decide
/-- what law(script) promises -/
def sp_law (K : PySem.W.Frag) : Sp := fun vs H Q _ => ∃ (a : Addr) (ns : List Int), vs = [.ref a] ∧ SqL K H a (ns.map V.int) ∧ ns.length ≤ 63 ∧ ∀ H', Q (.bl true) H'
theorem ok_law {fa : Addr} {fd : FuncData} (F : Fun K "law" "law" s_law fa fd) (T : Txt K mg) (C_law_deck : Cal P w K mg base CX0 1 "_law_deck" sp_law_deck) (C_law_drawn : Cal P w K mg base CX0 2 "_law_drawn" (sp_law_drawn K))
    (C_law_bent : Cal P w K mg base CX0 4 "_law_bent" (sp_law_bent K 3)) (C_law_bool : Cal P w K mg base CX0 1 "_law_bool" sp_law_bool) (C_law_right : Cal P w K mg base CX0 2 "_law_right" (sp_is_setup K))
    (C_is_setup : Cal P w K mg base CX0 4 "is_setup" (sp_is_setup K)) : FnOk P w K mg base CX0 5 fa fd ["script"] (sp_law K) := by
  refine F.ok sc_law (fun vs H Q E h => ?_) (fun cdv A outer s H vs Q E hr h => ?_)
  · obtain ⟨a, ns, rfl, _⟩ := h
    rfl
  obtain ⟨sc, ns, rfl, hS, hl, q⟩ := h
  refine ⟨_, (pss_cons (ps_for PassesOwn.never rfl (pi_list (pe_slice sl_list (pe_op op_catL (pe_lst (pa_cons pe_int pa_nil)) (pv 0)) po_none (po_some pe_int))) (pg_name (i := 1) sc_law.nd rfl (Or.inl rfl)) (pss_cons (ps_set (i := 2) sc_law.nd rfl (Or.inl rfl) (pe_c C_law_deck hr (by omega) (by rfl) (pa_cons (pv 1) (pa_cons pe_int pa_nil))))
    (pss_cons (ps_set (i := 3) sc_law.nd rfl (Or.inl rfl) (pe_c C_law_drawn hr (by omega) (by rfl) (pa_cons (pv 2) (pa_cons pe_int (pa_cons pe_int pa_nil)))))
    (pss_one (ps_for PassesOwn.never rfl (pi_range1 (by rfl) T.b_range (pa_cons pe_int pa_nil)) (pg_name (i := 4) sc_law.nd rfl (Or.inl rfl)) (C8.pss_cut (ps_set (i := 5) sc_law.nd rfl (Or.inl rfl) (pe_ifExp (pt_cmpR op_eq (pv 4) pe_int (nomark _)) (pv 3) (pe_c C_law_bent hr (by omega) (by rfl) (pa_cons (pv 2) (pa_cons (pv 3) (pa_cons pe_int pa_nil))))))
    (pss_one (ps_if (pt_not (pt_val (pe_c C_law_bool hr (by omega) (by rfl) (pa_cons (pe_c C_is_setup hr (by omega) (by rfl) (pa_cons (pv 5) pa_nil)) (pa_cons (pe_c C_law_right hr (by omega) (by rfl) (pa_cons (pv 5) pa_nil)) pa_nil))))) (pss_one (ps_ret pe_bl)) pss_nil))))))))
    (pss_cons (ps_if (PW.pt (pw_or (pt_cmpR op_isnot_bl (pe_c C_is_setup hr (by omega) (by rfl) (pa_cons (pe_tupS (pa_cons (pe_tupS (pa_cons pe_int (pa_cons pe_int (pa_cons pe_int pa_nil)))) (pa_cons pe_int (pa_cons pe_str pa_nil)))) pa_nil)) pe_bl (nomark _)) (pw_or1 (pt_cmpR op_isnot_bl (pe_c C_is_setup hr (by omega) (by rfl) (pa_cons (pe_tupS (pa_cons (pe_tupS (pa_cons pe_int (pa_cons pe_int (pa_cons pe_int (pa_cons pe_int pa_nil))))) (pa_cons pe_int (pa_cons pe_str pa_nil)))) pa_nil)) pe_bl (nomark _))))) (pss_one (ps_ret pe_bl)) pss_nil)
    (pss_one (ps_ret (pe_and (pe_cmpR op_is_bl (pe_c C_is_setup hr (by omega) (by rfl) (pa_cons (pe_tupS (pa_cons (pe_tupS pa_nil) (pa_cons pe_int (pa_cons pe_str pa_nil)))) pa_nil)) pe_bl (nomark _)) (pe_one (pe_cmpR op_is_bl (pe_c C_is_setup hr (by omega) (by rfl) (pa_cons (pe_tupS (pa_cons (pe_tupS (pa_cons pe_int pa_nil)) (pa_cons pe_int (pa_cons pe_str pa_nil)))) pa_nil)) pe_bl (nomark _)))))))), ?_⟩
  refine ⟨by decide, fun z0 nz0 => ⟨_, rfl, z0, sc, _, _, rfl, rfl, SqL.of upd_same, (Same.seq (same_upd nz0) hS), ?_, fun z1 nz1 => ?_⟩⟩
  · rw [List.length_map]
    exact Nat.le_of_lt (small1000 (by show 1 + ns.length ≤ 1000; omega))
  refine ⟨10, rfl, z1, _, rfl, SqL.of upd_same, fun L nL => ?_⟩
  obtain ⟨cs, ecs, _⟩ := cut_ints (0 :: ns) none (some 10)
  have eL0 : [V.int 0] ++ ns.map V.int = (0 :: ns).map V.int := rfl
  rw [eL0, ecs]
  refine ⟨L, rfl, ⟨_, SqL.of upd_same⟩, for_list (K := K) (a := L) (xs := cs.map V.int) (fun i σ H' => ∃ o1 o2 o3 o4 o5, σ = [some (.ref sc), o1, o2, o3, o4, o5] ∧ H' L = some (.lst (cs.map V.int))) ⟨none, none, none, none, none, rfl, upd_same⟩ (fun i σ H' _ h' => ?_) (fun i x σ H' hx h' => ?_) (fun σ H' h' => ?_)⟩
  · obtain ⟨o1, o2, o3, o4, o5, _, e⟩ := h'
    exact SqL.of e
  · obtain ⟨o1, o2, o3, o4, o5, rfl, eL⟩ := h'
    obtain ⟨c, rfl⟩ := at_ints hx
    refine ⟨_, rfl, c, 1, rfl, by decide, by decide, fun a H1 s1 na d1 => ?_⟩
    refine ⟨_, rfl, a, 5, 6, 100, rfl, d1, by decide, by decide, by decide, by decide, by decide, fun p ps sz kd H2 ev2 d2 dr ok => ?_⟩
    have s2 : Same H' H2 := fun b o e => ev2.keep b o (s1 b o e) (by simpa using ne_of_none e na)
    refine ⟨9, rfl, by decide, by decide, for_range (lo := 0) (n := 9) (fun j σ H3 => ∃ o4 o5, σ = [some (.ref sc), some (.int c), some (.ref a), some (.ref p), o4, o5] ∧ H3 L = some (.lst (cs.map V.int)) ∧ Deck H3 a (107 + 15 * j) ∧ Drawn K H3 p ps sz kd) ⟨o4, o5, rfl, s2 _ _ eL, d2, dr⟩ (fun j σ H3 hj h3 => ?_) (fun σ H3 h3 => ?_)⟩
    · obtain ⟨o4, o5, rfl, eL3, d3, dr3⟩ := h3
      refine ⟨fun σ H4 => ∃ v' d', σ = [some (.ref sc), some (.int c), some (.ref a), some (.ref p), some (.int (0 + (j : Int))), some v'] ∧ H4 L = some (.lst (cs.map V.int)) ∧ Deck H4 a (107 + 15 * (j + 1)) ∧ Drawn K H4 p ps sz kd ∧ Dp K H4 v' d', ?_, ?_⟩
      · refine ⟨_, rfl, rfl, _, rfl, ite2 (fun c1 => ?_) (fun c1 => ?_)⟩
        · exact ⟨_, rfl, _, _, rfl, eL3, d3.le (by omega), dr3, dr3.dp⟩
        · refine ⟨_, rfl, _, rfl, a, _, _, 2, _, rfl, d3, by omega, dr3.dp, plain_setup ok.l3, deep_setup, fun v' d' H4 ev4 d4 h4 => ?_⟩
          have nL : L ∉ [a] := by
            intro z
            have e : L = a := by simpa using z
            rw [e] at eL3
            obtain ⟨x, y, t, e2, _⟩ := d3.ex
            rw [← e] at na
            rw [na] at eL
            cases eL
          exact ⟨v', d', rfl, ev4.keep _ _ eL3 nL, d4.le (by omega), dr3.ev ev4, h4⟩
      · rintro σ H4 ⟨v', d', rfl, eL4, d4, dr4, h4⟩
        refine ⟨_, rfl, v', d', rfl, h4, fun H5 s5 => ⟨_, rfl, v', d', rfl, Dp.same s5 _ _ h4, fun H6 s6 => ⟨_, _, rfl, _, rfl, ?_⟩⟩⟩
        have s46 := Same.trans s5 s6
        refine iteNS rfl ?_
        exact ⟨_, _, rfl, s46 _ _ eL4, d4.same s46, dr4.ev (sEv0 s46)⟩
    · obtain ⟨o4, o5, rfl, eL3, _⟩ := h3
      exact ⟨_, _, _, _, _, rfl, eL3⟩
  · obtain ⟨o1, o2, o3, o4, o5, rfl, eL⟩ := h'
    have mk : ∀ (H1 H2 : Hp) (t1 t2 : Addr) (ps : List Int) (z : Int) (kd : Str), SqT K H1 t1 (ps.map V.int) → Same H1 H2 → SqT K H2 t2 [.ref t1, .int z, .str kd] → Dp K H2 (.ref t2) (setupD ps z kd) := fun H1 H2 t1 t2 ps z kd e1 s2 e2 =>
      .tup e2 (.cons (.tup (Same.sqT s2 e1) (ints_dp ps)) (.cons (.int _) (.cons (.str _) .nil)))
    refine ⟨by decide, fun t1 H1 s1 e1 => ⟨le3, fun t2 H2 s2 e2 => ⟨_, setupD [1, 5, 5] 6 "low", rfl, mk _ _ _ _ [1, 5, 5] 6 "low" e1 s2 e2, fun H3 s3 => ⟨true, true, rfl, rfl, _, rfl, iteF ?_⟩⟩⟩⟩
    refine ⟨by decide, fun t3 H4 s4 e4 => ⟨le3, fun t4 H5 s5 e5 => ⟨_, setupD [1, 2, 3, 4] 6 "low", rfl, mk _ _ _ _ [1, 2, 3, 4] 6 "low" e4 s5 e5, fun H6 s6 => ⟨false, false, rfl, rfl, _, rfl, iteF ?_⟩⟩⟩⟩
    refine ⟨by decide, fun t5 H7 s7 e7 => ⟨le3, fun t6 H8 s8 e8 => ⟨_, setupD [] 1 "put", rfl, mk _ _ _ _ [] 1 "put" e7 s8 e8, fun H9 s9 => ⟨false, false, rfl, rfl, _, rfl, iteT ?_⟩⟩⟩⟩
    exact ⟨by decide, fun t7 H10 s10 e10 => ⟨le3, fun t8 H11 s11 e11 => ⟨_, setupD [6] 1 "put", rfl, mk _ _ _ _ [6] 1 "put" e10 s11 e11, fun H12 s12 => ⟨false, false, rfl, rfl, q _⟩⟩⟩⟩
end
end Ag
namespace Ag
open PySem PySem.Spec PyProof.Rows L2
/-! ### what the top has written -/
theorem all_mk {l : PySem.W.OpenLaw} {w : World} {K : PySem.W.Frag} {h : Heap} {mg : Str → Option Value} {fa : Addr} (X : K.In h) (G : h.Ns mainGlobals mg) (hfa : mg "law" = some (.ref fa))
    {f0 : Addr} {od0 an0 : Option Addr} {sl0 : Array (Option Value)} {oc0 kV0 dc0 pm0 cd0 ct0 : Value}
    {f1 : Addr} {od1 an1 : Option Addr} {sl1 : Array (Option Value)} {oc1 kV1 dc1 pm1 cd1 ct1 : Value}
    {f2 : Addr} {od2 an2 : Option Addr} {sl2 : Array (Option Value)} {oc2 kV2 dc2 pm2 cd2 ct2 : Value}
    {f3 : Addr} {od3 an3 : Option Addr} {sl3 : Array (Option Value)} {oc3 kV3 dc3 pm3 cd3 ct3 : Value}
    {f4 : Addr} {od4 an4 : Option Addr} {sl4 : Array (Option Value)} {oc4 kV4 dc4 pm4 cd4 ct4 : Value}
    {f5 : Addr} {od5 an5 : Option Addr} {sl5 : Array (Option Value)} {oc5 kV5 dc5 pm5 cd5 ct5 : Value}
    {f6 : Addr} {od6 an6 : Option Addr} {sl6 : Array (Option Value)} {oc6 kV6 dc6 pm6 cd6 ct6 : Value}
    {f7 : Addr} {od7 an7 : Option Addr} {sl7 : Array (Option Value)} {oc7 kV7 dc7 pm7 cd7 ct7 : Value}
    {f8 : Addr} {od8 an8 : Option Addr} {sl8 : Array (Option Value)} {oc8 kV8 dc8 pm8 cd8 ct8 : Value}
    {f9 : Addr} {od9 an9 : Option Addr} {sl9 : Array (Option Value)} {oc9 kV9 dc9 pm9 cd9 ct9 : Value}
    {f10 : Addr} {od10 an10 : Option Addr} {sl10 : Array (Option Value)} {oc10 kV10 dc10 pm10 cd10 ct10 : Value}
    {f11 : Addr} {od11 an11 : Option Addr} {sl11 : Array (Option Value)} {oc11 kV11 dc11 pm11 cd11 ct11 : Value}
    {f12 : Addr} {od12 an12 : Option Addr} {sl12 : Array (Option Value)} {oc12 kV12 dc12 pm12 cd12 ct12 : Value}
    {t_MOST_STEPS : Tok}
    {t_MOST_STEP : Tok}
    {t_MOST_SIZE : Tok}
    {a_RULES : Addr} {j_RULES : Nat} {od_RULES : Option Addr} {sl_RULES : Array (Option Value)} {t_RULES0 t_RULES1 t_RULES2 : Tok}
    (a0 : PySem.W.nsIn K mainGlobals "is_from" = some (some (.ref f0))) (l0 : K.lookup f0 = some ⟨oc0, od0, .func (PySem.W.fnOf "is_from" "is_from" (defArgs s_is_from) (defBody s_is_from) (defScope s_is_from) .none kV0 dc0 pm0 an0 cd0 ct0), sl0⟩) (c0 : PySem.W.codeIn K cd0 "is_from" = true) (k0 : PySem.W.keepIn K (.ref f0) = true)
    (a1 : PySem.W.nsIn K mainGlobals "are_steps" = some (some (.ref f1))) (l1 : K.lookup f1 = some ⟨oc1, od1, .func (PySem.W.fnOf "are_steps" "are_steps" (defArgs s_are_steps) (defBody s_are_steps) (defScope s_are_steps) .none kV1 dc1 pm1 an1 cd1 ct1), sl1⟩) (c1 : PySem.W.codeIn K cd1 "are_steps" = true) (k1 : PySem.W.keepIn K (.ref f1) = true)
    (a2 : PySem.W.nsIn K mainGlobals "is_rule" = some (some (.ref f2))) (l2 : K.lookup f2 = some ⟨oc2, od2, .func (PySem.W.fnOf "is_rule" "is_rule" (defArgs s_is_rule) (defBody s_is_rule) (defScope s_is_rule) .none kV2 dc2 pm2 an2 cd2 ct2), sl2⟩) (c2 : PySem.W.codeIn K cd2 "is_rule" = true) (k2 : PySem.W.keepIn K (.ref f2) = true)
    (a3 : PySem.W.nsIn K mainGlobals "is_setup_of" = some (some (.ref f3))) (l3 : K.lookup f3 = some ⟨oc3, od3, .func (PySem.W.fnOf "is_setup_of" "is_setup_of" (defArgs s_is_setup_of) (defBody s_is_setup_of) (defScope s_is_setup_of) .none kV3 dc3 pm3 an3 cd3 ct3), sl3⟩) (c3 : PySem.W.codeIn K cd3 "is_setup_of" = true) (k3 : PySem.W.keepIn K (.ref f3) = true)
    (a4 : PySem.W.nsIn K mainGlobals "is_setup" = some (some (.ref f4))) (l4 : K.lookup f4 = some ⟨oc4, od4, .func (PySem.W.fnOf "is_setup" "is_setup" (defArgs s_is_setup) (defBody s_is_setup) (defScope s_is_setup) .none kV4 dc4 pm4 an4 cd4 ct4), sl4⟩) (c4 : PySem.W.codeIn K cd4 "is_setup" = true) (k4 : PySem.W.keepIn K (.ref f4) = true)
    (a5 : PySem.W.nsIn K mainGlobals "_law_deck" = some (some (.ref f5))) (l5 : K.lookup f5 = some ⟨oc5, od5, .func (PySem.W.fnOf "_law_deck" "_law_deck" (defArgs s_law_deck) (defBody s_law_deck) (defScope s_law_deck) .none kV5 dc5 pm5 an5 cd5 ct5), sl5⟩) (c5 : PySem.W.codeIn K cd5 "_law_deck" = true) (k5 : PySem.W.keepIn K (.ref f5) = true)
    (a6 : PySem.W.nsIn K mainGlobals "_law_pick" = some (some (.ref f6))) (l6 : K.lookup f6 = some ⟨oc6, od6, .func (PySem.W.fnOf "_law_pick" "_law_pick" (defArgs s_law_pick) (defBody s_law_pick) (defScope s_law_pick) .none kV6 dc6 pm6 an6 cd6 ct6), sl6⟩) (c6 : PySem.W.codeIn K cd6 "_law_pick" = true) (k6 : PySem.W.keepIn K (.ref f6) = true)
    (a7 : PySem.W.nsIn K mainGlobals "_law_bool" = some (some (.ref f7))) (l7 : K.lookup f7 = some ⟨oc7, od7, .func (PySem.W.fnOf "_law_bool" "_law_bool" (defArgs s_law_bool) (defBody s_law_bool) (defScope s_law_bool) .none kV7 dc7 pm7 an7 cd7 ct7), sl7⟩) (c7 : PySem.W.codeIn K cd7 "_law_bool" = true) (k7 : PySem.W.keepIn K (.ref f7) = true)
    (a8 : PySem.W.nsIn K mainGlobals "_law_whole" = some (some (.ref f8))) (l8 : K.lookup f8 = some ⟨oc8, od8, .func (PySem.W.fnOf "_law_whole" "_law_whole" (defArgs s_law_whole) (defBody s_law_whole) (defScope s_law_whole) .none kV8 dc8 pm8 an8 cd8 ct8), sl8⟩) (c8 : PySem.W.codeIn K cd8 "_law_whole" = true) (k8 : PySem.W.keepIn K (.ref f8) = true)
    (a9 : PySem.W.nsIn K mainGlobals "_law_drawn" = some (some (.ref f9))) (l9 : K.lookup f9 = some ⟨oc9, od9, .func (PySem.W.fnOf "_law_drawn" "_law_drawn" (defArgs s_law_drawn) (defBody s_law_drawn) (defScope s_law_drawn) .none kV9 dc9 pm9 an9 cd9 ct9), sl9⟩) (c9 : PySem.W.codeIn K cd9 "_law_drawn" = true) (k9 : PySem.W.keepIn K (.ref f9) = true)
    (a10 : PySem.W.nsIn K mainGlobals "_law_right" = some (some (.ref f10))) (l10 : K.lookup f10 = some ⟨oc10, od10, .func (PySem.W.fnOf "_law_right" "_law_right" (defArgs s_law_right) (defBody s_law_right) (defScope s_law_right) .none kV10 dc10 pm10 an10 cd10 ct10), sl10⟩) (c10 : PySem.W.codeIn K cd10 "_law_right" = true) (k10 : PySem.W.keepIn K (.ref f10) = true)
    (a11 : PySem.W.nsIn K mainGlobals "_law_bent" = some (some (.ref f11))) (l11 : K.lookup f11 = some ⟨oc11, od11, .func (PySem.W.fnOf "_law_bent" "_law_bent" (defArgs s_law_bent) (defBody s_law_bent) (defScope s_law_bent) .none kV11 dc11 pm11 an11 cd11 ct11), sl11⟩) (c11 : PySem.W.codeIn K cd11 "_law_bent" = true) (k11 : PySem.W.keepIn K (.ref f11) = true)
    (a12 : PySem.W.nsIn K mainGlobals "law" = some (some (.ref f12))) (l12 : K.lookup f12 = some ⟨oc12, od12, .func (PySem.W.fnOf "law" "law" (defArgs s_law) (defBody s_law) (defScope s_law) .none kV12 dc12 pm12 an12 cd12 ct12), sl12⟩) (c12 : PySem.W.codeIn K cd12 "law" = true) (k12 : PySem.W.keepIn K (.ref f12) = true)
    (z_all : PySem.W.nsIn K mainGlobals "all" = some none)
    (z_bool : PySem.W.nsIn K mainGlobals "bool" = some none)
    (z_int : PySem.W.nsIn K mainGlobals "int" = some none)
    (z_isinstance : PySem.W.nsIn K mainGlobals "isinstance" = some none)
    (z_len : PySem.W.nsIn K mainGlobals "len" = some none)
    (z_list : PySem.W.nsIn K mainGlobals "list" = some none)
    (z_range : PySem.W.nsIn K mainGlobals "range" = some none)
    (z_str : PySem.W.nsIn K mainGlobals "str" = some none)
    (z_tuple : PySem.W.nsIn K mainGlobals "tuple" = some none)
    (n_MOST_STEPS : PySem.W.nsIn K mainGlobals "MOST_STEPS" = some (some (.int (3) t_MOST_STEPS)))
    (n_MOST_STEP : PySem.W.nsIn K mainGlobals "MOST_STEP" = some (some (.int (5) t_MOST_STEP)))
    (n_MOST_SIZE : PySem.W.nsIn K mainGlobals "MOST_SIZE" = some (some (.int (6) t_MOST_SIZE)))
    (n_RULES : PySem.W.nsIn K mainGlobals "RULES" = some (some (.ref a_RULES))) (m_RULES : K.lookup a_RULES = some ⟨.type "tuple", od_RULES, .seq #[.str "low" t_RULES0, .str "put" t_RULES1, .str "use" t_RULES2] j_RULES, sl_RULES⟩)
    : ∃ fd : FuncData, (∀ (s : Shared) (v : Value), BindsTo s fd ⟨[v], []⟩ [("script", v)]) ∧ ∀ base : Heap, K.In base → base.Ns mainGlobals mg → FnOk l.prog w K mg base CX0 5 fa fd ["script"] (sp_law K) := by
  have e := hfa.symm.trans (PySem.W.mg_of X G a12)
  cases e
  have T : Txt K mg := { b_all := PySem.W.mg_none_of X G z_all, b_bool := PySem.W.mg_none_of X G z_bool, b_int := PySem.W.mg_none_of X G z_int, b_isinstance := PySem.W.mg_none_of X G z_isinstance, b_len := PySem.W.mg_none_of X G z_len, b_list := PySem.W.mg_none_of X G z_list, b_range := PySem.W.mg_none_of X G z_range, b_str := PySem.W.mg_none_of X G z_str, b_tuple := PySem.W.mg_none_of X G z_tuple, c_MOST_STEPS := ⟨_, PySem.W.mg_of X G n_MOST_STEPS, ⟨_, rfl⟩⟩, c_MOST_STEP := ⟨_, PySem.W.mg_of X G n_MOST_STEP, ⟨_, rfl⟩⟩, c_MOST_SIZE := ⟨_, PySem.W.mg_of X G n_MOST_SIZE, ⟨_, rfl⟩⟩, c_RULES := ⟨_, PySem.W.mg_of X G n_RULES, fun H => .inr ⟨_, _, _, m_RULES, rfl, rfl, by show 3 ≤ sizeLine; decide, (.cons ⟨_, rfl⟩ (.cons ⟨_, rfl⟩ (.cons ⟨_, rfl⟩ .nil)))⟩⟩ }
  have F0 := fun_mk (st := s_is_from) l0 c0 k0
  have D_is_from : Def K mg "is_from" s_is_from ["value", "low", "high"] := ⟨f0, _, F0, PySem.W.mg_of X G a0, F0.binds (ps := ["value", "low", "high"]) fun _ _ _ _ _ _ us hl => match us, hl with | [_, _, _], _ => rfl⟩
  have F1 := fun_mk (st := s_are_steps) l1 c1 k1
  have D_are_steps : Def K mg "are_steps" s_are_steps ["value"] := ⟨f1, _, F1, PySem.W.mg_of X G a1, F1.binds (ps := ["value"]) fun _ _ _ _ _ _ us hl => match us, hl with | [_], _ => rfl⟩
  have F2 := fun_mk (st := s_is_rule) l2 c2 k2
  have D_is_rule : Def K mg "is_rule" s_is_rule ["value"] := ⟨f2, _, F2, PySem.W.mg_of X G a2, F2.binds (ps := ["value"]) fun _ _ _ _ _ _ us hl => match us, hl with | [_], _ => rfl⟩
  have F3 := fun_mk (st := s_is_setup_of) l3 c3 k3
  have D_is_setup_of : Def K mg "is_setup_of" s_is_setup_of ["value"] := ⟨f3, _, F3, PySem.W.mg_of X G a3, F3.binds (ps := ["value"]) fun _ _ _ _ _ _ us hl => match us, hl with | [_], _ => rfl⟩
  have F4 := fun_mk (st := s_is_setup) l4 c4 k4
  have D_is_setup : Def K mg "is_setup" s_is_setup ["value"] := ⟨f4, _, F4, PySem.W.mg_of X G a4, F4.binds (ps := ["value"]) fun _ _ _ _ _ _ us hl => match us, hl with | [_], _ => rfl⟩
  have F5 := fun_mk (st := s_law_deck) l5 c5 k5
  have D_law_deck : Def K mg "_law_deck" s_law_deck ["cell", "turn"] := ⟨f5, _, F5, PySem.W.mg_of X G a5, F5.binds (ps := ["cell", "turn"]) fun _ _ _ _ _ _ us hl => match us, hl with | [_, _], _ => rfl⟩
  have F6 := fun_mk (st := s_law_pick) l6 c6 k6
  have D_law_pick : Def K mg "_law_pick" s_law_pick ["deck", "limit"] := ⟨f6, _, F6, PySem.W.mg_of X G a6, F6.binds (ps := ["deck", "limit"]) fun _ _ _ _ _ _ us hl => match us, hl with | [_, _], _ => rfl⟩
  have F7 := fun_mk (st := s_law_bool) l7 c7 k7
  have D_law_bool : Def K mg "_law_bool" s_law_bool ["got", "due"] := ⟨f7, _, F7, PySem.W.mg_of X G a7, F7.binds (ps := ["got", "due"]) fun _ _ _ _ _ _ us hl => match us, hl with | [_, _], _ => rfl⟩
  have F8 := fun_mk (st := s_law_whole) l8 c8 k8
  have D_law_whole : Def K mg "_law_whole" s_law_whole ["thing"] := ⟨f8, _, F8, PySem.W.mg_of X G a8, F8.binds (ps := ["thing"]) fun _ _ _ _ _ _ us hl => match us, hl with | [_], _ => rfl⟩
  have F9 := fun_mk (st := s_law_drawn) l9 c9 k9
  have D_law_drawn : Def K mg "_law_drawn" s_law_drawn ["deck", "most", "high"] := ⟨f9, _, F9, PySem.W.mg_of X G a9, F9.binds (ps := ["deck", "most", "high"]) fun _ _ _ _ _ _ us hl => match us, hl with | [_, _, _], _ => rfl⟩
  have F10 := fun_mk (st := s_law_right) l10 c10 k10
  have D_law_right : Def K mg "_law_right" s_law_right ["value"] := ⟨f10, _, F10, PySem.W.mg_of X G a10, F10.binds (ps := ["value"]) fun _ _ _ _ _ _ us hl => match us, hl with | [_], _ => rfl⟩
  have F11 := fun_mk (st := s_law_bent) l11 c11 k11
  have D_law_bent : Def K mg "_law_bent" s_law_bent ["deck", "value", "deep"] := ⟨f11, _, F11, PySem.W.mg_of X G a11, F11.binds (ps := ["deck", "value", "deep"]) fun _ _ _ _ _ _ us hl => match us, hl with | [_, _, _], _ => rfl⟩
  have F12 := fun_mk (st := s_law) l12 c12 k12
  refine ⟨PySem.W.fnOf "law" "law" (defArgs s_law) (defBody s_law) (defScope s_law) .none kV12 dc12 pm12 an12 cd12 ct12, fun s v => .of_eq rfl, fun base _ _ => ?_⟩
  have C1 := ok_is_from (P := l.prog) (w := w) (base := base) D_is_from T
  have C2 := ok_is_rule (P := l.prog) (w := w) (base := base) D_is_rule T
  have C3 := ok_are_steps (P := l.prog) (w := w) (base := base) D_are_steps T C1
  have C4 := ok_is_setup_of (P := l.prog) (w := w) (base := base) D_is_setup_of T C1 C2 C3
  have C5 := ok_is_setup (P := l.prog) (w := w) (base := base) D_is_setup C4
  have C6 := ok_law_deck (P := l.prog) (w := w) (base := base) D_law_deck T
  have C7 := ok_law_pick (P := l.prog) (w := w) (base := base) D_law_pick T
  have C8 := ok_law_drawn (P := l.prog) (w := w) (base := base) D_law_drawn T C7
  have C9 := ok_law_bool (P := l.prog) (w := w) (base := base) D_law_bool T
  have C10 := ok_law_whole (P := l.prog) (w := w) (base := base) D_law_whole T
  have C11 := ok_law_right (P := l.prog) (w := w) (base := base) D_law_right T C10
  have C12 := ok_law_bent (P := l.prog) (w := w) (base := base) D_law_bent T C7 3
  exact ok_law F12 T C6 C8 C12 C9 C11 C5
end Ag
open PySem PySem.W PyProof.Rows
set_option maxHeartbeats 0 in
theorem PySem.Challenge.cw_askagain_k01_setups_recognized_holds : PySem.Challenge.rw_askagain_k01_setups_recognized.Holds := by
  w_on; o_law; k_head; (case hw => w_witness2)
  k_fill
  refine L2.walk_of (l := PySem.Challenge.rw_askagain_k01_setups_recognized) (n := 63) (k := 5) (x := "script") (CX := fun _ => L2.CX0) (sp := fun w => Ag.sp_law _) rfl (by decide) rfl ⟨rfl, by decide, by decide⟩ (fun w h Y => PySem.W.kIn_of Y) ?F (fun _ _ a ns hl _ hS => ⟨a, ns, rfl, hS, hl, fun _ => rfl⟩) (fun _ _ _ _ _ h => h)
  case F =>
    intro w mg fa h KX G hmg
    refine' Ag.all_mk KX G hmg ?a0 ?l0 ?c0 ?k0 ?a1 ?l1 ?c1 ?k1 ?a2 ?l2 ?c2 ?k2 ?a3 ?l3 ?c3 ?k3 ?a4 ?l4 ?c4 ?k4 ?a5 ?l5 ?c5 ?k5 ?a6 ?l6 ?c6 ?k6 ?a7 ?l7 ?c7 ?k7 ?a8 ?l8 ?c8 ?k8 ?a9 ?l9 ?c9 ?k9 ?a10 ?l10 ?c10 ?k10 ?a11 ?l11 ?c11 ?k11 ?a12 ?l12 ?c12 ?k12 ?z_all ?z_bool ?z_int ?z_isinstance ?z_len ?z_list ?z_range ?z_str ?z_tuple ?n_MOST_STEPS ?n_MOST_STEP ?n_MOST_SIZE ?n_RULES ?m_RULES
    (case a0 => k_is)
    (case l0 => k_is)
    (case c0 => k_is)
    (case k0 => k_is)
    (case a1 => k_is)
    (case l1 => k_is)
    (case c1 => k_is)
    (case k1 => k_is)
    (case a2 => k_is)
    (case l2 => k_is)
    (case c2 => k_is)
    (case k2 => k_is)
    (case a3 => k_is)
    (case l3 => k_is)
    (case c3 => k_is)
    (case k3 => k_is)
    (case a4 => k_is)
    (case l4 => k_is)
    (case c4 => k_is)
    (case k4 => k_is)
    (case a5 => k_is)
    (case l5 => k_is)
    (case c5 => k_is)
    (case k5 => k_is)
    (case a6 => k_is)
    (case l6 => k_is)
    (case c6 => k_is)
    (case k6 => k_is)
    (case a7 => k_is)
    (case l7 => k_is)
    (case c7 => k_is)
    (case k7 => k_is)
    (case a8 => k_is)
    (case l8 => k_is)
    (case c8 => k_is)
    (case k8 => k_is)
    (case a9 => k_is)
    (case l9 => k_is)
    (case c9 => k_is)
    (case k9 => k_is)
    (case a10 => k_is)
    (case l10 => k_is)
    (case c10 => k_is)
    (case k10 => k_is)
    (case a11 => k_is)
    (case l11 => k_is)
    (case c11 => k_is)
    (case k11 => k_is)
    (case a12 => k_is)
    (case l12 => k_is)
    (case c12 => k_is)
    (case k12 => k_is)
    (case z_all => k_is)
    (case z_bool => k_is)
    (case z_int => k_is)
    (case z_isinstance => k_is)
    (case z_len => k_is)
    (case z_list => k_is)
    (case z_range => k_is)
    (case z_str => k_is)
    (case z_tuple => k_is)
    (case n_MOST_STEPS => k_is)
    (case n_MOST_STEP => k_is)
    (case n_MOST_SIZE => k_is)
    (case n_RULES => k_is)
    (case m_RULES => k_is)
