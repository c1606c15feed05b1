import PyProof.Rows.All
import Wide.All
import OpenK.AllK
import Wide.FinOn
import HandS.ForMost
import HandS.SetFor
import HandS.TupAny
import HandS.TupMul
import HandS.TupLe
import HandS.IsInst
import HandS.Zip
import HandS.Rev
import HandS.Codes
import PyProof.ListMulRoad
import PyProof.FactsAll.tuple_2
import KE.KeyNested
import KE.KDictDisplayH
import PyProof.Draws
import PyProof.EnumMake
import PySem.Challenge.RW_askagain_k04_what_is_run_how_often
set_option Elab.async false
set_option linter.all false
set_option maxRecDepth 100000
set_option maxHeartbeats 4000000
namespace Ag
open PySem PySem.Spec PyProof.Rows L2

/-! ### names of the built-ins -/
theorem bo_len : bootBuiltins "len" = some (.builtin "len") := by decide +kernel
theorem bo_isinstance : bootBuiltins "isinstance" = some (.builtin "isinstance") := by decide +kernel
theorem bo_max : bootBuiltins "max" = some (.builtin "max") := by decide +kernel
theorem bo_min : bootBuiltins "min" = some (.builtin "min") := by decide +kernel
theorem bo_sum : bootBuiltins "sum" = some (.builtin "sum") := by decide +kernel
theorem bo_all : bootBuiltins "all" = some (.builtin "all") := by decide +kernel
theorem bo_any : bootBuiltins "any" = some (.builtin "any") := by decide +kernel
theorem bo_sorted : bootBuiltins "sorted" = some (.builtin "sorted") := by decide +kernel
theorem bo_abs : bootBuiltins "abs" = some (.builtin "abs") := by decide +kernel
theorem bo_int : bootBuiltins "int" = some (.type "int") := by decide +kernel
theorem bo_bool : bootBuiltins "bool" = some (.type "bool") := by decide +kernel
theorem bo_str : bootBuiltins "str" = some (.type "str") := by decide +kernel
theorem bo_list : bootBuiltins "list" = some (.type "list") := by decide +kernel
theorem bo_tuple : bootBuiltins "tuple" = some (.type "tuple") := by decide +kernel
theorem bo_dict : bootBuiltins "dict" = some (.type "dict") := by decide +kernel
theorem bo_set : bootBuiltins "set" = some (.type "set") := by decide +kernel
theorem bo_range : bootBuiltins "range" = some (.type "range") := by decide +kernel
theorem bo_ValueError : bootBuiltins "ValueError" = some (.type "ValueError") := by decide +kernel

/-! ### defs and methods that may be called -/
/-- a def of the module, as it stands behind the top, with no defaults -/
structure Def (K : PySem.W.Frag) (mg : Str → Option Value) (x : Str) (st : Stmt) (ps : List Str) : Prop where
  ex : ∃ (f : Addr) (fd : FuncData), Fun K x x st f fd ∧ mg x = some (.ref f) ∧ Binds K fd ps []
/-- what a caller of a def needs: its promise, at some level -/
structure Cal (P : Program) (w : World) (K : PySem.W.Frag) (mg : Str → Option Value) (base : Heap) (cx : CXT) (k : Nat) (x : Str) (sp : Sp) : Prop where
  ex : ∃ (f : Addr) (fd : FuncData) (ps : List Str), FnOk P w K mg base cx k f fd ps sp ∧ mg x = some (.ref f) ∧ PySem.W.keepIn K (.ref f) = true ∧ Binds K fd ps []
/-- a method of the class at C -/
structure DefM (K : PySem.W.Frag) (C : Addr) (m qual : Str) (st : Stmt) (ps : List Str) : Prop where
  ex : ∃ (f : Addr) (fd : FuncData), Cls K C ∧ Meth K C m f ∧ Fun K m qual st f fd ∧ Binds K fd ps []
structure Met (P : Program) (w : World) (K : PySem.W.Frag) (mg : Str → Option Value) (base : Heap) (cx : CXT) (k : Nat) (C : Addr) (m : Str) (sp : Sp) : Prop where
  ex : ∃ (f : Addr) (fd : FuncData) (ps : List Str), Cls K C ∧ Meth K C m f ∧ FnOk P w K mg base cx k f fd ps sp ∧ Binds K fd ps []

/-- a class that may be made by its name -/
structure Mak (P : Program) (w : World) (K : PySem.W.Frag) (mg : Str → Option Value) (base : Heap) (cx : CXT) (k : Nat) (x : Str) (C : Addr) (sp : Sp) : Prop where
  ex : ∃ (f : Addr) (fd : FuncData) (ps : List Str), Mk K C f ∧ FnOk P w K mg base cx k f fd ps sp ∧ mg x = some (.ref C) ∧ Binds K fd ps []
/-- a class of the module: its name and its __init__ -/
structure DefC (K : PySem.W.Frag) (mg : Str → Option Value) (C : Addr) (x qual : Str) (st : Stmt) (ps : List Str) : Prop where
  ex : ∃ (f : Addr) (fd : FuncData), Mk K C f ∧ Fun K "__init__" qual st f fd ∧ mg x = some (.ref C) ∧ Binds K fd ps []
section
variable {P : Program} {w : World} {K : PySem.W.Frag} {mg : Str → Option Value} {base : Heap} {cx : CXT}
theorem Cal.lift {j k : Nat} {x : Str} {sp : Sp} (c : Cal P w K mg base cx j x sp) (h : j ≤ k) : Cal P w K mg base cx k x sp := by
  obtain ⟨f, fd, ps, F, a, b, d⟩ := c.ex
  exact ⟨f, fd, ps, F.mono h, a, b, d⟩
theorem Met.lift {j k : Nat} {C : Addr} {x : Str} {sp : Sp} (c : Met P w K mg base cx j C x sp) (h : j ≤ k) : Met P w K mg base cx k C x sp := by
  obtain ⟨f, fd, ps, a, b, F, d⟩ := c.ex
  exact ⟨f, fd, ps, a, b, F.mono h, d⟩
theorem Def.cal {x : Str} {st : Stmt} {N ps : List Str} {k : Nat} {sp : Sp} (D : Def K mg x st ps) (S : FnScope N ps (defScope st)) (len : ∀ vs H Q E, sp vs H Q E → vs.length = ps.length)
    (body : ∀ (f : Addr) (cdv : Value) (A : Around) (outer : List Env) (s : Shared) (H : Hp) (vs : List V) (Q : VK) (E : XK), Room k (A.deeper (envOfC x (defScope st) s.heap.objs.size f cdv)) → sp vs H Q E →
      ∃ t, PSs (cxOf CX0 P w K mg base N x (defScope st) f cdv A outer s H E).nox (defBody st) t ∧ t { nx := fun _ H' => Q .non H', rt := Q } (start N vs) H) :
    Cal P w K mg base CX0 (k + 1) x sp := by
  obtain ⟨f, fd, F, hm, b⟩ := D.ex
  exact ⟨f, fd, ps, F.ok S len fun cdv A outer s H vs Q E hr hs => body f cdv A outer s H vs Q E hr hs, hm, F.kp, b⟩
theorem DefM.met {C : Addr} {m qual : Str} {st : Stmt} {N ps : List Str} {k : Nat} {sp : Sp} (D : DefM K C m qual st ps) (S : FnScope N ps (defScope st)) (len : ∀ vs H Q E, sp vs H Q E → vs.length = ps.length)
    (body : ∀ (f : Addr) (cdv : Value) (A : Around) (outer : List Env) (s : Shared) (H : Hp) (vs : List V) (Q : VK) (E : XK), Room k (A.deeper (envOfC qual (defScope st) s.heap.objs.size f cdv)) → sp vs H Q E →
      ∃ t, PSs (cxOf CX0 P w K mg base N qual (defScope st) f cdv A outer s H E).nox (defBody st) t ∧ t { nx := fun _ H' => Q .non H', rt := Q } (start N vs) H) :
    Met P w K mg base CX0 (k + 1) C m sp := by
  obtain ⟨f, fd, c, me, F, b⟩ := D.ex
  exact ⟨f, fd, ps, c, me, F.ok S len fun cdv A outer s H vs Q E hr hs => body f cdv A outer s H vs Q E hr hs, b⟩
theorem Mak.lift {j k : Nat} {C : Addr} {x : Str} {sp : Sp} (c : Mak P w K mg base cx j x C sp) (h : j ≤ k) : Mak P w K mg base cx k x C sp := by
  obtain ⟨f, fd, ps, a, F, b, d⟩ := c.ex
  exact ⟨f, fd, ps, a, F.mono h, b, d⟩
theorem DefC.mak {C : Addr} {x qual : Str} {st : Stmt} {N ps : List Str} {k : Nat} {sp : Sp} (D : DefC K mg C x qual st ps) (S : FnScope N ps (defScope st)) (len : ∀ vs H Q E, sp vs H Q E → vs.length = ps.length)
    (body : ∀ (f : Addr) (cdv : Value) (A : Around) (outer : List Env) (s : Shared) (H : Hp) (vs : List V) (Q : VK) (E : XK), Room k (A.deeper (envOfC qual (defScope st) s.heap.objs.size f cdv)) → sp vs H Q E →
      ∃ t, PSs (cxOf CX0 P w K mg base N qual (defScope st) f cdv A outer s H E).nox (defBody st) t ∧ t { nx := fun _ H' => Q .non H', rt := Q } (start N vs) H) :
    Mak P w K mg base CX0 (k + 1) x C sp := by
  obtain ⟨f, fd, M, F, hm, b⟩ := D.ex
  exact ⟨f, fd, ps, M, F.ok S len fun cdv A outer s H vs Q E hr hs => body f cdv A outer s H vs Q E hr hs, hm, b⟩
theorem Cal.imp {k : Nat} {x : Str} {sp sp' : Sp} (c : Cal P w K mg base cx k x sp) (h : ∀ vs H Q E, sp' vs H Q E → sp vs H Q E) : Cal P w K mg base cx k x sp' := by
  obtain ⟨f, fd, ps, F, a, b, d⟩ := c.ex
  exact ⟨f, fd, ps, F.imp h, a, b, d⟩
theorem Met.imp {k : Nat} {C : Addr} {x : Str} {sp sp' : Sp} (c : Met P w K mg base cx k C x sp) (h : ∀ vs H Q E, sp' vs H Q E → sp vs H Q E) : Met P w K mg base cx k C x sp' := by
  obtain ⟨f, fd, ps, a, b, F, d⟩ := c.ex
  exact ⟨f, fd, ps, a, b, F.imp h, d⟩
end
section
variable {X : Cx} {k j : Nat} {C : Addr} {x m : Str} {sp : Sp} {p pos apos : Pos} {e o : Expr} {es : List Expr} {ta : TE} {t : TA}
theorem pe_c (c : Cal X.prog X.w X.K X.mg X.base CX0 k x sp) (hr : Room j X.A) (hk : k ≤ j) (hg : Gl X x) (ha : PA X (e :: es) t)
    (hdb : (x == ("__debug__" : Str)) = false := by decide) (he : starEach (e :: es) X.env = (false, eval e X.env) :: starEach es X.env := by rfl) (hpl : (backTo pos (starEach es X.env)).any (·.1) = false := by rfl) :
    PE X (.Call (.Name x p) (e :: es) [] pos) (tCall sp [] E0 t) := by
  obtain ⟨f, fd, ps, F, hm, kp, b⟩ := c.ex
  exact pe_call F (hr.mono hk) hg hm kp b .nil pass0 ha hdb he hpl
theorem pe_c0 (c : Cal X.prog X.w X.K X.mg X.base CX0 k x sp) (hr : Room j X.A) (hk : k ≤ j) (hg : Gl X x)
    (hdb : (x == ("__debug__" : Str)) = false := by decide) : PE X (.Call (.Name x p) [] [] pos) (tCall sp [] E0 tNil) := by
  obtain ⟨f, fd, ps, F, hm, kp, b⟩ := c.ex
  exact pe_call0 F (hr.mono hk) hg hm kp b .nil pass0 hdb
theorem pe_mk (c : Mak X.prog X.w X.K X.mg X.base CX0 k x C sp) (hr : Room j X.A) (hk : k + 1 ≤ j) (hg : Gl X x) (ha : PA X (e :: es) t)
    (hdb : (x == ("__debug__" : Str)) = false := by decide) (he : starEach (e :: es) X.env = (false, eval e X.env) :: starEach es X.env := by rfl) (hpl : (backTo pos (starEach es X.env)).any (·.1) = false := by rfl) :
    PE X (.Call (.Name x p) (e :: es) [] pos) (tMake C sp [] E0 t) := by
  obtain ⟨f, fd, ps, M, F, hm, b⟩ := c.ex
  exact pe_make M F (hr.mono hk) hg hm b .nil pass0 ha hdb he hpl
theorem pe_mt {pl : Sem Bool} (c : Met X.prog X.w X.K X.mg X.base CX0 k C m sp) (hr : Room j X.A) (hk : k ≤ j) (he : PE X o ta) (ha : PA X (e :: es) t)
    (hst : starEach (e :: es) X.env = (false, eval e X.env) :: starEach es X.env := by rfl) (hpl : (backTo pos (starEach es X.env)).any (·.1) = false := by rfl)
    (ht : eval (.Call (.Attribute o m apos) (e :: es) [] pos) X.env = (do
      let ov ← eval o X.env
      standAt apos.atName
      let (f, first) ← holding [ov] (getMethod ov m pl)
      callWith pos f first (backTo pos (starEach (e :: es) X.env)) (backToKw pos (keywordEach [] X.env))) := by rfl) :
    PE X (.Call (.Attribute o m apos) (e :: es) [] pos) (tMeth C m sp [] E0 ta t) := by
  obtain ⟨f, fd, ps, hc, hm, F, b⟩ := c.ex
  exact pe_meth (pl := pl) he hc hm F (hr.mono hk) b .nil pass0 ha hst hpl ht
theorem pe_mt0 {pl : Sem Bool} (c : Met X.prog X.w X.K X.mg X.base CX0 k C m sp) (hr : Room j X.A) (hk : k ≤ j) (he : PE X o ta)
    (ht : eval (.Call (.Attribute o m apos) [] [] pos) X.env = (do
      let ov ← eval o X.env
      standAt apos.atName
      let (f, first) ← holding [ov] (getMethod ov m pl)
      callWith pos f first (backTo pos (starEach [] X.env)) (backToKw pos (keywordEach [] X.env))) := by rfl) :
    PE X (.Call (.Attribute o m apos) [] [] pos) (tMeth C m sp [] E0 ta tNil) := by
  obtain ⟨f, fd, ps, hc, hm, F, b⟩ := c.ex
  exact pe_meth0 (pl := pl) he hc hm F (hr.mono hk) b .nil pass0 ht
theorem pe_ty {n : String} (hg : Gl X x) (hm : X.mg x = none) (hv : bootBuiltins x = some (.type n)) (hn : x ≠ "__name__" := by decide) (hd : (x == ("__debug__" : Str)) = false := by decide) : PE X (.Name x pos) (tC (.ty n)) :=
  pe_bltn (v := .ty n) hg hm hv rfl hn hd
theorem pe_gc {v : V} (hg : Gl X x) (h : ∃ u, X.mg x = some u ∧ RelV v u) (hd : (x == ("__debug__" : Str)) = false := by decide) : PE X (.Name x pos) (tC v) := by
  obtain ⟨u, hm, r⟩ := h
  exact pe_glob hg hm r hd
end

/-! ### heaps that go on: all that is tracked stays, but what stands at the places M -/
structure Ev (M : List Addr) (H H' : Hp) : Prop where
  keep : ∀ b o, H b = some o → b ∉ M → H' b = some o
  mu : ∀ a ∈ M, Mut (H a)
section
variable {M M' : List Addr} {H H1 H2 H' : Hp} {a b : Addr} {o : HO} {xs : List V} {K : PySem.W.Frag}
theorem Ev.refl : Ev [] H H := ⟨fun _ _ e _ => e, fun _ h => nomatch h⟩
theorem Ev.refl' (h : ∀ a ∈ M, Mut (H a)) : Ev M H H := ⟨fun _ _ e _ => e, h⟩
theorem Ev.trans (x : Ev M H H1) (y : Ev M H1 H2) : Ev M H H2 := ⟨fun b o e h => y.keep b o (x.keep b o e h) h, x.mu⟩
theorem Ev.weak (x : Ev M H H') (h : ∀ a ∈ M, a ∈ M') (hm : ∀ a ∈ M', Mut (H a)) : Ev M' H H' := ⟨fun b o e hb => x.keep b o e fun z => hb (h b z), hm⟩
theorem Ev.same (x : Ev [] H H') : Same H H' := fun b o e => x.keep b o e (by simp)
theorem sEv0 (x : Same H H') : Ev [] H H' := ⟨fun b o e _ => x b o e, fun _ h => nomatch h⟩
theorem sEv (x : Same H H') (h : ∀ a ∈ M, Mut (H a)) : Ev M H H' := ⟨fun b o e _ => x b o e, h⟩
theorem Ev.then_same (x : Ev M H H1) (y : Same H1 H2) : Ev M H H2 := ⟨fun b o e h => y b o (x.keep b o e h), x.mu⟩
theorem sThen (x : Same H H1) (y : Ev M H1 H2) (h : ∀ a ∈ M, Mut (H a)) : Ev M H H2 := ⟨fun b o e z => y.keep b o (x b o e) z, h⟩
theorem Ev.ne (x : Ev M H H') (e : H b = some o) (hn : ¬ Mut (some o)) : b ∉ M := fun z => by
  have := x.mu b z
  rw [e] at this
  exact hn this
theorem Ev.at (x : Ev M H H') (e : H b = some o) (hn : ¬ Mut (some o)) : H' b = some o := x.keep b o e (x.ne e hn)
theorem Ev.tup (x : Ev M H H') (e : H b = some (.tup xs)) : H' b = some (.tup xs) := x.at e fun z => z
theorem Ev.sqT (x : Ev M H H') (h : SqT K H b xs) : SqT K H' b xs := by
  rcases h with (h | ⟨o, h⟩) | h
  · exact .inl (.inl (x.tup h))
  · exact .inl (.inr ⟨o, x.at h fun z => z⟩)
  · exact .inr h
theorem Ev.free (x : Ev M H H') (h : H' b = none) (hb : b ∉ M) : H b = none := by
  cases q : H b with
  | none => rfl
  | some o => rw [x.keep b o q hb] at h; cases h
/-- a new object is no old one, whether written or not -/
theorem Ev.new (x : Ev M H H') (hb : H' b = none) (hm : ∀ a ∈ M, ∃ o, H' a = some o) (e : H a = some o) : a ≠ b := by
  intro z
  subst z
  by_cases h : a ∈ M
  · obtain ⟨u, q⟩ := hm a h
    rw [q] at hb
    cases hb
  · rw [x.keep a o e h] at hb
    cases hb
theorem same_upd (h : H a = none) : Same H (upd H a o) := fun b x e => by
  rw [upd_ne (ne_of_none e h)]
  exact e
theorem ev_upd (h : Mut (H a)) : Ev [a] H (upd H a o) := ⟨fun b x e z => by
  rw [upd_ne (by simpa using z)]
  exact e, fun b z => by
    have e : b = a := by simpa using z
    rw [e]
    exact h⟩
theorem Same.sqT (x : Same H H') (h : SqT K H b xs) : SqT K H' b xs := (sEv0 x).sqT h
end

/-! ### new tuples, in one way whether new or not -/
def nT (K : PySem.W.Frag) (H : Hp) (xs : List V) (Q : VK) : Prop := ∀ p H', Same H H' → SqT K H' p xs → Q (.ref p) H'
def tTupS (K : PySem.W.Frag) (t : TA) : TE := fun σ H Q => t σ H fun xs H1 => xs.length ≤ sizeLine ∧ nT K H1 xs Q
section
variable {X : Cx} {es : List Expr} {t : TA} {pos : Pos}
theorem nT.new {K : PySem.W.Frag} {H : Hp} {xs : List V} {Q : VK} (h : nT K H xs Q) : ∀ p, H p = none → Q (.ref p) (upd H p (.tup xs)) := fun p hp => h p _ (same_upd hp) (SqT.of upd_same)
theorem nT.old {K : PySem.W.Frag} {H : Hp} {xs : List V} {Q : VK} {p : Addr} (h : nT K H xs Q) (e : SqT K H p xs) : Q (.ref p) H := h p H (Same.refl H) e
theorem pe_tupS {x1} (h : PA X es t) : PE X (.Tuple es x1 pos) (tTupS X.K t) := by
  refine ⟨fun pins s σ H Q I q => ?_⟩
  have z : PE X (.Tuple es x1 pos) (tTup fun σ' H' R => ∃ S, t σ' H' S ∧ ∀ xs H1, S xs H1 → R xs H1) := by
    refine pe_tup ⟨fun pos' pins' s' σ' H' R I' hR => ?_⟩
    obtain ⟨S, h1, h2⟩ := hR
    exact thn (h.run pos' pins' s' σ' H' S I' h1) fun us s2 ⟨xs, H2, I2, r2, q2⟩ => ⟨xs, H2, I2, r2, h2 _ _ q2⟩
  exact z.run pins s σ H Q I ⟨_, q, fun xs H1 ⟨h1, h2⟩ => ⟨h1, h2.new⟩⟩
def rCatS (K : PySem.W.Frag) : R2 := fun x y H Q => ∃ a b xs ys, x = .ref a ∧ y = .ref b ∧ SqT K H a xs ∧ SqT K H b ys ∧ xs.length + ys.length ≤ sizeLine ∧ nT K H (xs ++ ys) Q
theorem op_catS : OpR X (binaryOp .Add) (rCatS X.K) := by
  intro pins s σ H x y v u Q I rx ry h
  obtain ⟨a, b, xs, ys, e1, e2, ha, hb, hz, q⟩ := h
  refine op_catA pins s σ H x y v u Q I rx ry ⟨a, b, xs, ys, e1, e2, ha, hb, hz, fun z => ?_, fun _ z => ?_, fun _ _ => q.new⟩
  · subst z; exact q.old hb
  · subst z; rw [List.append_nil] at q; exact q.old ha
def rSlS (K : PySem.W.Frag) : V → Option Int → Option Int → Hp → VK → Prop := fun x lo hi H Q => ∃ a xs, x = .ref a ∧ SqT K H a xs ∧ nT K H (cutV xs lo hi) Q
theorem cutV_all {xs : List V} {lo hi : Option Int} (h : HT.sIx xs.length 0 lo = 0 ∧ HT.sIx xs.length xs.length hi = xs.length) : cutV xs lo hi = xs := by
  unfold cutV
  rw [h.1, h.2]
  simp
theorem sl_tupS : SlR X (rSlS X.K) := by
  intro pins s σ H x v vl vu lo hi sl Q I rx hs pl pu h
  obtain ⟨a, xs, e, hx, q⟩ := h
  exact sl_tupA pins s σ H x v vl vu lo hi sl Q I rx hs pl pu ⟨a, xs, e, hx, fun z => by rw [cutV_all z] at q; exact q.old hx, fun _ => q.new⟩
def rTupS (K : PySem.W.Frag) : List V → Hp → VK → Prop := fun vs H Q => ∃ p ys, vs = [.ref p] ∧ (SqL K H p ys ∨ SqT K H p ys) ∧ nT K H ys Q
theorem call_tupS : CallR X (.type "tuple") (rTupS X.K) := by
  intro pins s σ H xs us Q I r h
  obtain ⟨p, ys, e, hp, q⟩ := h
  refine call_tuple_of pins s σ H xs us Q I r ⟨p, ys, e, ?_⟩
  rcases hp with hp | hp
  · exact .inl ⟨hp, q.new⟩
  · exact .inr ⟨hp, q.old hp⟩
end

theorem ixN_nat {n j : Nat} (h : j < n) : ixN n (j : Int) = some j := by
  unfold ixN
  rw [if_pos (Int.natCast_nonneg j), if_pos (by omega), Int.toNat_natCast]

theorem le1 : 1 ≤ sizeLine := by decide
theorem le2 : 2 ≤ sizeLine := by decide
theorem le3 : 3 ≤ sizeLine := by decide
theorem le4 : 4 ≤ sizeLine := by decide

/-! ### data: values that are nested -/
mutual
theorem Dp.same {K : PySem.W.Frag} {H H' : Hp} (e : Same H H') : ∀ (d : PyData) (v : V), Dp K H v d → Dp K H' v d
  | .none, _, h => by cases h; exact .non
  | .bool _, _, h => by cases h; exact .bl _
  | .int _, _, h => by cases h; exact .int _
  | .str _, _, h => by cases h; exact .str _
  | .list ds, _, h => by
    cases h with
    | lst a b => exact .lst (e.seq a) (Dp.sameAll e ds _ b)
  | .tuple ds, _, h => by
    cases h with
    | tup a b => exact .tup (Same.sqT e a) (Dp.sameAll e ds _ b)
  | .dict _, _, h => by cases h
theorem Dp.sameAll {K : PySem.W.Frag} {H H' : Hp} (e : Same H H') : ∀ (ds : List PyData) (vs : List V), DpAll K H vs ds → DpAll K H' vs ds
  | [], _, h => by cases h; exact .nil
  | d :: ds, _, h => by
    cases h with
    | cons a b => exact .cons (Dp.same e d _ a) (Dp.sameAll e ds _ b)
end
theorem DpAll.len {K : PySem.W.Frag} {H : Hp} : ∀ {vs : List V} {ds : List PyData}, DpAll K H vs ds → vs.length = ds.length
  | _, _, .nil => rfl
  | _, _, .cons _ t => congrArg (· + 1) (DpAll.len t)
theorem DpAll.at {K : PySem.W.Frag} {H : Hp} : ∀ {vs : List V} {ds : List PyData} {i : Nat} {v : V}, DpAll K H vs ds → vs[i]? = some v → ∃ d, ds[i]? = some d ∧ Dp K H v d
  | _, _, _, _, .nil, e => by simp at e
  | _, _, 0, _, .cons h _, e => by simp at e; subst e; exact ⟨_, rfl, h⟩
  | _, _, i + 1, _, .cons _ t, e => by
    obtain ⟨d, h1, h2⟩ := DpAll.at (i := i) t (by simpa using e)
    exact ⟨d, by simpa using h1, h2⟩
end Ag
namespace Ag
open PySem PySem.Spec PyProof.Rows L2
/-! ### the text by places -/
def topS (i : Nat) : Stmt := PySem.Challenge.pw_askagain_k04_what_is_run_how_often.main.body.getD i (.Pass ⟨0, 0, 0, 0⟩)
abbrev s_is_from : Stmt := topS 10
abbrev s_are_steps : Stmt := topS 11
abbrev s_is_rule : Stmt := topS 12
abbrev s_is_setup_of : Stmt := topS 13
abbrev s_need_setup : Stmt := topS 14
abbrev s_need_number : Stmt := topS 15
abbrev s_turned : Stmt := topS 17
abbrev s_restored : Stmt := topS 18
abbrev s_added : Stmt := topS 19
abbrev s_lowest : Stmt := topS 20
abbrev s_cut : Stmt := topS 21
abbrev s_Engine__init : Stmt := inClass (topS 22) 0
abbrev s_Engine_answer : Stmt := inClass (topS 22) 1
abbrev s_Engine_run : Stmt := inClass (topS 22) 2
abbrev s_Engine_from_empty : Stmt := inClass (topS 22) 3
abbrev s_runs_by : Stmt := topS 24
abbrev s_law_deck : Stmt := topS 26
abbrev s_law_pick : Stmt := topS 27
abbrev s_law_sort : Stmt := topS 28
abbrev s_law_same : Stmt := topS 29
abbrev s_law_drawn : Stmt := topS 30
abbrev s_law_put : Stmt := topS 31
abbrev s_law_ask : Stmt := topS 32
abbrev s_law_world : Stmt := topS 33
abbrev s_law_log : Stmt := topS 34
abbrev s_law : Stmt := topS 35
theorem sc_is_from : FnScope ["value", "low", "high"] ["value", "low", "high"] (defScope s_is_from) := ⟨rfl, rfl, rfl, by decide +kernel, rfl, by decide +kernel, by decide +kernel⟩
theorem sc_are_steps : FnScope ["value", "step"] ["value"] (defScope s_are_steps) := ⟨rfl, rfl, rfl, by decide +kernel, rfl, by decide +kernel, by decide +kernel⟩
theorem sc_is_rule : FnScope ["value"] ["value"] (defScope s_is_rule) := ⟨rfl, rfl, rfl, by decide +kernel, rfl, by decide +kernel, by decide +kernel⟩
theorem sc_is_setup_of : FnScope ["value"] ["value"] (defScope s_is_setup_of) := ⟨rfl, rfl, rfl, by decide +kernel, rfl, by decide +kernel, by decide +kernel⟩
theorem sc_need_setup : FnScope ["value"] ["value"] (defScope s_need_setup) := ⟨rfl, rfl, rfl, by decide +kernel, rfl, by decide +kernel, by decide +kernel⟩
theorem sc_need_number : FnScope ["value", "low", "high"] ["value", "low", "high"] (defScope s_need_number) := ⟨rfl, rfl, rfl, by decide +kernel, rfl, by decide +kernel, by decide +kernel⟩
theorem sc_turned : FnScope ["store", "step", "seen", "hidden", "far"] ["store", "step"] (defScope s_turned) := ⟨rfl, rfl, rfl, by decide +kernel, rfl, by decide +kernel, by decide +kernel⟩
theorem sc_restored : FnScope ["store", "hidden", "step", "at", "far", "found"] ["store", "hidden", "step"] (defScope s_restored) := ⟨rfl, rfl, rfl, by decide +kernel, rfl, by decide +kernel, by decide +kernel⟩
theorem sc_added : FnScope ["one", "other", "first", "second"] ["one", "other"] (defScope s_added) := ⟨rfl, rfl, rfl, by decide +kernel, rfl, by decide +kernel, by decide +kernel⟩
theorem sc_lowest : FnScope ["store", "best", "far", "at"] ["store"] (defScope s_lowest) := ⟨rfl, rfl, rfl, by decide +kernel, rfl, by decide +kernel, by decide +kernel⟩
theorem sc_cut : FnScope ["store", "size", "rule", "at"] ["store", "size", "rule"] (defScope s_cut) := ⟨rfl, rfl, rfl, by decide +kernel, rfl, by decide +kernel, by decide +kernel⟩
theorem sc_Engine__init : FnScope ["self", "setup"] ["self", "setup"] (defScope s_Engine__init) := ⟨rfl, rfl, rfl, by decide +kernel, rfl, by decide +kernel, by decide +kernel⟩
theorem sc_Engine_answer : FnScope ["self", "number", "store", "used", "far", "at"] ["self", "number", "store"] (defScope s_Engine_answer) := ⟨rfl, rfl, rfl, by decide +kernel, rfl, by decide +kernel, by decide +kernel⟩
theorem sc_Engine_run : FnScope ["self", "number", "store", "counts", "wanted", "step", "seen", "hidden", "more"] ["self", "number", "store"] (defScope s_Engine_run) := ⟨rfl, rfl, rfl, by decide +kernel, rfl, by decide +kernel, by decide +kernel⟩
theorem sc_Engine_from_empty : FnScope ["self", "number", "lower"] ["self", "number"] (defScope s_Engine_from_empty) := ⟨rfl, rfl, rfl, by decide +kernel, rfl, by decide +kernel, by decide +kernel⟩
theorem sc_runs_by : FnScope ["setup", "number", "engine", "waiting", "found", "lower", "at", "times", "other"] ["setup", "number"] (defScope s_runs_by) := ⟨rfl, rfl, rfl, by decide +kernel, rfl, by decide +kernel, by decide +kernel⟩
theorem sc_law_deck : FnScope ["cell", "turn"] ["cell", "turn"] (defScope s_law_deck) := ⟨rfl, rfl, rfl, by decide +kernel, rfl, by decide +kernel, by decide +kernel⟩
theorem sc_law_pick : FnScope ["deck", "limit", "got", "number"] ["deck", "limit"] (defScope s_law_pick) := ⟨rfl, rfl, rfl, by decide +kernel, rfl, by decide +kernel, by decide +kernel⟩
theorem sc_law_sort : FnScope ["thing"] ["thing"] (defScope s_law_sort) := ⟨rfl, rfl, rfl, by decide +kernel, rfl, by decide +kernel, by decide +kernel⟩
theorem sc_law_same : FnScope ["told", "due", "k", "part"] ["told", "due"] (defScope s_law_same) := ⟨rfl, rfl, rfl, by decide +kernel, rfl, by decide +kernel, by decide +kernel⟩
theorem sc_law_drawn : FnScope ["deck", "most", "high", "paces", "turn"] ["deck", "most", "high"] (defScope s_law_drawn) := ⟨rfl, rfl, rfl, by decide +kernel, rfl, by decide +kernel, by decide +kernel⟩
theorem sc_law_put : FnScope ["world", "number", "store", "item"] ["world", "number"] (defScope s_law_put) := ⟨rfl, rfl, rfl, by decide +kernel, rfl, by decide +kernel, by decide +kernel⟩
theorem sc_law_ask : FnScope ["world", "number", "pace"] ["world", "number"] (defScope s_law_ask) := ⟨rfl, rfl, rfl, by decide +kernel, rfl, by decide +kernel, by decide +kernel⟩
theorem sc_law_world : FnScope ["setup"] ["setup"] (defScope s_law_world) := ⟨rfl, rfl, rfl, by decide +kernel, rfl, by decide +kernel, by decide +kernel⟩
theorem sc_law_log : FnScope ["setup", "number", "world"] ["setup", "number"] (defScope s_law_log) := ⟨rfl, rfl, rfl, by decide +kernel, rfl, by decide +kernel, by decide +kernel⟩
theorem sc_law : FnScope ["script", "cell", "deck", "setup", "number", "times", "lower", "what", "two"] ["script"] (defScope s_law) := ⟨rfl, rfl, rfl, by decide +kernel, rfl, by decide +kernel, by decide +kernel⟩
/-- the names of the module that are no defs -/
structure Txt (K : PySem.W.Frag) (mg : Str → Option Value) : Prop where
  b_ValueError : mg "ValueError" = none
  b_all : mg "all" = none
  b_bool : mg "bool" = none
  b_enumerate : mg "enumerate" = none
  b_int : mg "int" = none
  b_isinstance : mg "isinstance" = none
  b_len : mg "len" = none
  b_list : mg "list" = none
  b_max : mg "max" = none
  b_min : mg "min" = none
  b_range : mg "range" = none
  b_sorted : mg "sorted" = none
  b_str : mg "str" = none
  b_tuple : mg "tuple" = none
  b_zip : mg "zip" = none
  c_MOST_STEPS : ∃ u, mg "MOST_STEPS" = some u ∧ RelV (.int 3) u
  c_MOST_STEP : ∃ u, mg "MOST_STEP" = some u ∧ RelV (.int 5) u
  c_MOST_SIZE : ∃ u, mg "MOST_SIZE" = some u ∧ RelV (.int 6) u
  c_MOST_NUMBER : ∃ u, mg "MOST_NUMBER" = some u ∧ RelV (.int 300) u
  c_RULES : ∃ a, mg "RULES" = some (.ref a) ∧ ∀ H, SqT K H a [.str "low", .str "put", .str "use"]
end Ag
namespace Ag
open PySem PySem.Spec PyProof.Rows L2

/-! ### what is a setup, of data -/
def tyN : PyData → String
  | .none => "NoneType" | .bool _ => "bool" | .int _ => "int" | .str _ => "str" | .list _ => "list" | .tuple _ => "tuple" | .dict _ => "dict"
def isT (T : String) (d : PyData) : Bool := tyN d == T || (T == "int" && tyN d == "bool")
theorem kit_tab : ∀ a ∈ ["NoneType", "bool", "int", "str", "list", "tuple"], ∀ T ∈ ["int", "bool", "str", "tuple", "list"], kitB a T = some (a == T || (T == "int" && a == "bool")) := by decide +kernel
theorem Dp.ty {K : PySem.W.Frag} {H : Hp} {v : V} {d : PyData} (h : Dp K H v d) : TyX K H v (.type (tyN d)) := by
  cases h with
  | non => exact .base .non
  | bl b => exact .base (.bl b)
  | int i => exact .base (.int i)
  | str x => exact .base (.str x)
  | lst a _ =>
    rcases a with (a | ⟨o, a⟩) | ⟨o, its, n, h1, h2, _⟩
    · exact .base (.lst a)
    · exact .base (.frz a)
    · exact .kList h1 h2
  | tup a _ =>
    rcases a with (a | ⟨o, a⟩) | ⟨o, its, n, h1, h2, _⟩
    · exact .base (.tup a)
    · exact .fTuple a
    · exact .kTuple h1 h2
theorem Dp.nodict {K : PySem.W.Frag} {H : Hp} {v : V} {d : PyData} (h : Dp K H v d) : tyN d ∈ ["NoneType", "bool", "int", "str", "list", "tuple"] := by
  cases h <;> simp [tyN]
theorem isk {K : PySem.W.Frag} {H : Hp} {v : V} {d : PyData} {T : String} (h : Dp K H v d) (hT : T ∈ ["int", "bool", "str", "tuple", "list"]) : PySem.W.kitOne K (.type (tyN d)) (.type T) = some (isT T d) := kit_ty (kit_tab _ (Dp.nodict h) _ hT)

def isFrom (lo hi : Int) (d : PyData) : Bool := isT "int" d && (!isT "bool" d && match d with
  | .int i => decide (lo ≤ i) && decide (i ≤ hi)
  | _ => false)
def isSteps : PyData → Bool
  | .tuple ds => decide (1 ≤ ds.length ∧ ds.length ≤ 3) && ds.all (isFrom 1 5)
  | _ => false
def isRule : PyData → Bool
  | .str x => x == "low" || x == "put" || x == "use"
  | _ => false
def isSetup : PyData → Bool
  | .tuple [a, b, c] => isSteps a && (isFrom 0 6 b && isRule c)
  | _ => false
theorem isT_int {d : PyData} (h : isT "int" d = true) (h2 : isT "bool" d = false) : ∃ i, d = .int i := by
  cases d <;> simp_all [isT, tyN]

section
variable {P : Program} {w : World} {K : PySem.W.Frag} {mg : Str → Option Value} {base : Heap}
def sp_is_from (K : PySem.W.Frag) : Sp := fun vs H Q _ => ∃ (v : V) (d : PyData) (lo hi : Int), vs = [v, .int lo, .int hi] ∧ Dp K H v d ∧ Q (.bl (isFrom lo hi d)) H
theorem ok_is_from (D : Def K mg "is_from" s_is_from ["value", "low", "high"]) (T : Txt K mg) : Cal P w K mg base CX0 1 "is_from" (sp_is_from K) := by
  refine D.cal sc_is_from (fun vs H Q E h => ?_) (fun f cdv A outer s H vs Q E hr h => ?_)
  · obtain ⟨v, d, lo, hi, rfl, _⟩ := h
    rfl
  obtain ⟨v, d, lo, hi, rfl, hd, q⟩ := h
  refine ⟨_, (pss_one (ps_ret (pe_and (pe_callB (call_isi) (by rfl) T.b_isinstance bo_isinstance (pa_cons (pv 0) (pa_cons (pe_ty (by rfl) T.b_int bo_int) pa_nil))) (pe_and (pe_not (pe_callB (call_isi) (by rfl) T.b_isinstance bo_isinstance (pa_cons (pv 0) (pa_cons (pe_ty (by rfl) T.b_bool bo_bool) pa_nil)))) (pe_one (pe_chain op_le op_le (pv 1) (pv 0) (pv 2))))))), ?_⟩
  refine ⟨_, rfl, _, _, _, _, _, rfl, .ty "int", Dp.ty hd, isk hd (by decide), _, rfl, ?_⟩
  unfold isFrom at q
  refine ite2 (fun c => ?_) (fun c => ?_)
  · rw [c] at q
    refine ⟨_, rfl, _, _, _, _, _, rfl, .ty "bool", Dp.ty hd, isk hd (by decide), _, rfl, _, rfl, ?_⟩
    refine ite2 (fun c2 => ?_) (fun c2 => ?_)
    · have c3 : isT "bool" d = false := by simpa using c2
      rw [c3] at q
      obtain ⟨i, rfl⟩ := isT_int c c3
      cases hd
      refine ⟨_, rfl, _, rfl, lo, i, rfl, rfl, _, rfl, ite2 (fun c4 => ?_) (fun c4 => ?_)⟩
      · refine ⟨_, rfl, i, hi, rfl, rfl, ?_⟩
        simpa [c4] using q
      · simpa [c4] using q
    · have c3 : isT "bool" d = true := by simpa using c2
      rw [c3] at q
      exact q
  · rw [Bool.eq_false_iff.mpr c] at q
    exact q

def sp_is_rule (K : PySem.W.Frag) : Sp := fun vs H Q _ => ∃ (v : V) (d : PyData), vs = [v] ∧ Dp K H v d ∧ Q (.bl (isRule d)) H
theorem ok_is_rule (D : Def K mg "is_rule" s_is_rule ["value"]) (T : Txt K mg) : Cal P w K mg base CX0 1 "is_rule" (sp_is_rule K) := by
  obtain ⟨aR, hR, sR⟩ := T.c_RULES
  have g_RULES : ∃ u, mg "RULES" = some u ∧ RelV (.ref aR) u := ⟨_, hR, rfl⟩
  refine D.cal sc_is_rule (fun vs H Q E h => ?_) (fun f cdv A outer s H vs Q E hr h => ?_)
  · obtain ⟨v, d, rfl, _⟩ := h
    rfl
  obtain ⟨v, d, rfl, hd, q⟩ := h
  refine ⟨_, (pss_one (ps_ret (pe_and (pe_callB (call_isi) (by rfl) T.b_isinstance bo_isinstance (pa_cons (pv 0) (pa_cons (pe_ty (by rfl) T.b_str bo_str) pa_nil))) (pe_one (pe_cmpR op_in_seq (pv 0) (pe_gc (by rfl) g_RULES) (by rfl)))))), ?_⟩
  refine ⟨_, rfl, _, _, _, _, _, rfl, .ty "str", Dp.ty hd, isk hd (by decide), _, rfl, ?_⟩
  cases hd with
  | str x =>
    refine iteT ⟨_, rfl, aR, _, rfl, .inr (sR _), rfl, rfl, ?_⟩
    have e : isRule (.str x) = (if false then !inV (.str x) [.str "low", .str "put", .str "use"] else inV (.str x) [.str "low", .str "put", .str "use"]) := by
      show (x == "low" || x == "put" || x == "use") = (("low" == x) || (("put" == x) || (("use" == x) || false)))
      rw [Bool.or_false, Bool.or_assoc, BEq.comm (a := x) (b := "low"), BEq.comm (a := x) (b := "put"), BEq.comm (a := x) (b := "use")]
    rw [e] at q
    exact q
  | _ => exact q

theorem allBl {K : PySem.W.Frag} {H : Hp} {D : Addr} {bs : List Bool} (h : H D = some (.lst (bs.map V.bl))) : SqL K H D (bs.map V.bl) := SqL.of h

def sp_are_steps (K : PySem.W.Frag) : Sp := fun vs H Q _ => ∃ (v : V) (d : PyData), vs = [v] ∧ Dp K H v d ∧ ∀ H', Same H H' → Q (.bl (isSteps d)) H'
theorem ok_are_steps (D : Def K mg "are_steps" s_are_steps ["value"]) (T : Txt K mg) (C_is_from : Cal P w K mg base CX0 1 "is_from" (sp_is_from K)) : Cal P w K mg base CX0 2 "are_steps" (sp_are_steps K) := by
  refine D.cal sc_are_steps (fun vs H Q E h => ?_) (fun f cdv A outer s H vs Q E hr h => ?_)
  · obtain ⟨v, d, rfl, _⟩ := h
    rfl
  obtain ⟨v, d, rfl, hd, q⟩ := h
  refine ⟨_, (pss_cons (ps_if (PW.pt (pw_or (pt_not (pt_val (pe_callB (call_isi) (by rfl) T.b_isinstance bo_isinstance (pa_cons (pv 0) (pa_cons (pe_ty (by rfl) T.b_tuple bo_tuple) pa_nil))))) (pw_or1 (pt_not (pt_chain op_le op_le pe_int (pe_callB (call_len_seq) (by rfl) T.b_len bo_len (pa_cons (pv 0) pa_nil)) (pe_gc (by rfl) T.c_MOST_STEPS)))))) (pss_one (ps_ret pe_bl)) pss_nil)
    (pss_one (ps_ret (pe_callB (cr_all rfl) (by rfl) T.b_all bo_all (pa_cons (pe_lc (own := [("step", 1)]) rfl sc_are_steps.nd (pi_tup (pv 0)) (blkOk_by (own := [("step", 1)]) (N := ["value", "step"]) (sc := defScope s_are_steps) (by decide +kernel)) (fun _ _ _ _ _ => (pg_name (i := 1) sc_are_steps.nd rfl (Or.inl rfl))) (fun _ _ _ _ _ => pts_nil) (fun _ _ _ _ _ => (pe_c C_is_from hr (by omega) (by rfl) (pa_cons (pv 1) (pa_cons pe_int (pa_cons (pe_gc (by rfl) T.c_MOST_STEP) pa_nil)))))) pa_nil))))), ?_⟩
  refine ⟨_, rfl, _, _, _, _, _, rfl, .ty "tuple", Dp.ty hd, isk hd (by decide), _, rfl, ?_⟩
  cases hd with
  | tup hs ha =>
    rename_i a xs ds
    refine iteF ⟨_, rfl, a, xs, rfl, .inr hs, _, _, rfl, rfl, _, rfl, ?_⟩
    have el := DpAll.len ha
    refine ite2 (fun c => ?_) (fun c => ?_)
    · have c' : (1 : Int) ≤ (xs.length : Nat) := of_decide_eq_true c
      refine ⟨_, _, rfl, rfl, _, rfl, ?_⟩
      refine ite2 (fun c2 => ?_) (fun c2 => ?_)
      · have c3 : ¬ ((xs.length : Nat) : Int) ≤ 3 := by simpa using c2
        have e : isSteps (.tuple ds) = false := by
          have : ¬ (1 ≤ ds.length ∧ ds.length ≤ 3) := by omega
          simp [isSteps, this]
        have := q H (Same.refl H)
        rw [e] at this
        exact this
      · have c3 : ((xs.length : Nat) : Int) ≤ 3 := by simpa using c2
        refine ⟨_, rfl, a, rfl, ⟨_, hs⟩, fun L nL => lc_tup (xs := xs) (fun i H' => Same H H' ∧ H' L = some (.lst (((ds.take i).map (isFrom 1 5)).map V.bl))) ⟨same_upd nL, by rw [upd_same]; rfl⟩ (fun i H' _ h' => Same.sqT h'.1 hs) (fun i x H' hx h' => ?_) (fun H' h' => ?_)⟩
        · obtain ⟨s', e'⟩ := h'
          obtain ⟨d, hd1, hd2⟩ := DpAll.at ha hx
          refine ⟨rfl, _, rfl, x, d, 1, 5, rfl, Dp.same s' d x hd2, _, e', ?_, fun b o eb => ?_, ?_⟩
          · rw [List.length_map, List.length_map, List.length_take]
            exact Nat.lt_of_le_of_lt (Nat.min_le_right _ _) (small1000 (by omega))
          · rw [upd_ne (ne_of_none eb nL)]
            exact s' b o eb
          · rw [upd_same, List.take_add_one, hd1]
            simp
        · obtain ⟨s', e'⟩ := h'
          refine ⟨L, _, rfl, SqL.of e', ?_⟩
          have e : isSteps (.tuple ds) = (List.all ((ds.take xs.length).map (isFrom 1 5)) id) := by
            have h1 : (1 ≤ ds.length ∧ ds.length ≤ 3) := by omega
            rw [el, List.take_length]
            simp [isSteps, h1]
          rw [← e]
          exact q H' s'
    · have c3 : ¬ (1 : Int) ≤ (xs.length : Nat) := by simpa using c
      refine ⟨_, rfl, iteT ?_⟩
      have e : isSteps (.tuple ds) = false := by
        have : ¬ (1 ≤ ds.length ∧ ds.length ≤ 3) := by omega
        simp [isSteps, this]
      have := q H (Same.refl H)
      rw [e] at this
      exact this
  | _ => exact q H (Same.refl H)

theorem dp3 {K : PySem.W.Frag} {H : Hp} {xs : List V} {ds : List PyData} (h : DpAll K H xs ds) (n : xs.length = 3) :
    ∃ v1 v2 v3 d1 d2 d3, xs = [v1, v2, v3] ∧ ds = [d1, d2, d3] ∧ Dp K H v1 d1 ∧ Dp K H v2 d2 ∧ Dp K H v3 d3 := by
  match xs, ds, h, n with
  | [_, _, _], [_, _, _], .cons a (.cons b (.cons c .nil)), _ => exact ⟨_, _, _, _, _, _, rfl, rfl, a, b, c⟩
def sp_is_setup (K : PySem.W.Frag) : Sp := fun vs H Q _ => ∃ (v : V) (d : PyData), vs = [v] ∧ Dp K H v d ∧ ∀ H', Same H H' → Q (.bl (isSetup d)) H'
theorem ok_is_setup_of (D : Def K mg "is_setup_of" s_is_setup_of ["value"]) (T : Txt K mg) (C_is_from : Cal P w K mg base CX0 1 "is_from" (sp_is_from K)) (C_is_rule : Cal P w K mg base CX0 1 "is_rule" (sp_is_rule K))
    (C_are_steps : Cal P w K mg base CX0 2 "are_steps" (sp_are_steps K)) : Cal P w K mg base CX0 3 "is_setup_of" (sp_is_setup K) := by
  refine D.cal sc_is_setup_of (fun vs H Q E h => ?_) (fun f cdv A outer s H vs Q E hr h => ?_)
  · obtain ⟨v, d, rfl, _⟩ := h
    rfl
  obtain ⟨v, d, rfl, hd, q⟩ := h
  refine ⟨_, (pss_cons (ps_if (PW.pt (pw_or (pt_not (pt_val (pe_callB (call_isi) (by rfl) T.b_isinstance bo_isinstance (pa_cons (pv 0) (pa_cons (pe_ty (by rfl) T.b_tuple bo_tuple) pa_nil))))) (pw_or1 (pt_cmpR op_ne (pe_callB (call_len_seq) (by rfl) T.b_len bo_len (pa_cons (pv 0) pa_nil)) pe_int (nomark _))))) (pss_one (ps_ret pe_bl)) pss_nil)
    (pss_one (ps_ret (pe_and (pe_c C_are_steps hr (by omega) (by rfl) (pa_cons (pe_ix ix_tup (pv 0) pe_int (fun _ _ => rfl)) pa_nil)) (pe_and (pe_c C_is_from hr (by omega) (by rfl) (pa_cons (pe_ix ix_tup (pv 0) pe_int (fun _ _ => rfl)) (pa_cons pe_int (pa_cons (pe_gc (by rfl) T.c_MOST_SIZE) pa_nil)))) (pe_one (pe_c C_is_rule hr (by omega) (by rfl) (pa_cons (pe_ix ix_tup (pv 0) pe_int (fun _ _ => rfl)) pa_nil)))))))), ?_⟩
  refine ⟨_, rfl, _, _, _, _, _, rfl, .ty "tuple", Dp.ty hd, isk hd (by decide), _, rfl, ?_⟩
  cases hd with
  | tup hs ha =>
    rename_i a xs ds
    refine iteF ⟨_, rfl, a, xs, rfl, .inr hs, rfl, _, rfl, ?_⟩
    have el := DpAll.len ha
    refine ite2 (fun c => ?_) (fun c => ?_)
    · have c3 : ¬ xs.length = 3 := fun z => by rw [z] at c; exact absurd c (by decide)
      have e : isSetup (.tuple ds) = false := by
        match ds, el with
        | [], _ => rfl
        | [_], _ => rfl
        | [_, _], _ => rfl
        | [_, _, _], h => exact absurd h c3
        | _ :: _ :: _ :: _ :: _, _ => rfl
      have := q H (Same.refl H)
      rw [e] at this
      exact this
    · have c3 : xs.length = 3 := by
        have := of_decide_eq_true (by simpa using c : decide (V.int (xs.length : Nat) = V.int 3) = true)
        injection this with this
        omega
      obtain ⟨v1, v2, v3, d1, d2, d3, rfl, rfl, h1, h2, h3⟩ := dp3 ha c3
      refine ⟨_, rfl, a, _, 0, v1, rfl, rfl, hs, atI_nat (j := 0) rfl, v1, d1, rfl, h1, fun H1 s1 => ⟨_, rfl, ?_⟩⟩
      have q' : ∀ H', Same H H' → Q (.bl (isSteps d1 && (isFrom 0 6 d2 && isRule d3))) H' := q
      refine ite2 (fun c1 => ?_) (fun c1 => ?_)
      · rw [c1] at q'
        refine ⟨_, rfl, a, _, 1, v2, rfl, rfl, Same.sqT s1 hs, atI_nat (j := 1) rfl, v2, d2, 0, 6, rfl, Dp.same s1 _ _ h2, _, rfl, ?_⟩
        refine ite2 (fun c2 => ?_) (fun c2 => ?_)
        · rw [c2] at q'
          exact ⟨_, rfl, a, _, 2, v3, rfl, rfl, Same.sqT s1 hs, atI_nat (j := 2) rfl, v3, d3, rfl, Dp.same s1 _ _ h3, q' H1 s1⟩
        · rw [Bool.eq_false_iff.mpr c2] at q'
          exact q' H1 s1
      · rw [Bool.eq_false_iff.mpr c1] at q'
        exact q' H1 s1
  | _ => exact q H (Same.refl H)
end
end Ag
namespace Ag
open PySem PySem.Spec PyProof.Rows L2

/-! ### the deck of random numbers: what is drawn may be any number below the limit -/
structure Deck (H : Hp) (a : Addr) (n : Nat) : Prop where
  ex : ∃ x y t : Int, H a = some (.lst [.int x, .int y, .int t]) ∧ 0 ≤ y ∧ y < 2147483579 ∧ 0 ≤ t ∧ t ≤ n
theorem Deck.mut {H : Hp} {a : Addr} {n : Nat} (d : Deck H a n) : Mut (H a) := by
  obtain ⟨x, y, t, e, _⟩ := d.ex
  rw [e]
  exact True.intro
theorem Deck.muts {H : Hp} {a : Addr} {n : Nat} (d : Deck H a n) : ∀ b ∈ [a], Mut (H b) := fun b h => by
  have e : b = a := by simpa using h
  rw [e]
  exact d.mut
theorem Deck.le {H : Hp} {a : Addr} {m n : Nat} (d : Deck H a m) (h : m ≤ n) : Deck H a n := by
  obtain ⟨x, y, t, e, h1, h2, h3, h4⟩ := d.ex
  exact ⟨x, y, t, e, h1, h2, h3, by omega⟩
theorem Deck.same {H H' : Hp} {a : Addr} {n : Nat} (d : Deck H a n) (s : Same H H') : Deck H' a n := by
  obtain ⟨x, y, t, e, h⟩ := d.ex
  exact ⟨x, y, t, s _ _ e, h⟩
theorem Deck.there {H : Hp} {a : Addr} {n : Nat} (d : Deck H a n) : ∃ o, H a = some o := by
  obtain ⟨x, y, t, e, _⟩ := d.ex
  exact ⟨_, e⟩
theorem Deck.ev {H H' : Hp} {a : Addr} {n : Nat} {M : List Addr} (d : Deck H a n) (s : Ev M H H') (h : a ∉ M) : Deck H' a n := by
  obtain ⟨x, y, t, e, q⟩ := d.ex
  exact ⟨x, y, t, s.keep _ _ e h, q⟩

section
variable {P : Program} {w : World} {K : PySem.W.Frag} {mg : Str → Option Value} {base : Heap}
def sp_law_deck : Sp := fun vs H Q _ => ∃ c t : Int, vs = [.int c, .int t] ∧ 0 ≤ t ∧ t ≤ 100 ∧ ∀ a H', Same H H' → H a = none → Deck H' a 100 → Q (.ref a) H'
theorem ok_law_deck (D : Def K mg "_law_deck" s_law_deck ["cell", "turn"]) (T : Txt K mg) : Cal P w K mg base CX0 1 "_law_deck" sp_law_deck := by
  refine D.cal sc_law_deck (fun vs H Q E h => ?_) (fun f cdv A outer s H vs Q E hr h => ?_)
  · obtain ⟨c, t, rfl, _⟩ := h
    rfl
  obtain ⟨c, t, rfl, h1, h2, q⟩ := h
  refine ⟨_, (pss_cons (ps_if (pt_cmpR op_ge (pv 0) (pe_op op_pow pe_int pe_int) (nomark _)) (pss_one (ps_ret (pe_lst (pa_cons (pe_op op_sub (pv 0) (pe_op op_pow pe_int pe_int)) (pa_cons (pe_op op_mod (pe_callTy (call_int1) (by rfl) T.b_int bo_int (pa_cons (pv 0) pa_nil)) pe_int) (pa_cons (pv 1) pa_nil)))))) pss_nil)
    (pss_one (ps_ret (pe_lst (pa_cons pe_int (pa_cons (pe_op op_mod (pe_callTy (call_int1) (by rfl) T.b_int bo_int (pa_cons (pv 0) pa_nil)) pe_int) (pa_cons (pv 1) pa_nil))))))), ?_⟩
  have fin : ∀ x : Int, ∀ a, H a = none → Q (.ref a) (upd H a (.lst [.int x, .int (c % 2147483579), .int t])) := fun x a na =>
    q a _ (same_upd na) na ⟨_, _, _, upd_same, Int.emod_nonneg _ (by decide), Int.emod_lt_of_pos _ (by decide), h1, by omega⟩
  refine ⟨_, rfl, 10, 18, rfl, rfl, ⟨by decide, by decide, by decide⟩, _, _, rfl, rfl, _, rfl, ite2 (fun _ => ?_) (fun _ => ?_)⟩
  · exact ⟨_, rfl, 10, 18, rfl, rfl, ⟨by decide, by decide, by decide⟩, _, _, rfl, rfl, _, rfl, .inl ⟨_, rfl, _, _, rfl, rfl, (by show (0 : Int) < 2147483579; decide), _, rfl, (by show 3 ≤ sizeLine; decide), fin _⟩⟩
  · exact ⟨_, rfl, .inl ⟨_, rfl, _, _, rfl, rfl, (by show (0 : Int) < 2147483579; decide), _, rfl, (by show 3 ≤ sizeLine; decide), fin _⟩⟩

def sp_law_pick : Sp := fun vs H Q _ => ∃ (a : Addr) (l : Int) (n : Nat), vs = [.ref a, .int l] ∧ Deck H a n ∧ n ≤ 1000000 ∧ 0 < l ∧ l < 1073741824 ∧
  ∀ g H', 0 ≤ g → g < l → Ev [a] H H' → Deck H' a (n + 1) → Q (.int g) H'
theorem ok_law_pick (D : Def K mg "_law_pick" s_law_pick ["deck", "limit"]) (T : Txt K mg) : Cal P w K mg base CX0 1 "_law_pick" sp_law_pick := by
  refine D.cal sc_law_pick (fun vs H Q E h => ?_) (fun f cdv A outer s H vs Q E hr h => ?_)
  · obtain ⟨a, l, n, rfl, _⟩ := h
    rfl
  obtain ⟨a, l, n, rfl, d, hn, h0, h1, q⟩ := h
  obtain ⟨x, y, t, e, y0, y1, t0, t1⟩ := d.ex
  refine ⟨_, (pss_cons (ps_if (pt_cmpR op_gt (pe_ix ix_list (pv 0) pe_int (fun _ _ => rfl)) pe_int (nomark _)) (pss_cons (ps_set (i := 2) sc_law_pick.nd rfl (Or.inl rfl) (pe_op op_mod (pe_callTy (call_int1) (by rfl) T.b_int bo_int (pa_cons (pe_ix ix_list (pv 0) pe_int (fun _ _ => rfl)) pa_nil)) (pv 1)))
    (pss_cons (ps_asg (pe_op op_fdiv (pe_ix ix_list (pv 0) pe_int (fun _ _ => rfl)) (pv 1)) (pg_sub (pv 0) pe_int set_list))
    (pss_one (ps_ret (pv 2))))) pss_nil)
    (pss_cons (ps_asg (pe_op op_add (pe_ix ix_list (pv 0) pe_int (fun _ _ => rfl)) pe_int) (pg_sub (pv 0) pe_int set_list))
    (pss_cons (ps_set (i := 3) sc_law_pick.nd rfl (Or.inl rfl) (pe_op op_mod (pe_callTy (call_int1) (by rfl) T.b_int bo_int (pa_cons (pe_op op_pow (pe_callTy (call_int1) (by rfl) T.b_int bo_int (pa_cons (pe_op op_add (pe_ix ix_list (pv 0) pe_int (fun _ _ => rfl)) (pe_op op_mul pe_int (pe_ix ix_list (pv 0) pe_int (fun _ _ => rfl)))) pa_nil)) pe_int) pa_nil)) pe_int))
    (pss_cons (ps_set (i := 2) sc_law_pick.nd rfl (Or.inl rfl) (pe_op op_fdiv (pe_op op_mod (pe_callTy (call_int1) (by rfl) T.b_int bo_int (pa_cons (pe_op op_pow (pe_callTy (call_int1) (by rfl) T.b_int bo_int (pa_cons (pe_op op_add (pv 3) (pe_op op_mul pe_int (pe_ix ix_list (pv 0) pe_int (fun _ _ => rfl)))) pa_nil)) pe_int) pa_nil)) pe_int) pe_int))
    (pss_one (ps_ret (pe_op op_mod (pe_callTy (call_int1) (by rfl) T.b_int bo_int (pa_cons (pv 2) pa_nil)) (pv 1)))))))), ?_⟩
  refine ⟨_, rfl, a, _, 0, .int x, rfl, rfl, SqL.of e, atI_nat (j := 0) rfl, x, 1, rfl, rfl, _, rfl, ite2 (fun c => ?_) (fun c => ?_)⟩
  · have c' : (1 : Int) < x := of_decide_eq_true c
    refine ⟨_, rfl, a, _, 0, .int x, rfl, rfl, SqL.of e, atI_nat (j := 0) rfl, .inl ⟨x, rfl, _, rfl, x, l, rfl, rfl, h0, ?_⟩⟩
    refine ⟨_, rfl, a, _, 0, .int x, rfl, rfl, SqL.of e, atI_nat (j := 0) rfl, _, rfl, x, l, rfl, rfl, ⟨h0, h1⟩, _, rfl, a, _, 0, 0, rfl, rfl, e, rfl, _, rfl, ?_⟩
    exact q (x % l) _ (Int.emod_nonneg _ (by omega)) (Int.emod_lt_of_pos _ h0) (ev_upd (by rw [e]; exact True.intro)) ⟨x / l, y, t, upd_same, y0, y1, t0, by omega⟩
  · have e1 : (upd H a (.lst [.int x, .int y, .int (t + 1)])) a = some (.lst [.int x, .int y, .int (t + 1)]) := upd_same
    refine ⟨_, rfl, a, _, 2, .int t, rfl, rfl, SqL.of e, atI_nat (j := 2) rfl, t, 1, rfl, rfl, _, rfl, a, _, 2, 2, rfl, rfl, e, rfl, ?_⟩
    refine ⟨_, rfl, a, _, 1, .int y, rfl, rfl, SqL.of e1, atI_nat (j := 1) rfl, _, rfl, a, _, 2, .int (t + 1), rfl, rfl, SqL.of e1, atI_nat (j := 2) rfl, 15485867, t + 1, rfl, rfl, .inl ⟨by decide, by decide⟩, y, _, rfl, rfl, .inl ⟨_, rfl, ?_⟩⟩
    refine ⟨_, 5, rfl, rfl, ⟨by decide, by decide, by omega⟩, .inl ⟨_, rfl, _, 2147483647, rfl, rfl, (by show (0 : Int) < 2147483647; decide), ?_⟩⟩
    show tSeq _ _ _ (([some (.ref a), some (.int l), none, none] : L2.St).set 3 (some (.int (((y + 15485867 * (t + 1)) ^ (5 : Int).toNat) % 2147483647)))) _
    have g0 : 0 ≤ ((y + 15485867 * (t + 1)) ^ (5 : Int).toNat) % 2147483647 := Int.emod_nonneg _ (by decide)
    have g1 : ((y + 15485867 * (t + 1)) ^ (5 : Int).toNat) % 2147483647 < 2147483647 := Int.emod_lt_of_pos _ (by decide)
    generalize ((y + 15485867 * (t + 1)) ^ (5 : Int).toNat) % 2147483647 = g at g0 g1 ⊢
    refine ⟨_, rfl, _, rfl, a, _, 2, .int (t + 1), rfl, rfl, SqL.of e1, atI_nat (j := 2) rfl, 7919, t + 1, rfl, rfl, .inl ⟨by decide, by decide⟩, g, _, rfl, rfl, .inl ⟨_, rfl, _, 3, rfl, rfl, ⟨by decide, by decide, by omega⟩, .inl ⟨_, rfl, _, 2147483629, rfl, rfl, (by show (0 : Int) < 2147483629; decide), _, 32, rfl, rfl, ⟨by decide, by decide⟩, ?_⟩⟩⟩
    refine ⟨_, rfl, .inl ⟨_, rfl, _, rfl, _, l, rfl, rfl, h0, ?_⟩⟩
    exact q _ _ (Int.emod_nonneg _ (by omega)) (Int.emod_lt_of_pos _ h0) (ev_upd (by rw [e]; exact True.intro)) ⟨x, y, t + 1, e1, y0, y1, by omega, by omega⟩

/-- what a drawn setup is -/
structure Drawn (K : PySem.W.Frag) (H : Hp) (p : Addr) (ps : List Int) (s : Int) (kd : Str) : Prop where
  ex : ∃ q, SqT K H p [.ref q, .int s, .str kd] ∧ SqT K H q (ps.map V.int)
def Kind (kd : Str) : Prop := kd = "low" ∨ kd = "put" ∨ kd = "use"
structure DrawnOk (most high : Int) (ps : List Int) (s : Int) (kd : Str) : Prop where
  l1 : 1 ≤ ps.length
  l3 : ps.length ≤ 3
  pos : ∀ x ∈ ps, 1 ≤ x ∧ x ≤ most
  s0 : 0 ≤ s
  s1 : s ≤ high
  kd : Kind kd
def sp_law_drawn (K : PySem.W.Frag) : Sp := fun vs H Q _ => ∃ (a : Addr) (most high : Int) (n : Nat), vs = [.ref a, .int most, .int high] ∧ Deck H a n ∧ n ≤ 900000 ∧ 1 ≤ most ∧ most ≤ 1000 ∧ 0 ≤ high ∧ high ≤ 1000 ∧
  ∀ p ps s kd H', Ev [a] H H' → Deck H' a (n + 7) → Drawn K H' p ps s kd → DrawnOk most high ps s kd → Q (.ref p) H'
theorem ints_app (ps : List Int) (x : Int) : ps.map V.int ++ [.int x] = (ps ++ [x]).map V.int := by simp
theorem pick3 {α : Type} {a b c : α} {g : Int} (h0 : 0 ≤ g) (h1 : g < 3) : ∃ v, atI [a, b, c] g = some v ∧ (v = a ∨ v = b ∨ v = c) := by
  have h : g = 0 ∨ g = 1 ∨ g = 2 := by omega
  rcases h with rfl | rfl | rfl
  · exact ⟨a, rfl, .inl rfl⟩
  · exact ⟨b, rfl, .inr (.inl rfl)⟩
  · exact ⟨c, rfl, .inr (.inr rfl)⟩
theorem ok_law_drawn (D : Def K mg "_law_drawn" s_law_drawn ["deck", "most", "high"]) (T : Txt K mg) (C_law_pick : Cal P w K mg base CX0 1 "_law_pick" sp_law_pick) : Cal P w K mg base CX0 2 "_law_drawn" (sp_law_drawn K) := by
  refine D.cal sc_law_drawn (fun vs H Q E h => ?_) (fun f cdv A outer s H vs Q E hr h => ?_)
  · obtain ⟨a, most, high, n, rfl, _⟩ := h
    rfl
  obtain ⟨a, most, high, n, rfl, d, hn, m0, m1, i0, i1, q⟩ := h
  refine ⟨_, (pss_cons (ps_setLc (i := 3) (own := [("turn", 4)]) rfl sc_law_drawn.nd rfl rfl (sw_true rfl rfl rfl (by decide +kernel)) (pi_range1 (by rfl) T.b_range (pa_cons (pe_ix ix_list (pe_lst (pa_cons pe_int (pa_cons pe_int (pa_cons pe_int (pa_cons pe_int (pa_cons pe_int pa_nil)))))) (pe_c C_law_pick hr (by omega) (by rfl) (pa_cons (pv 0) (pa_cons pe_int pa_nil))) (fun _ _ => rfl)) pa_nil)) (blkOk_by (own := [("turn", 4)]) (N := ["deck", "most", "high", "paces", "turn"]) (sc := defScope s_law_drawn) (by decide +kernel)) (fun _ _ _ _ _ => (pg_name (i := 4) sc_law_drawn.nd rfl (Or.inl rfl))) (fun _ _ _ _ _ => pts_nil) (fun _ _ _ _ _ => (pe_op op_add pe_int (pe_c C_law_pick hr (by omega) (by rfl) (pa_cons (pv 0) (pa_cons (pv 1) pa_nil))))))
    (C8.pss_cut (ps_if (pt_cmpR op_eq (pe_c C_law_pick hr (by omega) (by rfl) (pa_cons (pv 0) (pa_cons pe_int pa_nil))) pe_int (nomark _)) (pss_one (ps_asg pe_int (pg_sub (pv 3) pe_int set_list))) pss_nil)
    (pss_one (ps_ret (pe_tupS (pa_cons (pe_callTy (call_tupS) (by rfl) T.b_tuple bo_tuple (pa_cons (pv 3) pa_nil)) (pa_cons (pe_c C_law_pick hr (by omega) (by rfl) (pa_cons (pv 0) (pa_cons (pe_op op_add (pv 2) pe_int) pa_nil))) (pa_cons (pe_ix ix_list (pe_lst (pa_cons pe_str (pa_cons pe_str (pa_cons pe_str pa_nil)))) (pe_c C_law_pick hr (by omega) (by rfl) (pa_cons (pv 0) (pa_cons pe_int pa_nil))) (fun _ _ => rfl)) pa_nil)))))))), ?_⟩
  refine ⟨by decide, fun L nL => ?_⟩
  have dL := d.same (same_upd (o := .lst [.int 1, .int 2, .int 2, .int 2, .int 3]) nL)
  refine ⟨_, rfl, a, 5, n, rfl, dL, by omega, by decide, by decide, fun g H1 g0 g1 ev1 d1 => ?_⟩
  have naL : L ≠ a := fun z => by
    obtain ⟨o, e⟩ := d.there
    rw [← z, nL] at e
    cases e
  have eL : H1 L = some (.lst [.int 1, .int 2, .int 2, .int 2, .int 3]) := ev1.keep _ _ upd_same (by simpa using naL)
  have ev01 : Ev [a] H H1 := sThen (same_upd nL) ev1 d.muts
  obtain ⟨m, hm, hm1, hm3⟩ : ∃ m : Nat, atI [V.int 1, .int 2, .int 2, .int 2, .int 3] g = some (.int (m : Int)) ∧ 1 ≤ m ∧ m ≤ 3 := by
    have h : g = 0 ∨ g = 1 ∨ g = 2 ∨ g = 3 ∨ g = 4 := by omega
    rcases h with rfl | rfl | rfl | rfl | rfl
    · exact ⟨1, rfl, by decide, by decide⟩
    · exact ⟨2, rfl, by decide, by decide⟩
    · exact ⟨2, rfl, by decide, by decide⟩
    · exact ⟨2, rfl, by decide, by decide⟩
    · exact ⟨3, rfl, by decide, by decide⟩
  refine ⟨L, _, g, _, rfl, rfl, SqL.of eL, hm, _, rfl, by omega, by omega, fun R nR => ?_⟩
  refine lc_range (lo := 0) (n := (m : Int).toNat) (fun i H' => ∃ ps : List Int, Ev [a] H H' ∧ Deck H' a (n + 1 + i) ∧ H' R = some (.lst (ps.map V.int)) ∧ ps.length = i ∧ ∀ x ∈ ps, 1 ≤ x ∧ x ≤ most) ⟨[], ev01.then_same (same_upd nR), d1.same (same_upd nR), upd_same, rfl, fun _ z => nomatch z⟩ (fun i H' hi h' => ?_) (fun H' h' => ?_)
  · obtain ⟨ps, ev, dk, eR, el, hp⟩ := h'
    have hi' : i < 3 := by omega
    have naR : R ≠ a := fun z => by
      obtain ⟨o, e⟩ := d1.there
      rw [← z, nR] at e
      cases e
    refine ⟨rfl, _, rfl, _, rfl, a, most, n + 1 + i, rfl, dk, by omega, by omega, by omega, fun g2 H2 g20 g21 ev2 d2 => ?_⟩
    refine ⟨1, g2, rfl, rfl, _, ev2.keep _ _ eR (by simpa using naR), ?_, ps ++ [1 + g2], ?_, ?_, ?_, ?_, ?_⟩
    · rw [List.length_map]
      exact small1000 (by omega)
    · refine ⟨fun b o e hb => ?_, d.muts⟩
      have hbR : b ≠ R := fun z => by
        have := ev01.free nR (by simpa using naR)
        rw [z, this] at e
        cases e
      rw [upd_ne hbR]
      exact ev2.keep _ _ (ev.keep _ _ e hb) hb
    · obtain ⟨x, y, t, e, h⟩ := d2.ex
      exact ⟨x, y, t, by rw [upd_ne naR.symm]; exact e, by obtain ⟨h1, h2, h3, h4⟩ := h; exact ⟨h1, h2, h3, by omega⟩⟩
    · rw [upd_same, ints_app]
    · simp [el]
    · intro x hx
      rcases List.mem_append.mp hx with hx | hx
      · exact hp x hx
      · have : x = 1 + g2 := by simpa using hx
        omega
  · obtain ⟨ps, ev, dk, eR, el, hp⟩ := h'
    have el' : ps.length = m := by omega
    have naR : R ≠ a := fun z => by
      obtain ⟨o, e⟩ := d1.there
      rw [← z, nR] at e
      cases e
    have nR0 : H R = none := ev01.free nR (by simpa using naR)
    refine ⟨fun σ H3 => ∃ ps : List Int, σ = [some (.ref a), some (.int most), some (.int high), some (.ref R), none] ∧ Ev [a] H H3 ∧ Deck H3 a (n + 5) ∧ H3 R = some (.lst (ps.map V.int)) ∧ ps.length = m ∧ ∀ x ∈ ps, 1 ≤ x ∧ x ≤ most, ?_, ?_⟩
    · refine ⟨_, rfl, a, 3, _, rfl, dk, by omega, by decide, by decide, fun g2 H2 _ _ ev2 d2 => ⟨rfl, _, rfl, ?_⟩⟩
      have eR2 := ev2.keep _ _ eR (by simpa using naR)
      have ev' := ev.trans ev2
      refine ite2 (fun _ => ?_) (fun _ => ?_)
      · cases ps with
        | nil => exact absurd el' (by simp; omega)
        | cons x r =>
          refine ⟨_, rfl, R, _, 0, 0, rfl, rfl, eR2, ?_, 1 :: r, rfl, ?_, ?_, ?_, el', fun z hz => ?_⟩
          · exact ixN_nat (j := 0) (by simp)
          · refine ⟨fun b o e hb => ?_, d.muts⟩
            rw [upd_ne (ne_of_none e nR0)]
            exact ev'.keep _ _ e hb
          · refine (Deck.le ?_ (show n + 1 + (m : Int).toNat + 1 ≤ n + 5 by omega))
            exact d2.ev (ev_upd (by rw [eR2]; exact True.intro)) (by simpa using naR.symm)
          · rw [upd_same]
            rfl
          · rcases List.mem_cons.mp hz with rfl | hz
            · exact ⟨by omega, m0⟩
            · exact hp z (List.mem_cons_of_mem _ hz)
      · exact ⟨ps, rfl, ev', d2.le (by omega), eR2, el', hp⟩
    · rintro σ H3 ⟨ps, rfl, ev3, d3, e3, el3, hp3⟩
      refine ⟨_, rfl, R, _, rfl, .inl (SqL.of e3), fun tq H4 s4 t4 => ?_⟩
      refine ⟨_, rfl, _, rfl, _, _, rfl, rfl, a, high + 1, n + 5, rfl, d3.same s4, by omega, by omega, by omega, fun g4 H5 g40 g41 ev5 d5 => ?_⟩
      refine ⟨by decide, fun L2 nL2 => ?_⟩
      refine ⟨_, rfl, a, 3, n + 6, rfl, d5.same (same_upd nL2), by omega, by decide, by decide, fun g6 H7 g60 g61 ev7 d7 => ?_⟩
      have naL2 : L2 ≠ a := fun z => by
        obtain ⟨o, e⟩ := d5.there
        rw [← z, nL2] at e
        cases e
      have eL2 := ev7.keep _ _ upd_same (by simpa using naL2)
      obtain ⟨v, hv, hv2⟩ := pick3 (a := V.str "low") (b := V.str "put") (c := V.str "use") g60 g61
      have t7 : SqT K H7 tq (ps.map V.int) := ev7.sqT (Same.sqT (same_upd nL2) (ev5.sqT t4))
      have ev' : Ev [a] H H7 := ((((ev3.then_same s4).trans ev5).then_same (same_upd nL2)).trans ev7)
      refine ⟨L2, _, g6, v, rfl, rfl, SqL.of eL2, hv, (by show 3 ≤ sizeLine; decide), fun p H8 s8 t8 => ?_⟩
      have ok : ∀ kd, Kind kd → DrawnOk most high ps g4 kd := fun kd hk => ⟨by omega, by omega, hp3, g40, by omega, hk⟩
      rcases hv2 with rfl | rfl | rfl
      · exact q p ps g4 "low" H8 (ev'.then_same s8) (d7.same s8) ⟨tq, t8, Same.sqT s8 t7⟩ (ok _ (.inl rfl))
      · exact q p ps g4 "put" H8 (ev'.then_same s8) (d7.same s8) ⟨tq, t8, Same.sqT s8 t7⟩ (ok _ (.inr (.inl rfl)))
      · exact q p ps g4 "use" H8 (ev'.then_same s8) (d7.same s8) ⟨tq, t8, Same.sqT s8 t7⟩ (ok _ (.inr (.inr rfl)))
end
end Ag
namespace Ag
open PySem PySem.Spec PyProof.Rows L2
/-! ### list + list, of lists that are only read -/
def rCatL (K : PySem.W.Frag) : R2 := fun x y H Q => ∃ l b xs zs, x = .ref l ∧ y = .ref b ∧ SqL K H l xs ∧ SqL K H b zs ∧ xs.length + zs.length ≤ sizeLine ∧ ∀ p, H p = none → Q (.ref p) (upd H p (.lst (xs ++ zs)))
theorem op_catL {X : Cx} : OpR X (binaryOp .Add) (rCatL X.K) := by
  intro pins s σ H x y v u Q I rx ry h
  obtain ⟨l, b, xs, zs, rfl, rfl, hH, hB, hz, q⟩ := h
  cases rx
  cases ry
  obtain ⟨its, r, ⟨⟨cls, dd, data, sl⟩, n, ho, hc, _, hd⟩, _⟩ := I.list hH
  obtain ⟨its2, r2, ⟨⟨cls2, dd2, data2, sl2⟩, n2, ho2, hc2, _, hd2⟩, _⟩ := I.list hB
  simp only at hc hd hc2 hd2
  subst hc hd hc2 hd2
  have l1 := r.length
  have l2 := r2.length
  have e : its.toArray ++ its2.toArray = (its ++ its2).toArray := by simp
  refine concat_meets ⟨_, ho, rfl⟩ ⟨_, ho2, rfl⟩ noFill_list_add seq_list_add PySem.F.slot_list_add PySem.F.entry_list_add (PySem.F.args_list_add_2 _ _) (list_addW l b its.toArray its2.toArray n n2 dd dd2 sl sl2 (by rw [List.size_toArray, List.size_toArray]; omega)) ⟨ho, ho2, ?_⟩
  rw [e]
  exact ⟨.ref _, _, I.lnew (t' := s.toks) (r.append r2) (by rw [List.length_append]; omega), rfl, q _ I.fresh⟩
theorem cut_ints (ns : List Int) (lo hi : Option Int) : ∃ cs : List Int, cutV (ns.map V.int) lo hi = cs.map V.int ∧ cs.length ≤ ns.length := by
  refine ⟨(ns.drop (HT.sIx (ns.map V.int).length 0 lo)).take (HT.sIx (ns.map V.int).length (ns.map V.int).length hi - HT.sIx (ns.map V.int).length 0 lo), ?_, ?_⟩
  · unfold cutV
    rw [List.map_take, List.map_drop]
  · rw [List.length_take, List.length_drop]
    omega
theorem at_ints {cs : List Int} {i : Nat} {x : V} (h : (cs.map V.int)[i]? = some x) : ∃ c, x = .int c := by
  rw [List.getElem?_map] at h
  cases e : cs[i]? with
  | none => rw [e] at h; cases h
  | some z => rw [e] at h; exact ⟨z, (Option.some.inj h).symm⟩
end Ag
namespace Ag
open PySem PySem.Spec PyProof.Rows L2

/-! ### dicts whose keys are nested tuples of whole numbers and None -/
mutual
/-- the value v stands for the key k -/
inductive NK (K : PySem.W.Frag) (H : Hp) : NestedKey → V → Prop
  | non : NK K H .none .non
  | num (i : Int) : NK K H (.num i) (.int i)
  | tup {a : Addr} {xs : List V} {ks : List NestedKey} : SqT K H a xs → NKs K H ks xs → NK K H (.tup ks) (.ref a)
inductive NKs (K : PySem.W.Frag) (H : Hp) : List NestedKey → List V → Prop
  | nil : NKs K H [] []
  | cons {k : NestedKey} {v : V} {ks : List NestedKey} {vs : List V} : NK K H k v → NKs K H ks vs → NKs K H (k :: ks) (v :: vs)
end
mutual
theorem NK.ev {K : PySem.W.Frag} {H H' : Hp} {M : List Addr} (e : Ev M H H') : ∀ (k : NestedKey) (v : V), NK K H k v → NK K H' k v
  | .none, _, h => by cases h; exact .non
  | .num _, _, h => by cases h; exact .num _
  | .text _, _, h => by cases h
  | .tup ks, _, h => by
    cases h with
    | tup a b => exact .tup (e.sqT a) (NKs.ev e ks _ b)
theorem NKs.ev {K : PySem.W.Frag} {H H' : Hp} {M : List Addr} (e : Ev M H H') : ∀ (ks : List NestedKey) (vs : List V), NKs K H ks vs → NKs K H' ks vs
  | [], _, h => by cases h; exact .nil
  | k :: ks, _, h => by
    cases h with
    | cons a b => exact .cons (NK.ev e k _ a) (NKs.ev e ks _ b)
end
section
variable {X : Cx} {pins : List (Addr × Obj)} {σ : L2.St} {H : Hp} {s : Shared}
mutual
theorem NK.is (I : Inv X pins σ H s) : ∀ (k : NestedKey) (v : V) (u : Value), NK X.K H k v → RelV v u → NestedIs s.heap k u
  | .none, _, _, h, r => by cases h; cases r; exact .none
  | .num i, _, _, h, r => by cases h; obtain ⟨t, rfl⟩ := r; exact .int i t
  | .text _, _, _, h, _ => by cases h
  | .tup ks, _, _, h, r => by
    cases h with
    | tup a b =>
      cases r
      obtain ⟨its, rv, ⟨o, ho, hc, n, hd⟩, _⟩ := I.tuple a
      exact .tup ho hc hd (NKs.is I ks _ _ b (by simpa using rv))
theorem NKs.is (I : Inv X pins σ H s) : ∀ (ks : List NestedKey) (vs : List V) (us : List Value), NKs X.K H ks vs → Vals vs us → NestedAll s.heap ks us
  | [], _, _, h, r => by cases h; cases r; exact .nil
  | k :: ks, _, _, h, r => by
    cases h with
    | cons a b =>
      cases r with
      | cons r1 r2 => exact .cons (NK.is I k _ _ a r1) (NKs.is I ks _ _ b r2)
end
end
/-- the dict's own object -/
def NDp (P : Program) (w : World) (d : Addr) (xs : List (NestedKey × Addr × Value)) : Heap → Prop := fun h => (d == sysModules) = false ∧ xs.length ≤ sizeLine ∧
  ∃ o es ep, h.get? d = some o ∧ o.ExactDict ∧ o.data = .dict es ep ∧ es.toList = xs.map (entryOfKey (nestedKind P w)) ∧ (xs.map (·.1)).Nodup
abbrev NPair (K : PySem.W.Frag) (H : Hp) : NestedKey × V → NestedKey × Addr × Value → Prop := fun p q => p.1 = q.1 ∧ NK K H p.1 (.ref q.2.1) ∧ p.1.depth ≤ 8 ∧ RelV p.2 q.2.2
/-- a dict at d with these pairs -/
structure ND (P : Program) (w : World) (K : PySem.W.Frag) (H : Hp) (d : Addr) (kvs : List (NestedKey × V)) : Prop where
  ex : ∃ xs, H d = some (.ext (NDp P w d xs)) ∧ Paired (NPair K H) kvs xs
section
variable {P : Program} {w : World} {K : PySem.W.Frag} {H H' : Hp} {d : Addr} {kvs : List (NestedKey × V)}
theorem ND.mut (h : ND P w K H d kvs) : Mut (H d) := by
  obtain ⟨xs, e, _⟩ := h.ex
  rw [e]
  exact True.intro
theorem ND.there (h : ND P w K H d kvs) : ∃ o, H d = some o := by
  obtain ⟨xs, e, _⟩ := h.ex
  exact ⟨_, e⟩
theorem ND.ev {M : List Addr} (h : ND P w K H d kvs) (e : Ev M H H') (hd : d ∉ M) : ND P w K H' d kvs := by
  obtain ⟨xs, e1, r⟩ := h.ex
  exact ⟨xs, e.keep _ _ e1 hd, Paired.mapP r fun p q z => ⟨z.1, NK.ev e _ _ z.2.1, z.2.2⟩⟩
theorem ND.same (h : ND P w K H d kvs) (e : Same H H') : ND P w K H' d kvs := h.ev (sEv0 e) (by simp)
theorem np_val {xs : List (NestedKey × Addr × Value)} (r : Paired (NPair K H) kvs xs) (k : NestedKey) : RelO (valV kvs k) ((atKey xs k).map (·.2)) := by
  induction r with
  | nil => exact True.intro
  | @cons p q ps qs h t ih =>
    obtain ⟨h1, _, _, h2⟩ := h
    by_cases e : p.1 = k
    · have e' : q.1 = k := h1.symm.trans e
      have b : atKey (q :: qs) k = some q.2 := by simp [atKey, List.find?_cons, e']
      rw [valV_pos e, b]
      exact h2
    · have e' : ¬ q.1 = k := fun z => e (h1.trans z)
      have b : atKey (q :: qs) k = atKey qs k := by simp [atKey, List.find?_cons, e']
      rw [valV_neg e, b]
      exact ih
theorem np_repl {xs : List (NestedKey × Addr × Value)} (r : Paired (NPair K H) kvs xs) (k : NestedKey) {y : V} {u : Value} (ry : RelV y u) :
    Paired (NPair K H) (kvs.map fun kv => if kv.1 = k then (kv.1, y) else kv) (xs.map (putAt k u)) := by
  induction r with
  | nil => exact .nil
  | @cons p q ps qs h t ih =>
    rw [List.map_cons, List.map_cons]
    refine .cons ?_ ih
    obtain ⟨h1, h2, h3, h4⟩ := h
    unfold putAt
    by_cases e : p.1 = k
    · rw [if_pos e, if_pos (h1.symm.trans e)]
      exact ⟨h1, h2, h3, ry⟩
    · rw [if_neg e, if_neg (fun z => e (h1.trans z))]
      exact ⟨h1, h2, h3, h4⟩
theorem np_put {xs : List (NestedKey × Addr × Value)} (r : Paired (NPair K H) kvs xs) (k : NestedKey) {b : Addr} {y : V} {u : Value} (hb : NK K H k (.ref b)) (hk : k.depth ≤ 8) (ry : RelV y u) :
    Paired (NPair K H) (putK kvs k y) (storedH xs k b u) := by
  have e : (kvs.any fun kv => decide (kv.1 = k)) = (atKey xs k).isSome := by
    rw [valV_any, (np_val r k).isSome_eq, Option.isSome_map]
  unfold putK storedH
  rw [e]
  by_cases q : (atKey xs k).isSome = true
  · rw [if_pos q, if_pos q]
    exact np_repl r k ry
  · rw [if_neg q, if_neg q]
    exact Paired.snoc r ⟨rfl, hb, hk, ry⟩
end
section
variable {X : Cx} {pins : List (Addr × Obj)} {σ : L2.St} {H : Hp} {s : Shared} {d : Addr} {kvs : List (NestedKey × V)} {A : Around} {E : Value → Shared → Prop}
theorem ND.laid (I : Inv X pins σ H s) (h : ND X.prog X.w X.K H d kvs) : (d == sysModules) = false ∧ ∃ xs, xs.length ≤ sizeLine ∧ H d = some (.ext (NDp X.prog X.w d xs)) ∧ Paired (NPair X.K H) kvs xs ∧ s.heap.DictOfH (nestedKind X.prog X.w) d xs := by
  obtain ⟨xs, e, r⟩ := h.ex
  obtain ⟨⟨h1, hz, o, es, ep, h2, h3, h4, h5, h6⟩, _, _⟩ := (show ObjOk X.prog X.w H s.heap d (.ext (NDp X.prog X.w d xs)) from I.hok d _ e)
  refine ⟨h1, xs, hz, e, r, o, es, ep, h2, h3, h4, h5, fun x hx => ?_, h6⟩
  have all : ∀ {l : List (NestedKey × V)} {m : List (NestedKey × Addr × Value)}, Paired (NPair X.K H) l m → ∀ x ∈ m, (nestedKind X.prog X.w).is s.heap x.1 x.2.1 := by
    intro l m q
    induction q with
    | nil => intro x hx; exact nomatch hx
    | @cons p q ps qs hq t ih =>
      intro x hx
      rcases List.mem_cons.mp hx with rfl | hx
      · refine ⟨NK.is I _ (.ref _) _ (by rw [← hq.1]; exact hq.2.1) rfl, by rw [← hq.1]; exact hq.2.2.1⟩
      · exact ih x hx
  exact all r x hx
theorem room8 (hu : A.units + 64 < cLine) : (nestedKind X.prog X.w).room A.in1 := by
  show A.in1.units + 8 < cLine
  rw [Around.in1_units]
  omega
theorem tup_key {k : NestedKey} {v : V} (h : NK X.K H k v) (hv : ∃ b, v = .ref b) : ∃ b, v = .ref b ∧ NK X.K H k (.ref b) := by
  obtain ⟨b, rfl⟩ := hv
  exact ⟨b, rfl, h⟩
end

/-- d[y] -/
def tNGet (P : Program) (w : World) (K : PySem.W.Frag) (td ty : TE) : TE := fun σ H Q => td σ H fun x H1 => ty σ H1 fun y H2 => ∃ a b kvs k v, x = .ref a ∧ y = .ref b ∧ ND P w K H2 a kvs ∧ NK K H2 k (.ref b) ∧ k.depth ≤ 8 ∧ valV kvs k = some v ∧ Q v H2
/-- y in d, y not in d -/
def tNIn (P : Program) (w : World) (K : PySem.W.Frag) (neg : Bool) (ty td : TE) : TE := fun σ H Q => ty σ H fun y H1 => td σ H1 fun x H2 => ∃ a b kvs k, x = .ref a ∧ y = .ref b ∧ ND P w K H2 a kvs ∧ NK K H2 k (.ref b) ∧ k.depth ≤ 8 ∧ Q (.bl (if neg then !(valV kvs k).isSome else (valV kvs k).isSome)) H2
/-- the heap behind a[y] = v -/
structure NPut (P : Program) (w : World) (K : PySem.W.Frag) (H : Hp) (a : Addr) (kvs : List (NestedKey × V)) (k : NestedKey) (v : V) (H' : Hp) : Prop where
  nd : ND P w K H' a (putK kvs k v)
  ev : Ev [a] H H'
/-- d[y] = v -/
def sNPut (P : Program) (w : World) (K : PySem.W.Frag) (td ty tv : TE) : TS := fun D σ H => tv σ H fun v H1 => td σ H1 fun x H2 => ty σ H2 fun y H3 => ∃ a b kvs k, x = .ref a ∧ y = .ref b ∧ ND P w K H3 a kvs ∧ NK K H3 k (.ref b) ∧ k.depth ≤ 8 ∧ kvs.length < sizeLine ∧
  ∀ H4, NPut P w K H3 a kvs k v H4 → D.nx σ H4
/-- {} -/
def tNNew (P : Program) (w : World) (K : PySem.W.Frag) : TE := fun _ H Q => ∀ p H', H p = none → Same H H' → ND P w K H' p [] → Q (.ref p) H'
section
variable {X : Cx} {o i e value : Expr} {pos pos' tpos : Pos} {td ty tv : TE}
theorem nd_put {kvs : List (NestedKey × V)} {pins : List (Addr × Obj)} {σ : L2.St} {H : Hp} {s : Shared} {a b : Addr} {k : NestedKey} {v : V} {r : Value} {Q : Unit → Shared → Prop} {A : Around} {E : Value → Shared → Prop} (hu : A.units + 64 < cLine) (I : Inv X pins σ H s)
    (g : ND X.prog X.w X.K H a kvs) (hk : NK X.K H k (.ref b)) (h8 : k.depth ≤ 8) (hz : kvs.length < sizeLine) (rv : RelV v r) (h : ∀ H4, NPut X.prog X.w X.K H a kvs k v H4 → ∀ s', Inv X pins σ H4 s' → Q () s') :
    wpAny (model X.prog X.w) A (setItem (.ref a) (.ref b) r) Q E s := by
  obtain ⟨hd, xs, hxz, e, rel, dd⟩ := ND.laid I g
  have hl : xs.length = kvs.length := (Paired.length rel).symm
  have hk' : (nestedKind X.prog X.w).is s.heap k b := ⟨NK.is I k _ _ hk rfl, h8⟩
  refine wpAny_setItem_heap (hsz := hxz) (room8 (X := X) hu) hk' dd fun h' dd' hs => ?_
  obtain ⟨q, es, ep, hq, h2, h3, h4, _, h5⟩ := dd'
  have rel' := np_put rel k hk h8 rv
  have hl2 : (storedH xs k b r).length ≤ sizeLine := by
    rw [← Paired.length rel']
    have := length_putK kvs k v
    omega
  have ev : Ev [a] H (upd H a (.ext (NDp X.prog X.w a (storedH xs k b r)))) := ev_upd (by rw [e]; exact True.intro)
  refine h (upd H a (.ext (NDp X.prog X.w a (storedH xs k b r)))) ⟨⟨_, upd_same, Paired.mapP rel' fun p q z => ⟨z.1, NK.ev ev _ _ z.2.1, z.2.2⟩⟩, ev⟩ _ ?_
  refine d_write I (by rw [e]; exact True.intro) hs ⟨q, hq⟩ ⟨⟨hd, hl2, q, es, ep, hq, h2, h3, h4, h5⟩, ⟨q, hq⟩, fun h1 h2' ph st => ?_⟩
  obtain ⟨y1, y2, o', es', ep', k1, k2, k3, k4, k5⟩ := ph
  exact ⟨y1, y2, o', es', ep', st _ k1, k2, k3, k4, k5⟩
theorem pe_nget (hu : X.A.units + 64 < cLine) (ho : PE X o td) (hi : PE X i ty) (hs : NoSl i) : PE X (.Subscript o i pos) (tNGet X.prog X.w X.K td ty) := by
  refine ⟨fun pins s σ H Q I h => ?_⟩
  refine subD_of PySem.F.slot_dict_getitem.lookup hs (thn (ho.run pins s σ H _ I h) fun u s1 ⟨x, H1, I1, rx, q1⟩ => thn (hi.run pins s1 σ H1 _ I1 q1) fun iv s2 ⟨y, H2, I2, ry, a, b, kvs, k, v, ex, ey, g, hk, h8, l, q2⟩ => ?_)
  subst ex ey
  cases rx
  cases ry
  obtain ⟨hd, xs, _, e, rel, dd⟩ := ND.laid I2 g
  obtain ⟨w', hw, rw'⟩ := RelO.some_of (v := v) (o := (atKey xs k).map (·.2)) (by rw [← l]; exact np_val rel k)
  obtain ⟨p, hp, hp2⟩ := Option.map_eq_some_iff.mp hw
  refine ⟨dd.typeIs, wpAny_getItem_heap (room8 (X := X) hu) ⟨NK.is I2 k _ _ hk rfl, h8⟩ dd hp ?_⟩
  rw [hp2]
  exact ⟨v, H2, I2.tok _, rw', q2⟩
theorem pc_nin (hu : X.A.units + 64 < cLine) (hi : PE X i ty) (ho : PE X o td) : PC X .In i o (tNIn X.prog X.w X.K false ty td) := by
  refine ⟨fun pins s σ H Q I h => ?_⟩
  refine thn (hi.run pins s σ H _ I h) fun iv s1 ⟨y, H1, I1, ry, q1⟩ => thn (ho.run pins s1 σ H1 _ I1 q1) fun u s2 ⟨x, H2, I2, rx, a, b, kvs, k, ex, ey, g, hk, h8, q2⟩ => ?_
  subst ex ey
  cases rx
  cases ry
  obtain ⟨hd, xs, _, e, rel, dd⟩ := ND.laid I2 g
  refine wpAny_in_heap (room8 (X := X) hu) ⟨NK.is I2 k _ _ hk rfl, h8⟩ hd dd ?_
  have z := (np_val rel k).isSome_eq
  rw [Option.isSome_map] at z
  rw [← z]
  exact ⟨.bl (valV kvs k).isSome, H2, I2.tok _, rfl, q2⟩
theorem pc_nnotin (hu : X.A.units + 64 < cLine) (hi : PE X i ty) (ho : PE X o td) : PC X .NotIn i o (tNIn X.prog X.w X.K true ty td) := by
  refine ⟨fun pins s σ H Q I h => ?_⟩
  refine thn (hi.run pins s σ H _ I h) fun iv s1 ⟨y, H1, I1, ry, q1⟩ => thn (ho.run pins s1 σ H1 _ I1 q1) fun u s2 ⟨x, H2, I2, rx, a, b, kvs, k, ex, ey, g, hk, h8, q2⟩ => ?_
  subst ex ey
  cases rx
  cases ry
  obtain ⟨hd, xs, _, e, rel, dd⟩ := ND.laid I2 g
  refine wpAny_notIn_heap (room8 (X := X) hu) ⟨NK.is I2 k _ _ hk rfl, h8⟩ hd dd ?_
  have z := (np_val rel k).isSome_eq
  rw [Option.isSome_map] at z
  rw [← z]
  exact ⟨.bl (!(valV kvs k).isSome), H2, I2.tok _, rfl, q2⟩
theorem ps_nput (hu : X.A.units + 64 < cLine) (ho : PE X o td) (hi : PE X i ty) (hv : PE X value tv) (hs : swapsWith value (some (.Subscript o i pos')) pos.line X.env = pure false) :
    PS X (.Assign [.Subscript o i pos'] value pos) (sNPut X.prog X.w X.K td ty tv) := by
  refine ⟨fun pins s σ H D I h => ?_⟩
  refine wpAny_Assign_Subscript (thn (hv.run pins s σ H _ I h) fun r s1 ⟨v, H1, I1, rv, q1⟩ => thn (ho.run pins s1 σ H1 _ I1 q1) fun u s2 ⟨x, H2, I2, rx, q2⟩ => thn (hi.run pins s2 σ H2 _ I2 q2) fun iv s3 ⟨y, H3, I3, ry, a, b, kvs, k, ex, ey, g, hk, h8, hz, q3⟩ => ?_) hs
  subst ex ey
  cases rx
  cases ry
  exact nd_put hu I3 g hk h8 hz rv fun H4 hp s4 I4 => ⟨σ, H4, I4, q3 H4 hp⟩
theorem pe_nnew : PE X (.Dict [] [] pos) (tNNew X.prog X.w X.K) := ⟨fun pins s σ H Q I h => by
  have nn := I.hok.fresh (Nat.le_refl _)
  refine wpAny_Dict_empty ⟨.ref s.heap.objs.size, upd H s.heap.objs.size (.ext (NDp X.prog X.w s.heap.objs.size [])), I.laid (a := s.heap.objs.size) (o := .ext (NDp X.prog X.w s.heap.objs.size [])) (t' := s.toks) (fun _ _ q => Heap.get?_push_of_some _ q) (Nat.le_refl _) ?_, rfl, h _ _ nn (same_upd nn) ⟨[], upd_same, .nil⟩⟩
  refine ⟨⟨beq_eq_false_iff_ne.mpr (Ne.symm (Nat.ne_of_lt I.big)), Nat.zero_le _, _, #[], 0, Heap.get?_push_size _ rfl, ⟨rfl, rfl, rfl⟩, rfl, rfl, List.nodup_nil⟩, ⟨_, Heap.get?_push_size _ rfl⟩, fun h1 h2' ph st => ?_⟩
  obtain ⟨y1, y2, o', es', ep', k1, k2, k3, k4, k5⟩ := ph
  exact ⟨y1, y2, o', es', ep', st _ k1, k2, k3, k4, k5⟩⟩
/-- o.f as a target -/
def gFld (K : PySem.W.Frag) (to : TE) (f : Str) : TG := fun v σ H Q => to σ H fun x H1 => ∃ a C dx fs, x = .ref a ∧ H1 a = some (.ins C dx fs) ∧ Cls K C ∧ NoAttr K C f ∧ fs.length < 1000 ∧ Q σ (upd H1 a (.ins C dx (putF f v fs)))
theorem pg_fldA {f : Str} (ho : PE X o td) : PG X (.Attribute o f pos) (gFld X.K td f) := by
  refine ⟨fun pins s σ H v u Q I r h => ?_⟩
  rw [assign_Attribute]
  refine wpAny_bind (wpAny_holding (thn (ho.run pins s σ H _ I h) fun ov s1 ⟨x, H1, I1, r1, a, C, dx, fs, ex, e, c, n, hl, q⟩ => ?_))
  subst ex
  cases r1
  refine wpAny_bind (wpAny_standAt (wpAny_bind (wpAny_holding (setattr_ok I1 e c n hl r fun s2 I2 => ?_))))
  exact wpAny_release ⟨σ, _, I2, q⟩
end
end Ag
namespace Ag
open PySem PySem.Spec PyProof.Rows L2
/-! ### more of dicts with nested keys: pop, get with a default, a display of one pair, a walk over the keys of a locked one -/
section
variable {P : Program} {w : World} {K : PySem.W.Frag} {H H' : Hp} {d : Addr} {kvs : List (NestedKey × V)}
theorem np_drop {xs : List (NestedKey × Addr × Value)} (r : Paired (NPair K H) kvs xs) (k : NestedKey) : Paired (NPair K H) (dropK kvs k) (withoutH xs k) := by
  unfold dropK withoutH
  induction r with
  | nil => exact .nil
  | @cons p q ps qs h t ih =>
    rw [List.filter_cons, List.filter_cons]
    obtain ⟨h1, h2⟩ := h
    by_cases e : p.1 = k
    · rw [if_neg (by simp [e]), if_neg (by simp [← h1, e])]
      exact ih
    · rw [if_pos (decide_eq_true e), if_pos (decide_eq_true (show q.1 ≠ k from fun z => e (h1.trans z)))]
      exact .cons ⟨h1, h2⟩ ih
theorem np_at {xs : List (NestedKey × Addr × Value)} (r : Paired (NPair K H) kvs xs) : ∀ {i : Nat} {p : NestedKey × V}, kvs[i]? = some p → ∃ q, xs[i]? = some q ∧ NPair K H p q := by
  induction r with
  | nil => intro i p e; simp at e
  | @cons a b as bs h t ih =>
    intro i p e
    cases i with
    | zero =>
      have e' : a = p := by simpa using e
      exact ⟨b, rfl, e' ▸ h⟩
    | succ j => exact ih (by simpa using e)
/-- the heap behind a.pop(y) -/
structure NDrop (P : Program) (w : World) (K : PySem.W.Frag) (H : Hp) (a : Addr) (kvs : List (NestedKey × V)) (k : NestedKey) (H' : Hp) : Prop where
  nd : ND P w K H' a (dropK kvs k)
  ev : Ev [a] H H'
end
def tNPop (P : Program) (w : World) (K : PySem.W.Frag) (td ty : TE) : TE := fun σ H Q => td σ H fun x H1 => ∃ a kvs0, x = .ref a ∧ ND P w K H1 a kvs0 ∧ ty σ H1 fun y H2 => ∃ b kvs k v, y = .ref b ∧ ND P w K H2 a kvs ∧ NK K H2 k (.ref b) ∧ k.depth ≤ 8 ∧ valV kvs k = some v ∧
  ∀ H3, NDrop P w K H2 a kvs k H3 → Q v H3
def tNGet2 (P : Program) (w : World) (K : PySem.W.Frag) (td ty tx : TE) : TE := fun σ H Q => td σ H fun x H1 => ∃ a kvs0, x = .ref a ∧ ND P w K H1 a kvs0 ∧ ty σ H1 fun y H2 => tx σ H2 fun z H3 => ∃ b kvs k, y = .ref b ∧ ND P w K H3 a kvs ∧ NK K H3 k (.ref b) ∧ k.depth ≤ 8 ∧ Q ((valV kvs k).getD z) H3
def tNDisp (P : Program) (w : World) (K : PySem.W.Frag) (tk tv : TE) : TE := fun σ H Q => ∀ p H0, H p = none → Same H H0 → ND P w K H0 p [] → tk σ H0 fun y H1 => tv σ H1 fun v H2 => ∃ b k, y = .ref b ∧ NK K H2 k (.ref b) ∧ k.depth ≤ 8 ∧ ND P w K H2 p [] ∧
  ∀ H3, NPut P w K H2 p [] k v H3 → Q (.ref p) H3
section
variable {X : Cx} {o e f : Expr} {apos cpos pos : Pos} {td ty tx tk tv : TE}
theorem nd_dict {pins : List (Addr × Obj)} {σ : L2.St} {H : Hp} {s : Shared} {a : Addr} {kvs : List (NestedKey × V)} (I : Inv X pins σ H s) (g : ND X.prog X.w X.K H a kvs) : s.TypeIs (.ref a) "dict" ∧ ∀ b, Value.ref a = .ref b → ∃ ob, s.heap.get? b = some ob ∧ ob.dict = none := by
  obtain ⟨hd, xs, hxz, e, rel, dd⟩ := ND.laid I g
  refine ⟨dd.typeIs, fun b q => ?_⟩
  cases q
  obtain ⟨ob, _, _, h1, h2, _⟩ := dd
  exact ⟨ob, h1, h2.2.1⟩
theorem pe_npop (hu : X.A.units + 64 < cLine) (ho : PE X o td) (he : PE X e ty) (m : M1 X o "pop" apos e cpos) : PE X (.Call (.Attribute o "pop" apos) [e] [] cpos) (tNPop X.prog X.w X.K td ty) := by
  refine ⟨fun pins s σ H Q I h => ?_⟩
  refine wpAny_Call_method m.base m.few m.line PySem.F.plainAttrs_dict PySem.F.slot_dict_pop PySem.F.type_dict_pop (thn (ho.run pins s σ H _ I h) fun u s1 ⟨x, H1, I1, rx, a, kvs0, ex, g0, q1⟩ => ?_)
  subst ex
  cases rx
  refine ⟨(nd_dict I1 g0).1, (nd_dict I1 g0).2, ?_⟩
  rw [m.trees]
  refine Calls.callWith_builtin rfl (Calls.evalArgs_plain (Calls.spliced_cons (thn (he.run pins s1 σ H1 _ I1 q1) fun iv s2 ⟨y, H2, I2, ry, b, kvs, k, v, ey, g, hk, h8, l, q2⟩ => Calls.spliced_nil ?_)))
  subst ey
  cases ry
  obtain ⟨hd, xs, hxz, e, rel, dd⟩ := ND.laid I2 g
  obtain ⟨w', hw, rw'⟩ := RelO.some_of (v := v) (o := (atKey xs k).map (·.2)) (by rw [← l]; exact np_val rel k)
  obtain ⟨p, hp, hp2⟩ := Option.map_eq_some_iff.mp hw
  refine call_pop_heap (more := []) (.inl rfl) (PySem.F.args_dict_pop_2 _ _) (room8 (X := X) hu) ⟨NK.is I2 k _ _ hk rfl, h8⟩ hd dd hp (fun h' dd' hs => ?_) hxz
  obtain ⟨q, es, ep, hq, h2, h3, h4, _, h5⟩ := dd'
  have ev : Ev [a] H2 (upd H2 a (.ext (NDp X.prog X.w a (withoutH xs k)))) := ev_upd (by rw [e]; exact True.intro)
  have hl2 : (withoutH xs k).length ≤ sizeLine := Nat.le_trans (List.length_filter_le _ _) hxz
  rw [hp2]
  refine ⟨v, upd H2 a (.ext (NDp X.prog X.w a (withoutH xs k))), d_write I2 (by rw [e]; exact True.intro) hs ⟨q, hq⟩ ⟨⟨hd, hl2, q, es, ep, hq, h2, h3, h4, h5⟩, ⟨q, hq⟩, fun h1 h2' ph st => ?_⟩, rw', q2 _ ⟨⟨_, upd_same, Paired.mapP (np_drop rel k) fun p q z => ⟨z.1, NK.ev ev _ _ z.2.1, z.2.2⟩⟩, ev⟩⟩
  obtain ⟨y1, y2, o', es', ep', k1, k2, k3, k4, k5⟩ := ph
  exact ⟨y1, y2, o', es', ep', st _ k1, k2, k3, k4, k5⟩
theorem pe_nget2 (hu : X.A.units + 64 < cLine) (ho : PE X o td) (he : PE X e ty) (hf : PE X f tx) (m : M2 X o "get" apos e f cpos) : PE X (.Call (.Attribute o "get" apos) [e, f] [] cpos) (tNGet2 X.prog X.w X.K td ty tx) := by
  refine ⟨fun pins s σ H Q I h => ?_⟩
  refine wpAny_Call_method m.base m.few m.line PySem.F.plainAttrs_dict PySem.F.slot_dict_get PySem.F.type_dict_get (thn (ho.run pins s σ H _ I h) fun u s1 ⟨x, H1, I1, rx, a, kvs0, ex, g0, q1⟩ => ?_)
  subst ex
  cases rx
  refine ⟨(nd_dict I1 g0).1, (nd_dict I1 g0).2, ?_⟩
  rw [m.trees]
  refine Calls.callWith_builtin rfl (Calls.evalArgs_plain (Calls.spliced_cons (thn (he.run pins s1 σ H1 _ I1 q1) fun iv s2 ⟨y, H2, I2, ry, q2⟩ =>
    Calls.spliced_cons (thn (hf.run pins s2 σ H2 _ I2 q2) fun fv s3 ⟨z, H3, I3, rz, b, kvs, k, ey, g, hk, h8, q3⟩ => Calls.spliced_nil ?_))))
  subst ey
  cases ry
  obtain ⟨hd, xs, hxz, e, rel, dd⟩ := ND.laid I3 g
  refine call_meetsIn PySem.F.slot_dict_get dd.typeIs PySem.F.entry_dict_get (PySem.F.args_dict_get_3 _ _ _) (meetsH_dict_get_default (nestedKind X.prog X.w) a b hd fv) ⟨room8 (X := X) hu, k, xs, ⟨NK.is I3 k _ _ hk rfl, h8⟩, dd, ?_⟩
  exact ⟨_, H3, I3.tok _, (np_val rel k).getD rz, q3⟩
theorem pe_ndisp (hu : X.A.units + 64 < cLine) (hk : PE X e tk) (hv : PE X f tv) : PE X (.Dict [some e] [f] pos) (tNDisp X.prog X.w X.K tk tv) := by
  refine ⟨fun pins s σ H Q I q => ?_⟩
  have nn := I.hok.fresh (Nat.le_refl s.heap.objs.size)
  have I1 : Inv X pins σ (upd H s.heap.objs.size (.ext (NDp X.prog X.w s.heap.objs.size []))) { s with heap := s.heap.push { cls := .type "dict", data := .dict #[] } } :=
    I.laid (a := s.heap.objs.size) (o := .ext (NDp X.prog X.w s.heap.objs.size [])) (t' := s.toks) (fun _ _ q => Heap.get?_push_of_some _ q) (Nat.le_refl _) (by
      refine ⟨⟨beq_eq_false_iff_ne.mpr (Ne.symm (Nat.ne_of_lt I.big)), Nat.zero_le _, _, #[], 0, Heap.get?_push_size _ rfl, ⟨rfl, rfl, rfl⟩, rfl, rfl, List.nodup_nil⟩, ⟨_, Heap.get?_push_size _ rfl⟩, fun h1 h2' ph st => ?_⟩
      obtain ⟨y1, y2, o', es', ep', k1, k2, k3, k4, k5⟩ := ph
      exact ⟨y1, y2, o', es', ep', st _ k1, k2, k3, k4, k5⟩)
  have hz := zip_pairTrees [some e] [f] X.env pos rfl rfl
  have hn := pairTrees_length [some e] [f] X.env pos rfl rfl
  have hlen : (pairTrees [some e] [f] X.env pos).length = 1 := by rw [hn] <;> rfl
  rw [arm_eval_Dict, hz, dictDisplay_pairs _ (fun z => by rw [z] at hlen; cases hlen) (by rw [hlen]; decide)]
  refine wpAny_bind (wpAny_standAt (wpAny_bind (wpAny_subDictH (knd := nestedKind X.prog X.w) (by show X.A.units + 8 < cLine; omega) (by rw [hlen]; decide)
    (thn ((pps_cons hk hv pps_nil).run pins _ σ _ (fun ps H2 => match ps with
      | [(y, v)] => ∃ (b : Addr) (k : NestedKey), y = .ref b ∧ NK X.K H2 k (.ref b) ∧ k.depth ≤ 8 ∧ ND X.prog X.w X.K H2 s.heap.objs.size [] ∧ ∀ H3, NPut X.prog X.w X.K H2 s.heap.objs.size [] k v H3 → Q (.ref s.heap.objs.size) H3
      | _ => False) I1 (q _ _ nn (same_upd nn) ⟨[], upd_same, .nil⟩)) fun ws s2 ⟨ps, H2, I2, rel, q2⟩ => ?_))))
  match ps, q2, rel with
  | [(y, v)], ⟨b, k, ey, nk, h8, g, q3⟩, .cons (b := (u1, u2)) ⟨r1, r2⟩ .nil =>
    subst ey
    cases r1
    obtain ⟨hd, xs, hxz, e0, rel0, dd⟩ := ND.laid I2 g
    cases rel0
    refine ⟨[(k, b, u2)], ⟨rfl, rfl, ⟨NK.is I2 k _ _ nk rfl, h8⟩, trivial⟩, dd, fun h' tk dd' hs => wpAny_pure ?_⟩
    obtain ⟨qq, es, ep, hq, k2, k3, k4, _, k5⟩ := dd'
    have ev : Ev [s.heap.objs.size] H2 (upd H2 s.heap.objs.size (.ext (NDp X.prog X.w s.heap.objs.size (storedAllH [] [(k, b, u2)])))) := ev_upd (by rw [e0]; exact True.intro)
    refine ⟨.ref s.heap.objs.size, upd H2 s.heap.objs.size (.ext (NDp X.prog X.w s.heap.objs.size (storedAllH [] [(k, b, u2)]))), d_write I2 (by rw [e0]; exact True.intro) hs ⟨qq, hq⟩ ⟨⟨hd, by show 1 ≤ sizeLine; decide, qq, es, ep, hq, k2, k3, k4, k5⟩, ⟨qq, hq⟩, fun h1 h2' ph st => ?_⟩, rfl, q3 _ ⟨⟨_, upd_same, .cons ⟨rfl, NK.ev ev _ _ nk, h8, r2⟩ .nil⟩, ev⟩⟩
    obtain ⟨y1, y2, o', es', ep', j1, j2, j3, j4, j5⟩ := ph
    exact ⟨y1, y2, o', es', ep', st _ j1, j2, j3, j4, j5⟩
end
/-! ### the keys of a locked dict -/
theorem frz_inv {X : Cx} {pins : List (Addr × Obj)} {σ : L2.St} {H : Hp} {s : Shared} {d : Addr} {o : Obj} {xs : List (NestedKey × Addr × Value)} (I : Inv X pins σ H s) (e : H d = some (.frz o (.ext (NDp X.prog X.w d xs)))) :
    (d == sysModules) = false ∧ s.heap.get? d = some o ∧ o.ExactDict ∧ ∃ (es : Array DictEntry) (ep : Nat), o.data = .dict es ep ∧ es.size = xs.length ∧
      ∀ (i : Nat) (z : NestedKey × Addr × Value), xs[i]? = some z → ∃ en : DictEntry, es[i]? = some en ∧ en.key = .ref z.2.1 := by
  obtain ⟨hd, ⟨hs, hz, o', es, ep, ho, hx, hdt, he, _⟩, _, _⟩ := (show ObjOk X.prog X.w H s.heap d (.frz o (.ext (NDp X.prog X.w d xs))) from I.hok d _ e)
  rw [hd] at ho
  cases ho
  refine ⟨hs, hd, hx, es, ep, hdt, ?_, fun i z hp => ?_⟩
  · have l1 := congrArg List.length he
    rw [List.length_map, Array.length_toList] at l1
    exact l1
  · have e1 : es.toList[i]? = some (entryOfKey (nestedKind X.prog X.w) z) := by rw [he, List.getElem?_map, hp]; rfl
    exact ⟨_, by rw [← e1, Array.getElem?_toList], rfl⟩
def Itn (P : Program) (w : World) (d : Addr) (o : Obj) (xs : List (NestedKey × Addr × Value)) : It :=
  ⟨fun i H => H d = some (.frz o (.ext (NDp P w d xs))) ∧ i < xs.length, fun i H x H' => H' = H ∧ ∃ z : NestedKey × Addr × Value, xs[i]? = some z ∧ x = .ref z.2.1, fun i H => H d = some (.frz o (.ext (NDp P w d xs))) ∧ xs.length ≤ i⟩
theorem turn_nkeys {P : Program} {w : World} {K : PySem.W.Frag} {tg : Expr} {d : Addr} {o : Obj} {es : Array DictEntry} {ep : Nat} {xs : List (NestedKey × Addr × Value)} (it : Addr) (hod : o.data = .dict es ep) :
    Turn P w K tg (Itn P w d o xs) [it] it (fun i h => h.IsKeyIter it d i xs.length ep) where
  mem := by simp
  obj := fun i h st b hb => by
    have z : b = it := by simpa using hb
    rw [z]
    obtain ⟨oi, e, _, dd⟩ := st
    exact ⟨oi, e, fun v y => by rw [dd] at y; cases y⟩
  keep := fun i h h' st k => st.at fun ob e => k it (by simp) ob e
  item := by
    intro X hP hw hK hc i pins s σ H E I hf st hg
    subst hP hw hK
    obtain ⟨g, hi⟩ := hg
    obtain ⟨g0, g1, g2, g3, g4, g5⟩ := hf it (by simp)
    obtain ⟨_, hgd, _, es', ep', hdt, hsz, ent⟩ := frz_inv I g
    obtain ⟨rfl, rfl⟩ := dict_ep hod hdt
    obtain ⟨en, hen, hkey⟩ := ent i _ (List.getElem?_eq_getElem hi)
    refine next_key_item st hgd hdt hsz hen fun h' st' sb => ?_
    obtain ⟨oi, e, c, dd⟩ := id st'
    have I1 := I.turned (h' := h') (t' := s.toks) (fun b ob hb e => (sb.2 b hb).trans e) g0 g1 g3 g4 g5
    exact ⟨en.key, rfl, go_of (s := { s with heap := h' }) e c dd (by decide) ⟨.ref xs[i].2.1, H, I1, hkey, ⟨rfl, _, List.getElem?_eq_getElem hi, rfl⟩, st', fun b hb => (hf b hb).1⟩⟩
  done := by
    intro X hP hw hK hc i pins s σ H E I hf st hg
    subst hP hw hK
    obtain ⟨g, hi⟩ := hg
    obtain ⟨g0, g1, g2, g3, g4, g5⟩ := hf it (by simp)
    obtain ⟨_, hgd, _, es', ep', hdt, hsz, _⟩ := frz_inv I g
    obtain ⟨rfl, rfl⟩ := dict_ep hod hdt
    refine next_key_end (I.ok.hd hc) st hgd hdt hsz hi fun h' eb => ⟨rfl, ?_⟩
    exact I.turned (t' := s.toks) (fun b ob hb e => eb b ob hb e) g0 g1 g3 g4 g5
  self := fun A i s Q E st h => by
    refine wpAny_pyIter_slot st.typeIs F.slot_dict_keyiterator_iter ?_
    refine wpAny_call_entry F.slot_dict_keyiterator_iter st.typeIs F.entry_dict_keyiterator_iter ?_ (F.args_dict_keyiterator_iter_1 _)
    show wpAny _ _ (ret (.ref it)) _ _ s
    exact wpAny_pure ⟨_, rfl, "dict_keyiterator", _, st.typeIs, F.slot_dict_keyiterator_next.lookup, h⟩
def iNKeys (P : Program) (w : World) (td : TE) : TI := fun σ H R => td σ H fun x H1 => ∃ d o xs, x = .ref d ∧ H1 d = some (.frz o (.ext (NDp P w d xs))) ∧ R (Itn P w d o xs) H1
theorem pi_nkeys {X : Cx} {tg e : Expr} {td : TE} (he : PE X e td) : PI X tg e (iNKeys X.prog X.w td) := by
  refine ⟨fun pins s σ H R I h => ?_⟩
  refine thn (he.run pins s σ H _ I h) fun u s1 ⟨x, H1, I1, rx, d, o, xs, ex, g, q⟩ => ?_
  subst ex
  cases rx
  obtain ⟨hs, hgd, hx, es, ep, hdt, hsz, _⟩ := frz_inv I1 g
  refine iter_keys hs hgd hx hdt (pi_one (tk := s1.toks) I1 _ (turn_nkeys _ hdt) ⟨_, Heap.get?_push_size _ rfl, rfl, ?_⟩ q)
  rw [hsz]
  rfl
/-- a comprehension over the keys -/
theorem lc_nkeys {P : Program} {w : World} {d : Addr} {o : Obj} {xs : List (NestedKey × Addr × Value)} {g : TG} {tt : TT} {te : TE} {vs : List Nat} {σ : L2.St} {H1 : Hp} {D : Addr} {Qd : Hp → Prop} (Pv : Nat → Hp → Prop) (h0 : Pv 0 (upd H1 D (.lst []))) (hl : ∀ i H, i ≤ xs.length → Pv i H → H d = some (.frz o (.ext (NDp P w d xs))))
    (hs : ∀ i z H, xs[i]? = some z → Pv i H → g (.ref z.2.1) (wipe σ vs) H fun σ2 H2 => wipe σ2 vs = wipe σ vs ∧ tt σ2 H2 fun b H3 =>
      if b = true then te σ2 H3 fun y H4 => ∃ acc, H4 D = some (.lst acc) ∧ acc.length < sizeLine ∧ Pv (i + 1) (upd H4 D (.lst (acc ++ [y]))) else Pv (i + 1) H3) (hd : ∀ H, Pv xs.length H → Qd H) :
    ∃ W : Nat → Nat → Hp → Prop, (∃ m, W 0 m (upd H1 D (.lst []))) ∧ ∀ i m H, W i m H →
      ((Itn P w d o xs).stop i H ∧ Qd H) ∨ ((Itn P w d o xs).go i H ∧ ∃ Nx : Hp → Prop, (∀ H', Nx H' → ∃ m', m' < m ∧ W (i + 1) m' H') ∧ ∀ x H', (Itn P w d o xs).yld i H x H' → g x (wipe σ vs) H' fun σ2 H2 => wipe σ2 vs = wipe σ vs ∧ tt σ2 H2 fun b H3 =>
        if b = true then te σ2 H3 fun y H4 => ∃ acc, H4 D = some (.lst acc) ∧ acc.length < sizeLine ∧ Nx (upd H4 D (.lst (acc ++ [y]))) else Nx H3) := by
  refine ⟨fun i m H => m = xs.length - i ∧ i ≤ xs.length ∧ Pv i H, ⟨xs.length, by simp, Nat.zero_le _, h0⟩, ?_⟩
  rintro i m H ⟨rfl, hi, p⟩
  have q := hl i H hi p
  by_cases hlt : i < xs.length
  · refine .inr ⟨⟨q, hlt⟩, Pv (i + 1), fun H' p' => ⟨xs.length - (i + 1), by omega, rfl, hlt, p'⟩, fun x H' y => ?_⟩
    obtain ⟨rfl, z, e1, rfl⟩ := y
    exact hs i z _ e1 p
  · have e : i = xs.length := by omega
    subst e
    exact .inl ⟨⟨q, Nat.le_refl _⟩, hd H p⟩
end Ag
namespace Ag
open PySem PySem.Spec PyProof.Rows L2
open AutoSeq1 (wpAny_loadPart')

/-! ### enumerate of a tuple -/
theorem meets_enum_tup (l : Addr) (items : Array Value) (n : Nat) (dct : Option Addr) (sl : Array (Option Value)) :
    Meets (Builtin.«enumerate.__new__» ⟨[.type "enumerate", .ref l], []⟩) (fun _ R s => s.heap.get? l = some { cls := .type "tuple", dict := dct, data := .seq items n, slots := sl } ∧
      R (.ok (.ret (.ref (s.heap.push { cls := .type "tuple_iterator", data := .fields #[.ref l, .int 0 0] }).objs.size)))
        { s with heap := (s.heap.push { cls := .type "tuple_iterator", data := .fields #[.ref l, .int 0 0] }).push { cls := .type "enumerate", data := .fields #[.none, .bool false, .ref s.heap.objs.size, rawInt 0, .none, .none] } }) :=
  .of_wp fun prog w A R s h => by
    obtain ⟨hp, g, d, tk, os⟩ := s; obtain ⟨hl, h⟩ := h
    have hsub := sub_enumerate
    have hL : Heap.IsTuple (Shared.heap ⟨hp, g, d, tk, os⟩) l items := ⟨_, hl, rfl, n, rfl⟩
    wp_walk using wpAny_loadPart' hl
    refine wpAny_stack_any fun st => wpAny_pure ?_
    split
    · rename_i c _ _ _ _ _
      cases (c == Value.type "enumerate")
      · wp_walk using wpAny_loadPart' hl, wpAny_pyIter_tuple hL
        exact ⟨_, rfl, h⟩
      · wp_walk using wpAny_loadPart' hl, wpAny_pyIter_tuple hL
        exact ⟨_, rfl, h⟩
    · wp_walk using wpAny_loadPart' hl, wpAny_pyIter_tuple hL
      exact ⟨_, rfl, h⟩
section
variable {prog : Program} {w : World} {A : Around} {E : Value → Shared → Prop} {s : Shared}
theorem call_enum_tup {l : Addr} {items : Array Value} {Q : Value → Shared → Prop} (hL : s.heap.IsTuple l items)
    (h : ∀ h', IsEnum h' (s.heap.objs.size + 1) s.heap.objs.size 0 .none → h'.IsTupleIter s.heap.objs.size l 0 → h'.objs.size = s.heap.objs.size + 2 →
      (∀ b o, s.heap.get? b = some o → h'.get? b = some o) → Q (.ref (s.heap.objs.size + 1)) { s with heap := h' }) :
    wpAny (model prog w) A (call (.type "enumerate") [.ref l]) Q E s := by
  obtain ⟨⟨c, dct, dt, sl⟩, hl, hc, n, hd⟩ := hL
  replace hc : c = .type "tuple" := hc
  replace hd : dt = .seq items n := hd
  subst hc hd
  refine callType_new F.called_enumerate (by decide) (F.typeCall_enumerate_1 _) (F.newCall_enumerate_1 _) (fun obj => F.args_object_init_2 obj _) F.entry_enumerate_new
    (meets_enum_tup l items n dct sl) ⟨hl, ?_⟩
  have hz : (s.heap.push { cls := .type "tuple_iterator", data := .fields #[.ref l, .int 0 0] }).objs.size = s.heap.objs.size + 1 := Heap.size_push ..
  show _ ∧ _
  rw [hz]
  have he : IsEnum ((s.heap.push { cls := .type "tuple_iterator", data := .fields #[.ref l, .int 0 0] }).push
      { cls := .type "enumerate", data := .fields #[.none, .bool false, .ref s.heap.objs.size, rawInt 0, .none, .none] }) (s.heap.objs.size + 1) s.heap.objs.size 0 .none := by
    have := Heap.get?_push_size (s.heap.push { cls := .type "tuple_iterator", data := .fields #[.ref l, .int 0 0] })
      (o := { cls := .type "enumerate", data := .fields #[.none, .bool false, .ref s.heap.objs.size, rawInt 0, .none, .none] }) rfl
    rw [hz] at this
    exact this
  refine ⟨⟨_, he, rfl⟩, h _ he ⟨_, Heap.get?_push_of_some _ (Heap.get?_push_size _ rfl), rfl, rfl⟩ (by rw [Heap.size_push, hz]) fun b o x => Heap.get?_push_of_some _ (Heap.get?_push_of_some _ x)⟩
theorem draws_tup {it l : Addr} {items : Array Value} (hh : A.handled = none) (hne : it ≠ l) :
    Draws prog w A it [it, l] items.size (fun i x => items[i]? = some x) (fun i h => h.IsTupleIter it l i ∧ h.IsTuple l items) where
  live := fun i h st => let ⟨⟨o, ho, _⟩, _⟩ := st; ⟨o, ho⟩
  frame := fun i h h' st k => by
    obtain ⟨h1, o2, e2, c2, n2, d2⟩ := st
    exact ⟨h1.at fun o q => k it (by simp) o q, o2, k l (by simp) o2 e2, c2, n2, d2⟩
  item := fun i s Q E hi st hQ => by
    obtain ⟨h1, h2⟩ := st
    refine RZ.nextOf_tuple_item h1 h2 (Array.getElem?_eq_getElem hi) fun h' h3 sb => ?_
    refine hQ _ h' s.toks (Array.getElem?_eq_getElem hi) ⟨h3, ?_⟩ sb
    obtain ⟨o2, e2, c2⟩ := h2
    exact ⟨o2, (sb.2 l hne.symm).trans e2, c2⟩
  done := fun s Q E st hE => by
    obtain ⟨h1, h2⟩ := st
    exact RZ.nextOf_tuple_end hh h1 h2 (Array.getElem?_eq_none (Nat.le_refl _)) hE
end
/-- the tuple at a, each item in a new pair with its place -/
def IteT (K : PySem.W.Frag) (a : Addr) : It :=
  ⟨fun i H => ∃ (xs : List V) (x : V), SqT K H a xs ∧ xs[i]? = some x, fun i H v H' => ∃ T x, v = .ref T ∧ H T = none ∧ H' = upd H T (.tup [.int (i : Nat), x]) ∧ ∀ xs, SqT K H a xs → xs[i]? = some x,
    fun i H => ∃ xs : List V, SqT K H a xs ∧ xs.length = i⟩
theorem turn_enumT {P : Program} {w : World} {K : PySem.W.Frag} {elts : List Expr} {kk : Nat} {tpos : Pos} (a e it : Addr) :
    Turn P w K (.Tuple elts kk tpos) (IteT K a) [e, it] e (fun i h => (∃ old, IsEnum h e it ((i : Nat) : Int) old) ∧ h.IsTupleIter it a i ∧ e ≠ it ∧ e ≠ a ∧ it ≠ a) where
  mem := by simp
  obj := fun i h st b hb => by
    obtain ⟨⟨old, he⟩, ⟨o, ho, hc, hd⟩, _⟩ := st
    have e' : b = e ∨ b = it := by simpa using hb
    rcases e' with z | z
    · rw [z]; exact ⟨_, he, fun v q => nomatch q⟩
    · rw [z]; exact ⟨o, ho, fun v q => by rw [hd] at q; cases q⟩
  keep := fun i h h' st k => let ⟨⟨old, he⟩, hi, hne⟩ := st; ⟨⟨old, k e (by simp) _ he⟩, hi.at fun o q => k it (by simp) o q, hne⟩
  item := by
    intro X hP hw hK hc i pins s σ H E I hf st hg
    subst hP hw hK
    obtain ⟨⟨old, he⟩, hit, hne, hea, hia⟩ := st
    obtain ⟨xs, x, hq, hx⟩ := hg
    obtain ⟨its, rv, p, hz⟩ := I.tuple hq
    obtain ⟨u, hu, ru⟩ := rv.get hx
    have hel : e < s.heap.objs.size := Heap.lt_size he
    have hil : it < s.heap.objs.size := by obtain ⟨_, q, _⟩ := hit; exact Heap.lt_size q
    have hlt : i < its.toArray.size := by
      have := (List.getElem?_eq_some_iff.mp hu).1
      simpa using this
    refine wpAny_pyNext_enum_itemD (draws_tup (I.ok.hd hc) hia) he (St := fun i h => h.IsTupleIter it a i ∧ h.IsTuple a its.toArray) ⟨hit, p⟩ hlt hne (by simp [hne, hea]) fun y h' tk hy ho hst hT hsz hk => ?_
    have ey : y = u := by
      have h1 : its.toArray[i]? = some u := by simpa using hu
      rw [h1] at hy
      exact (Option.some.inj hy).symm
    subst ey
    refine ⟨_, rfl, wpAny_letOwnedTupleGo_enum (s := { s with heap := h', toks := tk + 1 }) ho fun h'' he' sb => ?_⟩
    have hT2 : h''.get? s.heap.objs.size = some { cls := .type "tuple", data := .seq #[.int i tk, y] } := (sb.2 _ (Nat.ne_of_gt hel)).trans hT
    have new : ObjOk X.prog X.w (upd H s.heap.objs.size (.tup [.int (i : Nat), x])) h'' s.heap.objs.size (.tup [.int (i : Nat), x]) :=
      ⟨by show 2 ≤ sizeLine; decide, [.int i tk, y], .cons ⟨_, rfl⟩ (.cons ru .nil), ⟨_, hT2, rfl, _, rfl⟩⟩
    have I1 : Inv X pins σ (upd H s.heap.objs.size (.tup [.int (i : Nat), x])) { s with heap := h'', toks := tk + 1 } :=
      I.turnedNew (ch := [e, it]) (fun b ob hb q => (sb.2 b (fun z => hb (by simp [z]))).trans (hk b ob (fun z => hb (by simp [z])) (fun z => hb (by simp [z])) q)) hf (Nat.le_refl _) new
    refine ⟨.ref s.heap.objs.size, _, I1, rfl, ⟨_, x, rfl, I.hok.fresh (Nat.le_refl _), rfl, fun ys hy => by rw [I.tuple_inj hy hq]; exact hx⟩, ⟨⟨y, ?_⟩, hst.1.at fun o q => (sb.2 it (Ne.symm hne)).trans q, hne, hea, hia⟩, fun b hb => ?_⟩
    · have e1 : ((i + 1 : Nat) : Int) = (i : Int) + 1 := by omega
      rw [e1]; exact he'
    · have hb' : b < s.heap.objs.size := by
        have e' : b = e ∨ b = it := by simpa using hb
        rcases e' with z | z
        · rw [z]; exact hel
        · rw [z]; exact hil
      rw [upd_ne (Nat.ne_of_lt hb')]
      exact (hf b hb).1
  done := by
    intro X hP hw hK hc i pins s σ H E I hf st hg
    subst hP hw hK
    obtain ⟨⟨old, he⟩, hit, hne, hea, hia⟩ := st
    obtain ⟨xs, hq, hx⟩ := hg
    obtain ⟨its, rv, p, hz⟩ := I.tuple hq
    obtain ⟨f0, f1, f2, f3, f4, f5⟩ := hf it (by simp)
    have hl := rv.length
    have ei : i = its.toArray.size := by rw [List.size_toArray]; omega
    refine wpAny_pyNext_enum_endD (draws_tup (items := its.toArray) (I.ok.hd hc) hia) he (St := fun i h => h.IsTupleIter it a i ∧ h.IsTuple a its.toArray) ⟨by rw [← ei]; exact hit, p⟩ fun h' eb => ⟨rfl, I.turned (t' := s.toks) (fun b o hb q => eb b o hb q) f0 f1 f3 f4 f5⟩
  self := fun A i s Q E st h => let ⟨⟨_, he⟩, _⟩ := st; wpAny_pyIter_enum he h
def iEnumT (K : PySem.W.Frag) (ta : TA) : TI := fun σ H R => ta σ H fun vs H1 => ∃ a xs, vs = [.ref a] ∧ SqT K H1 a xs ∧ R (IteT K a) H1
theorem pi_enumT {X : Cx} {e : Expr} {ta : TA} {p pos tpos : Pos} {elts : List Expr} {kk : Nat} (hg : Gl X "enumerate") (hm : X.mg "enumerate" = none) (ha : PA X [e] ta) (hs : starEach [e] X.env = [(false, eval e X.env)] := by rfl) :
    PI X (.Tuple elts kk tpos) (.Call (.Name "enumerate" p) [e] [] pos) (iEnumT X.K ta) := by
  refine ⟨fun pins s σ H R I h => ?_⟩
  refine Call_ (ld_blt I hg hm boot_enumerate (PyProof.Rows.callWith_type1 (thn (ha.run pos pins s σ H _ I h) fun us s1 ⟨vs, H1, I1, r1, q1⟩ => ?_) hs rfl))
  obtain ⟨a, xs, ex, hq, q⟩ := q1
  subst ex
  cases r1 with
  | cons r rr =>
    cases rr
    cases r
    obtain ⟨its, rv, p', hz⟩ := I1.tuple hq
    obtain ⟨o1, ho1, _⟩ := id p'
    have hal := Heap.lt_size ho1
    refine call_enum_tup (show s1.heap.IsTuple a its.toArray from p') fun h' he hit hsz hk => wpAny_pyIter_enum he ?_
    have I2 : Inv X pins σ H1 { s1 with heap := h' } := I1.kept (t' := s1.toks) hk
    refine ⟨s1.heap.objs.size + 1, [s1.heap.objs.size + 1, s1.heap.objs.size], _, _, H1, rfl, I2, turn_enumT a (s1.heap.objs.size + 1) s1.heap.objs.size, ⟨⟨.none, he⟩, hit, Nat.succ_ne_self _, Nat.ne_of_gt (Nat.lt_succ_of_lt hal), Nat.ne_of_gt hal⟩, fun b hb => ?_, q⟩
    have e' : b = s1.heap.objs.size + 1 ∨ b = s1.heap.objs.size := by simpa using hb
    have hle : s1.heap.objs.size ≤ b := by
      rcases e' with z | z
      · rw [z]; exact Nat.le_add_right _ _
      · rw [z]; exact Nat.le_refl _
    exact I1.fpOk hle (I1.hok.fresh hle)
/-! ### comprehensions over pairs of a new tuple each turn -/
theorem lc_enumT {K : PySem.W.Frag} {a : Addr} {xs : List V} {g : TG} {tt : TT} {te : TE} {vs : List Nat} {σ : L2.St} {H1 : Hp} {D : Addr} {Qd : Hp → Prop} (Pv : Nat → Hp → Prop) (h0 : Pv 0 (upd H1 D (.lst []))) (hl : ∀ i H, i ≤ xs.length → Pv i H → SqT K H a xs)
    (hs : ∀ i x T H, xs[i]? = some x → Pv i H → H T = none → g (.ref T) (wipe σ vs) (upd H T (.tup [.int (i : Nat), x])) fun σ2 H2 => wipe σ2 vs = wipe σ vs ∧ tt σ2 H2 fun b H3 =>
      if b = true then te σ2 H3 fun y H4 => ∃ acc, H4 D = some (.lst acc) ∧ acc.length < sizeLine ∧ Pv (i + 1) (upd H4 D (.lst (acc ++ [y]))) else Pv (i + 1) H3) (hd : ∀ H, Pv xs.length H → Qd H) :
    ∃ W : Nat → Nat → Hp → Prop, (∃ m, W 0 m (upd H1 D (.lst []))) ∧ ∀ i m H, W i m H →
      ((IteT K a).stop i H ∧ Qd H) ∨ ((IteT K a).go i H ∧ ∃ Nx : Hp → Prop, (∀ H', Nx H' → ∃ m', m' < m ∧ W (i + 1) m' H') ∧ ∀ x H', (IteT K a).yld i H x H' → g x (wipe σ vs) H' fun σ2 H2 => wipe σ2 vs = wipe σ vs ∧ tt σ2 H2 fun b H3 =>
        if b = true then te σ2 H3 fun y H4 => ∃ acc, H4 D = some (.lst acc) ∧ acc.length < sizeLine ∧ Nx (upd H4 D (.lst (acc ++ [y]))) else Nx H3) := by
  refine ⟨fun i m H => m = xs.length - i ∧ i ≤ xs.length ∧ Pv i H, ⟨xs.length, by simp, Nat.zero_le _, h0⟩, ?_⟩
  rintro i m H ⟨rfl, hi, p⟩
  have q := hl i H hi p
  by_cases hlt : i < xs.length
  · refine .inr ⟨⟨xs, xs[i], q, by simp [hlt]⟩, Pv (i + 1), fun H' p' => ⟨xs.length - (i + 1), by omega, rfl, hlt, p'⟩, fun x H' y => ?_⟩
    obtain ⟨T, z, rfl, nT, rfl, ez⟩ := y
    exact hs i z T H (ez xs q) p nT
  · have e : i = xs.length := by omega
    subst e
    exact .inl ⟨⟨xs, q, rfl⟩, hd H p⟩
theorem lc_enumL {K : PySem.W.Frag} {a : Addr} {xs : List V} {g : TG} {tt : TT} {te : TE} {vs : List Nat} {σ : L2.St} {H1 : Hp} {D : Addr} {Qd : Hp → Prop} (Pv : Nat → Hp → Prop) (h0 : Pv 0 (upd H1 D (.lst []))) (hl : ∀ i H, i ≤ xs.length → Pv i H → SqL K H a xs)
    (hs : ∀ i x T H, xs[i]? = some x → Pv i H → H T = none → g (.ref T) (wipe σ vs) (upd H T (.tup [.int (i : Nat), x])) fun σ2 H2 => wipe σ2 vs = wipe σ vs ∧ tt σ2 H2 fun b H3 =>
      if b = true then te σ2 H3 fun y H4 => ∃ acc, H4 D = some (.lst acc) ∧ acc.length < sizeLine ∧ Pv (i + 1) (upd H4 D (.lst (acc ++ [y]))) else Pv (i + 1) H3) (hd : ∀ H, Pv xs.length H → Qd H) :
    ∃ W : Nat → Nat → Hp → Prop, (∃ m, W 0 m (upd H1 D (.lst []))) ∧ ∀ i m H, W i m H →
      ((Ite K a).stop i H ∧ Qd H) ∨ ((Ite K a).go i H ∧ ∃ Nx : Hp → Prop, (∀ H', Nx H' → ∃ m', m' < m ∧ W (i + 1) m' H') ∧ ∀ x H', (Ite K a).yld i H x H' → g x (wipe σ vs) H' fun σ2 H2 => wipe σ2 vs = wipe σ vs ∧ tt σ2 H2 fun b H3 =>
        if b = true then te σ2 H3 fun y H4 => ∃ acc, H4 D = some (.lst acc) ∧ acc.length < sizeLine ∧ Nx (upd H4 D (.lst (acc ++ [y]))) else Nx H3) := by
  refine ⟨fun i m H => m = xs.length - i ∧ i ≤ xs.length ∧ Pv i H, ⟨xs.length, by simp, Nat.zero_le _, h0⟩, ?_⟩
  rintro i m H ⟨rfl, hi, p⟩
  have q := hl i H hi p
  by_cases hlt : i < xs.length
  · refine .inr ⟨⟨xs, xs[i], q, by simp [hlt]⟩, Pv (i + 1), fun H' p' => ⟨xs.length - (i + 1), by omega, rfl, hlt, p'⟩, fun x H' y => ?_⟩
    obtain ⟨T, z, rfl, nT, rfl, ez⟩ := y
    exact hs i z T H (ez xs q) p nT
  · have e : i = xs.length := by omega
    subst e
    exact .inl ⟨⟨xs, q, Nat.le_refl _⟩, hd H p⟩
/-- enumerate of a local, a list or a tuple -/
def iEnumV (K : PySem.W.Frag) (i : Nat) : TI := fun σ H R => ∃ a xs, σ[i]? = some (some (.ref a)) ∧ ((SqL K H a xs ∧ R (Ite K a) H) ∨ (SqT K H a xs ∧ R (IteT K a) H))
theorem pi_enumV {X : Cx} {e : Expr} {i : Nat} {p pos tpos : Pos} {elts : List Expr} {kk : Nat} (hg : Gl X "enumerate") (hm : X.mg "enumerate" = none) (ha : PA X [e] (tCons (tVar i) tNil)) (hs : starEach [e] X.env = [(false, eval e X.env)] := by rfl) :
    PI X (.Tuple elts kk tpos) (.Call (.Name "enumerate" p) [e] [] pos) (iEnumV X.K i) := by
  refine ⟨fun pins s σ H R I h => ?_⟩
  obtain ⟨a, xs, ha', h | h⟩ := h
  · exact (pi_enum hg hm ha hs).run pins s σ H R I ⟨_, ha', a, xs, rfl, h.1, h.2⟩
  · exact (pi_enumT hg hm ha hs).run pins s σ H R I ⟨_, ha', a, xs, rfl, h.1, h.2⟩
theorem lc_zipT {K : PySem.W.Frag} {a b : Addr} {xs ys : List V} {g : TG} {tt : TT} {te : TE} {vs : List Nat} {σ : L2.St} {H1 : Hp} {D : Addr} {Qd : Hp → Prop} (el : xs.length = ys.length) (Pv : Nat → Hp → Prop) (h0 : Pv 0 (upd H1 D (.lst []))) (hl : ∀ i H, i ≤ xs.length → Pv i H → SqT K H a xs ∧ SqT K H b ys)
    (hs : ∀ i x y T H, xs[i]? = some x → ys[i]? = some y → Pv i H → H T = none → g (.ref T) (wipe σ vs) (upd H T (.tup [x, y])) fun σ2 H2 => wipe σ2 vs = wipe σ vs ∧ tt σ2 H2 fun b H3 =>
      if b = true then te σ2 H3 fun y H4 => ∃ acc, H4 D = some (.lst acc) ∧ acc.length < sizeLine ∧ Pv (i + 1) (upd H4 D (.lst (acc ++ [y]))) else Pv (i + 1) H3) (hd : ∀ H, Pv xs.length H → Qd H) :
    ∃ W : Nat → Nat → Hp → Prop, (∃ m, W 0 m (upd H1 D (.lst []))) ∧ ∀ i m H, W i m H →
      ((RZ.ItzT K a b).stop i H ∧ Qd H) ∨ ((RZ.ItzT K a b).go i H ∧ ∃ Nx : Hp → Prop, (∀ H', Nx H' → ∃ m', m' < m ∧ W (i + 1) m' H') ∧ ∀ x H', (RZ.ItzT K a b).yld i H x H' → g x (wipe σ vs) H' fun σ2 H2 => wipe σ2 vs = wipe σ vs ∧ tt σ2 H2 fun b H3 =>
        if b = true then te σ2 H3 fun y H4 => ∃ acc, H4 D = some (.lst acc) ∧ acc.length < sizeLine ∧ Nx (upd H4 D (.lst (acc ++ [y]))) else Nx H3) := by
  refine ⟨fun i m H => m = xs.length - i ∧ i ≤ xs.length ∧ Pv i H, ⟨xs.length, by simp, Nat.zero_le _, h0⟩, ?_⟩
  rintro i m H ⟨rfl, hi, p⟩
  obtain ⟨q1, q2⟩ := hl i H hi p
  by_cases hlt : i < xs.length
  · have hlt2 : i < ys.length := by omega
    refine .inr ⟨⟨xs, ys, xs[i], ys[i], q1, q2, by simp [hlt], by simp [hlt2]⟩, Pv (i + 1), fun H' p' => ⟨xs.length - (i + 1), by omega, rfl, hlt, p'⟩, fun x H' y => ?_⟩
    obtain ⟨T, z1, z2, rfl, nT, rfl, e1, e2⟩ := y
    exact hs i z1 z2 T H (e1 xs q1) (e2 ys q2) p nT
  · have e : i = xs.length := by omega
    subst e
    exact .inl ⟨⟨xs, ys, q1, q2, .inl (Nat.le_refl _)⟩, hd H p⟩
end Ag
namespace Ag
/-! ### the engine as plain functions: a store tells how far below the asked number its items are -/
abbrev Sto := List (Option Nat)
inductive K3 where
  | low | put | use
  deriving DecidableEq, Repr
abbrev Cnt := Nat × Nat × Nat
/-- how a call a step below sees an item -/
def look (p : Nat) : Option Nat → Option Nat
  | some x => if p ≤ x then some (x - p) else none
  | none => none
def seenS (p : Nat) (st : Sto) : Sto := st.map (look p)
def hidS (p : Nat) (st : Sto) : Sto := st.filter fun f => (look p f).isNone
def nones : Sto → Nat
  | [] => 0
  | none :: r => nones r + 1
  | some _ :: r => nones r
def fill (p : Nat) : Sto → Sto → Sto
  | [], _ => []
  | some x :: r, hs => some (x + p) :: fill p r hs
  | none :: r, h :: hs => h :: fill p r hs
  | none :: r, [] => none :: fill p r []
def restS (p : Nat) (st hid : Sto) : Sto := fill p st (hid.drop (hid.length - nones st))
def addC (a b : Cnt) : Cnt := (a.1 + b.1, a.2.1 + b.2.1, a.2.2 + b.2.2)
def maxOf : Sto → Nat
  | [] => 0
  | none :: r => maxOf r
  | some x :: r => max x (maxOf r)
def idxOf (m : Nat) : Sto → Nat
  | [] => 0
  | f :: r => if f = some m then 0 else idxOf m r + 1
def lowAt (st : Sto) : Nat := idxOf (maxOf st) st
def dropAt (st : Sto) (i : Nat) : Sto := st.take i ++ st.drop (i + 1)
def cutN (k : K3) : Nat → Sto → Sto
  | 0, st => st
  | n + 1, st => cutN k n (dropAt st (if k = .low then lowAt st else 0))
def cutS (k : K3) (size : Nat) (st : Sto) : Sto := cutN k (st.length - size) st
def useS (k : K3) (st : Sto) : Sto := if k = .use then (st.filter fun f => decide (f ≠ some 0)) ++ [some 0] else st
structure Cfg where
  steps : List Nat
  size : Nat
  kind : K3
  deriving DecidableEq
abbrev Ans := Cnt × Sto
structure Acc where
  cnt : Cnt
  sto : Sto
  wan : List (Nat × Sto)
/-- one step of a run -/
def stepR (rec : Nat → Sto → Ans) (n : Nat) (a : Acc) (p : Nat) : Acc :=
  let seen := seenS p a.sto
  let r := rec (n - p) seen
  ⟨addC a.cnt r.1, restS p r.2 (hidS p a.sto), if p < n ∧ some 0 ∉ seen then a.wan ++ [(n - p, seen)] else a.wan⟩
def runG (c : Cfg) (rec : Nat → Sto → Ans) (n : Nat) (st : Sto) : Acc :=
  let a := c.steps.foldl (stepR rec n) ⟨(1, 0, 0), st, []⟩
  ⟨a.cnt, cutS c.kind c.size (a.sto ++ [some 0]), a.wan⟩
def answ (c : Cfg) : Nat → Nat → Sto → Ans
  | 0, _, st => ((0, 0, 1), st)
  | f + 1, n, st => if n = 0 then ((0, 0, 1), st) else if some 0 ∈ st then ((0, 1, 0), useS c.kind st) else
      let r := runG c (answ c f) n st
      (r.cnt, r.sto)
/-- an ask: the counts and the store behind it -/
def ans (c : Cfg) (n : Nat) (st : Sto) : Ans := answ c n n st
def run (c : Cfg) (n : Nat) (st : Sto) : Acc := runG c (ans c) n st

theorem foldl_same {α β : Type} {f g : α → β → α} : ∀ (l : List β) (a : α), (∀ a b, b ∈ l → f a b = g a b) → l.foldl f a = l.foldl g a
  | [], _, _ => rfl
  | x :: r, a, h => by
    rw [List.foldl_cons, List.foldl_cons, h a x List.mem_cons_self]
    exact foldl_same r _ fun a b hb => h a b (List.mem_cons_of_mem _ hb)
theorem runG_same {c : Cfg} {f g : Nat → Sto → Ans} {n : Nat} {st : Sto} (h : ∀ p ∈ c.steps, ∀ s, f (n - p) s = g (n - p) s) : runG c f n st = runG c g n st := by
  unfold runG
  rw [foldl_same (f := stepR f n) (g := stepR g n) c.steps _ fun a b hb => by unfold stepR; simp only [h b hb]]
/-- all steps are at least one -/
def Cfg.Ok (c : Cfg) : Prop := ∀ p ∈ c.steps, 1 ≤ p
theorem answ_fuel {c : Cfg} (h : c.Ok) : ∀ (f g n : Nat) (st : Sto), n ≤ f → n ≤ g → answ c f n st = answ c g n st
  | 0, 0, _, _, _, _ => rfl
  | 0, g + 1, n, st, hf, _ => by
    have e : n = 0 := by omega
    simp [answ, e]
  | f + 1, 0, n, st, _, hg => by
    have e : n = 0 := by omega
    simp [answ, e]
  | f + 1, g + 1, n, st, hf, hg => by
    unfold answ
    by_cases e : n = 0
    · simp [e]
    · rw [if_neg e, if_neg e, runG_same fun p hp s => answ_fuel h f g (n - p) s (by have := h p hp; omega) (by have := h p hp; omega)]
theorem ans_zero (c : Cfg) (st : Sto) : ans c 0 st = ((0, 0, 1), st) := rfl
theorem ans_kept {c : Cfg} {n : Nat} {st : Sto} (hn : n ≠ 0) (h : some 0 ∈ st) : ans c n st = ((0, 1, 0), useS c.kind st) := by
  obtain ⟨m, rfl⟩ := Nat.exists_eq_succ_of_ne_zero hn
  show answ c (m + 1) (m + 1) st = _
  unfold answ
  rw [if_neg hn, if_pos h]
theorem ans_run {c : Cfg} (hc : c.Ok) {n : Nat} {st : Sto} (hn : n ≠ 0) (h : some 0 ∉ st) : ans c n st = ((run c n st).cnt, (run c n st).sto) := by
  obtain ⟨m, rfl⟩ := Nat.exists_eq_succ_of_ne_zero hn
  show answ c (m + 1) (m + 1) st = _
  unfold answ
  rw [if_neg hn, if_neg h]
  unfold run
  rw [runG_same (f := answ c m) (g := ans c) fun p hp s => answ_fuel hc m _ _ s (by have := hc p hp; omega) (Nat.le_refl _)]

/-! ### what stands in a store: how many that can't be seen, how many in all -/
theorem nones_app : ∀ a b : Sto, nones (a ++ b) = nones a + nones b
  | [], b => by simp [nones]
  | none :: r, b => by rw [List.cons_append]; simp only [nones, nones_app r b]; omega
  | some _ :: r, b => by rw [List.cons_append]; simp only [nones, nones_app r b]
theorem nones_le : ∀ a : Sto, nones a ≤ a.length
  | [] => Nat.le_refl _
  | none :: r => by simp only [nones, List.length_cons]; have := nones_le r; omega
  | some _ :: r => by simp only [nones, List.length_cons]; have := nones_le r; omega
theorem hid_len (p : Nat) : ∀ st : Sto, (hidS p st).length = nones (seenS p st)
  | [] => rfl
  | f :: r => by
    have ih := hid_len p r
    unfold hidS seenS at ih ⊢
    rw [List.filter_cons, List.map_cons]
    cases h : look p f with
    | none => simp [nones, ih]
    | some x => simp [nones, ih]
theorem nones_look (p : Nat) : ∀ st : Sto, nones st ≤ nones (seenS p st)
  | [] => Nat.le_refl _
  | none :: r => by
    have ih := nones_look p r
    unfold seenS at ih ⊢
    simp only [List.map_cons, look, nones]
    omega
  | some x :: r => by
    have ih := nones_look p r
    unfold seenS at ih ⊢
    simp only [List.map_cons, nones]
    cases look p (some x) with
    | none => simp only [nones]; omega
    | some _ => simp only [nones]; omega
theorem hid_nones (p : Nat) : ∀ st : Sto, nones (hidS p st) = nones st
  | [] => rfl
  | none :: r => by
    have ih := hid_nones p r
    unfold hidS at ih ⊢
    have h : (look p none).isNone = true := rfl
    rw [List.filter_cons, if_pos h]
    simp only [nones, ih]
  | some x :: r => by
    have ih := hid_nones p r
    unfold hidS at ih ⊢
    rw [List.filter_cons]
    cases h : (look p (some x)).isNone <;> simp [nones, ih]
theorem fill_len (p : Nat) : ∀ st hs : Sto, (fill p st hs).length = st.length
  | [], _ => rfl
  | some x :: r, hs => by simp [fill, fill_len p r hs]
  | none :: r, h :: hs => by simp [fill, fill_len p r hs]
  | none :: r, [] => by simp [fill, fill_len p r []]
theorem fill_nones (p : Nat) : ∀ st hs : Sto, nones st ≤ hs.length → nones (fill p st hs) ≤ nones hs
  | [], _, _ => by simp [fill, nones]
  | some x :: r, hs, h => by
    simp only [fill, nones] at h ⊢
    exact fill_nones p r hs h
  | none :: r, none :: hs, h => by
    simp only [fill, nones, List.length_cons] at h ⊢
    have := fill_nones p r hs (by omega)
    omega
  | none :: r, some x :: hs, h => by
    simp only [fill, nones, List.length_cons] at h ⊢
    exact fill_nones p r hs (by omega)
  | none :: r, [], h => by simp [nones] at h
theorem nones_drop : ∀ (n : Nat) (st : Sto), nones (st.drop n) ≤ nones st
  | 0, _ => Nat.le_refl _
  | n + 1, [] => by simp [nones]
  | n + 1, none :: r => by simp only [List.drop_succ_cons, nones]; have := nones_drop n r; omega
  | n + 1, some _ :: r => by simp only [List.drop_succ_cons, nones]; exact nones_drop n r
theorem rest_len (p : Nat) (st hid : Sto) : (restS p st hid).length = st.length := fill_len _ _ _
theorem rest_nones {p : Nat} {st hid : Sto} (h : nones st ≤ hid.length) : nones (restS p st hid) ≤ nones hid :=
  Nat.le_trans (fill_nones p st _ (by rw [List.length_drop]; omega)) (nones_drop _ _)
theorem drop_len {st : Sto} {i : Nat} (h : i < st.length) : (dropAt st i).length + 1 = st.length := by
  unfold dropAt
  rw [List.length_append, List.length_take, List.length_drop]
  omega
theorem nones_take : ∀ (n : Nat) (st : Sto), nones (st.take n) + nones (st.drop n) = nones st
  | 0, st => by simp [nones]
  | n + 1, [] => by simp [nones]
  | n + 1, none :: r => by simp only [List.take_succ_cons, List.drop_succ_cons, nones]; have := nones_take n r; omega
  | n + 1, some _ :: r => by simp only [List.take_succ_cons, List.drop_succ_cons, nones]; exact nones_take n r
theorem drop_nones (st : Sto) (i : Nat) : nones (dropAt st i) ≤ nones st := by
  unfold dropAt
  rw [nones_app]
  have h1 := nones_take i st
  have h2 := nones_drop 1 (st.drop i)
  rw [List.drop_drop] at h2
  omega
theorem cut_nones (k : K3) : ∀ (n : Nat) (st : Sto), nones (cutN k n st) ≤ nones st
  | 0, _ => Nat.le_refl _
  | n + 1, st => Nat.le_trans (cut_nones k n _) (drop_nones st _)
theorem filter_nones : ∀ st : Sto, nones (st.filter fun f => decide (f ≠ some 0)) = nones st
  | [] => rfl
  | none :: r => by
    have ih := filter_nones r
    have h : decide ((none : Option Nat) ≠ some 0) = true := rfl
    rw [List.filter_cons, if_pos h]
    simp only [nones]
    rw [ih]
  | some x :: r => by
    rw [List.filter_cons]
    have ih := filter_nones r
    by_cases h : decide (some x ≠ some 0) = true
    · rw [if_pos h]; simp only [nones]; exact ih
    · rw [if_neg h]; simp only [nones]; exact ih
theorem use_nones (k : K3) (st : Sto) : nones (useS k st) = nones st := by
  unfold useS
  split
  · rw [nones_app, filter_nones]
    rfl
  · rfl
/-- an ask never makes more items that can't be seen -/
theorem ans_nones {c : Cfg} (hc : c.Ok) : ∀ (n : Nat) (st : Sto), nones (ans c n st).2 ≤ nones st := by
  intro n
  induction n using Nat.strongRecOn with
  | _ n ih =>
    intro st
    by_cases hn : n = 0
    · subst hn
      exact Nat.le_refl _
    · by_cases h0 : some 0 ∈ st
      · rw [ans_kept hn h0]
        exact Nat.le_of_eq (use_nones _ _)
      · rw [ans_run hc hn h0]
        have all : ∀ (l : List Nat) (a : Acc), (∀ p ∈ l, 1 ≤ p) → nones a.sto ≤ nones st → nones (l.foldl (stepR (ans c) n) a).sto ≤ nones st := by
          intro l
          induction l with
          | nil => exact fun a _ h => h
          | cons p r ihl =>
            intro a hp h
            rw [List.foldl_cons]
            refine ihl _ (fun q hq => hp q (List.mem_cons_of_mem _ hq)) ?_
            have h1 : nones (ans c (n - p) (seenS p a.sto)).2 ≤ nones (seenS p a.sto) := ih _ (by have := hp p List.mem_cons_self; omega) _
            show nones (restS p (ans c (n - p) (seenS p a.sto)).2 (hidS p a.sto)) ≤ _
            refine Nat.le_trans (rest_nones (by rw [hid_len]; exact h1)) ?_
            rw [hid_nones]
            exact h
        have h1 := all c.steps ⟨(1, 0, 0), st, []⟩ hc (Nat.le_refl _)
        show nones (cutS c.kind c.size (_ ++ [some 0])) ≤ _
        refine Nat.le_trans (cut_nones _ _ _) ?_
        rw [nones_app]
        exact h1
theorem idx_lt {m : Nat} : ∀ {st : Sto}, some m ∈ st → idxOf m st < st.length
  | [], h => nomatch h
  | f :: r, h => by
    unfold idxOf
    by_cases e : f = some m
    · rw [if_pos e]; simp
    · rw [if_neg e, List.length_cons]
      have := idx_lt (st := r) (by
        rcases List.mem_cons.mp h with z | z
        · exact absurd z.symm e
        · exact z)
      omega
theorem max_mem : ∀ {st : Sto}, (∃ x, some x ∈ st) → some (maxOf st) ∈ st
  | [], ⟨_, h⟩ => nomatch h
  | none :: r, ⟨x, h⟩ => by
    have : some x ∈ r := by simpa using h
    exact List.mem_cons_of_mem _ (max_mem ⟨x, this⟩)
  | some y :: r, _ => by
    unfold maxOf
    by_cases e : ∃ x, some x ∈ r
    · have := max_mem e
      by_cases h : maxOf r ≤ y
      · rw [Nat.max_eq_left h]; exact List.mem_cons_self
      · rw [Nat.max_eq_right (by omega)]; exact List.mem_cons_of_mem _ this
    · have h0 : maxOf r = 0 := by
        have none_max : ∀ r : Sto, (¬ ∃ x, some x ∈ r) → maxOf r = 0 := by
          intro r
          induction r with
          | nil => intro _; rfl
          | cons f r ih =>
            intro h
            cases f with
            | none => exact ih fun ⟨x, hx⟩ => h ⟨x, List.mem_cons_of_mem _ hx⟩
            | some z => exact absurd ⟨z, List.mem_cons_self⟩ h
        exact none_max r e
      rw [h0, Nat.max_eq_left (Nat.zero_le _)]
      exact List.mem_cons_self
theorem low_lt {st : Sto} (h : ∃ x, some x ∈ st) : lowAt st < st.length := idx_lt (max_mem h)
theorem cut1_len {k : K3} {st : Sto} (h : ∃ x, some x ∈ st) : (dropAt st (if k = .low then lowAt st else 0)).length + 1 = st.length := by
  refine drop_len ?_
  split
  · exact low_lt h
  · obtain ⟨x, hx⟩ := h
    exact List.length_pos_of_mem hx
theorem filter_len (st : Sto) (h : some 0 ∈ st) : (st.filter fun f => decide (f ≠ some 0)).length < st.length := by
  exact List.length_filter_lt_length_iff_exists.mpr ⟨some 0, h, by simp⟩
theorem ans_len {c : Cfg} (hc : c.Ok) : ∀ (n : Nat) (st : Sto), st.length ≤ c.size → (ans c n st).2.length ≤ c.size := by
  intro n
  induction n using Nat.strongRecOn with
  | _ n ih =>
    intro st hs
    by_cases hn : n = 0
    · subst hn
      exact hs
    · by_cases h0 : some 0 ∈ st
      · rw [ans_kept hn h0]
        unfold useS
        split
        · show ((st.filter _) ++ [some 0]).length ≤ _
          rw [List.length_append]
          have := filter_len st h0
          show _ + 1 ≤ _
          omega
        · exact hs
      · rw [ans_run hc hn h0]
        have all : ∀ (l : List Nat) (a : Acc), (∀ p ∈ l, 1 ≤ p) → a.sto.length ≤ c.size → (l.foldl (stepR (ans c) n) a).sto.length ≤ c.size := by
          intro l
          induction l with
          | nil => exact fun a _ h => h
          | cons p r ihl =>
            intro a hp h
            rw [List.foldl_cons]
            refine ihl _ (fun q hq => hp q (List.mem_cons_of_mem _ hq)) ?_
            show (restS p (ans c (n - p) (seenS p a.sto)).2 (hidS p a.sto)).length ≤ _
            rw [rest_len]
            exact ih _ (by have := hp p List.mem_cons_self; omega) _ (by unfold seenS; rw [List.length_map]; exact h)
        have h1 := all c.steps ⟨(1, 0, 0), st, []⟩ hc hs
        show (cutS c.kind c.size (_ ++ [some 0])).length ≤ _
        generalize (c.steps.foldl (stepR (ans c) n) ⟨(1, 0, 0), st, []⟩).sto = z at h1
        unfold cutS
        rw [List.length_append]
        show (cutN c.kind (z.length + 1 - c.size) (z ++ [some 0])).length ≤ _
        by_cases hz : z.length + 1 ≤ c.size
        · rw [show z.length + 1 - c.size = 0 by omega]
          show (z ++ [some 0]).length ≤ _
          rw [List.length_append]
          exact hz
        · rw [show z.length + 1 - c.size = 1 by omega]
          have := cut1_len (k := c.kind) (st := z ++ [some 0]) ⟨0, by simp⟩
          rw [List.length_append] at this
          show (dropAt (z ++ [some 0]) _).length ≤ _
          have h2 : ([some 0] : Sto).length = 1 := rfl
          omega
end Ag
namespace Ag
/-! ### which asks an engine has to run, and how deep they lie -/
/-- within f calls of each other all asks are known -/
def Near (c : Cfg) (kn : Nat → Sto → Prop) : Nat → Nat → Sto → Prop
  | 0, n, st => n = 0 ∨ some 0 ∈ st ∨ kn n st
  | f + 1, n, st => n = 0 ∨ some 0 ∈ st ∨ kn n st ∨ ∀ x ∈ (run c n st).wan, Near c kn f x.1 x.2
theorem Near.grow {c : Cfg} {kn kn' : Nat → Sto → Prop} (h : ∀ n st, kn n st → kn' n st) : ∀ {f n : Nat} {st : Sto}, Near c kn f n st → Near c kn' f n st
  | 0, _, _, .inl z => .inl z
  | 0, _, _, .inr (.inl z) => .inr (.inl z)
  | 0, _, _, .inr (.inr z) => .inr (.inr (h _ _ z))
  | _ + 1, _, _, .inl z => .inl z
  | _ + 1, _, _, .inr (.inl z) => .inr (.inl z)
  | _ + 1, _, _, .inr (.inr (.inl z)) => .inr (.inr (.inl (h _ _ z)))
  | _ + 1, _, _, .inr (.inr (.inr z)) => .inr (.inr (.inr fun x hx => (z x hx).grow h))
theorem Near.lift {c : Cfg} {kn : Nat → Sto → Prop} : ∀ {f g n : Nat} {st : Sto}, Near c kn f n st → f ≤ g → Near c kn g n st
  | 0, 0, _, _, z, _ => z
  | 0, _ + 1, _, _, .inl z, _ => .inl z
  | 0, _ + 1, _, _, .inr (.inl z), _ => .inr (.inl z)
  | 0, _ + 1, _, _, .inr (.inr z), _ => .inr (.inr (.inl z))
  | _ + 1, 0, _, _, _, h => absurd h (Nat.not_succ_le_zero _)
  | _ + 1, _ + 1, _, _, .inl z, _ => .inl z
  | _ + 1, _ + 1, _, _, .inr (.inl z), _ => .inr (.inl z)
  | _ + 1, _ + 1, _, _, .inr (.inr (.inl z)), _ => .inr (.inr (.inl z))
  | f + 1, g + 1, _, _, .inr (.inr (.inr z)), h => .inr (.inr (.inr fun x hx => (z x hx).lift (Nat.le_of_succ_le_succ h)))
/-- a run behind its first i steps -/
def pre (c : Cfg) (n : Nat) (st : Sto) (i : Nat) : Acc := (c.steps.take i).foldl (stepR (ans c) n) ⟨(1, 0, 0), st, []⟩
theorem pre_zero (c : Cfg) (n : Nat) (st : Sto) : pre c n st 0 = ⟨(1, 0, 0), st, []⟩ := rfl
theorem pre_succ {c : Cfg} {n : Nat} {st : Sto} {i p : Nat} (h : c.steps[i]? = some p) : pre c n st (i + 1) = stepR (ans c) n (pre c n st i) p := by
  unfold pre
  rw [List.take_add_one, h]
  simp [List.foldl_append]
theorem run_pre (c : Cfg) (n : Nat) (st : Sto) : run c n st = ⟨(pre c n st c.steps.length).cnt, cutS c.kind c.size ((pre c n st c.steps.length).sto ++ [some 0]), (pre c n st c.steps.length).wan⟩ := by
  unfold run runG pre
  rw [List.take_length]
theorem fold_wan (rec : Nat → Sto → Ans) (n : Nat) : ∀ (l : List Nat) (a : Acc), ∃ r, (l.foldl (stepR rec n) a).wan = a.wan ++ r
  | [], a => ⟨[], by simp⟩
  | p :: l, a => by
    obtain ⟨r, h⟩ := fold_wan rec n l (stepR rec n a p)
    rw [List.foldl_cons, h]
    unfold stepR
    simp only
    split
    · exact ⟨[(n - p, seenS p a.sto)] ++ r, by simp⟩
    · exact ⟨r, rfl⟩
theorem pre_wan {c : Cfg} {n : Nat} {st : Sto} {i : Nat} {x : Nat × Sto} (h : x ∈ (pre c n st i).wan) : x ∈ (run c n st).wan := by
  have : pre c n st c.steps.length = (c.steps.drop i).foldl (stepR (ans c) n) (pre c n st i) := by
    unfold pre
    rw [← List.foldl_append, List.take_append_drop, List.take_length]
  obtain ⟨r, e⟩ := fold_wan (ans c) n (c.steps.drop i) (pre c n st i)
  rw [run_pre]
  show x ∈ (pre c n st c.steps.length).wan
  rw [this, e]
  exact List.mem_append_left _ h
/-- what a step asks that has to be run -/
theorem step_wan {c : Cfg} {n : Nat} {st : Sto} {i p : Nat} (h : c.steps[i]? = some p) (hp : p < n) (h0 : some 0 ∉ seenS p (pre c n st i).sto) : (n - p, seenS p (pre c n st i).sto) ∈ (run c n st).wan := by
  refine pre_wan (i := i + 1) ?_
  rw [pre_succ h]
  unfold stepR
  simp only
  rw [if_pos ⟨hp, h0⟩]
  exact List.mem_append_right _ (List.mem_singleton.mpr rfl)
theorem pre_len {c : Cfg} (hc : c.Ok) {n : Nat} {st : Sto} (hs : st.length ≤ c.size) : ∀ i, (pre c n st i).sto.length ≤ c.size := by
  intro i
  have all : ∀ (l : List Nat) (a : Acc), (∀ p ∈ l, 1 ≤ p) → a.sto.length ≤ c.size → (l.foldl (stepR (ans c) n) a).sto.length ≤ c.size := by
    intro l
    induction l with
    | nil => exact fun a _ h => h
    | cons p r ihl =>
      intro a hp h
      rw [List.foldl_cons]
      refine ihl _ (fun q hq => hp q (List.mem_cons_of_mem _ hq)) ?_
      show (restS p (ans c (n - p) (seenS p a.sto)).2 (hidS p a.sto)).length ≤ _
      rw [rest_len]
      exact ans_len hc _ _ (by unfold seenS; rw [List.length_map]; exact h)
  exact all _ _ (fun p hp => hc p (List.mem_of_mem_take hp)) hs
theorem wan_all {c : Cfg} {n : Nat} {st : Sto} {M : Nat × Sto → Prop} (h : ∀ i p, c.steps[i]? = some p → p < n → some 0 ∉ seenS p (pre c n st i).sto → M (n - p, seenS p (pre c n st i).sto)) : ∀ x ∈ (run c n st).wan, M x := by
  have all : ∀ i, ∀ x ∈ (pre c n st i).wan, M x := by
    intro i
    induction i with
    | zero => intro x hx; exact nomatch hx
    | succ i ih =>
      intro x hx
      cases e : c.steps[i]? with
      | none =>
        have : pre c n st (i + 1) = pre c n st i := by
          unfold pre
          rw [List.take_add_one, e]
          simp
        rw [this] at hx
        exact ih x hx
      | some p =>
        rw [pre_succ e] at hx
        unfold stepR at hx
        simp only at hx
        split at hx
        · rename_i z
          rcases List.mem_append.mp hx with hx | hx
          · exact ih x hx
          · rw [List.mem_singleton.mp hx]
            exact h i p e z.1 z.2
        · exact ih x hx
  rw [run_pre]
  exact all _
theorem wan_lt {c : Cfg} (hc : c.Ok) {n : Nat} {st : Sto} (hs : st.length ≤ c.size) : ∀ x ∈ (run c n st).wan, 1 ≤ x.1 ∧ x.1 < n ∧ some 0 ∉ x.2 ∧ x.2.length ≤ c.size :=
  wan_all fun i p hp hlt h0 => ⟨by omega, by have := hc p (List.mem_of_getElem? hp); omega, h0, by unfold seenS; rw [List.length_map]; exact pre_len hc hs i⟩
theorem near_all {c : Cfg} (hc : c.Ok) (kn : Nat → Sto → Prop) : ∀ (n : Nat) (st : Sto), st.length ≤ c.size → Near c kn n n st := by
  intro n
  induction n using Nat.strongRecOn with
  | _ n ih =>
    intro st hs
    cases n with
    | zero => exact .inl rfl
    | succ m =>
      refine .inr (.inr (.inr fun x hx => ?_))
      obtain ⟨_, h2, _, h4⟩ := wan_lt hc hs x hx
      exact (ih x.1 h2 x.2 h4).lift (by omega)
/-- a set of asks that holds all that a number from an empty store has to run -/
structure Reg (c : Cfg) (n F : Nat) (R : List (Nat × Sto)) : Prop where
  ok : c.Ok
  size : c.size ≤ 300
  clo : ∀ x ∈ R, ∀ y ∈ (run c x.1 x.2).wan, y ∈ R
  len : R.length ≤ 16000000
  mem : ∀ m, 1 ≤ m → m ≤ n → (m, []) ∈ R
  near : ∀ m, m ≤ n → ∀ kn : Nat → Sto → Prop, (∀ m', 1 ≤ m' → m' < m → kn m' []) → Near c kn F m []
/-- all that comes of an ask, as a tree -/
def tree (c : Cfg) : Nat → Nat → Sto → List (Nat × Sto)
  | 0, n, st => [(n, st)]
  | f + 1, n, st => (n, st) :: ((run c n st).wan.map fun x => tree c f x.1 x.2).flatten
theorem tree_self (c : Cfg) : ∀ (f n : Nat) (st : Sto), (n, st) ∈ tree c f n st
  | 0, _, _ => List.mem_singleton.mpr rfl
  | _ + 1, _, _ => List.mem_cons_self
theorem tree_lt {c : Cfg} (hc : c.Ok) : ∀ (f n : Nat) (st : Sto), st.length ≤ c.size → n ≤ f → ∀ x ∈ tree c f n st, x.1 ≤ n ∧ x.2.length ≤ c.size ∧ ∀ y ∈ (run c x.1 x.2).wan, y ∈ tree c f n st
  | 0, n, st, hs, hf => by
    intro x hx
    have e := List.mem_singleton.mp hx
    subst e
    refine ⟨Nat.le_refl _, hs, fun y hy => ?_⟩
    have := wan_lt hc hs y hy
    omega
  | f + 1, n, st, hs, hf => by
    have sub : ∀ y ∈ (run c n st).wan, ∀ z ∈ tree c f y.1 y.2, z ∈ tree c (f + 1) n st := fun y hy z hz =>
      List.mem_cons_of_mem _ (List.mem_flatten.mpr ⟨_, List.mem_map.mpr ⟨y, hy, rfl⟩, hz⟩)
    intro x hx
    rcases List.mem_cons.mp hx with rfl | hx
    · exact ⟨Nat.le_refl _, hs, fun y hy => sub y hy _ (tree_self c f y.1 y.2)⟩
    · obtain ⟨l, hl, hx⟩ := List.mem_flatten.mp hx
      obtain ⟨y, hy, rfl⟩ := List.mem_map.mp hl
      obtain ⟨_, h2, _, h4⟩ := wan_lt hc hs y hy
      obtain ⟨k1, k2, k3⟩ := tree_lt hc f y.1 y.2 h4 (by omega) x hx
      exact ⟨by omega, k2, fun z hz => sub y hy z (k3 z hz)⟩
theorem fold_wan_len (rec : Nat → Sto → Ans) (n : Nat) : ∀ (l : List Nat) (a : Acc), (l.foldl (stepR rec n) a).wan.length ≤ a.wan.length + l.length
  | [], a => by simp
  | p :: l, a => by
    have h := fold_wan_len rec n l (stepR rec n a p)
    rw [List.foldl_cons, List.length_cons]
    have : (stepR rec n a p).wan.length ≤ a.wan.length + 1 := by
      unfold stepR
      simp only
      split
      · simp
      · omega
    omega
theorem wan_len (c : Cfg) (n : Nat) (st : Sto) : (run c n st).wan.length ≤ c.steps.length := by
  rw [run_pre]
  show (pre c n st c.steps.length).wan.length ≤ _
  unfold pre
  have := fold_wan_len (ans c) n (c.steps.take c.steps.length) ⟨(1, 0, 0), st, []⟩
  rw [List.take_length] at this
  simpa using this
def treeMax : Nat → Nat
  | 0 => 1
  | f + 1 => 1 + 3 * treeMax f
theorem tree_len {c : Cfg} (h3 : c.steps.length ≤ 3) : ∀ (f n : Nat) (st : Sto), (tree c f n st).length ≤ treeMax f
  | 0, _, _ => Nat.le_refl _
  | f + 1, n, st => by
    have all : ∀ l : List (Nat × Sto), ((l.map fun x => tree c f x.1 x.2).flatten).length ≤ l.length * treeMax f := by
      intro l
      induction l with
      | nil => simp
      | cons x r ih =>
        rw [List.map_cons, List.flatten_cons, List.length_append, List.length_cons, Nat.add_mul]
        have := tree_len h3 f x.1 x.2
        omega
    have h1 := all (run c n st).wan
    have h2 := wan_len c n st
    have h4 : (run c n st).wan.length * treeMax f ≤ 3 * treeMax f := Nat.mul_le_mul_right _ (by omega)
    show (_ :: _).length ≤ 1 + 3 * treeMax f
    rw [List.length_cons]
    omega
/-- small numbers: all trees together -/
def treesOf (c : Cfg) (n : Nat) : List (Nat × Sto) := ((List.range (n + 1)).map fun m => tree c n m []).flatten
theorem trees_len {c : Cfg} (h3 : c.steps.length ≤ 3) (n : Nat) : (treesOf c n).length ≤ (n + 1) * treeMax n := by
  unfold treesOf
  have all : ∀ l : List Nat, ((l.map fun m => tree c n m []).flatten).length ≤ l.length * treeMax n := by
    intro l
    induction l with
    | nil => simp
    | cons x r ih =>
      rw [List.map_cons, List.flatten_cons, List.length_append, List.length_cons, Nat.add_mul]
      have := tree_len h3 n x []
      omega
  have := all (List.range (n + 1))
  rw [List.length_range] at this
  exact this
theorem reg_small {c : Cfg} (hc : c.Ok) (h3 : c.steps.length ≤ 3) (hz : c.size ≤ 300) {n F : Nat} (hn : n ≤ F) (hl : (n + 1) * treeMax n ≤ 16000000) : Reg c n F (treesOf c n) where
  ok := hc
  size := hz
  clo := by
    intro x hx y hy
    obtain ⟨l, hl, hx⟩ := List.mem_flatten.mp hx
    obtain ⟨m, hm, rfl⟩ := List.mem_map.mp hl
    have := List.mem_range.mp hm
    exact List.mem_flatten.mpr ⟨_, List.mem_map.mpr ⟨m, hm, rfl⟩, (tree_lt hc n m [] (Nat.zero_le _) (by omega) x hx).2.2 y hy⟩
  len := Nat.le_trans (trees_len h3 n) hl
  mem := fun m _ hm => List.mem_flatten.mpr ⟨_, List.mem_map.mpr ⟨m, List.mem_range.mpr (by omega), rfl⟩, tree_self c n m []⟩
  near := fun m hm kn _ => (near_all hc kn m [] (Nat.zero_le _)).lift (by omega)
theorem Reg.less {c : Cfg} {n m F : Nat} {R : List (Nat × Sto)} (h : Reg c n F R) (hm : m ≤ n) : Reg c m F R := ⟨h.ok, h.size, h.clo, h.len, fun k h1 h2 => h.mem k h1 (by omega), fun k h1 => h.near k (by omega)⟩
/-- lists without repeats within another -/
theorem nodup_len {α : Type} [DecidableEq α] : ∀ {a b : List α}, a.Nodup → (∀ x ∈ a, x ∈ b) → a.length ≤ b.length
  | [], _, _, _ => Nat.zero_le _
  | x :: a, b, hn, h => by
    rw [List.nodup_cons] at hn
    have hx := h x List.mem_cons_self
    have h1 := nodup_len (a := a) (b := b.erase x) hn.2 fun y hy => by
      exact (List.mem_erase_of_ne (fun z : y = x => hn.1 (z ▸ hy))).mpr (h y (List.mem_cons_of_mem _ hy))
    rw [List.length_erase_of_mem hx] at h1
    have := List.length_pos_of_mem hx
    rw [List.length_cons]
    omega
end Ag
namespace Ag
open PySem PySem.Spec PyProof.Rows L2
/-! ### stores as tuples of whole numbers and None; what the small defs of the engine do with them -/
def encF : Option Nat → V
  | none => .non
  | some n => .int n
def encS (st : Sto) : List V := st.map encF
theorem encS_at {st : Sto} {i : Nat} {x : V} (h : (encS st)[i]? = some x) : ∃ f, st[i]? = some f ∧ x = encF f := by
  unfold encS at h
  rw [List.getElem?_map] at h
  cases e : st[i]? with
  | none => rw [e] at h; cases h
  | some z => rw [e] at h; exact ⟨z, rfl, (Option.some.inj h).symm⟩
theorem encS_len (st : Sto) : (encS st).length = st.length := by unfold encS; exact List.length_map _
theorem encS_snoc (st : Sto) (f : Option Nat) : encS st ++ [encF f] = encS (st ++ [f]) := by unfold encS; simp
theorem encS_app (a b : Sto) : encS a ++ encS b = encS (a ++ b) := by unfold encS; simp
theorem take_snoc {α : Type} {xs : List α} {i : Nat} {x : α} (h : xs[i]? = some x) : xs.take (i + 1) = xs.take i ++ [x] := by
  rw [List.take_add_one, h]
  rfl
theorem lt_of_at {α : Type} {xs : List α} {i : Nat} {x : α} (h : xs[i]? = some x) : i < xs.length := (List.getElem?_eq_some_iff.mp h).1
section
variable {P : Program} {w : World} {K : PySem.W.Frag} {mg : Str → Option Value} {base : Heap}
def sp_turned (K : PySem.W.Frag) : Sp := fun vs H Q _ => ∃ (a : Addr) (p : Nat) (st : Sto), vs = [.ref a, .int p] ∧ SqT K H a (encS st) ∧ st.length ≤ 400 ∧
  ∀ t s h H', Same H H' → H h = none → SqT K H' t [.ref s, .ref h] → SqT K H' s (encS (seenS p st)) → H' h = some (.lst (encS (hidS p st))) → Q (.ref t) H'
theorem look_some {p x : Nat} (h : p ≤ x) : look p (some x) = some (x - p) := if_pos h
theorem look_none {p x : Nat} (h : ¬ p ≤ x) : look p (some x) = none := if_neg h
theorem ok_turned (D : Def K mg "turned" s_turned ["store", "step"]) (T : Txt K mg) : Cal P w K mg base CX0 1 "turned" (sp_turned K) := by
  refine D.cal sc_turned (fun vs H Q E h => ?_) (fun f cdv A outer s H vs Q E hr h => ?_)
  · obtain ⟨a, p, st, rfl, _⟩ := h
    rfl
  obtain ⟨a, p, st, rfl, hs, hl, q⟩ := h
  refine ⟨_, (pss_cons (ps_par (i := 2) (j := 3) (by rfl) sc_turned.nd rfl rfl (by decide) rfl rfl (pa_cons (pe_lst pa_nil) (pa_cons (pe_lst pa_nil) pa_nil)) (by rfl))
    (pss_cons (ps_for PassesOwn.never rfl (pi_tup (pv 0)) (pg_name (i := 4) sc_turned.nd rfl (Or.inl rfl)) (pss_one (ps_if (PW.pt (pw_and (pt_cmpR op_notN (pv 4) pe_non (nomark _)) (pw_and1 (pt_cmpR op_ge (pv 4) (pv 1) (nomark _))))) (pss_one (ps_expr (pe_bm PySem.F.plainAttrs_list PySem.F.slot_list_append PySem.F.type_list_append mt_append (pv 2) (pa_cons (pe_op op_sub (pv 4) (pv 1)) pa_nil)))) (pss_cons (ps_expr (pe_bm PySem.F.plainAttrs_list PySem.F.slot_list_append PySem.F.type_list_append mt_append (pv 2) (pa_cons pe_non pa_nil)))
    (pss_one (ps_expr (pe_bm PySem.F.plainAttrs_list PySem.F.slot_list_append PySem.F.type_list_append mt_append (pv 3) (pa_cons (pv 4) pa_nil))))))))
    (pss_one (ps_ret (pe_tupS (pa_cons (pe_callTy (call_tupS) (by rfl) T.b_tuple bo_tuple (pa_cons (pv 2) pa_nil)) (pa_cons (pv 3) pa_nil))))))), ?_⟩
  refine ⟨by decide, fun S nS => ⟨by decide, fun Hd nHd => ?_⟩⟩
  have nHd' : H Hd = none := by
    by_cases z : Hd = S
    · subst z; rw [upd_same] at nHd; cases nHd
    · rw [upd_ne z] at nHd; exact nHd
  have ne : S ≠ Hd := fun z => by rw [z, upd_same] at nHd; cases nHd
  refine ⟨_, _, rfl, _, rfl, a, rfl, ⟨_, Same.sqT ((same_upd nS).trans (same_upd nHd)) hs⟩, ?_⟩
  refine for_tup (K := K) (a := a) (xs := encS st) (fun i σ H' => ∃ o, σ = [some (.ref a), some (.int p), some (.ref S), some (.ref Hd), o] ∧ Same H H' ∧ H' S = some (.lst (encS (seenS p (st.take i)))) ∧ H' Hd = some (.lst (encS (hidS p (st.take i))))) ⟨none, rfl, (same_upd nS).trans (same_upd nHd), ?_, upd_same⟩ (fun i σ H' _ h' => ?_) (fun i x σ H' hx h' => ?_) (fun σ H' h' => ?_)
  · rw [upd_ne ne]
    exact upd_same
  · obtain ⟨o, _, s', _⟩ := h'
    exact Same.sqT s' hs
  · obtain ⟨o, rfl, s', e1, e2⟩ := h'
    obtain ⟨f, hf, rfl⟩ := encS_at hx
    have hi := lt_of_at hf
    have l1 : (encS (seenS p (st.take i))).length < sizeLine := by
      rw [encS_len]
      unfold seenS
      rw [List.length_map, List.length_take]
      exact Nat.lt_of_le_of_lt (Nat.min_le_left _ _) (small1000 (by omega))
    have l2 : (encS (hidS p (st.take i))).length < sizeLine := by
      rw [encS_len]
      refine Nat.lt_of_le_of_lt (List.length_filter_le _ _) ?_
      rw [List.length_take]
      exact Nat.lt_of_le_of_lt (Nat.min_le_left _ _) (small1000 (by omega))
    have up : ∀ (x : Addr) (o : HO), (x = S ∨ x = Hd) → Same H (upd H' x o) := fun x o hx b u eb => by
      have nx : H x = none := by rcases hx with rfl | rfl <;> assumption
      rw [upd_ne (ne_of_none eb nx)]
      exact s' b u eb
    have hid : ∀ hl : look p f = none, Same H (upd (upd H' S (.lst (encS (seenS p (st.take i)) ++ [.non]))) Hd (.lst (encS (hidS p (st.take i)) ++ [encF f]))) ∧
        (upd (upd H' S (.lst (encS (seenS p (st.take i)) ++ [.non]))) Hd (.lst (encS (hidS p (st.take i)) ++ [encF f]))) S = some (.lst (encS (seenS p (st.take (i + 1))))) ∧
        (upd (upd H' S (.lst (encS (seenS p (st.take i)) ++ [.non]))) Hd (.lst (encS (hidS p (st.take i)) ++ [encF f]))) Hd = some (.lst (encS (hidS p (st.take (i + 1))))) := fun hl => by
      refine ⟨fun b u eb => ?_, ?_, ?_⟩
      · rw [upd_ne (ne_of_none eb nHd')]
        exact up S _ (.inl rfl) b u eb
      · rw [upd_ne ne, upd_same, take_snoc hf]
        unfold seenS
        rw [List.map_append, ← encS_app]
        show _ = some (HO.lst (_ ++ [encF (look p f)]))
        rw [hl]
        rfl
      · rw [upd_same, take_snoc hf]
        unfold hidS
        rw [List.filter_append, ← encS_app]
        have : List.filter (fun f => (look p f).isNone) [f] = [f] := by
          rw [List.filter_cons, if_pos (by rw [hl]; rfl)]
          rfl
        rw [this]
        rfl
    have e2' : ∀ o, (upd H' S o) Hd = some (.lst (encS (hidS p (st.take i)))) := fun o => by rw [upd_ne ne.symm]; exact e2
    cases f with
    | none =>
      refine ⟨_, rfl, rfl, _, rfl, iteF ?_⟩
      refine ⟨_, rfl, .inl ⟨rfl, _, SqL.of e1⟩, S, _, _, rfl, rfl, e1, l1, ?_⟩
      refine ⟨_, rfl, .inl ⟨rfl, _, SqL.of (e2' _)⟩, _, rfl, Hd, _, _, rfl, rfl, e2' _, l2, ?_⟩
      exact ⟨_, rfl, hid rfl⟩
    | some x =>
      refine ⟨_, rfl, rfl, _, rfl, iteT ⟨_, rfl, _, rfl, x, p, rfl, rfl, _, rfl, ite2 (fun c => ?_) (fun c => ?_)⟩⟩
      · have c' : p ≤ x := by have := of_decide_eq_true c; omega
        refine ⟨_, rfl, .inl ⟨rfl, _, SqL.of e1⟩, _, rfl, _, rfl, x, p, rfl, rfl, S, _, _, rfl, rfl, e1, l1, ?_⟩
        refine ⟨_, rfl, up S _ (.inl rfl), ?_, ?_⟩
        · rw [upd_same, take_snoc hf]
          unfold seenS
          rw [List.map_append, ← encS_app]
          show _ = some (HO.lst (_ ++ [encF (look p (some x))]))
          rw [look_some c']
          show _ = some (HO.lst (_ ++ [V.int ((x - p : Nat) : Int)]))
          rw [Int.ofNat_sub c']
        · rw [upd_ne ne.symm, e2, take_snoc hf]
          unfold hidS
          rw [List.filter_append]
          have : List.filter (fun f => (look p f).isNone) [some x] = [] := by
            rw [List.filter_cons, if_neg (by rw [look_some c']; exact Bool.false_ne_true)]
            rfl
          rw [this, List.append_nil]
      · have c' : ¬ p ≤ x := fun z => c (decide_eq_true (by omega))
        refine ⟨_, rfl, .inl ⟨rfl, _, SqL.of e1⟩, S, _, _, rfl, rfl, e1, l1, ?_⟩
        refine ⟨_, rfl, .inl ⟨rfl, _, SqL.of (e2' _)⟩, _, rfl, Hd, _, _, rfl, rfl, e2' _, l2, ?_⟩
        exact ⟨_, rfl, hid (look_none c')⟩
  · obtain ⟨o, rfl, s', e1, e2⟩ := h'
    rw [encS_len, List.take_length] at e1 e2
    refine ⟨_, rfl, S, _, rfl, .inl (SqL.of e1), fun t H1 s1 t1 => ⟨_, rfl, le2, fun tt H2 s2 t2 => ?_⟩⟩
    exact q tt t Hd H2 ((s'.trans s1).trans s2) nHd' t2 (Same.sqT s2 t1) (s2 _ _ (s1 _ _ e2))

theorem fill_app (p : Nat) : ∀ (a b hs : Sto), nones a ≤ hs.length → fill p (a ++ b) hs = fill p a hs ++ fill p b (hs.drop (nones a))
  | [], b, hs, _ => by simp [fill, nones]
  | some x :: r, b, hs, h => by
    rw [List.cons_append]
    simp only [fill, nones] at h ⊢
    rw [fill_app p r b hs h]
    rfl
  | none :: r, b, h1 :: hs, h => by
    rw [List.cons_append]
    simp only [fill, nones, List.length_cons] at h ⊢
    rw [fill_app p r b hs (by omega)]
    rfl
  | none :: r, b, [], h => by simp [nones] at h
theorem nones_take_le (i : Nat) (st : Sto) : nones (st.take i) ≤ nones st := by have := nones_take i st; omega
def sp_restored (K : PySem.W.Frag) : Sp := fun vs H Q _ => ∃ (a h : Addr) (p : Nat) (st hid : Sto), vs = [.ref a, .ref h, .int p] ∧ SqT K H a (encS st) ∧ H h = some (.lst (encS hid)) ∧ nones st ≤ hid.length ∧ st.length ≤ 400 ∧
  nT K H (encS (restS p st hid)) Q
theorem ok_restored (D : Def K mg "restored" s_restored ["store", "hidden", "step"]) (T : Txt K mg) : Cal P w K mg base CX0 1 "restored" (sp_restored K) := by
  refine D.cal sc_restored (fun vs H Q E h => ?_) (fun f cdv A outer s H vs Q E hr h => ?_)
  · obtain ⟨a, h, p, st, hid, rfl, _⟩ := h
    rfl
  obtain ⟨a, h, p, st, hid, rfl, hs, hh, hn, hl, q⟩ := h
  refine ⟨_, (pss_cons (ps_set (i := 3) sc_restored.nd rfl (Or.inl rfl) (pe_op op_sub (pe_callB (call_len_seq) (by rfl) T.b_len bo_len (pa_cons (pv 1) pa_nil)) (pe_callB (call_len_seq) (by rfl) T.b_len bo_len (pa_cons (pe_lc (own := [("far", 4)]) rfl sc_restored.nd (pi_tup (pv 0)) (blkOk_by (own := [("far", 4)]) (N := ["store", "hidden", "step", "at", "far", "found"]) (sc := defScope s_restored) (by decide +kernel)) (fun _ _ _ _ _ => (pg_name (i := 4) sc_restored.nd rfl (Or.inl rfl))) (fun _ _ _ _ _ => (pts_one (pt_cmpR op_isN (pv 4) pe_non (nomark _)))) (fun _ _ _ _ _ => (pv 4))) pa_nil))))
    (pss_cons (ps_set (i := 5) sc_restored.nd rfl (Or.inl rfl) (pe_lst pa_nil))
    (pss_cons (ps_for PassesOwn.never rfl (pi_tup (pv 0)) (pg_name (i := 4) sc_restored.nd rfl (Or.inl rfl)) (pss_one (ps_if (pt_cmpR op_isN (pv 4) pe_non (nomark _)) (pss_cons (ps_expr (pe_bm PySem.F.plainAttrs_list PySem.F.slot_list_append PySem.F.type_list_append mt_append (pv 5) (pa_cons (pe_ix ix_list (pv 1) (pv 3) (fun _ _ => rfl)) pa_nil)))
    (pss_one (ps_aug (i := 3) sc_restored.nd rfl (Or.inl rfl) pe_int ip_add))) (pss_one (ps_expr (pe_bm PySem.F.plainAttrs_list PySem.F.slot_list_append PySem.F.type_list_append mt_append (pv 5) (pa_cons (pe_op op_add (pv 4) (pv 2)) pa_nil)))))))
    (pss_one (ps_ret (pe_callTy (call_tupS) (by rfl) T.b_tuple bo_tuple (pa_cons (pv 5) pa_nil))))))), ?_⟩
  refine ⟨_, rfl, h, _, rfl, .inl (SqL.of hh), _, rfl, a, rfl, ⟨_, hs⟩, fun L nL => ?_⟩
  have repl : ∀ i, (List.replicate (nones (st.take i)) V.non).length < sizeLine := fun i => by
    rw [List.length_replicate]
    have h1 := nones_le (st.take i)
    rw [List.length_take] at h1
    exact small1000 (by omega)
  refine lc_tup (K := K) (a := a) (xs := encS st) (fun i H' => Same H H' ∧ H' L = some (.lst (List.replicate (nones (st.take i)) .non))) ⟨same_upd nL, upd_same⟩ (fun i H' _ h' => Same.sqT h'.1 hs) (fun i x H' hx h' => ?_) (fun H' h' => ?_)
  · obtain ⟨s', e'⟩ := h'
    obtain ⟨f, hf, rfl⟩ := encS_at hx
    have up : ∀ o, Same H (upd H' L o) := fun o b u eb => by
      rw [upd_ne (ne_of_none eb nL)]
      exact s' b u eb
    cases f with
    | none =>
      refine ⟨rfl, _, rfl, rfl, _, rfl, iteT ⟨_, rfl, _, e', repl i, up _, ?_⟩⟩
      rw [upd_same, take_snoc hf, nones_app]
      show some (HO.lst (List.replicate (nones (st.take i)) V.non ++ [.non])) = some (.lst (List.replicate (nones (st.take i) + 1) .non))
      rw [List.replicate_succ']
    | some x =>
      refine ⟨rfl, _, rfl, rfl, _, rfl, iteF ⟨s', ?_⟩⟩
      rw [e', take_snoc hf, nones_app]
      rfl
  · obtain ⟨s', e'⟩ := h'
    rw [encS_len, List.take_length] at e'
    refine ⟨L, _, rfl, .inl (SqL.of e'), _, _, rfl, rfl, by decide, fun F nF => ?_⟩
    have nF0 : H F = none := by
      cases z : H F with
      | none => rfl
      | some o => rw [s' _ _ z] at nF; cases nF
    have s2 : Same H (upd H' F (.lst [])) := s'.trans (same_upd nF)
    refine ⟨_, rfl, a, rfl, ⟨_, Same.sqT s2 hs⟩, ?_⟩
    refine for_tup (K := K) (a := a) (xs := encS st) (fun i σ H2 => ∃ (v : Int) (o : Option V), σ = [some (.ref a), some (.ref h), some (.int p), some (.int v), o, some (.ref F)] ∧ v = ((hid.length - nones st + nones (st.take i) : Nat) : Int) ∧ Same H H2 ∧ H2 F = some (.lst (encS (fill p (st.take i) (hid.drop (hid.length - nones st)))))) ⟨_, _, rfl, ?_, s2, upd_same⟩ (fun i σ H2 _ h2 => ?_) (fun i x σ H2 hx h2 => ?_) (fun σ H2 h2 => ?_)
    · rw [encS_len, List.length_replicate, List.take_zero]
      show (hid.length : Int) - (nones st : Int) = ((hid.length - nones st + 0 : Nat) : Int)
      omega
    · obtain ⟨v, o, _, _, s3, _⟩ := h2
      exact Same.sqT s3 hs
    · obtain ⟨v, o, rfl, rfl, s3, e3⟩ := h2
      obtain ⟨f, hf, rfl⟩ := encS_at hx
      have hi := lt_of_at hf
      have up : ∀ o, Same H (upd H2 F o) := fun o b u eb => by
        rw [upd_ne (ne_of_none eb nF0)]
        exact s3 b u eb
      have l3 : (encS (fill p (st.take i) (hid.drop (hid.length - nones st)))).length < sizeLine := by
        rw [encS_len, fill_len, List.length_take]
        exact small1000 (by omega)
      have d0 : nones (st.take i) ≤ (hid.drop (hid.length - nones st)).length := by
        have := nones_take_le i st
        rw [List.length_drop]
        omega
      have ent : st.take (i + 1) = st.take i ++ [f] := take_snoc hf
      have app : fill p (st.take (i + 1)) (hid.drop (hid.length - nones st)) = fill p (st.take i) (hid.drop (hid.length - nones st)) ++ fill p [f] (hid.drop (hid.length - nones st + nones (st.take i))) := by
        rw [ent, fill_app p _ _ _ d0, List.drop_drop]
      cases f with
      | none =>
        have lt : hid.length - nones st + nones (st.take i) < hid.length := by
          have := nones_take_le (i + 1) st
          rw [ent, nones_app] at this
          have e1 : nones [none] = 1 := rfl
          omega
        refine ⟨_, rfl, rfl, _, rfl, iteT ⟨_, rfl, .inl ⟨rfl, _, SqL.of e3⟩, _, rfl, _, rfl, h, _, _, _, rfl, rfl, SqL.of (s3 _ _ hh), atI_nat (j := hid.length - nones st + nones (st.take i)) (v := encF hid[hid.length - nones st + nones (st.take i)]) ?_, F, _, _, rfl, rfl, e3, l3, ?_⟩⟩
        · unfold encS
          rw [List.getElem?_map, List.getElem?_eq_getElem lt]
          rfl
        · refine ⟨_, rfl, _, 1, rfl, rfl, _, _, rfl, ?_, up _, ?_⟩
          · rw [ent, nones_app]
            show ((hid.length - nones st + nones (st.take i) : Nat) : Int) + 1 = ((hid.length - nones st + (nones (st.take i) + 1) : Nat) : Int)
            omega
          · rw [upd_same, app, ← encS_app]
            rw [List.drop_eq_getElem_cons lt]
            rfl
      | some x =>
        refine ⟨_, rfl, rfl, _, rfl, iteF ⟨_, rfl, .inl ⟨rfl, _, SqL.of e3⟩, _, rfl, _, rfl, _, _, rfl, rfl, F, _, _, rfl, rfl, e3, l3, _, _, rfl, ?_, up _, ?_⟩⟩
        · rw [ent, nones_app]
          rfl
        · rw [upd_same, app, ← encS_app]
          rfl
    · obtain ⟨v, o, rfl, rfl, s3, e3⟩ := h2
      rw [encS_len, List.take_length] at e3
      exact ⟨_, rfl, F, _, rfl, .inl (SqL.of e3), fun t H3 s4 t4 => q t H3 (s3.trans s4) t4⟩
def sp_added (K : PySem.W.Frag) : Sp := fun vs H Q _ => ∃ (a b : Addr) (xs ys : List Int), vs = [.ref a, .ref b] ∧ SqT K H a (xs.map V.int) ∧ SqT K H b (ys.map V.int) ∧ xs.length = ys.length ∧ xs.length ≤ 400 ∧
  nT K H ((List.zipWith (· + ·) xs ys).map V.int) Q
theorem ok_added (D : Def K mg "added" s_added ["one", "other"]) (T : Txt K mg) : Cal P w K mg base CX0 1 "added" (sp_added K) := by
  refine D.cal sc_added (fun vs H Q E h => ?_) (fun f cdv A outer s H vs Q E hr h => ?_)
  · obtain ⟨a, b, xs, ys, rfl, _⟩ := h
    rfl
  obtain ⟨a, b, xs, ys, rfl, ha, hb, hl, h4, q⟩ := h
  refine ⟨_, (pss_one (ps_ret (pe_callTy (call_tupS) (by rfl) T.b_tuple bo_tuple (pa_cons (pe_lc (own := [("first", 2), ("second", 3)]) (g := (gTup K 2 (gCons (gName 2) (gCons (gName 3) gNil)))) rfl sc_added.nd (RZ.pi_zipA (by rfl) T.b_zip (pa_cons (pv 0) (pa_cons (pv 1) pa_nil))) (blkOk_by (own := [("first", 2), ("second", 3)]) (N := ["one", "other", "first", "second"]) (sc := defScope s_added) (by decide +kernel)) (fun _ _ _ _ _ => (pg_tup (by rfl) (pgs_cons (pg_name (i := 2) sc_added.nd rfl (Or.inl rfl)) (pgs_cons (pg_name (i := 3) sc_added.nd rfl (Or.inl rfl)) pgs_nil)))) (fun _ _ _ _ _ => pts_nil) (fun _ _ _ _ _ => (pe_op op_add (pv 2) (pv 3)))) pa_nil)))), ?_⟩
  refine ⟨_, rfl, _, rfl, a, b, _, _, rfl, .inr ⟨ha, hb, fun L nL => ?_⟩⟩
  refine lc_zipT (K := K) (xs := xs.map V.int) (ys := ys.map V.int) (by rw [List.length_map, List.length_map, hl]) (fun i H' => Same H H' ∧ H' L = some (.lst ((List.zipWith (· + ·) (xs.take i) (ys.take i)).map V.int))) ⟨same_upd nL, by rw [upd_same]; rfl⟩ (fun i H' _ h' => ⟨Same.sqT h'.1 ha, Same.sqT h'.1 hb⟩) (fun i x y t H' hx hy h' nt => ?_) (fun H' h' => ?_)
  · obtain ⟨s', e'⟩ := h'
    rw [List.getElem?_map] at hx hy
    cases hx' : xs[i]? with
    | none => rw [hx'] at hx; cases hx
    | some u =>
    cases hy' : ys[i]? with
    | none => rw [hy'] at hy; cases hy
    | some v =>
    rw [hx'] at hx
    rw [hy'] at hy
    cases hx
    cases hy
    have nLt : L ≠ t := fun z => by rw [z, nt] at e'; cases e'
    have tn : H t = none := by
      cases z : H t with
      | none => rfl
      | some o => rw [s' _ _ z] at nt; cases nt
    refine ⟨t, _, rfl, SqT.of upd_same, rfl, _, _, rfl, _, _, rfl, rfl, rfl, _, rfl, _, rfl, u, v, rfl, rfl, _, (upd_ne nLt).trans e', ?_, fun b o eb => ?_, ?_⟩
    · rw [List.length_map, List.length_zipWith, List.length_take]
      exact small1000 (by omega)
    · rw [upd_ne (ne_of_none eb nL), upd_ne (ne_of_none eb tn)]
      exact s' b o eb
    · rw [upd_same, take_snoc hx', take_snoc hy', List.zipWith_append (by rw [List.length_take, List.length_take, hl])]
      simp
  · obtain ⟨s', e'⟩ := h'
    rw [List.length_map, List.take_length, hl, List.take_length] at e'
    exact ⟨L, _, rfl, .inl (SqL.of e'), fun t H2 s2 t2 => q t H2 (s'.trans s2) t2⟩

/-! ### the lowest item -/
def toI : Option Nat → Option Int
  | none => none
  | some x => some (x : Int)
def seenNs (st : Sto) : List Int := st.filterMap toI
theorem seenNs_max {st : Sto} {m : Int} (h : m ∈ seenNs st) (hm : ∀ y ∈ seenNs st, y ≤ m) : m = (maxOf st : Nat) := by
  have key : ∀ st : Sto, (∀ y ∈ seenNs st, y ≤ ((maxOf st : Nat) : Int)) := by
    intro st
    induction st with
    | nil => intro y hy; simp [seenNs] at hy
    | cons f r ih =>
      intro y hy
      cases f with
      | none => exact ih y hy
      | some x =>
        have hy : y ∈ (x : Int) :: seenNs r := hy
        rw [List.mem_cons] at hy
        unfold maxOf
        rcases hy with rfl | hy
        · have := Nat.le_max_left x (maxOf r)
          omega
        · have := ih y hy
          have := Nat.le_max_right x (maxOf r)
          omega
  have h1 := key st m h
  have h2 : ((maxOf st : Nat) : Int) ∈ seenNs st := by
    have : some (maxOf st) ∈ st := by
      refine max_mem ?_
      unfold seenNs at h
      obtain ⟨f, hf, e⟩ := List.mem_filterMap.mp h
      cases f with
      | none => cases e
      | some x => exact ⟨x, hf⟩
    unfold seenNs
    exact List.mem_filterMap.mpr ⟨_, this, rfl⟩
  have h3 := hm _ h2
  omega
theorem seenNs_snoc (st : Sto) (f : Option Nat) : seenNs (st ++ [f]) = seenNs st ++ (match f with | none => [] | some x => [(x : Int)]) := by
  unfold seenNs
  rw [List.filterMap_append]
  cases f <;> rfl
theorem seenNs_len (st : Sto) : (seenNs st).length ≤ st.length := List.length_filterMap_le _ _
def posOf (m : Nat) (st : Sto) (n : Nat) : List Nat := (List.range n).filter fun j => decide (st[j]? = some (some m))
theorem posOf_succ (m : Nat) (st : Sto) (n : Nat) : posOf m st (n + 1) = posOf m st n ++ (if st[n]? = some (some m) then [n] else []) := by
  unfold posOf
  rw [List.range_succ, List.filter_append]
  by_cases h : st[n]? = some (some m)
  · rw [if_pos h, List.filter_cons, if_pos (decide_eq_true h)]
    rfl
  · rw [if_neg h, List.filter_cons, if_neg (fun z => h (of_decide_eq_true z))]
    rfl
theorem posOf_len (m : Nat) (st : Sto) (n : Nat) : (posOf m st n).length ≤ n := by
  have := List.length_filter_le (fun j => decide (st[j]? = some (some m))) (List.range n)
  rw [List.length_range] at this
  exact this
theorem idx_at {m : Nat} : ∀ {st : Sto}, some m ∈ st → st[idxOf m st]? = some (some m)
  | [], h => nomatch h
  | f :: r, h => by
    unfold idxOf
    by_cases e : f = some m
    · rw [if_pos e, e]; rfl
    · rw [if_neg e, List.getElem?_cons_succ]
      refine idx_at ?_
      rcases List.mem_cons.mp h with z | z
      · exact absurd z.symm e
      · exact z
theorem idx_no {m : Nat} : ∀ {st : Sto} {j : Nat}, j < idxOf m st → st[j]? ≠ some (some m)
  | [], j, h => by unfold idxOf at h; omega
  | f :: r, j, h => by
    unfold idxOf at h
    by_cases e : f = some m
    · rw [if_pos e] at h; omega
    · rw [if_neg e] at h
      cases j with
      | zero => intro z; exact e (Option.some.inj z)
      | succ j => rw [List.getElem?_cons_succ]; exact idx_no (by omega)
theorem posOf_head {m : Nat} {st : Sto} (h : some m ∈ st) : (posOf m st st.length)[0]? = some (idxOf m st) := by
  unfold posOf
  rw [← List.head?_eq_getElem?, List.head?_filter, List.find?_range_eq_some]
  refine ⟨decide_eq_true (idx_at h), by rw [List.mem_range]; exact idx_lt h, fun j hj => ?_⟩
  rw [decide_eq_false (idx_no hj)]
  rfl
def sp_lowest (K : PySem.W.Frag) : Sp := fun vs H Q _ => ∃ (a : Addr) (st : Sto), vs = [.ref a] ∧ SqT K H a (encS st) ∧ (∃ x, some x ∈ st) ∧ st.length ≤ 401 ∧ ∀ H', Same H H' → Q (.int (lowAt st : Nat)) H'
theorem ok_lowest (D : Def K mg "lowest" s_lowest ["store"]) (T : Txt K mg) : Cal P w K mg base CX0 1 "lowest" (sp_lowest K) := by
  refine D.cal sc_lowest (fun vs H Q E h => ?_) (fun f cdv A outer s H vs Q E hr h => ?_)
  · obtain ⟨a, st, rfl, _⟩ := h
    rfl
  obtain ⟨a, st, rfl, hs, hx0, hl, q⟩ := h
  refine ⟨_, (pss_cons (ps_set (i := 1) sc_lowest.nd rfl (Or.inr rfl) (pe_callB (cr_max rfl) (by rfl) T.b_max bo_max (pa_cons (pe_lc (own := [("far", 2)]) rfl sc_lowest.nd (pi_tup (pv 0)) (blkOk_by (own := [("far", 2)]) (N := ["store", "best", "far", "at"]) (sc := defScope s_lowest) (by decide +kernel)) (fun _ _ _ _ _ => (pg_name (i := 2) sc_lowest.nd rfl (Or.inl rfl))) (fun _ _ _ _ _ => (pts_one (pt_cmpR op_notN (pv 2) pe_non (nomark _)))) (fun _ _ _ _ _ => (pv 2))) pa_nil)))
    (pss_one (ps_ret (pe_ix ix_list (pe_lc (own := [("at", 3), ("far", 2)]) (g := (gTup K 2 (gCons (gName 3) (gCons (gName 2) gNil)))) rfl sc_lowest.nd (pi_enumT (by rfl) T.b_enumerate (pa_cons (pv 0) pa_nil)) (blkOk_by (own := [("at", 3), ("far", 2)]) (N := ["store", "best", "far", "at"]) (sc := defScope s_lowest) (by decide +kernel)) (fun _ _ _ _ _ => (pg_tup (by rfl) (pgs_cons (pg_name (i := 3) sc_lowest.nd rfl (Or.inl rfl)) (pgs_cons (pg_name (i := 2) sc_lowest.nd rfl (Or.inl rfl)) pgs_nil)))) (fun _ _ _ _ _ => (pts_one (pt_cmpR op_eq (pv 2) (pv 1) (nomark _)))) (fun _ _ _ _ _ => (pv 3))) pe_int (fun _ _ => rfl))))), ?_⟩
  refine ⟨_, rfl, a, rfl, ⟨_, hs⟩, fun L nL => ?_⟩
  refine lc_tup (K := K) (a := a) (xs := encS st) (fun i H' => Same H H' ∧ H' L = some (.lst ((seenNs (st.take i)).map V.int))) ⟨same_upd nL, upd_same⟩ (fun i H' _ h' => Same.sqT h'.1 hs) (fun i x H' hx h' => ?_) (fun H' h' => ?_)
  · obtain ⟨s', e'⟩ := h'
    obtain ⟨f, hf, rfl⟩ := encS_at hx
    have hi := lt_of_at hf
    cases f with
    | none =>
      refine ⟨rfl, _, rfl, rfl, _, rfl, iteF ⟨s', ?_⟩⟩
      rw [e', take_snoc hf, seenNs_snoc]
      simp
    | some x =>
      refine ⟨rfl, _, rfl, rfl, _, rfl, iteT ⟨_, rfl, _, e', ?_, fun b u eb => ?_, ?_⟩⟩
      · rw [List.length_map]
        have h1 := seenNs_len (st.take i)
        rw [List.length_take] at h1
        exact small1000 (by omega)
      · rw [upd_ne (ne_of_none eb nL)]
        exact s' b u eb
      · rw [upd_same, take_snoc hf, seenNs_snoc, List.map_append]
        rfl
  · obtain ⟨s', e'⟩ := h'
    rw [encS_len, List.take_length] at e'
    obtain ⟨x0, hx0'⟩ := hx0
    have ne : 0 < (seenNs st).length := List.length_pos_of_mem (a := (x0 : Int)) (by unfold seenNs; exact List.mem_filterMap.mpr ⟨_, hx0', rfl⟩)
    refine ⟨L, _, rfl, SqL.of e', ne, fun m hm hmax => ?_⟩
    have em := seenNs_max hm hmax
    subst em
    have hmem : some (maxOf st) ∈ st := max_mem ⟨x0, hx0'⟩
    refine ⟨_, rfl, a, _, rfl, Same.sqT s' hs, fun M nM => ?_⟩
    have nM0 : H M = none := by
      cases z : H M with
      | none => rfl
      | some o => rw [s' _ _ z] at nM; cases nM
    refine lc_enumT (K := K) (a := a) (xs := encS st) (fun i H2 => Same H H2 ∧ H2 M = some (.lst ((posOf (maxOf st) st i).map fun j => V.int (j : Nat)))) ⟨s'.trans (same_upd nM), upd_same⟩ (fun i H2 _ h2 => Same.sqT h2.1 hs) (fun i x t H2 hx h2 nt => ?_) (fun H2 h2 => ?_)
    · obtain ⟨s2, e2⟩ := h2
      obtain ⟨f, hf, rfl⟩ := encS_at hx
      have hi := lt_of_at hf
      have nMt : M ≠ t := fun z => by rw [z, nt] at e2; cases e2
      have nt0 : H t = none := by
        cases z : H t with
        | none => rfl
        | some o => rw [s2 _ _ z] at nt; cases nt
      have s3 : Same H (upd H2 t (.tup [.int (i : Nat), encF f])) := s2.trans (same_upd nt)
      cases f with
      | none =>
        refine ⟨t, _, rfl, SqT.of upd_same, rfl, _, _, rfl, _, _, rfl, rfl, rfl, _, rfl, _, rfl, rfl, _, rfl, iteF ⟨s3, ?_⟩⟩
        rw [upd_ne nMt, e2, posOf_succ, hf, if_neg (by simp)]
        simp
      | some x =>
        refine ⟨t, _, rfl, SqT.of upd_same, rfl, _, _, rfl, _, _, rfl, rfl, rfl, _, rfl, _, rfl, rfl, _, rfl, ite2 (fun c => ?_) (fun c => ?_)⟩
        · have c' : x = maxOf st := by
            have := of_decide_eq_true c
            injection this with this
            omega
          refine ⟨_, rfl, _, (upd_ne nMt).trans e2, ?_, fun b u eb => ?_, ?_⟩
          · rw [List.length_map]
            have := posOf_len (maxOf st) st i
            exact small1000 (by omega)
          · rw [upd_ne (ne_of_none eb nM0)]
            exact s3 b u eb
          · rw [upd_same, posOf_succ, hf, c', if_pos rfl]
            simp
        · have c' : x ≠ maxOf st := fun z => c (by rw [z]; exact decide_eq_true rfl)
          refine ⟨s3, ?_⟩
          rw [upd_ne nMt, e2, posOf_succ, hf, if_neg (by simpa using c')]
          simp
    · obtain ⟨s2, e2⟩ := h2
      rw [encS_len] at e2
      refine ⟨M, _, 0, .int (lowAt st : Nat), rfl, rfl, SqL.of e2, atI_nat (j := 0) ?_, q H2 s2⟩
      rw [List.getElem?_map, posOf_head hmem]
      rfl

/-! ### a store cut to its size -/
def kdS : K3 → Str
  | .low => "low"
  | .put => "put"
  | .use => "use"
theorem cutV_take {xs : List V} {j : Nat} (h : j ≤ xs.length) : cutV xs none (some (j : Nat)) = xs.take j := by
  have e0 : HT.sIx xs.length 0 none = 0 := rfl
  have e1 : HT.sIx xs.length xs.length (some (j : Nat)) = j := (HT.sIx_nat _ _ _).trans (Nat.min_eq_left h)
  unfold cutV
  rw [e0, e1]
  simp
theorem cutV_drop {xs : List V} {j : Nat} (h : j ≤ xs.length) : cutV xs (some (j : Nat)) none = xs.drop j := by
  have e0 : HT.sIx xs.length 0 (some (j : Nat)) = j := (HT.sIx_nat _ _ _).trans (Nat.min_eq_left h)
  have e1 : HT.sIx xs.length xs.length none = xs.length := rfl
  unfold cutV
  rw [e0, e1]
  rw [List.take_of_length_le (by rw [List.length_drop]; exact Nat.le_refl _)]
def sp_cut (K : PySem.W.Frag) : Sp := fun vs H Q _ => ∃ (a : Addr) (size : Nat) (k : K3) (st : Sto), vs = [.ref a, .int size, .str (kdS k)] ∧ SqT K H a (encS st) ∧ st.length ≤ 401 ∧
  (k = .low → ∀ j, j < st.length - size → ∃ x, some x ∈ cutN k j st) ∧ nT K H (encS (cutS k size st)) Q
theorem cutN_len {k : K3} : ∀ {n : Nat} {st : Sto}, n ≤ st.length → (k = .low → ∀ j, j < n → ∃ x, some x ∈ cutN k j st) → (cutN k n st).length = st.length - n
  | 0, _, _, _ => rfl
  | n + 1, st, h, hv => by
    have h0 : (dropAt st (if k = .low then lowAt st else 0)).length + 1 = st.length := by
      refine drop_len ?_
      by_cases e : k = .low
      · rw [if_pos e]
        exact low_lt (hv e 0 (by omega))
      · rw [if_neg e]; omega
    show (cutN k n (dropAt st (if k = .low then lowAt st else 0))).length = _
    rw [cutN_len (by omega) fun e j hj => hv e (j + 1) (by omega)]
    omega
theorem ok_cut (D : Def K mg "cut" s_cut ["store", "size", "rule"]) (T : Txt K mg) (C_lowest : Cal P w K mg base CX0 1 "lowest" (sp_lowest K)) : Cal P w K mg base CX0 2 "cut" (sp_cut K) := by
  refine D.cal sc_cut (fun vs H Q E h => ?_) (fun f cdv A outer s H vs Q E hr h => ?_)
  · obtain ⟨a, size, k, st, rfl, _⟩ := h
    rfl
  obtain ⟨a, size, k, st, rfl, hs, hl, hv, q⟩ := h
  refine ⟨_, (pss_cons (ps_while PassesOwn.never (pt_cmpR op_gt (pe_callB (call_len_seq) (by rfl) T.b_len bo_len (pa_cons (pv 0) pa_nil)) (pv 1) (nomark _)) (pss_cons (ps_set (i := 3) sc_cut.nd rfl (Or.inl rfl) (pe_ifExp (pt_cmpR op_eq (pv 2) pe_str (nomark _)) (pe_c C_lowest hr (by omega) (by rfl) (pa_cons (pv 0) pa_nil)) pe_int))
    (pss_one (ps_set (i := 0) sc_cut.nd rfl (Or.inl rfl) (pe_op op_catS (pe_slice sl_tupS (pv 0) po_none (po_some (pv 3))) (pe_slice sl_tupS (pv 0) (po_some (pe_op op_add (pv 3) pe_int)) po_none))))))
    (pss_one (ps_ret (pv 0)))), ?_⟩
  refine ⟨fun m σ H' => ∃ (b : Addr) (s1 : Sto) (o : Option V), m = s1.length ∧ σ = [some (.ref b), some (.int size), some (.str (kdS k)), o] ∧ Same H H' ∧ SqT K H' b (encS s1) ∧ s1.length ≤ 401 ∧ cutN k (s1.length - size) s1 = cutS k size st ∧ (k = .low → ∀ j, j < s1.length - size → ∃ x, some x ∈ cutN k j s1),
    ⟨_, a, st, none, rfl, rfl, Same.refl H, hs, hl, rfl, hv⟩, fun m σ H' h' => ?_⟩
  obtain ⟨b, s1, o, rfl, rfl, s', hb, l1, hc, hv1⟩ := h'
  refine ⟨_, rfl, b, _, rfl, .inr hb, _, rfl, _, _, rfl, rfl, _, rfl, ite2 (fun c => ?_) (fun c => ?_)⟩
  · rw [encS_len] at c
    have c' : size < s1.length := by have := of_decide_eq_true c; omega
    refine ⟨_, fun σ' H' h => h, ?_⟩
    have go : ∀ (at' : Nat) (H2 : Hp), Same H' H2 → at' = (if k = .low then lowAt s1 else 0) → tAsg
      (tOp
        (rCatS K)
        (tSl
          (rSlS K)
          (tVar 0) tNoPart (tPart (tVar 3)))
        (tSl
          (rSlS K)
          (tVar 0) (tPart (tOp (rI0 fun i j => V.int (i + j)) (tVar 3) (tC (V.int 1)))) tNoPart))
      (gName 0) { nx := fun σ' H' => ∃ m', m' < s1.length ∧ ∃ (b : Addr) (s1 : Sto) (o : Option V), m' = s1.length ∧ σ' = [some (.ref b), some (.int size), some (.str (kdS k)), o] ∧ Same H H' ∧ SqT K H' b (encS s1) ∧ s1.length ≤ 401 ∧ cutN k (s1.length - size) s1 = cutS k size st ∧ (k = .low → ∀ j, j < s1.length - size → ∃ x, some x ∈ cutN k j s1), rt := Q, bk := tRet (tVar 0) { nx := fun x H' => Q .non H', rt := Q }, ct := fun σ' H' => ∃ m', m' < s1.length ∧ ∃ (b : Addr) (s1 : Sto) (o : Option V), m' = s1.length ∧ σ' = [some (.ref b), some (.int size), some (.str (kdS k)), o] ∧ Same H H' ∧ SqT K H' b (encS s1) ∧ s1.length ≤ 401 ∧ cutN k (s1.length - size) s1 = cutS k size st ∧ (k = .low → ∀ j, j < s1.length - size → ∃ x, some x ∈ cutN k j s1) } [some (.ref b), some (.int size), some (.str (kdS k)), some (.int (at' : Nat))] H2 := fun at' H2 s2 e => by
      have lt : at' < s1.length := by
        rw [e]
        split
        · rename_i z
          exact low_lt (hv1 z 0 (by omega))
        · omega
      have l2 := encS_len s1
      refine ⟨_, rfl, _, rfl, _, rfl, b, _, rfl, Same.sqT s2 hb, fun p1 H3 s3 t3 => ?_⟩
      refine ⟨_, rfl, _, rfl, _, _, rfl, rfl, _, rfl, b, _, rfl, Same.sqT s3 (Same.sqT s2 hb), fun p2 H4 s4 t4 => ?_⟩
      rw [cutV_take (by omega)] at t3
      have e1 : ((at' : Int) + 1) = ((at' + 1 : Nat) : Int) := rfl
      rw [e1, cutV_drop (by omega)] at t4
      refine ⟨p1, p2, _, _, rfl, rfl, Same.sqT s4 t3, t4, ?_, fun p5 H5 s5 t5 => ?_⟩
      · rw [List.length_take, List.length_drop]
        exact Nat.le_of_lt (small1000 (by omega))
      · have e5 : (encS s1).take at' ++ (encS s1).drop (at' + 1) = encS (dropAt s1 at') := by
          unfold encS dropAt
          rw [List.map_append, List.map_take, List.map_drop]
        rw [e5] at t5
        have l5 := drop_len lt
        have e6 : s1.length - size = ((dropAt s1 at').length - size) + 1 := by omega
        refine ⟨(dropAt s1 at').length, by omega, p5, dropAt s1 at', _, rfl, rfl, s'.trans (s2.trans (s3.trans (s4.trans s5))), t5, by omega, ?_, fun z j hj => ?_⟩
        · rw [← hc, e6, e]
          rfl
        · have := hv1 z (j + 1) (by omega)
          rw [e]
          exact this
    cases k with
    | low =>
      refine ⟨_, rfl, rfl, _, rfl, iteT ⟨_, rfl, b, s1, rfl, hb, hv1 rfl 0 (by omega), l1, fun H2 s2 => go _ H2 s2 rfl⟩⟩
    | put => exact ⟨_, rfl, rfl, _, rfl, iteF (go 0 H' (Same.refl _) rfl)⟩
    | use => exact ⟨_, rfl, rfl, _, rfl, iteF (go 0 H' (Same.refl _) rfl)⟩
  · rw [encS_len] at c
    have c' : ¬ size < s1.length := fun z => c (decide_eq_true (by omega))
    have e : s1.length - size = 0 := by omega
    rw [e] at hc
    refine ⟨_, rfl, q b H' s' ?_⟩
    rw [← hc]
    exact hb
end
end Ag
namespace Ag
open PySem PySem.Spec PyProof.Rows L2
/-! ### the engine's known runs -/
def kF : Option Nat → NestedKey
  | none => .none
  | some n => .num n
def kS (st : Sto) : NestedKey := .tup (st.map kF)
def keyOf (n : Nat) (st : Sto) : NestedKey := .tup [.num n, kS st]
def kC (c : Cnt) : NestedKey := .tup [.num c.1, .num c.2.1, .num c.2.2]
def kAns (r : Ans) : NestedKey := .tup [kC r.1, kS r.2]
def kRun (a : Acc) : NestedKey := .tup [kC a.cnt, kS a.sto, .tup (a.wan.map fun x => keyOf x.1 x.2)]
theorem kF_inj : ∀ {a b : Option Nat}, kF a = kF b → a = b
  | none, none, _ => rfl
  | some a, some b, h => by
    have h : NestedKey.num a = .num b := h
    injection h with h
    rw [Int.ofNat.inj h]
  | none, some _, h => by cases h
  | some _, none, h => by cases h
theorem kFs_inj : ∀ {a b : Sto}, a.map kF = b.map kF → a = b
  | [], [], _ => rfl
  | [], _ :: _, h => by cases h
  | _ :: _, [], h => by cases h
  | x :: a, y :: b, h => by
    rw [List.map_cons, List.map_cons] at h
    injection h with h1 h2
    rw [kF_inj h1, kFs_inj h2]
theorem keyOf_inj {n m : Nat} {a b : Sto} (h : keyOf n a = keyOf m b) : n = m ∧ a = b := by
  unfold keyOf kS at h
  injection h with h
  injection h with h1 h2
  injection h1 with h1
  injection h2 with h2 _
  injection h2 with h2
  exact ⟨Int.ofNat.inj h1, kFs_inj h2⟩
theorem kF_depth (f : Option Nat) : (kF f).depth = 0 := by cases f <;> rfl
theorem kFs_depth : ∀ st : Sto, NestedKey.depthAll (st.map kF) = 0
  | [] => rfl
  | f :: r => by
    rw [List.map_cons, NestedKey.depthAll, kFs_depth r, kF_depth]
    rfl
theorem keyOf_depth (n : Nat) (st : Sto) : (keyOf n st).depth ≤ 8 := by
  unfold keyOf kS
  simp only [NestedKey.depth, NestedKey.depthAll, kFs_depth]
  decide
section
variable {K : PySem.W.Frag} {H H' : Hp}
theorem nks_sto : ∀ {st : Sto} {vs : List V}, NKs K H (st.map kF) vs → vs = encS st
  | [], _, h => by cases h; rfl
  | f :: r, _, h => by
    rw [List.map_cons] at h
    cases h with
    | cons a b =>
      rw [nks_sto b]
      cases f with
      | none => cases a; rfl
      | some x => cases a; rfl
theorem sto_nks : ∀ st : Sto, NKs K H (st.map kF) (encS st)
  | [] => .nil
  | none :: r => .cons .non (sto_nks r)
  | some x :: r => .cons (.num _) (sto_nks r)
theorem nk_sto {st : Sto} {v : V} (h : NK K H (kS st) v) : ∃ a, v = .ref a ∧ SqT K H a (encS st) := by
  cases h with
  | tup a b =>
    rw [nks_sto b] at a
    exact ⟨_, rfl, a⟩
theorem sto_nk {st : Sto} {a : Addr} (h : SqT K H a (encS st)) : NK K H (kS st) (.ref a) := .tup h (sto_nks st)
def cntV (c : Cnt) : List Int := [(c.1 : Int), c.2.1, c.2.2]
theorem nk_cnt {c : Cnt} {v : V} (h : NK K H (kC c) v) : ∃ a, v = .ref a ∧ SqT K H a ((cntV c).map V.int) := by
  cases h with
  | tup a b =>
    cases b with
    | cons b1 b =>
    cases b with
    | cons b2 b =>
    cases b with
    | cons b3 b =>
    cases b
    cases b1
    cases b2
    cases b3
    exact ⟨_, rfl, a⟩
theorem cnt_nk {c : Cnt} {a : Addr} (h : SqT K H a ((cntV c).map V.int)) : NK K H (kC c) (.ref a) := .tup h (.cons (.num _) (.cons (.num _) (.cons (.num _) .nil)))
theorem key_nk {n : Nat} {st : Sto} {a b : Addr} (h : SqT K H a [.int n, .ref b]) (hb : SqT K H b (encS st)) : NK K H (keyOf n st) (.ref a) := .tup h (.cons (.num _) (.cons (sto_nk hb) .nil))
theorem nk_ans {r : Ans} {v : V} (h : NK K H (kAns r) v) : ∃ a b c, v = .ref a ∧ SqT K H a [.ref b, .ref c] ∧ SqT K H b ((cntV r.1).map V.int) ∧ SqT K H c (encS r.2) := by
  cases h with
  | tup a b =>
    cases b with
    | cons b1 b =>
    cases b with
    | cons b2 b =>
    cases b
    obtain ⟨p, rfl, hp⟩ := nk_cnt b1
    obtain ⟨q, rfl, hq⟩ := nk_sto b2
    exact ⟨_, p, q, rfl, a, hp, hq⟩
theorem ans_nk {r : Ans} {a b c : Addr} (h : SqT K H a [.ref b, .ref c]) (hb : SqT K H b ((cntV r.1).map V.int)) (hc : SqT K H c (encS r.2)) : NK K H (kAns r) (.ref a) := .tup h (.cons (cnt_nk hb) (.cons (sto_nk hc) .nil))
theorem nk_run {a : Acc} {v : V} (h : NK K H (kRun a) v) : ∃ q x y z, v = .ref q ∧ SqT K H q [x, y, z] ∧ NK K H (kC a.cnt) x ∧ NK K H (kS a.sto) y ∧ NK K H (.tup (a.wan.map fun x => keyOf x.1 x.2)) z := by
  cases h with
  | tup a b =>
    cases b with
    | cons b1 b =>
    cases b with
    | cons b2 b =>
    cases b with
    | cons b3 b =>
    cases b
    exact ⟨_, _, _, _, rfl, a, b1, b2, b3⟩
theorem nks_snoc : ∀ {ks : List NestedKey} {vs : List V} {k : NestedKey} {v : V}, NKs K H ks vs → NK K H k v → NKs K H (ks ++ [k]) (vs ++ [v])
  | [], _, _, _, h, g => by cases h; exact .cons g .nil
  | _ :: _, _, _, _, h, g => by
    cases h with
    | cons a b => exact .cons a (nks_snoc b g)
theorem nks_len : ∀ {ks : List NestedKey} {vs : List V}, NKs K H ks vs → vs.length = ks.length
  | [], _, h => by cases h; rfl
  | _ :: _, _, h => by
    cases h with
    | cons a b => rw [List.length_cons, List.length_cons, nks_len b]
theorem flat_enc : ∀ st : Sto, (encS st).all flatV = true
  | [] => rfl
  | none :: r => by
    show (true && (encS r).all flatV) = true
    rw [flat_enc r]; rfl
  | some _ :: r => by
    show (true && (encS r).all flatV) = true
    rw [flat_enc r]; rfl
theorem in_enc : ∀ st : Sto, inV (.int 0) (encS st) = decide (some 0 ∈ st)
  | [] => rfl
  | none :: r => by
    show (false || inV (.int 0) (encS r)) = _
    rw [in_enc r]
    simp
  | some 0 :: r => by
    show (true || inV (.int 0) (encS r)) = _
    simp
  | some (x + 1) :: r => by
    show (((x + 1 : Nat) : Int) == 0 || inV (.int 0) (encS r)) = _
    rw [in_enc r]
    have : ((((x + 1 : Nat) : Int)) == 0) = false := by
      rw [beq_eq_false_iff_ne]
      omega
    rw [this]
    simp
end
/-- the engine's class -/
structure EngCls (K : PySem.W.Frag) (C : Addr) : Prop where
  cls : Cls K C
  n_steps : NoAttr K C "steps"
  n_size : NoAttr K C "size"
  n_rule : NoAttr K C "rule"
  n_known : NoAttr K C "known"
/-- a run is known -/
def Kn (kvs : List (NestedKey × V)) (n : Nat) (st : Sto) : Prop := (valV kvs (keyOf n st)).isSome = true
/-- an engine: its setup, and the runs that it knows -/
structure EngAt (P : Program) (w : World) (K : PySem.W.Frag) (C : Addr) (H : Hp) (e d tp : Addr) (c : Cfg) (R : List (Nat × Sto)) (kvs : List (NestedKey × V)) : Prop where
  ins : ∃ dx, H e = some (.ins C dx [("steps", .ref tp), ("size", .int c.size), ("rule", .str (kdS c.kind)), ("known", .ref d)])
  st : SqT K H tp (c.steps.map fun n => .int (n : Nat))
  nd : ND P w K H d kvs
  nodup : (kvs.map (·.1)).Nodup
  good : ∀ kv ∈ kvs, ∃ n st q, kv = (keyOf n st, .ref q) ∧ (n, st) ∈ R ∧ NK K H (kRun (run c n st)) (.ref q)
  clo : ∀ n st, Kn kvs n st → ∀ x ∈ (run c n st).wan, Kn kvs x.1 x.2
section
variable {P : Program} {w : World} {K : PySem.W.Frag} {C : Addr} {H H' : Hp} {e d tp : Addr} {c : Cfg} {R : List (Nat × Sto)} {kvs : List (NestedKey × V)}
theorem EngAt.ev {M : List Addr} (g : EngAt P w K C H e d tp c R kvs) (x : Ev M H H') (he : e ∉ M) (hd : d ∉ M) : EngAt P w K C H' e d tp c R kvs := by
  obtain ⟨dx, h⟩ := g.ins
  exact ⟨⟨dx, x.keep _ _ h he⟩, x.sqT g.st, g.nd.ev x hd, g.nodup, fun kv hk => by
    obtain ⟨n, st, q, e1, e2, e3⟩ := g.good kv hk
    exact ⟨n, st, q, e1, e2, NK.ev x _ _ e3⟩, g.clo⟩
theorem EngAt.same (g : EngAt P w K C H e d tp c R kvs) (x : Same H H') : EngAt P w K C H' e d tp c R kvs := g.ev (sEv0 x) (by simp) (by simp)
theorem EngAt.ne (g : EngAt P w K C H e d tp c R kvs) : e ≠ d := fun z => by
  obtain ⟨dx, h⟩ := g.ins
  obtain ⟨xs, h2, _⟩ := g.nd.ex
  rw [z, h2] at h
  cases h
theorem EngAt.mut (g : EngAt P w K C H e d tp c R kvs) : ∀ b ∈ [d], Mut (H b) := fun b hb => by
  have : b = d := by simpa using hb
  rw [this]
  exact g.nd.mut
theorem EngAt.len (g : EngAt P w K C H e d tp c R kvs) : kvs.length ≤ R.length := by
  have h := nodup_len (a := kvs.map (·.1)) (b := R.map fun x => keyOf x.1 x.2) g.nodup fun k hk => by
    obtain ⟨kv, h1, rfl⟩ := List.mem_map.mp hk
    obtain ⟨n, st, q, e1, e2, _⟩ := g.good kv h1
    rw [e1]
    exact List.mem_map.mpr ⟨_, e2, rfl⟩
  rwa [List.length_map, List.length_map] at h
theorem valV_mem {kvs : List (NestedKey × V)} {k : NestedKey} {v : V} (h : valV kvs k = some v) : (k, v) ∈ kvs := by
  unfold valV at h
  obtain ⟨p, hp, e⟩ := Option.map_eq_some_iff.mp h
  have h1 := List.mem_of_find?_eq_some hp
  have h2 := List.find?_some hp
  have h2 : p.1 = k := of_decide_eq_true h2
  have : p = (k, v) := by rw [← h2, ← e]
  rw [← this]
  exact h1
theorem EngAt.known (g : EngAt P w K C H e d tp c R kvs) {n : Nat} {st : Sto} (h : Kn kvs n st) : ∃ q, valV kvs (keyOf n st) = some (.ref q) ∧ NK K H (kRun (run c n st)) (.ref q) := by
  unfold Kn at h
  obtain ⟨v, hv⟩ := Option.isSome_iff_exists.mp h
  obtain ⟨m, su, q, e1, _, e3⟩ := g.good _ (valV_mem hv)
  injection e1 with e1 e2
  obtain ⟨z1, z2⟩ := keyOf_inj e1
  subst z1 z2 e2
  exact ⟨q, hv, e3⟩
theorem putK_new {kvs : List (NestedKey × V)} {k : NestedKey} {v : V} (h : valV kvs k = none) : putK kvs k v = kvs ++ [(k, v)] := by
  have e : (kvs.any fun kv => decide (kv.1 = k)) = false := by
    rw [valV_any, h]
    rfl
  unfold putK
  rw [e]
  rfl
theorem putK_old {kvs : List (NestedKey × V)} {k : NestedKey} {v : V} (h : (valV kvs k).isSome = true) : putK kvs k v = kvs.map fun kv => if kv.1 = k then (kv.1, v) else kv := by
  have e : (kvs.any fun kv => decide (kv.1 = k)) = true := by rw [valV_any, h]
  unfold putK
  rw [e]
  rfl
theorem valV_put (kvs : List (NestedKey × V)) (k : NestedKey) (v : V) (j : NestedKey) : (valV (putK kvs k v) j).isSome = (decide (j = k) || (valV kvs j).isSome) := by
  by_cases z : (valV kvs k).isSome = true
  · rw [putK_old z]
    have all : ∀ l : List (NestedKey × V), (valV (l.map fun kv => if kv.1 = k then (kv.1, v) else kv) j).isSome = (valV l j).isSome := by
      intro l
      induction l with
      | nil => rfl
      | cons x r ih =>
        rw [List.map_cons]
        have e1 : (if x.1 = k then (x.1, v) else x).1 = x.1 := by split <;> rfl
        by_cases h : x.1 = j
        · rw [valV_pos h, valV_pos (e1.trans h)]
          rfl
        · rw [valV_neg h, valV_neg (fun q => h (e1.symm.trans q))]
          exact ih
    rw [all]
    by_cases h : j = k
    · rw [h, z]; simp
    · simp [h]
  · have hv : valV kvs k = none := by
      cases q : valV kvs k with
      | none => rfl
      | some v => rw [q] at z; exact absurd rfl z
    rw [putK_new hv]
    unfold valV
    rw [List.find?_append]
    cases q : kvs.find? fun kv => decide (kv.1 = j) with
    | some p => simp
    | none =>
      by_cases h : k = j
      · simp [h]
      · have h' : ¬ j = k := fun z => h z.symm
        simp [h, h']
theorem EngAt.put (g : EngAt P w K C H e d tp c R kvs) {n : Nat} {st : Sto} {q : Addr} (hw : ∀ x ∈ (run c n st).wan, Kn kvs x.1 x.2) (hR : (n, st) ∈ R) (hq : NK K H (kRun (run c n st)) (.ref q)) (hp : NPut P w K H d kvs (keyOf n st) (.ref q) H') :
    EngAt P w K C H' e d tp c R (putK kvs (keyOf n st) (.ref q)) ∧ Kn (putK kvs (keyOf n st) (.ref q)) n st ∧ ∀ m su, Kn kvs m su → Kn (putK kvs (keyOf n st) (.ref q)) m su := by
  obtain ⟨dx, h⟩ := g.ins
  have grow : ∀ m su, Kn kvs m su → Kn (putK kvs (keyOf n st) (.ref q)) m su := fun m su hm => by
    unfold Kn at hm ⊢
    rw [valV_put, hm]
    simp
  refine ⟨⟨⟨dx, hp.ev.keep _ _ h (by simpa using g.ne)⟩, hp.ev.sqT g.st, hp.nd, ?_, fun kv hkv => ?_, fun m su hm x hx => ?_⟩, ?_, grow⟩
  · by_cases z : (valV kvs (keyOf n st)).isSome = true
    · have : (kvs.map fun kv => if kv.1 = keyOf n st then (kv.1, V.ref q) else kv).map (·.1) = kvs.map (·.1) := by
        rw [List.map_map]
        refine List.map_congr_left fun x _ => ?_
        show (if x.1 = keyOf n st then (x.1, V.ref q) else x).1 = x.1
        split <;> rfl
      rw [putK_old z, this]
      exact g.nodup
    · have hv : valV kvs (keyOf n st) = none := by
        cases q : valV kvs (keyOf n st) with
        | none => rfl
        | some v => rw [q] at z; exact absurd rfl z
      rw [putK_new hv, List.map_append, List.nodup_append]
      refine ⟨g.nodup, by simp, fun a ha b hb => ?_⟩
      have : b = keyOf n st := by simpa using hb
      rw [this]
      obtain ⟨x, h1, rfl⟩ := List.mem_map.mp ha
      intro y
      unfold valV at hv
      rw [Option.map_eq_none_iff, List.find?_eq_none] at hv
      exact hv x h1 (decide_eq_true y)
  · by_cases z : (valV kvs (keyOf n st)).isSome = true
    · rw [putK_old z] at hkv
      obtain ⟨x, hx, rfl⟩ := List.mem_map.mp hkv
      by_cases y : x.1 = keyOf n st
      · rw [if_pos y]
        exact ⟨n, st, q, by rw [y], hR, NK.ev hp.ev _ _ hq⟩
      · rw [if_neg y]
        obtain ⟨m, su, q2, e1, e2, e3⟩ := g.good x hx
        exact ⟨m, su, q2, e1, e2, NK.ev hp.ev _ _ e3⟩
    · have hv : valV kvs (keyOf n st) = none := by
        cases q : valV kvs (keyOf n st) with
        | none => rfl
        | some v => rw [q] at z; exact absurd rfl z
      rw [putK_new hv] at hkv
      rcases List.mem_append.mp hkv with z | z
      · obtain ⟨m, su, q2, e1, e2, e3⟩ := g.good kv z
        exact ⟨m, su, q2, e1, e2, NK.ev hp.ev _ _ e3⟩
      · exact ⟨n, st, q, by simpa using z, hR, NK.ev hp.ev _ _ hq⟩
  · unfold Kn at hm
    rw [valV_put, Bool.or_eq_true] at hm
    rcases hm with z | z
    · obtain ⟨z1, z2⟩ := keyOf_inj (of_decide_eq_true z)
      subst z1 z2
      exact grow _ _ (hw x hx)
    · exact grow _ _ (g.clo m su z x hx)
  · unfold Kn
    rw [valV_put]
    simp
end
section
variable {P : Program} {w : World} {K : PySem.W.Frag} {mg : Str → Option Value} {base : Heap} {C : Addr}
/-- what an ask needs and gives -/
def sp_answer (P : Program) (w : World) (K : PySem.W.Frag) (C : Addr) (f : Nat) : Sp := fun vs H Q _ => ∃ (e s d tp : Addr) (n : Int) (st : Sto) (c : Cfg) (R : List (Nat × Sto)) (kvs : List (NestedKey × V)), vs = [.ref e, .int n, .ref s] ∧
  EngAt P w K C H e d tp c R kvs ∧ SqT K H s (encS st) ∧ st.length ≤ c.size ∧ c.Ok ∧ c.size ≤ 300 ∧ c.steps.length ≤ 100 ∧ R.length ≤ 16000000 ∧ (∀ x ∈ R, ∀ y ∈ (run c x.1 x.2).wan, y ∈ R) ∧
  (n.toNat = 0 ∨ some 0 ∈ st ∨ (n.toNat, st) ∈ R) ∧ Near c (Kn kvs) f n.toNat st ∧
  ∀ q H' kvs', Ev [d] H H' → EngAt P w K C H' e d tp c R kvs' → (∀ m su, Kn kvs m su → Kn kvs' m su) → (n.toNat = 0 ∨ some 0 ∈ st ∨ Kn kvs' n.toNat st) → NK K H' (kAns (ans c n.toNat st)) (.ref q) → Q (.ref q) H'
def sp_run (P : Program) (w : World) (K : PySem.W.Frag) (C : Addr) (f : Nat) : Sp := fun vs H Q _ => ∃ (g : Nat) (e s d tp : Addr) (n : Nat) (st : Sto) (c : Cfg) (R : List (Nat × Sto)) (kvs : List (NestedKey × V)), f = g + 1 ∧ vs = [.ref e, .int n, .ref s] ∧
  EngAt P w K C H e d tp c R kvs ∧ SqT K H s (encS st) ∧ st.length ≤ c.size ∧ c.Ok ∧ c.size ≤ 300 ∧ c.steps.length ≤ 100 ∧ R.length ≤ 16000000 ∧ (∀ x ∈ R, ∀ y ∈ (run c x.1 x.2).wan, y ∈ R) ∧
  (n, st) ∈ R ∧ (∀ x ∈ (run c n st).wan, Near c (Kn kvs) g x.1 x.2) ∧
  ∀ q H' kvs', Ev [d] H H' → EngAt P w K C H' e d tp c R kvs' → (∀ m su, Kn kvs m su → Kn kvs' m su) → (∀ x ∈ (run c n st).wan, Kn kvs' x.1 x.2) → NK K H' (kRun (run c n st)) (.ref q) → Q (.ref q) H'
theorem cutV_two {x y z : V} : cutV [x, y, z] none (some 2) = [x, y] := rfl
theorem ok_answer_step (EC : EngCls K C) (D : DefM K C "answer" "Engine.answer" s_Engine_answer ["self", "number", "store"]) (T : Txt K mg) (f k : Nat) (M_run : Met P w K mg base CX0 k C "run" (sp_run P w K C f)) :
    Met P w K mg base CX0 (k + 1) C "answer" (sp_answer P w K C f) := by
  refine D.met sc_Engine_answer (fun vs H Q E h => ?_) (fun fa cdv A outer s H vs Q E hr h => ?_)
  · obtain ⟨e, s, d, tp, n, st, c, R, kvs, rfl, _⟩ := h
    rfl
  obtain ⟨e, s, d, tp, n, st, c, R, kvs, rfl, g, hs, hl, hok, hz, h100, hRl, hclo, hR, hnear, q⟩ := h
  refine ⟨_, (pss_cons (ps_if (pt_cmpR op_le (pv 1) pe_int (nomark _)) (pss_one (ps_ret (pe_tupS (pa_cons (pe_tupS (pa_cons pe_int (pa_cons pe_int (pa_cons pe_int pa_nil)))) (pa_cons (pv 2) pa_nil))))) pss_nil)
    (pss_cons (ps_if (pt_cmpR op_in_seq pe_int (pv 2) (by rfl)) (pss_cons (ps_set (i := 3) sc_Engine_answer.nd rfl (Or.inl rfl) (pe_op op_catS (pe_callTy (call_tupS) (by rfl) T.b_tuple bo_tuple (pa_cons (pe_lc (own := [("far", 4)]) rfl sc_Engine_answer.nd (pi_tup (pv 2)) (blkOk_by (own := [("far", 4)]) (N := ["self", "number", "store", "used", "far", "at"]) (sc := defScope s_Engine_answer) (by decide +kernel)) (fun _ _ _ _ _ => (pg_name (i := 4) sc_Engine_answer.nd rfl (Or.inl rfl))) (fun _ _ _ _ _ => (pts_one (pt_cmpR op_ne (pv 4) pe_int (nomark _)))) (fun _ _ _ _ _ => (pv 4))) pa_nil)) (pe_tupS (pa_cons pe_int pa_nil))))
    (pss_one (ps_ret (pe_tupS (pa_cons (pe_tupS (pa_cons pe_int (pa_cons pe_int (pa_cons pe_int pa_nil)))) (pa_cons (pe_ifExp (pt_cmpR op_eq (pe_fld (pv 0) rfl) pe_str (nomark _)) (pv 3) (pv 2)) pa_nil)))))) pss_nil)
    (pss_cons (ps_set (i := 5) sc_Engine_answer.nd rfl (Or.inl rfl) (pe_tupS (pa_cons (pv 1) (pa_cons (pv 2) pa_nil))))
    (pss_cons (ps_if (pt_cmp (pc_nnotin hr.units (pv 5) (pe_fld (pv 0) rfl))) (pss_one (ps_nput hr.units (pe_fld (pv 0) rfl) (pv 5) (pe_mt M_run hr (by omega) (pv 0) (pa_cons (pv 1) (pa_cons (pv 2) pa_nil))) rfl)) pss_nil)
    (pss_one (ps_ret (pe_slice sl_tupS (pe_nget hr.units (pe_fld (pv 0) rfl) (pv 5) (fun _ _ => rfl)) po_none (po_some pe_int)))))))), ?_⟩
  refine ⟨_, rfl, n, 0, rfl, rfl, _, rfl, ite2 (fun c0 => ?_) (fun c0 => ?_)⟩
  · have c' : n ≤ 0 := of_decide_eq_true c0
    have e0 : n.toNat = 0 := by omega
    refine ⟨by decide, fun t1 H1 s1 h1 => ⟨_, rfl, le2, fun t2 H2 s2 h2 => ?_⟩⟩
    refine q t2 H2 kvs ((sEv s1 g.mut).then_same s2) ((g.same s1).same s2) (fun _ _ h => h) (.inl e0) ?_
    rw [e0, ans_zero]
    exact ans_nk h2 (Same.sqT s2 h1) (Same.sqT s2 (Same.sqT s1 hs))
  have n0 : ¬ n ≤ 0 := fun z => c0 (decide_eq_true z)
  have n1 : n.toNat ≠ 0 := by omega
  refine ⟨_, rfl, s, _, rfl, .inr hs, rfl, flat_enc st, _, rfl, ?_⟩
  show if (if false = true then !inV (.int 0) (encS st) else inV (.int 0) (encS st)) = true then _ else _
  rw [if_neg (show ¬ false = true from Bool.false_ne_true), in_enc]
  refine ite2 (fun c1 => ?_) (fun c1 => ?_)
  · have h0 : some 0 ∈ st := of_decide_eq_true c1
    refine ⟨_, rfl, s, rfl, ⟨_, hs⟩, fun L nL => ?_⟩
    refine lc_tup (K := K) (a := s) (xs := encS st) (fun i H' => Same H H' ∧ H' L = some (.lst (encS ((st.take i).filter fun f => decide (f ≠ some 0))))) ⟨same_upd nL, upd_same⟩ (fun i H' _ h' => Same.sqT h'.1 hs) (fun i x H' hx h' => ?_) (fun H' h' => ?_)
    · obtain ⟨s', e'⟩ := h'
      obtain ⟨u, hu, rfl⟩ := encS_at hx
      have hi := lt_of_at hu
      have l3 : (encS ((st.take i).filter fun f => decide (f ≠ some 0))).length < sizeLine := by
        rw [encS_len]
        refine Nat.lt_of_le_of_lt (List.length_filter_le _ _) ?_
        rw [List.length_take]
        exact small1000 (by omega)
      have yes : u ≠ some 0 → Same H (upd H' L (.lst (encS ((st.take i).filter fun f => decide (f ≠ some 0)) ++ [encF u]))) ∧ (upd H' L (.lst (encS ((st.take i).filter fun f => decide (f ≠ some 0)) ++ [encF u]))) L = some (.lst (encS ((st.take (i + 1)).filter fun f => decide (f ≠ some 0)))) := fun hu0 => by
        refine ⟨fun b o eb => ?_, ?_⟩
        · rw [upd_ne (ne_of_none eb nL)]
          exact s' b o eb
        · rw [upd_same, take_snoc hu, List.filter_append, ← encS_app]
          have : List.filter (fun f => decide (f ≠ some 0)) [u] = [u] := by
            rw [List.filter_cons, if_pos (decide_eq_true hu0)]
            rfl
          rw [this]
          rfl
      cases u with
      | none => exact ⟨rfl, _, rfl, rfl, _, rfl, iteT ⟨_, rfl, _, e', l3, yes (by simp)⟩⟩
      | some x =>
        refine ⟨rfl, _, rfl, rfl, _, rfl, ite2 (fun c2 => ?_) (fun c2 => ?_)⟩
        · refine ⟨_, rfl, _, e', l3, yes fun z => ?_⟩
          cases z
          exact absurd c2 (by decide)
        · have x0 : x = 0 := by
            refine Decidable.byContradiction fun hne => c2 ?_
            have e0 : decide (encF (some x) = V.int 0) = false := decide_eq_false fun z => by
              injection z with z
              omega
            rw [e0]
            rfl
          subst x0
          refine ⟨s', ?_⟩
          rw [e', take_snoc hu, List.filter_append]
          have : List.filter (fun f => decide (f ≠ some 0)) [some 0] = [] := rfl
          rw [this, List.append_nil]
    · obtain ⟨s', e'⟩ := h'
      rw [encS_len, List.take_length] at e'
      refine ⟨L, _, rfl, .inl (SqL.of e'), fun t1 H1 s1 h1 => ⟨le1, fun t2 H2 s2 h2 => ?_⟩⟩
      refine ⟨t1, t2, _, _, rfl, rfl, Same.sqT s2 h1, h2, ?_, fun t3 H3 s3 h3 => ?_⟩
      · rw [encS_len]
        have := List.length_filter_le (fun f => decide (f ≠ some 0)) st
        exact Nat.le_of_lt (small1000 (by show _ + 1 ≤ 1000; omega))
      have sA : Same H H3 := s'.trans (s1.trans (s2.trans s3))
      have h3' : SqT K H3 t3 (encS ((st.filter fun f => decide (f ≠ some 0)) ++ [some 0])) := by
        rw [← encS_app]
        exact h3
      refine ⟨by decide, fun t4 H4 s4 h4 => ?_⟩
      obtain ⟨dx, hins⟩ := (g.same (sA.trans s4)).ins
      have fin : ∀ (u : Addr) (H5 : Hp) (t5 : Addr), Same H4 H5 → SqT K H5 t5 [.ref t4, .ref u] → SqT K H5 u (encS (useS c.kind st)) → Q (.ref t5) H5 := fun u H5 t5 s5 h5 hu => by
        have sB := sA.trans (s4.trans s5)
        refine q t5 H5 kvs (sEv sB g.mut) (g.same sB) (fun _ _ h => h) (.inr (.inl h0)) ?_
        rw [ans_kept n1 h0]
        exact ans_nk h5 (Same.sqT s5 h4) hu
      refine ⟨_, rfl, e, C, dx, _, _, rfl, hins, EC.cls, EC.n_rule, rfl, rfl, _, rfl, ?_⟩
      cases hk : c.kind with
      | use =>
        rw [hk] at fin
        exact iteT ⟨_, rfl, le2, fun t5 H5 s5 h5 => fin t3 H5 t5 s5 h5 (Same.sqT s5 (Same.sqT s4 h3'))⟩
      | low =>
        rw [hk] at fin
        exact iteF ⟨_, rfl, le2, fun t5 H5 s5 h5 => fin s H5 t5 s5 h5 (Same.sqT s5 (Same.sqT s4 (Same.sqT sA hs)))⟩
      | put =>
        rw [hk] at fin
        exact iteF ⟨_, rfl, le2, fun t5 H5 s5 h5 => fin s H5 t5 s5 h5 (Same.sqT s5 (Same.sqT s4 (Same.sqT sA hs)))⟩
  have h0 : some 0 ∉ st := fun z => c1 (decide_eq_true z)
  have hRm : (n.toNat, st) ∈ R := by
    rcases hR with z | z | z
    · exact absurd z n1
    · exact absurd z h0
    · exact z
  have en : n = ((n.toNat : Nat) : Int) := by omega
  refine ⟨_, rfl, _, rfl, le2, fun t1 H1 s1 h1 => ?_⟩
  have g1 := g.same s1
  have hk1 : NK K H1 (keyOf n.toNat st) (.ref t1) := key_nk (by rw [← en]; exact h1) (Same.sqT s1 hs)
  obtain ⟨dx, hins⟩ := g1.ins
  have last : ∀ (H2 : Hp) (kvs2 : List (NestedKey × V)), Ev [d] H1 H2 → EngAt P w K C H2 e d tp c R kvs2 → (∀ m su, Kn kvs m su → Kn kvs2 m su) → Kn kvs2 n.toNat st → (tRet (tSl (rSlS K) (tNGet P w K (tFld K (tVar 0) "known") (tVar 5)) tNoPart (tPart (tC (.int 2))))) { nx := fun _ H' => Q .non H', rt := Q } [some (.ref e), some (.int n), some (.ref s), none, none, some (.ref t1)] H2 := fun H2 kvs2 ev2 g2 grow kn2 => by
    obtain ⟨dx2, hins2⟩ := g2.ins
    obtain ⟨q2, hv, hq⟩ := g2.known kn2
    refine ⟨_, rfl, e, C, dx2, _, _, rfl, hins2, EC.cls, EC.n_known, rfl, _, rfl, d, t1, kvs2, _, _, rfl, rfl, g2.nd, NK.ev ev2 _ _ hk1, keyOf_depth _ _, hv, ?_⟩
    obtain ⟨q3, x, y, z, e3, hsq, hx, hy, hz'⟩ := nk_run hq
    cases e3
    refine ⟨_, rfl, q2, _, rfl, hsq, fun t3 H3 s3 h3 => ?_⟩
    rw [cutV_two] at h3
    refine q t3 H3 kvs2 ((sThen s1 ev2 g.mut).then_same s3) (g2.same s3) grow (.inr (.inr kn2)) ?_
    rw [ans_run hok n1 h0]
    obtain ⟨xa, rfl, hxa⟩ := nk_cnt hx
    obtain ⟨ya, rfl, hya⟩ := nk_sto hy
    exact ans_nk h3 (Same.sqT s3 hxa) (Same.sqT s3 hya)
  refine ⟨_, rfl, _, rfl, e, C, dx, _, _, rfl, hins, EC.cls, EC.n_known, rfl, d, t1, kvs, _, rfl, rfl, g1.nd, hk1, keyOf_depth _ _, _, rfl, ?_⟩
  show if (if true = true then !(valV kvs (keyOf n.toNat st)).isSome else (valV kvs (keyOf n.toNat st)).isSome) = true then _ else _
  rw [if_pos (show true = true from rfl)]
  refine ite2 (fun c2 => ?_) (fun c2 => ?_)
  · have nk : ¬ Kn kvs n.toNat st := fun z => by
      unfold Kn at z
      rw [z] at c2
      exact absurd c2 (by decide)
    obtain ⟨gg, eg, hn2⟩ : ∃ gg, f = gg + 1 ∧ ∀ x ∈ (run c n.toNat st).wan, Near c (Kn kvs) gg x.1 x.2 := by
      cases f with
      | zero =>
        rcases hnear with z | z | z
        · exact absurd z n1
        · exact absurd z h0
        · exact absurd z nk
      | succ gg =>
        rcases hnear with z | z | z | z
        · exact absurd z n1
        · exact absurd z h0
        · exact absurd z nk
        · exact ⟨gg, rfl, z⟩
    refine ⟨_, rfl, e, dx, _, rfl, hins, rfl, _, rfl, _, rfl, gg, e, s, d, tp, n.toNat, st, c, R, kvs, eg, by rw [← en]; rfl, g1, Same.sqT s1 hs, hl, hok, hz, h100, hRl, hclo, hRm, hn2, fun q2 H2 kvs2 ev2 g2 grow hw2 nk2 => ?_⟩
    obtain ⟨dx2, hins2⟩ := g2.ins
    have lt : kvs2.length < sizeLine := Nat.lt_of_le_of_lt g2.len (Nat.lt_of_le_of_lt hRl (by decide))
    refine ⟨_, rfl, e, C, dx2, _, _, rfl, hins2, EC.cls, EC.n_known, rfl, _, rfl, d, t1, kvs2, keyOf n.toNat st, rfl, rfl, g2.nd, NK.ev ev2 _ _ hk1, keyOf_depth _ _, lt, fun H4 hp => ?_⟩
    obtain ⟨g4, kn4, grow4⟩ := g2.put hw2 hRm nk2 hp
    exact last H4 _ (ev2.trans hp.ev) g4 (fun m su h => grow4 _ _ (grow _ _ h)) kn4
  · have kn : Kn kvs n.toNat st := by
      unfold Kn
      cases z : (valV kvs (keyOf n.toNat st)).isSome with
      | true => rfl
      | false =>
        rw [z] at c2
        exact absurd rfl c2
    exact last H1 kvs (Ev.refl' g1.mut) g1 (fun _ _ h => h) kn
end
end Ag
namespace Ag
open PySem PySem.Spec PyProof.Rows L2
section
variable {P : Program} {w : World} {K : PySem.W.Frag} {mg : Str → Option Value} {base : Heap} {C : Addr}
theorem zip_cnt (a b : Cnt) : List.zipWith (· + ·) (cntV a) (cntV b) = cntV (addC a b) := by
  show [(a.1 : Int) + b.1, (a.2.1 : Int) + b.2.1, (a.2.2 : Int) + b.2.2] = [((a.1 + b.1 : Nat) : Int), ((a.2.1 + b.2.1 : Nat) : Int), ((a.2.2 + b.2.2 : Nat) : Int)]
  simp
theorem NPut.there (h : NPut P w K H a kvs k v H') : ∃ o, H' a = some o := h.nd.there
theorem ok_run_step (EC : EngCls K C) (D : DefM K C "run" "Engine.run" s_Engine_run ["self", "number", "store"]) (T : Txt K mg) (f k : Nat) (h2 : 2 ≤ k) (C_turned : Cal P w K mg base CX0 1 "turned" (sp_turned K)) (C_restored : Cal P w K mg base CX0 1 "restored" (sp_restored K))
    (C_added : Cal P w K mg base CX0 1 "added" (sp_added K)) (C_cut : Cal P w K mg base CX0 2 "cut" (sp_cut K)) (M_answer : Met P w K mg base CX0 k C "answer" (sp_answer P w K C f)) :
    Met P w K mg base CX0 (k + 1) C "run" (sp_run P w K C (f + 1)) := by
  refine D.met sc_Engine_run (fun vs H Q E h => ?_) (fun fa cdv A outer s H vs Q E hr h => ?_)
  · obtain ⟨_, e, s, d, tp, n, st, c, R, kvs, _, rfl, _⟩ := h
    rfl
  obtain ⟨gg, e, s, d, tp, n, st, c, R, kvs, eg, rfl, g, hs, hl, hok, hz, h100, hRl, hclo, hRm, hnear, q⟩ := h
  cases eg
  refine ⟨_, (pss_cons (ps_par (i := 3) (j := 4) (by rfl) sc_Engine_run.nd rfl rfl (by decide) rfl rfl (pa_cons (pe_tupS (pa_cons pe_int (pa_cons pe_int (pa_cons pe_int pa_nil)))) (pa_cons (pe_lst pa_nil) pa_nil)) (by rfl))
    (pss_cons (ps_for PassesOwn.never rfl (pi_tup (pe_fld (pv 0) rfl)) (pg_name (i := 5) sc_Engine_run.nd rfl (Or.inl rfl)) (pss_cons (ps_asg (pe_c C_turned hr (by omega) (by rfl) (pa_cons (pv 2) (pa_cons (pv 5) pa_nil))) (pg_tup (by rfl) (pgs_cons (pg_name (i := 6) sc_Engine_run.nd rfl (Or.inl rfl)) (pgs_cons (pg_name (i := 7) sc_Engine_run.nd rfl (Or.inl rfl)) pgs_nil))))
    (C8.pss_cut (ps_if (PW.pt (pw_and (pt_cmpR op_gt (pv 1) (pv 5) (nomark _)) (pw_and1 (pt_cmpR op_notIn_seq pe_int (pv 6) (by rfl))))) (pss_one (ps_expr (pe_bm PySem.F.plainAttrs_list PySem.F.slot_list_append PySem.F.type_list_append mt_append (pv 4) (pa_cons (pe_tupS (pa_cons (pe_op op_sub (pv 1) (pv 5)) (pa_cons (pv 6) pa_nil))) pa_nil)))) pss_nil)
    (pss_cons (ps_asg (pe_mt M_answer hr (by omega) (pv 0) (pa_cons (pe_op op_sub (pv 1) (pv 5)) (pa_cons (pv 6) pa_nil))) (pg_tup (by rfl) (pgs_cons (pg_name (i := 8) sc_Engine_run.nd rfl (Or.inl rfl)) (pgs_cons (pg_name (i := 6) sc_Engine_run.nd rfl (Or.inl rfl)) pgs_nil))))
    (pss_cons (ps_set (i := 3) sc_Engine_run.nd rfl (Or.inl rfl) (pe_c C_added hr (by omega) (by rfl) (pa_cons (pv 3) (pa_cons (pv 8) pa_nil))))
    (pss_one (ps_set (i := 2) sc_Engine_run.nd rfl (Or.inl rfl) (pe_c C_restored hr (by omega) (by rfl) (pa_cons (pv 6) (pa_cons (pv 7) (pa_cons (pv 5) pa_nil)))))))))))
    (pss_one (ps_ret (pe_tupS (pa_cons (pv 3) (pa_cons (pe_c C_cut hr (by omega) (by rfl) (pa_cons (pe_op op_catS (pv 2) (pe_tupS (pa_cons pe_int pa_nil))) (pa_cons (pe_fld (pv 0) rfl) (pa_cons (pe_fld (pv 0) rfl) pa_nil)))) (pa_cons (pe_callTy (call_tupS) (by rfl) T.b_tuple bo_tuple (pa_cons (pv 4) pa_nil)) pa_nil)))))))), ?_⟩
  refine ⟨by decide, fun ct0 H1 s1 h1 => ⟨by decide, fun L nL => ?_⟩⟩
  have nL0 : H L = none := by
    cases z : H L with
    | none => rfl
    | some o => rw [s1 _ _ z] at nL; cases nL
  have sA : Same H (upd H1 L (.lst [])) := s1.trans (same_upd nL)
  have gA := g.same sA
  obtain ⟨dx, hins⟩ := gA.ins
  have Ld : L ∉ [d] := fun z => by
    have z : L = d := by simpa using z
    obtain ⟨o, eo⟩ := g.nd.there
    rw [← z, nL0] at eo
    cases eo
  refine ⟨_, _, rfl, _, rfl, e, C, dx, _, _, rfl, hins, EC.cls, EC.n_steps, rfl, tp, rfl, ⟨_, gA.st⟩, ?_⟩
  refine for_tup (K := K) (a := tp) (xs := c.steps.map fun n => .int (n : Nat)) (fun i σ H' => ∃ (sr ct : Addr) (kvs' : List (NestedKey × V)) (o5 o6 o7 o8 : Option V) (ws : List V), σ = [some (.ref e), some (.int n), some (.ref sr), some (.ref ct), some (.ref L), o5, o6, o7, o8] ∧
    Ev [d] H H' ∧ EngAt P w K C H' e d tp c R kvs' ∧ (∀ m su, Kn kvs m su → Kn kvs' m su) ∧ SqT K H' sr (encS (pre c n st i).sto) ∧ SqT K H' ct ((cntV (pre c n st i).cnt).map V.int) ∧ H' L = some (.lst ws) ∧ NKs K H' ((pre c n st i).wan.map fun x => keyOf x.1 x.2) ws ∧ ∀ x ∈ (pre c n st i).wan, Kn kvs' x.1 x.2)
    ⟨s, ct0, kvs, none, none, none, none, [], rfl, sEv sA g.mut, gA, fun _ _ h => h, Same.sqT sA hs, Same.sqT (same_upd nL) h1, upd_same, .nil, fun _ h => nomatch h⟩ (fun i σ H' _ h' => ?_) (fun i x σ H' hx h' => ?_) (fun σ H' h' => ?_)
  · obtain ⟨sr, ct, kvs', o5, o6, o7, o8, ws, _, _, g', _⟩ := h'
    exact g'.st
  · obtain ⟨sr, ct, kvs', o5, o6, o7, o8, ws, rfl, ev, g', grow, hsr, hct, hL, hws, hkw⟩ := h'
    rw [List.getElem?_map] at hx
    cases hp : c.steps[i]? with
    | none => rw [hp] at hx; cases hx
    | some p =>
    rw [hp] at hx
    cases hx
    have hpl := pre_len hok (n := n) hl i
    generalize epre : pre c n st i = a at hsr hct hws hpl hkw
    refine ⟨_, rfl, _, rfl, sr, p, a.sto, rfl, hsr, by omega, fun t sn hd H2 s2 nhd t2 tsn thd => ?_⟩
    refine ⟨t, _, rfl, t2, rfl, _, _, rfl, _, _, rfl, rfl, ?_⟩
    have ev2 := ev.then_same s2
    have g2 := g'.same s2
    have hL2 := s2 _ _ hL
    have hw2 : NKs K H2 _ ws := NKs.ev (sEv0 s2) _ _ hws
    refine ⟨fun σ H3 => ∃ ws', σ = [some (.ref e), some (.int n), some (.ref sr), some (.ref ct), some (.ref L), some (.int p), some (.ref sn), some (.ref hd), o8] ∧ Ev [d] H H3 ∧ EngAt P w K C H3 e d tp c R kvs' ∧ SqT K H3 sn (encS (seenS p a.sto)) ∧ H3 hd = some (.lst (encS (hidS p a.sto))) ∧ hd ≠ L ∧ hd ∉ [d] ∧
      SqT K H3 ct ((cntV a.cnt).map V.int) ∧ H3 L = some (.lst ws') ∧ NKs K H3 ((if p < n ∧ some 0 ∉ seenS p a.sto then a.wan ++ [(n - p, seenS p a.sto)] else a.wan).map fun x => keyOf x.1 x.2) ws', ?_, ?_⟩
    · have hdL : hd ≠ L := fun z => by rw [z, hL] at nhd; cases nhd
      have hdd : hd ∉ [d] := fun z => by
        have z : hd = d := by simpa using z
        obtain ⟨o, eo⟩ := g'.nd.there
        rw [← z, nhd] at eo
        cases eo
      have no : ¬ (p < n ∧ some 0 ∉ seenS p a.sto) → ∃ ws', [some (V.ref e), some (.int n), some (.ref sr), some (.ref ct), some (.ref L), some (.int p), some (.ref sn), some (.ref hd), o8] = [some (V.ref e), some (.int n), some (.ref sr), some (.ref ct), some (.ref L), some (.int p), some (.ref sn), some (.ref hd), o8] ∧ Ev [d] H H2 ∧ EngAt P w K C H2 e d tp c R kvs' ∧ SqT K H2 sn (encS (seenS p a.sto)) ∧ H2 hd = some (.lst (encS (hidS p a.sto))) ∧ hd ≠ L ∧ hd ∉ [d] ∧
        SqT K H2 ct ((cntV a.cnt).map V.int) ∧ H2 L = some (.lst ws') ∧ NKs K H2 ((if p < n ∧ some 0 ∉ seenS p a.sto then a.wan ++ [(n - p, seenS p a.sto)] else a.wan).map fun x => keyOf x.1 x.2) ws' := fun hno =>
        ⟨ws, rfl, ev2, g2, tsn, thd, hdL, hdd, Same.sqT s2 hct, hL2, by rw [if_neg hno]; exact hw2⟩
      refine ⟨_, rfl, _, rfl, n, p, rfl, rfl, _, rfl, ite2 (fun c1 => ?_) (fun c1 => ?_)⟩
      · have c1' : p < n := by have := of_decide_eq_true c1; omega
        refine ⟨_, rfl, sn, _, rfl, .inr tsn, rfl, flat_enc _, _, rfl, ?_⟩
        show if (if true = true then !inV (.int 0) (encS (seenS p a.sto)) else inV (.int 0) (encS (seenS p a.sto))) = true then _ else _
        rw [if_pos (show true = true from rfl), in_enc]
        refine ite2 (fun c2 => ?_) (fun c2 => ?_)
        · have c2' : some 0 ∉ seenS p a.sto := fun z => by
            rw [decide_eq_true z] at c2
            exact absurd c2 (by decide)
          refine ⟨_, rfl, .inl ⟨rfl, _, SqL.of hL2⟩, _, rfl, _, rfl, _, _, rfl, rfl, _, rfl, le2, fun tt H3 s3 h3 => ?_⟩
          have hL3 := s3 _ _ hL2
          have lw : ws.length < sizeLine := by
            have h1 := nks_len hw2
            rw [List.length_map] at h1
            have h2 := fold_wan_len (ans c) n (c.steps.take i) ⟨(1, 0, 0), st, []⟩
            have h3 : (pre c n st i).wan.length ≤ 0 + (c.steps.take i).length := h2
            rw [epre, List.length_take] at h3
            exact small1000 (by omega)
          refine ⟨L, _, _, rfl, rfl, hL3, lw, ?_⟩
          have evL : Ev [L] H3 (upd H3 L (.lst (ws ++ [.ref tt]))) := ev_upd (by rw [hL3]; exact True.intro)
          have epn : ((n : Int) - (p : Int)) = ((n - p : Nat) : Int) := by omega
          refine ⟨_, rfl, ⟨fun b o eb hb => ?_, g.mut⟩, (g2.same s3).ev evL (fun z => ?_) (fun z => ?_), evL.sqT (Same.sqT s3 tsn), ?_, hdL, hdd, evL.sqT (Same.sqT s3 (Same.sqT s2 hct)), upd_same, ?_⟩
          · rw [upd_ne (ne_of_none eb nL0)]
            exact s3 _ _ (ev2.keep _ _ eb hb)
          · have z : e = L := by simpa using z
            obtain ⟨dx', hi'⟩ := g.ins
            rw [z, nL0] at hi'
            cases hi'
          · have z : d = L := by simpa using z
            exact Ld (by simp [z])
          · rw [upd_ne hdL]
            exact s3 _ _ thd
          · rw [if_pos ⟨c1', c2'⟩, List.map_append]
            refine nks_snoc (NKs.ev evL _ _ (NKs.ev (sEv0 s3) _ _ hw2)) ?_
            refine key_nk (evL.sqT ?_) (evL.sqT (Same.sqT s3 tsn))
            rw [← epn]
            exact h3
        · refine no fun z => c2 ?_
          rw [decide_eq_false z.2]
          rfl
      · exact no fun z => c1 (decide_eq_true (by omega))
    · rintro σ H3 ⟨ws', rfl, ev3, g3, hsn, hhd, hdL, hdd, hct3, hL3, hw3⟩
      obtain ⟨dx3, hins3⟩ := g3.ins
      have hsub : (((n : Int) - (p : Int)).toNat) = n - p := by omega
      have hnr : (((n : Int) - (p : Int)).toNat = 0 ∨ some 0 ∈ seenS p a.sto ∨ (((n : Int) - (p : Int)).toNat, seenS p a.sto) ∈ R) ∧ Near c (Kn kvs') f ((n : Int) - (p : Int)).toNat (seenS p a.sto) := by
        rw [hsub]
        by_cases z1 : p < n
        · by_cases z2 : some 0 ∈ seenS p a.sto
          · refine ⟨.inr (.inl z2), ?_⟩
            cases f <;> exact .inr (.inl z2)
          · have hm : (n - p, seenS p a.sto) ∈ (run c n st).wan := by
              have := step_wan (n := n) (st := st) hp z1 (by rw [epre]; exact z2)
              rw [epre] at this
              exact this
            exact ⟨.inr (.inr (hclo _ hRm _ hm)), (hnear _ hm).grow grow⟩
        · have z3 : n - p = 0 := by omega
          refine ⟨.inl z3, ?_⟩
          cases f <;> exact .inl z3
      have hpl2 : (seenS p a.sto).length ≤ c.size := by
        unfold seenS
        rw [List.length_map]
        exact hpl
      refine ⟨_, rfl, e, dx3, _, rfl, hins3, rfl, _, rfl, _, rfl, _, _, rfl, rfl, _, rfl, e, sn, d, tp, _, seenS p a.sto, c, R, kvs', rfl, g3, hsn, hpl2, hok, hz, h100, hRl, hclo, hnr.1, hnr.2, fun qa H4 kvs4 ev4 g4 grow4 kn4 nk4 => ?_⟩
      rw [hsub] at kn4
      rw [hsub] at nk4
      obtain ⟨qa', mo, so, e4, hq4, hmo, hso⟩ := nk_ans nk4
      cases e4
      refine ⟨qa, _, rfl, hq4, rfl, _, _, rfl, _, _, rfl, rfl, ?_⟩
      have hct4 := ev4.sqT hct3
      refine ⟨_, rfl, _, rfl, ct, mo, cntV a.cnt, cntV (ans c (n - p) (seenS p a.sto)).1, rfl, hct4, hmo, rfl, (show 3 ≤ 400 by decide), fun t5 H5 s5 h5 => ?_⟩
      rw [zip_cnt] at h5
      have hhd5 : H5 hd = some (.lst (encS (hidS p a.sto))) := s5 _ _ (ev4.keep _ _ hhd hdd)
      have hnn : nones (ans c (n - p) (seenS p a.sto)).2 ≤ (hidS p a.sto).length := by
        rw [hid_len]
        exact ans_nones hok _ _
      have hal := ans_len hok (n - p) (seenS p a.sto) hpl2
      refine ⟨_, rfl, _, rfl, _, rfl, so, hd, p, _, hidS p a.sto, rfl, Same.sqT s5 hso, hhd5, hnn, by omega, fun t6 H6 s6 h6 => ?_⟩
      have s46 := s5.trans s6
      have esucc : pre c n st (i + 1) = stepR (ans c) n a p := by rw [pre_succ hp, epre]
      refine ⟨t6, t5, kvs4, _, _, _, _, ws', rfl, (ev3.trans ev4).then_same s46, g4.same s46, fun m su h => grow4 _ _ (grow _ _ h), ?_, ?_, s46 _ _ (ev4.keep _ _ hL3 Ld), ?_, ?_⟩
      · rw [esucc]
        exact h6
      · rw [esucc]
        exact Same.sqT s6 h5
      · rw [esucc]
        exact NKs.ev (sEv0 s46) _ _ (NKs.ev ev4 _ _ hw3)
      · rw [esucc]
        intro x hx
        have hx : x ∈ (if p < n ∧ some 0 ∉ seenS p a.sto then a.wan ++ [(n - p, seenS p a.sto)] else a.wan) := hx
        by_cases z : p < n ∧ some 0 ∉ seenS p a.sto
        · rw [if_pos z] at hx
          rcases List.mem_append.mp hx with hx | hx
          · exact grow4 _ _ (hkw x hx)
          · rw [List.mem_singleton.mp hx]
            rcases kn4 with y | y | y
            · omega
            · exact absurd y z.2
            · exact y
        · rw [if_neg z] at hx
          exact grow4 _ _ (hkw x hx)
  · obtain ⟨sr, ct, kvs', o5, o6, o7, o8, ws, rfl, ev, g', grow, hsr, hct, hL, hws, hkw⟩ := h'
    rw [List.length_map] at hsr hct hws hkw
    have hpl := pre_len hok (n := n) hl c.steps.length
    have erun := run_pre c n st
    generalize pre c n st c.steps.length = a at hsr hct hws hpl erun hkw
    refine ⟨_, rfl, _, rfl, le1, fun z1 H2 s2 h2 => ?_⟩
    refine ⟨sr, z1, _, _, rfl, rfl, Same.sqT s2 hsr, h2, ?_, fun cc H3 s3 h3 => ?_⟩
    · rw [encS_len]
      exact Nat.le_of_lt (small1000 (by show _ + 1 ≤ 1000; omega))
    have g3 := (g'.same s2).same s3
    obtain ⟨dx3, hins3⟩ := g3.ins
    have h3' : SqT K H3 cc (encS (a.sto ++ [some 0])) := by
      rw [← encS_app]
      exact h3
    refine ⟨_, rfl, e, C, dx3, _, _, rfl, hins3, EC.cls, EC.n_size, rfl, _, rfl, e, C, dx3, _, _, rfl, hins3, EC.cls, EC.n_rule, rfl, cc, c.size, c.kind, _, rfl, h3', ?_, ?_, fun t4 H4 s4 h4 => ?_⟩
    · rw [List.length_append]
      show _ + 1 ≤ 401
      omega
    · intro _ j hj
      have : j = 0 := by
        rw [List.length_append] at hj
        have h1 : ([some 0] : Sto).length = 1 := rfl
        omega
      subst this
      exact ⟨0, by show some 0 ∈ a.sto ++ [some 0]; simp⟩
    have s24 := s2.trans (s3.trans s4)
    refine ⟨_, rfl, L, _, rfl, .inl (SqL.of (s24 _ _ hL)), fun t5 H5 s5 h5 => ⟨le3, fun t6 H6 s6 h6 => ?_⟩⟩
    have s56 := s5.trans s6
    have sall := s24.trans s56
    refine q t6 H6 kvs' (ev.then_same sall) (g'.same sall) grow (by rw [erun]; exact hkw) ?_
    rw [erun]
    exact .tup h6 (.cons (cnt_nk (Same.sqT sall hct)) (.cons (sto_nk (Same.sqT s56 h4)) (.cons (.tup (Same.sqT s6 h5) (NKs.ev (sEv0 sall) _ _ hws)) .nil)))
/-- the level of an ask -/
def levA (f : Nat) : Nat := 2 * f + 4
theorem ok_engine (EC : EngCls K C) (D1 : DefM K C "answer" "Engine.answer" s_Engine_answer ["self", "number", "store"]) (D2 : DefM K C "run" "Engine.run" s_Engine_run ["self", "number", "store"]) (T : Txt K mg) (C_turned : Cal P w K mg base CX0 1 "turned" (sp_turned K)) (C_restored : Cal P w K mg base CX0 1 "restored" (sp_restored K))
    (C_added : Cal P w K mg base CX0 1 "added" (sp_added K)) (C_cut : Cal P w K mg base CX0 2 "cut" (sp_cut K)) : ∀ f, Met P w K mg base CX0 (levA f) C "answer" (sp_answer P w K C f)
  | 0 => ok_answer_step EC D1 T 0 3 (D2.met sc_Engine_run (fun vs H Q E h => by obtain ⟨g, _, _, _, _, _, _, _, _, _, z, _⟩ := h; cases z) (fun _ _ _ _ _ _ _ _ _ _ h => by obtain ⟨g, _, _, _, _, _, _, _, _, _, z, _⟩ := h; cases z))
  | f + 1 => ok_answer_step EC D1 T (f + 1) (levA f + 1) (ok_run_step EC D2 T f (levA f) (by unfold levA; omega) C_turned C_restored C_added C_cut (ok_engine EC D1 D2 T C_turned C_restored C_added C_cut f))
end
end Ag
namespace Ag
open PySem PySem.Spec PyProof.Rows L2
section
variable {P : Program} {w : World} {K : PySem.W.Frag} {mg : Str → Option Value} {base : Heap} {C : Addr}
def sp_init (P : Program) (w : World) (K : PySem.W.Frag) (C : Addr) : Sp := fun vs H Q _ => ∃ (x dx p tp : Addr) (z : Int) (kd : Str), vs = [.ref x, .ref p] ∧ H x = some (.ins C dx []) ∧ SqT K H p [.ref tp, .int z, .str kd] ∧
  ∀ d H', H d = none → Ev [x] H H' → H' x = some (.ins C dx [("steps", .ref tp), ("size", .int z), ("rule", .str kd), ("known", .ref d)]) → ND P w K H' d [] → Q .non H'
theorem ok_init (EC : EngCls K C) (D : DefC K mg C "Engine" "Engine.__init__" s_Engine__init ["self", "setup"]) (T : Txt K mg) : Mak P w K mg base CX0 1 "Engine" C (sp_init P w K C) := by
  refine D.mak sc_Engine__init (fun vs H Q E h => ?_) (fun fa cdv A outer s H vs Q E hr h => ?_)
  · obtain ⟨x, dx, p, tp, z, kd, rfl, _⟩ := h
    rfl
  obtain ⟨x, dx, p, tp, z, kd, rfl, hx, hp, q⟩ := h
  refine ⟨_, (pss_cons (ps_asg (pv 1) (pg_tup (by rfl) (pgs_cons (pg_fldA (pv 0)) (pgs_cons (pg_fldA (pv 0)) (pgs_cons (pg_fldA (pv 0)) pgs_nil)))))
    (pss_one (ps_fld (pv 0) pe_nnew rfl))), ?_⟩
  have m0 : Mut (H x) := by rw [hx]; exact True.intro
  have m1 : ∀ b ∈ [x], Mut (H b) := fun b hb => by
    have e : b = x := by simpa using hb
    rw [e]
    exact m0
  have evx : ∀ (H1 : Hp) (o : HO), Ev [x] H H1 → Ev [x] H (upd H1 x o) := fun H1 o ev => ⟨fun b u eb hb => by
    rw [upd_ne (show b ≠ x by simpa using hb)]
    exact ev.keep b u eb hb, ev.mu⟩
  refine ⟨_, rfl, p, _, rfl, hp, rfl, _, _, rfl, _, rfl, x, C, dx, _, rfl, hx, EC.cls, EC.n_steps, by decide, _, _, rfl, _, rfl, x, C, dx, _, rfl, upd_same, EC.cls, EC.n_size, by show 1 < 1000; decide, _, _, rfl, _, rfl, x, C, dx, _, rfl, upd_same, EC.cls, EC.n_rule, by show 2 < 1000; decide, rfl, ?_⟩
  refine fun d H2 nd s2 hnd => ?_
  have evs : Ev [x] H H2 := (evx _ _ (evx _ _ (evx _ _ (Ev.refl' m1)))).then_same s2
  have hx2 := s2 _ _ (show (upd (upd (upd H x (.ins C dx (putF "steps" (.ref tp) []))) x (.ins C dx (putF "size" (.int z) (putF "steps" (.ref tp) [])))) x (.ins C dx (putF "rule" (.str kd) (putF "size" (.int z) (putF "steps" (.ref tp) []))))) x = some _ from upd_same)
  have nd0 : H d = none := by
    cases zz : H d with
    | none => rfl
    | some o =>
      have dx' : d ≠ x := fun y => by rw [y, upd_same] at nd; cases nd
      rw [upd_ne dx', upd_ne dx', upd_ne dx', zz] at nd
      cases nd
  refine ⟨_, rfl, x, C, dx, _, rfl, hx2, EC.cls, EC.n_known, by show 3 < 1000; decide, ?_⟩
  refine q d _ nd0 (evx _ _ evs) upd_same (hnd.ev (ev_upd (by rw [hx2]; exact True.intro)) ?_)
  intro y
  have y : d = x := by simpa using y
  rw [y, hx] at nd0
  cases nd0
/-- from an empty store -/
def sp_from_empty (P : Program) (w : World) (K : PySem.W.Frag) (C : Addr) (F : Nat) : Sp := fun vs H Q _ => ∃ (e d tp : Addr) (n : Nat) (c : Cfg) (R : List (Nat × Sto)), vs = [.ref e, .int n] ∧
  EngAt P w K C H e d tp c R [] ∧ c.steps.length ≤ 100 ∧ n ≤ 100000 ∧ Reg c n F R ∧
  ∀ q H' kvs, Ev [d] H H' → EngAt P w K C H' e d tp c R kvs → (n = 0 ∨ Kn kvs n []) → NK K H' (kAns (ans c n [])) (.ref q) → Q (.ref q) H'
theorem ok_from_empty (D : DefM K C "from_empty" "Engine.from_empty" s_Engine_from_empty ["self", "number"]) (T : Txt K mg) (F : Nat) (M_answer : Met P w K mg base CX0 (levA F) C "answer" (sp_answer P w K C F)) :
    Met P w K mg base CX0 (levA F + 1) C "from_empty" (sp_from_empty P w K C F) := by
  refine D.met sc_Engine_from_empty (fun vs H Q E h => ?_) (fun fa cdv A outer s H vs Q E hr h => ?_)
  · obtain ⟨e, d, tp, n, c, R, rfl, _⟩ := h
    rfl
  obtain ⟨e, d, tp, n, c, R, rfl, g, h100, hn, rg, q⟩ := h
  refine ⟨_, (pss_cons (ps_for PassesOwn.never rfl (pi_range2 (by rfl) T.b_range (pa_cons pe_int (pa_cons (pv 1) pa_nil))) (pg_name (i := 2) sc_Engine_from_empty.nd rfl (Or.inl rfl)) (pss_one (ps_expr (pe_mt M_answer hr (by omega) (pv 0) (pa_cons (pv 2) (pa_cons (pe_tupS pa_nil) pa_nil))))))
    (pss_one (ps_ret (pe_mt M_answer hr (by omega) (pv 0) (pa_cons (pv 1) (pa_cons (pe_tupS pa_nil) pa_nil)))))), ?_⟩
  refine ⟨_, rfl, 1, (n : Int), rfl, ⟨by decide, by decide, by omega, by omega⟩, ?_⟩
  have ask : ∀ (m : Nat) (kvs : List (NestedKey × V)) (t : Addr) (H2 : Hp) (Q2 : VK) (E2 : XK), EngAt P w K C H2 e d tp c R kvs → (∀ m', 1 ≤ m' → m' < m → Kn kvs m' []) → m ≤ n → SqT K H2 t [] → (∀ q H' kvs', Ev [d] H2 H' → EngAt P w K C H' e d tp c R kvs' → (∀ m su, Kn kvs m su → Kn kvs' m su) → (m = 0 ∨ Kn kvs' m []) → NK K H' (kAns (ans c m [])) (.ref q) → Q2 (.ref q) H') → sp_answer P w K C F [.ref e, .int (m : Nat), .ref t] H2 Q2 E2 := fun m kvs t H2 Q2 E2 g2 hk hm ht hq => by
    refine ⟨e, t, d, tp, m, [], c, R, kvs, rfl, g2, ht, Nat.zero_le _, rg.ok, rg.size, h100, rg.len, rg.clo, ?_, ?_, fun q H' kvs' ev' g' grow kn nk => ?_⟩
    · rw [Int.toNat_natCast]
      by_cases z : m = 0
      · exact .inl z
      · exact .inr (.inr (rg.mem m (by omega) hm))
    · rw [Int.toNat_natCast]
      exact rg.near m hm _ hk
    · rw [Int.toNat_natCast] at kn nk
      refine hq q H' kvs' ev' g' grow ?_ nk
      rcases kn with z | z | z
      · exact .inl z
      · exact nomatch z
      · exact .inr z
  refine for_range (lo := 1) (n := ((n : Int) - 1).toNat) (fun i σ H' => ∃ (kvs : List (NestedKey × V)) (o : Option V), σ = [some (.ref e), some (.int n), o] ∧ Ev [d] H H' ∧ EngAt P w K C H' e d tp c R kvs ∧ ∀ m, 1 ≤ m → m < i + 1 → Kn kvs m []) ⟨[], none, rfl, Ev.refl' g.mut, g, fun m h1 h2 => by omega⟩ (fun i σ H' hi h' => ?_) (fun σ H' h' => ?_)
  · obtain ⟨kvs, o, rfl, ev, g', hk⟩ := h'
    obtain ⟨dx, hins⟩ := g'.ins
    have e1 : ((1 : Int) + (i : Nat)) = ((i + 1 : Nat) : Int) := by omega
    rw [e1]
    refine ⟨_, rfl, e, dx, _, rfl, hins, rfl, _, rfl, by decide, fun t H2 s2 h2 => ?_⟩
    unfold tNil
    show sp_answer P w K C F (V.ref e :: ([V.int ((i + 1 : Nat) : Int), .ref t] ++ [])) H2 _ _
    refine ask (i + 1) kvs t H2 _ _ (g'.same s2) hk (by omega) h2 fun q2 H3 kvs3 ev3 g3 grow kn _ => ?_
    refine ⟨kvs3, _, rfl, (ev.then_same s2).trans ev3, g3, fun m h1 h2 => ?_⟩
    by_cases z : m = i + 1
    · rcases kn with y | y
      · omega
      · rw [z]; exact y
    · exact grow _ _ (hk m h1 (by omega))
  · obtain ⟨kvs, o, rfl, ev, g', hk⟩ := h'
    obtain ⟨dx, hins⟩ := g'.ins
    refine ⟨_, rfl, e, dx, _, rfl, hins, rfl, _, rfl, by decide, fun t H2 s2 h2 => ?_⟩
    unfold tNil
    show sp_answer P w K C F (V.ref e :: ([V.int (n : Int), .ref t] ++ [])) H2 _ _
    exact ask n kvs t H2 _ _ (g'.same s2) (fun m h1 h2 => hk m h1 (by omega)) (Nat.le_refl _) h2 fun q2 H3 kvs3 ev3 g3 _ kn nk => q q2 H3 kvs3 ((ev.then_same s2).trans ev3) g3 kn nk
end
end Ag
namespace Ag
open PySem PySem.Spec PyProof.Rows L2
/-- a setup as a value -/
structure SetupAt (K : PySem.W.Frag) (H : Hp) (p : Addr) (c : Cfg) : Prop where
  ex : ∃ q, SqT K H p [.ref q, .int c.size, .str (kdS c.kind)] ∧ SqT K H q (c.steps.map fun n => .int (n : Nat))
structure Valid (c : Cfg) : Prop where
  l1 : 1 ≤ c.steps.length
  l3 : c.steps.length ≤ 3
  pos : ∀ x ∈ c.steps, 1 ≤ x ∧ x ≤ 5
  size : c.size ≤ 6
theorem Valid.ok {c : Cfg} (v : Valid c) : c.Ok := fun p hp => (v.pos p hp).1
section
variable {K : PySem.W.Frag} {H H' : Hp} {p : Addr} {c : Cfg}
theorem SetupAt.ev {M : List Addr} (h : SetupAt K H p c) (x : Ev M H H') : SetupAt K H' p c := by
  obtain ⟨q, h1, h2⟩ := h.ex
  exact ⟨q, x.sqT h1, x.sqT h2⟩
theorem SetupAt.same (h : SetupAt K H p c) (x : Same H H') : SetupAt K H' p c := h.ev (sEv0 x)
def setD (c : Cfg) : PyData := .tuple [.tuple (c.steps.map fun n => .int (n : Nat)), .int c.size, .str (kdS c.kind)]
theorem nats_dp : ∀ l : List Nat, DpAll K H (l.map fun n => .int (n : Nat)) (l.map fun n => .int (n : Nat))
  | [] => .nil
  | _ :: r => .cons (.int _) (nats_dp r)
theorem SetupAt.dp (h : SetupAt K H p c) : Dp K H (.ref p) (setD c) := by
  obtain ⟨q, h1, h2⟩ := h.ex
  exact .tup h1 (.cons (.tup h2 (nats_dp c.steps)) (.cons (.int _) (.cons (.str _) .nil)))
theorem Valid.isSetup (v : Valid c) : isSetup (setD c) = true := by
  have h1 : isSteps (.tuple (c.steps.map fun n => .int (n : Nat))) = true := by
    unfold isSteps
    rw [Bool.and_eq_true]
    refine ⟨decide_eq_true ⟨?_, ?_⟩, ?_⟩
    · rw [List.length_map]; exact v.l1
    · rw [List.length_map]; exact v.l3
    · rw [List.all_eq_true]
      intro d hd
      obtain ⟨n, hn, rfl⟩ := List.mem_map.mp hd
      have := v.pos n hn
      show (true && (true && (decide ((1 : Int) ≤ (n : Nat)) && decide (((n : Nat) : Int) ≤ 5)))) = true
      rw [decide_eq_true (show (1 : Int) ≤ (n : Nat) by omega), decide_eq_true (show ((n : Nat) : Int) ≤ 5 by omega)]
      rfl
  have h2 : isFrom 0 6 (.int (c.size : Nat)) = true := by
    show (true && (true && (decide ((0 : Int) ≤ (c.size : Nat)) && decide (((c.size : Nat) : Int) ≤ 6)))) = true
    have := v.size
    rw [decide_eq_true (show (0 : Int) ≤ (c.size : Nat) by omega), decide_eq_true (show ((c.size : Nat) : Int) ≤ 6 by omega)]
    rfl
  have h3 : isRule (.str (kdS c.kind)) = true := by cases c.kind <;> decide
  show (isSteps (.tuple (c.steps.map fun n => .int (n : Nat))) && (isFrom 0 6 (.int (c.size : Nat)) && isRule (.str (kdS c.kind)))) = true
  rw [h1, h2, h3]
  rfl
end
/-- the setup that was drawn -/
def kdOf (kd : Str) : K3 := if kd = "low" then .low else if kd = "put" then .put else .use
def cfgOf (ps : List Int) (z : Int) (kd : Str) : Cfg := ⟨ps.map Int.toNat, z.toNat, kdOf kd⟩
theorem kdS_of {kd : Str} (h : Kind kd) : kdS (kdOf kd) = kd := by
  rcases h with rfl | rfl | rfl <;> decide
theorem drawn_setup {K : PySem.W.Frag} {H : Hp} {p : Addr} {ps : List Int} {z : Int} {kd : Str} {most high : Int} (h : Drawn K H p ps z kd) (o : DrawnOk most high ps z kd) : SetupAt K H p (cfgOf ps z kd) := by
  obtain ⟨q, h1, h2⟩ := h.ex
  have e : (cfgOf ps z kd).steps.map (fun n => V.int (n : Nat)) = ps.map V.int := by
    show (ps.map Int.toNat).map _ = _
    rw [List.map_map]
    refine List.map_congr_left fun x hx => ?_
    have := (o.pos x hx).1
    show V.int ((x.toNat : Nat) : Int) = V.int x
    rw [Int.toNat_of_nonneg (by omega)]
  refine ⟨q, ?_, by rw [e]; exact h2⟩
  have e2 : (((cfgOf ps z kd).size : Nat) : Int) = z := Int.toNat_of_nonneg o.s0
  have e3 : kdS (cfgOf ps z kd).kind = kd := kdS_of o.kd
  rw [e2, e3]
  exact h1
theorem drawn_valid {ps : List Int} {z : Int} {kd : Str} {most high : Int} (o : DrawnOk most high ps z kd) (hm : most ≤ 5) (hh : high ≤ 6) : Valid (cfgOf ps z kd) where
  l1 := by show 1 ≤ (ps.map Int.toNat).length; rw [List.length_map]; exact o.l1
  l3 := by show (ps.map Int.toNat).length ≤ 3; rw [List.length_map]; exact o.l3
  pos := fun x hx => by
    obtain ⟨y, hy, rfl⟩ := List.mem_map.mp hx
    have := o.pos y hy
    omega
  size := by
    have h1 := o.s1
    have h2 := o.s0
    show z.toNat ≤ 6
    omega
section
variable {P : Program} {w : World} {K : PySem.W.Frag} {mg : Str → Option Value} {base : Heap} {C : Addr}
def sp_need_setup (K : PySem.W.Frag) : Sp := fun vs H Q _ => ∃ (p : Addr) (c : Cfg), vs = [.ref p] ∧ SetupAt K H p c ∧ Valid c ∧ ∀ H', Same H H' → Q .non H'
theorem ok_need_setup (D : Def K mg "need_setup" s_need_setup ["value"]) (T : Txt K mg) (C_is_setup_of : Cal P w K mg base CX0 3 "is_setup_of" (sp_is_setup K)) : Cal P w K mg base CX0 4 "need_setup" (sp_need_setup K) := by
  refine D.cal sc_need_setup (fun vs H Q E h => ?_) (fun f cdv A outer s H vs Q E hr h => ?_)
  · obtain ⟨p, c, rfl, _⟩ := h
    rfl
  obtain ⟨p, c, rfl, hs, hv, q⟩ := h
  refine ⟨_, (pss_one (ps_if (pt_not (pt_val (pe_c C_is_setup_of hr (by omega) (by rfl) (pa_cons (pv 0) pa_nil)))) (pss_one ps_never) pss_nil)), ?_⟩
  refine ⟨_, rfl, _, setD c, rfl, hs.dp, fun H' s' => ⟨_, rfl, ?_⟩⟩
  rw [hv.isSetup]
  exact iteF (q H' s')
def sp_need_number : Sp := fun vs H Q _ => ∃ n lo hi : Int, vs = [.int n, .int lo, .int hi] ∧ lo ≤ n ∧ n ≤ hi ∧ Q .non H
theorem ok_need_number (D : Def K mg "need_number" s_need_number ["value", "low", "high"]) (T : Txt K mg) (C_is_from : Cal P w K mg base CX0 1 "is_from" (sp_is_from K)) : Cal P w K mg base CX0 2 "need_number" sp_need_number := by
  refine D.cal sc_need_number (fun vs H Q E h => ?_) (fun f cdv A outer s H vs Q E hr h => ?_)
  · obtain ⟨n, lo, hi, rfl, _⟩ := h
    rfl
  obtain ⟨n, lo, hi, rfl, h1, h2, q⟩ := h
  refine ⟨_, (pss_one (ps_if (pt_not (pt_val (pe_c C_is_from hr (by omega) (by rfl) (pa_cons (pv 0) (pa_cons (pv 1) (pa_cons (pv 2) pa_nil)))))) (pss_one ps_never) pss_nil)), ?_⟩
  refine ⟨_, rfl, _, rfl, _, rfl, _, .int n, lo, hi, rfl, .int n, _, rfl, ?_⟩
  have e : isFrom lo hi (.int n) = true := by
    show (true && (true && (decide (lo ≤ n) && decide (n ≤ hi)))) = true
    rw [decide_eq_true h1, decide_eq_true h2]
    rfl
  rw [e]
  exact iteF q
end
end Ag
namespace Ag
open PySem PySem.Spec PyProof.Rows L2
def sortN : PyData → Int
  | .bool _ => 1
  | .int _ => 2
  | .str _ => 3
  | .list _ => 4
  | .tuple _ => 5
  | _ => 6
section
variable {P : Program} {w : World} {K : PySem.W.Frag} {mg : Str → Option Value} {base : Heap}
def sp_law_sort (K : PySem.W.Frag) : Sp := fun vs H Q _ => ∃ (v : V) (d : PyData), vs = [v] ∧ Dp K H v d ∧ Q (.int (sortN d)) H
theorem ok_law_sort (D : Def K mg "_law_sort" s_law_sort ["thing"]) (T : Txt K mg) : Cal P w K mg base CX0 1 "_law_sort" (sp_law_sort K) := by
  refine D.cal sc_law_sort (fun vs H Q E h => ?_) (fun f cdv A outer s H vs Q E hr h => ?_)
  · obtain ⟨v, d, rfl, _⟩ := h
    rfl
  obtain ⟨v, d, rfl, hd, q⟩ := h
  refine ⟨_, (pss_cons (ps_if (pt_val (pe_callB (call_isi) (by rfl) T.b_isinstance bo_isinstance (pa_cons (pv 0) (pa_cons (pe_ty (by rfl) T.b_bool bo_bool) pa_nil)))) (pss_one (ps_ret pe_int)) pss_nil)
    (pss_cons (ps_if (pt_val (pe_callB (call_isi) (by rfl) T.b_isinstance bo_isinstance (pa_cons (pv 0) (pa_cons (pe_ty (by rfl) T.b_int bo_int) pa_nil)))) (pss_one (ps_ret pe_int)) pss_nil)
    (pss_cons (ps_if (pt_val (pe_callB (call_isi) (by rfl) T.b_isinstance bo_isinstance (pa_cons (pv 0) (pa_cons (pe_ty (by rfl) T.b_str bo_str) pa_nil)))) (pss_one (ps_ret pe_int)) pss_nil)
    (pss_cons (ps_if (pt_val (pe_callB (call_isi) (by rfl) T.b_isinstance bo_isinstance (pa_cons (pv 0) (pa_cons (pe_ty (by rfl) T.b_list bo_list) pa_nil)))) (pss_one (ps_ret pe_int)) pss_nil)
    (pss_one (ps_ret (pe_ifExp (pt_val (pe_callB (call_isi) (by rfl) T.b_isinstance bo_isinstance (pa_cons (pv 0) (pa_cons (pe_ty (by rfl) T.b_tuple bo_tuple) pa_nil)))) pe_int pe_int))))))), ?_⟩
  refine ⟨_, rfl, _, _, _, _, _, rfl, .ty "bool", Dp.ty hd, isk hd (by decide), _, rfl, ?_⟩
  have hd2 := hd
  cases hd with
  | bl b => exact iteT q
  | int i => exact iteF ⟨_, rfl, _, _, _, _, _, rfl, .ty "int", Dp.ty hd2, isk hd2 (by decide), _, rfl, iteT q⟩
  | str x => exact iteF ⟨_, rfl, _, _, _, _, _, rfl, .ty "int", Dp.ty hd2, isk hd2 (by decide), _, rfl, iteF ⟨_, rfl, _, _, _, _, _, rfl, .ty "str", Dp.ty hd2, isk hd2 (by decide), _, rfl, iteT q⟩⟩
  | lst a b => exact iteF ⟨_, rfl, _, _, _, _, _, rfl, .ty "int", Dp.ty hd2, isk hd2 (by decide), _, rfl, iteF ⟨_, rfl, _, _, _, _, _, rfl, .ty "str", Dp.ty hd2, isk hd2 (by decide), _, rfl, iteF ⟨_, rfl, _, _, _, _, _, rfl, .ty "list", Dp.ty hd2, isk hd2 (by decide), _, rfl, iteT q⟩⟩⟩
  | tup a b => exact iteF ⟨_, rfl, _, _, _, _, _, rfl, .ty "int", Dp.ty hd2, isk hd2 (by decide), _, rfl, iteF ⟨_, rfl, _, _, _, _, _, rfl, .ty "str", Dp.ty hd2, isk hd2 (by decide), _, rfl, iteF ⟨_, rfl, _, _, _, _, _, rfl, .ty "list", Dp.ty hd2, isk hd2 (by decide), _, rfl, iteF ⟨_, rfl, _, _, _, _, _, rfl, .ty "tuple", Dp.ty hd2, isk hd2 (by decide), _, rfl, iteT q⟩⟩⟩⟩
  | non => exact iteF ⟨_, rfl, _, _, _, _, _, rfl, .ty "int", Dp.ty hd2, isk hd2 (by decide), _, rfl, iteF ⟨_, rfl, _, _, _, _, _, rfl, .ty "str", Dp.ty hd2, isk hd2 (by decide), _, rfl, iteF ⟨_, rfl, _, _, _, _, _, rfl, .ty "list", Dp.ty hd2, isk hd2 (by decide), _, rfl, iteF ⟨_, rfl, _, _, _, _, _, rfl, .ty "tuple", Dp.ty hd2, isk hd2 (by decide), _, rfl, iteF q⟩⟩⟩⟩
mutual
/-- nested at most so deep -/
def flatTo : Nat → PyData → Bool
  | 0, .list _ => false
  | 0, .tuple _ => false
  | k + 1, .list ds => flatTos k ds
  | k + 1, .tuple ds => flatTos k ds
  | _, .dict _ => false
  | _, _ => true
def flatTos : Nat → List PyData → Bool
  | _, [] => true
  | k, d :: ds => flatTo k d && flatTos k ds
end
theorem flatTos_at : ∀ {ds : List PyData} {k i : Nat} {d : PyData}, flatTos k ds = true → ds[i]? = some d → flatTo k d = true
  | [], _, _, _, _, h => by simp at h
  | x :: ds, k, 0, d, h, e => by
    simp at e
    rw [flatTos, Bool.and_eq_true] at h
    rw [← e]
    exact h.1
  | x :: ds, k, i + 1, d, h, e => by
    rw [flatTos, Bool.and_eq_true] at h
    exact flatTos_at h.2 (by simpa using e)
def sp_law_same (K : PySem.W.Frag) (k : Nat) : Sp := fun vs H Q _ => ∃ (v1 v2 : V) (d : PyData), vs = [v1, v2] ∧ Dp K H v1 d ∧ Dp K H v2 d ∧ flatTo k d = true ∧ ∀ H', Same H H' → Q (.bl true) H'
theorem DpAll.get {K : PySem.W.Frag} {H : Hp} {vs : List V} {ds : List PyData} {i : Nat} {d : PyData} (h : DpAll K H vs ds) (e : ds[i]? = some d) : ∃ v, vs[i]? = some v ∧ Dp K H v d := by
  have hl := DpAll.len h
  have hi := (List.getElem?_eq_some_iff.mp e).1
  have hv : vs[i]? = some vs[i] := List.getElem?_eq_getElem (by omega)
  obtain ⟨d', h1, h2⟩ := DpAll.at h hv
  rw [e] at h1
  cases h1
  exact ⟨_, hv, h2⟩
theorem ok_law_same_step (D : Def K mg "_law_same" s_law_same ["told", "due"]) (T : Txt K mg) (k : Nat) (C_law_sort : Cal P w K mg base CX0 1 "_law_sort" (sp_law_sort K))
    (C_law_same : Cal P w K mg base CX0 (k + 2) "_law_same" (fun vs H Q E => ∃ k', k = k' + 1 ∧ sp_law_same K k' vs H Q E)) : Cal P w K mg base CX0 (k + 3) "_law_same" (sp_law_same K k) := by
  refine D.cal sc_law_same (fun vs H Q E h => ?_) (fun f cdv A outer s H vs Q E hr h => ?_)
  · obtain ⟨v1, v2, d, rfl, _⟩ := h
    rfl
  obtain ⟨v1, v2, d, rfl, h1, h2, hf, q⟩ := h
  refine ⟨_, (pss_cons (ps_if (pt_cmpR op_ne (pe_c C_law_sort hr (by omega) (by rfl) (pa_cons (pv 0) pa_nil)) (pe_c C_law_sort hr (by omega) (by rfl) (pa_cons (pv 1) pa_nil)) (nomark _)) (pss_one (ps_ret pe_bl)) pss_nil)
    (pss_cons (ps_if (PW.pt (pw_and (pt_cmpR op_gt (pe_c C_law_sort hr (by omega) (by rfl) (pa_cons (pv 0) pa_nil)) pe_int (nomark _)) (pw_and1 (pt_cmpR op_lt (pe_c C_law_sort hr (by omega) (by rfl) (pa_cons (pv 0) pa_nil)) pe_int (nomark _))))) (pss_cons (ps_if (pt_cmpR op_ne (pe_callB (call_len_seq) (by rfl) T.b_len bo_len (pa_cons (pv 0) pa_nil)) (pe_callB (call_len_seq) (by rfl) T.b_len bo_len (pa_cons (pv 1) pa_nil)) (nomark _)) (pss_one (ps_ret pe_bl)) pss_nil)
    (pss_one (ps_ret (pe_cmpR (op_eqD hr.units) (pe_lc (own := [("k", 2), ("part", 3)]) (g := (gTup K 2 (gCons (gName 2) (gCons (gName 3) gNil)))) rfl sc_law_same.nd (pi_enumV (by rfl) T.b_enumerate (pa_cons (pv 0) pa_nil)) (blkOk_by (own := [("k", 2), ("part", 3)]) (N := ["told", "due", "k", "part"]) (sc := defScope s_law_same) (by decide +kernel)) (fun _ _ _ _ _ => (pg_tup (by rfl) (pgs_cons (pg_name (i := 2) sc_law_same.nd rfl (Or.inl rfl)) (pgs_cons (pg_name (i := 3) sc_law_same.nd rfl (Or.inl rfl)) pgs_nil)))) (fun _ _ _ _ _ => (pts_one (pt_not (pt_val (pe_c C_law_same hr (by omega) (by rfl) (pa_cons (pv 3) (pa_cons (pe_ix (show IxR _ (rIx K) from ix_seq) (pv 1) (pv 2) (fun _ _ => rfl)) pa_nil))))))) (fun _ _ _ _ _ => (pv 2))) (pe_lst pa_nil) (nomark _))))) pss_nil)
    (pss_one (ps_ret (pe_cmpR op_eq (pv 0) (pv 1) (nomark _)))))), ?_⟩
  refine ⟨_, rfl, _, d, rfl, h1, _, rfl, _, d, rfl, h2, rfl, _, rfl, ite2 (fun z => absurd z (by rw [decide_eq_true rfl]; decide)) (fun _ => ?_)⟩
  refine ⟨_, rfl, _, d, rfl, h1, sortN d, 3, rfl, rfl, _, rfl, ?_⟩
  have hd1 := h1
  have hd2 := h2
  have flat : scal v1 v2 = true → v1 = v2 → (tRet (tOp rEq (tVar 0) (tVar 1))) { nx := fun _ H' => Q .non H', rt := Q } (start ["told", "due", "k", "part"] [v1, v2]) H := fun f1 e => by
    subst e
    refine ⟨_, rfl, _, rfl, f1, ?_⟩
    rw [decide_eq_true rfl]
    exact q H (Same.refl H)
  cases h1 with
  | non =>
    cases h2
    exact iteT ⟨_, rfl, _, _, rfl, hd1, 6, 6, rfl, rfl, _, rfl, iteF (flat rfl rfl)⟩
  | bl b =>
    cases h2
    exact iteF (flat rfl rfl)
  | int i =>
    cases h2
    exact iteF (flat rfl rfl)
  | str x =>
    cases h2
    exact iteF (flat rfl rfl)
  | @lst a1 xs ds a b =>
    cases h2 with
    | @lst a2 ys _ a' b' =>
    refine iteT ⟨_, rfl, _, _, rfl, hd1, 4, 6, rfl, rfl, _, rfl, iteT ?_⟩
    have el : ys.length = xs.length := (DpAll.len b').trans (DpAll.len b).symm
    refine ⟨_, rfl, a1, xs, rfl, .inl a, _, rfl, a2, ys, rfl, .inl a', rfl, _, rfl, ite2 (fun z => absurd z (by rw [el, decide_eq_true rfl]; decide)) (fun _ => ?_)⟩
    obtain ⟨k', ek, hfs⟩ : ∃ k', k = k' + 1 ∧ flatTos k' ds = true := by
      cases k with
      | zero => exact absurd hf (by rw [flatTo]; decide)
      | succ k' => exact ⟨k', rfl, by rw [flatTo] at hf; exact hf⟩
    refine ⟨a1, xs, rfl, .inl ⟨a, fun L nL => ?_⟩⟩
    refine lc_enumL (K := K) (a := a1) (xs := xs) (fun i H' => Same H H' ∧ H' L = some (.lst [])) ⟨same_upd nL, upd_same⟩ (fun i H' _ h' => Same.seq h'.1 a) (fun i x t H' hx h' nt => ?_) (fun H' h' => ?_)
    · obtain ⟨s', e'⟩ := h'
      obtain ⟨di, hi, dx⟩ := DpAll.at b hx
      obtain ⟨y, hy, dy⟩ := DpAll.get b' hi
      have nLt : L ≠ t := fun z => by rw [z, nt] at e'; cases e'
      have s2 : Same H (upd H' t (.tup [.int (i : Nat), x])) := s'.trans (same_upd nt)
      refine ⟨t, _, rfl, SqT.of upd_same, rfl, _, _, rfl, _, _, rfl, rfl, rfl, _, rfl, _, rfl, _, rfl, .inl ⟨a2, ys, _, y, rfl, rfl, Same.seq s2 a', atI_nat hy, k', ek, x, y, di, rfl, Dp.same s2 _ _ dx, Dp.same s2 _ _ dy, flatTos_at hfs hi, fun H3 s3 => ⟨_, rfl, iteF ⟨s2.trans s3, s3 _ _ ((upd_ne nLt).trans e')⟩⟩⟩⟩
    · obtain ⟨s', e'⟩ := h'
      refine ⟨by decide, fun M nM => ⟨.list [], .list [], .lst (SqL.of ((same_upd nM) _ _ e')) .nil, .lst (SqL.of upd_same) .nil, rfl, rfl, q _ (s'.trans (same_upd nM))⟩⟩
  | @tup a1 xs ds a b =>
    cases h2 with
    | @tup a2 ys _ a' b' =>
    refine iteT ⟨_, rfl, _, _, rfl, hd1, 5, 6, rfl, rfl, _, rfl, iteT ?_⟩
    have el : ys.length = xs.length := (DpAll.len b').trans (DpAll.len b).symm
    refine ⟨_, rfl, a1, xs, rfl, .inr a, _, rfl, a2, ys, rfl, .inr a', rfl, _, rfl, ite2 (fun z => absurd z (by rw [el, decide_eq_true rfl]; decide)) (fun _ => ?_)⟩
    obtain ⟨k', ek, hfs⟩ : ∃ k', k = k' + 1 ∧ flatTos k' ds = true := by
      cases k with
      | zero => exact absurd hf (by rw [flatTo]; decide)
      | succ k' => exact ⟨k', rfl, by rw [flatTo] at hf; exact hf⟩
    refine ⟨a1, xs, rfl, .inr ⟨a, fun L nL => ?_⟩⟩
    refine lc_enumT (K := K) (a := a1) (xs := xs) (fun i H' => Same H H' ∧ H' L = some (.lst [])) ⟨same_upd nL, upd_same⟩ (fun i H' _ h' => Same.sqT h'.1 a) (fun i x t H' hx h' nt => ?_) (fun H' h' => ?_)
    · obtain ⟨s', e'⟩ := h'
      obtain ⟨di, hi, dx⟩ := DpAll.at b hx
      obtain ⟨y, hy, dy⟩ := DpAll.get b' hi
      have nLt : L ≠ t := fun z => by rw [z, nt] at e'; cases e'
      have s2 : Same H (upd H' t (.tup [.int (i : Nat), x])) := s'.trans (same_upd nt)
      refine ⟨t, _, rfl, SqT.of upd_same, rfl, _, _, rfl, _, _, rfl, rfl, rfl, _, rfl, _, rfl, _, rfl, .inr (.inl ⟨a2, ys, _, y, rfl, rfl, Same.sqT s2 a', atI_nat hy, k', ek, x, y, di, rfl, Dp.same s2 _ _ dx, Dp.same s2 _ _ dy, flatTos_at hfs hi, fun H3 s3 => ⟨_, rfl, iteF ⟨s2.trans s3, s3 _ _ ((upd_ne nLt).trans e')⟩⟩⟩)⟩
    · obtain ⟨s', e'⟩ := h'
      refine ⟨by decide, fun M nM => ⟨.list [], .list [], .lst (SqL.of ((same_upd nM) _ _ e')) .nil, .lst (SqL.of upd_same) .nil, rfl, rfl, q _ (s'.trans (same_upd nM))⟩⟩
theorem ok_law_same (D : Def K mg "_law_same" s_law_same ["told", "due"]) (T : Txt K mg) (C_law_sort : Cal P w K mg base CX0 1 "_law_sort" (sp_law_sort K)) : ∀ k, Cal P w K mg base CX0 (k + 3) "_law_same" (sp_law_same K k)
  | 0 => ok_law_same_step D T 0 C_law_sort (D.cal (k := 1) sc_law_same (fun vs H Q E h => by obtain ⟨_, z, _⟩ := h; cases z) (fun _ _ _ _ _ _ _ _ _ _ h => by obtain ⟨_, z, _⟩ := h; cases z))
  | k + 1 => ok_law_same_step D T (k + 1) C_law_sort ((ok_law_same D T C_law_sort k).imp fun vs H Q E h => by
    obtain ⟨k', e, h⟩ := h
    cases e
    exact h)
end
end Ag
namespace Ag
/-! ### the walk over numbers themselves, and that it is the engine's -/
inductive Wh where
  | run | kept | base
  deriving DecidableEq
abbrev Log := List (Int × Wh)
def cntOf (l : Log) : Cnt := ((l.map (·.2)).count .run, (l.map (·.2)).count .kept, (l.map (·.2)).count .base)
theorem cntOf_app (a b : Log) : cntOf (a ++ b) = addC (cntOf a) (cntOf b) := by
  unfold cntOf addC
  simp [List.count_append]
def minOf : List Int → Int
  | [] => 0
  | [x] => x
  | x :: y :: r => min x (minOf (y :: r))
theorem minOf_le : ∀ {s : List Int} {x : Int}, x ∈ s → minOf s ≤ x
  | [x], y, h => by
    have : y = x := by simpa using h
    rw [this]
    exact Int.le_refl _
  | x :: y :: r, z, h => by
    unfold minOf
    rcases List.mem_cons.mp h with rfl | h
    · exact Int.min_le_left _ _
    · exact Int.le_trans (Int.min_le_right _ _) (minOf_le h)
theorem minOf_mem : ∀ {s : List Int}, s ≠ [] → minOf s ∈ s
  | [], h => absurd rfl h
  | [x], _ => by simp [minOf]
  | x :: y :: r, _ => by
    unfold minOf
    by_cases h : x ≤ minOf (y :: r)
    · rw [Int.min_eq_left h]; exact List.mem_cons_self
    · rw [Int.min_eq_right (by omega)]; exact List.mem_cons_of_mem _ (minOf_mem (by simp))
theorem minOf_is {s : List Int} {m : Int} (h : m ∈ s) (hm : ∀ y ∈ s, m ≤ y) : m = minOf s := by
  have h1 := minOf_le h
  have h2 := hm _ (minOf_mem (fun z => by rw [z] at h; exact nomatch h))
  omega
/-- the first place of an item -/
def fstAt (k : Int) : List Int → Nat
  | [] => 0
  | x :: r => if x = k then 0 else fstAt k r + 1
theorem fst_at {k : Int} : ∀ {s : List Int}, k ∈ s → s[fstAt k s]? = some k
  | [], h => nomatch h
  | f :: r, h => by
    unfold fstAt
    by_cases e : f = k
    · rw [if_pos e, e]; rfl
    · rw [if_neg e, List.getElem?_cons_succ]
      refine fst_at ?_
      rcases List.mem_cons.mp h with z | z
      · exact absurd z.symm e
      · exact z
theorem fst_no {k : Int} : ∀ {s : List Int} {j : Nat}, j < fstAt k s → s[j]? ≠ some k
  | [], j, h => by unfold fstAt at h; omega
  | f :: r, j, h => by
    unfold fstAt at h
    by_cases e : f = k
    · rw [if_pos e] at h; omega
    · rw [if_neg e] at h
      cases j with
      | zero => intro z; exact e (Option.some.inj z)
      | succ j => rw [List.getElem?_cons_succ]; exact fst_no (by omega)
def goes (c : Cfg) (s : List Int) : Int := if c.kind = .low then minOf s else s.headD 0
/-- a number becomes the newest item -/
def putW (c : Cfg) (S : List Int) (n : Int) : List Int :=
  let s := S.filter (fun x => decide (x ≠ n)) ++ [n]
  if c.size < s.length then s.eraseIdx (fstAt (goes c s) s) else s
def stepsW (rec : Int → List Int → List Int × Log) (n : Int) : List Nat → List Int × Log → List Int × Log
  | [], a => a
  | p :: l, a => stepsW rec n l ((rec (n - p) a.1).1, a.2 ++ (rec (n - p) a.1).2)
def walk (c : Cfg) : Nat → Int → List Int → List Int × Log
  | 0, n, S => (S, [(n, .base)])
  | f + 1, n, S => if n < 1 then (S, [(n, .base)]) else if n ∈ S then (if c.kind = .use then putW c S n else S, [(n, .kept)]) else
      let r := stepsW (walk c f) n c.steps (S, [(n, .run)])
      (putW c r.1 n, r.2)
def rel1 (n x : Int) : Option Nat := if x ≤ n then some (n - x).toNat else none
def rel (n : Int) (S : List Int) : Sto := S.map (rel1 n)
theorem rel_app (n : Int) (a b : List Int) : rel n (a ++ b) = rel n a ++ rel n b := by unfold rel; simp
theorem look_rel (m x : Int) (p : Nat) : look p (rel1 m x) = rel1 (m - p) x := by
  unfold rel1
  by_cases h : x ≤ m
  · rw [if_pos h]
    by_cases h2 : x ≤ m - p
    · rw [if_pos h2]
      show (if p ≤ (m - x).toNat then some ((m - x).toNat - p) else none) = _
      rw [if_pos (by omega)]
      congr 1
      omega
    · rw [if_neg h2]
      show (if p ≤ (m - x).toNat then some ((m - x).toNat - p) else none) = _
      rw [if_neg (by omega)]
  · rw [if_neg h, if_neg (by omega)]
    rfl
theorem seen_rel (m : Int) (p : Nat) (S : List Int) : seenS p (rel m S) = rel (m - p) S := by
  unfold seenS rel
  rw [List.map_map]
  exact List.map_congr_left fun x _ => look_rel m x p
def over (n : Int) (S : List Int) : List Int := S.filter fun x => decide (n < x)
theorem rel1_none {n x : Int} : (rel1 n x).isNone = decide (n < x) := by
  unfold rel1
  by_cases h : x ≤ n
  · rw [if_pos h, decide_eq_false (by omega)]; rfl
  · rw [if_neg h, decide_eq_true (by omega)]; rfl
theorem hid_rel (m : Int) (p : Nat) : ∀ S : List Int, hidS p (rel m S) = rel m (over (m - p) S)
  | [] => rfl
  | x :: r => by
    have ih := hid_rel m p r
    unfold hidS rel over at ih ⊢
    rw [List.map_cons, List.filter_cons, List.filter_cons, look_rel, rel1_none]
    by_cases h : decide (m - p < x) = true
    · rw [if_pos h, if_pos h, List.map_cons, ih]
    · rw [if_neg h, if_neg h, ih]
theorem nones_rel (n : Int) : ∀ S : List Int, nones (rel n S) = (over n S).length
  | [] => rfl
  | x :: r => by
    have ih := nones_rel n r
    unfold rel over at ih ⊢
    rw [List.map_cons, List.filter_cons]
    have h1 := rel1_none (n := n) (x := x)
    cases z : rel1 n x with
    | none =>
      rw [z] at h1
      rw [← h1]
      simp only [nones, ih, Option.isNone_none, if_true, List.length_cons]
    | some v =>
      rw [z] at h1
      rw [← h1]
      simp only [nones, ih, Option.isNone_some, Bool.false_eq_true, if_false]
theorem fill_rel (m : Int) (p : Nat) : ∀ S : List Int, fill p (rel (m - p) S) (rel m (over (m - p) S)) = rel m S
  | [] => rfl
  | x :: r => by
    have ih := fill_rel m p r
    unfold rel over at ih ⊢
    rw [List.map_cons, List.filter_cons]
    by_cases h : m - p < x
    · have e : rel1 (m - p) x = none := by unfold rel1; rw [if_neg (by omega)]
      rw [e, if_pos (decide_eq_true h), List.map_cons, List.map_cons]
      simp only [fill]
      rw [ih]
    · have e : rel1 (m - p) x = some (m - p - x).toNat := by unfold rel1; rw [if_pos (by omega)]
      have e2 : rel1 m x = some (m - x).toNat := by unfold rel1; rw [if_pos (by omega)]
      rw [e, if_neg (by simpa using h), List.map_cons, e2]
      simp only [fill]
      rw [ih]
      congr 2
      omega
theorem rest_rel {m : Int} {p : Nat} {S S' : List Int} (h : over (m - p) S' <:+ over (m - p) S) : restS p (rel (m - p) S') (rel m (over (m - p) S)) = rel m S' := by
  obtain ⟨A, hA⟩ := h
  unfold restS
  rw [nones_rel, ← hA, rel_app]
  have e : (rel m A ++ rel m (over (m - p) S')).length - (over (m - p) S').length = (rel m A).length := by
    unfold rel
    rw [List.length_append, List.length_map, List.length_map]
    omega
  rw [e, List.drop_left, fill_rel]
theorem zero_rel {n : Int} {S : List Int} : some 0 ∈ rel n S ↔ n ∈ S := by
  unfold rel
  rw [List.mem_map]
  constructor
  · rintro ⟨x, hx, e⟩
    unfold rel1 at e
    by_cases h : x ≤ n
    · rw [if_pos h] at e
      injection e with e
      have : x = n := by omega
      rwa [← this]
    · rw [if_neg h] at e; cases e
  · intro h
    refine ⟨n, h, ?_⟩
    unfold rel1
    rw [if_pos (Int.le_refl _)]
    simp
theorem rel1_self (n : Int) : rel1 n n = some 0 := by
  unfold rel1
  rw [if_pos (Int.le_refl _)]
  simp
theorem rel1_inj {n x y : Int} (hx : x ≤ n) (h : rel1 n y = rel1 n x) : y = x := by
  unfold rel1 at h
  rw [if_pos hx] at h
  by_cases hy : y ≤ n
  · rw [if_pos hy] at h
    injection h with h
    omega
  · rw [if_neg hy] at h; cases h
theorem rel_filter (n : Int) : ∀ S : List Int, (rel n S).filter (fun f => decide (f ≠ some 0)) = rel n (S.filter fun x => decide (x ≠ n))
  | [] => rfl
  | x :: r => by
    have ih := rel_filter n r
    unfold rel at ih ⊢
    rw [List.map_cons, List.filter_cons, List.filter_cons]
    by_cases h : x = n
    · have h1 : ¬ decide (rel1 n x ≠ some 0) = true := by rw [h, rel1_self]; simp
      have h2 : ¬ decide (x ≠ n) = true := by simp [h]
      rw [if_neg h1, if_neg h2, ih]
    · have h1 : decide (rel1 n x ≠ some 0) = true := decide_eq_true fun z => h (rel1_inj (Int.le_refl n) (by rw [z, rel1_self]))
      have h2 : decide (x ≠ n) = true := decide_eq_true h
      rw [if_pos h1, if_pos h2, List.map_cons, ih]
theorem idx_rel {n k : Int} (hk : k ≤ n) : ∀ s : List Int, idxOf (n - k).toNat (rel n s) = fstAt k s
  | [] => rfl
  | x :: r => by
    have ih := idx_rel hk r
    unfold rel at ih ⊢
    rw [List.map_cons]
    unfold idxOf fstAt
    have ek : rel1 n k = some (n - k).toNat := by unfold rel1; rw [if_pos hk]
    by_cases h : x = k
    · rw [if_pos h, if_pos (by rw [h, ek])]
    · rw [if_neg h, if_neg (fun z => h (rel1_inj hk (by rw [z, ek]))), ih]
theorem max_rel {n k : Int} {s : List Int} (hk : k ≤ n) (hm : k ∈ s) (hmin : ∀ y ∈ s, k ≤ y) : maxOf (rel n s) = (n - k).toNat := by
  have le : ∀ (st : Sto) (x : Nat), some x ∈ st → x ≤ maxOf st := by
    intro st
    induction st with
    | nil => intro x h; exact nomatch h
    | cons f r ih =>
      intro x h
      cases f with
      | none => exact ih x (by simpa using h)
      | some y =>
        unfold maxOf
        rcases List.mem_cons.mp h with z | z
        · injection z with z
          rw [z]
          exact Nat.le_max_left _ _
        · exact Nat.le_trans (ih x z) (Nat.le_max_right _ _)
  have ek : rel1 n k = some (n - k).toNat := by unfold rel1; rw [if_pos hk]
  have hin : some (n - k).toNat ∈ rel n s := by
    unfold rel
    exact List.mem_map.mpr ⟨k, hm, ek⟩
  have h1 := le _ _ hin
  have h2 := max_mem (st := rel n s) ⟨_, hin⟩
  unfold rel at h2
  obtain ⟨y, hy, e⟩ := List.mem_map.mp h2
  have h3 := hmin y hy
  unfold rel1 at e
  by_cases hyn : y ≤ n
  · rw [if_pos hyn] at e
    injection e with e
    have e' : (n - y).toNat = maxOf (rel n s) := e
    omega
  · rw [if_neg hyn] at e; cases e
theorem rel_erase (n : Int) (s : List Int) (j : Nat) : dropAt (rel n s) j = rel n (s.eraseIdx j) := by
  unfold dropAt rel
  rw [List.eraseIdx_eq_take_drop_succ, List.map_append, List.map_take, List.map_drop]
theorem over_app (n : Int) (a b : List Int) : over n (a ++ b) = over n a ++ over n b := by unfold over; simp
theorem over_self (n : Int) : over n [n] = [] := by
  unfold over
  rw [List.filter_cons, if_neg (by simp)]
  rfl
theorem filter_no {S : List Int} {n : Int} (h : n ∉ S) : S.filter (fun x => decide (x ≠ n)) = S := by
  rw [List.filter_eq_self]
  intro x hx
  exact decide_eq_true fun z => h (z ▸ hx)
/-- what putW keeps -/
structure PutOk (c : Cfg) (S : List Int) (n : Int) (S' : List Int) : Prop where
  nd : S'.Nodup
  len : S'.length ≤ c.size
  suf : over n S' <:+ over n S
  mem : ∀ x ∈ S', x ∈ S ∨ x = n
theorem put_new {c : Cfg} {S : List Int} {n : Int} (hn : n ∉ S) (nd : S.Nodup) (hl : S.length ≤ c.size) : cutS c.kind c.size (rel n S ++ [some 0]) = rel n (putW c S n) ∧ PutOk c S n (putW c S n) := by
  have e : rel n S ++ [some 0] = rel n (S ++ [n]) := by
    rw [rel_app]
    show _ = _ ++ [rel1 n n]
    rw [rel1_self]
  have nds : (S ++ [n]).Nodup := by
    rw [List.nodup_append]
    refine ⟨nd, by simp, fun a ha b hb => ?_⟩
    have : b = n := by simpa using hb
    rw [this]
    exact fun z => hn (z ▸ ha)
  have ovs : over n (S ++ [n]) = over n S := by rw [over_app, over_self, List.append_nil]
  unfold putW
  simp only
  rw [filter_no hn, e]
  have ln : (S ++ [n]).length = S.length + 1 := by simp
  have lr : (rel n (S ++ [n])).length = S.length + 1 := by unfold rel; simp
  unfold cutS
  rw [lr]
  by_cases h : c.size < (S ++ [n]).length
  · rw [if_pos h]
    have h1 : S.length + 1 - c.size = 1 := by omega
    rw [h1]
    have hj : (if c.kind = .low then lowAt (rel n (S ++ [n])) else 0) = fstAt (goes c (S ++ [n])) (S ++ [n]) ∧ (S ++ [n])[fstAt (goes c (S ++ [n])) (S ++ [n])]? = some (goes c (S ++ [n])) ∧ (fstAt (goes c (S ++ [n])) (S ++ [n]) = 0 ∨ goes c (S ++ [n]) ≤ n) := by
      unfold goes
      by_cases hk : c.kind = .low
      · rw [if_pos hk, if_pos hk]
        have hm : minOf (S ++ [n]) ∈ S ++ [n] := minOf_mem (by simp)
        have hle : minOf (S ++ [n]) ≤ n := minOf_le (by simp)
        refine ⟨?_, fst_at hm, .inr hle⟩
        unfold lowAt
        rw [max_rel hle hm fun y hy => minOf_le hy, idx_rel hle]
      · rw [if_neg hk, if_neg hk]
        cases hS : S ++ [n] with
        | nil => rw [hS] at ln; simp at ln
        | cons x r =>
          have e0 : fstAt ((x :: r).headD 0) (x :: r) = 0 := by
            unfold fstAt
            exact if_pos rfl
          rw [e0]
          exact ⟨rfl, rfl, .inl rfl⟩
    obtain ⟨j1, j2, j3⟩ := hj
    have jl : fstAt (goes c (S ++ [n])) (S ++ [n]) < (S ++ [n]).length := (List.getElem?_eq_some_iff.mp j2).1
    refine ⟨?_, ?_, ?_, ?_, ?_⟩
    · show cutN c.kind 0 (dropAt (rel n (S ++ [n])) (if c.kind = .low then lowAt (rel n (S ++ [n])) else 0)) = _
      rw [j1, rel_erase]
      rfl
    · exact nds.sublist (List.eraseIdx_sublist _ _)
    · rw [List.length_eraseIdx, if_pos jl]
      omega
    · rw [← ovs]
      rcases j3 with z | z
      · rw [z, List.eraseIdx_zero]
        unfold over
        exact (List.tail_suffix _).filter _
      · have e1 : over n ((S ++ [n]).eraseIdx (fstAt (goes c (S ++ [n])) (S ++ [n]))) = over n (S ++ [n]) := by
          have e2 : S ++ [n] = (S ++ [n]).take (fstAt (goes c (S ++ [n])) (S ++ [n])) ++ goes c (S ++ [n]) :: (S ++ [n]).drop (fstAt (goes c (S ++ [n])) (S ++ [n]) + 1) := by
            have h3 := List.drop_eq_getElem_cons jl
            have h4 : (S ++ [n])[fstAt (goes c (S ++ [n])) (S ++ [n])] = goes c (S ++ [n]) := (List.getElem?_eq_some_iff.mp j2).2
            rw [h4] at h3
            rw [← h3, List.take_append_drop]
          rw [List.eraseIdx_eq_take_drop_succ, over_app]
          conv => rhs; rw [e2]
          rw [over_app]
          congr 1
          unfold over
          conv => rhs; rw [List.filter_cons]
          rw [if_neg (by simp; omega)]
        rw [e1]
        exact List.suffix_refl _
    · intro x hx
      have := (List.eraseIdx_sublist _ _).subset hx
      simpa using this
  · rw [if_neg h]
    have h1 : S.length + 1 - c.size = 0 := by omega
    rw [h1]
    refine ⟨rfl, nds, by omega, by rw [ovs]; exact List.suffix_refl _, fun x hx => by simpa using hx⟩
theorem put_old {c : Cfg} {S : List Int} {n : Int} (hn : n ∈ S) (nd : S.Nodup) (hl : S.length ≤ c.size) : rel n (S.filter (fun x => decide (x ≠ n)) ++ [n]) = rel n (putW c S n) ∧ PutOk c S n (putW c S n) := by
  have lt : (S.filter fun x => decide (x ≠ n)).length < S.length := List.length_filter_lt_length_iff_exists.mpr ⟨n, hn, by simp⟩
  have e : putW c S n = S.filter (fun x => decide (x ≠ n)) ++ [n] := by
    unfold putW
    simp only
    rw [if_neg (by rw [List.length_append]; show ¬ _ < _ + 1; omega)]
  rw [e]
  refine ⟨rfl, ?_, ?_, ?_, ?_⟩
  · rw [List.nodup_append]
    refine ⟨nd.sublist List.filter_sublist, by simp, fun a ha b hb => ?_⟩
    have : b = n := by simpa using hb
    rw [this]
    have := (List.mem_filter.mp ha).2
    exact of_decide_eq_true this
  · rw [List.length_append]
    show _ + 1 ≤ _
    omega
  · rw [over_app, over_self, List.append_nil]
    unfold over
    rw [List.filter_filter]
    have : (fun x : Int => decide (n < x) && decide (x ≠ n)) = fun x => decide (n < x) := by
      funext x
      by_cases h : n < x
      · have : x ≠ n := by omega
        simp [h, this]
      · simp [h]
    rw [this]
    exact List.suffix_refl _
  · intro x hx
    rcases List.mem_append.mp hx with h | h
    · exact .inl (List.mem_filter.mp h).1
    · exact .inr (by simpa using h)
/-- what the walk gives, seen from the engine -/
structure Sim (c : Cfg) (n : Int) (S : List Int) (r : List Int × Log) : Prop where
  ans : ans c n.toNat (rel n S) = (cntOf r.2, rel n r.1)
  nd : r.1.Nodup
  len : r.1.length ≤ c.size
  suf : over n r.1 <:+ over n S
  mem : ∀ x ∈ r.1, x ∈ S ∨ x ≤ n
structure SimAt (c : Cfg) (n : Int) (S : List Int) (a : Acc) (r : List Int × Log) : Prop where
  cnt : a.cnt = cntOf r.2
  sto : a.sto = rel n r.1
  nd : r.1.Nodup
  len : r.1.length ≤ c.size
  suf : over n r.1 <:+ over n S
  mem : ∀ x ∈ r.1, x ∈ S ∨ x < n
theorem over_over {m n : Int} (h : n ≤ m) (S : List Int) : over m (over n S) = over m S := by
  unfold over
  rw [List.filter_filter]
  congr 1
  funext x
  by_cases h1 : m < x
  · have h2 : n < x := by omega
    simp [h1, h2]
  · simp [h1]
theorem steps_sim {c : Cfg} {f : Nat} {n : Int} {S : List Int} (hn : 1 ≤ n) (hf : n.toNat ≤ f + 1) (ih : ∀ m S, m.toNat ≤ f → S.Nodup → S.length ≤ c.size → Sim c m S (walk c f m S)) :
    ∀ (l : List Nat) (a : Acc) (r : List Int × Log), (∀ p ∈ l, 1 ≤ p) → SimAt c n S a r → SimAt c n S (l.foldl (stepR (Ag.ans c) n.toNat) a) (stepsW (walk c f) n l r)
  | [], _, _, _, h => h
  | p :: l, a, r, hp, h => by
    have p1 := hp p List.mem_cons_self
    have k := ih (n - p) r.1 (by omega) h.nd h.len
    rw [List.foldl_cons]
    refine steps_sim hn hf ih l _ _ (fun q hq => hp q (List.mem_cons_of_mem _ hq)) ?_
    have es : seenS p a.sto = rel (n - p) r.1 := by rw [h.sto, seen_rel]
    have et : n.toNat - p = (n - p).toNat := by omega
    have eh : hidS p a.sto = rel n (over (n - p) r.1) := by rw [h.sto, hid_rel]
    refine ⟨?_, ?_, k.nd, k.len, ?_, ?_⟩
    · show addC a.cnt (Ag.ans c (n.toNat - p) (seenS p a.sto)).1 = _
      rw [es, et, k.ans, h.cnt, cntOf_app]
    · show restS p (Ag.ans c (n.toNat - p) (seenS p a.sto)).2 (hidS p a.sto) = _
      rw [es, et, k.ans, eh]
      exact rest_rel k.suf
    · have h1 := k.suf.filter fun x => decide (n < x)
      have h2 : over n (over (n - p) (walk c f (n - p) r.1).1) <:+ over n (over (n - p) r.1) := h1
      rw [over_over (by omega), over_over (by omega)] at h2
      exact h2.trans h.suf
    · intro x hx
      rcases k.mem x hx with z | z
      · exact h.mem x z
      · exact .inr (by omega)
theorem walk_sim {c : Cfg} (hc : c.Ok) : ∀ (f : Nat) (n : Int) (S : List Int), n.toNat ≤ f → S.Nodup → S.length ≤ c.size → Sim c n S (walk c f n S)
  | 0, n, S, hf, nd, hl => by
    have h0 : n.toNat = 0 := by omega
    exact ⟨by rw [h0, ans_zero]; rfl, nd, hl, List.suffix_refl _, fun x hx => .inl hx⟩
  | f + 1, n, S, hf, nd, hl => by
    unfold walk
    by_cases h1 : n < 1
    · rw [if_pos h1]
      have h0 : n.toNat = 0 := by omega
      exact ⟨by rw [h0, ans_zero]; rfl, nd, hl, List.suffix_refl _, fun x hx => .inl hx⟩
    · rw [if_neg h1]
      have n0 : n.toNat ≠ 0 := by omega
      by_cases h2 : n ∈ S
      · rw [if_pos h2]
        obtain ⟨k1, k2⟩ := put_old h2 nd hl
        have ea := ans_kept (c := c) n0 (zero_rel.mpr h2)
        by_cases hk : c.kind = .use
        · rw [if_pos hk]
          refine ⟨?_, k2.nd, k2.len, k2.suf, fun x hx => ?_⟩
          · rw [ea]
            unfold useS
            rw [if_pos hk, rel_filter]
            show _ = (_, rel n (putW c S n))
            rw [← k1, rel_app]
            show _ = (_, _ ++ [rel1 n n])
            rw [rel1_self]
            rfl
          · rcases k2.mem x hx with z | z
            · exact .inl z
            · exact .inr (by omega)
        · rw [if_neg hk]
          refine ⟨?_, nd, hl, List.suffix_refl _, fun x hx => .inl hx⟩
          rw [ea]
          unfold useS
          rw [if_neg hk]
          rfl
      · rw [if_neg h2]
        have k := steps_sim (c := c) (n := n) (S := S) (by omega) hf (walk_sim hc f) c.steps ⟨(1, 0, 0), rel n S, []⟩ (S, [(n, .run)]) hc ⟨rfl, rfl, nd, hl, List.suffix_refl _, fun x hx => .inl hx⟩
        have hn' : n ∉ (stepsW (walk c f) n c.steps (S, [(n, .run)])).1 := fun z => by
          rcases k.mem n z with y | y
          · exact h2 y
          · omega
        obtain ⟨j1, j2⟩ := put_new hn' k.nd k.len
        refine ⟨?_, j2.nd, j2.len, j2.suf.trans k.suf, fun x hx => ?_⟩
        · rw [ans_run hc n0 (fun z => h2 (zero_rel.mp z))]
          show (_, cutS c.kind c.size (_ ++ [some 0])) = _
          rw [k.sto, j1]
          show ((c.steps.foldl (stepR (Ag.ans c) n.toNat) ⟨(1, 0, 0), rel n S, []⟩).cnt, _) = _
          rw [k.cnt]
        · rcases j2.mem x hx with z | z
          · rcases k.mem x z with y | y
            · exact .inl y
            · exact .inr (by omega)
          · exact .inr (by omega)
end Ag
namespace Ag
/-! ### how often each number is run -/
def rcR (c : Cfg) (m : Int) : Nat → Nat → Sto → Nat
  | 0, _, _ => 0
  | f + 1, n, st => (if (n : Int) = m then 1 else 0) + ((run c n st).wan.map fun x => rcR c m f x.1 x.2).sum
def rc (c : Cfg) (m : Int) (n : Nat) (st : Sto) : Nat := rcR c m n n st
theorem rcR_fuel {c : Cfg} (hc : c.Ok) (m : Int) : ∀ (f g n : Nat) (st : Sto), st.length ≤ c.size → 1 ≤ n → n ≤ f → n ≤ g → rcR c m f n st = rcR c m g n st
  | 0, _, n, _, _, h1, hf, _ => by omega
  | _ + 1, 0, n, _, _, h1, _, hg => by omega
  | f + 1, g + 1, n, st, hs, h1, hf, hg => by
    unfold rcR
    congr 2
    refine List.map_congr_left fun x hx => ?_
    obtain ⟨k1, k2, _, k4⟩ := wan_lt hc hs x hx
    exact rcR_fuel hc m f g x.1 x.2 k4 k1 (by omega) (by omega)
theorem rc_eq {c : Cfg} (hc : c.Ok) (m : Int) {n : Nat} {st : Sto} (hs : st.length ≤ c.size) (h1 : 1 ≤ n) : rc c m n st = (if (n : Int) = m then 1 else 0) + ((run c n st).wan.map fun x => rc c m x.1 x.2).sum := by
  obtain ⟨k, rfl⟩ : ∃ k, n = k + 1 := ⟨n - 1, by omega⟩
  show rcR c m (k + 1) (k + 1) st = _
  rw [rcR]
  congr 2
  refine List.map_congr_left fun x hx => ?_
  obtain ⟨k1, k2, _, k4⟩ := wan_lt hc hs x hx
  exact rcR_fuel hc m k x.1 x.1 x.2 k4 k1 (by omega) (Nat.le_refl _)
theorem sum_pos_mem : ∀ {l : List Nat}, 1 ≤ l.sum → ∃ x ∈ l, 1 ≤ x
  | [], h => by simp at h
  | x :: r, h => by
    rw [List.sum_cons] at h
    by_cases hx : 1 ≤ x
    · exact ⟨x, List.mem_cons_self, hx⟩
    · obtain ⟨y, h1, h2⟩ := sum_pos_mem (l := r) (by omega)
      exact ⟨y, List.mem_cons_of_mem _ h1, h2⟩
theorem rc_range {c : Cfg} (hc : c.Ok) {m : Int} : ∀ (f n : Nat) (st : Sto), st.length ≤ c.size → 1 ≤ n → 1 ≤ rcR c m f n st → 1 ≤ m ∧ m ≤ n
  | 0, _, _, _, _, h => by simp [rcR] at h
  | f + 1, n, st, hs, h1, h => by
    unfold rcR at h
    by_cases z : (n : Int) = m
    · omega
    · rw [if_neg z, Nat.zero_add] at h
      obtain ⟨y, hy, hy1⟩ := sum_pos_mem h
      obtain ⟨x, hx, rfl⟩ := List.mem_map.mp hy
      obtain ⟨k1, k2, _, k4⟩ := wan_lt hc hs x hx
      have := rc_range hc f x.1 x.2 k4 k1 hy1
      omega
theorem steps_rc {c : Cfg} (hc : c.Ok) {f : Nat} {n : Int} {S : List Int} {m : Int} {k0 : Nat} (hn : 1 ≤ n) (hf : n.toNat ≤ f + 1)
    (ih : ∀ k S', k.toNat ≤ f → S'.Nodup → S'.length ≤ c.size → (walk c f k S').2.count (m, Wh.run) = if 1 ≤ k ∧ k ∉ S' then rc c m k.toNat (rel k S') else 0) :
    ∀ (l : List Nat) (a : Acc) (r : List Int × Log), (∀ p ∈ l, 1 ≤ p) → SimAt c n S a r → r.2.count (m, Wh.run) = k0 + (a.wan.map fun x => rc c m x.1 x.2).sum →
      (stepsW (walk c f) n l r).2.count (m, Wh.run) = k0 + ((l.foldl (stepR (Ag.ans c) n.toNat) a).wan.map fun x => rc c m x.1 x.2).sum
  | [], _, _, _, _, h => h
  | p :: l, a, r, hp, hs, h => by
    have p1 := hp p List.mem_cons_self
    have one := steps_sim (c := c) (f := f) (n := n) (S := S) hn hf (walk_sim hc f) [p] a r (fun q hq => by
      rw [List.mem_singleton.mp hq]; exact p1) hs
    rw [List.foldl_cons]
    refine steps_rc hc hn hf ih l _ _ (fun q hq => hp q (List.mem_cons_of_mem _ hq)) one ?_
    have k := ih (n - p) r.1 (by omega) hs.nd hs.len
    have es : seenS p a.sto = rel (n - p) r.1 := by rw [hs.sto, seen_rel]
    have et : n.toNat - p = (n - p).toNat := by omega
    show (r.2 ++ (walk c f (n - p) r.1).2).count (m, Wh.run) = k0 + ((stepR (Ag.ans c) n.toNat a p).wan.map fun x => rc c m x.1 x.2).sum
    rw [List.count_append, h, k]
    show _ = k0 + ((if p < n.toNat ∧ some 0 ∉ seenS p a.sto then a.wan ++ [(n.toNat - p, seenS p a.sto)] else a.wan).map fun x => rc c m x.1 x.2).sum
    by_cases z : p < n.toNat ∧ some 0 ∉ seenS p a.sto
    · rw [if_pos z]
      have z' : 1 ≤ n - p ∧ n - p ∉ r.1 := ⟨by omega, fun y => z.2 (by rw [es]; exact zero_rel.mpr y)⟩
      rw [if_pos z', List.map_append, List.sum_append, es, et]
      simp
      omega
    · rw [if_neg z]
      have z' : ¬ (1 ≤ n - p ∧ n - p ∉ r.1) := fun y => z ⟨by omega, fun q => y.2 (zero_rel.mp (by rw [es] at q; exact q))⟩
      rw [if_neg z']
      omega
theorem no_run (n m : Int) {x : Wh} (h : x ≠ .run) : ([(n, x)] : Log).count (m, Wh.run) = 0 := by
  rw [List.count_eq_zero]
  intro z
  have := List.mem_singleton.mp z
  injection this with _ e
  exact h e.symm
theorem walk_rc {c : Cfg} (hc : c.Ok) (m : Int) : ∀ (f : Nat) (n : Int) (S : List Int), n.toNat ≤ f → S.Nodup → S.length ≤ c.size →
    (walk c f n S).2.count (m, Wh.run) = if 1 ≤ n ∧ n ∉ S then rc c m n.toNat (rel n S) else 0
  | 0, n, S, hf, nd, hl => by
    rw [if_neg (by omega)]
    exact no_run n m (by decide)
  | f + 1, n, S, hf, nd, hl => by
    unfold walk
    by_cases h1 : n < 1
    · rw [if_pos h1, if_neg (by omega)]
      exact no_run n m (by decide)
    · rw [if_neg h1]
      by_cases h2 : n ∈ S
      · rw [if_pos h2, if_neg (show ¬ (1 ≤ n ∧ n ∉ S) from fun z => z.2 h2)]
        exact no_run n m (by decide)
      · rw [if_neg h2, if_pos ⟨by omega, h2⟩]
        have k0 : ([(n, Wh.run)] : Log).count (m, Wh.run) = if n = m then 1 else 0 := by
          by_cases z : n = m
          · rw [if_pos z, z]; simp
          · rw [if_neg z]
            simp [List.count_cons, z]
        have k := steps_rc hc (f := f) (n := n) (S := S) (m := m) (k0 := if n = m then 1 else 0) (by omega) hf (walk_rc hc m f) c.steps ⟨(1, 0, 0), rel n S, []⟩ (S, [(n, .run)]) hc ⟨rfl, rfl, nd, hl, List.suffix_refl _, fun x hx => .inl hx⟩ (by
          show ([(n, Wh.run)] : Log).count (m, Wh.run) = _
          rw [k0]
          simp)
        show (stepsW (walk c f) n c.steps (S, [(n, .run)])).2.count (m, Wh.run) = _
        rw [k, rc_eq hc m (n := n.toNat) (st := rel n S) (by unfold rel; rw [List.length_map]; exact hl) (by omega)]
        have e1 : ((n.toNat : Nat) : Int) = n := by omega
        rw [e1]
        rfl
/-! ### weights -/
section
variable {α : Type} [DecidableEq α]
def getA (l : List (α × Nat)) (k : α) : Option Nat := (l.find? fun x => decide (x.1 = k)).map (·.2)
def addA (l : List (α × Nat)) (k : α) (t : Nat) : List (α × Nat) := if (getA l k).isSome then l.map (fun x => if x.1 = k then (x.1, (getA l k).getD 0 + t) else x) else l ++ [(k, t)]
def wsum (φ : α → Nat) (l : List (α × Nat)) : Nat := (l.map fun x => x.2 * φ x.1).sum
theorem getA_cons_pos {x : α × Nat} {l : List (α × Nat)} {k : α} (h : x.1 = k) : getA (x :: l) k = some x.2 := by simp [getA, List.find?_cons, h]
theorem getA_cons_neg {x : α × Nat} {l : List (α × Nat)} {k : α} (h : ¬ x.1 = k) : getA (x :: l) k = getA l k := by simp [getA, List.find?_cons, h]
theorem getA_mem : ∀ {l : List (α × Nat)} {k : α} {t : Nat}, getA l k = some t → (k, t) ∈ l
  | [], _, _, h => by simp [getA] at h
  | x :: l, k, t, h => by
    by_cases e : x.1 = k
    · rw [getA_cons_pos e] at h
      injection h with h
      rw [← e, ← h]
      exact List.mem_cons_self
    · rw [getA_cons_neg e] at h
      exact List.mem_cons_of_mem _ (getA_mem h)
theorem getA_none : ∀ {l : List (α × Nat)} {k : α}, getA l k = none ↔ k ∉ l.map (·.1)
  | [], k => by simp [getA]
  | x :: l, k => by
    by_cases e : x.1 = k
    · rw [getA_cons_pos e]
      simp [e]
    · rw [getA_cons_neg e, getA_none]
      have e' : ¬ k = x.1 := fun z => e z.symm
      simp [e']
theorem getA_of_mem : ∀ {l : List (α × Nat)} {k : α} {t : Nat}, (l.map (·.1)).Nodup → (k, t) ∈ l → getA l k = some t
  | [], _, _, _, h => nomatch h
  | x :: l, k, t, nd, h => by
    rw [List.map_cons, List.nodup_cons] at nd
    rcases List.mem_cons.mp h with rfl | h
    · exact getA_cons_pos rfl
    · have hk : k ∈ l.map (·.1) := List.mem_map.mpr ⟨(k, t), h, rfl⟩
      rw [getA_cons_neg (fun z => nd.1 (z ▸ hk))]
      exact getA_of_mem nd.2 h
theorem wsum_upd (φ : α → Nat) {k : α} {t v : Nat} : ∀ {l : List (α × Nat)}, (l.map (·.1)).Nodup → getA l k = some v → wsum φ (l.map fun x => if x.1 = k then (x.1, v + t) else x) = wsum φ l + t * φ k
  | [], _, h => by simp [getA] at h
  | x :: l, nd, h => by
    rw [List.map_cons, List.nodup_cons] at nd
    by_cases e : x.1 = k
    · have hn : k ∉ l.map (·.1) := fun z => nd.1 (by rw [e]; exact z)
      have same : l.map (fun x => if x.1 = k then (x.1, v + t) else x) = l := by
        conv => rhs; rw [← List.map_id l]
        refine List.map_congr_left fun y hy => ?_
        rw [if_neg (fun z => hn (List.mem_map.mpr ⟨y, hy, z⟩))]
        rfl
      rw [getA_cons_pos e] at h
      injection h with h
      rw [List.map_cons, if_pos e, same]
      unfold wsum
      rw [List.map_cons, List.sum_cons, List.map_cons, List.sum_cons, e, ← h, Nat.add_mul]
      omega
    · rw [getA_cons_neg e] at h
      have ih := wsum_upd φ (t := t) nd.2 h
      rw [List.map_cons, if_neg e]
      unfold wsum at ih ⊢
      rw [List.map_cons, List.sum_cons, List.map_cons, List.sum_cons, ih]
      omega
theorem wsum_app (φ : α → Nat) (a b : List (α × Nat)) : wsum φ (a ++ b) = wsum φ a + wsum φ b := by unfold wsum; simp
theorem wsum_add (φ : α → Nat) {l : List (α × Nat)} (nd : (l.map (·.1)).Nodup) (k : α) (t : Nat) : wsum φ (addA l k t) = wsum φ l + t * φ k := by
  unfold addA
  cases h : getA l k with
  | none =>
    rw [if_neg (by simp), wsum_app]
    unfold wsum
    simp
  | some v =>
    rw [if_pos (show (some v).isSome = true from rfl)]
    exact wsum_upd φ nd h
theorem keys_add (l : List (α × Nat)) (k : α) (t : Nat) : (addA l k t).map (·.1) = if (getA l k).isSome then l.map (·.1) else l.map (·.1) ++ [k] := by
  unfold addA
  split
  · rw [List.map_map]
    refine List.map_congr_left fun x _ => ?_
    show (if x.1 = k then (x.1, (getA l k).getD 0 + t) else x).1 = x.1
    split <;> rfl
  · simp
theorem nodup_add {l : List (α × Nat)} (nd : (l.map (·.1)).Nodup) (k : α) (t : Nat) : ((addA l k t).map (·.1)).Nodup := by
  rw [keys_add]
  split
  · exact nd
  · rename_i h
    have hn : getA l k = none := by
      cases z : getA l k with
      | none => rfl
      | some v => rw [z] at h; exact absurd rfl h
    rw [List.nodup_append]
    refine ⟨nd, by simp, fun a ha b hb => ?_⟩
    have : b = k := by simpa using hb
    rw [this]
    exact fun z => getA_none.mp hn (z ▸ ha)
theorem pos_add {l : List (α × Nat)} (hp : ∀ x ∈ l, 1 ≤ x.2) (k : α) {t : Nat} (ht : 1 ≤ t) : ∀ x ∈ addA l k t, 1 ≤ x.2 := by
  intro x hx
  unfold addA at hx
  split at hx
  · obtain ⟨y, hy, rfl⟩ := List.mem_map.mp hx
    split
    · show 1 ≤ _ + t
      omega
    · exact hp y hy
  · rcases List.mem_append.mp hx with h | h
    · exact hp x h
    · rw [List.mem_singleton.mp h]
      exact ht
theorem mem_add {l : List (α × Nat)} {k : α} {t : Nat} {x : α} (h : x ∈ (addA l k t).map (·.1)) : x ∈ l.map (·.1) ∨ x = k := by
  rw [keys_add] at h
  split at h
  · exact .inl h
  · rcases List.mem_append.mp h with h | h
    · exact .inl h
    · exact .inr (by simpa using h)
theorem wsum_drop (φ : α → Nat) {k : α} {t : Nat} : ∀ {l : List (α × Nat)}, (l.map (·.1)).Nodup → getA l k = some t → wsum φ l = t * φ k + wsum φ (l.filter fun x => decide (x.1 ≠ k))
  | [], _, h => by simp [getA] at h
  | x :: l, nd, h => by
    rw [List.map_cons, List.nodup_cons] at nd
    by_cases e : x.1 = k
    · have hn : k ∉ l.map (·.1) := fun z => nd.1 (by rw [e]; exact z)
      have same : l.filter (fun x => decide (x.1 ≠ k)) = l := by
        rw [List.filter_eq_self]
        intro y hy
        exact decide_eq_true fun z => hn (List.mem_map.mpr ⟨y, hy, z⟩)
      rw [getA_cons_pos e] at h
      injection h with h
      rw [List.filter_cons, if_neg (by simp [e]), same]
      unfold wsum
      rw [List.map_cons, List.sum_cons, e, h]
    · rw [getA_cons_neg e] at h
      have ih := wsum_drop φ nd.2 h
      rw [List.filter_cons, if_pos (decide_eq_true e)]
      unfold wsum at ih ⊢
      rw [List.map_cons, List.sum_cons, List.map_cons, List.sum_cons, ih]
      omega
/-- the weight of one key alone -/
def ind (m k : α) : Nat := if k = m then 1 else 0
theorem wsum_ind {m : α} : ∀ {l : List (α × Nat)}, (l.map (·.1)).Nodup → wsum (ind m) l = (getA l m).getD 0
  | [], _ => rfl
  | x :: l, nd => by
    rw [List.map_cons, List.nodup_cons] at nd
    have ih := wsum_ind (m := m) nd.2
    unfold wsum at ih ⊢
    rw [List.map_cons, List.sum_cons, ih]
    by_cases e : x.1 = m
    · have hn : getA l m = none := getA_none.mpr fun z => nd.1 (by rw [e]; exact z)
      rw [getA_cons_pos e, hn]
      unfold ind
      rw [if_pos e]
      simp
    · rw [getA_cons_neg e]
      unfold ind
      rw [if_neg e]
      omega
end
theorem asc_eq : ∀ {a b : List Int}, a.Pairwise (· < ·) → b.Pairwise (· < ·) → (∀ x, x ∈ a ↔ x ∈ b) → a = b
  | [], [], _, _, _ => rfl
  | [], y :: b, _, _, h => by have := (h y).mpr List.mem_cons_self; cases this
  | x :: a, [], _, _, h => by have := (h x).mp List.mem_cons_self; cases this
  | x :: a, y :: b, ha, hb, h => by
    rw [List.pairwise_cons] at ha hb
    have e : x = y := by
      rcases List.mem_cons.mp ((h x).mp List.mem_cons_self) with z | z
      · exact z
      · rcases List.mem_cons.mp ((h y).mpr List.mem_cons_self) with z2 | z2
        · exact z2.symm
        · have h1 := hb.1 x z
          have h2 := ha.1 y z2
          omega
    subst e
    have := asc_eq ha.2 hb.2 fun z => by
      constructor
      · intro hz
        rcases List.mem_cons.mp ((h z).mp (List.mem_cons_of_mem _ hz)) with q | q
        · have := ha.1 z hz
          omega
        · exact q
      · intro hz
        rcases List.mem_cons.mp ((h z).mpr (List.mem_cons_of_mem _ hz)) with q | q
        · have := hb.1 z hz
          omega
        · exact q
    rw [this]
end Ag
namespace Ag
open PySem PySem.Spec PyProof.Rows L2
/-! ### the walk's world: a dict with a store and a log -/
def whS : Wh → Str
  | .run => "run"
  | .kept => "kept"
  | .base => "base"
def wdK (tp : Addr) (z : Int) (kd : Str) (sl ll : Addr) : List (Key × V) := [(.inr "paces", .ref tp), (.inr "limit", .int z), (.inr "kind", .str kd), (.inr "store", .ref sl), (.inr "log", .ref ll)]
section
variable {H H' : Hp} {wd tp sl ll s2 : Addr} {z : Int} {kd : Str} {K : PySem.W.Frag}
theorem wg_paces (h : H wd = some (.dK (wdK tp z kd sl ll))) : DGet H wd (.str "paces") (some (.ref tp)) := DGet.k (k := .inr "paces") h
theorem wg_limit (h : H wd = some (.dK (wdK tp z kd sl ll))) : DGet H wd (.str "limit") (some (.int z)) := DGet.k (k := .inr "limit") h
theorem wg_kind (h : H wd = some (.dK (wdK tp z kd sl ll))) : DGet H wd (.str "kind") (some (.str kd)) := DGet.k (k := .inr "kind") h
theorem wg_store (h : H wd = some (.dK (wdK tp z kd sl ll))) : DGet H wd (.str "store") (some (.ref sl)) := DGet.k (k := .inr "store") h
theorem wg_log (h : H wd = some (.dK (wdK tp z kd sl ll))) : DGet H wd (.str "log") (some (.ref ll)) := DGet.k (k := .inr "log") h
theorem wp_store (h : H wd = some (.dK (wdK tp z kd sl ll))) : DPut H wd (.str "store") (.ref s2) (upd H wd (.dK (wdK tp z kd s2 ll))) := DPut.k (k := .inr "store") h (by show 5 < sizeLine; decide)
inductive LogV (K : PySem.W.Frag) (H : Hp) : Log → List V → Prop
  | nil : LogV K H [] []
  | cons {n : Int} {x : Wh} {t : Addr} {l : Log} {vs : List V} : SqT K H t [.int n, .str (whS x)] → LogV K H l vs → LogV K H ((n, x) :: l) (.ref t :: vs)
theorem LogV.ev {M : List Addr} (e : Ev M H H') : ∀ {l : Log} {vs : List V}, LogV K H l vs → LogV K H' l vs
  | _, _, .nil => .nil
  | _, _, .cons a b => .cons (e.sqT a) (LogV.ev e b)
theorem LogV.snoc : ∀ {l : Log} {vs : List V} {n : Int} {x : Wh} {t : Addr}, LogV K H l vs → SqT K H t [.int n, .str (whS x)] → LogV K H (l ++ [(n, x)]) (vs ++ [.ref t])
  | _, _, _, _, _, .nil, h => .cons h .nil
  | _, _, _, _, _, .cons a b, h => .cons a (LogV.snoc b h)
theorem LogV.len : ∀ {l : Log} {vs : List V}, LogV K H l vs → vs.length = l.length
  | _, _, .nil => rfl
  | _, _, .cons _ b => by rw [List.length_cons, List.length_cons, LogV.len b]
theorem LogV.at : ∀ {l : Log} {vs : List V} {i : Nat} {v : V}, LogV K H l vs → vs[i]? = some v → ∃ n x t, l[i]? = some (n, x) ∧ v = .ref t ∧ SqT K H t [.int n, .str (whS x)]
  | _, _, _, _, .nil, e => by simp at e
  | _, _, 0, _, .cons a b, e => by
    simp at e
    exact ⟨_, _, _, rfl, e.symm, a⟩
  | _, _, i + 1, _, .cons a b, e => by
    obtain ⟨n, x, t, h1, h2⟩ := LogV.at (i := i) b (by simpa using e)
    exact ⟨n, x, t, by simpa using h1, h2⟩
/-- the world of a setup, its store and its log -/
structure WAt (K : PySem.W.Frag) (H : Hp) (wd ll : Addr) (c : Cfg) (S : List Int) (l : Log) : Prop where
  ex : ∃ tp sl ws, H wd = some (.dK (wdK tp c.size (kdS c.kind) sl ll)) ∧ SqT K H tp (c.steps.map fun n => .int (n : Nat)) ∧ H sl = some (.lst (S.map V.int)) ∧ H ll = some (.lst ws) ∧ LogV K H l ws ∧ sl ≠ ll
end
section
variable {H H' : Hp} {wd ll : Addr} {K : PySem.W.Frag} {c : Cfg} {S : List Int} {l : Log}
theorem WAt.same (h : WAt K H wd ll c S l) (x : Same H H') : WAt K H' wd ll c S l := by
  obtain ⟨tp, sl, ws, h1, h2, h3, h4, h5, h6⟩ := h.ex
  exact ⟨tp, sl, ws, x _ _ h1, Same.sqT x h2, x _ _ h3, x _ _ h4, LogV.ev (sEv0 x) h5, h6⟩
theorem WAt.ne (h : WAt K H wd ll c S l) : wd ≠ ll := fun z => by
  obtain ⟨tp, sl, ws, h1, _, _, h4, _⟩ := h.ex
  rw [z, h4] at h1
  cases h1
theorem WAt.mut (h : WAt K H wd ll c S l) : ∀ b ∈ [wd, ll], Mut (H b) := fun b hb => by
  obtain ⟨tp, sl, ws, h1, _, _, h4, _⟩ := h.ex
  have : b = wd ∨ b = ll := by simpa using hb
  rcases this with rfl | rfl
  · rw [h1]; exact True.intro
  · rw [h4]; exact True.intro
theorem WAt.mutW (h : WAt K H wd ll c S l) : ∀ b ∈ [wd], Mut (H b) := fun b hb => by
  have e : b = wd := by simpa using hb
  exact h.mut b (by simp [e])
/-- one more row in the log -/
theorem WAt.row {n : Int} {x : Wh} {t : Addr} (h : WAt K H wd ll c S l) (ht : SqT K H t [.int n, .str (whS x)]) {ws : List V} (hw : H ll = some (.lst ws)) : WAt K (upd H ll (.lst (ws ++ [.ref t]))) wd ll c S (l ++ [(n, x)]) ∧ Ev [wd, ll] H (upd H ll (.lst (ws ++ [.ref t]))) := by
  obtain ⟨tp, sl, ws', h1, h2, h3, h4, h5, h6⟩ := h.ex
  have e : ws' = ws := by
    rw [hw] at h4
    injection h4 with h4
    injection h4 with h4
    exact h4.symm
  subst e
  have ev : Ev [ll] H (upd H ll (.lst (ws' ++ [.ref t]))) := ev_upd (by rw [hw]; exact True.intro)
  refine ⟨⟨tp, sl, _, (upd_ne h.ne).trans h1, ev.sqT h2, (upd_ne h6).trans h3, upd_same, (LogV.ev ev h5).snoc (ev.sqT ht), h6⟩, ev.weak (fun a ha => by
    have : a = ll := by simpa using ha
    simp [this]) h.mut⟩
end
theorem stepsW_snoc (rec : Int → List Int → List Int × Log) (n : Int) (p : Nat) : ∀ (l : List Nat) (a : List Int × Log), stepsW rec n (l ++ [p]) a = ((rec (n - p) (stepsW rec n l a).1).1, (stepsW rec n l a).2 ++ (rec (n - p) (stepsW rec n l a).1).2)
  | [], _ => rfl
  | q :: l, a => stepsW_snoc rec n p l _
theorem stepsW_len {rec : Int → List Int → List Int × Log} {n : Int} {b : Nat} (h : ∀ m S, (rec m S).2.length ≤ b) : ∀ (l : List Nat) (a : List Int × Log), (stepsW rec n l a).2.length ≤ a.2.length + l.length * b
  | [], a => by show a.2.length ≤ _; omega
  | p :: l, a => by
    have h1 := stepsW_len (n := n) h l ((rec (n - p) a.1).1, a.2 ++ (rec (n - p) a.1).2)
    have h2 := h (n - p) a.1
    show (stepsW rec n l ((rec (n - p) a.1).1, a.2 ++ (rec (n - p) a.1).2)).2.length ≤ _
    rw [List.length_append] at h1
    rw [List.length_cons, Nat.add_mul]
    omega
theorem walk_len {c : Cfg} (h3 : c.steps.length ≤ 3) : ∀ (f : Nat) (n : Int) (S : List Int), (walk c f n S).2.length ≤ treeMax f
  | 0, _, _ => Nat.le_refl _
  | f + 1, n, S => by
    unfold walk
    show _ ≤ 1 + 3 * treeMax f
    split
    · show 1 ≤ _; omega
    · split
      · show 1 ≤ _; omega
      · have h1 := stepsW_len (n := n) (walk_len h3 f) c.steps (S, [(n, .run)])
        have h2 : c.steps.length * treeMax f ≤ 3 * treeMax f := Nat.mul_le_mul_right _ h3
        have h4 : (S, ([(n, Wh.run)] : Log)).2.length = 1 := rfl
        show (stepsW (walk c f) n c.steps (S, [(n, .run)])).2.length ≤ _
        omega
section
variable {P : Program} {w : World} {K : PySem.W.Frag} {mg : Str → Option Value} {base : Heap}
def sp_law_put (K : PySem.W.Frag) : Sp := fun vs H Q _ => ∃ (wd ll : Addr) (n : Int) (c : Cfg) (S : List Int) (l : Log), vs = [.ref wd, .int n] ∧ WAt K H wd ll c S l ∧ S.length ≤ 900 ∧ ∀ H', Ev [wd] H H' → WAt K H' wd ll c (putW c S n) l → Q .non H'
theorem ok_law_put (D : Def K mg "_law_put" s_law_put ["world", "number"]) (T : Txt K mg) : Cal P w K mg base CX0 1 "_law_put" (sp_law_put K) := by
  refine D.cal sc_law_put (fun vs H Q E h => ?_) (fun f cdv A outer s H vs Q E hr h => ?_)
  · obtain ⟨wd, ll, n, c, S, l, rfl, _⟩ := h
    rfl
  obtain ⟨wd, ll, n, c, S, l, rfl, g, hl, q⟩ := h
  obtain ⟨tp, sl, ws, h1, h2, h3, h4, h5, h6⟩ := g.ex
  refine ⟨_, (pss_cons (ps_set (i := 2) sc_law_put.nd rfl (Or.inl rfl) (pe_op op_catL (pe_lc (own := [("item", 3)]) rfl sc_law_put.nd (pi_list (pe_dget (hu_of hr) (pv 0) pe_str (fun _ _ => rfl))) (blkOk_by (own := [("item", 3)]) (N := ["world", "number", "store", "item"]) (sc := defScope s_law_put) (by decide +kernel)) (fun _ _ _ _ _ => (pg_name (i := 3) sc_law_put.nd rfl (Or.inl rfl))) (fun _ _ _ _ _ => (pts_one (pt_cmpR op_ne (pv 3) (pv 1) (nomark _)))) (fun _ _ _ _ _ => (pv 3))) (pe_lst (pa_cons (pv 1) pa_nil))))
    (pss_cons (ps_if (pt_cmpR op_gt (pe_callB (call_len_seq) (by rfl) T.b_len bo_len (pa_cons (pv 2) pa_nil)) (pe_dget (hu_of hr) (pv 0) pe_str (fun _ _ => rfl)) (nomark _)) (pss_one (ps_expr (pe_bm PySem.F.plainAttrs_list PySem.F.slot_list_remove PySem.F.type_list_remove mt_remove (pv 2) (pa_cons (pe_ifExp (pt_cmpR op_eq (pe_dget (hu_of hr) (pv 0) pe_str (fun _ _ => rfl)) pe_str (nomark _)) (pe_callB (cr_min rfl) (by rfl) T.b_min bo_min (pa_cons (pv 2) pa_nil)) (pe_ix ix_list (pv 2) pe_int (fun _ _ => rfl))) pa_nil)))) pss_nil)
    (pss_one (ps_dput (hu_of hr) (pv 0) pe_str (pv 2) rfl)))), ?_⟩
  refine ⟨_, rfl, wd, _, rfl, wg_store h1, sl, rfl, ⟨_, SqL.of h3⟩, fun L nL => ?_⟩
  refine lc_list (K := K) (a := sl) (xs := S.map V.int) (fun i H' => Same H H' ∧ H' L = some (.lst (((S.take i).filter fun x => decide (x ≠ n)).map V.int))) ⟨same_upd nL, upd_same⟩ (fun i H' _ h' => SqL.of (h'.1 _ _ h3)) (fun i x H' hx h' => ?_) (fun H' h' => ?_)
  · obtain ⟨s', e'⟩ := h'
    rw [List.getElem?_map] at hx
    cases hx' : S[i]? with
    | none => rw [hx'] at hx; cases hx
    | some v =>
    rw [hx'] at hx
    cases hx
    have hi := lt_of_at hx'
    refine ⟨rfl, _, rfl, _, rfl, rfl, _, rfl, ite2 (fun c1 => ?_) (fun c1 => ?_)⟩
    · have hv : v ≠ n := fun z => by
        rw [z, decide_eq_true rfl] at c1
        exact absurd c1 (by decide)
      refine ⟨_, rfl, _, e', ?_, fun b o eb => ?_, ?_⟩
      · rw [List.length_map]
        refine Nat.lt_of_le_of_lt (List.length_filter_le _ _) ?_
        rw [List.length_take]
        exact small1000 (by omega)
      · rw [upd_ne (ne_of_none eb nL)]
        exact s' b o eb
      · rw [upd_same, take_snoc hx', List.filter_append, List.map_append]
        have : List.filter (fun x => decide (x ≠ n)) [v] = [v] := by rw [List.filter_cons, if_pos (decide_eq_true hv)]; rfl
        rw [this]
        rfl
    · have hv : v = n := Decidable.byContradiction fun z => c1 (by
        have : decide (V.int v = V.int n) = false := decide_eq_false fun y => z (by injection y)
        rw [this]
        rfl)
      refine ⟨s', ?_⟩
      rw [e', take_snoc hx', List.filter_append]
      have : List.filter (fun x => decide (x ≠ n)) [v] = [] := by rw [List.filter_cons, if_neg (by simp [hv])]; rfl
      rw [this, List.append_nil]
  · obtain ⟨s', e'⟩ := h'
    rw [List.length_map, List.take_length] at e'
    have lf : (S.filter fun x => decide (x ≠ n)).length ≤ S.length := List.length_filter_le _ _
    refine ⟨_, rfl, by show 1 ≤ sizeLine; decide, fun L2 nL2 => ?_⟩
    refine ⟨L, L2, _, _, rfl, rfl, SqL.of ((same_upd nL2) _ _ e'), SqL.of upd_same, ?_, fun p np => ?_⟩
    · rw [List.length_map]
      exact Nat.le_of_lt (small1000 (by show _ + 1 ≤ 1000; omega))
    have sA : Same H (upd (upd H' L2 (.lst [.int n])) p (.lst ((S.filter fun x => decide (x ≠ n)).map V.int ++ [.int n]))) := s'.trans ((same_upd nL2).trans (same_upd np))
    have np0 : H p = none := by
      cases z : H p with
      | none => rfl
      | some o => rw [(s'.trans (same_upd nL2)) _ _ z] at np; cases np
    have ep : (S.filter fun x => decide (x ≠ n)).map V.int ++ [.int n] = ((S.filter fun x => decide (x ≠ n)) ++ [n]).map V.int := by simp
    rw [ep] at sA ⊢
    have gA := g.same sA
    generalize eH : upd (upd H' L2 (.lst [.int n])) p (.lst (((S.filter fun x => decide (x ≠ n)) ++ [n]).map V.int)) = HA at sA gA
    have eP : HA p = some (.lst (((S.filter fun x => decide (x ≠ n)) ++ [n]).map V.int)) := by rw [← eH]; exact upd_same
    have hwA := sA _ _ h1
    have fin : ∀ (H5 : Hp), (∀ b o, H b = some o → H5 b = some o) → H5 p = some (.lst ((putW c S n).map V.int)) → sDPut (tVar 0) (tC (.str "store")) (tVar 2) { nx := fun _ H' => Q .non H', rt := Q } [some (.ref wd), some (.int n), some (.ref p), none] H5 := fun H5 s5 e5 => by
      have hw5 := s5 _ _ h1
      refine ⟨_, rfl, _, rfl, wd, _, rfl, wp_store hw5, ?_⟩
      have ne : p ≠ wd := fun z => by rw [z, h1] at np0; cases np0
      have ev : Ev [wd] H (upd H5 wd (.dK (wdK tp c.size (kdS c.kind) p ll))) := ⟨fun b o eb hb => by
        rw [upd_ne (show b ≠ wd by simpa using hb)]
        exact s5 b o eb, g.mutW⟩
      exact q _ ev ⟨tp, p, ws, upd_same, ev.sqT h2, (upd_ne ne).trans e5, (upd_ne (fun z => g.ne z.symm)).trans (s5 _ _ h4), LogV.ev ev h5, fun z => by rw [z, h4] at np0; cases np0⟩
    have eput : putW c S n = if c.size < ((S.filter fun x => decide (x ≠ n)) ++ [n]).length then ((S.filter fun x => decide (x ≠ n)) ++ [n]).eraseIdx (fstAt (goes c ((S.filter fun x => decide (x ≠ n)) ++ [n])) ((S.filter fun x => decide (x ≠ n)) ++ [n])) else ((S.filter fun x => decide (x ≠ n)) ++ [n]) := rfl
    refine ⟨_, rfl, p, _, rfl, .inl (SqL.of eP), _, rfl, wd, _, rfl, wg_limit hwA, _, _, rfl, rfl, _, rfl, ite2 (fun c1 => ?_) (fun c1 => ?_)⟩
    · have c1' : c.size < ((S.filter fun x => decide (x ≠ n)) ++ [n]).length := by
        have := of_decide_eq_true c1
        rw [List.length_map] at this
        omega
      rw [if_pos c1'] at eput
      generalize (S.filter fun x => decide (x ≠ n)) ++ [n] = ns at eP c1' eput ⊢
      have rem : ∀ k : Int, k ∈ ns → k = goes c ns → rRemI (.ref p) [.int k] HA (fun _ H5 => sDPut (tVar 0) (tC (.str "store")) (tVar 2) { nx := fun _ H' => Q .non H', rt := Q } [some (.ref wd), some (.int n), some (.ref p), none] H5) := fun k hk ek => by
        subst ek
        refine ⟨p, ns, _, fstAt (goes c ns) ns, rfl, rfl, eP, fst_at hk, fun m hm => fst_no hm, fin _ (fun b o eb => ?_) ?_⟩
        · rw [upd_ne (ne_of_none eb np0)]
          exact sA b o eb
        · rw [upd_same, eput]
      have nsne : ns ≠ [] := fun z => by rw [z] at c1'; simp at c1'
      refine ⟨_, rfl, .inl ⟨rfl, _, SqL.of eP⟩, _, rfl, wd, _, rfl, wg_kind hwA, rfl, _, rfl, ?_⟩
      unfold goes at rem
      cases hk : c.kind with
      | low =>
        rw [hk, if_pos rfl] at rem
        refine iteT ⟨_, rfl, p, ns, rfl, SqL.of eP, List.length_pos_iff.mpr nsne, fun m hm hle => rem m hm (minOf_is hm hle)⟩
      | put =>
        rw [hk, if_neg (by decide)] at rem
        cases ns with
        | nil => exact absurd rfl nsne
        | cons x r => exact iteF ⟨_, rfl, p, _, 0, .int x, rfl, rfl, SqL.of eP, atI_nat (j := 0) rfl, rem x List.mem_cons_self rfl⟩
      | use =>
        rw [hk, if_neg (by decide)] at rem
        cases ns with
        | nil => exact absurd rfl nsne
        | cons x r => exact iteF ⟨_, rfl, p, _, 0, .int x, rfl, rfl, SqL.of eP, atI_nat (j := 0) rfl, rem x List.mem_cons_self rfl⟩
    · have c1' : ¬ c.size < ((S.filter fun x => decide (x ≠ n)) ++ [n]).length := fun z => c1 (decide_eq_true (by
        rw [List.length_map]
        omega))
      rw [if_neg c1'] at eput
      exact fin HA (fun b o eb => sA b o eb) (by rw [eput]; exact eP)
theorem putW_len {c : Cfg} (S : List Int) (n : Int) : (putW c S n).length ≤ S.length + 1 := by
  have lf : (S.filter fun x => decide (x ≠ n)).length ≤ S.length := List.length_filter_le _ _
  unfold putW
  simp only
  split
  · have := (List.eraseIdx_sublist (S.filter (fun x => decide (x ≠ n)) ++ [n]) (fstAt (goes c (S.filter (fun x => decide (x ≠ n)) ++ [n])) (S.filter (fun x => decide (x ≠ n)) ++ [n]))).length_le
    rw [List.length_append] at this
    have h1 : [n].length = 1 := rfl
    omega
  · rw [List.length_append]
    have h1 : [n].length = 1 := rfl
    omega
theorem in_ints (n : Int) : ∀ S : List Int, inV (.int n) (S.map V.int) = decide (n ∈ S)
  | [] => rfl
  | x :: r => by
    show ((x == n) || inV (.int n) (r.map V.int)) = _
    rw [in_ints n r]
    by_cases h : x = n
    · simp [h]
    · have h' : ¬ n = x := fun z => h z.symm
      simp [h, h']
theorem flat_ints : ∀ S : List Int, (S.map V.int).all flatV = true
  | [] => rfl
  | _ :: r => by
    show (true && (r.map V.int).all flatV) = true
    rw [flat_ints r]; rfl
def sp_law_ask (K : PySem.W.Frag) (f : Nat) : Sp := fun vs H Q _ => ∃ (wd ll : Addr) (n : Int) (c : Cfg) (S : List Int) (l : Log), vs = [.ref wd, .int n] ∧ WAt K H wd ll c S l ∧ c.Ok ∧ c.steps.length ≤ 3 ∧ c.size ≤ 300 ∧ S.Nodup ∧ S.length ≤ c.size ∧ n.toNat ≤ f ∧ l.length + treeMax f ≤ 1000000 ∧
  ∀ H', Ev [wd, ll] H H' → WAt K H' wd ll c (walk c f n S).1 (l ++ (walk c f n S).2) → Q .non H'
theorem ok_law_ask_step (D : Def K mg "_law_ask" s_law_ask ["world", "number"]) (T : Txt K mg) (f : Nat) (C_law_put : Cal P w K mg base CX0 1 "_law_put" (sp_law_put K))
    (C_law_ask : Cal P w K mg base CX0 (f + 1) "_law_ask" (fun vs H Q E => ∃ f', f = f' + 1 ∧ sp_law_ask K f' vs H Q E)) : Cal P w K mg base CX0 (f + 2) "_law_ask" (sp_law_ask K f) := by
  refine D.cal sc_law_ask (fun vs H Q E h => ?_) (fun fa cdv A outer s H vs Q E hr h => ?_)
  · obtain ⟨wd, ll, n, c, S, l, rfl, _⟩ := h
    rfl
  obtain ⟨wd, ll, n, c, S, l, rfl, g, hok, h3, hz, nd, hl, hf, hL, q⟩ := h
  obtain ⟨tp, sl, ws, h1, h2, e3, h4, h5, h6⟩ := g.ex
  have small : ws.length < sizeLine := by
    have := LogV.len h5
    exact Nat.lt_of_le_of_lt (by omega : ws.length ≤ 1000000) (by decide)
  refine ⟨_, (pss_one (ps_if (pt_cmpR op_lt (pv 1) pe_int (nomark _)) (pss_one (ps_expr (pe_bm PySem.F.plainAttrs_list PySem.F.slot_list_append PySem.F.type_list_append mt_append (pe_dget (hu_of hr) (pv 0) pe_str (fun _ _ => rfl)) (pa_cons (pe_tupS (pa_cons (pv 1) (pa_cons pe_str pa_nil))) pa_nil)))) (pss_one (ps_if (pt_cmpR op_in_seq (pv 1) (pe_dget (hu_of hr) (pv 0) pe_str (fun _ _ => rfl)) (by rfl)) (pss_cons (ps_expr (pe_bm PySem.F.plainAttrs_list PySem.F.slot_list_append PySem.F.type_list_append mt_append (pe_dget (hu_of hr) (pv 0) pe_str (fun _ _ => rfl)) (pa_cons (pe_tupS (pa_cons (pv 1) (pa_cons pe_str pa_nil))) pa_nil)))
    (pss_one (ps_if (pt_cmpR op_eq (pe_dget (hu_of hr) (pv 0) pe_str (fun _ _ => rfl)) pe_str (nomark _)) (pss_one (ps_expr (pe_c C_law_put hr (by omega) (by rfl) (pa_cons (pv 0) (pa_cons (pv 1) pa_nil))))) pss_nil))) (pss_cons (ps_expr (pe_bm PySem.F.plainAttrs_list PySem.F.slot_list_append PySem.F.type_list_append mt_append (pe_dget (hu_of hr) (pv 0) pe_str (fun _ _ => rfl)) (pa_cons (pe_tupS (pa_cons (pv 1) (pa_cons pe_str pa_nil))) pa_nil)))
    (pss_cons (ps_for PassesOwn.never rfl (pi_tup (pe_dget (hu_of hr) (pv 0) pe_str (fun _ _ => rfl))) (pg_name (i := 2) sc_law_ask.nd rfl (Or.inl rfl)) (pss_one (ps_expr (pe_c C_law_ask hr (by omega) (by rfl) (pa_cons (pv 0) (pa_cons (pe_op op_sub (pv 1) (pv 2)) pa_nil))))))
    (pss_one (ps_expr (pe_c C_law_put hr (by omega) (by rfl) (pa_cons (pv 0) (pa_cons (pv 1) pa_nil))))))))))), ?_⟩
  refine ⟨_, rfl, n, 1, rfl, rfl, _, rfl, ite2 (fun c1 => ?_) (fun c1 => ?_)⟩
  · have n1 : n < 1 := of_decide_eq_true c1
    have ew : walk c f n S = (S, [(n, .base)]) := by
      cases f with
      | zero => rfl
      | succ f => unfold walk; rw [if_pos n1]
    rw [ew] at q
    refine ⟨_, rfl, wd, _, rfl, wg_log h1, .inl ⟨rfl, _, SqL.of h4⟩, _, rfl, le2, fun t H1 s1 t1 => ?_⟩
    have r := (g.same s1).row (x := .base) t1 (s1 _ _ h4)
    exact ⟨ll, ws, _, rfl, rfl, s1 _ _ h4, small, q _ (sThen s1 r.2 g.mut) r.1⟩
  have n1 : ¬ n < 1 := fun z => c1 (decide_eq_true z)
  obtain ⟨f', ef⟩ : ∃ f', f = f' + 1 := by
    cases f with
    | zero => omega
    | succ f' => exact ⟨f', rfl⟩
  refine ⟨_, rfl, _, rfl, wd, _, rfl, wg_store h1, sl, _, rfl, .inl (SqL.of e3), rfl, flat_ints S, _, rfl, ?_⟩
  show if (if false = true then !inV (.int n) (S.map V.int) else inV (.int n) (S.map V.int)) = true then _ else _
  rw [if_neg (show ¬ false = true from Bool.false_ne_true), in_ints]
  refine ite2 (fun c2 => ?_) (fun c2 => ?_)
  · have hS : n ∈ S := of_decide_eq_true c2
    have ew : walk c f n S = (if c.kind = .use then putW c S n else S, [(n, .kept)]) := by
      rw [ef]; unfold walk; rw [if_neg n1, if_pos hS]
    rw [ew] at q
    refine ⟨_, rfl, wd, _, rfl, wg_log h1, .inl ⟨rfl, _, SqL.of h4⟩, _, rfl, le2, fun t H1 s1 t1 => ?_⟩
    have r := (g.same s1).row (x := .kept) t1 (s1 _ _ h4)
    refine ⟨ll, ws, _, rfl, rfl, s1 _ _ h4, small, ?_⟩
    generalize upd H1 ll (.lst (ws ++ [.ref t])) = H2 at r
    obtain ⟨r1, r2⟩ := r
    have ev2 := sThen s1 r2 g.mut
    obtain ⟨tp2, sl2, ws2, k1, _⟩ := r1.ex
    refine ⟨_, rfl, wd, _, rfl, wg_kind k1, rfl, _, rfl, ?_⟩
    cases hk : c.kind with
    | use =>
      rw [hk, if_pos rfl] at q
      refine iteT ⟨_, rfl, _, rfl, wd, ll, n, c, S, _, rfl, r1, by omega, fun H3 ev3 r3 => q H3 (ev2.trans (ev3.weak (fun a ha => ?_) r1.mut)) r3⟩
      have : a = wd := by simpa using ha
      simp [this]
    | low =>
      rw [hk, if_neg (by decide)] at q
      exact iteF (q H2 ev2 r1)
    | put =>
      rw [hk, if_neg (by decide)] at q
      exact iteF (q H2 ev2 r1)
  · have hS : n ∉ S := fun z => c2 (decide_eq_true z)
    have ew : walk c f n S = (putW c (stepsW (walk c f') n c.steps (S, [(n, .run)])).1 n, (stepsW (walk c f') n c.steps (S, [(n, .run)])).2) := by
      rw [ef]; unfold walk; rw [if_neg n1, if_neg hS]
    rw [ew] at q
    refine ⟨_, rfl, wd, _, rfl, wg_log h1, .inl ⟨rfl, _, SqL.of h4⟩, _, rfl, le2, fun t H1 s1 t1 => ?_⟩
    have r := (g.same s1).row (x := .run) t1 (s1 _ _ h4)
    refine ⟨ll, ws, _, rfl, rfl, s1 _ _ h4, small, ?_⟩
    generalize upd H1 ll (.lst (ws ++ [.ref t])) = H2 at r
    obtain ⟨r1, r2⟩ := r
    have ev2 := sThen s1 r2 g.mut
    obtain ⟨tp2, sl2, ws2, k1, k2, _⟩ := r1.ex
    have sim := fun i => steps_sim (c := c) (f := f') (n := n) (S := S) (by omega) (by omega) (walk_sim hok f') (c.steps.take i) ⟨(1, 0, 0), rel n S, []⟩ (S, [(n, .run)]) (fun p hp => hok p (List.mem_of_mem_take hp)) ⟨rfl, rfl, nd, hl, List.suffix_refl _, fun x hx => .inl hx⟩
    have lens := fun i => stepsW_len (n := n) (walk_len (c := c) h3 f') (c.steps.take i) (S, [(n, .run)])
    refine ⟨_, rfl, wd, _, rfl, wg_paces k1, tp2, rfl, ⟨_, k2⟩, ?_⟩
    have snoc : ∀ i p : Nat, c.steps[i]? = some p → stepsW (walk c f') n (c.steps.take (i + 1)) (S, [(n, .run)]) = ((walk c f' (n - p) (stepsW (walk c f') n (c.steps.take i) (S, [(n, .run)])).1).1, (stepsW (walk c f') n (c.steps.take i) (S, [(n, .run)])).2 ++ (walk c f' (n - p) (stepsW (walk c f') n (c.steps.take i) (S, [(n, .run)])).1).2) := fun i p hp => by
      rw [take_snoc hp, stepsW_snoc]
    refine for_tup (K := K) (a := tp2) (xs := c.steps.map fun n => .int (n : Nat)) (fun i σ H' => ∃ o, σ = [some (.ref wd), some (.int n), o] ∧ Ev [wd, ll] H H' ∧ SqT K H' tp2 (c.steps.map fun n => .int (n : Nat)) ∧ WAt K H' wd ll c (stepsW (walk c f') n (c.steps.take i) (S, [(n, .run)])).1 (l ++ (stepsW (walk c f') n (c.steps.take i) (S, [(n, .run)])).2))
      ⟨none, rfl, ev2, k2, r1⟩ (fun i σ H' _ h' => ?_) (fun i x σ H' hx h' => ?_) (fun σ H' h' => ?_)
    · obtain ⟨o, _, _, k, _⟩ := h'
      exact k
    · obtain ⟨o, rfl, ev, k, gi⟩ := h'
      rw [List.getElem?_map] at hx
      cases hp : c.steps[i]? with
      | none => rw [hp] at hx; cases hx
      | some p =>
      rw [hp] at hx
      cases hx
      have p1 := hok p (List.mem_of_getElem? hp)
      have hs := sim i
      have hle := lens i
      have h8 : (c.steps.take i).length * treeMax f' ≤ 2 * treeMax f' := Nat.mul_le_mul_right _ (by
        have := lt_of_at hp
        rw [List.length_take]
        omega)
      have h9 : treeMax f = 1 + 3 * treeMax f' := by rw [ef]; rfl
      have h10 : (S, ([(n, Wh.run)] : Log)).2.length = 1 := rfl
      refine ⟨_, rfl, _, rfl, _, rfl, _, _, rfl, rfl, f', ef, wd, ll, n - p, c, _, _, rfl, gi, hok, h3, hz, hs.nd, hs.len, by omega, by rw [List.length_append]; omega, fun H3 ev3 g3 => ?_⟩
      refine ⟨_, rfl, ev.trans ev3, ev3.sqT k, ?_⟩
      rw [snoc i p hp]
      rw [List.append_assoc] at g3
      exact g3
    · obtain ⟨o, rfl, ev, k, gi⟩ := h'
      rw [List.length_map, List.take_length] at gi
      have hs := sim c.steps.length
      rw [List.take_length] at hs
      have hs2 := hs.len
      refine ⟨_, rfl, _, rfl, wd, ll, n, c, _, _, rfl, gi, by omega, fun H3 ev3 g3 => q H3 (ev.trans (ev3.weak (fun a ha => ?_) gi.mut)) g3⟩
      have : a = wd := by simpa using ha
      simp [this]
theorem ok_law_ask (D : Def K mg "_law_ask" s_law_ask ["world", "number"]) (T : Txt K mg) (C_law_put : Cal P w K mg base CX0 1 "_law_put" (sp_law_put K)) : ∀ f, Cal P w K mg base CX0 (f + 2) "_law_ask" (sp_law_ask K f)
  | 0 => ok_law_ask_step D T 0 C_law_put (D.cal (k := 0) sc_law_ask (fun vs H Q E h => by obtain ⟨_, z, _⟩ := h; cases z) (fun _ _ _ _ _ _ _ _ _ _ h => by obtain ⟨_, z, _⟩ := h; cases z))
  | f + 1 => ok_law_ask_step D T (f + 1) C_law_put ((ok_law_ask D T C_law_put f).imp fun vs H Q E h => by
    obtain ⟨k', e, h⟩ := h
    cases e
    exact h)
end
end Ag
namespace Ag
open PySem PySem.Spec PyProof.Rows L2
section
variable {P : Program} {w : World} {K : PySem.W.Frag} {mg : Str → Option Value} {base : Heap}
def sp_law_world (K : PySem.W.Frag) : Sp := fun vs H Q _ => ∃ (p : Addr) (c : Cfg), vs = [.ref p] ∧ SetupAt K H p c ∧ ∀ wd ll H', H wd = none → H ll = none → Same H H' → WAt K H' wd ll c [] [] → Q (.ref wd) H'
theorem ok_law_world (D : Def K mg "_law_world" s_law_world ["setup"]) (T : Txt K mg) : Cal P w K mg base CX0 1 "_law_world" (sp_law_world K) := by
  refine D.cal sc_law_world (fun vs H Q E h => ?_) (fun f cdv A outer s H vs Q E hr h => ?_)
  · obtain ⟨p, c, rfl, _⟩ := h
    rfl
  obtain ⟨p, c, rfl, hs, q⟩ := h
  obtain ⟨tp, h1, h2⟩ := hs.ex
  refine ⟨_, (pss_one (ps_ret (pe_disp (pps_cons pe_str (pe_ix ix_tup (pv 0) pe_int (fun _ _ => rfl)) (pps_cons pe_str (pe_ix ix_tup (pv 0) pe_int (fun _ _ => rfl)) (pps_cons pe_str (pe_ix ix_tup (pv 0) pe_int (fun _ _ => rfl)) (pps_cons pe_str (pe_lst pa_nil) (pps_cons pe_str (pe_lst pa_nil) pps_nil))))) (by rfl) (by rfl) (fun z => by cases z) (by decide)))), ?_⟩
  refine fun wd nw => ?_
  have sw : Same H (upd H wd (.dK [])) := same_upd nw
  refine ⟨_, rfl, p, _, 0, .ref tp, rfl, rfl, Same.sqT sw h1, atI_nat (j := 0) rfl, ?_⟩
  refine ⟨_, rfl, p, _, 1, .int c.size, rfl, rfl, Same.sqT sw h1, atI_nat (j := 1) rfl, ?_⟩
  refine ⟨_, rfl, p, _, 2, .str (kdS c.kind), rfl, rfl, Same.sqT sw h1, atI_nat (j := 2) rfl, ?_⟩
  refine ⟨by decide, fun sl nsl => ⟨by decide, fun ll nll => ?_⟩⟩
  have ne1 : wd ≠ sl := fun z => by rw [← z, upd_same] at nsl; cases nsl
  have ne2 : wd ≠ ll := fun z => by rw [← z, upd_ne ne1, upd_same] at nll; cases nll
  have ne3 : sl ≠ ll := fun z => by rw [← z, upd_same] at nll; cases nll
  have nsl0 : H sl = none := by rw [upd_ne ne1.symm] at nsl; exact nsl
  have nll0 : H ll = none := by rw [upd_ne ne3.symm, upd_ne ne2.symm] at nll; exact nll
  refine ⟨by rw [upd_ne ne2, upd_ne ne1]; exact upd_same, wdK tp c.size (kdS c.kind) sl ll, rfl, by show 5 ≤ 15; decide, ?_⟩
  have s2 : Same H (upd (upd (upd (upd H wd (.dK [])) sl (.lst [])) ll (.lst [])) wd (.dK (mergeK [] (wdK tp c.size (kdS c.kind) sl ll)))) := fun b o eb => by
    rw [upd_ne (ne_of_none eb nw), upd_ne (ne_of_none eb nll0), upd_ne (ne_of_none eb nsl0), upd_ne (ne_of_none eb nw)]
    exact eb
  refine q wd ll _ nw nll0 s2 ⟨tp, sl, [], upd_same, Same.sqT s2 h2, ?_, ?_, .nil, ne3⟩
  · rw [upd_ne ne1.symm, upd_ne ne3]
    exact upd_same
  · rw [upd_ne ne2.symm]
    exact upd_same
def sp_law_log (K : PySem.W.Frag) (f : Nat) : Sp := fun vs H Q _ => ∃ (p : Addr) (n : Int) (c : Cfg), vs = [.ref p, .int n] ∧ SetupAt K H p c ∧ c.Ok ∧ c.steps.length ≤ 3 ∧ c.size ≤ 300 ∧ n.toNat ≤ f ∧ treeMax f ≤ 1000000 ∧
  ∀ t ll st ws H', Same H H' → SqT K H' t [.ref ll, .ref st] → H' ll = some (.lst ws) → LogV K H' (walk c f n []).2 ws → SqT K H' st ((walk c f n []).1.map V.int) → Q (.ref t) H'
theorem ok_law_log (D : Def K mg "_law_log" s_law_log ["setup", "number"]) (T : Txt K mg) (f : Nat) (C_law_world : Cal P w K mg base CX0 1 "_law_world" (sp_law_world K)) (C_law_ask : Cal P w K mg base CX0 (f + 2) "_law_ask" (sp_law_ask K f)) :
    Cal P w K mg base CX0 (f + 3) "_law_log" (sp_law_log K f) := by
  refine D.cal sc_law_log (fun vs H Q E h => ?_) (fun fa cdv A outer s H vs Q E hr h => ?_)
  · obtain ⟨p, n, c, rfl, _⟩ := h
    rfl
  obtain ⟨p, n, c, rfl, hs, hok, h3, hz, hf, hL, q⟩ := h
  refine ⟨_, (pss_cons (ps_set (i := 2) sc_law_log.nd rfl (Or.inl rfl) (pe_c C_law_world hr (by omega) (by rfl) (pa_cons (pv 0) pa_nil)))
    (pss_cons (ps_expr (pe_c C_law_ask hr (by omega) (by rfl) (pa_cons (pv 2) (pa_cons (pv 1) pa_nil))))
    (pss_one (ps_ret (pe_tupS (pa_cons (pe_dget (hu_of hr) (pv 2) pe_str (fun _ _ => rfl)) (pa_cons (pe_callTy (call_tupS) (by rfl) T.b_tuple bo_tuple (pa_cons (pe_dget (hu_of hr) (pv 2) pe_str (fun _ _ => rfl)) pa_nil)) pa_nil))))))), ?_⟩
  refine ⟨_, rfl, p, c, rfl, hs, fun wd ll H1 nw nl s1 g1 => ?_⟩
  refine ⟨_, rfl, _, rfl, wd, ll, n, c, [], [], rfl, g1, hok, h3, hz, List.nodup_nil, Nat.zero_le _, hf, by simpa using hL, fun H2 ev2 g2 => ?_⟩
  rw [List.nil_append] at g2
  obtain ⟨tp, sl, ws, k1, k2, k3, k4, k5, k6⟩ := g2.ex
  refine ⟨_, rfl, wd, _, rfl, wg_log k1, _, rfl, wd, _, rfl, wg_store k1, sl, _, rfl, .inl (SqL.of k3), fun st H3 s3 t3 => ⟨le2, fun t H4 s4 t4 => ?_⟩⟩
  have s34 := s3.trans s4
  refine q t ll st ws H4 (fun b o eb => s34 _ _ (ev2.keep _ _ (s1 _ _ eb) ?_)) t4 (s34 _ _ k4) (LogV.ev (sEv0 s34) k5) (Same.sqT s4 t3)
  have n1 := ne_of_none eb nw
  have n2 := ne_of_none eb nl
  simp [n1, n2]
end
end Ag
namespace Ag
open PySem PySem.Spec PyProof.Rows L2
/-! ### weights as dicts -/
def encL {κ α : Type} (enc : α → κ) (l : List (α × Nat)) : List (κ × V) := l.map fun x => (enc x.1, V.int (x.2 : Nat))
section
variable {κ α : Type} [DecidableEq κ] [DecidableEq α] {enc : α → κ}
theorem valV_enc (inj : ∀ a b, enc a = enc b → a = b) (k : α) : ∀ l : List (α × Nat), valV (encL enc l) (enc k) = (getA l k).map fun t => V.int (t : Nat)
  | [] => rfl
  | x :: l => by
    have ih := valV_enc inj k l
    unfold encL at ih ⊢
    rw [List.map_cons]
    by_cases e : x.1 = k
    · rw [valV_pos (by rw [e]), getA_cons_pos e]
      rfl
    · rw [valV_neg (fun z => e (inj _ _ z)), getA_cons_neg e, ih]
theorem putK_enc (inj : ∀ a b, enc a = enc b → a = b) (l : List (α × Nat)) (k : α) (t : Nat) : putK (encL enc l) (enc k) (.int (((getA l k).getD 0 + t : Nat) : Int)) = encL enc (addA l k t) := by
  have h : ((encL enc l).any fun kv => decide (kv.1 = enc k)) = (getA l k).isSome := by
    rw [valV_any, valV_enc inj, Option.isSome_map]
  unfold putK addA
  rw [h]
  by_cases z : (getA l k).isSome = true
  · rw [if_pos z, if_pos z]
    unfold encL
    rw [List.map_map, List.map_map]
    refine List.map_congr_left fun x _ => ?_
    show (if enc x.1 = enc k then (enc x.1, V.int (((getA l k).getD 0 + t : Nat) : Int)) else (enc x.1, V.int (x.2 : Nat))) = (enc (if x.1 = k then (x.1, (getA l k).getD 0 + t) else x).1, V.int (((if x.1 = k then (x.1, (getA l k).getD 0 + t) else x).2 : Nat) : Int))
    by_cases e : x.1 = k
    · rw [if_pos e, if_pos (by rw [e])]
    · rw [if_neg e, if_neg (fun y => e (inj _ _ y))]
  · rw [if_neg z, if_neg z]
    have : (getA l k).getD 0 = 0 := by
      cases q : getA l k with
      | none => rfl
      | some v => rw [q] at z; exact absurd rfl z
    unfold encL
    rw [List.map_append, this, Nat.zero_add]
    rfl
theorem dropK_enc (inj : ∀ a b, enc a = enc b → a = b) (k : α) : ∀ l : List (α × Nat), dropK (encL enc l) (enc k) = encL enc (l.filter fun x => decide (x.1 ≠ k))
  | [] => rfl
  | x :: l => by
    have ih := dropK_enc inj k l
    unfold dropK encL at ih ⊢
    rw [List.map_cons, List.filter_cons, List.filter_cons]
    by_cases e : x.1 = k
    · rw [if_neg (by simp [e]), if_neg (by simp [e]), ih]
    · rw [if_pos (decide_eq_true (show enc x.1 ≠ enc k from fun z => e (inj _ _ z))), if_pos (decide_eq_true e), List.map_cons, ih]
theorem encL_len (l : List (α × Nat)) : (encL enc l).length = l.length := by unfold encL; exact List.length_map _
end
def stK (x : Nat × Sto) : NestedKey := keyOf x.1 x.2
theorem stK_inj : ∀ a b, stK a = stK b → a = b := fun a b h => by
  obtain ⟨h1, h2⟩ := keyOf_inj h
  exact Prod.ext h1 h2
def numK (i : Int) : Key := .inl i
theorem numK_inj : ∀ a b, numK a = numK b → a = b := fun a b h => by
  injection h
/-- the items of a list of pairs of whole numbers -/
def prD (l : List (Int × Int)) : List PyData := l.map fun x => .tuple [.int x.1, .int x.2]
/-- where the count stands: some stands wait with their weights, some numbers are found -/
structure RB (P : Program) (w : World) (K : PySem.W.Frag) (C : Addr) (H0 H : Hp) (x d tq pW fD : Addr) (c : Cfg) (R : List (Nat × Sto)) (kvs : List (NestedKey × V)) (n b : Nat) (fl : List (Int × Nat)) (wl : List ((Nat × Sto) × Nat)) (ex : Int → Nat) : Prop where
  same : Same H0 H
  nW : H0 pW = none
  nF : H0 fD = none
  eng : EngAt P w K C H x d tq c R kvs
  wai : ND P w K H pW (encL stK wl)
  fnd : H fD = some (.dK (encL numK fl))
  ndw : (wl.map (·.1)).Nodup
  ndf : (fl.map (·.1)).Nodup
  pos : ∀ y ∈ fl, 1 ≤ y.2
  wpos : ∀ y ∈ wl, 1 ≤ y.2
  kn : ∀ y ∈ wl.map (·.1), Kn kvs y.1 y.2 ∧ 1 ≤ y.1 ∧ y.1 ≤ b ∧ y.2.length ≤ c.size
  rng : ∀ k ∈ fl.map (·.1), 1 ≤ k ∧ k ≤ (n : Int)
  sum : ∀ m : Int, wsum (ind m) fl + wsum (fun y => rc c m y.1 y.2) wl + ex m = rc c m n []
  nwd : pW ≠ d
  nwx : pW ≠ x
section
variable {P : Program} {w : World} {K : PySem.W.Frag} {C : Addr} {H0 H H' : Hp} {x d tq pW fD : Addr} {c : Cfg} {R : List (Nat × Sto)} {kvs : List (NestedKey × V)} {n b : Nat} {fl : List (Int × Nat)} {wl : List ((Nat × Sto) × Nat)} {ex : Int → Nat}
theorem RB.go (r : RB P w K C H0 H x d tq pW fD c R kvs n b fl wl ex) (s : Same H H') : RB P w K C H0 H' x d tq pW fD c R kvs n b fl wl ex :=
  ⟨r.same.trans s, r.nW, r.nF, r.eng.same s, r.wai.same s, s _ _ r.fnd, r.ndw, r.ndf, r.pos, r.wpos, r.kn, r.rng, r.sum, r.nwd, r.nwx⟩
theorem RB.wlen (r : RB P w K C H0 H x d tq pW fD c R kvs n b fl wl ex) : wl.length ≤ R.length := by
  have h := nodup_len (a := wl.map (·.1)) (b := R) r.ndw fun y hy => by
    obtain ⟨q, hq, _⟩ := r.eng.known (r.kn y hy).1
    obtain ⟨m, su, q2, e1, e2, _⟩ := r.eng.good _ (valV_mem hq)
    injection e1 with e1 _
    obtain ⟨z1, z2⟩ := keyOf_inj e1
    have : y = (m, su) := Prod.ext z1 z2
    rw [this]
    exact e2
  rwa [List.length_map] at h
theorem RB.flen (r : RB P w K C H0 H x d tq pW fD c R kvs n b fl wl ex) : fl.length ≤ n := by
  have h := nodup_len (a := fl.map (·.1)) (b := (List.range n).map fun i => ((i + 1 : Nat) : Int)) r.ndf fun k hk => by
    have := r.rng k hk
    exact List.mem_map.mpr ⟨(k - 1).toNat, List.mem_range.mpr (by omega), by omega⟩
  rwa [List.length_map, List.length_map, List.length_range] at h
theorem RB.nfw (r : RB P w K C H0 H x d tq pW fD c R kvs n b fl wl ex) : pW ≠ fD := fun z => by
  obtain ⟨o, e, _⟩ := r.wai.ex
  rw [z, r.fnd] at e
  cases e
theorem RB.nfx (r : RB P w K C H0 H x d tq pW fD c R kvs n b fl wl ex) : x ≠ fD ∧ d ≠ fD := by
  obtain ⟨dx, h⟩ := r.eng.ins
  obtain ⟨xs, h2, _⟩ := r.eng.nd.ex
  refine ⟨fun z => ?_, fun z => ?_⟩
  · rw [z, r.fnd] at h; cases h
  · rw [z, r.fnd] at h2; cases h2
/-- a stand is taken out, its own number found -/
theorem RB.take (r : RB P w K C H0 H x d tq pW fD c R kvs n b fl wl (fun _ => 0)) (hc : c.Ok) {y : Nat × Sto} {t : Nat} (hy : getA wl y = some t) {H1 : Hp} (hd : NDrop P w K H pW (encL stK wl) (stK y) H1) (hyn : y.1 ≤ n) :
    RB P w K C H0 (upd H1 fD (.dK (encL numK (addA fl (y.1 : Int) t)))) x d tq pW fD c R kvs n b (addA fl (y.1 : Int) t) (wl.filter fun z => decide (z.1 ≠ y)) (fun m => t * ((run c y.1 y.2).wan.map fun z => rc c m z.1 z.2).sum) := by
  have hm := getA_mem hy
  obtain ⟨k1, k2, k3, k4⟩ := r.kn y (List.mem_map.mpr ⟨_, hm, rfl⟩)
  have t1 := r.wpos _ hm
  have e1 : H1 fD = some (.dK (encL numK fl)) := hd.ev.keep _ _ r.fnd (by simpa using Ne.symm r.nfw)
  have evf : Ev [fD] H1 (upd H1 fD (.dK (encL numK (addA fl (y.1 : Int) t)))) := ev_upd (by rw [e1]; exact True.intro)
  have sub : ∀ z ∈ (wl.filter fun z => decide (z.1 ≠ y)).map (·.1), z ∈ wl.map (·.1) := fun z hz => by
    obtain ⟨v, hv, rfl⟩ := List.mem_map.mp hz
    exact List.mem_map.mpr ⟨v, (List.mem_filter.mp hv).1, rfl⟩
  have g1 := (r.eng.ev hd.ev (by simpa using Ne.symm r.nwx) (by simpa using Ne.symm r.nwd)).ev evf (by simpa using r.nfx.1) (by simpa using r.nfx.2)
  refine ⟨fun u o eu => ?_, r.nW, r.nF, g1, ?_, upd_same, ?_, nodup_add r.ndf _ _, pos_add r.pos _ t1, fun z hz => r.wpos z (List.mem_filter.mp hz).1, fun z hz => r.kn z (sub z hz), fun k hk => ?_, fun m => ?_, r.nwd, r.nwx⟩
  · rw [upd_ne (ne_of_none eu r.nF)]
    exact hd.ev.keep _ _ (r.same _ _ eu) (by simpa using ne_of_none eu r.nW)
  · have := hd.nd
    rw [dropK_enc stK_inj] at this
    exact this.ev evf (by simpa using r.nfw)
  · exact r.ndw.sublist (List.filter_sublist.map _)
  · rcases mem_add hk with z | z
    · exact r.rng k z
    · rw [z]; omega
  · have h0 := r.sum m
    have h1 := wsum_add (ind m) r.ndf (y.1 : Int) t
    have h2 : wsum (fun y => rc c m y.1 y.2) wl = t * rc c m y.1 y.2 + wsum (fun y => rc c m y.1 y.2) (wl.filter fun z => decide (z.1 ≠ y)) := wsum_drop (fun y => rc c m y.1 y.2) r.ndw hy
    have h3 := rc_eq hc m (n := y.1) (st := y.2) k4 k2
    have h4 : ind m (y.1 : Int) = if ((y.1 : Nat) : Int) = m then 1 else 0 := rfl
    rw [h1, h4]
    rw [h3, Nat.mul_add] at h2
    show _ + _ + t * _ = _
    omega
/-- one more stand waits -/
theorem RB.wait {ex' : Int → Nat} (r : RB P w K C H0 H x d tq pW fD c R kvs n b fl wl ex) {y : Nat × Sto} {t : Nat} (t1 : 1 ≤ t) (hy : Kn kvs y.1 y.2 ∧ 1 ≤ y.1 ∧ y.1 ≤ b ∧ y.2.length ≤ c.size) {H1 : Hp} (hp : NPut P w K H pW (encL stK wl) (stK y) (.int (((getA wl y).getD 0 + t : Nat) : Int)) H1)
    (he : ∀ m, ex m = t * rc c m y.1 y.2 + ex' m) : RB P w K C H0 H1 x d tq pW fD c R kvs n b fl (addA wl y t) ex' := by
  refine ⟨fun u o eu => hp.ev.keep _ _ (r.same _ _ eu) (by simpa using ne_of_none eu r.nW), r.nW, r.nF, r.eng.ev hp.ev (by simpa using Ne.symm r.nwx) (by simpa using Ne.symm r.nwd), ?_, hp.ev.keep _ _ r.fnd (by simpa using Ne.symm r.nfw), nodup_add r.ndw _ _, r.ndf, r.pos, pos_add r.wpos _ t1, fun z hz => ?_, r.rng, fun m => ?_, r.nwd, r.nwx⟩
  · have := hp.nd
    rw [putK_enc stK_inj] at this
    exact this
  · rcases mem_add hz with q | q
    · exact r.kn z q
    · rw [q]; exact hy
  · have h0 := r.sum m
    have h1 : wsum (fun y => rc c m y.1 y.2) (addA wl y t) = wsum (fun y => rc c m y.1 y.2) wl + t * rc c m y.1 y.2 := wsum_add (fun y => rc c m y.1 y.2) r.ndw y t
    rw [h1]
    have := he m
    omega
theorem RB.less (r : RB P w K C H0 H x d tq pW fD c R kvs n b fl wl ex) {b' : Nat} (h : ∀ y ∈ wl.map (·.1), y.1 ≤ b') : RB P w K C H0 H x d tq pW fD c R kvs n b' fl wl ex :=
  ⟨r.same, r.nW, r.nF, r.eng, r.wai, r.fnd, r.ndw, r.ndf, r.pos, r.wpos, fun y hy => ⟨(r.kn y hy).1, (r.kn y hy).2.1, h y hy, (r.kn y hy).2.2.2⟩, r.rng, r.sum, r.nwd, r.nwx⟩
theorem RB.enough {ex' : Int → Nat} (r : RB P w K C H0 H x d tq pW fD c R kvs n b fl wl ex) (h : ∀ m, ex m = ex' m) : RB P w K C H0 H x d tq pW fD c R kvs n b fl wl ex' := by
  have : ex = ex' := funext h
  rw [← this]
  exact r
end
theorem nks_at {K : PySem.W.Frag} {H : Hp} : ∀ {ks : List NestedKey} {vs : List V} {i : Nat} {v : V}, NKs K H ks vs → vs[i]? = some v → ∃ k, ks[i]? = some k ∧ NK K H k v
  | [], _, _, _, h, e => by cases h; simp at e
  | k :: ks, _, 0, _, h, e => by
    cases h with
    | cons a b =>
      simp at e
      exact ⟨k, rfl, e ▸ a⟩
  | k :: ks, _, i + 1, _, h, e => by
    cases h with
    | cons a b =>
      obtain ⟨k', h1, h2⟩ := nks_at (i := i) b (by simpa using e)
      exact ⟨k', by simpa using h1, h2⟩
theorem nks_pairs {K : PySem.W.Frag} {H : Hp} : ∀ {l : List (Int × Int)} {vs : List V}, NKs K H (l.map fun x => .tup [.num x.1, .num x.2]) vs → DpAll K H vs (prD l)
  | [], _, h => by cases h; exact .nil
  | x :: l, _, h => by
    rw [List.map_cons] at h
    cases h with
    | cons a b =>
      refine .cons ?_ (nks_pairs b)
      cases a with
      | tup h1 h2 =>
        cases h2 with
        | cons a1 h2 =>
        cases h2 with
        | cons a2 h2 =>
        cases h2
        cases a1
        cases a2
        exact .tup h1 (.cons (.int _) (.cons (.int _) .nil))
theorem getD_enc {κ α : Type} [DecidableEq κ] [DecidableEq α] {enc : α → κ} (inj : ∀ a b, enc a = enc b → a = b) (k : α) (l : List (α × Nat)) : (valV (encL enc l) (enc k)).getD (.int 0) = .int (((getA l k).getD 0 : Nat) : Int) := by
  rw [valV_enc inj]
  cases getA l k <;> rfl
section
variable {P : Program} {w : World} {K : PySem.W.Frag} {mg : Str → Option Value} {base : Heap} {C : Addr}
def sp_runs_by (K : PySem.W.Frag) (F : Nat) : Sp := fun vs H Q _ => ∃ (p : Addr) (n : Nat) (c : Cfg) (R : List (Nat × Sto)), vs = [.ref p, .int n] ∧ SetupAt K H p c ∧ Valid c ∧ n < 64 ∧ Reg c n F R ∧
  ∀ (ys : List Int) r H', ys.Pairwise (· < ·) → (∀ x, x ∈ ys ↔ 1 ≤ n ∧ 1 ≤ rc c x n []) → Same H H' → Dp K H' (.ref r) (.list (prD (ys.map fun x => (x, ((rc c x n [] : Nat) : Int))))) → Q (.ref r) H'
theorem ok_runs_by (EC : EngCls K C) (D : Def K mg "runs_by" s_runs_by ["setup", "number"]) (T : Txt K mg) (F : Nat) (C_need_setup : Cal P w K mg base CX0 4 "need_setup" (sp_need_setup K)) (C_need_number : Cal P w K mg base CX0 2 "need_number" sp_need_number)
    (C_Engine : Mak P w K mg base CX0 1 "Engine" C (sp_init P w K C)) (M_from_empty : Met P w K mg base CX0 (levA F + 1) C "from_empty" (sp_from_empty P w K C F)) : Cal P w K mg base CX0 (levA F + 2) "runs_by" (sp_runs_by K F) := by
  have l4 : 4 ≤ levA F := by unfold levA; omega
  refine D.cal sc_runs_by (fun vs H Q E h => ?_) (fun f cdv A outer s H vs Q E hr h => ?_)
  · obtain ⟨p, n, c, R, rfl, _⟩ := h
    rfl
  obtain ⟨p, n, c, R, rfl, hs, hv, hn, rg, q⟩ := h
  refine ⟨_, (pss_cons (ps_expr (pe_c C_need_setup hr (by omega) (by rfl) (pa_cons (pv 0) pa_nil)))
    (pss_cons (ps_expr (pe_c C_need_number hr (by omega) (by rfl) (pa_cons (pv 1) (pa_cons pe_int (pa_cons (pe_gc (by rfl) T.c_MOST_NUMBER) pa_nil)))))
    (pss_cons (ps_if (pt_cmpR op_eq (pv 1) pe_int (nomark _)) (pss_one (ps_ret (pe_lst pa_nil))) pss_nil)
    (pss_cons (ps_set (i := 2) sc_runs_by.nd rfl (Or.inl rfl) (pe_mk C_Engine hr (by omega) (by rfl) (pa_cons (pv 0) pa_nil)))
    (pss_cons (ps_expr (pe_mt M_from_empty hr (by omega) (pv 2) (pa_cons (pv 1) pa_nil)))
    (pss_cons (ps_asg (pe_tupS (pa_cons (pe_ndisp hr.units (pe_tupS (pa_cons (pv 1) (pa_cons (pe_callTy (call_tupS) (by rfl) T.b_tuple bo_tuple (pa_cons (pe_lst pa_nil) pa_nil)) pa_nil))) pe_int) (pa_cons pe_dnewK pa_nil))) (pg_tup (by rfl) (pgs_cons (pg_name (i := 3) sc_runs_by.nd rfl (Or.inl rfl)) (pgs_cons (pg_name (i := 4) sc_runs_by.nd rfl (Or.inr rfl)) pgs_nil))))
    (pss_cons (ps_for PassesOwn.never rfl (pi_range3 (by rfl) T.b_range (pa_cons (pv 1) (pa_cons pe_int (pa_cons (pe_un un_neg pe_int) pa_nil)))) (pg_name (i := 5) sc_runs_by.nd rfl (Or.inr rfl)) (pss_one (ps_for PassesOwn.never rfl (pi_list (pe_lock (pe_lc (own := [("at", 6)]) rfl sc_runs_by.nd (pi_nkeys (pv 3)) (blkOk_by (own := [("at", 6)]) (N := ["setup", "number", "engine", "waiting", "found", "lower", "at", "times", "other"]) (sc := defScope s_runs_by) (by decide +kernel)) (fun _ _ _ _ _ => (pg_name (i := 6) sc_runs_by.nd rfl (Or.inl rfl))) (fun _ _ _ _ _ => (pts_one (pt_cmpR op_eq (pe_ix (show IxR _ (rIxT K) from ix_tup) (pv 6) pe_int (fun _ _ => rfl)) (pv 5) (nomark _)))) (fun _ _ _ _ _ => (pv 6))))) (pg_name (i := 6) sc_runs_by.nd rfl (Or.inl rfl)) (pss_cons (ps_set (i := 7) sc_runs_by.nd rfl (Or.inl rfl) (pe_npop hr.units (pv 3) (pv 6) ⟨rfl, rfl, rfl, rfl⟩))
    (pss_cons (ps_dput (hu_of hr) (pv 4) (pv 5) (pe_op op_add (pe_dget2 (hu_of hr) (pv 4) (pv 5) pe_int ⟨rfl, rfl, rfl, rfl⟩) (pv 7)) rfl)
    (pss_one (ps_for PassesOwn.never rfl (pi_tup (pe_ix ix_tup (pe_nget hr.units (pe_fld (pv 2) rfl) (pv 6) (fun _ _ => rfl)) pe_int (fun _ _ => rfl))) (pg_name (i := 8) sc_runs_by.nd rfl (Or.inl rfl)) (pss_one (ps_nput hr.units (pv 3) (pv 8) (pe_op op_add (pe_nget2 hr.units (pv 3) (pv 8) pe_int ⟨rfl, rfl, rfl, rfl⟩) (pv 7)) rfl)))))))))
    (pss_one (ps_ret (pe_lc (own := [("lower", 5)]) rfl sc_runs_by.nd (pi_list (pe_callB (call_sortedDI rfl) (by rfl) T.b_sorted bo_sorted (pa_cons (pv 4) pa_nil))) (blkOk_by (own := [("lower", 5)]) (N := ["setup", "number", "engine", "waiting", "found", "lower", "at", "times", "other"]) (sc := defScope s_runs_by) (by decide +kernel)) (fun _ _ _ _ _ => (pg_name (i := 5) sc_runs_by.nd rfl (Or.inl rfl))) (fun _ _ _ _ _ => pts_nil) (fun _ _ _ _ _ => (show PE _ _ (tTupS K _) from pe_tupS (pa_cons (pv 5) (pa_cons (pe_dget (hu_of hr) (pv 4) (pv 5) (fun _ _ => rfl)) pa_nil)))))))))))))), ?_⟩
  refine ⟨_, rfl, p, c, rfl, hs, hv, fun H1 s1 => ?_⟩
  refine ⟨_, rfl, _, 0, 300, rfl, by omega, by omega, ?_⟩
  refine ⟨_, rfl, rfl, _, rfl, ite2 (fun c0 => ?_) (fun c0 => ?_)⟩
  · have n0 : n = 0 := by
      have := of_decide_eq_true c0
      injection this with this
      omega
    subst n0
    refine ⟨by decide, fun L nL => q [] L _ List.Pairwise.nil (fun x => ?_) (s1.trans (same_upd nL)) (.lst (SqL.of upd_same) .nil)⟩
    constructor
    · intro h; exact nomatch h
    · intro h; omega
  have n1 : 1 ≤ n := by
    refine Nat.pos_of_ne_zero fun z => c0 ?_
    rw [z]
    exact decide_eq_true rfl
  obtain ⟨tq, hp, ht⟩ := (hs.same s1).ex
  refine ⟨_, rfl, fun x dx hx hdx hne => ?_⟩
  have sx : Same H1 (upd (upd H1 dx (.own x)) x (.ins C dx [])) := fun b o eb => by
    rw [upd_ne (ne_of_none eb hx), upd_ne (ne_of_none eb hdx)]
    exact eb
  refine ⟨x, dx, p, tq, _, _, rfl, upd_same, Same.sqT sx hp, fun d H2 nd ev2 hx2 hnd => ⟨rfl, ?_⟩⟩
  have nd1 : H1 d = none := by
    cases z : H1 d with
    | none => rfl
    | some o => rw [sx _ _ z] at nd; cases nd
  have s12 : Same H1 H2 := fun b o eb => ev2.keep _ _ (sx _ _ eb) (by simpa using ne_of_none eb hx)
  refine ⟨_, rfl, x, dx, _, rfl, hx2, rfl, _, rfl, ?_⟩
  refine ⟨x, d, tq, n, c, R, rfl, ⟨⟨dx, hx2⟩, ev2.sqT (Same.sqT sx ht), hnd, List.nodup_nil, (fun kv h => nomatch h), fun n st h => nomatch h⟩, by have := hv.l3; omega, by omega, rg, fun q3 H3 kvs ev3 g3 kn3 _ => ?_⟩
  have s13 : Same H1 H3 := fun b o eb => ev3.keep _ _ (s12 _ _ eb) (by simpa using ne_of_none eb nd1)
  have kn : Kn kvs n [] := by
    rcases kn3 with z | z
    · omega
    · exact z
  refine fun pW H4 nW s4 g4 => ?_
  refine ⟨_, rfl, by decide, fun Le nLe => ⟨Le, [], rfl, .inl (SqL.of upd_same), fun te H5 s5 h5 => ⟨le2, fun tk H6 s6 h6 => ?_⟩⟩⟩
  have s46 : Same H4 H6 := (same_upd nLe).trans (s5.trans s6)
  refine ⟨tk, keyOf n [], rfl, key_nk h6 (Same.sqT s6 h5), keyOf_depth _ _, g4.same s46, fun H7 hput => fun fD nF => ⟨le2, fun tt H8 s8 h8 => ⟨tt, _, rfl, h8, rfl, _, _, rfl, _, _, rfl, rfl, ?_⟩⟩⟩
  have nW3 : H3 pW = none := nW
  have nW1 : H1 pW = none := by
    cases z : H1 pW with
    | none => rfl
    | some o => rw [s13 _ _ z] at nW; cases nW
  have s37 : Same H3 H7 := fun b o eb => hput.ev.keep _ _ (s46 _ _ (s4 _ _ eb)) (by simpa using ne_of_none eb nW3)
  have nF3 : H3 fD = none := by
    cases z : H3 fD with
    | none => rfl
    | some o => rw [s37 _ _ z] at nF; cases nF
  have nF1 : H1 fD = none := by
    cases z : H1 fD with
    | none => rfl
    | some o => rw [s13 _ _ z] at nF3; cases nF3
  have s78 : Same H7 H8 := (same_upd nF).trans s8
  have hfD : H8 fD = some (.dK []) := s8 _ _ upd_same
  have start0 : RB P w K C H1 H8 x d tq pW fD c R kvs n n [] [((n, []), 1)] (fun _ => 0) := by
    refine ⟨s13.trans (s37.trans s78), nW1, nF1, g3.same (s37.trans s78), ?_, hfD, by simp, by simp, (fun y h => nomatch h), (fun y h => ?_), (fun y h => ?_), (fun k h => nomatch h), fun m => ?_, fun z => ?_, fun z => ?_⟩
    · have := hput.nd.same s78
      have e : putK [] (keyOf n []) (V.int 1) = encL stK [((n, []), 1)] := rfl
      rw [e] at this
      exact this
    · rw [List.mem_singleton.mp h]
      exact Nat.le_refl _
    · have e : y = (n, []) := by simpa using h
      rw [e]
      exact ⟨kn, n1, Nat.le_refl _, Nat.zero_le _⟩
    · unfold wsum
      simp
    · obtain ⟨xs, e, _⟩ := g3.nd.ex
      rw [← z, nW3] at e
      cases e
    · obtain ⟨dx', e⟩ := g3.ins
      rw [← z, nW3] at e
      cases e
  have s01 : Same H H1 := s1
  refine ⟨_, rfl, _, rfl, (n : Int), 0, -1, ((n : Int) - 0).toNat, rfl, RgC.neg (by omega) (by omega) (by decide) (by decide), ?_⟩
  have en : ((n : Int) - 0).toNat = n := by omega
  rw [en]
  refine for_rangeC (lo := (n : Int)) (c := -1) (n := n) (fun i σ H' => ∃ fl wl o5 o6 o7 o8, σ = [some (.ref p), some (.int n), some (.ref x), some (.ref pW), some (.ref fD), o5, o6, o7, o8] ∧ RB P w K C H1 H' x d tq pW fD c R kvs n (n - i) fl wl (fun _ => 0)) ⟨[], [((n, []), 1)], none, none, none, none, rfl, start0⟩ (fun i σ H' hi h' => ?_) (fun σ H' h' => ?_)
  · obtain ⟨fl, wl, o5, o6, o7, o8, rfl, rb⟩ := h'
    have elow : (n : Int) + (i : Nat) * (-1) = ((n - i : Nat) : Int) := by omega
    rw [elow]
    have hlow1 : 1 ≤ n - i := by omega
    generalize elw : n - i = low at hlow1 rb
    have hlow : low ≤ n := by omega
    obtain ⟨xs, exs, rel⟩ := rb.wai.ex
    refine ⟨pW, _, exs, True.intro, fun od => ?_⟩
    refine ⟨_, rfl, pW, od, xs, rfl, upd_same, fun L nL => ?_⟩
    have nLW : L ≠ pW := fun z => by rw [z, upd_same] at nL; cases nL
    have nL' : H' L = none := by rw [upd_ne nLW] at nL; exact nL
    have evL : ∀ Hc, Same (upd H' pW (.frz od (.ext (NDp P w pW xs)))) Hc → Ev [pW] H' Hc := fun Hc sc => ⟨fun b o eb hb => sc _ _ (by rw [upd_ne (show b ≠ pW by simpa using hb)]; exact eb), fun b hb => by
      have : b = pW := by simpa using hb
      rw [this]
      exact rb.wai.mut⟩
    refine lc_nkeys (P := P) (w := w) (d := pW) (o := od) (xs := xs) (fun j Hc => Same (upd H' pW (.frz od (.ext (NDp P w pW xs)))) Hc ∧ ∃ qs : List Addr, Hc L = some (.lst (qs.map V.ref)) ∧ Paired (fun q y => NK K H' (stK y) (.ref q)) qs (((wl.take j).filter fun y => decide (y.1.1 = low)).map (·.1)))
      ⟨same_upd nL, [], upd_same, .nil⟩ (fun j Hc _ hc => hc.1 _ _ upd_same) (fun j z Hc hz hc => ?_) (fun Hc hc => ?_)
    · obtain ⟨sc, qs, eL, pq⟩ := hc
      have hjl : j < wl.length := by
        have h1 := lt_of_at hz
        have h2 := Paired.length rel
        rw [encL_len] at h2
        omega
      have hw : wl[j]? = some wl[j] := List.getElem?_eq_getElem hjl
      have hk : (encL stK wl)[j]? = some (stK wl[j].1, V.int (wl[j].2 : Nat)) := by
        unfold encL
        rw [List.getElem?_map, hw]
        rfl
      obtain ⟨z', hz', hn1, hn2, _⟩ := np_at rel hk
      rw [hz] at hz'
      cases hz'
      have hnk := NK.ev (evL Hc sc) _ _ hn2
      have lq : (qs.map V.ref).length < sizeLine := by
        rw [List.length_map]
        have h1 := Paired.length pq
        rw [List.length_map] at h1
        have h2 := List.length_filter_le (fun y : (Nat × Sto) × Nat => decide (y.1.1 = low)) (wl.take j)
        rw [List.length_take] at h2
        have h3 := rb.wlen
        have h4 := rg.len
        exact Nat.lt_of_le_of_lt (by omega : qs.length ≤ 16000000) (by decide)
      cases hnk with
      | @tup ka kxs kks ksq kns =>
      cases kns with
      | cons k1 kns =>
      cases k1
      refine ⟨rfl, _, rfl, z.2.1, _, 0, _, rfl, rfl, ksq, atI_nat (j := 0) rfl, _, rfl, rfl, _, rfl, ite2 (fun c1 => ?_) (fun c1 => ?_)⟩
      · have c1' : wl[j].1.1 = low := by
          have := of_decide_eq_true c1
          injection this with this
          omega
        refine ⟨_, rfl, _, eL, lq, fun b o eb => ?_, qs ++ [z.2.1], ?_, ?_⟩
        · rw [upd_ne (ne_of_none eb nL)]
          exact sc _ _ eb
        · rw [upd_same, List.map_append]
          rfl
        · rw [take_snoc hw, List.filter_append, List.map_append]
          have : List.filter (fun y : (Nat × Sto) × Nat => decide (y.1.1 = low)) [wl[j]] = [wl[j]] := by
            rw [List.filter_cons, if_pos (decide_eq_true c1')]
            rfl
          rw [this]
          exact Paired.snoc pq hn2
      · have c1' : ¬ wl[j].1.1 = low := fun y => c1 (decide_eq_true (by rw [y]))
        refine ⟨sc, qs, eL, ?_⟩
        rw [take_snoc hw, List.filter_append]
        have : List.filter (fun y : (Nat × Sto) × Nat => decide (y.1.1 = low)) [wl[j]] = [] := by
          rw [List.filter_cons, if_neg (by simpa using c1')]
          rfl
        rw [this, List.append_nil]
        exact pq
    · obtain ⟨sc, qs, eL, pq⟩ := hc
      have elen : xs.length = wl.length := by
        have h2 := Paired.length rel
        rw [encL_len] at h2
        exact h2.symm
      rw [elen, List.take_length] at pq
      have efz := sc _ _ (show (upd H' pW (.frz od (.ext (NDp P w pW xs)))) pW = some _ from upd_same)
      have s5 : Same H' (upd Hc pW (.ext (NDp P w pW xs))) := fun b o eb => by
        by_cases z : b = pW
        · subst z
          rw [upd_same, ← exs, eb]
        · rw [upd_ne z]
          exact sc _ _ (by rw [upd_ne z]; exact eb)
      have eL5 : (upd Hc pW (.ext (NDp P w pW xs))) L = some (.lst (qs.map V.ref)) := by rw [upd_ne nLW]; exact eL
      refine ⟨efz, ?_⟩
      generalize upd Hc pW (.ext (NDp P w pW xs)) = H5 at s5 eL5
      have rb5 := rb.go s5
      have pq5 : Paired (fun q y => NK K H5 (stK y) (.ref q)) qs ((wl.filter fun y => decide (y.1.1 = low)).map (·.1)) := Paired.mapP pq fun q y z => NK.ev (sEv0 s5) _ _ z
      generalize est : (wl.filter fun y => decide (y.1.1 = low)).map (·.1) = stands at pq5
      have hst : ∀ y, y ∈ stands ↔ y ∈ wl.map (·.1) ∧ y.1 = low := fun y => by
        rw [← est]
        constructor
        · intro h
          obtain ⟨v, hv, rfl⟩ := List.mem_map.mp h
          have := List.mem_filter.mp hv
          exact ⟨List.mem_map.mpr ⟨v, this.1, rfl⟩, of_decide_eq_true this.2⟩
        · rintro ⟨h, e⟩
          obtain ⟨v, hv, rfl⟩ := List.mem_map.mp h
          exact List.mem_map.mpr ⟨v, List.mem_filter.mpr ⟨hv, decide_eq_true e⟩, rfl⟩
      have ndst : stands.Nodup := by
        rw [← est]
        exact rb.ndw.sublist (List.filter_sublist.map _)
      have lqs : (qs.map V.ref).length = stands.length := by rw [List.length_map]; exact Paired.length pq5
      have muWF : ∀ b ∈ [pW, fD], Mut (H5 b) := fun b hb => by
        have : b = pW ∨ b = fD := by simpa using hb
        rcases this with z | z
        · rw [z]; exact rb5.wai.mut
        · rw [z, rb5.fnd]; exact True.intro
      have LWF : L ∉ [pW, fD] := fun z => by
        have z : L = pW ∨ L = fD := by simpa using z
        rcases z with z | z
        · exact nLW z
        · rw [z, rb.fnd] at nL'; cases nL'
      refine ⟨L, rfl, ⟨_, SqL.of eL5⟩, ?_⟩
      refine for_list (K := K) (a := L) (xs := qs.map V.ref) (fun j σ H6 => ∃ fl wl o6 o7 o8, σ = [some (.ref p), some (.int n), some (.ref x), some (.ref pW), some (.ref fD), some (.int (low : Nat)), o6, o7, o8] ∧ Ev [pW, fD] H5 H6 ∧ RB P w K C H1 H6 x d tq pW fD c R kvs n low fl wl (fun _ => 0) ∧ ∀ y, (y ∈ wl.map (·.1) ∧ y.1 = low) ↔ y ∈ stands.drop j)
        ⟨fl, wl, _, _, _, rfl, Ev.refl' muWF, rb5, fun y => by rw [List.drop_zero]; exact (hst y).symm⟩ (fun j σ H6 _ h6 => ?_) (fun j v σ H6 hvj h6 => ?_) (fun σ H6 h6 => ?_)
      · obtain ⟨_, _, _, _, _, _, ev6, _⟩ := h6
        exact SqL.of (ev6.keep _ _ eL5 LWF)
      · obtain ⟨fl, wl, o6, o7, o8, rfl, ev6, rb6, hdr⟩ := h6
        have hj : j < stands.length := by
          have := lt_of_at hvj
          omega
        rw [List.getElem?_map] at hvj
        cases hq : qs[j]? with
        | none => rw [hq] at hvj; cases hvj
        | some q1 =>
        rw [hq] at hvj
        cases hvj
        obtain ⟨y, hy, hnk5⟩ := paired_get pq5 hq
        have ey : stands.drop j = y :: stands.drop (j + 1) := by
          rw [List.drop_eq_getElem_cons hj]
          congr 1
          have := (List.getElem?_eq_some_iff.mp hy).2
          exact this
        obtain ⟨hyw, hyl⟩ := (hdr y).mpr (by rw [ey]; exact List.mem_cons_self)
        have yno : y ∉ stands.drop (j + 1) := by
          have := ndst.sublist (List.drop_sublist j stands)
          rw [ey, List.nodup_cons] at this
          exact this.1
        obtain ⟨⟨y', t⟩, hyt, ey'⟩ := List.mem_map.mp hyw
        have ey' : y' = y := ey'
        subst ey'
        have hgt := getA_of_mem rb6.ndw hyt
        have t1 := rb6.wpos _ hyt
        obtain ⟨ky1, ky2, ky3, ky4⟩ := rb6.kn y' hyw
        have hnk6 := NK.ev ev6 _ _ hnk5
        refine ⟨_, rfl, pW, _, rfl, rb6.wai, _, rfl, q1, _, stK y', .int (t : Nat), rfl, rb6.wai, hnk6, keyOf_depth _ _, by rw [valV_enc stK_inj, hgt]; rfl, fun H7 hd7 => ?_⟩
        have hf7 : H7 fD = some (.dK (encL numK fl)) := hd7.ev.keep _ _ rb6.fnd (by simpa using Ne.symm rb6.nfw)
        have lfl : (encL numK fl).length < sizeLine := by
          rw [encL_len]
          have := rb6.flen
          exact small1000 (by omega)
        refine ⟨_, rfl, fD, rfl, .inl ⟨_, .inl hf7⟩, _, rfl, _, DGet.k (k := numK (low : Nat)) hf7, _, rfl, _, _, getD_enc numK_inj _ _, rfl, _, rfl, _, rfl, fD, _, rfl, DPut.k (k := numK (low : Nat)) hf7 lfl, ?_⟩
        have ep : putK (encL numK fl) (numK (low : Nat)) (.int (((getA fl (low : Nat)).getD 0 : Nat) + (t : Nat))) = encL numK (addA fl (low : Nat) t) := putK_enc numK_inj fl (low : Nat) t
        rw [ep]
        have rb7 := rb6.take hv.ok hgt hd7 (by omega)
        rw [hyl] at rb7
        have ev7 : Ev [pW, fD] H5 (upd H7 fD (.dK (encL numK (addA fl (low : Nat) t)))) := ⟨fun b o eb hb => by
          have hb' : b ≠ pW ∧ b ≠ fD := by simpa using hb
          rw [upd_ne hb'.2]
          exact hd7.ev.keep _ _ (ev6.keep _ _ eb hb) (by simpa using hb'.1), muWF⟩
        generalize upd H7 fD (.dK (encL numK (addA fl (low : Nat) t))) = H8 at rb7 ev7
        obtain ⟨dx8, hins8⟩ := rb7.eng.ins
        obtain ⟨rq, hval, hrun⟩ := rb7.eng.known ky1
        obtain ⟨_, xx, yy, zz, erq, hsq, _, _, hzz⟩ := nk_run hrun
        cases erq
        generalize eW : (run c y'.1 y'.2).wan = wan at hzz
        have rb7 : RB P w K C H1 H8 x d tq pW fD c R kvs n low (addA fl (low : Nat) t) (wl.filter fun z => decide (z.1 ≠ y')) (fun m => t * (wan.map fun z => rc c m z.1 z.2).sum) := by
          rw [← eW]
          have := rb7
          rw [← hyl] at this ⊢
          exact this
        cases hzz with
        | @tup a3 ws kks hsq3 hnks =>
        have lws : ws.length = wan.length := by
          have := nks_len hnks
          rwa [List.length_map] at this
        refine ⟨_, rfl, x, C, dx8, _, _, rfl, hins8, EC.cls, EC.n_known, rfl, _, rfl, d, q1, kvs, stK y', .ref rq, rfl, rfl, rb7.eng.nd, NK.ev ev7 _ _ hnk5, keyOf_depth _ _, hval, rq, _, 2, _, rfl, rfl, hsq, atI_nat (j := 2) rfl, a3, rfl, ⟨_, hsq3⟩, ?_⟩
        refine for_tup (K := K) (a := a3) (xs := ws) (fun k σ H9 => ∃ wl o8, σ = [some (.ref p), some (.int n), some (.ref x), some (.ref pW), some (.ref fD), some (.int (low : Nat)), some (.ref q1), some (.int (t : Nat)), o8] ∧ Ev [pW, fD] H5 H9 ∧ Ev [pW, fD] H8 H9 ∧
          RB P w K C H1 H9 x d tq pW fD c R kvs n low (addA fl (low : Nat) t) wl (fun m => t * ((wan.drop k).map fun z => rc c m z.1 z.2).sum) ∧ ∀ z, (z ∈ wl.map (·.1) ∧ z.1 = low) ↔ z ∈ stands.drop (j + 1))
          ⟨_, _, rfl, ev7, Ev.refl' (fun b hb => ?_), by rw [List.drop_zero]; exact rb7, fun z => ?_⟩ (fun k σ H9 _ h9 => ?_) (fun k v σ H9 hvk h9 => ?_) (fun σ H9 h9 => ?_)
        · have : b = pW ∨ b = fD := by simpa using hb
          rcases this with z | z
          · rw [z]; exact rb7.wai.mut
          · rw [z, rb7.fnd]; exact True.intro
        · have hz := hdr z
          rw [ey, List.mem_cons] at hz
          constructor
          · rintro ⟨h1, h2⟩
            obtain ⟨u, hu, rfl⟩ := List.mem_map.mp h1
            obtain ⟨hu1, hu2⟩ := List.mem_filter.mp hu
            rcases hz.mp ⟨List.mem_map.mpr ⟨u, hu1, rfl⟩, h2⟩ with q | q
            · exact absurd q (of_decide_eq_true hu2)
            · exact q
          · intro h
            obtain ⟨h1, h2⟩ := hz.mpr (.inr h)
            obtain ⟨u, hu, rfl⟩ := List.mem_map.mp h1
            refine ⟨List.mem_map.mpr ⟨u, List.mem_filter.mpr ⟨hu, decide_eq_true (fun q => yno (q ▸ h))⟩, rfl⟩, h2⟩
        · obtain ⟨_, _, _, _, ev8, _⟩ := h9
          exact ev8.sqT hsq3
        · obtain ⟨wl9, o8, rfl, ev9, ev8, rb9, hdr9⟩ := h9
          obtain ⟨key, hkey, hnv⟩ := nks_at hnks hvk
          rw [List.getElem?_map] at hkey
          cases hx9 : wan[k]? with
          | none => rw [hx9] at hkey; cases hkey
          | some u =>
          rw [hx9] at hkey
          cases hkey
          have hnv9 : NK K H9 (stK u) v := NK.ev ev8 _ _ hnv
          obtain ⟨b9, rfl⟩ : ∃ b, v = .ref b := by
            cases hnv9 with
            | tup _ _ => exact ⟨_, rfl⟩
          have hum : u ∈ (run c y'.1 y'.2).wan := by rw [eW]; exact List.mem_of_getElem? hx9
          obtain ⟨u1, u2, u3, u4⟩ := wan_lt hv.ok ky4 u hum
          have hkn : Kn kvs u.1 u.2 := rb9.eng.clo _ _ ky1 u hum
          have lwl : (encL stK wl9).length < sizeLine := by
            rw [encL_len]
            have h1 := rb9.wlen
            have h2 := rg.len
            exact Nat.lt_of_le_of_lt (by omega : wl9.length ≤ 16000000) (by decide)
          refine ⟨_, rfl, pW, _, rfl, rb9.wai, _, rfl, b9, _, stK u, rfl, rb9.wai, hnv9, keyOf_depth _ _, _, rfl, _, _, getD_enc stK_inj _ _, rfl, _, rfl, _, rfl, pW, b9, _, stK u, rfl, rfl, rb9.wai, hnv9, keyOf_depth _ _, lwl, fun H10 hp10 => ?_⟩
          have rb10 := rb9.wait (ex' := fun m => t * ((wan.drop (k + 1)).map fun z => rc c m z.1 z.2).sum) t1 ⟨hkn, u1, by omega, u4⟩ hp10 fun m => by
            have hk := lt_of_at hx9
            have h1 := List.drop_eq_getElem_cons hk
            have h2 : wan[k] = u := (List.getElem?_eq_some_iff.mp hx9).2
            rw [h1, h2, List.map_cons, List.sum_cons, Nat.mul_add]
          have ev10 : ∀ {Hx : Hp}, Ev [pW, fD] Hx H9 → Ev [pW, fD] Hx H10 := fun ev => ⟨fun b o eb hb => hp10.ev.keep _ _ (ev.keep _ _ eb hb) (fun z => hb (by simp at z; simp [z])), ev.mu⟩
          refine ⟨_, _, rfl, ev10 ev9, ev10 ev8, rb10, fun z => ?_⟩
          rw [← hdr9 z]
          constructor
          · rintro ⟨h1, h2⟩
            rcases mem_add h1 with q | q
            · exact ⟨q, h2⟩
            · rw [q] at h2; omega
          · rintro ⟨h1, h2⟩
            refine ⟨?_, h2⟩
            rw [keys_add]
            split
            · exact h1
            · exact List.mem_append_left _ h1
        · obtain ⟨wl9, o8, rfl, ev9, ev8, rb9, hdr9⟩ := h9
          refine ⟨_, wl9, _, _, _, rfl, ev9, rb9.enough fun m => ?_, hdr9⟩
          rw [lws, List.drop_length]
          simp
      · obtain ⟨fl, wl, o6, o7, o8, rfl, ev6, rb6, hdr⟩ := h6
        refine ⟨fl, wl, _, _, _, _, rfl, rb6.less fun y hy => ?_⟩
        have h1 := (rb6.kn y hy).2.2.1
        have h2 : y.1 ≠ low := fun z => by
          have := (hdr y).mp ⟨hy, z⟩
          rw [lqs, List.drop_length] at this
          exact nomatch this
        omega
  · obtain ⟨fl, wl, o5, o6, o7, o8, rfl, rb⟩ := h'
    have wl0 : wl = [] := by
      cases wl with
      | nil => rfl
      | cons y r =>
        have := rb.kn y.1 (by simp)
        omega
    subst wl0
    have sum0 : ∀ m : Int, (getA fl m).getD 0 = rc c m n [] := fun m => by
      have := rb.sum m
      rw [wsum_ind rb.ndf] at this
      simpa [wsum] using this
    have mem0 : ∀ m : Int, m ∈ fl.map (·.1) ↔ 1 ≤ rc c m n [] := fun m => by
      rw [← sum0 m]
      cases z : getA fl m with
      | none =>
        have := getA_none.mp z
        constructor
        · intro h; exact absurd h this
        · intro h; exact absurd h (by decide)
      | some t =>
        have := getA_mem z
        exact ⟨fun _ => rb.pos _ this, fun _ => List.mem_map.mpr ⟨_, this, rfl⟩⟩
    refine ⟨_, rfl, fD, _, fl.map (·.1), rfl, .inl rb.fnd, ?_, ?_, fun ys pp perm asc npp => ?_⟩
    · unfold encL
      rw [List.map_map, List.map_map]
      rfl
    · rw [List.length_map]
      have := rb.flen
      omega
    have ascS : ys.Pairwise (· < ·) := by
      have nd := perm.nodup_iff.mpr rb.ndf
      have := List.pairwise_and_iff.mpr ⟨asc, nd⟩
      exact this.imp fun ⟨h1, h2⟩ => by omega
    have memY : ∀ m, m ∈ ys ↔ 1 ≤ rc c m n [] := fun m => by rw [perm.mem_iff]; exact mem0 m
    refine ⟨pp, rfl, ⟨_, SqL.of upd_same⟩, fun L nL => ?_⟩
    have s2 : Same H' (upd H' pp (.lst (ys.map V.int))) := same_upd npp
    have ln : ys.length ≤ 64 := by
      have h1 := perm.length_eq
      rw [List.length_map] at h1
      have h2 := rb.flen
      omega
    have nLp : L ≠ pp := fun z => by rw [z, upd_same] at nL; cases nL
    refine lc_list (K := K) (a := pp) (xs := ys.map V.int) (fun i Hc => Same (upd H' pp (.lst (ys.map V.int))) Hc ∧ ∃ acc, Hc L = some (.lst acc) ∧ NKs K Hc (((ys.take i).map fun x => (x, ((rc c x n [] : Nat) : Int))).map fun x => .tup [.num x.1, .num x.2]) acc)
      ⟨same_upd nL, [], upd_same, .nil⟩ (fun i Hc _ hc => SqL.of (hc.1 _ _ upd_same)) (fun i v Hc hv hc => ?_) (fun Hc hc => ?_)
    · obtain ⟨sc, acc, eL, hn⟩ := hc
      rw [List.getElem?_map] at hv
      cases hy : ys[i]? with
      | none => rw [hy] at hv; cases hv
      | some y =>
      rw [hy] at hv
      cases hv
      have hfc := sc _ _ (s2 _ _ rb.fnd)
      obtain ⟨t, ht⟩ : ∃ t, getA fl y = some t := by
        cases z : getA fl y with
        | some t => exact ⟨t, rfl⟩
        | none =>
          have := (memY y).mp (List.mem_of_getElem? hy)
          rw [← mem0] at this
          exact absurd this (getA_none.mp z)
      have hrc : t = rc c y n [] := by rw [← sum0 y, ht]; rfl
      refine ⟨rfl, _, rfl, _, rfl, _, rfl, fD, .int (t : Nat), rfl, (show DGet Hc fD (.int y) (some (.int (t : Nat))) from ?_), le2, fun tt Hd sd hd => ⟨acc, sd _ _ eL, ?_, fun b o eb => ?_, acc ++ [.ref tt], upd_same, ?_⟩⟩
      · have := DGet.k (k := numK y) hfc
        rw [valV_enc numK_inj, ht] at this
        exact this
      · have := nks_len hn
        rw [this, List.length_map, List.length_map, List.length_take]
        exact small1000 (by omega)
      · rw [upd_ne (ne_of_none eb nL)]
        exact sd _ _ (sc _ _ eb)
      · have evL : Ev [L] Hd (upd Hd L (.lst (acc ++ [.ref tt]))) := ev_upd (by rw [sd _ _ eL]; exact True.intro)
        rw [take_snoc hy, List.map_append, List.map_append]
        refine nks_snoc (NKs.ev evL _ _ (NKs.ev (sEv0 sd) _ _ hn)) ?_
        refine .tup (evL.sqT hd) (.cons (.num _) (.cons ?_ .nil))
        rw [hrc]
        exact .num _
    · obtain ⟨sc, acc, eL, hn⟩ := hc
      rw [List.length_map, List.take_length] at hn
      refine q ys L Hc ascS (fun x => ⟨fun h => ⟨n1, (memY x).mp h⟩, fun h => (memY x).mpr h.2⟩) (fun b o eb => sc _ _ (s2 _ _ (rb.same _ _ (s1 _ _ eb)))) (.lst (SqL.of eL) (nks_pairs hn))
end
end Ag
namespace Ag
open PySem PySem.Spec PyProof.Rows L2
/-- what law(script) promises -/
def sp_law (K : PySem.W.Frag) : Sp := fun vs H Q _ => ∃ (a : Addr) (ns : List Int), vs = [.ref a] ∧ SqL K H a (ns.map V.int) ∧ ns.length ≤ 63 ∧ ∀ H', Q (.bl true) H'
theorem flat_prD (k : Nat) : ∀ l : List (Int × Int), flatTos (k + 1) (prD l) = true
  | [] => by unfold prD; rw [List.map_nil, flatTos]
  | x :: r => by
    have ih := flat_prD k r
    unfold prD at ih ⊢
    rw [List.map_cons, flatTos, ih, flatTo, flatTos, flatTos, flatTos]
    cases k <;> simp [flatTo]
section
variable {P : Program} {w : World} {K : PySem.W.Frag} {mg : Str → Option Value} {base : Heap}
theorem valid_reg8 {c : Cfg} (v : Valid c) : Reg c 8 8 (treesOf c 8) := reg_small v.ok v.l3 (by have := v.size; omega) (Nat.le_refl _) (by decide)
theorem ok_law {fa : Addr} {fd : FuncData} (F : Fun K "law" "law" s_law fa fd) (T : Txt K mg) (C_law_deck : Cal P w K mg base CX0 1 "_law_deck" sp_law_deck) (C_law_pick : Cal P w K mg base CX0 1 "_law_pick" sp_law_pick) (C_law_drawn : Cal P w K mg base CX0 2 "_law_drawn" (sp_law_drawn K))
    (C_law_same : Cal P w K mg base CX0 5 "_law_same" (sp_law_same K 2)) (C_law_log : Cal P w K mg base CX0 11 "_law_log" (sp_law_log K 8)) (C_runs_by : Cal P w K mg base CX0 22 "runs_by" (sp_runs_by K 8)) :
    FnOk P w K mg base CX0 23 fa fd ["script"] (sp_law K) := by
  refine F.ok sc_law (fun vs H Q E h => ?_) (fun cdv A outer s H vs Q E hr h => ?_)
  · obtain ⟨a, ns, rfl, _⟩ := h
    rfl
  obtain ⟨sc, ns, rfl, hS, hl, q⟩ := h
  refine ⟨_, (pss_cons (ps_for PassesOwn.never rfl (pi_list (pe_slice sl_list (pe_op op_catL (pe_lst (pa_cons pe_int pa_nil)) (pv 0)) po_none (po_some pe_int))) (pg_name (i := 1) sc_law.nd rfl (Or.inl rfl)) (pss_cons (ps_set (i := 2) sc_law.nd rfl (Or.inl rfl) (pe_c C_law_deck hr (by omega) (by rfl) (pa_cons (pv 1) (pa_cons pe_int pa_nil))))
    (pss_cons (ps_asg (pe_tupS (pa_cons (pe_c C_law_drawn hr (by omega) (by rfl) (pa_cons (pv 2) (pa_cons pe_int (pa_cons pe_int pa_nil)))) (pa_cons (pe_c C_law_pick hr (by omega) (by rfl) (pa_cons (pv 2) (pa_cons pe_int pa_nil))) (pa_cons pe_dnewK pa_nil)))) (pg_tup (by rfl) (pgs_cons (pg_name (i := 3) sc_law.nd rfl (Or.inl rfl)) (pgs_cons (pg_name (i := 4) sc_law.nd rfl (Or.inl rfl)) (pgs_cons (pg_name (i := 5) sc_law.nd rfl (Or.inr rfl)) pgs_nil)))))
    (pss_cons (ps_for PassesOwn.never rfl (pi_list (pe_ix ix_tup (pe_c C_law_log hr (by omega) (by rfl) (pa_cons (pv 3) (pa_cons (pv 4) pa_nil))) pe_int (fun _ _ => rfl))) (pg_tup (by rfl) (pgs_cons (pg_name (i := 6) sc_law.nd rfl (Or.inl rfl)) (pgs_cons (pg_name (i := 7) sc_law.nd rfl (Or.inl rfl)) pgs_nil))) (pss_one (ps_if (pt_cmpR op_eq (pv 7) pe_str (nomark _)) (pss_one (ps_dput (hu_of hr) (pv 5) (pv 6) (pe_op op_add (pe_dget2 (hu_of hr) (pv 5) (pv 6) pe_int ⟨rfl, rfl, rfl, rfl⟩) pe_int) rfl)) pss_nil)))
    (pss_one (ps_if (pt_not (pt_val (pe_c C_law_same hr (by omega) (by rfl) (pa_cons (pe_c C_runs_by hr (by omega) (by rfl) (pa_cons (pv 3) (pa_cons (pv 4) pa_nil))) (pa_cons (pe_lc (own := [("lower", 6)]) rfl sc_law.nd (pi_list (pe_callB (call_sortedDI rfl) (by rfl) T.b_sorted bo_sorted (pa_cons (pv 5) pa_nil))) (blkOk_by (own := [("lower", 6)]) (N := ["script", "cell", "deck", "setup", "number", "times", "lower", "what", "two"]) (sc := defScope s_law) (by decide +kernel)) (fun _ _ _ _ _ => (pg_name (i := 6) sc_law.nd rfl (Or.inl rfl))) (fun _ _ _ _ _ => pts_nil) (fun _ _ _ _ _ => (show PE _ _ (tTupS K _) from pe_tupS (pa_cons (pv 6) (pa_cons (pe_dget (hu_of hr) (pv 5) (pv 6) (fun _ _ => rfl)) pa_nil))))) pa_nil))))) (pss_one (ps_ret pe_bl)) pss_nil))))))
    (pss_cons (ps_set (i := 8) sc_law.nd rfl (Or.inl rfl) (pe_tupS (pa_cons (pe_tupS (pa_cons pe_int (pa_cons pe_int pa_nil))) (pa_cons pe_int (pa_cons pe_str pa_nil)))))
    (pss_one (ps_ret (pe_and (pe_cmpR (op_eqD hr.units) (pe_c C_runs_by hr (by omega) (by rfl) (pa_cons (pv 8) (pa_cons pe_int pa_nil))) (pe_lst (pa_cons (pe_tupS (pa_cons pe_int (pa_cons pe_int pa_nil))) (pa_cons (pe_tupS (pa_cons pe_int (pa_cons pe_int pa_nil))) (pa_cons (pe_tupS (pa_cons pe_int (pa_cons pe_int pa_nil))) (pa_cons (pe_tupS (pa_cons pe_int (pa_cons pe_int pa_nil))) pa_nil))))) (nomark _)) (pe_one (pe_cmpR (op_eqD hr.units) (pe_c C_runs_by hr (by omega) (by rfl) (pa_cons (pv 8) (pa_cons pe_int pa_nil))) (pe_lst pa_nil) (nomark _)))))))), ?_⟩
  refine ⟨by decide, fun z0 nz0 => ⟨_, rfl, z0, sc, _, _, rfl, rfl, SqL.of upd_same, (Same.seq (same_upd nz0) hS), ?_, fun z1 nz1 => ?_⟩⟩
  · rw [List.length_map]
    exact Nat.le_of_lt (small1000 (by show 1 + ns.length ≤ 1000; omega))
  refine ⟨8, rfl, z1, _, rfl, SqL.of upd_same, fun L nL => ?_⟩
  obtain ⟨cs, ecs, _⟩ := cut_ints (0 :: ns) none (some 8)
  have eL0 : [V.int 0] ++ ns.map V.int = (0 :: ns).map V.int := rfl
  rw [eL0, ecs]
  refine ⟨L, rfl, ⟨_, SqL.of upd_same⟩, for_list (K := K) (a := L) (xs := cs.map V.int) (fun i σ H' => ∃ o1 o2 o3 o4 o5 o6 o7, σ = [some (.ref sc), o1, o2, o3, o4, o5, o6, o7, none] ∧ H' L = some (.lst (cs.map V.int))) ⟨none, none, none, none, none, none, none, rfl, upd_same⟩ (fun i σ H' _ h' => ?_) (fun i x σ H' hx h' => ?_) (fun σ H' h' => ?_)⟩
  · obtain ⟨o1, o2, o3, o4, o5, o6, o7, _, e⟩ := h'
    exact SqL.of e
  · obtain ⟨o1, o2, o3, o4, o5, o6, o7, rfl, eL⟩ := h'
    obtain ⟨cell, rfl⟩ := at_ints hx
    refine ⟨_, rfl, cell, 4, rfl, by decide, by decide, fun a H1 s1 na d1 => ?_⟩
    refine ⟨_, rfl, a, 5, 6, 100, rfl, d1, by decide, by decide, by decide, by decide, by decide, fun p ps sz kd H2 ev2 d2 dr ok => ?_⟩
    refine ⟨_, rfl, a, 9, 107, rfl, d2, by decide, by decide, by decide, fun num H3 num0 num1 ev3 d3 => ?_⟩
    refine fun tD ntD => ⟨le3, fun tt H4 s4 h4 => ⟨tt, _, rfl, h4, rfl, _, _, rfl, _, _, rfl, _, _, rfl, rfl, ?_⟩⟩
    have hsu := (drawn_setup dr ok).ev ev3
    have hv := drawn_valid ok (Int.le_refl _) (Int.le_refl _)
    generalize cfgOf ps sz kd = c at hsu hv
    have rg := valid_reg8 hv
    obtain ⟨n, rfl⟩ : ∃ n : Nat, num = (n : Nat) := ⟨num.toNat, by omega⟩
    have hn8 : n ≤ 8 := by omega
    have na' : ∀ b o, H' b = some o → b ∉ [a] := fun b o eb => by simpa using ne_of_none eb na
    have s13 : Same H' H3 := fun b o eb => ev3.keep _ _ (ev2.keep _ _ (s1 _ _ eb) (na' b o eb)) (na' b o eb)
    have ntD' : H' tD = none := by
      cases z : H' tD with
      | none => rfl
      | some o => rw [s13 _ _ z] at ntD; cases ntD
    have s14 : Same H' H4 := s13.trans ((same_upd ntD).trans s4)
    have su4 := hsu.same ((same_upd ntD).trans s4)
    have hD4 : H4 tD = some (.dK []) := s4 _ _ upd_same
    refine ⟨_, rfl, _, rfl, p, (n : Nat), c, rfl, su4, hv.ok, hv.l3, by have := hv.size; omega, by omega, by decide, fun t ll st ws H5 s5 ht hll hlog hst => ?_⟩
    refine ⟨t, _, 0, .ref ll, rfl, rfl, ht, atI_nat (j := 0) rfl, ll, rfl, ⟨_, SqL.of hll⟩, ?_⟩
    have su5 := su4.same s5
    have hD5 := s5 _ _ hD4
    have s15 := s14.trans s5
    have cnt := fun m : Int => walk_rc hv.ok m 8 (n : Nat) [] (by omega) List.nodup_nil (Nat.zero_le _)
    have lw := walk_len hv.l3 8 (n : Nat) ([] : List Int)
    have l9841 : treeMax 8 = 9841 := by decide
    have erel : rel (n : Nat) [] = [] := rfl
    simp only [erel, Int.toNat_natCast, List.not_mem_nil, not_false_eq_true, and_true] at cnt
    generalize (walk c 8 (n : Nat) []).2 = log at hlog cnt lw
    have tDll : tD ≠ ll := fun z => by rw [← z, hD5] at hll; cases hll
    refine for_list (K := K) (a := ll) (xs := ws) (fun i σ H6 => ∃ fl o6 o7, σ = [some (.ref sc), some (.int cell), some (.ref a), some (.ref p), some (.int (n : Nat)), some (.ref tD), o6, o7, none] ∧ Ev [tD] H5 H6 ∧ H6 tD = some (.dK (encL numK fl)) ∧ (fl.map (·.1)).Nodup ∧ (∀ y ∈ fl, 1 ≤ y.2) ∧ fl.length ≤ i ∧ ∀ m, wsum (ind m) fl = (log.take i).count (m, Wh.run))
      ⟨[], o6, o7, rfl, Ev.refl' (fun b hb => ?_), hD5, List.nodup_nil, (fun _ h => nomatch h), Nat.le_refl _, fun m => rfl⟩ (fun i σ H6 _ h6 => ?_) (fun i x σ H6 hx h6 => ?_) (fun σ H6 h6 => ?_)
    · have : b = tD := by simpa using hb
      rw [this, hD5]
      exact True.intro
    · obtain ⟨_, _, _, _, ev6, _⟩ := h6
      exact SqL.of (ev6.keep _ _ hll (by simpa using tDll.symm))
    · obtain ⟨fl, o6, o7, rfl, ev6, hf, nd, pos, lf, sum⟩ := h6
      obtain ⟨m, k, tr, k1, rfl, k2⟩ := LogV.at hlog hx
      have hi := lt_of_at k1
      refine ⟨tr, _, rfl, ev6.sqT k2, rfl, _, _, rfl, _, _, rfl, rfl, ?_⟩
      refine ⟨_, rfl, rfl, _, rfl, ?_⟩
      have other : k ≠ .run → ∀ m', (log.take (i + 1)).count (m', Wh.run) = (log.take i).count (m', Wh.run) := fun hk m' => by
        rw [take_snoc k1, List.count_append, no_run m m' hk]
        rfl
      cases k with
      | kept => exact iteF ⟨fl, _, _, rfl, ev6, hf, nd, pos, by omega, fun m' => by rw [other (by decide) m']; exact sum m'⟩
      | base => exact iteF ⟨fl, _, _, rfl, ev6, hf, nd, pos, by omega, fun m' => by rw [other (by decide) m']; exact sum m'⟩
      | run =>
        refine iteT ⟨_, rfl, tD, rfl, .inl ⟨_, .inl hf⟩, _, rfl, _, DGet.k (k := numK m) hf, _, _, getD_enc numK_inj _ _, rfl, _, rfl, _, rfl, tD, _, rfl, DPut.k (k := numK m) hf ?_, ?_⟩
        · rw [encL_len]
          exact Nat.lt_of_le_of_lt (by omega : fl.length ≤ 9841) (by decide)
        have ep : putK (encL numK fl) (numK m) (.int (((getA fl m).getD 0 : Nat) + 1)) = encL numK (addA fl m 1) := putK_enc numK_inj fl m 1
        rw [ep]
        refine ⟨addA fl m 1, _, _, rfl, ⟨fun b o eb hb => ?_, ev6.mu⟩, upd_same, nodup_add nd _ _, pos_add pos _ (Nat.le_refl _), ?_, fun m' => ?_⟩
        · rw [upd_ne (show b ≠ tD by simpa using hb)]
          exact ev6.keep _ _ eb hb
        · have h1 := congrArg List.length (keys_add fl m 1)
          rw [List.length_map] at h1
          rw [h1]
          split
          · rw [List.length_map]; omega
          · rw [List.length_append, List.length_map]
            show _ + 1 ≤ _
            omega
        · rw [wsum_add (ind m') nd, sum m', take_snoc k1, List.count_append]
          unfold ind
          by_cases z : m = m'
          · rw [if_pos z, z]; simp
          · rw [if_neg z]
            simp [List.count_cons, z]
    · obtain ⟨fl, o6, o7, rfl, ev6, hf, nd, pos, lf, sum⟩ := h6
      have lws := LogV.len hlog
      rw [lws, List.take_length] at sum
      have sum0 : ∀ m : Int, (getA fl m).getD 0 = if 1 ≤ (n : Int) then rc c m n [] else 0 := fun m => by
        rw [← wsum_ind nd, sum m]
        exact cnt m
      have mem0 : ∀ m : Int, m ∈ fl.map (·.1) ↔ 1 ≤ n ∧ 1 ≤ rc c m n [] := fun m => by
        have h0 := sum0 m
        cases z : getA fl m with
        | none =>
          have h1 := getA_none.mp z
          rw [z] at h0
          constructor
          · intro h; exact absurd h h1
          · rintro ⟨h2, h3⟩
            rw [if_pos (by omega)] at h0
            have h0 : 0 = rc c m n [] := h0
            omega
        | some t =>
          have h1 := getA_mem z
          have h2 := pos _ h1
          rw [z] at h0
          have h0 : t = if 1 ≤ (n : Int) then rc c m n [] else 0 := h0
          refine ⟨fun _ => ?_, fun _ => List.mem_map.mpr ⟨_, h1, rfl⟩⟩
          have h2 : 1 ≤ t := h2
          by_cases y : 1 ≤ (n : Int)
          · rw [if_pos y] at h0
            exact ⟨by omega, by omega⟩
          · rw [if_neg y] at h0
            omega
      have s16 : Same H' H6 := fun b o eb => ev6.keep _ _ (s15 _ _ eb) (by simpa using ne_of_none eb ntD')
      have su6 := su5.ev ev6
      have lfl : fl.length ≤ 8 := by
        have h := nodup_len (a := fl.map (·.1)) (b := (List.range 8).map fun i => ((i + 1 : Nat) : Int)) nd fun k hk => by
          obtain ⟨h1, h2⟩ := (mem0 k).mp hk
          have := rc_range hv.ok n n [] (Nat.zero_le _) h1 h2
          exact List.mem_map.mpr ⟨(k - 1).toNat, List.mem_range.mpr (by omega), by omega⟩
        rwa [List.length_map, List.length_map, List.length_range] at h
      refine ⟨_, rfl, _, rfl, p, n, c, _, rfl, su6, hv, by omega, rg.less hn8, fun ys r H7 ascY memY s7 dpY => ?_⟩
      refine ⟨_, rfl, tD, _, fl.map (·.1), rfl, .inl (s7 _ _ hf), ?_, ?_, fun zs pp perm asc npp => ?_⟩
      · unfold encL
        rw [List.map_map, List.map_map]
        rfl
      · rw [List.length_map]
        omega
      have ascS : zs.Pairwise (· < ·) := by
        have nd := perm.nodup_iff.mpr nd
        have := List.pairwise_and_iff.mpr ⟨asc, nd⟩
        exact this.imp fun ⟨h1, h2⟩ => by omega
      have eyz : ys = zs := asc_eq ascY ascS fun m => by rw [memY, perm.mem_iff, mem0]
      subst eyz
      have s8 : Same H7 (upd H7 pp (.lst (ys.map V.int))) := same_upd npp
      have ln : ys.length ≤ 8 := by
        have h1 := perm.length_eq
        rw [List.length_map] at h1
        omega
      refine ⟨pp, rfl, ⟨_, SqL.of upd_same⟩, fun D nD => ?_⟩
      refine lc_list (K := K) (a := pp) (xs := ys.map V.int) (fun i Hc => Same (upd H7 pp (.lst (ys.map V.int))) Hc ∧ ∃ acc, Hc D = some (.lst acc) ∧ NKs K Hc (((ys.take i).map fun x => (x, ((rc c x n [] : Nat) : Int))).map fun x => .tup [.num x.1, .num x.2]) acc)
        ⟨same_upd nD, [], upd_same, .nil⟩ (fun i Hc _ hc => SqL.of (hc.1 _ _ upd_same)) (fun i v Hc hvi hc => ?_) (fun Hc hc => ?_)
      · obtain ⟨sc', acc, eD, hn⟩ := hc
        rw [List.getElem?_map] at hvi
        cases hy : ys[i]? with
        | none => rw [hy] at hvi; cases hvi
        | some y =>
        rw [hy] at hvi
        cases hvi
        have hfc := sc' _ _ (s8 _ _ (s7 _ _ hf))
        have hmy := (mem0 y).mp (perm.mem_iff.mp (List.mem_of_getElem? hy))
        obtain ⟨t, ht⟩ : ∃ t, getA fl y = some t := by
          cases z : getA fl y with
          | some t => exact ⟨t, rfl⟩
          | none => exact absurd ((mem0 y).mpr hmy) (getA_none.mp z)
        have hrc : t = rc c y n [] := by
          have := sum0 y
          rw [ht, if_pos (by omega)] at this
          exact this
        refine ⟨rfl, _, rfl, _, rfl, _, rfl, tD, .int (t : Nat), rfl, (show DGet Hc tD (.int y) (some (.int (t : Nat))) from ?_), le2, fun t2 Hd sd hd => ⟨acc, sd _ _ eD, ?_, fun b o eb => ?_, acc ++ [.ref t2], upd_same, ?_⟩⟩
        · have := DGet.k (k := numK y) hfc
          rw [valV_enc numK_inj, ht] at this
          exact this
        · have := nks_len hn
          rw [this, List.length_map, List.length_map, List.length_take]
          exact small1000 (by omega)
        · rw [upd_ne (ne_of_none eb nD)]
          exact sd _ _ (sc' _ _ eb)
        · have evD : Ev [D] Hd (upd Hd D (.lst (acc ++ [.ref t2]))) := ev_upd (by rw [sd _ _ eD]; exact True.intro)
          rw [take_snoc hy, List.map_append, List.map_append]
          refine nks_snoc (NKs.ev evD _ _ (NKs.ev (sEv0 sd) _ _ hn)) ?_
          refine .tup (evD.sqT hd) (.cons (.num _) (.cons ?_ .nil))
          rw [hrc]
          exact .num _
      · obtain ⟨sc', acc, eD, hn⟩ := hc
        rw [List.length_map, List.take_length] at hn
        refine ⟨_, _, _, rfl, Dp.same (s8.trans sc') _ _ dpY, .lst (SqL.of eD) (nks_pairs hn), by rw [flatTo]; exact flat_prD 0 _, fun H9 s9 => ⟨_, rfl, iteF ?_⟩⟩
        exact ⟨_, _, _, _, _, _, _, rfl, s9 _ _ (sc' _ _ (s8 _ _ (s7 _ _ (s16 _ _ eL))))⟩
  · obtain ⟨o1, o2, o3, o4, o5, o6, o7, rfl, eL⟩ := h'
    have v1 : Valid ⟨[1, 2], 2, .use⟩ := ⟨by decide, by decide, by decide, by decide⟩
    refine ⟨by decide, fun t1 H1 s1 e1 => ⟨le3, fun t2 H2 s2 e2 => ?_⟩⟩
    have su2 : SetupAt K H2 t2 ⟨[1, 2], 2, .use⟩ := ⟨t1, e2, Same.sqT s2 e1⟩
    refine ⟨_, rfl, t2, 4, _, _, rfl, su2, v1, by decide, (valid_reg8 v1).less (by decide), fun ys r H3 ascY memY s3 dpY => ?_⟩
    have k4 : ∀ x ∈ ([1, 2, 3, 4] : List Int), 1 ≤ rc ⟨[1, 2], 2, .use⟩ x 4 [] := by decide +kernel
    have eys : ys = [1, 2, 3, 4] := asc_eq ascY (by decide) fun x => by
      rw [memY]
      constructor
      · rintro ⟨_, h⟩
        have := rc_range v1.ok 4 4 [] (by decide) (by decide) h
        have h' : x = 1 ∨ x = 2 ∨ x = 3 ∨ x = 4 := by omega
        rcases h' with rfl | rfl | rfl | rfl <;> decide
      · intro h
        exact ⟨by decide, k4 x h⟩
    subst eys
    have er : (([1, 2, 3, 4] : List Int).map fun x => (x, ((rc ⟨[1, 2], 2, .use⟩ x 4 [] : Nat) : Int))) = [(1, 1), (2, 2), (3, 1), (4, 1)] := by decide +kernel
    rw [er] at dpY
    refine ⟨le2, fun a1 G1 r1 g1 => ⟨le2, fun a2 G2 r2 g2 => ⟨le2, fun a3 G3 r3 g3 => ⟨le2, fun a4 G4 r4 g4 => ⟨by show 4 ≤ sizeLine; decide, fun M nM => ?_⟩⟩⟩⟩⟩
    have m4 := same_upd (o := .lst [.ref a1, .ref a2, .ref a3, .ref a4]) nM
    have pr : ∀ (t : Addr) (x y : Int) (G : Hp), SqT K G t [.int x, .int y] → Dp K G (.ref t) (.tuple [.int x, .int y]) := fun t x y G h => .tup h (.cons (.int _) (.cons (.int _) .nil))
    have dpZ : Dp K (upd G4 M (.lst [.ref a1, .ref a2, .ref a3, .ref a4])) (.ref M) (.list (prD [(1, 1), (2, 2), (3, 1), (4, 1)])) :=
      .lst (SqL.of upd_same) (.cons (pr _ 1 1 _ (Same.sqT (r2.trans (r3.trans (r4.trans m4))) g1)) (.cons (pr _ 2 2 _ (Same.sqT (r3.trans (r4.trans m4)) g2)) (.cons (pr _ 3 1 _ (Same.sqT (r4.trans m4) g3)) (.cons (pr _ 4 1 _ (Same.sqT m4 g4)) .nil))))
    refine ⟨_, _, Dp.same (r1.trans (r2.trans (r3.trans (r4.trans m4)))) _ _ dpY, dpZ, rfl, rfl, _, rfl, iteT ?_⟩
    have su3 := su2.same (s3.trans (r1.trans (r2.trans (r3.trans (r4.trans m4)))))
    refine ⟨_, rfl, t2, 0, _, _, rfl, su3, v1, by decide, (valid_reg8 v1).less (by decide), fun zs r' H5 _ memZ s5 dpW => ?_⟩
    have ez : zs = [] := by
      cases zs with
      | nil => rfl
      | cons z zs =>
        have := ((memZ z).mp List.mem_cons_self).1
        omega
    subst ez
    exact ⟨by decide, fun N nN => ⟨_, .list [], Dp.same (same_upd nN) _ _ dpW, .lst (SqL.of upd_same) .nil, rfl, rfl, q _⟩⟩
end
end Ag
namespace Ag
open PySem PySem.Spec PyProof.Rows L2
/-! ### what the top has written -/
theorem all_mk {l : PySem.W.OpenLaw} {w : World} {K : PySem.W.Frag} {h : Heap} {mg : Str → Option Value} {fa : Addr} (X : K.In h) (G : h.Ns mainGlobals mg) (hfa : mg "law" = some (.ref fa))
    {C_Engine : Addr}
    {f0 : Addr} {od0 an0 : Option Addr} {sl0 : Array (Option Value)} {oc0 kV0 dc0 pm0 cd0 ct0 : Value}
    {f1 : Addr} {od1 an1 : Option Addr} {sl1 : Array (Option Value)} {oc1 kV1 dc1 pm1 cd1 ct1 : Value}
    {f2 : Addr} {od2 an2 : Option Addr} {sl2 : Array (Option Value)} {oc2 kV2 dc2 pm2 cd2 ct2 : Value}
    {f3 : Addr} {od3 an3 : Option Addr} {sl3 : Array (Option Value)} {oc3 kV3 dc3 pm3 cd3 ct3 : Value}
    {f4 : Addr} {od4 an4 : Option Addr} {sl4 : Array (Option Value)} {oc4 kV4 dc4 pm4 cd4 ct4 : Value}
    {f5 : Addr} {od5 an5 : Option Addr} {sl5 : Array (Option Value)} {oc5 kV5 dc5 pm5 cd5 ct5 : Value}
    {f6 : Addr} {od6 an6 : Option Addr} {sl6 : Array (Option Value)} {oc6 kV6 dc6 pm6 cd6 ct6 : Value}
    {f7 : Addr} {od7 an7 : Option Addr} {sl7 : Array (Option Value)} {oc7 kV7 dc7 pm7 cd7 ct7 : Value}
    {f8 : Addr} {od8 an8 : Option Addr} {sl8 : Array (Option Value)} {oc8 kV8 dc8 pm8 cd8 ct8 : Value}
    {f9 : Addr} {od9 an9 : Option Addr} {sl9 : Array (Option Value)} {oc9 kV9 dc9 pm9 cd9 ct9 : Value}
    {f10 : Addr} {od10 an10 : Option Addr} {sl10 : Array (Option Value)} {oc10 kV10 dc10 pm10 cd10 ct10 : Value}
    {f11 : Addr} {od11 an11 : Option Addr} {sl11 : Array (Option Value)} {oc11 kV11 dc11 pm11 cd11 ct11 : Value}
    {f12 : Addr} {od12 an12 : Option Addr} {sl12 : Array (Option Value)} {oc12 kV12 dc12 pm12 cd12 ct12 : Value}
    {f13 : Addr} {od13 an13 : Option Addr} {sl13 : Array (Option Value)} {oc13 kV13 dc13 pm13 cd13 ct13 : Value}
    {f14 : Addr} {od14 an14 : Option Addr} {sl14 : Array (Option Value)} {oc14 kV14 dc14 pm14 cd14 ct14 : Value}
    {f15 : Addr} {od15 an15 : Option Addr} {sl15 : Array (Option Value)} {oc15 kV15 dc15 pm15 cd15 ct15 : Value}
    {f16 : Addr} {od16 an16 : Option Addr} {sl16 : Array (Option Value)} {oc16 kV16 dc16 pm16 cd16 ct16 : Value}
    {f17 : Addr} {od17 an17 : Option Addr} {sl17 : Array (Option Value)} {oc17 kV17 dc17 pm17 cd17 ct17 : Value}
    {f18 : Addr} {od18 an18 : Option Addr} {sl18 : Array (Option Value)} {oc18 kV18 dc18 pm18 cd18 ct18 : Value}
    {f19 : Addr} {od19 an19 : Option Addr} {sl19 : Array (Option Value)} {oc19 kV19 dc19 pm19 cd19 ct19 : Value}
    {f20 : Addr} {od20 an20 : Option Addr} {sl20 : Array (Option Value)} {oc20 kV20 dc20 pm20 cd20 ct20 : Value}
    {f21 : Addr} {od21 an21 : Option Addr} {sl21 : Array (Option Value)} {oc21 kV21 dc21 pm21 cd21 ct21 : Value}
    {f22 : Addr} {od22 an22 : Option Addr} {sl22 : Array (Option Value)} {oc22 kV22 dc22 pm22 cd22 ct22 : Value}
    {f23 : Addr} {od23 an23 : Option Addr} {sl23 : Array (Option Value)} {oc23 kV23 dc23 pm23 cd23 ct23 : Value}
    {f24 : Addr} {od24 an24 : Option Addr} {sl24 : Array (Option Value)} {oc24 kV24 dc24 pm24 cd24 ct24 : Value}
    {f25 : Addr} {od25 an25 : Option Addr} {sl25 : Array (Option Value)} {oc25 kV25 dc25 pm25 cd25 ct25 : Value}
    {t_MOST_STEPS : Tok}
    {t_MOST_STEP : Tok}
    {t_MOST_SIZE : Tok}
    {t_MOST_NUMBER : Tok}
    {a_RULES : Addr} {j_RULES : Nat} {od_RULES : Option Addr} {sl_RULES : Array (Option Value)} {t_RULES0 t_RULES1 t_RULES2 : Tok}
    (aC_Engine : PySem.W.nsIn K mainGlobals "Engine" = some (some (.ref C_Engine))) (pg_Engine : PySem.W.plainGet K C_Engine Str.empty = true) (hd_Engine : PySem.W.hasDictIn K C_Engine = true) (po_Engine : PySem.W.plainOver K C_Engine = true) (sa_Engine : PySem.W.findIn K (.ref C_Engine) "__setattr__" = some (some (.builtin "object.__setattr__"))) (mk_Engine : PySem.W.makesIn K C_Engine = true) (kc_Engine : PySem.W.keepIn K (.ref C_Engine) = true)
    (na_Engine_steps : PySem.W.findIn K (.ref C_Engine) "steps" = some none)
    (na_Engine_size : PySem.W.findIn K (.ref C_Engine) "size" = some none)
    (na_Engine_rule : PySem.W.findIn K (.ref C_Engine) "rule" = some none)
    (na_Engine_known : PySem.W.findIn K (.ref C_Engine) "known" = some none)
    (a0 : PySem.W.nsIn K mainGlobals "is_from" = some (some (.ref f0))) (l0 : K.lookup f0 = some ⟨oc0, od0, .func (PySem.W.fnOf "is_from" "is_from" (defArgs s_is_from) (defBody s_is_from) (defScope s_is_from) .none kV0 dc0 pm0 an0 cd0 ct0), sl0⟩) (c0 : PySem.W.codeIn K cd0 "is_from" = true) (k0 : PySem.W.keepIn K (.ref f0) = true)
    (a1 : PySem.W.nsIn K mainGlobals "are_steps" = some (some (.ref f1))) (l1 : K.lookup f1 = some ⟨oc1, od1, .func (PySem.W.fnOf "are_steps" "are_steps" (defArgs s_are_steps) (defBody s_are_steps) (defScope s_are_steps) .none kV1 dc1 pm1 an1 cd1 ct1), sl1⟩) (c1 : PySem.W.codeIn K cd1 "are_steps" = true) (k1 : PySem.W.keepIn K (.ref f1) = true)
    (a2 : PySem.W.nsIn K mainGlobals "is_rule" = some (some (.ref f2))) (l2 : K.lookup f2 = some ⟨oc2, od2, .func (PySem.W.fnOf "is_rule" "is_rule" (defArgs s_is_rule) (defBody s_is_rule) (defScope s_is_rule) .none kV2 dc2 pm2 an2 cd2 ct2), sl2⟩) (c2 : PySem.W.codeIn K cd2 "is_rule" = true) (k2 : PySem.W.keepIn K (.ref f2) = true)
    (a3 : PySem.W.nsIn K mainGlobals "is_setup_of" = some (some (.ref f3))) (l3 : K.lookup f3 = some ⟨oc3, od3, .func (PySem.W.fnOf "is_setup_of" "is_setup_of" (defArgs s_is_setup_of) (defBody s_is_setup_of) (defScope s_is_setup_of) .none kV3 dc3 pm3 an3 cd3 ct3), sl3⟩) (c3 : PySem.W.codeIn K cd3 "is_setup_of" = true) (k3 : PySem.W.keepIn K (.ref f3) = true)
    (a4 : PySem.W.nsIn K mainGlobals "need_setup" = some (some (.ref f4))) (l4 : K.lookup f4 = some ⟨oc4, od4, .func (PySem.W.fnOf "need_setup" "need_setup" (defArgs s_need_setup) (defBody s_need_setup) (defScope s_need_setup) .none kV4 dc4 pm4 an4 cd4 ct4), sl4⟩) (c4 : PySem.W.codeIn K cd4 "need_setup" = true) (k4 : PySem.W.keepIn K (.ref f4) = true)
    (a5 : PySem.W.nsIn K mainGlobals "need_number" = some (some (.ref f5))) (l5 : K.lookup f5 = some ⟨oc5, od5, .func (PySem.W.fnOf "need_number" "need_number" (defArgs s_need_number) (defBody s_need_number) (defScope s_need_number) .none kV5 dc5 pm5 an5 cd5 ct5), sl5⟩) (c5 : PySem.W.codeIn K cd5 "need_number" = true) (k5 : PySem.W.keepIn K (.ref f5) = true)
    (a6 : PySem.W.nsIn K mainGlobals "turned" = some (some (.ref f6))) (l6 : K.lookup f6 = some ⟨oc6, od6, .func (PySem.W.fnOf "turned" "turned" (defArgs s_turned) (defBody s_turned) (defScope s_turned) .none kV6 dc6 pm6 an6 cd6 ct6), sl6⟩) (c6 : PySem.W.codeIn K cd6 "turned" = true) (k6 : PySem.W.keepIn K (.ref f6) = true)
    (a7 : PySem.W.nsIn K mainGlobals "restored" = some (some (.ref f7))) (l7 : K.lookup f7 = some ⟨oc7, od7, .func (PySem.W.fnOf "restored" "restored" (defArgs s_restored) (defBody s_restored) (defScope s_restored) .none kV7 dc7 pm7 an7 cd7 ct7), sl7⟩) (c7 : PySem.W.codeIn K cd7 "restored" = true) (k7 : PySem.W.keepIn K (.ref f7) = true)
    (a8 : PySem.W.nsIn K mainGlobals "added" = some (some (.ref f8))) (l8 : K.lookup f8 = some ⟨oc8, od8, .func (PySem.W.fnOf "added" "added" (defArgs s_added) (defBody s_added) (defScope s_added) .none kV8 dc8 pm8 an8 cd8 ct8), sl8⟩) (c8 : PySem.W.codeIn K cd8 "added" = true) (k8 : PySem.W.keepIn K (.ref f8) = true)
    (a9 : PySem.W.nsIn K mainGlobals "lowest" = some (some (.ref f9))) (l9 : K.lookup f9 = some ⟨oc9, od9, .func (PySem.W.fnOf "lowest" "lowest" (defArgs s_lowest) (defBody s_lowest) (defScope s_lowest) .none kV9 dc9 pm9 an9 cd9 ct9), sl9⟩) (c9 : PySem.W.codeIn K cd9 "lowest" = true) (k9 : PySem.W.keepIn K (.ref f9) = true)
    (a10 : PySem.W.nsIn K mainGlobals "cut" = some (some (.ref f10))) (l10 : K.lookup f10 = some ⟨oc10, od10, .func (PySem.W.fnOf "cut" "cut" (defArgs s_cut) (defBody s_cut) (defScope s_cut) .none kV10 dc10 pm10 an10 cd10 ct10), sl10⟩) (c10 : PySem.W.codeIn K cd10 "cut" = true) (k10 : PySem.W.keepIn K (.ref f10) = true)
    (a11 : PySem.W.nsIn K mainGlobals "runs_by" = some (some (.ref f11))) (l11 : K.lookup f11 = some ⟨oc11, od11, .func (PySem.W.fnOf "runs_by" "runs_by" (defArgs s_runs_by) (defBody s_runs_by) (defScope s_runs_by) .none kV11 dc11 pm11 an11 cd11 ct11), sl11⟩) (c11 : PySem.W.codeIn K cd11 "runs_by" = true) (k11 : PySem.W.keepIn K (.ref f11) = true)
    (a12 : PySem.W.nsIn K mainGlobals "_law_deck" = some (some (.ref f12))) (l12 : K.lookup f12 = some ⟨oc12, od12, .func (PySem.W.fnOf "_law_deck" "_law_deck" (defArgs s_law_deck) (defBody s_law_deck) (defScope s_law_deck) .none kV12 dc12 pm12 an12 cd12 ct12), sl12⟩) (c12 : PySem.W.codeIn K cd12 "_law_deck" = true) (k12 : PySem.W.keepIn K (.ref f12) = true)
    (a13 : PySem.W.nsIn K mainGlobals "_law_pick" = some (some (.ref f13))) (l13 : K.lookup f13 = some ⟨oc13, od13, .func (PySem.W.fnOf "_law_pick" "_law_pick" (defArgs s_law_pick) (defBody s_law_pick) (defScope s_law_pick) .none kV13 dc13 pm13 an13 cd13 ct13), sl13⟩) (c13 : PySem.W.codeIn K cd13 "_law_pick" = true) (k13 : PySem.W.keepIn K (.ref f13) = true)
    (a14 : PySem.W.nsIn K mainGlobals "_law_sort" = some (some (.ref f14))) (l14 : K.lookup f14 = some ⟨oc14, od14, .func (PySem.W.fnOf "_law_sort" "_law_sort" (defArgs s_law_sort) (defBody s_law_sort) (defScope s_law_sort) .none kV14 dc14 pm14 an14 cd14 ct14), sl14⟩) (c14 : PySem.W.codeIn K cd14 "_law_sort" = true) (k14 : PySem.W.keepIn K (.ref f14) = true)
    (a15 : PySem.W.nsIn K mainGlobals "_law_same" = some (some (.ref f15))) (l15 : K.lookup f15 = some ⟨oc15, od15, .func (PySem.W.fnOf "_law_same" "_law_same" (defArgs s_law_same) (defBody s_law_same) (defScope s_law_same) .none kV15 dc15 pm15 an15 cd15 ct15), sl15⟩) (c15 : PySem.W.codeIn K cd15 "_law_same" = true) (k15 : PySem.W.keepIn K (.ref f15) = true)
    (a16 : PySem.W.nsIn K mainGlobals "_law_drawn" = some (some (.ref f16))) (l16 : K.lookup f16 = some ⟨oc16, od16, .func (PySem.W.fnOf "_law_drawn" "_law_drawn" (defArgs s_law_drawn) (defBody s_law_drawn) (defScope s_law_drawn) .none kV16 dc16 pm16 an16 cd16 ct16), sl16⟩) (c16 : PySem.W.codeIn K cd16 "_law_drawn" = true) (k16 : PySem.W.keepIn K (.ref f16) = true)
    (a17 : PySem.W.nsIn K mainGlobals "_law_put" = some (some (.ref f17))) (l17 : K.lookup f17 = some ⟨oc17, od17, .func (PySem.W.fnOf "_law_put" "_law_put" (defArgs s_law_put) (defBody s_law_put) (defScope s_law_put) .none kV17 dc17 pm17 an17 cd17 ct17), sl17⟩) (c17 : PySem.W.codeIn K cd17 "_law_put" = true) (k17 : PySem.W.keepIn K (.ref f17) = true)
    (a18 : PySem.W.nsIn K mainGlobals "_law_ask" = some (some (.ref f18))) (l18 : K.lookup f18 = some ⟨oc18, od18, .func (PySem.W.fnOf "_law_ask" "_law_ask" (defArgs s_law_ask) (defBody s_law_ask) (defScope s_law_ask) .none kV18 dc18 pm18 an18 cd18 ct18), sl18⟩) (c18 : PySem.W.codeIn K cd18 "_law_ask" = true) (k18 : PySem.W.keepIn K (.ref f18) = true)
    (a19 : PySem.W.nsIn K mainGlobals "_law_world" = some (some (.ref f19))) (l19 : K.lookup f19 = some ⟨oc19, od19, .func (PySem.W.fnOf "_law_world" "_law_world" (defArgs s_law_world) (defBody s_law_world) (defScope s_law_world) .none kV19 dc19 pm19 an19 cd19 ct19), sl19⟩) (c19 : PySem.W.codeIn K cd19 "_law_world" = true) (k19 : PySem.W.keepIn K (.ref f19) = true)
    (a20 : PySem.W.nsIn K mainGlobals "_law_log" = some (some (.ref f20))) (l20 : K.lookup f20 = some ⟨oc20, od20, .func (PySem.W.fnOf "_law_log" "_law_log" (defArgs s_law_log) (defBody s_law_log) (defScope s_law_log) .none kV20 dc20 pm20 an20 cd20 ct20), sl20⟩) (c20 : PySem.W.codeIn K cd20 "_law_log" = true) (k20 : PySem.W.keepIn K (.ref f20) = true)
    (a21 : PySem.W.nsIn K mainGlobals "law" = some (some (.ref f21))) (l21 : K.lookup f21 = some ⟨oc21, od21, .func (PySem.W.fnOf "law" "law" (defArgs s_law) (defBody s_law) (defScope s_law) .none kV21 dc21 pm21 an21 cd21 ct21), sl21⟩) (c21 : PySem.W.codeIn K cd21 "law" = true) (k21 : PySem.W.keepIn K (.ref f21) = true)
    (a22 : PySem.W.findIn K (.ref C_Engine) "__init__" = some (some (.ref f22))) (j22 : PySem.W.isFn K (.ref f22) = true) (l22 : K.lookup f22 = some ⟨oc22, od22, .func (PySem.W.fnOf "__init__" "Engine.__init__" (defArgs s_Engine__init) (defBody s_Engine__init) (defScope s_Engine__init) .none kV22 dc22 pm22 an22 cd22 ct22), sl22⟩) (c22 : PySem.W.codeIn K cd22 "Engine.__init__" = true) (k22 : PySem.W.keepIn K (.ref f22) = true)
    (a23 : PySem.W.findIn K (.ref C_Engine) "answer" = some (some (.ref f23))) (j23 : PySem.W.isFn K (.ref f23) = true) (l23 : K.lookup f23 = some ⟨oc23, od23, .func (PySem.W.fnOf "answer" "Engine.answer" (defArgs s_Engine_answer) (defBody s_Engine_answer) (defScope s_Engine_answer) .none kV23 dc23 pm23 an23 cd23 ct23), sl23⟩) (c23 : PySem.W.codeIn K cd23 "Engine.answer" = true) (k23 : PySem.W.keepIn K (.ref f23) = true)
    (a24 : PySem.W.findIn K (.ref C_Engine) "run" = some (some (.ref f24))) (j24 : PySem.W.isFn K (.ref f24) = true) (l24 : K.lookup f24 = some ⟨oc24, od24, .func (PySem.W.fnOf "run" "Engine.run" (defArgs s_Engine_run) (defBody s_Engine_run) (defScope s_Engine_run) .none kV24 dc24 pm24 an24 cd24 ct24), sl24⟩) (c24 : PySem.W.codeIn K cd24 "Engine.run" = true) (k24 : PySem.W.keepIn K (.ref f24) = true)
    (a25 : PySem.W.findIn K (.ref C_Engine) "from_empty" = some (some (.ref f25))) (j25 : PySem.W.isFn K (.ref f25) = true) (l25 : K.lookup f25 = some ⟨oc25, od25, .func (PySem.W.fnOf "from_empty" "Engine.from_empty" (defArgs s_Engine_from_empty) (defBody s_Engine_from_empty) (defScope s_Engine_from_empty) .none kV25 dc25 pm25 an25 cd25 ct25), sl25⟩) (c25 : PySem.W.codeIn K cd25 "Engine.from_empty" = true) (k25 : PySem.W.keepIn K (.ref f25) = true)
    (z_ValueError : PySem.W.nsIn K mainGlobals "ValueError" = some none)
    (z_all : PySem.W.nsIn K mainGlobals "all" = some none)
    (z_bool : PySem.W.nsIn K mainGlobals "bool" = some none)
    (z_enumerate : PySem.W.nsIn K mainGlobals "enumerate" = some none)
    (z_int : PySem.W.nsIn K mainGlobals "int" = some none)
    (z_isinstance : PySem.W.nsIn K mainGlobals "isinstance" = some none)
    (z_len : PySem.W.nsIn K mainGlobals "len" = some none)
    (z_list : PySem.W.nsIn K mainGlobals "list" = some none)
    (z_max : PySem.W.nsIn K mainGlobals "max" = some none)
    (z_min : PySem.W.nsIn K mainGlobals "min" = some none)
    (z_range : PySem.W.nsIn K mainGlobals "range" = some none)
    (z_sorted : PySem.W.nsIn K mainGlobals "sorted" = some none)
    (z_str : PySem.W.nsIn K mainGlobals "str" = some none)
    (z_tuple : PySem.W.nsIn K mainGlobals "tuple" = some none)
    (z_zip : PySem.W.nsIn K mainGlobals "zip" = some none)
    (n_MOST_STEPS : PySem.W.nsIn K mainGlobals "MOST_STEPS" = some (some (.int (3) t_MOST_STEPS)))
    (n_MOST_STEP : PySem.W.nsIn K mainGlobals "MOST_STEP" = some (some (.int (5) t_MOST_STEP)))
    (n_MOST_SIZE : PySem.W.nsIn K mainGlobals "MOST_SIZE" = some (some (.int (6) t_MOST_SIZE)))
    (n_MOST_NUMBER : PySem.W.nsIn K mainGlobals "MOST_NUMBER" = some (some (.int (300) t_MOST_NUMBER)))
    (n_RULES : PySem.W.nsIn K mainGlobals "RULES" = some (some (.ref a_RULES))) (m_RULES : K.lookup a_RULES = some ⟨.type "tuple", od_RULES, .seq #[.str "low" t_RULES0, .str "put" t_RULES1, .str "use" t_RULES2] j_RULES, sl_RULES⟩)
    : ∃ fd : FuncData, (∀ (s : Shared) (v : Value), BindsTo s fd ⟨[v], []⟩ [("script", v)]) ∧ ∀ base : Heap, K.In base → base.Ns mainGlobals mg → FnOk l.prog w K mg base CX0 23 fa fd ["script"] (sp_law K) := by
  have e := hfa.symm.trans (PySem.W.mg_of X G a21)
  cases e
  have T : Txt K mg := { b_ValueError := PySem.W.mg_none_of X G z_ValueError, b_all := PySem.W.mg_none_of X G z_all, b_bool := PySem.W.mg_none_of X G z_bool, b_enumerate := PySem.W.mg_none_of X G z_enumerate, b_int := PySem.W.mg_none_of X G z_int, b_isinstance := PySem.W.mg_none_of X G z_isinstance, b_len := PySem.W.mg_none_of X G z_len, b_list := PySem.W.mg_none_of X G z_list, b_max := PySem.W.mg_none_of X G z_max, b_min := PySem.W.mg_none_of X G z_min, b_range := PySem.W.mg_none_of X G z_range, b_sorted := PySem.W.mg_none_of X G z_sorted, b_str := PySem.W.mg_none_of X G z_str, b_tuple := PySem.W.mg_none_of X G z_tuple, b_zip := PySem.W.mg_none_of X G z_zip, c_MOST_STEPS := ⟨_, PySem.W.mg_of X G n_MOST_STEPS, ⟨_, rfl⟩⟩, c_MOST_STEP := ⟨_, PySem.W.mg_of X G n_MOST_STEP, ⟨_, rfl⟩⟩, c_MOST_SIZE := ⟨_, PySem.W.mg_of X G n_MOST_SIZE, ⟨_, rfl⟩⟩, c_MOST_NUMBER := ⟨_, PySem.W.mg_of X G n_MOST_NUMBER, ⟨_, rfl⟩⟩, c_RULES := ⟨_, PySem.W.mg_of X G n_RULES, fun H => .inr ⟨_, _, _, m_RULES, rfl, rfl, by show 3 ≤ sizeLine; decide, (.cons ⟨_, rfl⟩ (.cons ⟨_, rfl⟩ (.cons ⟨_, rfl⟩ .nil)))⟩⟩ }
  have cls_Engine : Cls K C_Engine := ⟨pg_Engine, hd_Engine, po_Engine, sa_Engine⟩
  have F0 := fun_mk (st := s_is_from) l0 c0 k0
  have D_is_from : Def K mg "is_from" s_is_from ["value", "low", "high"] := ⟨f0, _, F0, PySem.W.mg_of X G a0, F0.binds (ps := ["value", "low", "high"]) fun _ _ _ _ _ _ us hl => match us, hl with | [_, _, _], _ => rfl⟩
  have F1 := fun_mk (st := s_are_steps) l1 c1 k1
  have D_are_steps : Def K mg "are_steps" s_are_steps ["value"] := ⟨f1, _, F1, PySem.W.mg_of X G a1, F1.binds (ps := ["value"]) fun _ _ _ _ _ _ us hl => match us, hl with | [_], _ => rfl⟩
  have F2 := fun_mk (st := s_is_rule) l2 c2 k2
  have D_is_rule : Def K mg "is_rule" s_is_rule ["value"] := ⟨f2, _, F2, PySem.W.mg_of X G a2, F2.binds (ps := ["value"]) fun _ _ _ _ _ _ us hl => match us, hl with | [_], _ => rfl⟩
  have F3 := fun_mk (st := s_is_setup_of) l3 c3 k3
  have D_is_setup_of : Def K mg "is_setup_of" s_is_setup_of ["value"] := ⟨f3, _, F3, PySem.W.mg_of X G a3, F3.binds (ps := ["value"]) fun _ _ _ _ _ _ us hl => match us, hl with | [_], _ => rfl⟩
  have F4 := fun_mk (st := s_need_setup) l4 c4 k4
  have D_need_setup : Def K mg "need_setup" s_need_setup ["value"] := ⟨f4, _, F4, PySem.W.mg_of X G a4, F4.binds (ps := ["value"]) fun _ _ _ _ _ _ us hl => match us, hl with | [_], _ => rfl⟩
  have F5 := fun_mk (st := s_need_number) l5 c5 k5
  have D_need_number : Def K mg "need_number" s_need_number ["value", "low", "high"] := ⟨f5, _, F5, PySem.W.mg_of X G a5, F5.binds (ps := ["value", "low", "high"]) fun _ _ _ _ _ _ us hl => match us, hl with | [_, _, _], _ => rfl⟩
  have F6 := fun_mk (st := s_turned) l6 c6 k6
  have D_turned : Def K mg "turned" s_turned ["store", "step"] := ⟨f6, _, F6, PySem.W.mg_of X G a6, F6.binds (ps := ["store", "step"]) fun _ _ _ _ _ _ us hl => match us, hl with | [_, _], _ => rfl⟩
  have F7 := fun_mk (st := s_restored) l7 c7 k7
  have D_restored : Def K mg "restored" s_restored ["store", "hidden", "step"] := ⟨f7, _, F7, PySem.W.mg_of X G a7, F7.binds (ps := ["store", "hidden", "step"]) fun _ _ _ _ _ _ us hl => match us, hl with | [_, _, _], _ => rfl⟩
  have F8 := fun_mk (st := s_added) l8 c8 k8
  have D_added : Def K mg "added" s_added ["one", "other"] := ⟨f8, _, F8, PySem.W.mg_of X G a8, F8.binds (ps := ["one", "other"]) fun _ _ _ _ _ _ us hl => match us, hl with | [_, _], _ => rfl⟩
  have F9 := fun_mk (st := s_lowest) l9 c9 k9
  have D_lowest : Def K mg "lowest" s_lowest ["store"] := ⟨f9, _, F9, PySem.W.mg_of X G a9, F9.binds (ps := ["store"]) fun _ _ _ _ _ _ us hl => match us, hl with | [_], _ => rfl⟩
  have F10 := fun_mk (st := s_cut) l10 c10 k10
  have D_cut : Def K mg "cut" s_cut ["store", "size", "rule"] := ⟨f10, _, F10, PySem.W.mg_of X G a10, F10.binds (ps := ["store", "size", "rule"]) fun _ _ _ _ _ _ us hl => match us, hl with | [_, _, _], _ => rfl⟩
  have F11 := fun_mk (st := s_runs_by) l11 c11 k11
  have D_runs_by : Def K mg "runs_by" s_runs_by ["setup", "number"] := ⟨f11, _, F11, PySem.W.mg_of X G a11, F11.binds (ps := ["setup", "number"]) fun _ _ _ _ _ _ us hl => match us, hl with | [_, _], _ => rfl⟩
  have F12 := fun_mk (st := s_law_deck) l12 c12 k12
  have D_law_deck : Def K mg "_law_deck" s_law_deck ["cell", "turn"] := ⟨f12, _, F12, PySem.W.mg_of X G a12, F12.binds (ps := ["cell", "turn"]) fun _ _ _ _ _ _ us hl => match us, hl with | [_, _], _ => rfl⟩
  have F13 := fun_mk (st := s_law_pick) l13 c13 k13
  have D_law_pick : Def K mg "_law_pick" s_law_pick ["deck", "limit"] := ⟨f13, _, F13, PySem.W.mg_of X G a13, F13.binds (ps := ["deck", "limit"]) fun _ _ _ _ _ _ us hl => match us, hl with | [_, _], _ => rfl⟩
  have F14 := fun_mk (st := s_law_sort) l14 c14 k14
  have D_law_sort : Def K mg "_law_sort" s_law_sort ["thing"] := ⟨f14, _, F14, PySem.W.mg_of X G a14, F14.binds (ps := ["thing"]) fun _ _ _ _ _ _ us hl => match us, hl with | [_], _ => rfl⟩
  have F15 := fun_mk (st := s_law_same) l15 c15 k15
  have D_law_same : Def K mg "_law_same" s_law_same ["told", "due"] := ⟨f15, _, F15, PySem.W.mg_of X G a15, F15.binds (ps := ["told", "due"]) fun _ _ _ _ _ _ us hl => match us, hl with | [_, _], _ => rfl⟩
  have F16 := fun_mk (st := s_law_drawn) l16 c16 k16
  have D_law_drawn : Def K mg "_law_drawn" s_law_drawn ["deck", "most", "high"] := ⟨f16, _, F16, PySem.W.mg_of X G a16, F16.binds (ps := ["deck", "most", "high"]) fun _ _ _ _ _ _ us hl => match us, hl with | [_, _, _], _ => rfl⟩
  have F17 := fun_mk (st := s_law_put) l17 c17 k17
  have D_law_put : Def K mg "_law_put" s_law_put ["world", "number"] := ⟨f17, _, F17, PySem.W.mg_of X G a17, F17.binds (ps := ["world", "number"]) fun _ _ _ _ _ _ us hl => match us, hl with | [_, _], _ => rfl⟩
  have F18 := fun_mk (st := s_law_ask) l18 c18 k18
  have D_law_ask : Def K mg "_law_ask" s_law_ask ["world", "number"] := ⟨f18, _, F18, PySem.W.mg_of X G a18, F18.binds (ps := ["world", "number"]) fun _ _ _ _ _ _ us hl => match us, hl with | [_, _], _ => rfl⟩
  have F19 := fun_mk (st := s_law_world) l19 c19 k19
  have D_law_world : Def K mg "_law_world" s_law_world ["setup"] := ⟨f19, _, F19, PySem.W.mg_of X G a19, F19.binds (ps := ["setup"]) fun _ _ _ _ _ _ us hl => match us, hl with | [_], _ => rfl⟩
  have F20 := fun_mk (st := s_law_log) l20 c20 k20
  have D_law_log : Def K mg "_law_log" s_law_log ["setup", "number"] := ⟨f20, _, F20, PySem.W.mg_of X G a20, F20.binds (ps := ["setup", "number"]) fun _ _ _ _ _ _ us hl => match us, hl with | [_, _], _ => rfl⟩
  have F21 := fun_mk (st := s_law) l21 c21 k21
  have F22 := fun_mk (st := s_Engine__init) l22 c22 k22
  have D_Engine__init : DefC K mg C_Engine "Engine" "Engine.__init__" s_Engine__init ["self", "setup"] := ⟨f22, _, ⟨mk_Engine, a22, j22, kc_Engine⟩, F22, PySem.W.mg_of X G aC_Engine, F22.binds (ps := ["self", "setup"]) fun _ _ _ _ _ _ us hl => match us, hl with | [_, _], _ => rfl⟩
  have F23 := fun_mk (st := s_Engine_answer) l23 c23 k23
  have D_Engine_answer : DefM K C_Engine "answer" "Engine.answer" s_Engine_answer ["self", "number", "store"] := ⟨f23, _, cls_Engine, ⟨a23, j23, k23⟩, F23, F23.binds (ps := ["self", "number", "store"]) fun _ _ _ _ _ _ us hl => match us, hl with | [_, _, _], _ => rfl⟩
  have F24 := fun_mk (st := s_Engine_run) l24 c24 k24
  have D_Engine_run : DefM K C_Engine "run" "Engine.run" s_Engine_run ["self", "number", "store"] := ⟨f24, _, cls_Engine, ⟨a24, j24, k24⟩, F24, F24.binds (ps := ["self", "number", "store"]) fun _ _ _ _ _ _ us hl => match us, hl with | [_, _, _], _ => rfl⟩
  have F25 := fun_mk (st := s_Engine_from_empty) l25 c25 k25
  have D_Engine_from_empty : DefM K C_Engine "from_empty" "Engine.from_empty" s_Engine_from_empty ["self", "number"] := ⟨f25, _, cls_Engine, ⟨a25, j25, k25⟩, F25, F25.binds (ps := ["self", "number"]) fun _ _ _ _ _ _ us hl => match us, hl with | [_, _], _ => rfl⟩
  refine ⟨PySem.W.fnOf "law" "law" (defArgs s_law) (defBody s_law) (defScope s_law) .none kV21 dc21 pm21 an21 cd21 ct21, fun s v => .of_eq rfl, fun base _ _ => ?_⟩
  have EC := (⟨cls_Engine, na_Engine_steps, na_Engine_size, na_Engine_rule, na_Engine_known⟩ : EngCls K C_Engine)
  have C1 := ok_is_from (P := l.prog) (w := w) (base := base) D_is_from T
  have C2 := ok_is_rule (P := l.prog) (w := w) (base := base) D_is_rule T
  have C3 := ok_are_steps (P := l.prog) (w := w) (base := base) D_are_steps T C1
  have C4 := ok_is_setup_of (P := l.prog) (w := w) (base := base) D_is_setup_of T C1 C2 C3
  have C5 := ok_need_setup (P := l.prog) (w := w) (base := base) D_need_setup T C4
  have C6 := ok_need_number (P := l.prog) (w := w) (base := base) D_need_number T C1
  have C7 := ok_turned (P := l.prog) (w := w) (base := base) D_turned T
  have C8 := ok_restored (P := l.prog) (w := w) (base := base) D_restored T
  have C9 := ok_added (P := l.prog) (w := w) (base := base) D_added T
  have C10 := ok_lowest (P := l.prog) (w := w) (base := base) D_lowest T
  have C11 := ok_cut (P := l.prog) (w := w) (base := base) D_cut T C10
  have C12 := ok_init (P := l.prog) (w := w) (base := base) EC D_Engine__init T
  have C13 := ok_engine (P := l.prog) (w := w) (base := base) EC D_Engine_answer D_Engine_run T C7 C8 C9 C11 8
  have C14 := ok_from_empty (P := l.prog) (w := w) (base := base) D_Engine_from_empty T 8 C13
  have C15 := ok_runs_by (P := l.prog) (w := w) (base := base) EC D_runs_by T 8 C5 C6 C12 C14
  have C17 := ok_law_deck (P := l.prog) (w := w) (base := base) D_law_deck T
  have C18 := ok_law_pick (P := l.prog) (w := w) (base := base) D_law_pick T
  have C19 := ok_law_drawn (P := l.prog) (w := w) (base := base) D_law_drawn T C18
  have C20 := ok_law_sort (P := l.prog) (w := w) (base := base) D_law_sort T
  have C21 := ok_law_same (P := l.prog) (w := w) (base := base) D_law_same T C20 2
  have C22 := ok_law_put (P := l.prog) (w := w) (base := base) D_law_put T
  have C23 := ok_law_ask (P := l.prog) (w := w) (base := base) D_law_ask T C22 8
  have C24 := ok_law_world (P := l.prog) (w := w) (base := base) D_law_world T
  have C25 := ok_law_log (P := l.prog) (w := w) (base := base) D_law_log T 8 C24 C23
  exact ok_law F21 T C17 C18 C19 C21 C25 C15
end Ag
open PySem PySem.W PyProof.Rows
set_option maxHeartbeats 0 in
theorem PySem.Challenge.cw_askagain_k04_what_is_run_how_often_holds : PySem.Challenge.rw_askagain_k04_what_is_run_how_often.Holds := by
  w_on; o_law; k_head; (case hw => w_witness2)
  k_fill
  refine L2.walk_of (l := PySem.Challenge.rw_askagain_k04_what_is_run_how_often) (n := 63) (k := 23) (x := "script") (CX := fun _ => L2.CX0) (sp := fun w => Ag.sp_law _) rfl (by decide) rfl ⟨rfl, by decide, by decide⟩ (fun w h Y => PySem.W.kIn_of Y) ?F (fun _ _ a ns hl _ hS => ⟨a, ns, rfl, hS, hl, fun _ => rfl⟩) (fun _ _ _ _ _ h => h)
  case F =>
    intro w mg fa h KX G hmg
    refine' Ag.all_mk KX G hmg ?aC_Engine ?pg_Engine ?hd_Engine ?po_Engine ?sa_Engine ?mk_Engine ?kc_Engine ?na_Engine_steps ?na_Engine_size ?na_Engine_rule ?na_Engine_known ?a0 ?l0 ?c0 ?k0 ?a1 ?l1 ?c1 ?k1 ?a2 ?l2 ?c2 ?k2 ?a3 ?l3 ?c3 ?k3 ?a4 ?l4 ?c4 ?k4 ?a5 ?l5 ?c5 ?k5 ?a6 ?l6 ?c6 ?k6 ?a7 ?l7 ?c7 ?k7 ?a8 ?l8 ?c8 ?k8 ?a9 ?l9 ?c9 ?k9 ?a10 ?l10 ?c10 ?k10 ?a11 ?l11 ?c11 ?k11 ?a12 ?l12 ?c12 ?k12 ?a13 ?l13 ?c13 ?k13 ?a14 ?l14 ?c14 ?k14 ?a15 ?l15 ?c15 ?k15 ?a16 ?l16 ?c16 ?k16 ?a17 ?l17 ?c17 ?k17 ?a18 ?l18 ?c18 ?k18 ?a19 ?l19 ?c19 ?k19 ?a20 ?l20 ?c20 ?k20 ?a21 ?l21 ?c21 ?k21 ?a22 ?j22 ?l22 ?c22 ?k22 ?a23 ?j23 ?l23 ?c23 ?k23 ?a24 ?j24 ?l24 ?c24 ?k24 ?a25 ?j25 ?l25 ?c25 ?k25 ?z_ValueError ?z_all ?z_bool ?z_enumerate ?z_int ?z_isinstance ?z_len ?z_list ?z_max ?z_min ?z_range ?z_sorted ?z_str ?z_tuple ?z_zip ?n_MOST_STEPS ?n_MOST_STEP ?n_MOST_SIZE ?n_MOST_NUMBER ?n_RULES ?m_RULES
    (case aC_Engine => k_is)
    (case pg_Engine => k_is)
    (case hd_Engine => k_is)
    (case po_Engine => k_is)
    (case sa_Engine => k_is)
    (case mk_Engine => k_is)
    (case kc_Engine => k_is)
    (case na_Engine_steps => k_is)
    (case na_Engine_size => k_is)
    (case na_Engine_rule => k_is)
    (case na_Engine_known => k_is)
    (case a0 => k_is)
    (case l0 => k_is)
    (case c0 => k_is)
    (case k0 => k_is)
    (case a1 => k_is)
    (case l1 => k_is)
    (case c1 => k_is)
    (case k1 => k_is)
    (case a2 => k_is)
    (case l2 => k_is)
    (case c2 => k_is)
    (case k2 => k_is)
    (case a3 => k_is)
    (case l3 => k_is)
    (case c3 => k_is)
    (case k3 => k_is)
    (case a4 => k_is)
    (case l4 => k_is)
    (case c4 => k_is)
    (case k4 => k_is)
    (case a5 => k_is)
    (case l5 => k_is)
    (case c5 => k_is)
    (case k5 => k_is)
    (case a6 => k_is)
    (case l6 => k_is)
    (case c6 => k_is)
    (case k6 => k_is)
    (case a7 => k_is)
    (case l7 => k_is)
    (case c7 => k_is)
    (case k7 => k_is)
    (case a8 => k_is)
    (case l8 => k_is)
    (case c8 => k_is)
    (case k8 => k_is)
    (case a9 => k_is)
    (case l9 => k_is)
    (case c9 => k_is)
    (case k9 => k_is)
    (case a10 => k_is)
    (case l10 => k_is)
    (case c10 => k_is)
    (case k10 => k_is)
    (case a11 => k_is)
    (case l11 => k_is)
    (case c11 => k_is)
    (case k11 => k_is)
    (case a12 => k_is)
    (case l12 => k_is)
    (case c12 => k_is)
    (case k12 => k_is)
    (case a13 => k_is)
    (case l13 => k_is)
    (case c13 => k_is)
    (case k13 => k_is)
    (case a14 => k_is)
    (case l14 => k_is)
    (case c14 => k_is)
    (case k14 => k_is)
    (case a15 => k_is)
    (case l15 => k_is)
    (case c15 => k_is)
    (case k15 => k_is)
    (case a16 => k_is)
    (case l16 => k_is)
    (case c16 => k_is)
    (case k16 => k_is)
    (case a17 => k_is)
    (case l17 => k_is)
    (case c17 => k_is)
    (case k17 => k_is)
    (case a18 => k_is)
    (case l18 => k_is)
    (case c18 => k_is)
    (case k18 => k_is)
    (case a19 => k_is)
    (case l19 => k_is)
    (case c19 => k_is)
    (case k19 => k_is)
    (case a20 => k_is)
    (case l20 => k_is)
    (case c20 => k_is)
    (case k20 => k_is)
    (case a21 => k_is)
    (case l21 => k_is)
    (case c21 => k_is)
    (case k21 => k_is)
    (case a22 => k_is)
    (case j22 => k_is)
    (case l22 => k_is)
    (case c22 => k_is)
    (case k22 => k_is)
    (case a23 => k_is)
    (case j23 => k_is)
    (case l23 => k_is)
    (case c23 => k_is)
    (case k23 => k_is)
    (case a24 => k_is)
    (case j24 => k_is)
    (case l24 => k_is)
    (case c24 => k_is)
    (case k24 => k_is)
    (case a25 => k_is)
    (case j25 => k_is)
    (case l25 => k_is)
    (case c25 => k_is)
    (case k25 => k_is)
    (case z_ValueError => k_is)
    (case z_all => k_is)
    (case z_bool => k_is)
    (case z_enumerate => k_is)
    (case z_int => k_is)
    (case z_isinstance => k_is)
    (case z_len => k_is)
    (case z_list => k_is)
    (case z_max => k_is)
    (case z_min => k_is)
    (case z_range => k_is)
    (case z_sorted => k_is)
    (case z_str => k_is)
    (case z_tuple => k_is)
    (case z_zip => k_is)
    (case n_MOST_STEPS => k_is)
    (case n_MOST_STEP => k_is)
    (case n_MOST_SIZE => k_is)
    (case n_MOST_NUMBER => k_is)
    (case n_RULES => k_is)
    (case m_RULES => k_is)
