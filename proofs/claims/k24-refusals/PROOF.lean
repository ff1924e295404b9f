import PyProof.Rows.All
import Wide.All
import OpenK.AllK
import Wide.FinOn
import HandS.ForMost
import HandS.Lambda
import HandS.TryMany
import HandS.CallSlots
import HandS.Keys
import HandS.Nested
import PyProof.CodeObjX
import HandS.TupAny
import KE.SortData
import HandS.StrMore
import HandS.More
import HandS.Style
import HandS.ForExc
import HandS.Walk
import HandS.Small
import HandS.RaiseMore
import HandS.Sort
import PyProof.SumWalkG
import PyProof.Rows.SumGenD
import HandS.Defaults
import HandS.HeadHook4
import HandS.HeadWalk
import HandS.WordsExc
import HandS.Conv
import HandS.EndTab
import HandS.Head0
import HandS.Head1
import HandS.Head2
import HandS.HeadEnd
import HandS.GenList
import HandS.AnyAll
import HandS.MapSum
import PyProof.SumAny
import HandS.ListItems
import HandS.DictComp
import HandS.TupSets
import HandS.DictTup
import KE.DataMinMax
import PyProof.MinMaxWalk
import HandS.Zip
import KE.DataMinKey
import HandS.SortKw
import HandS.Flt
import PyProof.ListMulRoad
import HandS.Text
import HandS.List
import KE.SortKeyHeap
import KE.KDictSum
import KE.KTupSum
import HandS.TryOnly
import KE.DataFind
import PyProof.Rows.SortShellAny
import PyProof.ListStr
import PyProof.EqKinds
import KE.KEqDict
import PyProof.SeqIndex
import PyProof.StrOps2
import KE.KDictPairs
import PyProof.DictMoreH
import HandS.TupLen
import HandS.ReplaceLit
import KE.GoesZip
import KE.GoesMore
import HandS.Rev
import HandS.MapJoin
import PyProof.Rows.SortShell
import PyProof.MaxThree
import KE.KExcSuper
import HandS.ExcSuper
import HandS.SuiteRaise
import HandS.ExcIs
import PyProof.StrLawsIn
import PySem.Challenge.RW_shoehall_k24_refusals_apart
set_option Elab.async false
set_option linter.all false
set_option autoImplicit true
set_option maxRecDepth 100000
set_option maxHeartbeats 2000000
/-! code objects with tables of their own: what is made inside a lambda -/
namespace Ev
open PySem PySem.Spec PyProof.Rows L2 LamX
/-- the code object at c bears the name q, its own table stands at P -/
def CodeT (c P : Addr) (q : Str) : HO := .ext fun h => (∃ (oc : Obj) (vs : Array Value) (t : Tok), h.get? c = some oc ∧ oc.data = .fields vs ∧ vs[1]? = some (.str q t)) ∧ PySem.W.CodeHd h c P
theorem codeT_ne {c P : Addr} {q : Str} (ps : Array Value) : CodeT c P q ≠ .tbl ps := fun z => by
  unfold CodeT at z
  cases z
section
variable {mg : Str → Option Value} {T : List (Addr × Str)} {H H' : Hp}
/-- a code object's own table: kept in order, of no known names -/
def InT (mg : Str → Option Value) (T : List (Addr × Str)) (H : Hp) (P : Addr) : Prop := ∃ ps : Array Value, H P = some (.tbl ps) ∧ TriplesOk ps.toList ∧ mainGlobals ≠ P ∧ (∀ bm, mg "__builtins__" = some (.ref bm) → bm ≠ P) ∧ ∀ p ∈ T, p.2 ≠ "" → p.1 ≠ P
/-- rows of generator expressions that stand in a def with lambdas of its own -/
def genLines : List Nat := [118]
def genAt (pos : Pos) : Bool := genLines.contains pos.line
def TbT (mg : Str → Option Value) (T : List (Addr × Str)) (H : Hp) (P : Addr) (q : Str) : Prop := ∃ ps : Array Value, H P = some (.tbl ps) ∧ TriplesOk ps.toList ∧ ∀ (pos : Pos) (cv : Value), codeAmong pos ps.toList = some cv → ∃ c P' q', cv = .ref c ∧ H c = some (CodeT c P' q') ∧ InT mg T H P' ∧ (genAt pos = false → q' = q)
def TbS (mg : Str → Option Value) (T : List (Addr × Str)) (H : Hp) (c : Addr) : Prop := ∃ P q, H c = some (CodeT c P q) ∧ InT mg T H P
/-- the tables of T, each with the name of what it tells; no name: a code object that has a table of its own -/
def Tb (mg : Str → Option Value) (T : List (Addr × Str)) (H : Hp) : Prop := ∀ p ∈ T, (p.2 = "" → TbS mg T H p.1) ∧ (p.2 ≠ "" → TbT mg T H p.1 p.2)
theorem InT.ext {P : Addr} (h : InT mg T H P) (e : ∀ b o, H b = some o → H' b = some o) : InT mg T H' P := by
  obtain ⟨ps, a, r⟩ := h
  exact ⟨ps, e _ _ a, r⟩
theorem Tb.ext (t : Tb mg T H) (e : ∀ b o, H b = some o → H' b = some o) : Tb mg T H' := fun p hp => ⟨fun z => by
  obtain ⟨P, q, a, b⟩ := (t p hp).1 z
  exact ⟨P, q, e _ _ a, b.ext e⟩, fun z => by
  obtain ⟨ps, a, b, r⟩ := (t p hp).2 z
  exact ⟨ps, e _ _ a, b, fun pos cv hc => by
    obtain ⟨c, P', q', e1, e2, e3, e4⟩ := r pos cv hc
    exact ⟨c, P', q', e1, e _ _ e2, e3.ext e, e4⟩⟩⟩
/-- what is no table and no code object may be written -/
theorem Tb.upd {d : Addr} {o o' : HO} (t : Tb mg T H) (hd : H d = some o') (n1 : ∀ ps, o' ≠ .tbl ps) (n2 : ∀ φ, o' ≠ .ext φ) : Tb mg T (upd H d o) := by
  have e1 : ∀ {b : Addr} {ps : Array Value}, H b = some (.tbl ps) → L2.upd H d o b = some (.tbl ps) := fun {b ps} e => by
    rw [upd_ne]
    · exact e
    · rintro rfl
      rw [hd] at e
      exact n1 _ (Option.some.inj e)
  have e2 : ∀ {b c P : Addr} {q : Str}, H b = some (CodeT c P q) → L2.upd H d o b = some (CodeT c P q) := fun {b c P q} e => by
    rw [upd_ne]
    · exact e
    · rintro rfl
      rw [hd] at e
      exact n2 _ (Option.some.inj e)
  have e3 : ∀ {P : Addr}, InT mg T H P → InT mg T (L2.upd H d o) P := fun {P} ⟨ps, a, r⟩ => ⟨ps, e1 a, r⟩
  exact fun p hp => ⟨fun z => by
    obtain ⟨P, q, a, b⟩ := (t p hp).1 z
    exact ⟨P, q, e2 a, e3 b⟩, fun z => by
    obtain ⟨ps, a, b, r⟩ := (t p hp).2 z
    exact ⟨ps, e1 a, b, fun pos cv hc => by
      obtain ⟨c, P', q', h1, h2, h3, h4⟩ := r pos cv hc
      exact ⟨c, P', q', h1, e2 h2, e3 h3, h4⟩⟩⟩
abbrev addH (H : Hp) (P c' P2 : Addr) (ps : Array Value) (pos : Pos) (q : Str) : Hp := L2.upd (L2.upd (L2.upd H P (.tbl (ps ++ #[rawInt pos.line, rawInt pos.col, .ref c']))) c' (CodeT c' P2 q)) P2 (.tbl #[])
/-- a code object more in the table at P -/
theorem tb_add {P c' P2 : Addr} {ps : Array Value} {pos : Pos} {q : Str} (hT : Tb mg T H) (hP : H P = some (.tbl ps)) (ht : TriplesOk ps.toList) (nC : H c' = none) (nP : H P2 = none) (hne : c' ≠ P2) (hg : mainGlobals ≠ P2) (hb : ∀ bm, mg "__builtins__" = some (.ref bm) → bm ≠ P2)
    (hu : ∀ p ∈ T, p.2 ≠ "" → p.1 = P → genAt pos = false → p.2 = q) : Tb mg T (addH H P c' P2 ps pos q) ∧ ExtN H (addH H P c' P2 ps pos q) ∧ addH H P c' P2 ps pos q c' = some (CodeT c' P2 q) ∧ InT mg T (addH H P c' P2 ps pos q) P2 := by
  have hE : ExtN H (addH H P c' P2 ps pos q) := fun b o e n => by
    unfold addH
    rw [upd_ne (ne_of_none e nP), upd_ne (ne_of_none e nC), upd_ne (fun z => n ps (Option.some.inj (e.symm.trans (by rw [z]; exact hP))))]
    exact e
  have eL : (ps ++ #[rawInt pos.line, rawInt pos.col, .ref c']).toList = ps.toList ++ [rawInt pos.line, rawInt pos.col, .ref c'] := by simp
  have hTr : TriplesOk (ps ++ #[rawInt pos.line, rawInt pos.col, .ref c']).toList := by rw [eL]; exact PySem.TriplesOk_snoc _ _ _ _ ht
  have atP : addH H P c' P2 ps pos q P = some (.tbl (ps ++ #[rawInt pos.line, rawInt pos.col, .ref c'])) := by unfold addH; rw [upd_ne (ne_of_none hP nP), upd_ne (ne_of_none hP nC), upd_same]
  have atT : ∀ {b : Addr} {qs : Array Value}, H b = some (.tbl qs) → b ≠ P → addH H P c' P2 ps pos q b = some (.tbl qs) := fun {b qs} e n => by unfold addH; rw [upd_ne (ne_of_none e nP), upd_ne (ne_of_none e nC), upd_ne n]; exact e
  have inT : ∀ {R : Addr}, InT mg T H R → InT mg T (addH H P c' P2 ps pos q) R := fun {R} ⟨qs, a, b, r⟩ => by
    by_cases z : R = P
    · subst z
      exact ⟨_, atP, hTr, r⟩
    · exact ⟨qs, atT a z, b, r⟩
  have inN : InT mg T (addH H P c' P2 ps pos q) P2 := ⟨#[], (by unfold addH; exact upd_same), True.intro, hg, hb, fun p hp n z => by
    obtain ⟨qs, a, _⟩ := (hT p hp).2 n
    rw [z, nP] at a
    cases a⟩
  have atC : addH H P c' P2 ps pos q c' = some (CodeT c' P2 q) := by unfold addH; rw [upd_ne hne, upd_same]
  refine ⟨fun p hp => ⟨fun z => ?_, fun z => ?_⟩, hE, atC, inN⟩
  · obtain ⟨R, q', a, b⟩ := (hT p hp).1 z
    exact ⟨R, q', hE _ _ a codeT_ne, inT b⟩
  · obtain ⟨qs, a, b, r⟩ := (hT p hp).2 z
    by_cases e : p.1 = P
    · have eq := hu p hp z e
      rw [e] at a ⊢
      rw [hP] at a
      cases a
      refine ⟨_, atP, hTr, fun p' cv hc => ?_⟩
      rw [eL] at hc
      rcases NdefX.among_app2 _ ht hc with w | ⟨w, w1, _⟩
      · obtain ⟨c0, R, q0, e1, e2, e3, e4⟩ := r p' cv w
        exact ⟨c0, R, q0, e1, hE _ _ e2 codeT_ne, inT e3, e4⟩
      · exact ⟨c', P2, q, w, atC, inN, fun g => (eq (by unfold genAt at g ⊢; rw [w1]; exact g)).symm⟩
    · exact ⟨qs, atT a e, b, fun p' cv hc => by
        obtain ⟨c0, R, q0, e1, e2, e3, e4⟩ := r p' cv hc
        exact ⟨c0, R, q0, e1, hE _ _ e2 codeT_ne, inT e3, e4⟩⟩
theorem codeRec_of {P : Program} {w : World} {h : Heap} {c R : Addr} {q : Str} (hok : HOk P w H h) (e : H c = some (CodeT c R q)) : (∃ (oc : Obj) (vs : Array Value) (t : Tok), h.get? c = some oc ∧ oc.data = .fields vs ∧ vs[1]? = some (.str q t)) ∧ PySem.W.CodeHd h c R := (hok c _ e).1
end
section
variable {X : Cx} {pins : List (Addr × Obj)} {σ : L2.St} {H : Hp} {s : Shared}
/-- the table at P is written, a code object at c and its own table at P2 are new -/
theorem inv_code {P c P2 : Addr} {q : Str} {ps : Array Value} {pos : Pos} {h' : Heap} {t' : Nat} (I : Inv X pins σ H s) (hP : H P = some (.tbl ps)) (k : ∀ b o, b ≠ P → s.heap.get? b = some o → h'.get? b = some o)
    (hm : h'.get? P = some { cls := .none, data := .fields (ps ++ #[rawInt pos.line, rawInt pos.col, .ref c]) }) (hc : s.heap.objs.size ≤ c) (hp2 : s.heap.objs.size ≤ P2) (hne : c ≠ P2) (ho : ∃ (oc : Obj) (vs : Array Value) (t : Tok), h'.get? c = some oc ∧ oc.data = .fields vs ∧ vs[1]? = some (.str q t))
    (hi : h'.IsCode c P2 #[]) (ha : h'.TableAt c P2 #[]) : Inv X pins σ (addH H P c P2 ps pos q) { s with heap := h', toks := t' } := by
  have nC : H c = none := I.hok.fresh hc
  have nP2 : H P2 = none := I.hok.fresh hp2
  have I1 := inv_table (q := q) (t' := t') (more := #[rawInt pos.line, rawInt pos.col, .ref c]) I hP k hm hc ho
  have hd : PySem.W.CodeHd h' c P2 := PySem.W.CodeHd.of hi ha
  have e1 : L2.upd (L2.upd H P (.tbl (ps ++ #[rawInt pos.line, rawInt pos.col, .ref c]))) c (CodeO c q) c = some (CodeO c q) := upd_same
  have new : ObjOk X.prog X.w (L2.upd (L2.upd (L2.upd H P (.tbl (ps ++ #[rawInt pos.line, rawInt pos.col, .ref c]))) c (CodeO c q)) c (CodeT c P2 q)) h' c (CodeT c P2 q) := by
    obtain ⟨oc, vs, t, h1, h2, h3⟩ := ho
    refine ⟨⟨⟨oc, vs, t, h1, h2, h3⟩, hd⟩, ⟨oc, h1⟩, fun ha hb ⟨⟨oc, vs, t, a1, a2, a3⟩, o, vs2, file, tf, flags, tg, inF, text, tt, b1, b2⟩ st => ⟨⟨oc, vs, t, st _ a1, a2, a3⟩, o, vs2, file, tf, flags, tg, inF, text, tt, st _ b1, b2⟩⟩
  have I2 := I1.write (x := c) (e := c) (o := CodeT c P2 q) (t' := t') (h' := h') (by rw [e1]; exact True.intro) (.inl rfl) (fun b u _ e => e) (by obtain ⟨oc, vs, t, h1, _⟩ := ho; exact ⟨oc, h1⟩) new
  rw [upd_upd] at I2
  have nP2' : L2.upd (L2.upd H P (.tbl (ps ++ #[rawInt pos.line, rawInt pos.col, .ref c]))) c (CodeT c P2 q) P2 = none := by
    rw [upd_ne (Ne.symm hne), upd_ne (Ne.symm (ne_of_none hP nP2))]
    exact nP2
  exact I2.take (t' := t') (h' := h') (o := .tbl #[]) (fun b ob _ e => e) (I.fpOk hp2 nP2') ha.2
end
end Ev
set_option autoImplicit true
set_option maxRecDepth 100000
set_option maxHeartbeats 2000000
/-! a lambda made; a lambda handed to the def that calls it; code objects with tables of their own -/
namespace Ev
open PySem PySem.Spec PyProof.Rows L2 LamX PySem.W PySem.Calls
section
variable {M : Model} {A : Around} {E : Value → Shared → Prop} {s : Shared} {name qual : Str} {params : Arguments} {body : Expr} {scope : Scope} {env : PySem.Env} {c P : Addr} {ps : Array Value} {pos : Pos} {firstLine : Nat} {mg : Str → Option Value} {clos : List (Str × Addr)} {Q : Value → Shared → Prop}
theorem makeFn3 (hcl : closureFor scope env = pure clos) (hge0 : env.globals = mainGlobals) (hg : s.heap.Ns mainGlobals mg) (hcode : env.code = .ref c) (C : CodeHd s.heap c P) (hP : s.heap.get? P = some (tabObj ps)) (ht : TriplesOk ps.toList)
    (hnf : codeAmong pos ps.toList = none) (hgP : mainGlobals ≠ P) (hb : s.heap.BuiltinsAt mg P)
    (h : ∀ c' P2 ctv h' tk, Heap.ExtBut P s.heap h' → s.heap.objs.size ≤ c' → c' < h'.objs.size → h'.CodeRec (.ref c') qual → h'.get? P = some (tabObj (ps ++ #[rawInt pos.line, rawInt pos.col, .ref c'])) → s.heap.objs.size ≤ P2 → h'.IsCode c' P2 #[] → h'.TableAt c' P2 #[] →
      Q (.ref h'.objs.size) { s with heap := h'.push (kla_obj name qual params body scope clos ((mg "__name__").getD .none) c' ctv), toks := tk }) :
    wpAny M A (makeFunction name qual params (.expr body) scope env [] [] [] pos firstLine) Q E s := by
  rw [makeFunction_eq]
  simp only [List.zip_nil_right, List.filterMap_nil, List.isEmpty_nil, if_true, pure_bind]
  obtain ⟨bm, ob, hbm, hne0, _, hneP, hbo, hcls, hdict, hdata⟩ := hb
  unfold makeTail
  rw [hcl, hge0]
  refine wpAny_bind (wpAny_pure ?_)
  cases clos with
  | nil =>
    simp only [List.isEmpty_nil, if_true]
    refine wpAny_bind (wpAny_pure ?_)
    refine wpAny_bind (wpAny_functionCodeX hcode (C.code hP ht) (C.tab hP) hnf fun c' h' tk hx hge hlt _ hrec htb hin => ?_)
    obtain ⟨P2, i1, i2, i3⟩ := hin
    have hg' := hg.extBut hx hgP
    refine wpAny_bind (wpAny_builtinsFor hg' hbm hne0 (hx _ _ hneP hbo) hcls hdict hdata ?_)
    refine wpAny_bind (wpAny_nsGet hg' ?_)
    exact wpAny_bind (wpAny_pure (wpAny_newObj_type (h c' P2 .none h' tk hx hge hlt hrec htb.2 i1 i2 i3) (by size_fits)))
  | cons q r =>
    simp only [List.isEmpty_cons, Bool.false_eq_true, if_false]
    refine wpAny_bind (wpAny_newTextTuple ?_)
    refine wpAny_bind (wpAny_functionCodeX hcode ((C.keeps fun b o e => Heap.get?_push_of_some _ e).code (Heap.get?_push_of_some _ hP) ht) ((C.keeps fun b o e => Heap.get?_push_of_some _ e).tab (Heap.get?_push_of_some _ hP)) hnf fun c' h' tk hx hge hlt _ hrec htb hin => ?_)
    obtain ⟨P2, i1, i2, i3⟩ := hin
    have hg' := (hg.push _).extBut hx hgP
    have hx' : Heap.ExtBut P s.heap h' := fun b o hb' e => hx b o hb' (Heap.get?_push_of_some _ e)
    have hge' : s.heap.objs.size ≤ c' := Nat.le_trans (by rw [Heap.size_push]; omega) hge
    refine wpAny_bind (wpAny_builtinsFor hg' hbm hne0 (hx' _ _ hneP hbo) hcls hdict hdata ?_)
    refine wpAny_bind (wpAny_nsGet hg' ?_)
    exact wpAny_bind (wpAny_pure (wpAny_newObj_type (h c' P2 _ h' tk hx' hge' hlt hrec htb.2 (Nat.le_trans (by rw [Heap.size_push]; omega) i1) i2 i3) (by size_fits)))
end
end Ev
set_option autoImplicit true
set_option maxRecDepth 100000
set_option maxHeartbeats 2000000
/-! code objects with tables of their own: the lambda called by the def that got it; a generator expression's code -/
namespace Ev
open PySem PySem.Spec PyProof.Rows L2 LamX
section
variable {X : Cx} {pins : List (Addr × Obj)} {σ : L2.St} {H HZ : Hp} {s s1 : Shared}
/-- x(), in the def that got the lambda: Z is that def's context, entered at s -/
theorem pe_act3 {CXg : CXT} {Eg : XK} {Ng : List Str} {qg : Str} {sg : Scope} {g f c' P' : Addr} {cdg pm ctv : Value} {params : Arguments} {body : Expr} {scope : Scope} {k i : Nat} {a : Str} {pn : List (Addr × Obj)} {xe : Value → Shared → Prop} {W : WX} {E : XK} {tb : TE} {p1 p2 : Pos}
    (I : Inv X pins σ H s) (L : LamS X.env.scope scope) (hf : s.heap.get? f = some (PySem.W.kla_obj "<lambda>" (X.env.qual ++ "<lambda>") params body scope (cloFrom X.env.cells scope.names []) pm c' ctv)) (hfn : H f = none) (hfr : f ∉ frs X.stack)
    (hbind : bindArgs (PySem.W.kla_fn "<lambda>" (X.env.qual ++ "<lambda>") params body scope (cloFrom X.env.cells scope.names []) pm (.ref c') ctv) ⟨[], []⟩ = pure [])
    (tk : Takes ((cxOf CXg X.prog X.w X.K X.mg X.base Ng qg sg g cdg X.A X.stack s H Eg).tr pn xe) W) (hW : ∀ cls d σ' H', E cls d H' → W cls d σ' H') (hr : Room (k + 1) (X.A.deeper (envOfC qg sg s.heap.objs.size g cdg)))
    (hbody : ∀ (A : Around) (outer : List Env) (s : Shared) (H : Hp), Room k (A.deeper (lamEnv X scope s.heap.objs.size f c')) → PE (lamCx X A outer s H E scope f c') body tb)
    (hN : Ng[i]? = some a) (hv : Vis sg a) (hd : (a == ("__debug__" : Str)) = false := by decide) (hcd : (a == ("__classdict__" : Str)) = false := by decide) :
    PE ((cxOf CXg X.prog X.w X.K X.mg X.base Ng qg sg g cdg X.A X.stack s H Eg).tr pn xe) (.Call (.Name a p1) [] [] p2)
      (fun σZ HZ Q => σZ[i]? = some (some (.ref f)) ∧ HZ c' = some (CodeT c' P' (X.env.qual ++ "<lambda>")) ∧ tb σ HZ Q) := by
  refine ⟨fun pinsZ sZ σZ HZ Q IZ h => ?_⟩
  obtain ⟨hs, hc, ht⟩ := h
  refine wpAny_Call_Name_kw (thn ((pe_var (pos := p1) (i := i) hN hv hd hcd).run pinsZ sZ σZ HZ (fun v H1 => v = .ref f ∧ H1 = HZ) IZ ⟨.ref f, hs, rfl, rfl⟩) fun u s1 ⟨v, H1, I1, r1, q1⟩ => ?_)
  obtain ⟨ev, eH⟩ := q1
  subst ev
  rw [eH] at I1
  obtain rfl : u = Value.ref f := r1
  have of1 : s1.heap.get? f = some (PySem.W.kla_obj "<lambda>" (X.env.qual ++ "<lambda>") params body scope (cloFrom X.env.cells scope.names []) pm c' ctv) := I1.base.keep f _ hf hfn hfr (fun z => nomatch (show f ∈ ([] : List Addr) from z))
  refine PySem.W.callWith_F0 ⟨_, _, _, _, of1⟩ ?_
  have un : Un (frs X.stack) [] H HZ s.heap s1.heap := I1.base
  obtain ⟨⟨oc, vs, t, hoc, hdc, hvc⟩, _⟩ := codeRec_of I1.hok hc
  have rc : codeAny (model X.prog X.w) (X.A.deeper (envOfC qg sg s.heap.objs.size g cdg)) (.call (.ref f) ⟨[], []⟩) (CR (L2.CX X.prog X.w) (envOfC qg sg s.heap.objs.size g cdg :: X.stack) X.prog X.w HZ s1 Q E) s1 := by
    refine PySem.W.kla_callFunE hr.depth of1 rfl L.co L.gen rfl ⟨c', oc, vs, t, rfl, hoc, hdc, hvc⟩ ?_
    rw [hbind]
    refine wpAny_pure (wpAny_newFunctionEnv (fun y hy => (L.own y hy).2) (fun y hy => absurd hy (by simp)) (fun h₁ hns hsb => ⟨I1.nolimit.fresh _ hsb, ?_⟩) L.kind)
    show codeAny _ _ (.expr body (lamEnv X scope s1.heap.objs.size f c')) _ _
    have kp : ∀ b o, s1.heap.get? b = some o → h₁.get? b = some o := fun b o e => hsb.extBut b o (Nat.ne_of_lt (Heap.lt_size e)) (Heap.get?_push_of_some _ e)
    have J : Inv (lamCx X (X.A.deeper (envOfC qg sg s.heap.objs.size g cdg)) (envOfC qg sg s.heap.objs.size g cdg :: X.stack) s1 HZ E scope f c') [] σ HZ { s1 with heap := h₁, toks := s1.toks + ([] : List (Str × Value)).length } :=
      lam_start2 I L I1.env0 hr.hd un hns kp
    refine PySem.W.kla_codeExpr (wpAny_mono ((hbody _ _ s1 HZ (hr.deeper _)).run [] _ _ HZ Q J ht) (fun v s' hq => ?_) fun e s' hq => hq)
    obtain ⟨w', H', J', rv, q⟩ := hq
    exact ⟨w', H', J'.os, J'.bare, J'.base, J'.hok, rv, q⟩
  have hx : Passes (L2.CX X.prog X.w) ((cxOf CXg X.prog X.w X.K X.mg X.base Ng qg sg g cdg X.A X.stack s H Eg).tr pn xe) E := passes_call tk hW
  refine wpAny_call (codeAny_mono rc fun r s' hq => ?_)
  cases r with
  | error e => exact hx pinsZ σZ HZ s1 e s' I1 hq
  | ok fl =>
    cases fl with
    | ret u => exact I1.after hq
    | next => exact False.elim hq
    | brk => exact False.elim hq
    | cont => exact False.elim hq
end
/-- the def that calls what it got: a calls it; TT: what it makes of the lambda's reading -/
def GivesTo3 (X : Cx) (Ng : List Str) (x : Str) (sg : Scope) (g : Addr) (cdg : Value) (bg : List Stmt) (a : Str) (q : Str) (TT : (XK → Hp → VK → Prop) → Hp → VK → Prop) : Prop :=
  ∀ (f c' P' : Addr) (s : Shared) (H : Hp) (Q : VK) (tl : XK → Hp → VK → Prop),
    (∀ (W : WX) (pn : List (Addr × Obj)) (xe : Value → Shared → Prop) (E : XK) (p1 p2 : Pos), Takes ((cxOf C8.CX0 X.prog X.w X.K X.mg X.base Ng x sg g cdg X.A X.stack s H C8.E0).tr pn xe) W → (∀ cls d σ' H', E cls d H' → W cls d σ' H') →
      PE ((cxOf C8.CX0 X.prog X.w X.K X.mg X.base Ng x sg g cdg X.A X.stack s H C8.E0).tr pn xe) (.Call (.Name a p1) [] [] p2) (fun σZ HZ Q => σZ[0]? = some (some (.ref f)) ∧ HZ c' = some (CodeT c' P' q) ∧ tl E HZ Q)) →
    H c' = some (CodeT c' P' q) → TT tl H Q →
    ∃ t, PSs (cxOf C8.CX0 X.prog X.w X.K X.mg X.base Ng x sg g cdg X.A X.stack s H C8.E0).nox bg t ∧ t { nx := fun _ H' => Q .non H', rt := Q } (L2.start Ng [.ref f]) H
/-! ### a generator expression's code object -/
/-- where a generator expression's code object is kept: the def's own table, or the lambda's own one -/
inductive Gt (base : Heap) (mg : Str → Option Value) (T : List (Addr × Str)) (q : Str) (code : Value) (pos : Pos) : Prop
  | own (c P : Addr) (hc : code = .ref c) (tb : LamX.TabB base mg c P) (hm : (P, q ++ "<genexpr>") ∈ T) (hq : q ++ "<genexpr>" ≠ "") (hu : ∀ p ∈ T, p.1 = P → p.2 = q ++ "<genexpr>")
  | mix (c P : Addr) (hc : code = .ref c) (tb : LamX.TabB base mg c P) (hm : (P, q ++ "<lambda>") ∈ T) (hq : q ++ "<lambda>" ≠ "") (hg : genAt pos = true)
  | lam (c P0 : Addr) (hc : code = .ref c) (bm : base.BuiltinsAt mg P0) (hm : ((c, ("" : Str)) : Addr × Str) ∈ T)
theorem Gt.bm {base : Heap} {mg : Str → Option Value} {T : List (Addr × Str)} {q : Str} {code : Value} {pos : Pos} (g : Gt base mg T q code pos) : ∃ P, base.BuiltinsAt mg P := by
  cases g with
  | own c P _ tb _ _ _ => exact ⟨P, tb.bm⟩
  | mix c P _ tb _ _ _ => exact ⟨P, tb.bm⟩
  | lam c P _ bm _ => exact ⟨P, bm⟩
section
variable {mg : Str → Option Value} {T : List (Addr × Str)} {H : Hp}
/-- a code object of no table more in a code object's own table -/
theorem tb_addO {P c' : Addr} {ps : Array Value} {pos : Pos} {q : Str} (hT : Tb mg T H) (hP : H P = some (.tbl ps)) (ht : TriplesOk ps.toList) (nC : H c' = none) (hn : ∀ p ∈ T, p.2 ≠ "" → p.1 ≠ P) :
    Tb mg T (L2.upd (L2.upd H P (.tbl (ps ++ #[rawInt pos.line, rawInt pos.col, .ref c']))) c' (CodeO c' q)) ∧ ExtN H (L2.upd (L2.upd H P (.tbl (ps ++ #[rawInt pos.line, rawInt pos.col, .ref c']))) c' (CodeO c' q)) := by
  have hE : ExtN H (L2.upd (L2.upd H P (.tbl (ps ++ #[rawInt pos.line, rawInt pos.col, .ref c']))) c' (CodeO c' q)) := fun b o e n => by
    rw [upd_ne (ne_of_none e nC), upd_ne (fun z => n ps (Option.some.inj (e.symm.trans (by rw [z]; exact hP))))]
    exact e
  have eL : (ps ++ #[rawInt pos.line, rawInt pos.col, .ref c']).toList = ps.toList ++ [rawInt pos.line, rawInt pos.col, .ref c'] := by simp
  have hTr : TriplesOk (ps ++ #[rawInt pos.line, rawInt pos.col, .ref c']).toList := by rw [eL]; exact PySem.TriplesOk_snoc _ _ _ _ ht
  have inT : ∀ {R : Addr}, InT mg T H R → InT mg T (L2.upd (L2.upd H P (.tbl (ps ++ #[rawInt pos.line, rawInt pos.col, .ref c']))) c' (CodeO c' q)) R := fun {R} ⟨qs, a, b, r⟩ => by
    by_cases z : R = P
    · subst z
      exact ⟨_, by rw [upd_ne (ne_of_none hP nC), upd_same], hTr, r⟩
    · exact ⟨qs, by rw [upd_ne (ne_of_none a nC), upd_ne z]; exact a, b, r⟩
  refine ⟨fun p hp => ⟨fun z => ?_, fun z => ?_⟩, hE⟩
  · obtain ⟨R, q', a, b⟩ := (hT p hp).1 z
    exact ⟨R, q', hE _ _ a codeT_ne, inT b⟩
  · obtain ⟨qs, a, b, r⟩ := (hT p hp).2 z
    have e := hn p hp z
    refine ⟨qs, by rw [upd_ne (ne_of_none a nC), upd_ne e]; exact a, b, fun p' cv hc => ?_⟩
    obtain ⟨c0, R, q0, e1, e2, e3, e4⟩ := r p' cv hc
    exact ⟨c0, R, q0, e1, hE _ _ e2 codeT_ne, inT e3, e4⟩
end
section
variable {X : Cx} {pins : List (Addr × Obj)} {σ : L2.St} {H : Hp} {s : Shared} {T : List (Addr × Str)} {scope : Scope} {pos : Pos}
theorem gx_code {Q : Value → Shared → Prop} {E : Value → Shared → Prop} (I : Inv X pins σ H s) (gt : Gt X.base X.mg T X.env.qual X.env.code pos) (hT : Tb X.mg T H)
    (h : ∀ (cv : Value) (H1 : Hp) (s' : Shared), Inv X pins σ H1 s' → ExtN H H1 → Tb X.mg T H1 → s.heap.objs.size ≤ s'.heap.objs.size → (∀ b o, H b = none → s.heap.get? b = some o → s'.heap.get? b = some o ∧ H1 b = none) → Q cv s') :
    wpAny (model X.prog X.w) X.A (genexprCode X.env pos (X.env.qual ++ "<genexpr>") scope) Q E s := by
  have hgm : mainGlobals < s.heap.objs.size := (I.mod.glob.keeps I.bk).lt
  cases gt with
  | own c P hcode TB hm hq hu =>
    obtain ⟨ps, hP, ht, ha⟩ := (hT _ hm).2 hq
    have hP' : s.heap.get? P = some { cls := .none, data := .fields ps } := I.hok P _ hP
    have cd : PySem.W.CodeHd s.heap c P := TB.code.keeps I.bk
    cases hc : codeAmong pos ps.toList with
    | none =>
      refine wpAny_genexprCodeX hcode (cd.code hP' ht) (cd.tab hP') hc fun c' h' tk hx hge hlt _ hrec htb hin => ?_
      obtain ⟨P2, i1, i2, i3⟩ := hin
      obtain ⟨c2, oc, vs, t, e2, hoc, hd, hv⟩ := hrec
      cases e2
      have nC : H c' = none := I.hok.fresh hge
      have nP2 : H P2 = none := I.hok.fresh i1
      have hne : c' ≠ P2 := by
        obtain ⟨_, _, _, _, _, _, _, _, _, _, _, _, _, _, _, _, _, _, _, _, z⟩ := i2
        exact z
      have I1 := inv_code (q := X.env.qual ++ "<genexpr>") (pos := pos) (t' := tk) (h' := h') I hP (fun b o hb e => hx b o hb e) htb.2 hge i1 hne ⟨oc, vs, t, hoc, hd, hv⟩ i2 i3
      have hbb : ∀ bm, X.mg "__builtins__" = some (.ref bm) → bm ≠ P2 := fun bm e z => by
        obtain ⟨bm', ob, e1, _, _, _, e5, _⟩ := TB.bm.keeps I.bk
        rw [e] at e1
        cases e1
        rw [z] at e5
        exact Nat.lt_irrefl _ (Nat.lt_of_lt_of_le (Heap.lt_size e5) i1)
      have hgg : mainGlobals ≠ P2 := fun z => by
        rw [z] at hgm
        exact Nat.lt_irrefl _ (Nat.lt_of_lt_of_le hgm i1)
      obtain ⟨a1, a2, _, _⟩ := tb_add (pos := pos) (q := X.env.qual ++ "<genexpr>") hT hP ht nC nP2 hne hgg hbb fun p hp _ e _ => hu p hp e
      refine h _ _ _ I1 a2 a1 (Nat.le_trans hge (Nat.le_of_lt hlt)) fun b o hn e => ?_
      have b1 : b ≠ P := fun z => by rw [z, hP] at hn; cases hn
      have b2 : b ≠ c' := Nat.ne_of_lt (Nat.lt_of_lt_of_le (Heap.lt_size e) hge)
      have b3 : b ≠ P2 := Nat.ne_of_lt (Nat.lt_of_lt_of_le (Heap.lt_size e) i1)
      exact ⟨hx b o b1 e, by unfold addH; rw [upd_ne b3, upd_ne b2, upd_ne b1]; exact hn⟩
    | some cv =>
      exact wpAny_genexprCode_hit hcode (cd.code hP' ht) hc (h cv H s I (ExtN.refl H) hT (Nat.le_refl _) fun b o hn e => ⟨e, hn⟩)
  | mix c P hcode TB hm hq hg =>
    obtain ⟨ps, hP, ht, ha⟩ := (hT _ hm).2 hq
    have hP' : s.heap.get? P = some { cls := .none, data := .fields ps } := I.hok P _ hP
    have cd : PySem.W.CodeHd s.heap c P := TB.code.keeps I.bk
    cases hc : codeAmong pos ps.toList with
    | none =>
      refine wpAny_genexprCodeX hcode (cd.code hP' ht) (cd.tab hP') hc fun c' h' tk hx hge hlt _ hrec htb hin => ?_
      obtain ⟨P2, i1, i2, i3⟩ := hin
      obtain ⟨c2, oc, vs, t, e2, hoc, hd, hv⟩ := hrec
      cases e2
      have nC : H c' = none := I.hok.fresh hge
      have nP2 : H P2 = none := I.hok.fresh i1
      have hne : c' ≠ P2 := by
        obtain ⟨_, _, _, _, _, _, _, _, _, _, _, _, _, _, _, _, _, _, _, _, z⟩ := i2
        exact z
      have I1 := inv_code (q := X.env.qual ++ "<genexpr>") (pos := pos) (t' := tk) (h' := h') I hP (fun b o hb e => hx b o hb e) htb.2 hge i1 hne ⟨oc, vs, t, hoc, hd, hv⟩ i2 i3
      have hbb : ∀ bm, X.mg "__builtins__" = some (.ref bm) → bm ≠ P2 := fun bm e z => by
        obtain ⟨bm', ob, e1, _, _, _, e5, _⟩ := TB.bm.keeps I.bk
        rw [e] at e1
        cases e1
        rw [z] at e5
        exact Nat.lt_irrefl _ (Nat.lt_of_lt_of_le (Heap.lt_size e5) i1)
      have hgg : mainGlobals ≠ P2 := fun z => by
        rw [z] at hgm
        exact Nat.lt_irrefl _ (Nat.lt_of_lt_of_le hgm i1)
      obtain ⟨a1, a2, _, _⟩ := tb_add (pos := pos) (q := X.env.qual ++ "<genexpr>") hT hP ht nC nP2 hne hgg hbb fun p hp _ e g => absurd (hg.symm.trans g) (by decide)
      refine h _ _ _ I1 a2 a1 (Nat.le_trans hge (Nat.le_of_lt hlt)) fun b o hn e => ?_
      have b1 : b ≠ P := fun z => by rw [z, hP] at hn; cases hn
      have b2 : b ≠ c' := Nat.ne_of_lt (Nat.lt_of_lt_of_le (Heap.lt_size e) hge)
      have b3 : b ≠ P2 := Nat.ne_of_lt (Nat.lt_of_lt_of_le (Heap.lt_size e) i1)
      exact ⟨hx b o b1 e, by unfold addH; rw [upd_ne b3, upd_ne b2, upd_ne b1]; exact hn⟩
    | some cv =>
      exact wpAny_genexprCode_hit hcode (cd.code hP' ht) hc (h cv H s I (ExtN.refl H) hT (Nat.le_refl _) fun b o hn e => ⟨e, hn⟩)
  | lam c P0 hcode bm hm =>
    obtain ⟨P, q, hC, ps, hP, ht, g1, g2, g3⟩ := (hT _ hm).1 rfl
    have hP' : s.heap.get? P = some { cls := .none, data := .fields ps } := I.hok P _ hP
    have cd : PySem.W.CodeHd s.heap c P := (codeRec_of I.hok hC).2
    cases hc : codeAmong pos ps.toList with
    | none =>
      refine wpAny_genexprCodeX hcode (cd.code hP' ht) (cd.tab hP') hc fun c' h' tk hx hge hlt _ hrec htb _ => ?_
      obtain ⟨c2, oc, vs, t, e2, hoc, hd, hv⟩ := hrec
      cases e2
      have nC : H c' = none := I.hok.fresh hge
      have I1 := LamX.inv_table (q := X.env.qual ++ "<genexpr>") (t' := tk) (more := #[rawInt pos.line, rawInt pos.col, .ref c']) (h' := h') I hP (fun b o hb e => hx b o hb e) htb.2 hge ⟨oc, vs, t, hoc, hd, hv⟩
      obtain ⟨a1, a2⟩ := tb_addO (pos := pos) (q := X.env.qual ++ "<genexpr>") hT hP ht nC g3
      refine h _ _ _ I1 a2 a1 (Nat.le_trans hge (Nat.le_of_lt hlt)) fun b o hn e => ?_
      have b1 : b ≠ P := fun z => by rw [z, hP] at hn; cases hn
      have b2 : b ≠ c' := Nat.ne_of_lt (Nat.lt_of_lt_of_le (Heap.lt_size e) hge)
      exact ⟨hx b o b1 e, by rw [upd_ne b2, upd_ne b1]; exact hn⟩
    | some cv =>
      exact wpAny_genexprCode_hit hcode (cd.code hP' ht) hc (h cv H s I (ExtN.refl H) hT (Nat.le_refl _) fun b o hn e => ⟨e, hn⟩)
end
/-- the tables at the start: none tells a code object yet -/
theorem tbs_nil {mg : Str → Option Value} {T : List (Addr × Str)} {H : Hp} (h : ∀ p ∈ T, p.2 ≠ "" ∧ H p.1 = some (.tbl #[])) : Tb mg T H := fun p hp => ⟨fun z => absurd z (h p hp).1, fun _ => ⟨#[], (h p hp).2, True.intro, fun pos cv hc => by
  have z : codeAmong pos [] = some cv := hc
  simp [codeAmong] at z⟩⟩
theorem app_ne {q r : Str} (h : 0 < r.cps.size) : q ++ r ≠ "" := fun z => by
  have e := congrArg (fun x : Str => x.cps.size) z
  change (q ++ r).cps.size = (("" : Str)).cps.size at e
  rw [show (q ++ r).cps = q.cps ++ r.cps from rfl, Array.size_append, show (("" : Str)).cps.size = 0 by decide +kernel] at e
  omega
theorem lam_ne (q : Str) : q ++ ("<lambda>" : Str) ≠ "" := app_ne (by decide +kernel)
theorem gen_ne (q : Str) : q ++ ("<genexpr>" : Str) ≠ "" := app_ne (by decide +kernel)
end Ev
set_option autoImplicit true
set_option maxRecDepth 100000
set_option maxHeartbeats 2000000
/-! values by content, and how they stand in the layer's heap -/
namespace Ev
open PySem PySem.Spec PyProof.Rows L2
/-- a value by its content -/
inductive D where
  | non | bl (b : Bool) | int (i : Int) | str (x : Str)
  | tup (xs : List D) | lst (xs : List D) | dct (c : Bool × List (D × D))
  | loc (n : Nat) | own (xs : List D) | ownd (c : Bool × List (D × D)) | lkd (c : Bool × List (D × D)) | nst (xs : List D) | ptp (xs : List D)
/-- a dict's content: whether its keys are tuples, its pairs -/
abbrev Dc := Bool × List (D × D)
/-- whose an address is -/
inductive Tag where
  | slot (i : Nat) | tmp | ext | obj (n : Nat) | fld (n : Nat) (f : Str) | par (j : Nat)
abbrev Wm := Addr → Option Tag
/-- a class's instance, a list by reference -/
inductive SObj where
  | ins (cls : Str) (fs : List (Str × D))
  | ls (xs : List D)
abbrev Sto := List SObj
abbrev Env := List (Option D)
def keyD : Key → D
  | .inl i => .int i
  | .inr x => .str x
/-- a tuple's (a list's) items, at an address that is nobody's, or in the written part -/
def TupAt (_ : PySem.W.Frag) (W : Wm) (H : Hp) (a : Addr) (vs : List V) : Prop := W a = none ∧ H a = some (.tup vs)
def LstAt (K : PySem.W.Frag) (W : Wm) (H : Hp) (a : Addr) (vs : List V) : Prop :=
  (W a = none ∧ Rd H a (.lst vs)) ∨ ∃ (o : Obj) (its : Array Value) (n : Nat), K.lookup a = some o ∧ o.cls = .type "list" ∧ o.dict = none ∧ o.data = .seq its n ∧ its.size ≤ sizeLine ∧ Vals vs its.toList
/-- a tuple that is known to have no dict of its own -/
def KTup (K : PySem.W.Frag) (a : Addr) (vs : List V) : Prop := ∃ (o : Obj) (its : Array Value) (n : Nat), K.lookup a = some o ∧ o.cls = .type "tuple" ∧ o.dict = none ∧ o.data = .seq its n ∧ its.size ≤ sizeLine ∧ Vals vs its.toList
def PtpAt (K : PySem.W.Frag) (W : Wm) (H : Hp) (a : Addr) (vs : List V) : Prop := (W a = none ∧ ∃ o : Obj, H a = some (.frz o (.tup vs)) ∧ o.cls = .type "tuple" ∧ o.dict = none) ∨ KTup K a vs
theorem PtpAt.sq {K : PySem.W.Frag} {W : Wm} {H : Hp} {a : Addr} {vs : List V} (h : PtpAt K W H a vs) : SqT K H a vs := h.elim (fun ⟨_, o, e, _⟩ => .inl (.inr ⟨o, e⟩)) fun ⟨o, its, n, k, c, _, d, z, r⟩ => .inr ⟨o, its, n, k, c, d, z, r⟩
theorem TupAt.sq {K : PySem.W.Frag} {W : Wm} {H : Hp} {a : Addr} {vs : List V} (h : TupAt K W H a vs) : SqT K H a vs := .inl (.inl h.2)
theorem LstAt.sq {K : PySem.W.Frag} {W : Wm} {H : Hp} {a : Addr} {vs : List V} (h : LstAt K W H a vs) : SqL K H a vs := h.elim (fun q => .inl q.2) .inr
def Free (W : Wm) (H : Hp) (a : Addr) (u : HO) : Prop := W a = none ∧ Rd H a u
section
variable (K : PySem.W.Frag) (W : Wm) (H : Hp)
mutual
def Rep : D → V → Prop
  | .non, v => v = .non
  | .bl b, v => v = .bl b
  | .int i, v => v = .int i
  | .str x, v => v = .str x
  | .tup ds, v => ∃ a vs, v = .ref a ∧ TupAt K W H a vs ∧ Reps ds vs
  | .lst ds, v => ∃ a vs, v = .ref a ∧ LstAt K W H a vs ∧ Reps ds vs
  | .dct (t, kvs), v => ∃ a, v = .ref a ∧ ((∃ ks, Free W H a (.dK ks) ∧ t = false ∧ RepK kvs ks) ∨ ∃ ks, Free W H a (.dT ks) ∧ t = true ∧ RepT kvs ks)
  | .loc n, v => ∃ a, v = .ref a ∧ W a = some (.obj n)
  | .own _, _ => False
  | .ownd _, _ => False
  | .lkd _, _ => False
  | .nst _, _ => False
  | .ptp ds, v => ∃ a vs, v = .ref a ∧ PtpAt K W H a vs ∧ Reps ds vs
def Reps : List D → List V → Prop
  | [], vs => vs = []
  | d :: ds, vs => ∃ v r, vs = v :: r ∧ Rep d v ∧ Reps ds r
def RepK : List (D × D) → List (Key × V) → Prop
  | [], ks => ks = []
  | (k, d) :: r, ks => ∃ k' v r', ks = (k', v) :: r' ∧ k = keyD k' ∧ Rep d v ∧ RepK r r'
def RepT : List (D × D) → List (List Key × V) → Prop
  | [], ks => ks = []
  | (k, d) :: r, ks => ∃ k' v r', ks = (k', v) :: r' ∧ k = .tup (k'.map keyD) ∧ Rep d v ∧ RepT r r'
end
end
/-- all that is nobody's stays readable, references stay -/
def RdU (u : HO) : Prop := (∀ ps, u ≠ .tbl ps) ∧ ∀ o v, u ≠ .frz o v
structure Mo (W : Wm) (H : Hp) (W' : Wm) (H' : Hp) : Prop where
  fr : ∀ a u, W a = none → Rd H a u → RdU u → W' a = none ∧ Rd H' a u
  ob : ∀ a n, W a = some (.obj n) → W' a = some (.obj n)
  tu : ∀ a vs, W a = none → H a = some (.tup vs) → W' a = none ∧ H' a = some (.tup vs)
  pt : ∀ a o vs, W a = none → H a = some (.frz o (.tup vs)) → W' a = none ∧ H' a = some (.frz o (.tup vs))
section
variable {K : PySem.W.Frag} {W W' : Wm} {H H' : Hp}
theorem TupAt.mono (m : Mo W H W' H') {a : Addr} {vs : List V} (h : TupAt K W H a vs) : TupAt K W' H' a vs := m.tu a _ h.1 h.2
theorem PtpAt.mono (m : Mo W H W' H') {a : Addr} {vs : List V} (h : PtpAt K W H a vs) : PtpAt K W' H' a vs := h.imp (fun ⟨n, o, e, c, d⟩ => let ⟨n', e'⟩ := m.pt a o vs n e; ⟨n', o, e', c, d⟩) id
theorem LstAt.mono (m : Mo W H W' H') {a : Addr} {vs : List V} (h : LstAt K W H a vs) : LstAt K W' H' a vs := h.elim (fun q => .inl (m.fr a _ q.1 q.2 ⟨fun _ z => (by cases z), fun _ _ z => (by cases z)⟩)) .inr
mutual
theorem Rep.mono (m : Mo W H W' H') : ∀ (d : D) (v : V), Rep K W H d v → Rep K W' H' d v
  | .non, v, h => by simpa [Rep] using h
  | .bl b, v, h => by simpa [Rep] using h
  | .int i, v, h => by simpa [Rep] using h
  | .str x, v, h => by simpa [Rep] using h
  | .tup ds, v, h => by
    unfold Rep at h ⊢
    obtain ⟨a, vs, e, t, r⟩ := h
    exact ⟨a, vs, e, t.mono m, Reps.mono m ds vs r⟩
  | .lst ds, v, h => by
    unfold Rep at h ⊢
    obtain ⟨a, vs, e, t, r⟩ := h
    exact ⟨a, vs, e, t.mono m, Reps.mono m ds vs r⟩
  | .dct (tk, kvs), v, h => by
    unfold Rep at h ⊢
    obtain ⟨a, e, h⟩ := h
    refine ⟨a, e, ?_⟩
    rcases h with ⟨ks, t, k, r⟩ | ⟨ks, t, k, r⟩
    · exact .inl ⟨ks, m.fr a _ t.1 t.2 ⟨fun _ z => (by cases z), fun _ _ z => (by cases z)⟩, k, RepK.mono m kvs ks r⟩
    · exact .inr ⟨ks, m.fr a _ t.1 t.2 ⟨fun _ z => (by cases z), fun _ _ z => (by cases z)⟩, k, RepT.mono m kvs ks r⟩
  | .loc n, v, h => by
    unfold Rep at h ⊢
    obtain ⟨a, e, h⟩ := h
    exact ⟨a, e, m.ob a n h⟩
  | .own _, _, h => by unfold Rep at h; exact h.elim
  | .ownd _, _, h => by unfold Rep at h; exact h.elim
  | .lkd _, _, h => by unfold Rep at h; exact h.elim
  | .nst _, _, h => by unfold Rep at h; exact h.elim
  | .ptp ds, v, h => by
    unfold Rep at h ⊢
    obtain ⟨a, vs, e, t, r⟩ := h
    exact ⟨a, vs, e, t.mono m, Reps.mono m ds vs r⟩
theorem Reps.mono (m : Mo W H W' H') : ∀ (ds : List D) (vs : List V), Reps K W H ds vs → Reps K W' H' ds vs
  | [], vs, h => by simpa [Reps] using h
  | d :: ds, vs, h => by
    unfold Reps at h ⊢
    obtain ⟨v, r, e, h1, h2⟩ := h
    exact ⟨v, r, e, Rep.mono m d v h1, Reps.mono m ds r h2⟩
theorem RepK.mono (m : Mo W H W' H') : ∀ (kvs : List (D × D)) (ks : List (Key × V)), RepK K W H kvs ks → RepK K W' H' kvs ks
  | [], vs, h => by simpa [RepK] using h
  | (k, d) :: ds, vs, h => by
    unfold RepK at h ⊢
    obtain ⟨k', v, r, e, ek, h1, h2⟩ := h
    exact ⟨k', v, r, e, ek, Rep.mono m d v h1, RepK.mono m ds r h2⟩
theorem RepT.mono (m : Mo W H W' H') : ∀ (kvs : List (D × D)) (ks : List (List Key × V)), RepT K W H kvs ks → RepT K W' H' kvs ks
  | [], vs, h => by simpa [RepT] using h
  | (k, d) :: ds, vs, h => by
    unfold RepT at h ⊢
    obtain ⟨k', v, r, e, ek, h1, h2⟩ := h
    exact ⟨k', v, r, e, ek, Rep.mono m d v h1, RepT.mono m ds r h2⟩
end
end
def RepKc (K : PySem.W.Frag) (W : Wm) (H : Hp) (c : Dc) (ks : List (Key × V)) : Prop := c.1 = false ∧ RepK K W H c.2 ks
def RepTc (K : PySem.W.Frag) (W : Wm) (H : Hp) (c : Dc) (ks : List (List Key × V)) : Prop := c.1 = true ∧ RepT K W H c.2 ks
theorem RepKc.mono {K : PySem.W.Frag} {W W' : Wm} {H H' : Hp} (m : Mo W H W' H') (c : Dc) (ks : List (Key × V)) (h : RepKc K W H c ks) : RepKc K W' H' c ks := ⟨h.1, RepK.mono m _ _ h.2⟩
theorem RepTc.mono {K : PySem.W.Frag} {W W' : Wm} {H H' : Hp} (m : Mo W H W' H') (c : Dc) (ks : List (List Key × V)) (h : RepTc K W H c ks) : RepTc K W' H' c ks := ⟨h.1, RepT.mono m _ _ h.2⟩
/-! ### lists of representations -/
section
variable {K : PySem.W.Frag} {W : Wm} {H : Hp}
theorem Reps.length : ∀ {ds : List D} {vs : List V}, Reps K W H ds vs → ds.length = vs.length
  | [], vs, h => by unfold Reps at h; subst h; rfl
  | d :: ds, vs, h => by
    unfold Reps at h
    obtain ⟨v, r, e, h1, h2⟩ := h
    subst e
    simp [Reps.length h2]
theorem Reps.get : ∀ {ds : List D} {vs : List V} {i : Nat} {d : D}, Reps K W H ds vs → ds[i]? = some d → ∃ v, vs[i]? = some v ∧ Rep K W H d v
  | [], vs, i, d, h, e => by simp at e
  | d :: ds, vs, i, d', h, e => by
    unfold Reps at h
    obtain ⟨v, r, er, h1, h2⟩ := h
    subst er
    cases i with
    | zero => simp at e; subst e; exact ⟨v, rfl, h1⟩
    | succ i =>
      obtain ⟨v', q1, q2⟩ := Reps.get (i := i) h2 (by simpa using e)
      exact ⟨v', by simpa using q1, q2⟩
theorem Reps.getV : ∀ {ds : List D} {vs : List V} {i : Nat} {v : V}, Reps K W H ds vs → vs[i]? = some v → ∃ d, ds[i]? = some d ∧ Rep K W H d v
  | [], vs, i, d, h, e => by unfold Reps at h; subst h; simp at e
  | d :: ds, vs, i, d', h, e => by
    unfold Reps at h
    obtain ⟨v, r, er, h1, h2⟩ := h
    subst er
    cases i with
    | zero => simp at e; subst e; exact ⟨d, rfl, h1⟩
    | succ i =>
      obtain ⟨v', q1, q2⟩ := Reps.getV (i := i) h2 (by simpa using e)
      exact ⟨v', by simpa using q1, q2⟩
theorem Reps.cons {d : D} {ds : List D} {v : V} {vs : List V} (h : Rep K W H d v) (r : Reps K W H ds vs) : Reps K W H (d :: ds) (v :: vs) := by
  unfold Reps; exact ⟨v, vs, rfl, h, r⟩
theorem Reps.nil : Reps K W H [] [] := by unfold Reps; rfl
theorem Reps.append : ∀ {ds es : List D} {vs us : List V}, Reps K W H ds vs → Reps K W H es us → Reps K W H (ds ++ es) (vs ++ us)
  | [], es, vs, us, h, q => by unfold Reps at h; subst h; exact q
  | d :: ds, es, vs, us, h, q => by
    unfold Reps at h
    obtain ⟨v, r, e, h1, h2⟩ := h
    subst e
    exact Reps.cons h1 (Reps.append h2 q)
theorem Reps.one {d : D} {v : V} (h : Rep K W H d v) : Reps K W H [d] [v] := Reps.cons h Reps.nil
theorem Reps.one_inv {d : D} {vs : List V} (h : Reps K W H [d] vs) : ∃ v, vs = [v] ∧ Rep K W H d v := by
  unfold Reps at h
  obtain ⟨v, r, e, h1, h2⟩ := h
  unfold Reps at h2
  subst h2
  exact ⟨v, e, h1⟩
theorem Reps.take : ∀ {ds : List D} {vs : List V} (n : Nat), Reps K W H ds vs → Reps K W H (ds.take n) (vs.take n)
  | [], vs, n, h => by unfold Reps at h; subst h; simpa using Reps.nil
  | d :: ds, vs, 0, h => by simpa using Reps.nil
  | d :: ds, vs, n + 1, h => by
    unfold Reps at h
    obtain ⟨v, r, e, h1, h2⟩ := h
    subst e
    simpa using Reps.cons h1 (Reps.take n h2)
theorem Reps.drop : ∀ {ds : List D} {vs : List V} (n : Nat), Reps K W H ds vs → Reps K W H (ds.drop n) (vs.drop n)
  | ds, vs, 0, h => by simpa using h
  | [], vs, n + 1, h => by unfold Reps at h; subst h; simpa using Reps.nil
  | d :: ds, vs, n + 1, h => by
    unfold Reps at h
    obtain ⟨v, r, e, h1, h2⟩ := h
    subst e
    simpa using Reps.drop n h2
theorem Reps.set : ∀ {ds : List D} {vs : List V} (n : Nat) {d : D} {v : V}, Rep K W H d v → Reps K W H ds vs → Reps K W H (ds.set n d) (vs.set n v)
  | [], vs, n, d, v, _, h => by unfold Reps at h; subst h; simpa using Reps.nil
  | d :: ds, vs, n, d', v', q, h => by
    unfold Reps at h
    obtain ⟨v, r, e, h1, h2⟩ := h
    subst e
    cases n with
    | zero => simpa using Reps.cons q h2
    | succ n => simpa using Reps.cons h1 (Reps.set n q h2)
theorem Reps.reverse : ∀ {ds : List D} {vs : List V}, Reps K W H ds vs → Reps K W H ds.reverse vs.reverse
  | [], vs, h => by unfold Reps at h; subst h; simpa using Reps.nil
  | d :: ds, vs, h => by
    unfold Reps at h
    obtain ⟨v, r, e, h1, h2⟩ := h
    subst e
    simpa using Reps.append (Reps.reverse h2) (Reps.one h1)
theorem Reps.ints {ns : List Int} : Reps K W H (ns.map D.int) (ns.map V.int) := by
  induction ns with
  | nil => exact Reps.nil
  | cons n ns ih => exact Reps.cons (by unfold Rep; rfl) ih
end
/-! ### the state: slots, objects -/
/-- the written part, the module's names, the tables of code objects -/
structure Gx where
  K : PySem.W.Frag
  mg : Str → Option Value
  T : List (Addr × Str)
/-- a list that t owns -/
def OwnL (K : PySem.W.Frag) (W : Wm) (H : Hp) (t : Tag) (ds : List D) (v : V) : Prop := ∃ a vs, v = .ref a ∧ W a = some t ∧ H a = some (.lst vs) ∧ Reps K W H ds vs
def OwnD (K : PySem.W.Frag) (W : Wm) (H : Hp) (t : Tag) (kvs : Dc) (v : V) : Prop :=
  ∃ a, v = .ref a ∧ W a = some t ∧ ((∃ ks, H a = some (.dK ks) ∧ RepKc K W H kvs ks) ∨ ∃ ks, H a = some (.dT ks) ∧ RepTc K W H kvs ks)
/-- such a dict while it is walked -/
def LckD (K : PySem.W.Frag) (W : Wm) (H : Hp) (t : Tag) (kvs : Dc) (v : V) : Prop :=
  ∃ a o, v = .ref a ∧ W a = some t ∧ ((∃ ks, H a = some (.frz o (.dK ks)) ∧ RepKc K W H kvs ks) ∨ ∃ ks, H a = some (.frz o (.dT ks)) ∧ RepTc K W H kvs ks)
/-- .. read -/
def RdD (K : PySem.W.Frag) (W : Wm) (H : Hp) (t : Tag) (kvs : Dc) (v : V) : Prop :=
  ∃ a, v = .ref a ∧ W a = some t ∧ ((∃ ks, Rd H a (.dK ks) ∧ RepKc K W H kvs ks) ∨ ∃ ks, Rd H a (.dT ks) ∧ RepTc K W H kvs ks)
theorem OwnD.rd {K : PySem.W.Frag} {W : Wm} {H : Hp} {t : Tag} {kvs : Dc} {v : V} (h : OwnD K W H t kvs v) : RdD K W H t kvs v := by
  obtain ⟨a, e, w, h⟩ := h
  exact ⟨a, e, w, h.imp (fun ⟨ks, z, q⟩ => ⟨ks, .inl z, q⟩) fun ⟨ks, z, q⟩ => ⟨ks, .inl z, q⟩⟩
theorem LckD.rd {K : PySem.W.Frag} {W : Wm} {H : Hp} {t : Tag} {kvs : Dc} {v : V} (h : LckD K W H t kvs v) : RdD K W H t kvs v := by
  obtain ⟨a, o, e, w, h⟩ := h
  exact ⟨a, e, w, h.imp (fun ⟨ks, z, q⟩ => ⟨ks, .inr ⟨o, z⟩, q⟩) fun ⟨ks, z, q⟩ => ⟨ks, .inr ⟨o, z⟩, q⟩⟩
theorem Rd.same {H H' : Hp} {a : Addr} {u : HO} (e : H' a = H a) (h : Rd H a u) : Rd H' a u := by
  unfold Rd at *
  rw [e]
  exact h
/-- lists that t owns, each by itself -/
def RowsAt (K : PySem.W.Frag) (W : Wm) (H : Hp) (t : Tag) : List D → List Addr → Prop
  | [], bs => bs = []
  | d :: r, bs => ∃ b r' xs us, bs = b :: r' ∧ d = .lst xs ∧ W b = some t ∧ H b = some (.lst us) ∧ Reps K W H xs us ∧ RowsAt K W H t r r'
/-- a list of them -/
def OwnN (K : PySem.W.Frag) (W : Wm) (H : Hp) (t : Tag) (ds : List D) (v : V) : Prop := ∃ a bs, t ≠ .tmp ∧ v = .ref a ∧ W a = some t ∧ H a = some (.lst (bs.map V.ref)) ∧ (a :: bs).Nodup ∧ RowsAt K W H t ds bs
theorem RowsAt.mono {K : PySem.W.Frag} {W W' : Wm} {H H' : Hp} {t : Tag} (m : Mo W H W' H') : ∀ {ds : List D} {bs : List Addr}, (∀ a, a ∈ bs → W a = some t → W' a = some t ∧ H' a = H a) → RowsAt K W H t ds bs → RowsAt K W' H' t ds bs
  | [], bs, k, h => h
  | d :: r, bs, k, h => by
    obtain ⟨b, r', xs, us, rfl, e, h1, h2, h3, h4⟩ := h
    obtain ⟨x, y⟩ := k b List.mem_cons_self h1
    exact ⟨b, r', xs, us, rfl, e, x, y.trans h2, Reps.mono m _ _ h3, RowsAt.mono m (fun a ha => k a (List.mem_cons_of_mem _ ha)) h4⟩
theorem OwnN.mono {K : PySem.W.Frag} {W W' : Wm} {H H' : Hp} {t : Tag} {ds : List D} {v : V} (m : Mo W H W' H') (k : ∀ a, W a = some t → W' a = some t ∧ H' a = H a) (h : OwnN K W H t ds v) : OwnN K W' H' t ds v := by
  obtain ⟨a, bs, n, e, h1, h2, h3, h4⟩ := h
  obtain ⟨x, y⟩ := k a h1
  exact ⟨a, bs, n, e, x, y.trans h2, h3, h4.mono m fun a _ => k a⟩
/-- what may stand in a place of the tag t -/
def At (K : PySem.W.Frag) (W : Wm) (H : Hp) (t : Tag) : D → V → Prop
  | .own ds, v => OwnL K W H t ds v
  | .ownd kvs, v => OwnD K W H t kvs v
  | .nst ds, v => OwnN K W H t ds v
  | .lkd kvs, v => LckD K W H t kvs v ∨ ((∃ i, t = .slot i) ∧ RdD K W H .ext kvs v)
  | d, v => Rep K W H d v
structure EnvOk (K : PySem.W.Frag) (W : Wm) (H : Hp) (env : Env) (σ : L2.St) : Prop where
  len : env.length = σ.length
  at_ : ∀ (i : Nat) (d : D), env[i]? = some (some d) → ∃ v, σ[i]? = some (some v) ∧ At K W H (.slot i) d v
def FldsOk (K : PySem.W.Frag) (W : Wm) (H : Hp) (n : Nat) : List (Str × D) → List (Str × V) → Prop
  | [], vs => vs = []
  | (f, d) :: r, vs => ∃ v r', vs = (f, v) :: r' ∧ At K W H (.fld n f) d v ∧ FldsOk K W H n r r'
def ObjRep (G : Gx) (W : Wm) (H : Hp) (n : Nat) (a : Addr) : SObj → Prop
  | .ins cls fs => ∃ C dx vs, G.mg cls = some (.ref C) ∧ H a = some (.ins C dx vs) ∧ (fs.map Prod.fst).Nodup ∧ FldsOk G.K W H n fs vs
  | .ls xs => ∃ vs, H a = some (.lst vs) ∧ Reps G.K W H xs vs
structure StoOk (G : Gx) (W : Wm) (H : Hp) (st : Sto) : Prop where
  obj : ∀ a n, W a = some (.obj n) → ∃ o, st[n]? = some o ∧ ObjRep G W H n a o
  uniq : ∀ a b n, W a = some (.obj n) → W b = some (.obj n) → a = b
  used : ∀ a t, W a = some t → ∃ o, H a = some o ∧ ∀ ps, o ≠ .tbl ps
  tabs : Tb G.mg G.T H
  ntup : ∀ a vs, H a = some (.tup vs) → W a = none
structure Rel (G : Gx) (W : Wm) (H : Hp) (env : Env) (st : Sto) (σ : L2.St) : Prop where
  sto : StoOk G W H st
  env : EnvOk G.K W H env σ
def Tag.held : Tag → Bool
  | .slot _ | .tmp | .ext => true
  | _ => false
/-- behind an expression (κ: one that changes nothing that stood) -/
structure Ext (κ : Bool) (W : Wm) (H : Hp) (W' : Wm) (H' : Hp) : Prop where
  fr : ∀ a o, W a = none → H a = some o → (∀ ps, o ≠ .tbl ps) → W' a = none ∧ H' a = some o
  ob : ∀ a n, W a = some (.obj n) → W' a = some (.obj n)
  hl : ∀ a t, W a = some t → (κ || t.held) = true → W' a = some t ∧ H' a = H a
  th : ∀ a o, H a = some o → (∀ ps, o ≠ .tbl ps) → ∃ o', H' a = some o' ∧ ∀ ps, o' ≠ .tbl ps
/-- behind a statement -/
structure ExtS (W : Wm) (H : Hp) (W' : Wm) (H' : Hp) : Prop where
  fr : ∀ a o, W a = none → H a = some o → (∀ ps, o ≠ .tbl ps) → W' a = none ∧ H' a = some o
  ob : ∀ a n, W a = some (.obj n) → W' a = some (.obj n)
  ex : ∀ a, W a = some .ext → W' a = some .ext ∧ H' a = H a
  th : ∀ a o, H a = some o → (∀ ps, o ≠ .tbl ps) → ∃ o', H' a = some o' ∧ ∀ ps, o' ≠ .tbl ps
section
variable {W W' W2 : Wm} {H H' H2 : Hp} {κ κ' : Bool}
theorem Ext.refl : Ext κ W H W H := ⟨fun _ _ h e _ => ⟨h, e⟩, fun _ _ h => h, fun _ _ h _ => ⟨h, rfl⟩, fun _ o h n => ⟨o, h, n⟩⟩
theorem ExtS.refl : ExtS W H W H := ⟨fun _ _ h e _ => ⟨h, e⟩, fun _ _ h => h, fun _ h => ⟨h, rfl⟩, fun _ o h n => ⟨o, h, n⟩⟩
theorem Ext.trans (a : Ext κ W H W' H') (b : Ext κ W' H' W2 H2) : Ext κ W H W2 H2 :=
  ⟨fun c o h e n => let ⟨x, y⟩ := a.fr c o h e n; b.fr c o x y n, fun c n h => b.ob c n (a.ob c n h), fun c t h k => let ⟨x, y⟩ := a.hl c t h k; let ⟨z, u⟩ := b.hl c t x k; ⟨z, u.trans y⟩, fun c o h n => let ⟨o1, h1, n1⟩ := a.th c o h n; b.th c o1 h1 n1⟩
theorem ExtS.trans (a : ExtS W H W' H') (b : ExtS W' H' W2 H2) : ExtS W H W2 H2 :=
  ⟨fun c o h e n => let ⟨x, y⟩ := a.fr c o h e n; b.fr c o x y n, fun c n h => b.ob c n (a.ob c n h), fun c h => let ⟨x, y⟩ := a.ex c h; let ⟨z, u⟩ := b.ex c x; ⟨z, u.trans y⟩, fun c o h n => let ⟨o1, h1, n1⟩ := a.th c o h n; b.th c o1 h1 n1⟩
theorem Ext.weak (a : Ext κ W H W' H') (h : κ' = true → κ = true) : Ext κ' W H W' H' := ⟨a.fr, a.ob, fun c t e z => a.hl c t e (by
  rw [Bool.or_eq_true] at z ⊢
  exact z.imp h id), a.th⟩
theorem Ext.l (a : Ext κ W H W' H') : Ext (κ && κ') W H W' H' := a.weak fun h => (Bool.and_eq_true_iff.mp h).1
theorem Ext.r (a : Ext κ' W H W' H') : Ext (κ && κ') W H W' H' := a.weak fun h => (Bool.and_eq_true_iff.mp h).2
theorem Ext.f (a : Ext κ W H W' H') : Ext false W H W' H' := a.weak fun h => by cases h
theorem Ext.s (a : Ext κ W H W' H') : ExtS W H W' H' := ⟨a.fr, a.ob, fun c h => a.hl c _ h (by simp [Tag.held]), a.th⟩
theorem upd_th {H : Hp} {p : Addr} {o : HO} (hp : H p = none) (a : Addr) (u : HO) (h : H a = some u) (n : ∀ ps, u ≠ .tbl ps) : ∃ o', upd H p o a = some o' ∧ ∀ ps, o' ≠ .tbl ps := ⟨u, by rw [upd_ne (ne_of_none h hp)]; exact h, n⟩
theorem upd_th2 {H : Hp} {p : Addr} {o : HO} (ho : ∀ ps, o ≠ .tbl ps) (a : Addr) (u : HO) (h : H a = some u) (n : ∀ ps, u ≠ .tbl ps) : ∃ o', upd H p o a = some o' ∧ ∀ ps, o' ≠ .tbl ps := by
  by_cases z : a = p
  · subst z; exact ⟨o, upd_same, ho⟩
  · exact ⟨u, by rw [upd_ne z]; exact h, n⟩
/-- nothing that counts stands there -/
def Fr (H : Hp) (p : Addr) : Prop := ∀ o, H p = some o → ∃ ps, o = .tbl ps
theorem Fr.of {H : Hp} {p : Addr} (h : H p = none) : Fr H p := fun o e => by rw [h] at e; cases e
theorem frz_ntbl {o : Obj} {u : HO} (ps : Array Value) : HO.frz o u ≠ .tbl ps := by intro z; cases z
theorem ExtS.mo (a : ExtS W H W' H') : Mo W H W' H' := ⟨fun c u h r n => by
  rcases r with r | ⟨o, r⟩
  · obtain ⟨x, y⟩ := a.fr c _ h r n.1
    exact ⟨x, .inl y⟩
  · obtain ⟨x, y⟩ := a.fr c _ h r frz_ntbl
    exact ⟨x, .inr ⟨o, y⟩⟩, a.ob, fun c vs h e => a.fr c _ h e (fun _ z => by cases z), fun c o vs h e => a.fr c _ h e (fun _ z => by cases z)⟩
theorem Ext.mo (a : Ext κ W H W' H') : Mo W H W' H' := a.s.mo
end
section
variable {K : PySem.W.Frag} {W W' : Wm} {H H' : Hp} {t : Tag}
theorem At.mono (m : Mo W H W' H') (k : ∀ a, W a = some t → W' a = some t ∧ H' a = H a) (kx : (∃ i, t = .slot i) → ∀ a, W a = some .ext → W' a = some .ext ∧ H' a = H a) : ∀ {d : D} {v : V}, At K W H t d v → At K W' H' t d v := by
  intro d v h
  cases d with
  | own ds =>
    obtain ⟨a, vs, e, h1, h2, h3⟩ := h
    obtain ⟨x, y⟩ := k a h1
    exact ⟨a, vs, e, x, y.trans h2, Reps.mono m _ _ h3⟩
  | ownd kvs =>
    obtain ⟨a, e, h1, h2⟩ := h
    obtain ⟨x, y⟩ := k a h1
    refine ⟨a, e, x, ?_⟩
    rcases h2 with ⟨ks, q, r⟩ | ⟨ks, q, r⟩
    · exact .inl ⟨ks, y.trans q, RepKc.mono m _ _ r⟩
    · exact .inr ⟨ks, y.trans q, RepTc.mono m _ _ r⟩
  | nst ds => exact OwnN.mono m k h
  | lkd kvs =>
    rcases h with h | ⟨hs, h⟩
    case inr =>
      obtain ⟨a, e, h1, h2⟩ := h
      obtain ⟨x, y⟩ := kx hs a h1
      exact .inr ⟨hs, a, e, x, h2.imp (fun ⟨ks, z, r⟩ => ⟨ks, Rd.same y z, RepKc.mono m _ _ r⟩) fun ⟨ks, z, r⟩ => ⟨ks, Rd.same y z, RepTc.mono m _ _ r⟩⟩
    obtain ⟨a, o, e, h1, h2⟩ := h
    obtain ⟨x, y⟩ := k a h1
    exact .inl ⟨a, o, e, x, h2.imp (fun ⟨ks, z, r⟩ => ⟨ks, y.trans z, RepKc.mono m _ _ r⟩) fun ⟨ks, z, r⟩ => ⟨ks, y.trans z, RepTc.mono m _ _ r⟩⟩
  | _ => exact Rep.mono m _ _ h
theorem At.of {d : D} {v : V} (h : Rep K W H d v) : At K W H t d v := by
  cases d with
  | own ds => unfold Rep at h; exact h.elim
  | ownd ds => unfold Rep at h; exact h.elim
  | lkd ds => unfold Rep at h; exact h.elim
  | nst ds => unfold Rep at h; exact h.elim
  | _ => exact h
theorem EnvOk.mono {env : Env} {σ : L2.St} (e : EnvOk K W H env σ) (m : Mo W H W' H') (k : ∀ a i, W a = some (.slot i) → W' a = some (.slot i) ∧ H' a = H a) (kx : ∀ a, W a = some .ext → W' a = some .ext ∧ H' a = H a) : EnvOk K W' H' env σ :=
  ⟨e.len, fun i d h => let ⟨v, q, r⟩ := e.at_ i d h; ⟨v, q, r.mono m (fun a => k a i) fun _ => kx⟩⟩
theorem FldsOk.mono {n : Nat} (m : Mo W H W' H') (k : ∀ a f, W a = some (.fld n f) → W' a = some (.fld n f) ∧ H' a = H a) : ∀ {fs : List (Str × D)} {vs : List (Str × V)}, FldsOk K W H n fs vs → FldsOk K W' H' n fs vs
  | [], vs, h => by simpa [FldsOk] using h
  | (f, d) :: r, vs, h => by
    unfold FldsOk at h ⊢
    obtain ⟨v, r', e, h1, h2⟩ := h
    exact ⟨v, r', e, h1.mono m (fun a => k a f) fun ⟨_, z⟩ => (by cases z), FldsOk.mono m k h2⟩
theorem ObjRep.mono {G : Gx} {n : Nat} {a : Addr} {o : SObj} (m : Mo W H W' H') (ha : H' a = H a) (k : ∀ a f, W a = some (.fld n f) → W' a = some (.fld n f) ∧ H' a = H a) (h : ObjRep G W H n a o) : ObjRep G W' H' n a o := by
  cases o with
  | ins cls fs =>
    obtain ⟨C, dx, vs, h1, h2, hn, h3⟩ := h
    exact ⟨C, dx, vs, h1, ha.trans h2, hn, h3.mono m k⟩
  | ls xs =>
    obtain ⟨vs, h1, h2⟩ := h
    exact ⟨vs, ha.trans h1, Reps.mono m _ _ h2⟩
/-- an address that is free in the heap is nobody's -/
theorem StoOk.nobody {G : Gx} {st : Sto} (s : StoOk G W H st) {a : Addr} (h : H a = none) : W a = none := by
  cases e : W a with
  | none => rfl
  | some t => obtain ⟨o, q, _⟩ := s.used a t e; rw [h] at q; cases q
end
/-! ### a new object, nobody's -/
section
variable {G : Gx} {W : Wm} {H : Hp} {env : Env} {st : Sto} {σ : L2.St} {p : Addr} {o : HO}
theorem StoOk.ne {a p : Addr} {t : Tag} (s : StoOk G W H st) (hp : H p = none) (h : W a = some t) : a ≠ p := fun z => by
  obtain ⟨o, q, _⟩ := s.used a t h
  rw [z, hp] at q; cases q
theorem StoOk.neF {a p : Addr} {t : Tag} (s : StoOk G W H st) (hp : Fr H p) (h : W a = some t) : a ≠ p := fun z => by
  obtain ⟨o, q, n⟩ := s.used a t h
  rw [z] at q
  obtain ⟨ps, e⟩ := hp o q
  exact n ps e
theorem Ext.laid {κ : Bool} (s : StoOk G W H st) (hp : H p = none) : Ext κ W H W (upd H p o) :=
  ⟨fun a u h e n => ⟨h, by rw [upd_ne (ne_of_none e hp)]; exact e⟩, fun _ _ h => h, fun a t h _ => ⟨h, upd_ne (s.ne hp h)⟩, upd_th hp⟩
/-- a state that is only more -/
theorem StoOk.more {W' : Wm} {H' : Hp} (s : StoOk G W H st) (m : Mo W H W' H') (ho : ∀ a t, W' a = some t → W a = some t ∧ H' a = H a) (hk : ∀ a n f, W a = some (.fld n f) → W' a = some (.fld n f)) (tb : Tb G.mg G.T H') : StoOk G W' H' st where
  obj := fun a n h => by
    obtain ⟨h1, h2⟩ := ho a _ h
    obtain ⟨o, e, r⟩ := s.obj a n h1
    exact ⟨o, e, r.mono m h2 fun b f hb => ⟨hk b _ _ hb, (ho b _ (hk b _ _ hb)).2⟩⟩
  uniq := fun a b n h1 h2 => s.uniq a b n (ho a _ h1).1 (ho b _ h2).1
  used := fun a t h => by
    obtain ⟨h1, h2⟩ := ho a _ h
    obtain ⟨o, q, n⟩ := s.used a t h1
    exact ⟨o, h2.trans q, n⟩
  tabs := tb
  ntup := fun a vs h => by
    cases e : W' a with
    | none => rfl
    | some t =>
      obtain ⟨h1, h2⟩ := ho a t e
      rw [h2] at h
      rw [s.ntup a vs h] at h1
      cases h1
theorem StoOk.laid (s : StoOk G W H st) (hp : H p = none) : StoOk G W (upd H p o) st :=
  s.more (Ext.laid (κ := true) s hp).mo (fun a t h => ⟨h, upd_ne (s.ne hp h)⟩) (fun _ _ _ h => h) (s.tabs.ext fun b u q => by rw [upd_ne (ne_of_none q hp)]; exact q)
theorem Rel.laid (r : Rel G W H env st σ) (hp : H p = none) : Rel G W (upd H p o) env st σ :=
  ⟨r.sto.laid hp, r.env.mono (Ext.laid (κ := true) r.sto hp).mo (fun a i h => ⟨h, upd_ne (r.sto.ne hp h)⟩) fun a h => ⟨h, upd_ne (r.sto.ne hp h)⟩⟩
end
theorem ntup_upd {W : Wm} {H : Hp} {a : Addr} {t : Tag} {o : HO} (n : ∀ b vs, H b = some (.tup vs) → W b = none) (hw : W a = some t) (hv : ∀ vs, o ≠ .tup vs) (b : Addr) (vs : List V) (h : upd H a o b = some (.tup vs)) : W b = none := by
  by_cases z : b = a
  · rw [z, upd_same] at h; exact absurd (Option.some.inj h) (hv vs)
  · rw [upd_ne z] at h; exact n b vs h
/-! ### whose a thing is, changed -/
def tagW (W : Wm) (a : Addr) (t : Option Tag) : Wm := fun b => if b = a then t else W b
theorem tagW_same {W : Wm} {a : Addr} {t : Option Tag} : tagW W a t a = t := by unfold tagW; rw [if_pos rfl]
theorem tagW_ne {W : Wm} {a b : Addr} {t : Option Tag} (h : b ≠ a) : tagW W a t b = W b := by unfold tagW; rw [if_neg h]
section
variable {G : Gx} {W : Wm} {H : Hp} {env : Env} {st : Sto} {σ : L2.St} {p : Addr} {o : HO} {t : Tag}
/-- what is no object's own is given up: nobody's -/
theorem mo_untag (h : ∀ n, W p ≠ some (.obj n)) : Mo W H (tagW W p none) H where
  fr := fun a u h r _ => ⟨by
    by_cases z : a = p
    · rw [z, tagW_same]
    · rw [tagW_ne z]; exact h, r⟩
  ob := fun a n q => by
    by_cases z : a = p
    · rw [z] at q; exact absurd q (h n)
    · rw [tagW_ne z]; exact q
  tu := fun a vs h e => ⟨by
    by_cases z : a = p
    · rw [z, tagW_same]
    · rw [tagW_ne z]; exact h, e⟩
  pt := fun a o vs h e => ⟨by
    by_cases z : a = p
    · rw [z, tagW_same]
    · rw [tagW_ne z]; exact h, e⟩
theorem StoOk.untag (s : StoOk G W H st) (h : ∀ n, W p ≠ some (.obj n)) (hf : ∀ n f, W p ≠ some (.fld n f)) : StoOk G (tagW W p none) H st :=
  s.more (mo_untag h) (fun a u q => by
    by_cases z : a = p
    · rw [z, tagW_same] at q; cases q
    · rw [tagW_ne z] at q; exact ⟨q, rfl⟩) (fun a n f q => by
    by_cases z : a = p
    · rw [z] at q; exact absurd q (hf n f)
    · rw [tagW_ne z]; exact q) s.tabs
theorem Rel.untmp (r : Rel G W H env st σ) (h : W p = some .tmp) : Rel G (tagW W p none) H env st σ :=
  ⟨r.sto.untag (fun n z => by rw [h] at z; cases z) (fun n f z => by rw [h] at z; cases z), r.env.mono (mo_untag fun n z => by rw [h] at z; cases z) (fun a i q => by
    by_cases z : a = p
    · rw [z, h] at q; cases q
    · exact ⟨by rw [tagW_ne z]; exact q, rfl⟩) fun a q => by
    by_cases z : a = p
    · rw [z, h] at q; cases q
    · exact ⟨by rw [tagW_ne z]; exact q, rfl⟩⟩
/-- a new object, held at once -/
theorem ext_laidT {κ : Bool} (s : StoOk G W H st) (hp : H p = none) : Ext κ W H (tagW W p (some t)) (upd H p o) where
  fr := fun a u h e n => by
    have z : a ≠ p := ne_of_none e hp
    exact ⟨by rw [tagW_ne z]; exact h, by rw [upd_ne z]; exact e⟩
  ob := fun a n h => by rw [tagW_ne (s.ne hp h)]; exact h
  hl := fun a u h _ => ⟨by rw [tagW_ne (s.ne hp h)]; exact h, upd_ne (s.ne hp h)⟩
  th := upd_th hp
theorem StoOk.laidT (s : StoOk G W H st) (hp : H p = none) (ht : ∀ n, t ≠ .obj n) (ho : ∀ ps, o ≠ .tbl ps) (hv : ∀ vs, o ≠ .tup vs := by intro _ z; cases z) : StoOk G (tagW W p (some t)) (upd H p o) st where
  obj := fun a n h => by
    have z : a ≠ p := fun z => by rw [z, tagW_same] at h; exact ht n (Option.some.inj h)
    rw [tagW_ne z] at h
    obtain ⟨ob, e, r⟩ := s.obj a n h
    exact ⟨ob, e, r.mono (ext_laidT (κ := true) s hp).mo (upd_ne z) fun b f q => (ext_laidT (κ := true) s hp).hl b _ q rfl⟩
  uniq := fun a b n h1 h2 => by
    have z1 : a ≠ p := fun z => by rw [z, tagW_same] at h1; exact ht n (Option.some.inj h1)
    have z2 : b ≠ p := fun z => by rw [z, tagW_same] at h2; exact ht n (Option.some.inj h2)
    rw [tagW_ne z1] at h1
    rw [tagW_ne z2] at h2
    exact s.uniq a b n h1 h2
  used := fun a u h => by
    by_cases z : a = p
    · rw [z, upd_same]; exact ⟨o, rfl, ho⟩
    · rw [tagW_ne z] at h
      rw [upd_ne z]
      exact s.used a u h
  tabs := s.tabs.ext fun b u q => by rw [upd_ne (ne_of_none q hp)]; exact q
  ntup := fun a vs h => by
    by_cases z : a = p
    · rw [z, upd_same] at h; exact absurd (Option.some.inj h) (hv vs)
    · rw [upd_ne z] at h
      rw [tagW_ne z]
      exact s.ntup a vs h
theorem Rel.laidT (r : Rel G W H env st σ) (hp : H p = none) (ht : ∀ n, t ≠ .obj n) (ho : ∀ ps, o ≠ .tbl ps) (hv : ∀ vs, o ≠ .tup vs := by intro _ z; cases z) : Rel G (tagW W p (some t)) (upd H p o) env st σ :=
  ⟨r.sto.laidT hp ht ho hv, r.env.mono (ext_laidT (κ := true) r.sto hp).mo (fun a i q => (ext_laidT (κ := true) r.sto hp).hl a _ q rfl) fun a q => (ext_laidT (κ := true) r.sto hp).hl a _ q rfl⟩
/-- a new object of the store -/
theorem StoOk.laidO {so : SObj} (s : StoOk G W H st) (hp : H p = none) (ho : ∀ ps, o ≠ .tbl ps) (hr : ObjRep G (tagW W p (some (.obj st.length))) (upd H p o) st.length p so) : StoOk G (tagW W p (some (.obj st.length))) (upd H p o) (st ++ [so]) where
  obj := fun a n h => by
    by_cases z : a = p
    · subst z
      rw [tagW_same] at h
      cases h
      exact ⟨so, by simp, hr⟩
    · rw [tagW_ne z] at h
      obtain ⟨ob, e, r⟩ := s.obj a n h
      refine ⟨ob, ?_, r.mono (ext_laidT (κ := true) s hp).mo (upd_ne z) fun b f q => (ext_laidT (κ := true) s hp).hl b _ q rfl⟩
      rw [List.getElem?_append_left (List.getElem?_eq_some_iff.mp e).1]
      exact e
  uniq := fun a b n h1 h2 => by
    have old : ∀ c, c ≠ p → tagW W p (some (.obj st.length)) c = some (.obj n) → n < st.length := fun c hc q => by
      rw [tagW_ne hc] at q
      obtain ⟨ob, e, _⟩ := s.obj c n q
      exact (List.getElem?_eq_some_iff.mp e).1
    by_cases z1 : a = p
    · by_cases z2 : b = p
      · rw [z1, z2]
      · have := old b z2 h2
        rw [z1, tagW_same] at h1
        cases h1
        omega
    · by_cases z2 : b = p
      · have := old a z1 h1
        rw [z2, tagW_same] at h2
        cases h2
        omega
      · rw [tagW_ne z1] at h1
        rw [tagW_ne z2] at h2
        exact s.uniq a b n h1 h2
  used := fun a u h => by
    by_cases z : a = p
    · rw [z, upd_same]; exact ⟨o, rfl, ho⟩
    · rw [tagW_ne z] at h
      rw [upd_ne z]
      exact s.used a u h
  tabs := s.tabs.ext fun b u q => by rw [upd_ne (ne_of_none q hp)]; exact q
  ntup := fun a vs h => by
    by_cases z : a = p
    · subst z
      cases so with
      | ins cls fs =>
        obtain ⟨C, dx, us, _, e, _⟩ := hr
        rw [e] at h; cases h
      | ls xs =>
        obtain ⟨us, e, _⟩ := hr
        rw [e] at h; cases h
    · rw [upd_ne z] at h
      rw [tagW_ne z]
      exact s.ntup a vs h
theorem Rel.laidO {so : SObj} (r : Rel G W H env st σ) (hp : H p = none) (ho : ∀ ps, o ≠ .tbl ps) (hr : ObjRep G (tagW W p (some (.obj st.length))) (upd H p o) st.length p so) : Rel G (tagW W p (some (.obj st.length))) (upd H p o) env (st ++ [so]) σ :=
  ⟨r.sto.laidO hp ho hr, r.env.mono (ext_laidT (κ := true) r.sto hp).mo (fun a i q => (ext_laidT (κ := true) r.sto hp).hl a _ q rfl) fun a q => (ext_laidT (κ := true) r.sto hp).hl a _ q rfl⟩
end
end Ev
set_option autoImplicit true
set_option maxRecDepth 100000
set_option maxHeartbeats 2000000
namespace Ev
open PySem PySem.Spec PyProof.Rows L2
/-- an exception by its class's name and its fields -/
structure Exn where
  cls : Str
  fs : List (Str × D)
inductive Res (α : Type) where
  | ok (a : α) (st : Sto)
  | exc (x : Exn) (st : Sto)
  | bad
namespace Res
variable {α β : Type}
def bind (r : Res α) (f : α → Sto → Res β) : Res β := match r with
  | .ok a st => f a st
  | .exc x st => .exc x st
  | .bad => .bad
@[simp] theorem bind_ok (a : α) (st : Sto) (f : α → Sto → Res β) : (Res.ok a st).bind f = f a st := rfl
@[simp] theorem bind_exc (x : Exn) (st : Sto) (f : α → Sto → Res β) : (Res.exc x st).bind f = .exc x st := rfl
@[simp] theorem bind_bad (f : α → Sto → Res β) : (Res.bad : Res α).bind f = .bad := rfl
end Res
/-- a pure answer, or none -/
def Res.of {α : Type} (o : Option α) (st : Sto) : Res α := match o with
  | some a => .ok a st
  | none => .bad
@[simp] theorem Res.of_some {α : Type} (a : α) (st : Sto) : Res.of (some a) st = .ok a st := rfl
@[simp] theorem Res.of_none {α : Type} (st : Sto) : Res.of (none : Option α) st = .bad := rfl
abbrev M (α : Type) := Env → Sto → Res α
def ExnRep (G : Gx) (W : Wm) (H : Hp) (x : Exn) (c : Value) (d : Option Addr) : Prop :=
  ∃ C, c = .ref C ∧ G.mg x.cls = some (.ref C) ∧ ((x.fs = [] ∧ d = none) ∨ ∃ dd f e v, x.fs = [(f, e)] ∧ d = some dd ∧ H dd = some (.xd [(f, v)]) ∧ Rep G.K W H e v)
/-- what an expression's answer asks of what is wanted -/
def Post {α β : Type} (κ : Bool) (R : Wm → Hp → α → β → Prop) (G : Gx) (Wx : WX) (W : Wm) (H : Hp) (env : Env) (σ : L2.St) (r : Res α) (Q : β → Hp → Prop) : Prop := match r with
  | .ok a st => ∀ W' H' b, Ext κ W H W' H' → Rel G W' H' env st σ → R W' H' a b → Q b H'
  | .exc x st => ∀ W' H' c d, Ext false W H W' H' → Rel G W' H' env st σ → ExnRep G W' H' x c d → Wx c d σ H'
  | .bad => False
section
variable {α β γ δ : Type} {κ κ' : Bool} {R : Wm → Hp → α → β → Prop} {R' : Wm → Hp → γ → δ → Prop} {G : Gx} {Wx : WX} {W W' : Wm} {H H' : Hp} {env : Env} {σ : L2.St}
theorem Post.ext {r : Res α} {Q : β → Hp → Prop} (h : Post κ R G Wx W H env σ r Q) (e : Ext κ W H W' H') : Post κ R G Wx W' H' env σ r Q := by
  cases r with
  | ok a st => exact fun W2 H2 b e2 r2 q => h W2 H2 b (e.trans e2) r2 q
  | exc x st => exact fun W2 H2 c d e2 r2 q => h W2 H2 c d (e.f.trans e2) r2 q
  | bad => exact h.elim
/-- a part κ' of an expression κ -/
theorem Post.bind {r : Res α} {f : α → Sto → Res γ} {Q : δ → Hp → Prop} {Q1 : β → Hp → Prop} (h : Post κ R' G Wx W H env σ (r.bind f) Q) (hk : κ = true → κ' = true)
    (k : ∀ a st' W' H' b, Ext κ' W H W' H' → Rel G W' H' env st' σ → R W' H' a b → Post κ R' G Wx W' H' env σ (f a st') Q → Q1 b H') : Post κ' R G Wx W H env σ r Q1 := by
  cases r with
  | ok a st => exact fun W' H' b e r q => k a st W' H' b e r q (h.ext (e.weak hk))
  | exc x st => exact h
  | bad => exact h.elim
theorem Post.weak {r : Res α} {Q : β → Hp → Prop} (h : Post κ R G Wx W H env σ r Q) (hk : κ = true → κ' = true) : Post κ' R G Wx W H env σ r Q := by
  cases r with
  | ok a st => exact fun W' H' b e r q => h W' H' b (e.weak hk) r q
  | exc x st => exact h
  | bad => exact h.elim
theorem Post.ok {a : α} {st : Sto} {Q : β → Hp → Prop} {b : β} (h : Post κ R G Wx W H env σ (.ok a st) Q) (r : Rel G W H env st σ) (q : R W H a b) : Q b H := h W H b Ext.refl r q
theorem Post.okE {a : α} {st : Sto} {Q : β → Hp → Prop} {b : β} (h : Post κ R G Wx W H env σ (.ok a st) Q) (e : Ext κ W H W' H') (r : Rel G W' H' env st σ) (q : R W' H' a b) : Q b H' := h W' H' b e r q
end
def Gof (X : Cx) (T : List (Addr × Str)) : Gx := ⟨X.K, X.mg, T⟩
abbrev RepR (X : Cx) : Wm → Hp → D → V → Prop := fun W H => Rep X.K W H
abbrev RepsR (X : Cx) : Wm → Hp → List D → List V → Prop := fun W H => Reps X.K W H
abbrev BoolR : Wm → Hp → Bool → Bool → Prop := fun _ _ a b => b = a
/-- what is to be read now, whoever holds it -/
def CRep (K : PySem.W.Frag) (W : Wm) (H : Hp) (d : D) (v : V) : Prop :=
  Rep K W H d v ∨ (∃ t ds, d = .lst ds ∧ OwnL K W H t ds v) ∨ (∃ t kvs, d = .dct kvs ∧ RdD K W H t kvs v) ∨ ∃ t ds, d = .nst ds ∧ OwnN K W H t ds v
abbrev CurR (X : Cx) : Wm → Hp → D → V → Prop := fun W H => CRep X.K W H
/-- what is to be read, and stands through any expression -/
def HRep (K : PySem.W.Frag) (W : Wm) (H : Hp) (d : D) (v : V) : Prop :=
  Rep K W H d v ∨ (∃ t ds, t.held = true ∧ d = .lst ds ∧ OwnL K W H t ds v) ∨ (∃ t kvs, t.held = true ∧ d = .dct kvs ∧ RdD K W H t kvs v) ∨ ∃ t ds, t.held = true ∧ d = .nst ds ∧ OwnN K W H t ds v
abbrev HeldR (X : Cx) : Wm → Hp → D → V → Prop := fun W H => HRep X.K W H
/-! ### the judgements -/
structure EVg {α : Type} (κ : Bool) (R : Wm → Hp → α → V → Prop) (T : List (Addr × Str)) (X : Cx) (Wx : WX) (e : Expr) (m : M α) : Prop where
  ex : ∃ t, PE X e t ∧ ∀ W H env st σ Q, Rel (Gof X T) W H env st σ → Post κ R (Gof X T) Wx W H env σ (m env st) Q → t σ H Q
abbrev EV (κ : Bool) (T : List (Addr × Str)) (X : Cx) (Wx : WX) (e : Expr) (m : M D) : Prop := EVg κ (RepR X) T X Wx e m
abbrev CV (κ : Bool) (T : List (Addr × Str)) (X : Cx) (Wx : WX) (e : Expr) (m : M D) : Prop := EVg κ (CurR X) T X Wx e m
structure TV (κ : Bool) (T : List (Addr × Str)) (X : Cx) (Wx : WX) (e : Expr) (m : M Bool) : Prop where
  ex : ∃ t, PT X e t ∧ ∀ W H env st σ Q, Rel (Gof X T) W H env st σ → Post κ BoolR (Gof X T) Wx W H env σ (m env st) Q → t σ H Q
structure TW (κ : Bool) (T : List (Addr × Str)) (X : Cx) (Wx : WX) (e : Expr) (m : M Bool) : Prop where
  ex : ∃ t, PW X e t ∧ ∀ W H env st σ Q, Rel (Gof X T) W H env st σ → Post κ BoolR (Gof X T) Wx W H env σ (m env st) Q → t σ H Q
structure AV (κ : Bool) (T : List (Addr × Str)) (X : Cx) (Wx : WX) (es : List Expr) (m : M (List D)) : Prop where
  ex : ∃ t, PA X es t ∧ ∀ W H env st σ Q, Rel (Gof X T) W H env st σ → Post κ (RepsR X) (Gof X T) Wx W H env σ (m env st) Q → t σ H Q
theorem TW.tv {κ : Bool} {T : List (Addr × Str)} {X : Cx} {Wx : WX} {e : Expr} {m : M Bool} (h : TW κ T X Wx e m) : TV κ T X Wx e m := by
  obtain ⟨t, h1, h2⟩ := h.ex
  exact ⟨t, h1.pt, h2⟩
/-- a relation that stands through an expression -/
def Stands {α : Type} (κ : Bool) (R : Wm → Hp → α → V → Prop) : Prop := ∀ W H W' H' a v, Ext κ W H W' H' → R W H a v → R W' H' a v
section
variable {T : List (Addr × Str)} {X : Cx} {Wx : WX} {κ κ' : Bool}
theorem Stands.rep : Stands κ (RepR X) := fun _ _ _ _ _ _ e h => Rep.mono e.mo _ _ h
theorem Stands.cur : Stands true (CurR X) := fun W H W' H' d v e h => by
  rcases h with h | ⟨t, ds, rfl, a, vs, q, h1, h2, h3⟩ | ⟨t, kvs, rfl, a, q, h1, h2⟩ | ⟨t, ds, rfl, h⟩
  · exact .inl (Rep.mono e.mo _ _ h)
  · obtain ⟨x, y⟩ := e.hl a t h1 rfl
    exact .inr (.inl ⟨t, ds, rfl, a, vs, q, x, y.trans h2, Reps.mono e.mo _ _ h3⟩)
  · obtain ⟨x, y⟩ := e.hl a t h1 rfl
    refine .inr (.inr (.inl ⟨t, kvs, rfl, a, q, x, ?_⟩))
    rcases h2 with ⟨ks, z, r⟩ | ⟨ks, z, r⟩
    · exact .inl ⟨ks, Rd.same y z, RepKc.mono e.mo _ _ r⟩
    · exact .inr ⟨ks, Rd.same y z, RepTc.mono e.mo _ _ r⟩
  · exact .inr (.inr (.inr ⟨t, ds, rfl, h.mono e.mo fun a w => e.hl a t w rfl⟩))
theorem Stands.held : Stands κ (HeldR X) := fun W H W' H' d v e h => by
  rcases h with h | ⟨t, ds, k, rfl, a, vs, q, h1, h2, h3⟩ | ⟨t, kvs, k, rfl, a, q, h1, h2⟩ | ⟨t, ds, k, rfl, h⟩
  · exact .inl (Rep.mono e.mo _ _ h)
  · obtain ⟨x, y⟩ := e.hl a t h1 (by simp [k])
    exact .inr (.inl ⟨t, ds, k, rfl, a, vs, q, x, y.trans h2, Reps.mono e.mo _ _ h3⟩)
  · obtain ⟨x, y⟩ := e.hl a t h1 (by simp [k])
    refine .inr (.inr (.inl ⟨t, kvs, k, rfl, a, q, x, ?_⟩))
    rcases h2 with ⟨ks, z, r⟩ | ⟨ks, z, r⟩
    · exact .inl ⟨ks, Rd.same y z, RepKc.mono e.mo _ _ r⟩
    · exact .inr ⟨ks, Rd.same y z, RepTc.mono e.mo _ _ r⟩
  · exact .inr (.inr (.inr ⟨t, ds, k, rfl, h.mono e.mo fun a w => e.hl a t w (by simp [k])⟩))
/-- a relation is another one's -/
theorem EVg.imp {α : Type} {R R' : Wm → Hp → α → V → Prop} {e : Expr} {m : M α} (h : EVg κ R T X Wx e m) (hr : ∀ W H a v, R W H a v → R' W H a v) : EVg κ R' T X Wx e m := by
  obtain ⟨t, h1, h2⟩ := h.ex
  refine ⟨t, h1, fun W H env st σ Q r p => h2 W H env st σ Q r ?_⟩
  cases e : m env st with
  | ok a st' => rw [e] at p; exact fun W' H' b x y z => p W' H' b x y (hr _ _ _ _ z)
  | exc x st' => rw [e] at p; exact p
  | bad => rw [e] at p; exact p
theorem EVg.map {α β : Type} {R : Wm → Hp → α → V → Prop} {R' : Wm → Hp → β → V → Prop} {e : Expr} {m : M α} (f : α → β) (h : EVg κ R T X Wx e m) (hr : ∀ W H a v, R W H a v → R' W H (f a) v) : EVg κ R' T X Wx e (fun env st => (m env st).bind fun a st' => .ok (f a) st') := by
  obtain ⟨t, h1, h2⟩ := h.ex
  refine ⟨t, h1, fun W H env st σ Q r p => h2 W H env st σ Q r ?_⟩
  exact p.bind id fun a st' W' H' b e r q p' => p'.ok r (hr _ _ _ _ q)
theorem EVg.low {α : Type} {R : Wm → Hp → α → V → Prop} {e : Expr} {m : M α} (h : EVg κ R T X Wx e m) : EVg false R T X Wx e m := by
  obtain ⟨t, h1, h2⟩ := h.ex
  exact ⟨t, h1, fun W H env st σ Q r p => h2 W H env st σ Q r (p.weak fun z => by cases z)⟩
end
section
variable {T : List (Addr × Str)} {X : Cx} {Wx : WX} {κ κ' : Bool} {a b c e : Expr} {ma mb mc : M D} {pos p : Pos}
/-! ### names and constants -/
def mVar (i : Nat) : M D := fun env st => match env[i]? with
  | some (some (.own _)) | some (some (.ownd _)) | some (some (.lkd _)) | some (some (.nst _)) | some none | none => .bad
  | some (some d) => .ok d st
def D.cur : D → D
  | .own xs => .lst xs
  | .ownd xs => .dct xs
  | .lkd xs => .dct xs
  | d => d
def mVarC (i : Nat) : M D := fun env st => match env[i]? with
  | some none | none => .bad
  | some (some d) => .ok d.cur st
def mK (d : D) : M D := fun _ st => .ok d st
theorem mVar_some {env : Env} {i : Nat} {st st' : Sto} {d : D} (h : mVar i env st = .ok d st') : st' = st ∧ env[i]? = some (some d) ∧ (∀ xs, d ≠ .own xs) ∧ (∀ xs, d ≠ .ownd xs) ∧ (∀ xs, d ≠ .lkd xs) ∧ ∀ xs, d ≠ .nst xs := by
  unfold mVar at h
  split at h
  all_goals first | cases h | skip
  rename_i h1 h2 h3 h4 e
  exact ⟨rfl, e, fun xs z => h1 xs (by subst z; rfl), fun xs z => h2 xs (by subst z; rfl), fun xs z => h3 xs (by subst z; rfl), fun xs z => h4 xs (by subst z; rfl)⟩
theorem At.rep {K : PySem.W.Frag} {W : Wm} {H : Hp} {t : Tag} {d : D} {v : V} (h : At K W H t d v) (n1 : ∀ xs, d ≠ .own xs) (n2 : ∀ xs, d ≠ .ownd xs) (n3 : ∀ xs, d ≠ .lkd xs) (n4 : ∀ xs, d ≠ .nst xs) : Rep K W H d v := by
  cases d with
  | own xs => exact absurd rfl (n1 xs)
  | ownd xs => exact absurd rfl (n2 xs)
  | lkd xs => exact absurd rfl (n3 xs)
  | nst xs => exact absurd rfl (n4 xs)
  | _ => exact h
theorem At.cur {K : PySem.W.Frag} {W : Wm} {H : Hp} {t : Tag} {d : D} {v : V} (h : At K W H t d v) : CRep K W H d.cur v := by
  cases d with
  | own xs => exact .inr (.inl ⟨t, xs, rfl, h⟩)
  | ownd xs => exact .inr (.inr (.inl ⟨t, xs, rfl, OwnD.rd h⟩))
  | nst xs => exact .inr (.inr (.inr ⟨t, xs, rfl, h⟩))
  | lkd xs => exact h.elim (fun h => .inr (.inr (.inl ⟨t, xs, rfl, LckD.rd h⟩))) fun h => .inr (.inr (.inl ⟨.ext, xs, rfl, h.2⟩))
  | _ => exact .inl h
theorem ev_var (i : Nat) {x : Str} (hN : X.N[i]? = some x := by rfl) (hv : Vis X.env.scope x := by first | exact Or.inl rfl | exact Or.inr (Or.inl rfl) | exact Or.inr (Or.inr rfl)) (hd : (x == ("__debug__" : Str)) = false := by decide)
    (hcd : (x == ("__classdict__" : Str)) = false := by decide) : EV true T X Wx (.Name x pos) (mVar i) :=
  ⟨_, pe_var hN hv hd hcd, fun W H env st σ Q r h => by
    cases em : mVar i env st with
    | ok d st' =>
      obtain ⟨rfl, e, n1, n2, n3, n4⟩ := mVar_some em
      obtain ⟨v, q1, q2⟩ := r.env.at_ i d e
      rw [em] at h
      exact ⟨v, q1, h.ok r (q2.rep n1 n2 n3 n4)⟩
    | exc x st' => unfold mVar at em; split at em <;> cases em
    | bad => rw [em] at h; exact h.elim⟩
theorem ev_int {i : Int} {j : Nat} : EV true T X Wx (.Constant (.int i) j pos) (mK (.int i)) := ⟨_, pe_int, fun _ _ _ _ _ _ r h => h.ok r (by simp [Rep])⟩
theorem ev_bl {i : Bool} {j : Nat} : EV true T X Wx (.Constant (.bool i) j pos) (mK (.bl i)) := ⟨_, pe_bl, fun _ _ _ _ _ _ r h => h.ok r (by simp [Rep])⟩
theorem ev_str {i : Str} {j : Nat} : EV true T X Wx (.Constant (.str i) j pos) (mK (.str i)) := ⟨_, pe_str, fun _ _ _ _ _ _ r h => h.ok r (by simp [Rep])⟩
/-! ### two things, one after the other -/
def mBin {α β γ : Type} (ma : M α) (mb : M β) (f : α → β → Sto → Res γ) : M γ := fun env st => (ma env st).bind fun x st1 => (mb env st1).bind fun y st2 => f x y st2
def mUn {α γ : Type} (ma : M α) (f : α → Sto → Res γ) : M γ := fun env st => (ma env st).bind fun x st1 => f x st1
/-- a two-place reading over values, and its law on contents -/
def Op2 {α β γ : Type} (κ : Bool) (R1 : Wm → Hp → α → V → Prop) (R2 : Wm → Hp → β → V → Prop) (R3 : Wm → Hp → γ → V → Prop) (T : List (Addr × Str)) (X : Cx) (Wx : WX) (r : L2.R2) (f : α → β → Sto → Res γ) : Prop :=
  ∀ W H env st σ x y d1 d2 Q, Rel (Gof X T) W H env st σ → R1 W H d1 x → R2 W H d2 y → Post κ R3 (Gof X T) Wx W H env σ (f d1 d2 st) Q → r x y H Q
theorem and3 {κ1 κ2 κ3 : Bool} : ((κ1 && κ2) && κ3) = true → κ1 = true := by intro h; simp at h; exact h.1.1
theorem and32 {κ1 κ2 κ3 : Bool} : ((κ1 && κ2) && κ3) = true → κ2 = true := by intro h; simp at h; exact h.1.2
theorem and33 {κ1 κ2 κ3 : Bool} : ((κ1 && κ2) && κ3) = true → κ3 = true := by intro h; simp at h; exact h.2
theorem and21 {κ1 κ2 : Bool} : (κ1 && κ2) = true → κ1 = true := by intro h; simp at h; exact h.1
theorem and22 {κ1 κ2 : Bool} : (κ1 && κ2) = true → κ2 = true := by intro h; simp at h; exact h.2
section
variable {α β γ : Type} {R1 : Wm → Hp → α → V → Prop} {R2 : Wm → Hp → β → V → Prop} {R3 : Wm → Hp → γ → V → Prop} {na : M α} {nb : M β} {κa κb : Bool}
theorem op2_pair {ta tb : TE} {r : L2.R2} {f : α → β → Sto → Res γ} (S : Stands κb R1) (o : Op2 true R1 R2 R3 T X Wx r f)
    (ha : ∀ W H env st σ Q, Rel (Gof X T) W H env st σ → Post κa R1 (Gof X T) Wx W H env σ (na env st) Q → ta σ H Q) (hb : ∀ W H env st σ Q, Rel (Gof X T) W H env st σ → Post κb R2 (Gof X T) Wx W H env σ (nb env st) Q → tb σ H Q) :
    ∀ W H env st σ Q, Rel (Gof X T) W H env st σ → Post (κa && κb) R3 (Gof X T) Wx W H env σ (mBin na nb f env st) Q → tOp r ta tb σ H Q := fun W H env st σ Q rl h =>
  ha _ _ _ _ _ _ rl (h.bind and21 fun x st1 W1 H1 v e1 r1 q1 h1 => hb _ _ _ _ _ _ r1 (h1.bind and22 fun y st2 W2 H2 u e2 r2 q2 h2 => o W2 H2 env st2 σ v u x y Q r2 (S _ _ _ _ _ _ e2 q1) q2 (h2.weak fun _ => rfl)))
theorem ev_op {op : Operator} {r : L2.R2} {f : α → β → Sto → Res γ} (ho : OpR X (binaryOp op) r) (S : Stands κb R1) (o : Op2 true R1 R2 R3 T X Wx r f) (ha : EVg κa R1 T X Wx a na) (hb : EVg κb R2 T X Wx b nb) : EVg (κa && κb) R3 T X Wx (.BinOp a op b pos) (mBin na nb f) := by
  obtain ⟨ta, pa, ra⟩ := ha.ex
  obtain ⟨tb, pb, rb⟩ := hb.ex
  exact ⟨_, pe_op ho pa pb, op2_pair S o ra rb⟩
theorem ev_cmpR {op : CmpOp} {r : L2.R2} {f : α → β → Sto → Res γ} (ho : OpR X (compareOp op) r) (S : Stands κb R1) (o : Op2 true R1 R2 R3 T X Wx r f) (hm : behindInMarks op b = false) (ha : EVg κa R1 T X Wx a na) (hb : EVg κb R2 T X Wx b nb) : EVg (κa && κb) R3 T X Wx (.Compare a [op] [b] pos) (mBin na nb f) := by
  obtain ⟨ta, pa, ra⟩ := ha.ex
  obtain ⟨tb, pb, rb⟩ := hb.ex
  exact ⟨_, pe_cmpR ho pa pb hm, op2_pair S o ra rb⟩
end
/-- a value-level op that changes nothing -/
def pure2 {α β γ : Type} (f : α → β → Option γ) : α → β → Sto → Res γ := fun x y st => Res.of (f x y) st
/-! ### ints -/
def dAdd : D → D → Option D
  | .int i, .int j => some (.int (i + j))
  | .str x, .str y => if x.length + y.length ≤ sizeLine then some (.str (x ++ y)) else none
  | _, _ => none
def dSub : D → D → Option D
  | .int i, .int j => some (.int (i - j))
  | _, _ => none
def dMul : D → D → Option D
  | .int i, .int j => if (-(2 ^ 64) < i ∧ i < 2 ^ 64) ∨ (-(2 ^ 64) < j ∧ j < 2 ^ 64) then some (.int (i * j)) else none
  | _, _ => none
def dDiv : D → D → Option D
  | .int i, .int j => if 0 < j ∧ j < 1073741824 then some (.int (i / j)) else none
  | _, _ => none
def dMod : D → D → Option D
  | .int i, .int j => if 0 < j then some (.int (i % j)) else none
  | _, _ => none
theorem rep_int {K : PySem.W.Frag} {W : Wm} {H : Hp} {i : Int} {v : V} : Rep K W H (.int i) v ↔ v = .int i := by simp [Rep]
theorem rep_str {K : PySem.W.Frag} {W : Wm} {H : Hp} {i : Str} {v : V} : Rep K W H (.str i) v ↔ v = .str i := by simp [Rep]
theorem rep_bl {K : PySem.W.Frag} {W : Wm} {H : Hp} {i : Bool} {v : V} : Rep K W H (.bl i) v ↔ v = .bl i := by simp [Rep]
theorem rep_non {K : PySem.W.Frag} {W : Wm} {H : Hp} {v : V} : Rep K W H .non v ↔ v = .non := by simp [Rep]
theorem op2_of {f : D → D → Option D} {r : L2.R2} (h : ∀ W H x y d1 d2 d Q, Rep X.K W H d1 x → Rep X.K W H d2 y → f d1 d2 = some d → (∀ v, Rep X.K W H d v → Q v H) → r x y H Q) : Op2 true (RepR X) (RepR X) (RepR X) T X Wx r (pure2 f) := by
  intro W H env st σ x y d1 d2 Q rl h1 h2 hp
  unfold pure2 at hp
  cases e : f d1 d2 with
  | none => rw [e] at hp; exact hp.elim
  | some d => rw [e] at hp; exact h W H x y d1 d2 d Q h1 h2 e fun v q => hp.ok rl q
theorem opr_add : OpR X (binaryOp .Add) (fun x y H Q => rI0 (fun i j => .int (i + j)) x y H Q ∨ ∃ i j, x = .str i ∧ y = .str j ∧ i.length + j.length ≤ sizeLine ∧ Q (.str (i ++ j)) H) := op_add.or op_add_str
theorem op2_add : Op2 true (RepR X) (RepR X) (RepR X) T X Wx (fun x y H Q => rI0 (fun i j => .int (i + j)) x y H Q ∨ ∃ i j, x = .str i ∧ y = .str j ∧ i.length + j.length ≤ sizeLine ∧ Q (.str (i ++ j)) H) (pure2 dAdd) := op2_of fun W H x y d1 d2 d Q h1 h2 e q => by
  unfold dAdd at e
  split at e
  · cases e; rw [rep_int] at h1 h2; exact .inl ⟨_, _, h1, h2, q _ (rep_int.mpr rfl)⟩
  · split at e
    · cases e; rw [rep_str] at h1 h2; exact .inr ⟨_, _, h1, h2, by assumption, q _ (rep_str.mpr rfl)⟩
    · cases e
  · cases e
theorem op2_sub : Op2 true (RepR X) (RepR X) (RepR X) T X Wx (rI0 fun i j => .int (i - j)) (pure2 dSub) := op2_of fun W H x y d1 d2 d Q h1 h2 e q => by
  unfold dSub at e
  split at e
  · cases e; rw [rep_int] at h1 h2; exact ⟨_, _, h1, h2, q _ (rep_int.mpr rfl)⟩
  · cases e
theorem op2_mul : Op2 true (RepR X) (RepR X) (RepR X) T X Wx (rI CMul fun i j => .int (i * j)) (pure2 dMul) := op2_of fun W H x y d1 d2 d Q h1 h2 e q => by
  unfold dMul at e
  split at e
  · split at e
    · cases e; rw [rep_int] at h1 h2; exact ⟨_, _, h1, h2, by assumption, q _ (rep_int.mpr rfl)⟩
    · cases e
  · cases e
theorem op2_div : Op2 true (RepR X) (RepR X) (RepR X) T X Wx (rI CDiv fun i j => .int (i / j)) (pure2 dDiv) := op2_of fun W H x y d1 d2 d Q h1 h2 e q => by
  unfold dDiv at e
  split at e
  · split at e
    · cases e; rw [rep_int] at h1 h2; exact ⟨_, _, h1, h2, by assumption, q _ (rep_int.mpr rfl)⟩
    · cases e
  · cases e
theorem op2_mod : Op2 true (RepR X) (RepR X) (RepR X) T X Wx (rI (fun _ j => 0 < j) fun i j => .int (i % j)) (pure2 dMod) := op2_of fun W H x y d1 d2 d Q h1 h2 e q => by
  unfold dMod at e
  split at e
  · split at e
    · cases e; rw [rep_int] at h1 h2; exact ⟨_, _, h1, h2, by assumption, q _ (rep_int.mpr rfl)⟩
    · cases e
  · cases e
theorem ev_add (ha : EV κ T X Wx a ma) (hb : EV κ' T X Wx b mb) : EV (κ && κ') T X Wx (.BinOp a .Add b pos) (mBin ma mb (pure2 dAdd)) := ev_op opr_add Stands.rep op2_add ha hb
theorem ev_sub (ha : EV κ T X Wx a ma) (hb : EV κ' T X Wx b mb) : EV (κ && κ') T X Wx (.BinOp a .Sub b pos) (mBin ma mb (pure2 dSub)) := ev_op op_sub Stands.rep op2_sub ha hb
theorem ev_mul (ha : EV κ T X Wx a ma) (hb : EV κ' T X Wx b mb) : EV (κ && κ') T X Wx (.BinOp a .Mult b pos) (mBin ma mb (pure2 dMul)) := ev_op op_mul Stands.rep op2_mul ha hb
theorem ev_div (ha : EV κ T X Wx a ma) (hb : EV κ' T X Wx b mb) : EV (κ && κ') T X Wx (.BinOp a .FloorDiv b pos) (mBin ma mb (pure2 dDiv)) := ev_op op_fdiv Stands.rep op2_div ha hb
theorem ev_mod (ha : EV κ T X Wx a ma) (hb : EV κ' T X Wx b mb) : EV (κ && κ') T X Wx (.BinOp a .Mod b pos) (mBin ma mb (pure2 dMod)) := ev_op op_mod Stands.rep op2_mod ha hb
end
end Ev
set_option autoImplicit true
set_option maxRecDepth 100000
set_option maxHeartbeats 4000000
/-! == and != of contents -/
namespace Ev
open PySem PySem.Spec PyProof.Rows L2
mutual
def D.eqv : D → D → Bool
  | .non, .non => true
  | .bl a, .bl b => a == b
  | .bl a, .int j => (if a then 1 else 0) == j
  | .int i, .bl b => i == (if b then 1 else 0)
  | .int i, .int j => i == j
  | .str x, .str y => x == y
  | .tup xs, .tup ys => eqvL xs ys
  | .ptp xs, .ptp ys => eqvL xs ys
  | .ptp xs, .tup ys => eqvL xs ys
  | .tup xs, .ptp ys => eqvL xs ys
  | .lst xs, .lst ys => eqvL xs ys
  | _, _ => false
def eqvL : List D → List D → Bool
  | [], [] => true
  | x :: xs, y :: ys => D.eqv x y && eqvL xs ys
  | _, _ => false
end
/-- plain data, n deep at most -/
def okN : Nat → D → Bool
  | _, .non => true
  | _, .bl _ => true
  | _, .int _ => true
  | _, .str _ => true
  | n + 1, .tup xs => xs.all (okN n)
  | n + 1, .lst xs => xs.all (okN n)
  | n + 1, .ptp xs => xs.all (okN n)
  | _, _ => false
theorem okN_lst {n : Nat} {xs : List D} (h : okN (n + 1) (.lst xs) = true) : ∀ d ∈ xs, okN n d = true := by unfold okN at h; exact List.all_eq_true.mp h
theorem okN_tup {n : Nat} {xs : List D} (h : okN (n + 1) (.tup xs) = true) : ∀ d ∈ xs, okN n d = true := by unfold okN at h; exact List.all_eq_true.mp h
theorem okN_ptp {n : Nat} {xs : List D} (h : okN (n + 1) (.ptp xs) = true) : ∀ d ∈ xs, okN n d = true := by unfold okN at h; exact List.all_eq_true.mp h
theorem okN_pt {n : Nat} {xs : List D} (h : okN n (.ptp xs) = true) : okN n (.tup xs) = true := by
  cases n with
  | zero => simp [okN] at h
  | succ n => unfold okN at h ⊢; exact h
theorem eqv_pt {xs ys : List D} : D.eqv (.ptp xs) (.tup ys) = D.eqv (.tup xs) (.tup ys) := by rw [D.eqv, D.eqv]
theorem eqv_tp {xs ys : List D} : D.eqv (.tup xs) (.ptp ys) = D.eqv (.tup xs) (.tup ys) := by rw [D.eqv, D.eqv]
theorem eqv_pp {xs ys : List D} : D.eqv (.ptp xs) (.ptp ys) = D.eqv (.tup xs) (.tup ys) := by rw [D.eqv, D.eqv]
def noW : Wm := fun _ => none
section
variable {K : PySem.W.Frag} {W : Wm} {H : Hp}
theorem rep_lst {ds : List D} {v : V} : Rep K W H (.lst ds) v ↔ ∃ a vs, v = .ref a ∧ LstAt K W H a vs ∧ Reps K W H ds vs := by rw [Rep]
theorem rep_tup {ds : List D} {v : V} : Rep K W H (.tup ds) v ↔ ∃ a vs, v = .ref a ∧ TupAt K W H a vs ∧ Reps K W H ds vs := by rw [Rep]
theorem rep_ptp {ds : List D} {v : V} : Rep K W H (.ptp ds) v ↔ ∃ a vs, v = .ref a ∧ PtpAt K W H a vs ∧ Reps K W H ds vs := by rw [Rep]
theorem PtpAt.noW {a : Addr} {vs : List V} (h : PtpAt K W H a vs) : PtpAt K noW H a vs := h.imp (fun q => ⟨rfl, q.2⟩) id
theorem rep_loc {n : Nat} {v : V} : Rep K W H (.loc n) v ↔ ∃ a, v = .ref a ∧ W a = some (.obj n) := by rw [Rep]
theorem LstAt.noW {a : Addr} {vs : List V} (h : LstAt K W H a vs) : LstAt K noW H a vs := h.elim (fun q => .inl ⟨rfl, q.2⟩) .inr
theorem TupAt.noW {a : Addr} {vs : List V} (h : TupAt K W H a vs) : TupAt K noW H a vs := ⟨rfl, h.2⟩
theorem Reps.all {W' : Wm} {H' : Hp} : ∀ {ds : List D} {vs : List V}, (∀ d ∈ ds, ∀ v, Rep K W H d v → Rep K W' H' d v) → Reps K W H ds vs → Reps K W' H' ds vs
  | [], vs, _, h => by unfold Reps at h ⊢; exact h
  | d :: ds, vs, k, h => by
    unfold Reps at h
    obtain ⟨v, r, e, h1, h2⟩ := h
    subst e
    exact Reps.cons (k d (by simp) v h1) (Reps.all (fun d' hd => k d' (by simp [hd])) h2)
/-- plain data stand whoever holds what -/
theorem rep_data : ∀ (n : Nat) (d : D) (v : V), okN n d = true → Rep K W H d v → Rep K noW H d v := by
  intro n
  induction n with
  | zero =>
    intro d v o h
    cases d with
    | non => exact rep_non.mpr (rep_non.mp h)
    | bl b => exact rep_bl.mpr (rep_bl.mp h)
    | int b => exact rep_int.mpr (rep_int.mp h)
    | str b => exact rep_str.mpr (rep_str.mp h)
    | _ => simp [okN] at o
  | succ n ih =>
    intro d v o h
    cases d with
    | non => exact rep_non.mpr (rep_non.mp h)
    | bl b => exact rep_bl.mpr (rep_bl.mp h)
    | int b => exact rep_int.mpr (rep_int.mp h)
    | str b => exact rep_str.mpr (rep_str.mp h)
    | lst xs =>
      obtain ⟨a, vs, e, l, r⟩ := rep_lst.mp h
      exact rep_lst.mpr ⟨a, vs, e, l.noW, r.all fun d hd v => ih d v (okN_lst o d hd)⟩
    | tup xs =>
      obtain ⟨a, vs, e, l, r⟩ := rep_tup.mp h
      exact rep_tup.mpr ⟨a, vs, e, l.noW, r.all fun d hd v => ih d v (okN_tup o d hd)⟩
    | ptp xs =>
      obtain ⟨a, vs, e, l, r⟩ := rep_ptp.mp h
      exact rep_ptp.mpr ⟨a, vs, e, l.noW, r.all fun d hd v => ih d v (okN_ptp o d hd)⟩
    | _ => simp [okN] at o
theorem cur_data {n : Nat} {d : D} {v : V} (o : okN n d = true) (h : CRep K W H d v) : Rep K noW H d v := by
  rcases h with h | ⟨t, ds, rfl, a, vs, e, h1, h2, h3⟩ | ⟨t, kvs, rfl, _⟩ | ⟨t, ds, rfl, _⟩
  · exact rep_data n d v o h
  · cases n with
    | zero => simp [okN] at o
    | succ n => exact rep_lst.mpr ⟨a, vs, e, .inl ⟨rfl, .inl h2⟩, h3.all fun d hd v => rep_data n d v (okN_lst o d hd)⟩
  · cases n <;> simp [okN] at o
  · cases n <;> simp [okN] at o
end
theorem eqvL_range : ∀ xs ys : List D, ((List.range (min xs.length ys.length)).all (fun j => D.eqv (xs.getD j .non) (ys.getD j .non)) && xs.length == ys.length) = eqvL xs ys
  | [], [] => rfl
  | [], _ :: _ => by simp [eqvL]
  | _ :: _, [] => by simp [eqvL]
  | x :: xs, y :: ys => by
    have h := eqvL_range xs ys
    have m : min (x :: xs).length (y :: ys).length = min xs.length ys.length + 1 := by simp only [List.length_cons]; omega
    rw [m, List.range_succ_eq_map, List.all_cons, List.all_map, eqvL, ← h, ← Bool.and_assoc]
    congr 1
    simp
theorem eqvL_same {xs ys : List D} (h : xs.length = ys.length) : (List.range xs.length).all (fun j => D.eqv (xs.getD j .non) (ys.getD j .non)) = eqvL xs ys := by
  have q := eqvL_range xs ys
  rw [← h, Nat.min_self] at q
  simpa using q
theorem eqvL_other {xs ys : List D} (h : xs.length ≠ ys.length) : eqvL xs ys = false := by
  rw [← eqvL_range xs ys]; simp [h]
section
variable {X : Cx} {pins : List (Addr × Obj)} {σ : L2.St} {H : Hp} {s : Shared}
theorem rep_inj (I : Inv X pins σ H s) : ∀ (n : Nat) (d e : D) (v : V), okN n d = true → okN n e = true → Rep X.K noW H d v → Rep X.K noW H e v → ∀ c, D.eqv d c = D.eqv e c := by
  intro n
  induction n with
  | zero =>
    intro d e v o1 o2 h1 h2
    cases d with
    | non => rw [rep_non] at h1; subst h1; cases e <;> first | (intro c; rfl) | (simp [okN] at o2; done) | (simp [Rep] at h2; done)
    | bl b => rw [rep_bl] at h1; subst h1; cases e <;> first | (simp [okN] at o2; done) | (simp [Rep] at h2; done) | (simp [Rep] at h2; simp [h2])
    | int b => rw [rep_int] at h1; subst h1; cases e <;> first | (simp [okN] at o2; done) | (simp [Rep] at h2; done) | (simp [Rep] at h2; simp [h2])
    | str b => rw [rep_str] at h1; subst h1; cases e <;> first | (simp [okN] at o2; done) | (simp [Rep] at h2; done) | (simp [Rep] at h2; simp [h2])
    | _ => simp [okN] at o1
  | succ n ih =>
    intro d e v o1 o2 h1 h2
    have lists : ∀ (xs ys : List D) (vs : List V), (∀ d ∈ xs, okN n d = true) → (∀ d ∈ ys, okN n d = true) → Reps X.K noW H xs vs → Reps X.K noW H ys vs → ∀ cs, eqvL xs cs = eqvL ys cs := by
      intro xs
      induction xs with
      | nil =>
        intro ys vs _ _ q1 q2
        unfold Reps at q1; subst q1
        cases ys with
        | nil => intro cs; rfl
        | cons y ys => unfold Reps at q2; obtain ⟨_, _, z, _⟩ := q2; cases z
      | cons x xs ihx =>
        intro ys vs k1 k2 q1 q2
        unfold Reps at q1
        obtain ⟨v, r, rfl, q1, q1'⟩ := q1
        cases ys with
        | nil => unfold Reps at q2; cases q2
        | cons y ys =>
          unfold Reps at q2
          obtain ⟨v', r', z, q2, q2'⟩ := q2
          cases z
          intro cs
          cases cs with
          | nil => simp [eqvL]
          | cons c cs => rw [eqvL, eqvL, ih x y v (k1 x (by simp)) (k2 y (by simp)) q1 q2 c, ihx ys r (fun d hd => k1 d (by simp [hd])) (fun d hd => k2 d (by simp [hd])) q1' q2' cs]
    cases d with
    | non => rw [rep_non] at h1; subst h1; cases e <;> first | (intro c; rfl) | (simp [okN] at o2; done) | (simp [Rep] at h2; done)
    | bl b => rw [rep_bl] at h1; subst h1; cases e <;> first | (simp [okN] at o2; done) | (simp [Rep] at h2; done) | (simp [Rep] at h2; simp [h2])
    | int b => rw [rep_int] at h1; subst h1; cases e <;> first | (simp [okN] at o2; done) | (simp [Rep] at h2; done) | (simp [Rep] at h2; simp [h2])
    | str b => rw [rep_str] at h1; subst h1; cases e <;> first | (simp [okN] at o2; done) | (simp [Rep] at h2; done) | (simp [Rep] at h2; simp [h2])
    | lst xs =>
      obtain ⟨a, vs, rfl, l, r⟩ := rep_lst.mp h1
      cases e with
      | lst ys =>
        obtain ⟨a', vs', z, l', r'⟩ := rep_lst.mp h2
        cases z
        have := I.list_inj l.sq l'.sq
        subst this
        have hl := lists xs ys _ (okN_lst o1) (okN_lst o2) r r'
        intro c
        cases c <;> simp [D.eqv, hl]
      | tup ys =>
        obtain ⟨a', vs', z, l', r'⟩ := rep_tup.mp h2
        cases z
        obtain ⟨_, _, pl, _⟩ := I.list l.sq
        obtain ⟨_, _, pt, _⟩ := I.tuple l'.sq
        exact absurd rfl (SeqAt.ne_of_list_tuple pl.isList pt)
      | ptp ys =>
        obtain ⟨a', vs', z, l', r'⟩ := rep_ptp.mp h2
        cases z
        obtain ⟨_, _, pl, _⟩ := I.list l.sq
        obtain ⟨_, _, pt, _⟩ := I.tuple (l'.sq (K := X.K))
        exact absurd rfl (SeqAt.ne_of_list_tuple pl.isList pt)
      | _ => first | (simp [okN] at o2; done) | (simp [Rep] at h2; done)
    | tup xs =>
      obtain ⟨a, vs, rfl, l, r⟩ := rep_tup.mp h1
      cases e with
      | tup ys =>
        obtain ⟨a', vs', z, l', r'⟩ := rep_tup.mp h2
        cases z
        have := I.tuple_inj l.sq l'.sq
        subst this
        have hl := lists xs ys _ (okN_tup o1) (okN_tup o2) r r'
        intro c
        cases c <;> simp [D.eqv, hl]
      | lst ys =>
        obtain ⟨a', vs', z, l', r'⟩ := rep_lst.mp h2
        cases z
        obtain ⟨_, _, pl, _⟩ := I.list l'.sq
        obtain ⟨_, _, pt, _⟩ := I.tuple l.sq
        exact absurd rfl (SeqAt.ne_of_list_tuple pl.isList pt)
      | ptp ys =>
        obtain ⟨a', vs', z, l', r'⟩ := rep_ptp.mp h2
        cases z
        have := I.tuple_inj l.sq (l'.sq (K := X.K))
        subst this
        have hl := lists xs ys _ (okN_tup o1) (okN_ptp o2) r r'
        intro c
        cases c <;> simp [D.eqv, hl]
      | _ => first | (simp [okN] at o2; done) | (simp [Rep] at h2; done)
    | ptp xs =>
      obtain ⟨a, vs, rfl, l, r⟩ := rep_ptp.mp h1
      cases e with
      | ptp ys =>
        obtain ⟨a', vs', z, l', r'⟩ := rep_ptp.mp h2
        cases z
        have := I.tuple_inj (l.sq (K := X.K)) (l'.sq (K := X.K))
        subst this
        have hl := lists xs ys _ (okN_ptp o1) (okN_ptp o2) r r'
        intro c
        cases c <;> simp [D.eqv, hl]
      | tup ys =>
        obtain ⟨a', vs', z, l', r'⟩ := rep_tup.mp h2
        cases z
        have := I.tuple_inj (l.sq (K := X.K)) l'.sq
        subst this
        have hl := lists xs ys _ (okN_ptp o1) (okN_tup o2) r r'
        intro c
        cases c <;> simp [D.eqv, hl]
      | lst ys =>
        obtain ⟨a', vs', z, l', r'⟩ := rep_lst.mp h2
        cases z
        obtain ⟨_, _, pl, _⟩ := I.list l'.sq
        obtain ⟨_, _, pt, _⟩ := I.tuple (l.sq (K := X.K))
        exact absurd rfl (SeqAt.ne_of_list_tuple pl.isList pt)
      | _ => first | (simp [okN] at o2; done) | (simp [Rep] at h2; done)
    | _ => simp [okN] at o1
theorem eqvL_refl : ∀ {xs : List D}, (∀ d ∈ xs, D.eqv d d = true) → eqvL xs xs = true
  | [], _ => by simp [eqvL]
  | x :: xs, h => by rw [eqvL, h x (by simp), eqvL_refl fun d hd => h d (by simp [hd])]; rfl
theorem eqv_refl : ∀ (n : Nat) (d : D), okN n d = true → D.eqv d d = true := by
  intro n
  induction n with
  | zero => intro d o; cases d <;> first | (simp [okN] at o; done) | simp [D.eqv]
  | succ n ih =>
    intro d o
    cases d with
    | lst xs => rw [D.eqv]; exact eqvL_refl fun d hd => ih d (okN_lst o d hd)
    | tup xs => rw [D.eqv]; exact eqvL_refl fun d hd => ih d (okN_tup o d hd)
    | ptp xs => rw [D.eqv]; exact eqvL_refl fun d hd => ih d (okN_ptp o d hd)
    | _ => first | (simp [okN] at o; done) | simp [D.eqv]
theorem eq_items {n : Nat} {A : Around} (ih : ∀ (d e : D) (A : Around) (x y : V) (a b : Value), Rep X.K noW H d x → Rep X.K noW H e y → RelV x a → RelV y b → okN n d = true → okN n e = true → A.units + n < cLine → SeqAt.EqAt A s a b (D.eqv d e))
    {xs ys : List D} {vx vy : List V} {ix iy : List Value} (zx : Reps X.K noW H xs vx) (zy : Reps X.K noW H ys vy) (rx : Vals vx ix) (ry : Vals vy iy) (o1 : ∀ d ∈ xs, okN n d = true) (o2 : ∀ d ∈ ys, okN n d = true) (hu : A.units + n < cLine)
    (j : Nat) (h1 : j < ix.toArray.size) (h2 : j < iy.toArray.size) : SeqAt.EqAt A s ix.toArray[j] iy.toArray[j] (D.eqv (xs.getD j .non) (ys.getD j .non)) := by
  have l1 : xs.length = ix.length := zx.length.trans rx.length
  have l2 : ys.length = iy.length := zy.length.trans ry.length
  have j1 : j < xs.length := by rw [l1]; simpa using h1
  have j2 : j < ys.length := by rw [l2]; simpa using h2
  obtain ⟨v, e1, q1⟩ := zx.get (List.getElem?_eq_getElem j1)
  obtain ⟨u, e2, q2⟩ := zy.get (List.getElem?_eq_getElem j2)
  obtain ⟨v', f1, g1⟩ := rx.get e1
  obtain ⟨u', f2, g2⟩ := ry.get e2
  have x1 : ix.toArray[j] = v' := by
    have := List.getElem?_eq_some_iff.mp f1
    obtain ⟨_, q⟩ := this
    simpa using q
  have x2 : iy.toArray[j] = u' := by
    have := List.getElem?_eq_some_iff.mp f2
    obtain ⟨_, q⟩ := this
    simpa using q
  have y1 : xs.getD j .non = xs[j] := by simp [j1]
  have y2 : ys.getD j .non = ys[j] := by simp [j2]
  rw [x1, x2, y1, y2]
  exact ih _ _ A v u v' u' q1 q2 g1 g2 (o1 _ (List.getElem_mem j1)) (o2 _ (List.getElem_mem j2)) hu
theorem in1_units {A : Around} : A.in1.units = A.units + 1 := rfl
theorem eq_lists (I : Inv X pins σ H s) {n : Nat} {A : Around} (ih : ∀ (d e : D) (A : Around) (x y : V) (a b : Value), Rep X.K noW H d x → Rep X.K noW H e y → RelV x a → RelV y b → okN n d = true → okN n e = true → A.units + n < cLine → SeqAt.EqAt A s a b (D.eqv d e))
    {xs ys : List D} {vx vy : List V} {ix iy : List Value} {p q : Addr} (zx : Reps X.K noW H xs vx) (zy : Reps X.K noW H ys vy) (sx : LstAt X.K noW H p vx) (sy : LstAt X.K noW H q vy) (rx : Vals vx ix) (ry : Vals vy iy) (hx : s.heap.IsList p ix.toArray) (hy : s.heap.IsList q iy.toArray)
    (o1 : ∀ d ∈ xs, okN n d = true) (o2 : ∀ d ∈ ys, okN n d = true) (hu : A.units + (n + 1) < cLine) : SeqAt.EqAt A s (.ref p) (.ref q) (D.eqv (.lst xs) (.lst ys)) := by
  have l1 : xs.length = ix.length := zx.length.trans rx.length
  have l2 : ys.length = iy.length := zy.length.trans ry.length
  by_cases hpq : p = q
  · subst hpq
    have := I.list_inj sx.sq sy.sq
    subst this
    have k1 : okN (n + 1) (.lst xs) = true := by unfold okN; exact List.all_eq_true.mpr o1
    have k2 : okN (n + 1) (.lst ys) = true := by unfold okN; exact List.all_eq_true.mpr o2
    rw [rep_inj I (n + 1) (.lst xs) (.lst ys) (.ref p) k1 k2 (rep_lst.mpr ⟨p, _, rfl, sx, zx⟩) (rep_lst.mpr ⟨p, _, rfl, sy, zy⟩), eqv_refl _ _ k2]
    exact SeqAt.EqAt.same _
  · refine SeqAt.EqAt.of_refs hpq ?_
    rw [D.eqv]
    by_cases hs : ix.toArray.size = iy.toArray.size
    · have hs' : xs.length = ys.length := by simpa [l1, l2] using hs
      rw [← eqvL_same hs', show xs.length = ix.toArray.size by simp [l1]]
      exact SeqAt.RcAt.lists hx hy hs (by omega) fun j h1 h2 => eq_items ih zx zy rx ry o1 o2 (by rw [in1_units]; omega) j h1 h2
    · rw [eqvL_other (by simpa [l1, l2] using hs)]
      exact SeqAt.RcAt.lists_lengths hx hy (by simpa using hs) (by omega)
theorem eq_tuples (I : Inv X pins σ H s) {n : Nat} {A : Around} (ih : ∀ (d e : D) (A : Around) (x y : V) (a b : Value), Rep X.K noW H d x → Rep X.K noW H e y → RelV x a → RelV y b → okN n d = true → okN n e = true → A.units + n < cLine → SeqAt.EqAt A s a b (D.eqv d e))
    {xs ys : List D} {vx vy : List V} {ix iy : List Value} {p q : Addr} (zx : Reps X.K noW H xs vx) (zy : Reps X.K noW H ys vy) {dx dy : D} (sx : (dx = .tup xs ∧ TupAt X.K noW H p vx) ∨ (dx = .ptp xs ∧ PtpAt X.K noW H p vx)) (sy : (dy = .tup ys ∧ TupAt X.K noW H q vy) ∨ (dy = .ptp ys ∧ PtpAt X.K noW H q vy)) (rx : Vals vx ix) (ry : Vals vy iy) (hx : IsTup s.heap p ix.toArray) (hy : IsTup s.heap q iy.toArray)
    (o1 : ∀ d ∈ xs, okN n d = true) (o2 : ∀ d ∈ ys, okN n d = true) (hu : A.units + (n + 1) < cLine) : SeqAt.EqAt A s (.ref p) (.ref q) (D.eqv dx dy) := by
  have qx : SqT X.K H p vx := sx.elim (fun z => z.2.sq) fun z => z.2.sq
  have qy : SqT X.K H q vy := sy.elim (fun z => z.2.sq) fun z => z.2.sq
  have kx : okN (n + 1) dx = true ∧ Rep X.K noW H dx (.ref p) := by
    rcases sx with ⟨rfl, z⟩ | ⟨rfl, z⟩
    · exact ⟨by unfold okN; exact List.all_eq_true.mpr o1, rep_tup.mpr ⟨p, _, rfl, z, zx⟩⟩
    · exact ⟨by unfold okN; exact List.all_eq_true.mpr o1, rep_ptp.mpr ⟨p, _, rfl, z, zx⟩⟩
  have ky : okN (n + 1) dy = true ∧ Rep X.K noW H dy (.ref q) := by
    rcases sy with ⟨rfl, z⟩ | ⟨rfl, z⟩
    · exact ⟨by unfold okN; exact List.all_eq_true.mpr o2, rep_tup.mpr ⟨q, _, rfl, z, zy⟩⟩
    · exact ⟨by unfold okN; exact List.all_eq_true.mpr o2, rep_ptp.mpr ⟨q, _, rfl, z, zy⟩⟩
  have l1 : xs.length = ix.length := zx.length.trans rx.length
  have l2 : ys.length = iy.length := zy.length.trans ry.length
  by_cases hpq : p = q
  · subst hpq
    rw [rep_inj I (n + 1) dx dy (.ref p) kx.1 ky.1 kx.2 ky.2, eqv_refl _ _ ky.1]
    exact SeqAt.EqAt.same _
  · refine SeqAt.EqAt.of_refs hpq ?_
    have ed : D.eqv dx dy = eqvL xs ys := by
      rcases sx with ⟨rfl, _⟩ | ⟨rfl, _⟩ <;> rcases sy with ⟨rfl, _⟩ | ⟨rfl, _⟩ <;> rw [D.eqv]
    rw [ed, ← eqvL_range xs ys, l1, l2, show ix.length = ix.toArray.size by simp, show iy.length = iy.toArray.size by simp]
    exact SeqAt.RcAt.tuples hx hy (by omega) fun j h1 h2 => eq_items ih zx zy rx ry o1 o2 (by rw [in1_units]; omega) j h1 h2
theorem eqAt_D (I : Inv X pins σ H s) : ∀ (n : Nat) (d e : D) (A : Around) (x y : V) (a b : Value), Rep X.K noW H d x → Rep X.K noW H e y → RelV x a → RelV y b → okN n d = true → okN n e = true → A.units + n < cLine → SeqAt.EqAt A s a b (D.eqv d e) := by
  intro n
  induction n with
  | zero =>
    intro d e A x y a b h1 h2 r1 r2 o1 o2 hu
    have hu0 : A.units < cLine := by omega
    cases d with
    | non =>
      rw [rep_non] at h1; subst x; cases r1
      cases e with
      | non =>
        rw [rep_non] at h2; subst y; cases r2
        exact SeqAt.EqAt.same _
      | bl q =>
        rw [rep_bl] at h2; subst y; cases r2
        exact SeqAt.EqAt.none_bool q
      | int q =>
        rw [rep_int] at h2; subst y; obtain ⟨ty, rfl⟩ := r2
        exact SeqAt.EqAt.none_int q ty
      | str q =>
        rw [rep_str] at h2; subst y; obtain ⟨ty, rfl⟩ := r2
        exact SeqAt.EqAt.none_str q ty
      | lst q =>
        simp [okN] at o2
      | tup q =>
        simp [okN] at o2
      | ptp q =>
        simp [okN] at o2
      | dct q => simp [okN] at o2
      | loc q => simp [okN] at o2
      | own q => simp [okN] at o2
      | ownd q => simp [okN] at o2
      | lkd q => simp [okN] at o2
      | nst q => simp [okN] at o2
    | bl p =>
      rw [rep_bl] at h1; subst x; cases r1
      cases e with
      | non =>
        rw [rep_non] at h2; subst y; cases r2
        exact SeqAt.EqAt.bool_none p
      | bl q =>
        rw [rep_bl] at h2; subst y; cases r2
        exact SeqAt.EqAt.bool_bool p q
      | int q =>
        rw [rep_int] at h2; subst y; obtain ⟨ty, rfl⟩ := r2
        exact SeqAt.EqAt.bool_int p q ty
      | str q =>
        rw [rep_str] at h2; subst y; obtain ⟨ty, rfl⟩ := r2
        exact SeqAt.EqAt.bool_str p q ty
      | lst q =>
        simp [okN] at o2
      | tup q =>
        simp [okN] at o2
      | ptp q =>
        simp [okN] at o2
      | dct q => simp [okN] at o2
      | loc q => simp [okN] at o2
      | own q => simp [okN] at o2
      | ownd q => simp [okN] at o2
      | lkd q => simp [okN] at o2
      | nst q => simp [okN] at o2
    | int p =>
      rw [rep_int] at h1; subst x; obtain ⟨tx, rfl⟩ := r1
      cases e with
      | non =>
        rw [rep_non] at h2; subst y; cases r2
        exact SeqAt.EqAt.int_none p tx
      | bl q =>
        rw [rep_bl] at h2; subst y; cases r2
        exact SeqAt.EqAt.int_bool p tx q
      | int q =>
        rw [rep_int] at h2; subst y; obtain ⟨ty, rfl⟩ := r2
        exact SeqAt.EqAt.int_int p tx q ty
      | str q =>
        rw [rep_str] at h2; subst y; obtain ⟨ty, rfl⟩ := r2
        exact SeqAt.EqAt.int_str p tx q ty
      | lst q =>
        simp [okN] at o2
      | tup q =>
        simp [okN] at o2
      | ptp q =>
        simp [okN] at o2
      | dct q => simp [okN] at o2
      | loc q => simp [okN] at o2
      | own q => simp [okN] at o2
      | ownd q => simp [okN] at o2
      | lkd q => simp [okN] at o2
      | nst q => simp [okN] at o2
    | str p =>
      rw [rep_str] at h1; subst x; obtain ⟨tx, rfl⟩ := r1
      cases e with
      | non =>
        rw [rep_non] at h2; subst y; cases r2
        exact SeqAt.EqAt.str_none p tx
      | bl q =>
        rw [rep_bl] at h2; subst y; cases r2
        exact SeqAt.EqAt.str_bool p tx q
      | int q =>
        rw [rep_int] at h2; subst y; obtain ⟨ty, rfl⟩ := r2
        exact SeqAt.EqAt.str_int p tx q ty
      | str q =>
        rw [rep_str] at h2; subst y; obtain ⟨ty, rfl⟩ := r2
        exact SeqAt.EqAt.str_str p tx q ty
      | lst q =>
        simp [okN] at o2
      | tup q =>
        simp [okN] at o2
      | ptp q =>
        simp [okN] at o2
      | dct q => simp [okN] at o2
      | loc q => simp [okN] at o2
      | own q => simp [okN] at o2
      | ownd q => simp [okN] at o2
      | lkd q => simp [okN] at o2
      | nst q => simp [okN] at o2
    | lst p =>
      simp [okN] at o1
    | tup p =>
      simp [okN] at o1
    | ptp p =>
      simp [okN] at o1
    | dct q => simp [okN] at o1
    | loc q => simp [okN] at o1
    | own q => simp [okN] at o1
    | ownd q => simp [okN] at o1
    | lkd q => simp [okN] at o1
    | nst q => simp [okN] at o1
  | succ n ih =>
    intro d e A x y a b h1 h2 r1 r2 o1 o2 hu
    have hu0 : A.units < cLine := by omega
    cases d with
    | non =>
      rw [rep_non] at h1; subst x; cases r1
      cases e with
      | non =>
        rw [rep_non] at h2; subst y; cases r2
        exact SeqAt.EqAt.same _
      | bl q =>
        rw [rep_bl] at h2; subst y; cases r2
        exact SeqAt.EqAt.none_bool q
      | int q =>
        rw [rep_int] at h2; subst y; obtain ⟨ty, rfl⟩ := r2
        exact SeqAt.EqAt.none_int q ty
      | str q =>
        rw [rep_str] at h2; subst y; obtain ⟨ty, rfl⟩ := r2
        exact SeqAt.EqAt.none_str q ty
      | lst q =>
        obtain ⟨ay, vsy, rfl, qy, zy⟩ := rep_lst.mp h2; cases r2; obtain ⟨iy, rvy, ply, _⟩ := I.list qy.sq; have hly := ply.isList
        exact SeqAt.EqAt.none_list hly hu0
      | tup q =>
        obtain ⟨ay, vsy, rfl, qy, zy⟩ := rep_tup.mp h2; cases r2; obtain ⟨iy, rvy, hly, _⟩ := I.tuple qy.sq
        exact SeqAt.EqAt.none_tuple hly hu0
      | ptp q =>
        obtain ⟨ay, vsy, rfl, qy, zy⟩ := rep_ptp.mp h2; cases r2; obtain ⟨iy, rvy, hly, _⟩ := I.tuple (qy.sq (K := X.K))
        exact SeqAt.EqAt.none_tuple hly hu0
      | dct q => cases n <;> simp [okN] at o2
      | loc q => cases n <;> simp [okN] at o2
      | own q => cases n <;> simp [okN] at o2
      | ownd q => cases n <;> simp [okN] at o2
      | lkd q => cases n <;> simp [okN] at o2
      | nst q => cases n <;> simp [okN] at o2
    | bl p =>
      rw [rep_bl] at h1; subst x; cases r1
      cases e with
      | non =>
        rw [rep_non] at h2; subst y; cases r2
        exact SeqAt.EqAt.bool_none p
      | bl q =>
        rw [rep_bl] at h2; subst y; cases r2
        exact SeqAt.EqAt.bool_bool p q
      | int q =>
        rw [rep_int] at h2; subst y; obtain ⟨ty, rfl⟩ := r2
        exact SeqAt.EqAt.bool_int p q ty
      | str q =>
        rw [rep_str] at h2; subst y; obtain ⟨ty, rfl⟩ := r2
        exact SeqAt.EqAt.bool_str p q ty
      | lst q =>
        obtain ⟨ay, vsy, rfl, qy, zy⟩ := rep_lst.mp h2; cases r2; obtain ⟨iy, rvy, ply, _⟩ := I.list qy.sq; have hly := ply.isList
        exact SeqAt.EqAt.bool_list p hly hu0
      | tup q =>
        obtain ⟨ay, vsy, rfl, qy, zy⟩ := rep_tup.mp h2; cases r2; obtain ⟨iy, rvy, hly, _⟩ := I.tuple qy.sq
        exact SeqAt.EqAt.bool_tuple p hly hu0
      | ptp q =>
        obtain ⟨ay, vsy, rfl, qy, zy⟩ := rep_ptp.mp h2; cases r2; obtain ⟨iy, rvy, hly, _⟩ := I.tuple (qy.sq (K := X.K))
        exact SeqAt.EqAt.bool_tuple p hly hu0
      | dct q => cases n <;> simp [okN] at o2
      | loc q => cases n <;> simp [okN] at o2
      | own q => cases n <;> simp [okN] at o2
      | ownd q => cases n <;> simp [okN] at o2
      | lkd q => cases n <;> simp [okN] at o2
      | nst q => cases n <;> simp [okN] at o2
    | int p =>
      rw [rep_int] at h1; subst x; obtain ⟨tx, rfl⟩ := r1
      cases e with
      | non =>
        rw [rep_non] at h2; subst y; cases r2
        exact SeqAt.EqAt.int_none p tx
      | bl q =>
        rw [rep_bl] at h2; subst y; cases r2
        exact SeqAt.EqAt.int_bool p tx q
      | int q =>
        rw [rep_int] at h2; subst y; obtain ⟨ty, rfl⟩ := r2
        exact SeqAt.EqAt.int_int p tx q ty
      | str q =>
        rw [rep_str] at h2; subst y; obtain ⟨ty, rfl⟩ := r2
        exact SeqAt.EqAt.int_str p tx q ty
      | lst q =>
        obtain ⟨ay, vsy, rfl, qy, zy⟩ := rep_lst.mp h2; cases r2; obtain ⟨iy, rvy, ply, _⟩ := I.list qy.sq; have hly := ply.isList
        exact SeqAt.EqAt.int_list p tx hly hu0
      | tup q =>
        obtain ⟨ay, vsy, rfl, qy, zy⟩ := rep_tup.mp h2; cases r2; obtain ⟨iy, rvy, hly, _⟩ := I.tuple qy.sq
        exact SeqAt.EqAt.int_tuple p tx hly hu0
      | ptp q =>
        obtain ⟨ay, vsy, rfl, qy, zy⟩ := rep_ptp.mp h2; cases r2; obtain ⟨iy, rvy, hly, _⟩ := I.tuple (qy.sq (K := X.K))
        exact SeqAt.EqAt.int_tuple p tx hly hu0
      | dct q => cases n <;> simp [okN] at o2
      | loc q => cases n <;> simp [okN] at o2
      | own q => cases n <;> simp [okN] at o2
      | ownd q => cases n <;> simp [okN] at o2
      | lkd q => cases n <;> simp [okN] at o2
      | nst q => cases n <;> simp [okN] at o2
    | str p =>
      rw [rep_str] at h1; subst x; obtain ⟨tx, rfl⟩ := r1
      cases e with
      | non =>
        rw [rep_non] at h2; subst y; cases r2
        exact SeqAt.EqAt.str_none p tx
      | bl q =>
        rw [rep_bl] at h2; subst y; cases r2
        exact SeqAt.EqAt.str_bool p tx q
      | int q =>
        rw [rep_int] at h2; subst y; obtain ⟨ty, rfl⟩ := r2
        exact SeqAt.EqAt.str_int p tx q ty
      | str q =>
        rw [rep_str] at h2; subst y; obtain ⟨ty, rfl⟩ := r2
        exact SeqAt.EqAt.str_str p tx q ty
      | lst q =>
        obtain ⟨ay, vsy, rfl, qy, zy⟩ := rep_lst.mp h2; cases r2; obtain ⟨iy, rvy, ply, _⟩ := I.list qy.sq; have hly := ply.isList
        exact SeqAt.EqAt.str_list p tx hly hu0
      | tup q =>
        obtain ⟨ay, vsy, rfl, qy, zy⟩ := rep_tup.mp h2; cases r2; obtain ⟨iy, rvy, hly, _⟩ := I.tuple qy.sq
        exact SeqAt.EqAt.str_tuple p tx hly hu0
      | ptp q =>
        obtain ⟨ay, vsy, rfl, qy, zy⟩ := rep_ptp.mp h2; cases r2; obtain ⟨iy, rvy, hly, _⟩ := I.tuple (qy.sq (K := X.K))
        exact SeqAt.EqAt.str_tuple p tx hly hu0
      | dct q => cases n <;> simp [okN] at o2
      | loc q => cases n <;> simp [okN] at o2
      | own q => cases n <;> simp [okN] at o2
      | ownd q => cases n <;> simp [okN] at o2
      | lkd q => cases n <;> simp [okN] at o2
      | nst q => cases n <;> simp [okN] at o2
    | lst p =>
      obtain ⟨ax, vsx, rfl, qx, zx⟩ := rep_lst.mp h1; cases r1; obtain ⟨ix, rvx, plx, _⟩ := I.list qx.sq; have hlx := plx.isList
      cases e with
      | non =>
        rw [rep_non] at h2; subst y; cases r2
        exact SeqAt.EqAt.list_none hlx hu0
      | bl q =>
        rw [rep_bl] at h2; subst y; cases r2
        exact SeqAt.EqAt.list_bool q hlx hu0
      | int q =>
        rw [rep_int] at h2; subst y; obtain ⟨ty, rfl⟩ := r2
        exact SeqAt.EqAt.list_int q ty hlx hu0
      | str q =>
        rw [rep_str] at h2; subst y; obtain ⟨ty, rfl⟩ := r2
        exact SeqAt.EqAt.list_str q ty hlx hu0
      | lst q =>
        obtain ⟨ay, vsy, rfl, qy, zy⟩ := rep_lst.mp h2; cases r2; obtain ⟨iy, rvy, ply, _⟩ := I.list qy.sq; have hly := ply.isList
        exact eq_lists I ih zx zy qx qy rvx rvy hlx hly (okN_lst o1) (okN_lst o2) hu
      | tup q =>
        obtain ⟨ay, vsy, rfl, qy, zy⟩ := rep_tup.mp h2; cases r2; obtain ⟨iy, rvy, hly, _⟩ := I.tuple qy.sq
        exact SeqAt.EqAt.list_tuple hlx hly hu0
      | ptp q =>
        obtain ⟨ay, vsy, rfl, qy, zy⟩ := rep_ptp.mp h2; cases r2; obtain ⟨iy, rvy, hly, _⟩ := I.tuple (qy.sq (K := X.K))
        exact SeqAt.EqAt.list_tuple hlx hly hu0
      | dct q => cases n <;> simp [okN] at o2
      | loc q => cases n <;> simp [okN] at o2
      | own q => cases n <;> simp [okN] at o2
      | ownd q => cases n <;> simp [okN] at o2
      | lkd q => cases n <;> simp [okN] at o2
      | nst q => cases n <;> simp [okN] at o2
    | tup p =>
      obtain ⟨ax, vsx, rfl, qx, zx⟩ := rep_tup.mp h1; cases r1; obtain ⟨ix, rvx, hlx, _⟩ := I.tuple qx.sq
      cases e with
      | non =>
        rw [rep_non] at h2; subst y; cases r2
        exact SeqAt.EqAt.tuple_none hlx hu0
      | bl q =>
        rw [rep_bl] at h2; subst y; cases r2
        exact SeqAt.EqAt.tuple_bool q hlx hu0
      | int q =>
        rw [rep_int] at h2; subst y; obtain ⟨ty, rfl⟩ := r2
        exact SeqAt.EqAt.tuple_int q ty hlx hu0
      | str q =>
        rw [rep_str] at h2; subst y; obtain ⟨ty, rfl⟩ := r2
        exact SeqAt.EqAt.tuple_str q ty hlx hu0
      | lst q =>
        obtain ⟨ay, vsy, rfl, qy, zy⟩ := rep_lst.mp h2; cases r2; obtain ⟨iy, rvy, ply, _⟩ := I.list qy.sq; have hly := ply.isList
        exact SeqAt.EqAt.tuple_list hlx hly hu0
      | tup q =>
        obtain ⟨ay, vsy, rfl, qy, zy⟩ := rep_tup.mp h2; cases r2; obtain ⟨iy, rvy, hly, _⟩ := I.tuple qy.sq
        exact eq_tuples I ih zx zy (.inl ⟨rfl, qx⟩) (.inl ⟨rfl, qy⟩) rvx rvy hlx hly (okN_tup o1) (okN_tup o2) hu
      | ptp q =>
        obtain ⟨ay, vsy, rfl, qy, zy⟩ := rep_ptp.mp h2; cases r2; obtain ⟨iy, rvy, hly, _⟩ := I.tuple (qy.sq (K := X.K))
        exact eq_tuples I ih zx zy (.inl ⟨rfl, qx⟩) (.inr ⟨rfl, qy⟩) rvx rvy hlx hly (okN_tup o1) (okN_ptp o2) hu
      | dct q => cases n <;> simp [okN] at o2
      | loc q => cases n <;> simp [okN] at o2
      | own q => cases n <;> simp [okN] at o2
      | ownd q => cases n <;> simp [okN] at o2
      | lkd q => cases n <;> simp [okN] at o2
      | nst q => cases n <;> simp [okN] at o2
    | ptp p =>
      obtain ⟨ax, vsx, rfl, qx, zx⟩ := rep_ptp.mp h1; cases r1; obtain ⟨ix, rvx, hlx, _⟩ := I.tuple (qx.sq (K := X.K))
      cases e with
      | non =>
        rw [rep_non] at h2; subst y; cases r2
        exact SeqAt.EqAt.tuple_none hlx hu0
      | bl q =>
        rw [rep_bl] at h2; subst y; cases r2
        exact SeqAt.EqAt.tuple_bool q hlx hu0
      | int q =>
        rw [rep_int] at h2; subst y; obtain ⟨ty, rfl⟩ := r2
        exact SeqAt.EqAt.tuple_int q ty hlx hu0
      | str q =>
        rw [rep_str] at h2; subst y; obtain ⟨ty, rfl⟩ := r2
        exact SeqAt.EqAt.tuple_str q ty hlx hu0
      | lst q =>
        obtain ⟨ay, vsy, rfl, qy, zy⟩ := rep_lst.mp h2; cases r2; obtain ⟨iy, rvy, ply, _⟩ := I.list qy.sq; have hly := ply.isList
        exact SeqAt.EqAt.tuple_list hlx hly hu0
      | tup q =>
        obtain ⟨ay, vsy, rfl, qy, zy⟩ := rep_tup.mp h2; cases r2; obtain ⟨iy, rvy, hly, _⟩ := I.tuple qy.sq
        exact eq_tuples I ih zx zy (.inr ⟨rfl, qx⟩) (.inl ⟨rfl, qy⟩) rvx rvy hlx hly (okN_ptp o1) (okN_tup o2) hu
      | ptp q =>
        obtain ⟨ay, vsy, rfl, qy, zy⟩ := rep_ptp.mp h2; cases r2; obtain ⟨iy, rvy, hly, _⟩ := I.tuple (qy.sq (K := X.K))
        exact eq_tuples I ih zx zy (.inr ⟨rfl, qx⟩) (.inr ⟨rfl, qy⟩) rvx rvy hlx hly (okN_ptp o1) (okN_ptp o2) hu
      | dct q => cases n <;> simp [okN] at o2
      | loc q => cases n <;> simp [okN] at o2
      | own q => cases n <;> simp [okN] at o2
      | ownd q => cases n <;> simp [okN] at o2
      | lkd q => cases n <;> simp [okN] at o2
      | nst q => cases n <;> simp [okN] at o2
    | dct q => cases n <;> simp [okN] at o1
    | loc q => cases n <;> simp [okN] at o1
    | own q => cases n <;> simp [okN] at o1
    | ownd q => cases n <;> simp [okN] at o1
    | lkd q => cases n <;> simp [okN] at o1
    | nst q => cases n <;> simp [okN] at o1
theorem okN_all {n : Nat} {xs : List D} (h : okN n (.lst xs) = true ∨ okN n (.tup xs) = true) : ∃ k, n = k + 1 ∧ ∀ d ∈ xs, okN k d = true := by
  cases n with
  | zero => rcases h with h | h <;> simp [okN] at h
  | succ k =>
    refine ⟨k, rfl, ?_⟩
    rcases h with h | h
    · exact okN_lst h
    · exact okN_tup h
theorem rcAt_D_lists (I : Inv X pins σ H s) {n : Nat} {A : Around} {xs ys : List D} {vx vy : List V} {ix iy : List Value} {p q : Addr} (zx : Reps X.K noW H xs vx) (zy : Reps X.K noW H ys vy) (rx : Vals vx ix) (ry : Vals vy iy) (hx : s.heap.IsList p ix.toArray) (hy : s.heap.IsList q iy.toArray)
    (o1 : okN n (.lst xs) = true) (o2 : okN n (.lst ys) = true) (hu : A.units + n < cLine) : SeqAt.RcAt A s (.ref p) (.ref q) (D.eqv (.lst xs) (.lst ys)) := by
  obtain ⟨k, rfl, w1⟩ := okN_all (.inl o1)
  have w2 := okN_lst o2
  have l1 : xs.length = ix.length := zx.length.trans rx.length
  have l2 : ys.length = iy.length := zy.length.trans ry.length
  rw [D.eqv]
  by_cases hs : ix.toArray.size = iy.toArray.size
  · have hs' : xs.length = ys.length := by simpa [l1, l2] using hs
    rw [← eqvL_same hs', show xs.length = ix.toArray.size by simp [l1]]
    exact SeqAt.RcAt.lists hx hy hs (by omega) fun j h1 h2 => eq_items (eqAt_D I k) zx zy rx ry w1 w2 (by rw [in1_units]; omega) j h1 h2
  · rw [eqvL_other (by simpa [l1, l2] using hs)]
    exact SeqAt.RcAt.lists_lengths hx hy (by simpa using hs) (by omega)
theorem rcAt_D_tuples (I : Inv X pins σ H s) {n : Nat} {A : Around} {xs ys : List D} {vx vy : List V} {ix iy : List Value} {p q : Addr} (zx : Reps X.K noW H xs vx) (zy : Reps X.K noW H ys vy) (rx : Vals vx ix) (ry : Vals vy iy) (hx : IsTup s.heap p ix.toArray) (hy : IsTup s.heap q iy.toArray)
    (o1 : okN n (.tup xs) = true) (o2 : okN n (.tup ys) = true) (hu : A.units + n < cLine) : SeqAt.RcAt A s (.ref p) (.ref q) (D.eqv (.tup xs) (.tup ys)) := by
  obtain ⟨k, rfl, w1⟩ := okN_all (.inr o1)
  have w2 := okN_tup o2
  have l1 : xs.length = ix.length := zx.length.trans rx.length
  have l2 : ys.length = iy.length := zy.length.trans ry.length
  rw [D.eqv, ← eqvL_range xs ys, l1, l2, show ix.length = ix.toArray.size by simp, show iy.length = iy.toArray.size by simp]
  exact SeqAt.RcAt.tuples hx hy (by omega) fun j h1 h2 => eq_items (eqAt_D I k) zx zy rx ry w1 w2 (by rw [in1_units]; omega) j h1 h2
theorem neAt_D_lists (I : Inv X pins σ H s) {n : Nat} {A : Around} {xs ys : List D} {vx vy : List V} {ix iy : List Value} {p q : Addr} (zx : Reps X.K noW H xs vx) (zy : Reps X.K noW H ys vy) (rx : Vals vx ix) (ry : Vals vy iy) (hx : s.heap.IsList p ix.toArray) (hy : s.heap.IsList q iy.toArray)
    (o1 : okN n (.lst xs) = true) (o2 : okN n (.lst ys) = true) (hu : A.units + n < cLine) : SeqAt.RcNeAt A s (.ref p) (.ref q) (!D.eqv (.lst xs) (.lst ys)) := by
  obtain ⟨k, rfl, w1⟩ := okN_all (.inl o1)
  have w2 := okN_lst o2
  have l1 : xs.length = ix.length := zx.length.trans rx.length
  have l2 : ys.length = iy.length := zy.length.trans ry.length
  rw [D.eqv]
  by_cases hs : ix.toArray.size = iy.toArray.size
  · have hs' : xs.length = ys.length := by simpa [l1, l2] using hs
    rw [← eqvL_same hs', show xs.length = ix.toArray.size by simp [l1]]
    exact SeqAt.RcNeAt.lists hx hy hs (by omega) fun j h1 h2 => eq_items (eqAt_D I k) zx zy rx ry w1 w2 (by rw [in1_units]; omega) j h1 h2
  · rw [eqvL_other (by simpa [l1, l2] using hs)]
    exact SeqAt.RcNeAt.lists_lengths hx hy (by simpa using hs) (by omega)
theorem neAt_D_tuples (I : Inv X pins σ H s) {n : Nat} {A : Around} {xs ys : List D} {vx vy : List V} {ix iy : List Value} {p q : Addr} (zx : Reps X.K noW H xs vx) (zy : Reps X.K noW H ys vy) (rx : Vals vx ix) (ry : Vals vy iy) (hx : IsTup s.heap p ix.toArray) (hy : IsTup s.heap q iy.toArray)
    (o1 : okN n (.tup xs) = true) (o2 : okN n (.tup ys) = true) (hu : A.units + n < cLine) : SeqAt.RcNeAt A s (.ref p) (.ref q) (!D.eqv (.tup xs) (.tup ys)) := by
  obtain ⟨k, rfl, w1⟩ := okN_all (.inr o1)
  have w2 := okN_tup o2
  have l1 : xs.length = ix.length := zx.length.trans rx.length
  have l2 : ys.length = iy.length := zy.length.trans ry.length
  rw [D.eqv, ← eqvL_range xs ys, l1, l2, show ix.length = ix.toArray.size by simp, show iy.length = iy.toArray.size by simp]
  exact SeqAt.RcNeAt.tuples hx hy (by omega) fun j h1 h2 => eq_items (eqAt_D I k) zx zy rx ry w1 w2 (by rw [in1_units]; omega) j h1 h2
theorem rcAt_D (I : Inv X pins σ H s) : ∀ (n : Nat) (d e : D) (A : Around) (x y : V) (a b : Value), Rep X.K noW H d x → Rep X.K noW H e y → RelV x a → RelV y b → okN n d = true → okN n e = true → A.units + n < cLine → SeqAt.RcAt A s a b (D.eqv d e) := by
  intro n
  intro d e A x y a b h1 h2 r1 r2 o1 o2 hu
  have hu0 : A.units < cLine := by omega
  cases d with
  | non =>
    rw [rep_non] at h1; subst x; cases r1
    cases e with
    | non =>
      rw [rep_non] at h2; subst y; cases r2
      exact SeqAt.RcAt.none_none
    | bl q =>
      rw [rep_bl] at h2; subst y; cases r2
      exact SeqAt.RcAt.none_bool q
    | int q =>
      rw [rep_int] at h2; subst y; obtain ⟨ty, rfl⟩ := r2
      exact SeqAt.RcAt.none_int q ty
    | str q =>
      rw [rep_str] at h2; subst y; obtain ⟨ty, rfl⟩ := r2
      exact SeqAt.RcAt.none_str q ty
    | lst q =>
      obtain ⟨ay, vsy, rfl, qy, zy⟩ := rep_lst.mp h2; cases r2; obtain ⟨iy, rvy, ply, _⟩ := I.list qy.sq; have hly := ply.isList
      exact SeqAt.RcAt.none_list hly hu0
    | tup q =>
      obtain ⟨ay, vsy, rfl, qy, zy⟩ := rep_tup.mp h2; cases r2; obtain ⟨iy, rvy, hly, _⟩ := I.tuple qy.sq
      exact SeqAt.RcAt.none_tuple hly hu0
    | ptp q =>
      obtain ⟨ay, vsy, rfl, qy, zy⟩ := rep_ptp.mp h2; cases r2; obtain ⟨iy, rvy, hly, _⟩ := I.tuple (qy.sq (K := X.K))
      exact SeqAt.RcAt.none_tuple hly hu0
    | dct q => cases n <;> simp [okN] at o2
    | loc q => cases n <;> simp [okN] at o2
    | own q => cases n <;> simp [okN] at o2
    | ownd q => cases n <;> simp [okN] at o2
    | lkd q => cases n <;> simp [okN] at o2
    | nst q => cases n <;> simp [okN] at o2
  | bl p =>
    rw [rep_bl] at h1; subst x; cases r1
    cases e with
    | non =>
      rw [rep_non] at h2; subst y; cases r2
      exact SeqAt.RcAt.bool_none p
    | bl q =>
      rw [rep_bl] at h2; subst y; cases r2
      exact SeqAt.RcAt.bool_bool p q
    | int q =>
      rw [rep_int] at h2; subst y; obtain ⟨ty, rfl⟩ := r2
      exact SeqAt.RcAt.bool_int p q ty
    | str q =>
      rw [rep_str] at h2; subst y; obtain ⟨ty, rfl⟩ := r2
      exact SeqAt.RcAt.bool_str p q ty
    | lst q =>
      obtain ⟨ay, vsy, rfl, qy, zy⟩ := rep_lst.mp h2; cases r2; obtain ⟨iy, rvy, ply, _⟩ := I.list qy.sq; have hly := ply.isList
      exact SeqAt.RcAt.bool_list p hly hu0
    | tup q =>
      obtain ⟨ay, vsy, rfl, qy, zy⟩ := rep_tup.mp h2; cases r2; obtain ⟨iy, rvy, hly, _⟩ := I.tuple qy.sq
      exact SeqAt.RcAt.bool_tuple p hly hu0
    | ptp q =>
      obtain ⟨ay, vsy, rfl, qy, zy⟩ := rep_ptp.mp h2; cases r2; obtain ⟨iy, rvy, hly, _⟩ := I.tuple (qy.sq (K := X.K))
      exact SeqAt.RcAt.bool_tuple p hly hu0
    | dct q => cases n <;> simp [okN] at o2
    | loc q => cases n <;> simp [okN] at o2
    | own q => cases n <;> simp [okN] at o2
    | ownd q => cases n <;> simp [okN] at o2
    | lkd q => cases n <;> simp [okN] at o2
    | nst q => cases n <;> simp [okN] at o2
  | int p =>
    rw [rep_int] at h1; subst x; obtain ⟨tx, rfl⟩ := r1
    cases e with
    | non =>
      rw [rep_non] at h2; subst y; cases r2
      exact SeqAt.RcAt.int_none p tx
    | bl q =>
      rw [rep_bl] at h2; subst y; cases r2
      exact SeqAt.RcAt.int_bool p tx q
    | int q =>
      rw [rep_int] at h2; subst y; obtain ⟨ty, rfl⟩ := r2
      exact SeqAt.RcAt.int_int p tx q ty
    | str q =>
      rw [rep_str] at h2; subst y; obtain ⟨ty, rfl⟩ := r2
      exact SeqAt.RcAt.int_str p tx q ty
    | lst q =>
      obtain ⟨ay, vsy, rfl, qy, zy⟩ := rep_lst.mp h2; cases r2; obtain ⟨iy, rvy, ply, _⟩ := I.list qy.sq; have hly := ply.isList
      exact SeqAt.RcAt.int_list p tx hly hu0
    | tup q =>
      obtain ⟨ay, vsy, rfl, qy, zy⟩ := rep_tup.mp h2; cases r2; obtain ⟨iy, rvy, hly, _⟩ := I.tuple qy.sq
      exact SeqAt.RcAt.int_tuple p tx hly hu0
    | ptp q =>
      obtain ⟨ay, vsy, rfl, qy, zy⟩ := rep_ptp.mp h2; cases r2; obtain ⟨iy, rvy, hly, _⟩ := I.tuple (qy.sq (K := X.K))
      exact SeqAt.RcAt.int_tuple p tx hly hu0
    | dct q => cases n <;> simp [okN] at o2
    | loc q => cases n <;> simp [okN] at o2
    | own q => cases n <;> simp [okN] at o2
    | ownd q => cases n <;> simp [okN] at o2
    | lkd q => cases n <;> simp [okN] at o2
    | nst q => cases n <;> simp [okN] at o2
  | str p =>
    rw [rep_str] at h1; subst x; obtain ⟨tx, rfl⟩ := r1
    cases e with
    | non =>
      rw [rep_non] at h2; subst y; cases r2
      exact SeqAt.RcAt.str_none p tx
    | bl q =>
      rw [rep_bl] at h2; subst y; cases r2
      exact SeqAt.RcAt.str_bool p tx q
    | int q =>
      rw [rep_int] at h2; subst y; obtain ⟨ty, rfl⟩ := r2
      exact SeqAt.RcAt.str_int p tx q ty
    | str q =>
      rw [rep_str] at h2; subst y; obtain ⟨ty, rfl⟩ := r2
      exact SeqAt.RcAt.str_str p tx q ty
    | lst q =>
      obtain ⟨ay, vsy, rfl, qy, zy⟩ := rep_lst.mp h2; cases r2; obtain ⟨iy, rvy, ply, _⟩ := I.list qy.sq; have hly := ply.isList
      exact SeqAt.RcAt.str_list p tx hly hu0
    | tup q =>
      obtain ⟨ay, vsy, rfl, qy, zy⟩ := rep_tup.mp h2; cases r2; obtain ⟨iy, rvy, hly, _⟩ := I.tuple qy.sq
      exact SeqAt.RcAt.str_tuple p tx hly hu0
    | ptp q =>
      obtain ⟨ay, vsy, rfl, qy, zy⟩ := rep_ptp.mp h2; cases r2; obtain ⟨iy, rvy, hly, _⟩ := I.tuple (qy.sq (K := X.K))
      exact SeqAt.RcAt.str_tuple p tx hly hu0
    | dct q => cases n <;> simp [okN] at o2
    | loc q => cases n <;> simp [okN] at o2
    | own q => cases n <;> simp [okN] at o2
    | ownd q => cases n <;> simp [okN] at o2
    | lkd q => cases n <;> simp [okN] at o2
    | nst q => cases n <;> simp [okN] at o2
  | lst p =>
    obtain ⟨ax, vsx, rfl, qx, zx⟩ := rep_lst.mp h1; cases r1; obtain ⟨ix, rvx, plx, _⟩ := I.list qx.sq; have hlx := plx.isList
    cases e with
    | non =>
      rw [rep_non] at h2; subst y; cases r2
      exact SeqAt.RcAt.list_none hlx hu0
    | bl q =>
      rw [rep_bl] at h2; subst y; cases r2
      exact SeqAt.RcAt.list_bool q hlx hu0
    | int q =>
      rw [rep_int] at h2; subst y; obtain ⟨ty, rfl⟩ := r2
      exact SeqAt.RcAt.list_int q ty hlx hu0
    | str q =>
      rw [rep_str] at h2; subst y; obtain ⟨ty, rfl⟩ := r2
      exact SeqAt.RcAt.list_str q ty hlx hu0
    | lst q =>
      obtain ⟨ay, vsy, rfl, qy, zy⟩ := rep_lst.mp h2; cases r2; obtain ⟨iy, rvy, ply, _⟩ := I.list qy.sq; have hly := ply.isList
      exact rcAt_D_lists I zx zy rvx rvy hlx hly o1 o2 hu
    | tup q =>
      obtain ⟨ay, vsy, rfl, qy, zy⟩ := rep_tup.mp h2; cases r2; obtain ⟨iy, rvy, hly, _⟩ := I.tuple qy.sq
      exact SeqAt.RcAt.list_tuple hlx hly hu0
    | ptp q =>
      obtain ⟨ay, vsy, rfl, qy, zy⟩ := rep_ptp.mp h2; cases r2; obtain ⟨iy, rvy, hly, _⟩ := I.tuple (qy.sq (K := X.K))
      exact SeqAt.RcAt.list_tuple hlx hly hu0
    | dct q => cases n <;> simp [okN] at o2
    | loc q => cases n <;> simp [okN] at o2
    | own q => cases n <;> simp [okN] at o2
    | ownd q => cases n <;> simp [okN] at o2
    | lkd q => cases n <;> simp [okN] at o2
    | nst q => cases n <;> simp [okN] at o2
  | tup p =>
    obtain ⟨ax, vsx, rfl, qx, zx⟩ := rep_tup.mp h1; cases r1; obtain ⟨ix, rvx, hlx, _⟩ := I.tuple qx.sq
    cases e with
    | non =>
      rw [rep_non] at h2; subst y; cases r2
      exact SeqAt.RcAt.tuple_none hlx hu0
    | bl q =>
      rw [rep_bl] at h2; subst y; cases r2
      exact SeqAt.RcAt.tuple_bool q hlx hu0
    | int q =>
      rw [rep_int] at h2; subst y; obtain ⟨ty, rfl⟩ := r2
      exact SeqAt.RcAt.tuple_int q ty hlx hu0
    | str q =>
      rw [rep_str] at h2; subst y; obtain ⟨ty, rfl⟩ := r2
      exact SeqAt.RcAt.tuple_str q ty hlx hu0
    | lst q =>
      obtain ⟨ay, vsy, rfl, qy, zy⟩ := rep_lst.mp h2; cases r2; obtain ⟨iy, rvy, ply, _⟩ := I.list qy.sq; have hly := ply.isList
      exact SeqAt.RcAt.tuple_list hlx hly hu0
    | tup q =>
      obtain ⟨ay, vsy, rfl, qy, zy⟩ := rep_tup.mp h2; cases r2; obtain ⟨iy, rvy, hly, _⟩ := I.tuple qy.sq
      exact rcAt_D_tuples I zx zy rvx rvy hlx hly o1 o2 hu
    | ptp q =>
      obtain ⟨ay, vsy, rfl, qy, zy⟩ := rep_ptp.mp h2; cases r2; obtain ⟨iy, rvy, hly, _⟩ := I.tuple (qy.sq (K := X.K))
      rw [eqv_tp]
      exact rcAt_D_tuples I zx zy rvx rvy hlx hly o1 (okN_pt o2) hu
    | dct q => cases n <;> simp [okN] at o2
    | loc q => cases n <;> simp [okN] at o2
    | own q => cases n <;> simp [okN] at o2
    | ownd q => cases n <;> simp [okN] at o2
    | lkd q => cases n <;> simp [okN] at o2
    | nst q => cases n <;> simp [okN] at o2
  | ptp p =>
    obtain ⟨ax, vsx, rfl, qx, zx⟩ := rep_ptp.mp h1; cases r1; obtain ⟨ix, rvx, hlx, _⟩ := I.tuple (qx.sq (K := X.K))
    cases e with
    | non =>
      rw [rep_non] at h2; subst y; cases r2
      exact SeqAt.RcAt.tuple_none hlx hu0
    | bl q =>
      rw [rep_bl] at h2; subst y; cases r2
      exact SeqAt.RcAt.tuple_bool q hlx hu0
    | int q =>
      rw [rep_int] at h2; subst y; obtain ⟨ty, rfl⟩ := r2
      exact SeqAt.RcAt.tuple_int q ty hlx hu0
    | str q =>
      rw [rep_str] at h2; subst y; obtain ⟨ty, rfl⟩ := r2
      exact SeqAt.RcAt.tuple_str q ty hlx hu0
    | lst q =>
      obtain ⟨ay, vsy, rfl, qy, zy⟩ := rep_lst.mp h2; cases r2; obtain ⟨iy, rvy, ply, _⟩ := I.list qy.sq; have hly := ply.isList
      exact SeqAt.RcAt.tuple_list hlx hly hu0
    | tup q =>
      obtain ⟨ay, vsy, rfl, qy, zy⟩ := rep_tup.mp h2; cases r2; obtain ⟨iy, rvy, hly, _⟩ := I.tuple qy.sq
      rw [eqv_pt]
      exact rcAt_D_tuples I zx zy rvx rvy hlx hly (okN_pt o1) o2 hu
    | ptp q =>
      obtain ⟨ay, vsy, rfl, qy, zy⟩ := rep_ptp.mp h2; cases r2; obtain ⟨iy, rvy, hly, _⟩ := I.tuple (qy.sq (K := X.K))
      rw [eqv_pp]
      exact rcAt_D_tuples I zx zy rvx rvy hlx hly (okN_pt o1) (okN_pt o2) hu
    | dct q => cases n <;> simp [okN] at o2
    | loc q => cases n <;> simp [okN] at o2
    | own q => cases n <;> simp [okN] at o2
    | ownd q => cases n <;> simp [okN] at o2
    | lkd q => cases n <;> simp [okN] at o2
    | nst q => cases n <;> simp [okN] at o2
  | dct q => cases n <;> simp [okN] at o1
  | loc q => cases n <;> simp [okN] at o1
  | own q => cases n <;> simp [okN] at o1
  | ownd q => cases n <;> simp [okN] at o1
  | lkd q => cases n <;> simp [okN] at o1
  | nst q => cases n <;> simp [okN] at o1
theorem neAt_D (I : Inv X pins σ H s) : ∀ (n : Nat) (d e : D) (A : Around) (x y : V) (a b : Value), Rep X.K noW H d x → Rep X.K noW H e y → RelV x a → RelV y b → okN n d = true → okN n e = true → A.units + n < cLine → SeqAt.RcNeAt A s a b (!D.eqv d e) := by
  intro n
  intro d e A x y a b h1 h2 r1 r2 o1 o2 hu
  have hu0 : A.units < cLine := by omega
  cases d with
  | non =>
    rw [rep_non] at h1; subst x; cases r1
    cases e with
    | non =>
      rw [rep_non] at h2; subst y; cases r2
      exact SeqAt.RcNeAt.none_none
    | bl q =>
      rw [rep_bl] at h2; subst y; cases r2
      exact SeqAt.RcNeAt.none_bool q
    | int q =>
      rw [rep_int] at h2; subst y; obtain ⟨ty, rfl⟩ := r2
      exact SeqAt.RcNeAt.none_int q ty
    | str q =>
      rw [rep_str] at h2; subst y; obtain ⟨ty, rfl⟩ := r2
      exact SeqAt.RcNeAt.none_str q ty
    | lst q =>
      obtain ⟨ay, vsy, rfl, qy, zy⟩ := rep_lst.mp h2; cases r2; obtain ⟨iy, rvy, ply, _⟩ := I.list qy.sq; have hly := ply.isList
      exact SeqAt.RcNeAt.none_list hly hu0
    | tup q =>
      obtain ⟨ay, vsy, rfl, qy, zy⟩ := rep_tup.mp h2; cases r2; obtain ⟨iy, rvy, hly, _⟩ := I.tuple qy.sq
      exact SeqAt.RcNeAt.none_tuple hly hu0
    | ptp q =>
      obtain ⟨ay, vsy, rfl, qy, zy⟩ := rep_ptp.mp h2; cases r2; obtain ⟨iy, rvy, hly, _⟩ := I.tuple (qy.sq (K := X.K))
      exact SeqAt.RcNeAt.none_tuple hly hu0
    | dct q => cases n <;> simp [okN] at o2
    | loc q => cases n <;> simp [okN] at o2
    | own q => cases n <;> simp [okN] at o2
    | ownd q => cases n <;> simp [okN] at o2
    | lkd q => cases n <;> simp [okN] at o2
    | nst q => cases n <;> simp [okN] at o2
  | bl p =>
    rw [rep_bl] at h1; subst x; cases r1
    cases e with
    | non =>
      rw [rep_non] at h2; subst y; cases r2
      exact SeqAt.RcNeAt.bool_none p
    | bl q =>
      rw [rep_bl] at h2; subst y; cases r2
      exact SeqAt.RcNeAt.bool_bool p q
    | int q =>
      rw [rep_int] at h2; subst y; obtain ⟨ty, rfl⟩ := r2
      exact SeqAt.RcNeAt.bool_int p q ty
    | str q =>
      rw [rep_str] at h2; subst y; obtain ⟨ty, rfl⟩ := r2
      exact SeqAt.RcNeAt.bool_str p q ty
    | lst q =>
      obtain ⟨ay, vsy, rfl, qy, zy⟩ := rep_lst.mp h2; cases r2; obtain ⟨iy, rvy, ply, _⟩ := I.list qy.sq; have hly := ply.isList
      exact SeqAt.RcNeAt.bool_list p hly hu0
    | tup q =>
      obtain ⟨ay, vsy, rfl, qy, zy⟩ := rep_tup.mp h2; cases r2; obtain ⟨iy, rvy, hly, _⟩ := I.tuple qy.sq
      exact SeqAt.RcNeAt.bool_tuple p hly hu0
    | ptp q =>
      obtain ⟨ay, vsy, rfl, qy, zy⟩ := rep_ptp.mp h2; cases r2; obtain ⟨iy, rvy, hly, _⟩ := I.tuple (qy.sq (K := X.K))
      exact SeqAt.RcNeAt.bool_tuple p hly hu0
    | dct q => cases n <;> simp [okN] at o2
    | loc q => cases n <;> simp [okN] at o2
    | own q => cases n <;> simp [okN] at o2
    | ownd q => cases n <;> simp [okN] at o2
    | lkd q => cases n <;> simp [okN] at o2
    | nst q => cases n <;> simp [okN] at o2
  | int p =>
    rw [rep_int] at h1; subst x; obtain ⟨tx, rfl⟩ := r1
    cases e with
    | non =>
      rw [rep_non] at h2; subst y; cases r2
      exact SeqAt.RcNeAt.int_none p tx
    | bl q =>
      rw [rep_bl] at h2; subst y; cases r2
      exact SeqAt.RcNeAt.int_bool p tx q
    | int q =>
      rw [rep_int] at h2; subst y; obtain ⟨ty, rfl⟩ := r2
      exact SeqAt.RcNeAt.int_int p tx q ty
    | str q =>
      rw [rep_str] at h2; subst y; obtain ⟨ty, rfl⟩ := r2
      exact SeqAt.RcNeAt.int_str p tx q ty
    | lst q =>
      obtain ⟨ay, vsy, rfl, qy, zy⟩ := rep_lst.mp h2; cases r2; obtain ⟨iy, rvy, ply, _⟩ := I.list qy.sq; have hly := ply.isList
      exact SeqAt.RcNeAt.int_list p tx hly hu0
    | tup q =>
      obtain ⟨ay, vsy, rfl, qy, zy⟩ := rep_tup.mp h2; cases r2; obtain ⟨iy, rvy, hly, _⟩ := I.tuple qy.sq
      exact SeqAt.RcNeAt.int_tuple p tx hly hu0
    | ptp q =>
      obtain ⟨ay, vsy, rfl, qy, zy⟩ := rep_ptp.mp h2; cases r2; obtain ⟨iy, rvy, hly, _⟩ := I.tuple (qy.sq (K := X.K))
      exact SeqAt.RcNeAt.int_tuple p tx hly hu0
    | dct q => cases n <;> simp [okN] at o2
    | loc q => cases n <;> simp [okN] at o2
    | own q => cases n <;> simp [okN] at o2
    | ownd q => cases n <;> simp [okN] at o2
    | lkd q => cases n <;> simp [okN] at o2
    | nst q => cases n <;> simp [okN] at o2
  | str p =>
    rw [rep_str] at h1; subst x; obtain ⟨tx, rfl⟩ := r1
    cases e with
    | non =>
      rw [rep_non] at h2; subst y; cases r2
      exact SeqAt.RcNeAt.str_none p tx
    | bl q =>
      rw [rep_bl] at h2; subst y; cases r2
      exact SeqAt.RcNeAt.str_bool p tx q
    | int q =>
      rw [rep_int] at h2; subst y; obtain ⟨ty, rfl⟩ := r2
      exact SeqAt.RcNeAt.str_int p tx q ty
    | str q =>
      rw [rep_str] at h2; subst y; obtain ⟨ty, rfl⟩ := r2
      exact SeqAt.RcNeAt.str_str p tx q ty
    | lst q =>
      obtain ⟨ay, vsy, rfl, qy, zy⟩ := rep_lst.mp h2; cases r2; obtain ⟨iy, rvy, ply, _⟩ := I.list qy.sq; have hly := ply.isList
      exact SeqAt.RcNeAt.str_list p tx hly hu0
    | tup q =>
      obtain ⟨ay, vsy, rfl, qy, zy⟩ := rep_tup.mp h2; cases r2; obtain ⟨iy, rvy, hly, _⟩ := I.tuple qy.sq
      exact SeqAt.RcNeAt.str_tuple p tx hly hu0
    | ptp q =>
      obtain ⟨ay, vsy, rfl, qy, zy⟩ := rep_ptp.mp h2; cases r2; obtain ⟨iy, rvy, hly, _⟩ := I.tuple (qy.sq (K := X.K))
      exact SeqAt.RcNeAt.str_tuple p tx hly hu0
    | dct q => cases n <;> simp [okN] at o2
    | loc q => cases n <;> simp [okN] at o2
    | own q => cases n <;> simp [okN] at o2
    | ownd q => cases n <;> simp [okN] at o2
    | lkd q => cases n <;> simp [okN] at o2
    | nst q => cases n <;> simp [okN] at o2
  | lst p =>
    obtain ⟨ax, vsx, rfl, qx, zx⟩ := rep_lst.mp h1; cases r1; obtain ⟨ix, rvx, plx, _⟩ := I.list qx.sq; have hlx := plx.isList
    cases e with
    | non =>
      rw [rep_non] at h2; subst y; cases r2
      exact SeqAt.RcNeAt.list_none hlx hu0
    | bl q =>
      rw [rep_bl] at h2; subst y; cases r2
      exact SeqAt.RcNeAt.list_bool q hlx hu0
    | int q =>
      rw [rep_int] at h2; subst y; obtain ⟨ty, rfl⟩ := r2
      exact SeqAt.RcNeAt.list_int q ty hlx hu0
    | str q =>
      rw [rep_str] at h2; subst y; obtain ⟨ty, rfl⟩ := r2
      exact SeqAt.RcNeAt.list_str q ty hlx hu0
    | lst q =>
      obtain ⟨ay, vsy, rfl, qy, zy⟩ := rep_lst.mp h2; cases r2; obtain ⟨iy, rvy, ply, _⟩ := I.list qy.sq; have hly := ply.isList
      exact neAt_D_lists I zx zy rvx rvy hlx hly o1 o2 hu
    | tup q =>
      obtain ⟨ay, vsy, rfl, qy, zy⟩ := rep_tup.mp h2; cases r2; obtain ⟨iy, rvy, hly, _⟩ := I.tuple qy.sq
      exact SeqAt.RcNeAt.list_tuple hlx hly hu0
    | ptp q =>
      obtain ⟨ay, vsy, rfl, qy, zy⟩ := rep_ptp.mp h2; cases r2; obtain ⟨iy, rvy, hly, _⟩ := I.tuple (qy.sq (K := X.K))
      exact SeqAt.RcNeAt.list_tuple hlx hly hu0
    | dct q => cases n <;> simp [okN] at o2
    | loc q => cases n <;> simp [okN] at o2
    | own q => cases n <;> simp [okN] at o2
    | ownd q => cases n <;> simp [okN] at o2
    | lkd q => cases n <;> simp [okN] at o2
    | nst q => cases n <;> simp [okN] at o2
  | tup p =>
    obtain ⟨ax, vsx, rfl, qx, zx⟩ := rep_tup.mp h1; cases r1; obtain ⟨ix, rvx, hlx, _⟩ := I.tuple qx.sq
    cases e with
    | non =>
      rw [rep_non] at h2; subst y; cases r2
      exact SeqAt.RcNeAt.tuple_none hlx hu0
    | bl q =>
      rw [rep_bl] at h2; subst y; cases r2
      exact SeqAt.RcNeAt.tuple_bool q hlx hu0
    | int q =>
      rw [rep_int] at h2; subst y; obtain ⟨ty, rfl⟩ := r2
      exact SeqAt.RcNeAt.tuple_int q ty hlx hu0
    | str q =>
      rw [rep_str] at h2; subst y; obtain ⟨ty, rfl⟩ := r2
      exact SeqAt.RcNeAt.tuple_str q ty hlx hu0
    | lst q =>
      obtain ⟨ay, vsy, rfl, qy, zy⟩ := rep_lst.mp h2; cases r2; obtain ⟨iy, rvy, ply, _⟩ := I.list qy.sq; have hly := ply.isList
      exact SeqAt.RcNeAt.tuple_list hlx hly hu0
    | tup q =>
      obtain ⟨ay, vsy, rfl, qy, zy⟩ := rep_tup.mp h2; cases r2; obtain ⟨iy, rvy, hly, _⟩ := I.tuple qy.sq
      exact neAt_D_tuples I zx zy rvx rvy hlx hly o1 o2 hu
    | ptp q =>
      obtain ⟨ay, vsy, rfl, qy, zy⟩ := rep_ptp.mp h2; cases r2; obtain ⟨iy, rvy, hly, _⟩ := I.tuple (qy.sq (K := X.K))
      rw [eqv_tp]
      exact neAt_D_tuples I zx zy rvx rvy hlx hly o1 (okN_pt o2) hu
    | dct q => cases n <;> simp [okN] at o2
    | loc q => cases n <;> simp [okN] at o2
    | own q => cases n <;> simp [okN] at o2
    | ownd q => cases n <;> simp [okN] at o2
    | lkd q => cases n <;> simp [okN] at o2
    | nst q => cases n <;> simp [okN] at o2
  | ptp p =>
    obtain ⟨ax, vsx, rfl, qx, zx⟩ := rep_ptp.mp h1; cases r1; obtain ⟨ix, rvx, hlx, _⟩ := I.tuple (qx.sq (K := X.K))
    cases e with
    | non =>
      rw [rep_non] at h2; subst y; cases r2
      exact SeqAt.RcNeAt.tuple_none hlx hu0
    | bl q =>
      rw [rep_bl] at h2; subst y; cases r2
      exact SeqAt.RcNeAt.tuple_bool q hlx hu0
    | int q =>
      rw [rep_int] at h2; subst y; obtain ⟨ty, rfl⟩ := r2
      exact SeqAt.RcNeAt.tuple_int q ty hlx hu0
    | str q =>
      rw [rep_str] at h2; subst y; obtain ⟨ty, rfl⟩ := r2
      exact SeqAt.RcNeAt.tuple_str q ty hlx hu0
    | lst q =>
      obtain ⟨ay, vsy, rfl, qy, zy⟩ := rep_lst.mp h2; cases r2; obtain ⟨iy, rvy, ply, _⟩ := I.list qy.sq; have hly := ply.isList
      exact SeqAt.RcNeAt.tuple_list hlx hly hu0
    | tup q =>
      obtain ⟨ay, vsy, rfl, qy, zy⟩ := rep_tup.mp h2; cases r2; obtain ⟨iy, rvy, hly, _⟩ := I.tuple qy.sq
      rw [eqv_pt]
      exact neAt_D_tuples I zx zy rvx rvy hlx hly (okN_pt o1) o2 hu
    | ptp q =>
      obtain ⟨ay, vsy, rfl, qy, zy⟩ := rep_ptp.mp h2; cases r2; obtain ⟨iy, rvy, hly, _⟩ := I.tuple (qy.sq (K := X.K))
      rw [eqv_pp]
      exact neAt_D_tuples I zx zy rvx rvy hlx hly (okN_pt o1) (okN_pt o2) hu
    | dct q => cases n <;> simp [okN] at o2
    | loc q => cases n <;> simp [okN] at o2
    | own q => cases n <;> simp [okN] at o2
    | ownd q => cases n <;> simp [okN] at o2
    | lkd q => cases n <;> simp [okN] at o2
    | nst q => cases n <;> simp [okN] at o2
  | dct q => cases n <;> simp [okN] at o1
  | loc q => cases n <;> simp [okN] at o1
  | own q => cases n <;> simp [okN] at o1
  | ownd q => cases n <;> simp [okN] at o1
  | lkd q => cases n <;> simp [okN] at o1
  | nst q => cases n <;> simp [okN] at o1
end
def dEq (d e : D) : Option D := if okN 60 d = true ∧ okN 60 e = true then some (.bl (D.eqv d e)) else none
def dNe (d e : D) : Option D := if okN 60 d = true ∧ okN 60 e = true then some (.bl (!D.eqv d e)) else none
section
variable {T : List (Addr × Str)} {X : Cx} {Wx : WX} {κ κ' : Bool} {a b : Expr} {ma mb : M D} {pos : Pos}
def rEqW (K : PySem.W.Frag) : L2.R2 := fun x y H Q => ∃ d e, okN 60 d = true ∧ okN 60 e = true ∧ Rep K noW H d x ∧ Rep K noW H e y ∧ Q (.bl (D.eqv d e)) H
def rNeW (K : PySem.W.Frag) : L2.R2 := fun x y H Q => ∃ d e, okN 60 d = true ∧ okN 60 e = true ∧ Rep K noW H d x ∧ Rep K noW H e y ∧ Q (.bl (!D.eqv d e)) H
/-- x in a list or tuple of plain data -/
def rInW (K : PySem.W.Frag) (neg : Bool) : L2.R2 := fun x y H Q => ∃ d xs, okN 59 d = true ∧ (∀ z ∈ xs, okN 59 z = true) ∧ Rep K noW H d x ∧ (Rep K noW H (.lst xs) y ∨ Rep K noW H (.tup xs) y ∨ Rep K noW H (.ptp xs) y) ∧ Q (.bl (if neg then !xs.any (fun z => D.eqv z d) else xs.any (fun z => D.eqv z d))) H
open Classical in
noncomputable def eItem (K : PySem.W.Frag) (H : Hp) (d : D) (w : Value) : Bool := if h : ∃ z y, okN 59 z = true ∧ Rep K noW H z y ∧ RelV y w then D.eqv (choose h) d else false
theorem eItem_is {pins : List (Addr × Obj)} {σ : L2.St} {H : Hp} {s : Shared} (I : Inv X pins σ H s) {d z : D} {y : V} {w : Value} (o : okN 59 z = true) (h : Rep X.K noW H z y) (r : RelV y w) : eItem X.K H d w = D.eqv z d := by
  have ex : ∃ z y, okN 59 z = true ∧ Rep X.K noW H z y ∧ RelV y w := ⟨z, y, o, h, r⟩
  unfold eItem
  rw [dif_pos ex]
  obtain ⟨y', o', h', r'⟩ := Classical.choose_spec ex
  have e : y' = y := RelV.inj r' r
  subst e
  rw [rep_inj I 59 _ _ _ o' o h' h]
theorem any_items {pins : List (Addr × Obj)} {σ : L2.St} {H : Hp} {s : Shared} (I : Inv X pins σ H s) {d : D} : ∀ {xs : List D} {vs : List V} {us : List Value}, (∀ z ∈ xs, okN 59 z = true) → Reps X.K noW H xs vs → Vals vs us → us.any (eItem X.K H d) = xs.any fun z => D.eqv z d
  | [], vs, us, _, h, r => by unfold Reps at h; subst h; cases r; rfl
  | x :: xs, vs, us, o, h, r => by
    unfold Reps at h
    obtain ⟨v, rs, rfl, h1, h2⟩ := h
    cases r with
    | cons r1 r2 => rw [List.any_cons, List.any_cons, eItem_is I (o x (by simp)) h1 r1, any_items I (fun z hz => o z (by simp [hz])) h2 r2]
theorem item_eqAt {pins : List (Addr × Obj)} {σ : L2.St} {H : Hp} {s : Shared} (I : Inv X pins σ H s) (hu : X.A.units + 64 < cLine) {d : D} {x : V} {v : Value} (od : okN 59 d = true) (hd : Rep X.K noW H d x) (rx : RelV x v) {xs : List D} {vs : List V} {us : List Value} (o : ∀ z ∈ xs, okN 59 z = true) (h : Reps X.K noW H xs vs) (r : Vals vs us) :
    ∀ w ∈ us, SeqAt.EqAt X.A.in1 s w v (eItem X.K H d w) := fun w hw => by
  obtain ⟨j, hj, e⟩ := List.getElem_of_mem hw
  have l : vs.length = us.length := r.length
  obtain ⟨z, ez, hz⟩ := h.getV (List.getElem?_eq_getElem (show j < vs.length by omega))
  obtain ⟨w', ew, rw'⟩ := r.get (List.getElem?_eq_getElem (show j < vs.length by omega))
  have : w' = w := by
    rw [List.getElem?_eq_getElem hj, e] at ew
    exact (Option.some.inj ew).symm
  subst this
  have oz := o z (List.mem_of_getElem? ez)
  rw [eItem_is I oz hz rw']
  exact eqAt_D I 59 z d X.A.in1 _ x w' v hz hd rw' rx oz od (by rw [in1_units]; omega)
theorem op_inW (hu : X.A.units + 64 < cLine) : OpR X (compareOp .In) (rInW X.K false) := by
  intro pins s σ H x y v u Q I rx ry ⟨d, xs, od, o, hd, hx, q⟩
  rcases hx with hx | hx | hx
  · obtain ⟨a, vs, rfl, l, r⟩ := rep_lst.mp hx
    cases ry
    obtain ⟨its, rv, pl, hz⟩ := I.list l.sq
    refine SeqAt.in_listAt (eItem X.K H d) pl.isList (fun w hw => item_eqAt I hu od hd rx o r rv w (by simpa using hw)) ⟨.bl _, H, I, rfl, ?_⟩
    rw [List.any_toArray, any_items I o r rv]
    exact q
  · obtain ⟨a, vs, rfl, l, r⟩ := rep_tup.mp hx
    cases ry
    obtain ⟨its, rv, pl, hz⟩ := I.tuple l.sq
    refine SeqAt.in_tupleAt (eItem X.K H d) pl (fun w hw => item_eqAt I hu od hd rx o r rv w (by simpa using hw)) ⟨.bl _, H, I, rfl, ?_⟩
    rw [List.any_toArray, any_items I o r rv]
    exact q
  · obtain ⟨a, vs, rfl, l, r⟩ := rep_ptp.mp hx
    cases ry
    obtain ⟨its, rv, pl, hz⟩ := I.tuple (l.sq (K := X.K))
    refine SeqAt.in_tupleAt (eItem X.K H d) pl (fun w hw => item_eqAt I hu od hd rx o r rv w (by simpa using hw)) ⟨.bl _, H, I, rfl, ?_⟩
    rw [List.any_toArray, any_items I o r rv]
    exact q
theorem op_eqW (hu : X.A.units + 64 < cLine) : OpR X (compareOp .Eq) (rEqW X.K) := by
  intro pins s σ H x y v u Q I rx ry ⟨d, e, o1, o2, h1, h2, q⟩
  exact rcAt_D I 60 d e X.A x y v u h1 h2 rx ry o1 o2 (by omega) X.prog X.w _ _ ⟨.bl _, _, I, rfl, q⟩
theorem op_neW (hu : X.A.units + 64 < cLine) : OpR X (compareOp .NotEq) (rNeW X.K) := by
  intro pins s σ H x y v u Q I rx ry ⟨d, e, o1, o2, h1, h2, q⟩
  exact neAt_D I 60 d e X.A x y v u h1 h2 rx ry o1 o2 (by omega) X.prog X.w _ _ ⟨.bl _, _, I, rfl, q⟩
theorem op2_eqW : Op2 true (CurR X) (CurR X) (RepR X) T X Wx (rEqW X.K) (pure2 dEq) := by
  intro W H env st σ x y d e Q rl h1 h2 hp
  unfold pure2 dEq at hp
  split at hp
  · rename_i o
    exact ⟨d, e, o.1, o.2, cur_data o.1 h1, cur_data o.2 h2, hp.ok rl (rep_bl.mpr rfl)⟩
  · exact hp.elim
theorem op2_neW : Op2 true (CurR X) (CurR X) (RepR X) T X Wx (rNeW X.K) (pure2 dNe) := by
  intro W H env st σ x y d e Q rl h1 h2 hp
  unfold pure2 dNe at hp
  split at hp
  · rename_i o
    exact ⟨d, e, o.1, o.2, cur_data o.1 h1, cur_data o.2 h2, hp.ok rl (rep_bl.mpr rfl)⟩
  · exact hp.elim
end
end Ev
set_option autoImplicit true
set_option maxRecDepth 100000
set_option maxHeartbeats 4000000
/-! order, tests, displays -/
namespace Ev
open PySem PySem.Spec PyProof.Rows L2
/-- what can be read now -/
def ToCur (X : Cx) (R : Wm → Hp → D → V → Prop) : Prop := ∀ W H d v, R W H d v → CRep X.K W H d v
theorem ToCur.rep {X : Cx} : ToCur X (RepR X) := fun _ _ _ _ h => .inl h
theorem ToCur.cur {X : Cx} : ToCur X (CurR X) := fun _ _ _ _ h => h
theorem ToCur.held {X : Cx} : ToCur X (HeldR X) := fun _ _ _ _ h => h.imp id (Or.imp (fun ⟨t, ds, _, a, b⟩ => ⟨t, ds, a, b⟩) (Or.imp (fun ⟨t, ds, _, a, b⟩ => ⟨t, ds, a, b⟩) fun ⟨t, ds, _, a, b⟩ => ⟨t, ds, a, b⟩))
section
variable {T : List (Addr × Str)} {X : Cx} {Wx : WX} {κ κ' κa κb κc : Bool} {a b c e : Expr} {ma mb mc : M D} {pos p : Pos} {R1 R2 R4 : Wm → Hp → D → V → Prop}
theorem Op2.low {α : Type} {R3 : Wm → Hp → α → V → Prop} {r : L2.R2} {f : D → D → Sto → Res α} (o : Op2 true (CurR X) (CurR X) R3 T X Wx r f) (c1 : ToCur X R1) (c2 : ToCur X R2) : Op2 true R1 R2 R3 T X Wx r f :=
  fun W H env st σ x y d1 d2 Q rl h1 h2 hp => o W H env st σ x y d1 d2 Q rl (c1 _ _ _ _ h1) (c2 _ _ _ _ h2) hp
/-- an answer that is a bool -/
def D.b? : D → Option Bool
  | .bl b => some b
  | _ => none
def mTest (m : M D) : M Bool := fun env st => (m env st).bind fun d st' => Res.of d.b? st'
theorem tTest_of {t : TE} {m : M D} (h : ∀ W H env st σ Q, Rel (Gof X T) W H env st σ → Post κ (RepR X) (Gof X T) Wx W H env σ (m env st) Q → t σ H Q) :
    ∀ W H env st σ Q, Rel (Gof X T) W H env st σ → Post κ BoolR (Gof X T) Wx W H env σ (mTest m env st) Q → tTest t σ H Q := fun W H env st σ Q r p =>
  h W H env st σ _ r (p.bind id fun d st' W' H' v e r' q p' => by
    cases d with
    | bl b => exact ⟨b, rep_bl.mp q, p'.ok r' rfl⟩
    | _ => exact p'.elim)
section
variable {r : L2.R2} {f : D → D → Sto → Res D}
theorem tv_cmpR {op : CmpOp} (ho : OpR X (compareOp op) r) (S : Stands κb R1) (o : Op2 true R1 R2 (RepR X) T X Wx r f) (hm : behindInMarks op b = false) (ha : EVg κa R1 T X Wx a ma) (hb : EVg κb R2 T X Wx b mb) : TV (κa && κb) T X Wx (.Compare a [op] [b] pos) (mTest (mBin ma mb f)) := by
  obtain ⟨ta, pa, ra⟩ := ha.ex
  obtain ⟨tb, pb, rb⟩ := hb.ex
  exact ⟨_, pt_cmpR ho pa pb hm, tTest_of (op2_pair S o ra rb)⟩
end
/-! ### order -/
def dOrd (f : Int → Int → Bool) : D → D → Option D
  | .int i, .int j => some (.bl (f i j))
  | _, _ => none
abbrev fLt : Int → Int → Bool := fun i j => decide (i < j)
abbrev fLe : Int → Int → Bool := fun i j => decide (i ≤ j)
abbrev fGt : Int → Int → Bool := fun i j => decide (j < i)
abbrev fGe : Int → Int → Bool := fun i j => decide (j ≤ i)
theorem op2_ord {f : Int → Int → Bool} : Op2 true (RepR X) (RepR X) (RepR X) T X Wx (rI0 fun i j => .bl (f i j)) (pure2 (dOrd f)) := op2_of fun W H x y d1 d2 d Q h1 h2 e q => by
  unfold dOrd at e
  split at e
  · cases e; rw [rep_int] at h1 h2; exact ⟨_, _, h1, h2, q _ (rep_bl.mpr rfl)⟩
  · cases e
theorem ev_ge (ha : EV κ T X Wx a ma) (hb : EV κ' T X Wx b mb) : EV (κ && κ') T X Wx (.Compare a [.GtE] [b] pos) (mBin ma mb (pure2 (dOrd fGe))) := ev_cmpR op_ge Stands.rep op2_ord (nomark _) ha hb
theorem tv_lt (ha : EV κ T X Wx a ma) (hb : EV κ' T X Wx b mb) : TV (κ && κ') T X Wx (.Compare a [.Lt] [b] pos) (mTest (mBin ma mb (pure2 (dOrd fLt)))) := tv_cmpR op_lt Stands.rep op2_ord (nomark _) ha hb
theorem tv_gt (ha : EV κ T X Wx a ma) (hb : EV κ' T X Wx b mb) : TV (κ && κ') T X Wx (.Compare a [.Gt] [b] pos) (mTest (mBin ma mb (pure2 (dOrd fGt)))) := tv_cmpR op_gt Stands.rep op2_ord (nomark _) ha hb
theorem tv_ge (ha : EV κ T X Wx a ma) (hb : EV κ' T X Wx b mb) : TV (κ && κ') T X Wx (.Compare a [.GtE] [b] pos) (mTest (mBin ma mb (pure2 (dOrd fGe)))) := tv_cmpR op_ge Stands.rep op2_ord (nomark _) ha hb
/-! ### == and != -/
theorem ev_eq (hu : X.A.units + 64 < cLine) (ha : EVg κ R1 T X Wx a ma) (hb : EVg κ' R2 T X Wx b mb) (S : Stands κ' R1 := by first | exact Stands.rep | exact Stands.held | exact Stands.cur) (c1 : ToCur X R1 := by first | exact ToCur.rep | exact ToCur.held | exact ToCur.cur) (c2 : ToCur X R2 := by first | exact ToCur.rep | exact ToCur.held | exact ToCur.cur) :
    EV (κ && κ') T X Wx (.Compare a [.Eq] [b] pos) (mBin ma mb (pure2 dEq)) := ev_cmpR (op_eqW hu) S (op2_eqW.low c1 c2) (nomark _) ha hb
theorem tv_eq (hu : X.A.units + 64 < cLine) (ha : EVg κ R1 T X Wx a ma) (hb : EVg κ' R2 T X Wx b mb) (S : Stands κ' R1 := by first | exact Stands.rep | exact Stands.held | exact Stands.cur) (c1 : ToCur X R1 := by first | exact ToCur.rep | exact ToCur.held | exact ToCur.cur) (c2 : ToCur X R2 := by first | exact ToCur.rep | exact ToCur.held | exact ToCur.cur) :
    TV (κ && κ') T X Wx (.Compare a [.Eq] [b] pos) (mTest (mBin ma mb (pure2 dEq))) := tv_cmpR (op_eqW hu) S (op2_eqW.low c1 c2) (nomark _) ha hb
theorem tv_ne (hu : X.A.units + 64 < cLine) (ha : EVg κ R1 T X Wx a ma) (hb : EVg κ' R2 T X Wx b mb) (S : Stands κ' R1 := by first | exact Stands.rep | exact Stands.held | exact Stands.cur) (c1 : ToCur X R1 := by first | exact ToCur.rep | exact ToCur.held | exact ToCur.cur) (c2 : ToCur X R2 := by first | exact ToCur.rep | exact ToCur.held | exact ToCur.cur) :
    TV (κ && κ') T X Wx (.Compare a [.NotEq] [b] pos) (mTest (mBin ma mb (pure2 dNe))) := tv_cmpR (op_neW hu) S (op2_neW.low c1 c2) (nomark _) ha hb
/-! ### is None, is not None -/
/-! ### a < b < c -/
def mChain (ma mb mc : M D) (f g : D → D → Option D) : M D := fun env st => (ma env st).bind fun x st1 => (mb env st1).bind fun y st2 => (Res.of ((f x y).bind D.b?) st2).bind fun k st3 =>
  if k = true then (mc env st3).bind fun z st4 => Res.of (g y z) st4 else .ok (.bl false) st3
section
variable {r r' : L2.R2} {f g : D → D → Option D}
theorem chain_read {ta tb tc : TE} (hf : ∀ W H x y d1 d2 d Q, Rep X.K W H d1 x → Rep X.K W H d2 y → f d1 d2 = some d → (∀ v, Rep X.K W H d v → Q v H) → r x y H Q)
    (hg : ∀ W H x y d1 d2 d Q, Rep X.K W H d1 x → Rep X.K W H d2 y → g d1 d2 = some d → (∀ v, Rep X.K W H d v → Q v H) → r' x y H Q)
    (ha : ∀ W H env st σ Q, Rel (Gof X T) W H env st σ → Post κa (RepR X) (Gof X T) Wx W H env σ (ma env st) Q → ta σ H Q) (hb : ∀ W H env st σ Q, Rel (Gof X T) W H env st σ → Post κb (RepR X) (Gof X T) Wx W H env σ (mb env st) Q → tb σ H Q)
    (hc : ∀ W H env st σ Q, Rel (Gof X T) W H env st σ → Post κc (RepR X) (Gof X T) Wx W H env σ (mc env st) Q → tc σ H Q) :
    ∀ W H env st σ Q, Rel (Gof X T) W H env st σ → Post ((κa && κb) && κc) (RepR X) (Gof X T) Wx W H env σ (mChain ma mb mc f g env st) Q → tChain r r' ta tb tc σ H Q := fun W H env st σ Q rl h =>
  ha _ _ _ _ _ _ rl (h.bind and3 fun x st1 W1 H1 v e1 r1 q1 h1 => hb _ _ _ _ _ _ r1 (h1.bind and32 fun y st2 W2 H2 u e2 r2 q2 h2 => by
    cases ef : f x y with
    | none => rw [ef] at h2; exact h2.elim
    | some d =>
      rw [ef] at h2
      cases d with
      | bl k =>
        have q1' := Rep.mono e2.mo _ _ q1
        refine hf W2 H2 v u x y _ _ q1' q2 ef fun w' hw => ⟨k, rep_bl.mp hw, ?_⟩
        have h3 : Post ((κa && κb) && κc) (RepR X) (Gof X T) Wx W2 H2 env σ (if k = true then (mc env st2).bind fun z st4 => Res.of (g y z) st4 else .ok (.bl false) st2) Q := h2
        by_cases hk : k = true
        · rw [if_pos hk] at h3 ⊢
          refine hc _ _ _ _ _ _ r2 (h3.bind and33 fun z st4 W4 H4 w4 e4 r4 q4 h4 => ?_)
          cases eg : g y z with
          | none => rw [eg] at h4; exact h4.elim
          | some d' =>
            rw [eg] at h4
            exact hg W4 H4 u w4 y z d' Q (Rep.mono e4.mo _ _ q2) q4 eg fun v' hv => h4.ok r4 hv
        · rw [if_neg hk] at h3 ⊢
          exact h3.ok r2 (rep_bl.mpr rfl)
      | _ => exact h2.elim))
end
theorem ord_read {f : Int → Int → Bool} : ∀ (W : Wm) (H : Hp) (x y : V) (d1 d2 d : D) (Q : VK), Rep X.K W H d1 x → Rep X.K W H d2 y → dOrd f d1 d2 = some d → (∀ v, Rep X.K W H d v → Q v H) → rI0 (fun i j => .bl (f i j)) x y H Q := fun W H x y d1 d2 d Q h1 h2 e q => by
  unfold dOrd at e
  split at e
  · cases e; rw [rep_int] at h1 h2; exact ⟨_, _, h1, h2, q _ (rep_bl.mpr rfl)⟩
  · cases e
def ordOf : CmpOp → Int → Int → Bool
  | .Lt => fLt
  | .LtE => fLe
  | .Gt => fGt
  | _ => fGe
theorem ordOf_ok {op : CmpOp} (h : op = .Lt ∨ op = .LtE ∨ op = .Gt ∨ op = .GtE) : OpR X (compareOp op) (rI0 fun i j => .bl (ordOf op i j)) := by
  rcases h with rfl | rfl | rfl | rfl
  · exact op_lt
  · exact op_le
  · exact op_gt
  · exact op_ge
theorem tv_chain {op op' : CmpOp} (h1 : op = .Lt ∨ op = .LtE ∨ op = .Gt ∨ op = .GtE) (h2 : op' = .Lt ∨ op' = .LtE ∨ op' = .Gt ∨ op' = .GtE) (ha : EV κa T X Wx a ma) (hb : EV κb T X Wx b mb) (hc : EV κc T X Wx c mc) (hm : lastMarks [op, op'] [b, c] = false := by with_unfolding_all rfl) :
    TV ((κa && κb) && κc) T X Wx (.Compare a [op, op'] [b, c] pos) (mTest (mChain ma mb mc (dOrd (ordOf op)) (dOrd (ordOf op')))) := by
  obtain ⟨ta, pa, ra⟩ := ha.ex
  obtain ⟨tb, pb, rb⟩ := hb.ex
  obtain ⟨tc, pc, rc⟩ := hc.ex
  exact ⟨_, pt_chain (ordOf_ok h1) (ordOf_ok h2) pa pb pc hm, tTest_of (chain_read ord_read ord_read ra rb rc)⟩
/-! ### and, or, not, if -/
def mAnd (m n : M Bool) : M Bool := fun env st => (m env st).bind fun k st1 => if k = true then n env st1 else .ok false st1
def mOr (m n : M Bool) : M Bool := fun env st => (m env st).bind fun k st1 => if k = true then .ok true st1 else n env st1
def mNot (m : M Bool) : M Bool := fun env st => (m env st).bind fun k st1 => .ok (!k) st1
def mIf {α : Type} (m : M Bool) (n o : M α) : M α := fun env st => (m env st).bind fun k st1 => if k = true then n env st1 else o env st1
section
variable {mt mu : M Bool} {rest : List Expr}
theorem tw_and1 (ha : TV κ T X Wx a mt) : TW κ T X Wx (.BoolOp .And [a] pos) mt := by
  obtain ⟨ta, pa, ra⟩ := ha.ex
  exact ⟨_, pw_and1 pa, ra⟩
theorem tw_or1 (ha : TV κ T X Wx a mt) : TW κ T X Wx (.BoolOp .Or [a] pos) mt := by
  obtain ⟨ta, pa, ra⟩ := ha.ex
  exact ⟨_, pw_or1 pa, ra⟩
theorem tw_and (ha : TV κ T X Wx a mt) (hb : TW κ' T X Wx (.BoolOp .And (b :: rest) pos) mu) : TW (κ && κ') T X Wx (.BoolOp .And (a :: b :: rest) pos) (mAnd mt mu) := by
  obtain ⟨ta, pa, ra⟩ := ha.ex
  obtain ⟨tb, pb, rb⟩ := hb.ex
  refine ⟨_, pw_and pa pb, fun W H env st σ Q rl h => ra _ _ _ _ _ _ rl (h.bind and21 fun k st1 W1 H1 v e1 r1 q1 h1 => ?_)⟩
  subst q1
  by_cases hk : v = true
  · rw [if_pos hk] at h1 ⊢; exact rb _ _ _ _ _ _ r1 (h1.weak and22)
  · rw [if_neg hk] at h1 ⊢; exact h1.ok r1 rfl
theorem tw_or (ha : TV κ T X Wx a mt) (hb : TW κ' T X Wx (.BoolOp .Or (b :: rest) pos) mu) : TW (κ && κ') T X Wx (.BoolOp .Or (a :: b :: rest) pos) (mOr mt mu) := by
  obtain ⟨ta, pa, ra⟩ := ha.ex
  obtain ⟨tb, pb, rb⟩ := hb.ex
  refine ⟨_, pw_or pa pb, fun W H env st σ Q rl h => ra _ _ _ _ _ _ rl (h.bind and21 fun k st1 W1 H1 v e1 r1 q1 h1 => ?_)⟩
  subst q1
  by_cases hk : v = true
  · rw [if_pos hk] at h1 ⊢; exact h1.ok r1 rfl
  · rw [if_neg hk] at h1 ⊢; exact rb _ _ _ _ _ _ r1 (h1.weak and22)
theorem tv_not (ha : TV κ T X Wx a mt) : TV κ T X Wx (.UnaryOp .Not a pos) (mNot mt) := by
  obtain ⟨ta, pa, ra⟩ := ha.ex
  exact ⟨_, pt_not pa, fun W H env st σ Q rl h => ra _ _ _ _ _ _ rl (h.bind id fun k st1 W1 H1 v e1 r1 q1 h1 => by subst q1; exact h1.ok r1 rfl)⟩
end
/-- a test by an expression that gives a bool -/
theorem tv_val (ha : EV κ T X Wx a ma) (he : ∀ whole, isTrue a X.env whole = (do let v ← whole; standAt a.pos; holding [v] (truthy v)) := by intro _; rfl) : TV κ T X Wx a (mTest ma) := by
  obtain ⟨ta, pa, ra⟩ := ha.ex
  refine ⟨_, pt_val pa he, fun W H env st σ Q rl h => ?_⟩
  exact tTest_of ra W H env st σ Q rl h
/-! ### -a -/
/-! ### arguments, tuples -/
def mNil : M (List D) := fun _ st => .ok [] st
def mCons (m : M D) (n : M (List D)) : M (List D) := mBin m n fun d ds st => .ok (d :: ds) st
theorem av_nil : AV true T X Wx [] mNil := ⟨_, pa_nil, fun W H env st σ Q rl h => h.ok rl Reps.nil⟩
theorem av_cons {es : List Expr} {n : M (List D)} (he : EV κ T X Wx e ma) (hr : AV κ' T X Wx es n) (hs : starEach (e :: es) X.env = (false, eval e X.env) :: starEach es X.env := by rfl) : AV (κ && κ') T X Wx (e :: es) (mCons ma n) := by
  obtain ⟨ta, pa, ra⟩ := he.ex
  obtain ⟨tb, pb, rb⟩ := hr.ex
  exact ⟨_, pa_cons pa pb hs, fun W H env st σ Q rl h => ra _ _ _ _ _ _ rl (h.bind and21 fun d st1 W1 H1 v e1 r1 q1 h1 => rb _ _ _ _ _ _ r1 (h1.bind and22 fun ds st2 W2 H2 vs e2 r2 q2 h2 => h2.ok r2 (Reps.cons (Rep.mono e2.mo _ _ q1) q2)))⟩
theorem small_line {n : Nat} (h : n ≤ 1000) : n ≤ sizeLine := Nat.le_of_lt (small1000 h)
/-- laying a new thing that nobody holds -/
theorem Post.laid {α : Type} {R : Wm → Hp → α → V → Prop} {a : α} {W : Wm} {H : Hp} {env : Env} {st : Sto} {σ : L2.St} {Q : VK} {o : HO} {p : Addr} (h : Post κ R (Gof X T) Wx W H env σ (.ok a st) Q) (rl : Rel (Gof X T) W H env st σ) (hp : H p = none) (q : R W (upd H p o) a (.ref p)) : Q (.ref p) (upd H p o) :=
  h.okE (Ext.laid rl.sto hp) (rl.laid hp) q
def mTup (m : M (List D)) : M D := fun env st => (m env st).bind fun ds st' => if ds.length ≤ 1000 then .ok (.tup ds) st' else .bad
theorem ev_tup {es : List Expr} {n : M (List D)} {x1 : Nat} (h : AV κ T X Wx es n) : EV κ T X Wx (.Tuple es x1 pos) (mTup n) := by
  obtain ⟨ta, pa, ra⟩ := h.ex
  refine ⟨_, pe_tup pa, fun W H env st σ Q rl h => ra _ _ _ _ _ _ rl (h.bind id fun ds st1 W1 H1 vs e1 r1 q1 h1 => ?_)⟩
  split at h1
  · rename_i hz
    rw [q1.length] at hz
    exact ⟨small_line hz, fun p hp => h1.laid r1 hp (rep_tup.mpr ⟨p, vs, rfl, ⟨r1.sto.nobody hp, upd_same⟩, Reps.mono (Ext.laid (κ := true) r1.sto hp).mo _ _ q1⟩)⟩
  · exact h1.elim
end
end Ev
set_option autoImplicit true
set_option maxRecDepth 100000
set_option maxHeartbeats 4000000
/-! new lists, items, lengths, built-ins by name -/
namespace Ev
open PySem PySem.Spec PyProof.Rows L2
/-! ### what is new -/
def CL (K : PySem.W.Frag) : Wm → Hp → List D → Addr → Prop := fun W H ds p => ∃ vs, H p = some (.lst vs) ∧ Reps K W H ds vs
def CD (K : PySem.W.Frag) : Wm → Hp → Dc → Addr → Prop := fun W H kvs p => (∃ ks, H p = some (.dK ks) ∧ RepKc K W H kvs ks) ∨ ∃ ks, H p = some (.dT ks) ∧ RepTc K W H kvs ks
def PostN {α : Type} (κ : Bool) (C : Wm → Hp → α → Addr → Prop) (G : Gx) (Wx : WX) (W : Wm) (H : Hp) (env : Env) (σ : L2.St) (r : Res α) (Q : V → Hp → Prop) : Prop := match r with
  | .ok a st => ∀ W' H' p, Ext κ W H W' H' → Rel G W' H' env st σ → Fr H p → W' p = some .tmp → C W' H' a p → Q (.ref p) H'
  | .exc x st => ∀ W' H' c d, Ext false W H W' H' → Rel G W' H' env st σ → ExnRep G W' H' x c d → Wx c d σ H'
  | .bad => False
structure FV {α : Type} (κ : Bool) (C : Wm → Hp → α → Addr → Prop) (T : List (Addr × Str)) (X : Cx) (Wx : WX) (e : Expr) (m : M α) : Prop where
  ex : ∃ t, PE X e t ∧ ∀ W H env st σ Q, Rel (Gof X T) W H env st σ → PostN κ C (Gof X T) Wx W H env σ (m env st) Q → t σ H Q
abbrev NV (κ : Bool) (T : List (Addr × Str)) (X : Cx) (Wx : WX) (e : Expr) (m : M (List D)) : Prop := FV κ (CL X.K) T X Wx e m
section
variable {α β γ δ : Type} {κ κ' : Bool} {R : Wm → Hp → α → β → Prop} {C : Wm → Hp → γ → Addr → Prop} {C' : Wm → Hp → δ → Addr → Prop} {G : Gx} {Wx : WX} {W W' : Wm} {H H' : Hp} {env : Env} {σ : L2.St}
theorem Ext.fr_ (e : Ext κ W H W' H') {p : Addr} (hp : Fr H' p) : Fr H p := fun o q => by
  by_cases z : ∃ ps, o = .tbl ps
  · exact z
  · obtain ⟨o', q', n⟩ := e.th p o q fun ps y => z ⟨ps, y⟩
    obtain ⟨ps, y⟩ := hp o' q'
    exact absurd y (n ps)
theorem PostN.ext {r : Res γ} {Q : VK} (h : PostN κ C G Wx W H env σ r Q) (e : Ext κ W H W' H') : PostN κ C G Wx W' H' env σ r Q := by
  cases r with
  | ok a st => exact fun W2 H2 p e2 r2 hp w2 q => h W2 H2 p (e.trans e2) r2 (e.fr_ hp) w2 q
  | exc x st => exact fun W2 H2 c d e2 r2 q => h W2 H2 c d (e.f.trans e2) r2 q
  | bad => exact h.elim
theorem PostN.weak {r : Res γ} {Q : VK} (h : PostN κ C G Wx W H env σ r Q) (hk : κ = true → κ' = true) : PostN κ' C G Wx W H env σ r Q := by
  cases r with
  | ok a st => exact fun W' H' p e r hp w q => h W' H' p (e.weak hk) r hp w q
  | exc x st => exact h
  | bad => exact h.elim
/-- a part of an expression that makes something new -/
theorem PostN.bind {r : Res α} {f : α → Sto → Res γ} {Q : VK} {Q1 : β → Hp → Prop} (h : PostN κ C G Wx W H env σ (r.bind f) Q) (hk : κ = true → κ' = true)
    (k : ∀ a st' W' H' b, Ext κ' W H W' H' → Rel G W' H' env st' σ → R W' H' a b → PostN κ C G Wx W' H' env σ (f a st') Q → Q1 b H') : Post κ' R G Wx W H env σ r Q1 := by
  cases r with
  | ok a st => exact fun W' H' b e r q => k a st W' H' b e r q (h.ext (e.weak hk))
  | exc x st => exact h
  | bad => exact h.elim
/-- a new thing is laid -/
theorem PostN.laid {a : γ} {st : Sto} {Q : VK} {o : HO} {p : Addr} (h : PostN κ C G Wx W H env σ (.ok a st) Q) (r : Rel G W H env st σ) (hp : H p = none) (ho : ∀ ps, o ≠ .tbl ps) (q : C (tagW W p (some .tmp)) (upd H p o) a p) (hv : ∀ vs, o ≠ .tup vs := by intro _ z; cases z) : Q (.ref p) (upd H p o) :=
  h _ _ p (ext_laidT r.sto hp) (r.laidT hp (fun n z => by cases z) ho hv) (.of hp) tagW_same q
/-- what is new and kept, is nobody's -/
theorem ext_untmp {st : Sto} (s : StoOk G W H st) (e : Ext κ W H W' H') {p : Addr} (hp : Fr H p) : Ext κ W H (tagW W' p none) H' where
  fr := fun a o h q n => by
    rw [tagW_ne fun z => by subst z; obtain ⟨ps, y⟩ := hp o q; exact n ps y]
    exact e.fr a o h q n
  ob := fun a n h => by
    rw [tagW_ne (s.neF hp h)]
    exact e.ob a n h
  hl := fun a t h k => by
    rw [tagW_ne (s.neF hp h)]
    exact e.hl a t h k
  th := e.th
end
section
variable {T : List (Addr × Str)} {X : Cx} {Wx : WX} {κ κ' κa κb κc : Bool} {a b c e : Expr} {ma mb mc : M D} {pos p : Pos} {R1 R2 R4 : Wm → Hp → D → V → Prop}
/-- the new thing is kept: nobody's -/
theorem ev_frz {n : M (List D)} (h : NV κ T X Wx e n) : EV κ T X Wx e (mUn n fun ds st => .ok (.lst ds) st) := by
  obtain ⟨t, h1, h2⟩ := h.ex
  refine ⟨t, h1, fun W H env st σ Q rl h => h2 _ _ _ _ _ _ rl ?_⟩
  show PostN κ (CL X.K) (Gof X T) Wx W H env σ (n env st) Q
  unfold mUn at h
  cases en : n env st with
  | ok ds st' =>
    rw [en] at h
    intro W' H' p e' r' hp w' ⟨vs, q1, q2⟩
    have mo := mo_untag (W := W') (H := H') (p := p) fun n z => by rw [w'] at z; cases z
    exact h (tagW W' p none) H' (.ref p) (ext_untmp rl.sto e' hp) (r'.untmp w') (rep_lst.mpr ⟨p, vs, rfl, .inl ⟨tagW_same, .inl q1⟩, Reps.mono mo _ _ q2⟩)
  | exc x st' => rw [en] at h; exact h
  | bad => rw [en] at h; exact h.elim
theorem rep_dct {K : PySem.W.Frag} {W : Wm} {H : Hp} {kvs : Dc} {v : V} : Rep K W H (.dct kvs) v ↔ ∃ a, v = .ref a ∧ ((∃ ks, Free W H a (.dK ks) ∧ RepKc K W H kvs ks) ∨ ∃ ks, Free W H a (.dT ks) ∧ RepTc K W H kvs ks) := by
  obtain ⟨t, l⟩ := kvs
  rw [Rep]
  exact Iff.rfl
/-- [a, b, ..] -/
def mSmall (m : M (List D)) : M (List D) := fun env st => (m env st).bind fun ds st' => if ds.length ≤ 1000 then .ok ds st' else .bad
theorem nv_lst {es : List Expr} {n : M (List D)} (h : AV κ T X Wx es n) : NV κ T X Wx (.List es pos) (mSmall n) := by
  obtain ⟨ta, pa, ra⟩ := h.ex
  refine ⟨_, pe_lst pa, fun W H env st σ Q rl h => ra _ _ _ _ _ _ rl (PostN.bind (R := RepsR X) h (fun z => z) fun ds st1 W1 H1 vs e1 r1 q1 h1 => ?_)⟩
  split at h1
  · rename_i hz
    rw [q1.length] at hz
    exact ⟨small_line hz, fun p hp => h1.laid r1 hp (fun _ z => by cases z) ⟨vs, upd_same, Reps.mono (ext_laidT (κ := true) r1.sto hp).mo _ _ q1⟩⟩
  · exact h1.elim
/-- [a, b, ..] as a list of the store: what others may change -/
def mStore (m : M (List D)) : M D := fun env st => (m env st).bind fun ds st' => if ds.length ≤ 1000 then .ok (.loc st'.length) (st' ++ [.ls ds]) else .bad
theorem ev_lstO {es : List Expr} {n : M (List D)} (h : AV κ T X Wx es n) : EV κ T X Wx (.List es pos) (mStore n) := by
  obtain ⟨ta, pa, ra⟩ := h.ex
  refine ⟨_, pe_lst pa, fun W H env st σ Q rl h => ra _ _ _ _ _ _ rl (h.bind (fun z => z) fun ds st1 W1 H1 vs e1 r1 q1 h1 => ?_)⟩
  split at h1
  · rename_i hz
    rw [q1.length] at hz
    exact ⟨small_line hz, fun p hp => h1.okE (ext_laidT r1.sto hp) (r1.laidO hp (fun _ z => by cases z) ⟨vs, upd_same, Reps.mono (ext_laidT (κ := true) r1.sto hp).mo _ _ q1⟩) (rep_loc.mpr ⟨p, rfl, tagW_same⟩)⟩
  · exact h1.elim
/-- {} -/
def mDnil (t : Bool) : M Dc := fun _ st => .ok (t, []) st
/-! ### items -/
theorem CRep.lst {K : PySem.W.Frag} {W : Wm} {H : Hp} {ds : List D} {v : V} (h : CRep K W H (.lst ds) v) : ∃ a vs, v = .ref a ∧ SqL K H a vs ∧ Reps K W H ds vs := by
  rcases h with h | ⟨t, ds', e, a, vs, q, h1, h2, h3⟩ | ⟨t, kvs, e, _⟩ | ⟨t, ds', e, _⟩
  · obtain ⟨a, vs, q, l, r⟩ := rep_lst.mp h
    exact ⟨a, vs, q, l.sq, r⟩
  · cases e
    exact ⟨a, vs, q, .of h2, h3⟩
  · cases e
  · cases e
theorem CRep.ptp {K : PySem.W.Frag} {W : Wm} {H : Hp} {ds : List D} {v : V} (h : CRep K W H (.ptp ds) v) : ∃ a vs, v = .ref a ∧ PtpAt K W H a vs ∧ Reps K W H ds vs := by
  rcases h with h | ⟨t, ds', e, _⟩ | ⟨t, kvs, e, _⟩ | ⟨t, ds', e, _⟩
  · exact rep_ptp.mp h
  · cases e
  · cases e
  · cases e
theorem CRep.tup {K : PySem.W.Frag} {W : Wm} {H : Hp} {ds : List D} {v : V} (h : CRep K W H (.tup ds) v) : ∃ a vs, v = .ref a ∧ SqT K H a vs ∧ Reps K W H ds vs := by
  rcases h with h | ⟨t, ds', e, _⟩ | ⟨t, kvs, e, _⟩ | ⟨t, ds', e, _⟩
  · obtain ⟨a, vs, q, l, r⟩ := rep_tup.mp h
    exact ⟨a, vs, q, l.sq, r⟩
  · cases e
  · cases e
  · cases e
theorem CRep.dct {K : PySem.W.Frag} {W : Wm} {H : Hp} {kvs : Dc} {v : V} (h : CRep K W H (.dct kvs) v) : ∃ a, v = .ref a ∧ ((∃ ks, Rd H a (.dK ks) ∧ RepKc K W H kvs ks) ∨ ∃ ks, Rd H a (.dT ks) ∧ RepTc K W H kvs ks) := by
  rcases h with h | ⟨t, ds', e, _⟩ | ⟨t, kvs', e, a, q, h1, h2⟩ | ⟨t, ds', e, _⟩
  · obtain ⟨a, q, h⟩ := rep_dct.mp h
    refine ⟨a, q, ?_⟩
    rcases h with ⟨ks, z, r⟩ | ⟨ks, z, r⟩
    · exact .inl ⟨ks, z.2, r⟩
    · exact .inr ⟨ks, z.2, r⟩
  · cases e
  · cases e
    refine ⟨a, q, ?_⟩
    rcases h2 with ⟨ks, z, r⟩ | ⟨ks, z, r⟩
    · exact .inl ⟨ks, z, r⟩
    · exact .inr ⟨ks, z, r⟩
  · cases e
theorem CRep.rep {K : PySem.W.Frag} {W : Wm} {H : Hp} {d : D} {v : V} (h : CRep K W H d v) (n1 : ∀ xs, d ≠ .lst xs) (n2 : ∀ xs, d ≠ .dct xs) (n3 : ∀ xs, d ≠ .nst xs := by intro _ z; cases z) : Rep K W H d v := by
  rcases h with h | ⟨t, ds', e, _⟩ | ⟨t, kvs', e, _⟩ | ⟨t, ds', e, _⟩
  · exact h
  · exact absurd e (n1 _)
  · exact absurd e (n2 _)
  · exact absurd e (n3 _)
theorem CRep.int {K : PySem.W.Frag} {W : Wm} {H : Hp} {i : Int} {v : V} (h : CRep K W H (.int i) v) : v = .int i := rep_int.mp (h.rep (fun _ z => by cases z) fun _ z => by cases z)
theorem CRep.str {K : PySem.W.Frag} {W : Wm} {H : Hp} {i : Str} {v : V} (h : CRep K W H (.str i) v) : v = .str i := rep_str.mp (h.rep (fun _ z => by cases z) fun _ z => by cases z)
theorem CRep.bl {K : PySem.W.Frag} {W : Wm} {H : Hp} {i : Bool} {v : V} (h : CRep K W H (.bl i) v) : v = .bl i := rep_bl.mp (h.rep (fun _ z => by cases z) fun _ z => by cases z)
theorem CRep.loc {K : PySem.W.Frag} {W : Wm} {H : Hp} {i : Nat} {v : V} (h : CRep K W H (.loc i) v) : ∃ a, v = .ref a ∧ W a = some (.obj i) := rep_loc.mp (h.rep (fun _ z => by cases z) fun _ z => by cases z)
/-- a list of the store -/
theorem Rel.ls {G : Gx} {W : Wm} {H : Hp} {env : Env} {st : Sto} {σ : L2.St} (r : Rel G W H env st σ) {a : Addr} {n : Nat} {xs : List D} (h : W a = some (.obj n)) (e : st[n]? = some (.ls xs)) : ∃ vs, H a = some (.lst vs) ∧ Reps G.K W H xs vs := by
  obtain ⟨o, e', q⟩ := r.sto.obj a n h
  rw [e] at e'
  cases e'
  exact q
theorem Reps.atI {K : PySem.W.Frag} {W : Wm} {H : Hp} {ds : List D} {vs : List V} {i : Int} {d : D} (h : Reps K W H ds vs) (e : L2.atI ds i = some d) : ∃ v, L2.atI vs i = some v ∧ Rep K W H d v := by
  unfold L2.atI at e ⊢
  rw [← h.length]
  cases q : ixN ds.length i with
  | none => rw [q] at e; cases e
  | some j => rw [q] at e; exact h.get e
def dIx (d i : D) (st : Sto) : Option D := match d, i with
  | .lst xs, .int i => L2.atI xs i
  | .tup xs, .int i => L2.atI xs i
  | .ptp xs, .int i => L2.atI xs i
  | .str z, .int i => if z.length ≤ sizeLine then (L2.atI z.cps.toList i).map fun c => .str ⟨#[c]⟩ else none
  | .loc n, .int i => match st[n]? with
    | some (.ls xs) => L2.atI xs i
    | _ => none
  | _, _ => none
theorem op2_ix : Op2 true (CurR X) (CurR X) (RepR X) T X Wx (rIx X.K) (fun d i st => Res.of (dIx d i st) st) := by
  intro W H env st σ x y d1 d2 Q rl h1 h2 hp
  dsimp only at hp
  cases e : dIx d1 d2 st with
  | none => rw [e] at hp; exact hp.elim
  | some d =>
    rw [e] at hp
    unfold dIx at e
    split at e
    · obtain ⟨a, vs, rfl, l, r⟩ := CRep.lst h1
      obtain ⟨v, e', q⟩ := r.atI e
      exact .inl ⟨a, vs, _, v, rfl, CRep.int h2, l, e', hp.ok rl q⟩
    · obtain ⟨a, vs, rfl, l, r⟩ := CRep.tup h1
      obtain ⟨v, e', q⟩ := r.atI e
      exact .inr (.inl ⟨a, vs, _, v, rfl, CRep.int h2, l, e', hp.ok rl q⟩)
    · obtain ⟨a, vs, rfl, l, r⟩ := CRep.ptp h1
      obtain ⟨v, e', q⟩ := r.atI e
      exact .inr (.inl ⟨a, vs, _, v, rfl, CRep.int h2, l.sq, e', hp.ok rl q⟩)
    · split at e
      · rename_i z i hz
        cases ea : L2.atI z.cps.toList i with
        | none => rw [ea] at e; cases e
        | some c =>
          rw [ea] at e
          cases e
          exact .inr (.inr ⟨z, i, c, CRep.str h1, CRep.int h2, hz, ea, hp.ok rl (rep_str.mpr rfl)⟩)
      · cases e
    · split at e
      · rename_i es
        obtain ⟨a, rfl, w⟩ := CRep.loc h1
        obtain ⟨vs, l, r⟩ := rl.ls w es
        obtain ⟨v, e', q⟩ := r.atI e
        exact .inl ⟨a, vs, _, v, rfl, CRep.int h2, .of l, e', hp.ok rl q⟩
      · cases e
    · cases e
theorem ev_ix (ha : EVg κ R1 T X Wx a ma) (hb : EVg κ' R2 T X Wx b mb) (hs : PlainIx b := by exact fun _ _ => rfl) (S : Stands κ' R1 := by first | exact Stands.rep | exact Stands.held | exact Stands.cur) (c1 : ToCur X R1 := by first | exact ToCur.rep | exact ToCur.held | exact ToCur.cur) (c2 : ToCur X R2 := by first | exact ToCur.rep | exact ToCur.held | exact ToCur.cur) :
    EV (κ && κ') T X Wx (.Subscript a b pos) (mBin ma mb fun d i st => Res.of (dIx d i st) st) := by
  obtain ⟨ta, pa, ra⟩ := ha.ex
  obtain ⟨tb, pb, rb⟩ := hb.ex
  exact ⟨_, pe_ix ix_seq pa pb hs, op2_pair S (op2_ix.low c1 c2) ra rb⟩
/-! ### a built-in's call by values -/
def Op1 {α β : Type} (R1 : Wm → Hp → α → V → Prop) (R3 : Wm → Hp → β → V → Prop) (T : List (Addr × Str)) (X : Cx) (Wx : WX) (r : V → Hp → VK → Prop) (f : α → Sto → Res β) : Prop :=
  ∀ W H env st σ x d Q, Rel (Gof X T) W H env st σ → R1 W H d x → Post true R3 (Gof X T) Wx W H env σ (f d st) Q → r x H Q
section
variable {x : Str} {id Ty : String} {r : List V → Hp → VK → Prop} {f : D → Sto → Res D} {f2 : List D → Sto → Res D} {fN : D → Sto → Res (List D)}
theorem ev_callB (hc : CallR X (.builtin id) r) (o : Op1 (CurR X) (RepR X) T X Wx (fun v => r [v]) f) (hg : Gl X x) (hm : X.mg x = none) (hv : bootBuiltins x = some (.builtin id)) (ha : EVg κ R1 T X Wx a ma) (c1 : ToCur X R1 := by first | exact ToCur.rep | exact ToCur.held | exact ToCur.cur) (hn : x ≠ "__name__" := by decide) (hdb : (x == ("__debug__" : Str)) = false := by decide)
    (he : starEach (a :: []) X.env = (false, eval a X.env) :: starEach [] X.env := by rfl) (hpl : (backTo pos (starEach [] X.env)).any (·.1) = false := by rfl) : EV κ T X Wx (.Call (.Name x p) [a] [] pos) (mUn ma f) := by
  obtain ⟨ta, pa, ra⟩ := ha.ex
  refine ⟨_, pe_callB hc hg hm hv (pa_cons pa pa_nil he) hn hdb he hpl, fun W H env st σ Q rl h => ra _ _ _ _ _ _ rl (h.bind (fun z => z) fun d st1 W1 H1 v e1 r1 q1 h1 => ?_)⟩
  exact o W1 H1 env st1 σ v d Q r1 (c1 _ _ _ _ q1) (h1.weak fun _ => rfl)
theorem ev_callTy (hc : CallR X (.type Ty) r) (o : Op1 (CurR X) (RepR X) T X Wx (fun v => r [v]) f) (hg : Gl X x) (hm : X.mg x = none) (hv : bootBuiltins x = some (.type Ty)) (ha : EVg κ R1 T X Wx a ma) (c1 : ToCur X R1 := by first | exact ToCur.rep | exact ToCur.held | exact ToCur.cur) (hn : x ≠ "__name__" := by decide) (hdb : (x == ("__debug__" : Str)) = false := by decide)
    (he : starEach (a :: []) X.env = (false, eval a X.env) :: starEach [] X.env := by rfl) (hpl : (backTo pos (starEach [] X.env)).any (·.1) = false := by rfl) : EV κ T X Wx (.Call (.Name x p) [a] [] pos) (mUn ma f) := by
  obtain ⟨ta, pa, ra⟩ := ha.ex
  refine ⟨_, pe_callTy hc hg hm hv (pa_cons pa pa_nil he) hn hdb he hpl, fun W H env st σ Q rl h => ra _ _ _ _ _ _ rl (h.bind (fun z => z) fun d st1 W1 H1 v e1 r1 q1 h1 => ?_)⟩
  exact o W1 H1 env st1 σ v d Q r1 (c1 _ _ _ _ q1) (h1.weak fun _ => rfl)
/-- many arguments -/
theorem ev_callBs {es : List Expr} {n : M (List D)} (hc : CallR X (.builtin id) r) (hr : ∀ W H env st σ vs ds Q, Rel (Gof X T) W H env st σ → Reps X.K W H ds vs → Post true (RepR X) (Gof X T) Wx W H env σ (f2 ds st) Q → r vs H Q) (hg : Gl X x) (hm : X.mg x = none) (hv : bootBuiltins x = some (.builtin id)) (ha : AV κ T X Wx (a :: es) n) (hn : x ≠ "__name__" := by decide) (hdb : (x == ("__debug__" : Str)) = false := by decide)
    (he : starEach (a :: es) X.env = (false, eval a X.env) :: starEach es X.env := by rfl) (hpl : (backTo pos (starEach es X.env)).any (·.1) = false := by rfl) : EV κ T X Wx (.Call (.Name x p) (a :: es) [] pos) (mUn n f2) := by
  obtain ⟨ta, pa, ra⟩ := ha.ex
  refine ⟨_, pe_callB hc hg hm hv pa hn hdb he hpl, fun W H env st σ Q rl h => ra _ _ _ _ _ _ rl (h.bind (fun z => z) fun ds st1 W1 H1 vs e1 r1 q1 h1 => ?_)⟩
  exact hr W1 H1 env st1 σ vs ds Q r1 q1 (h1.weak fun _ => rfl)
end
end
end Ev
set_option autoImplicit true
set_option maxRecDepth 100000
set_option maxHeartbeats 4000000
/-! calls of the text's own defs -/
namespace Ev
open PySem PySem.Spec PyProof.Rows L2
/-! ### calls whose errors are wished for at the slots -/
section
variable {X : Cx} {CX : CXT} {k : Nat} {f C : Addr} {fd : FuncData} {ps : List Str} {sp : Sp} {E : L2.St → XK} {x m : Str} {p pos apos : Pos} {e o : Expr} {es : List Expr} {ta : TE} {t : TA}
def tMethS (C : Addr) (m : Str) (sp : Sp) (E : L2.St → XK) (ta : TE) (t : TA) : TE := fun σ H Q => ta σ H fun x H1 => ∃ a dx fs, x = .ref a ∧ H1 a = some (.ins C dx fs) ∧ fs.lookup m = none ∧ t σ H1 fun vs H2 => sp (x :: vs) H2 Q (E σ)
theorem pe_methS {pl : Sem Bool} (he : PE X o ta) (c : Cls X.K C) (hm : Meth X.K C m f) (F : FnOk X.prog X.w X.K X.mg X.base CX k f fd ps sp) (hr : Room k X.A) (hb : Binds X.K fd ps []) (hx : ∀ σ, PassesAt CX X σ (E σ)) (ha : PA X (e :: es) t)
    (hst : starEach (e :: es) X.env = (false, eval e X.env) :: starEach es X.env := by rfl) (hpl : (backTo pos (starEach es X.env)).any (·.1) = false := by rfl)
    (ht : eval (.Call (.Attribute o m apos) (e :: es) [] pos) X.env = (eval o X.env >>= fun ov => standAt apos.atName >>= fun _ => holding [ov] (getMethod ov m pl) >>= fun z => callWith pos z.1 z.2 (backTo pos (starEach (e :: es) X.env)) (backToKw pos (keywordEach [] X.env))) := by rfl) :
    PE X (.Call (.Attribute o m apos) (e :: es) [] pos) (tMethS C m sp E ta t) := by
  constructor
  intro pins s σ H Q I h
  apply PySem.W.methodCall_KW (pl := pl) ?_ ht
  refine thn (he.run pins s σ H _ I h) ?_
  rintro u s1 ⟨x, H1, I1, rx, a, dx, fs, rfl, ea, l, q⟩
  cases rx
  apply getmeth_ok I1 ea c hm l
  apply PySem.W.callWith_K (first := [.ref a]) (h₀ := X.base) I.ok.mod.kin hm.kp ?_ hst hpl
  refine thn (ha.run pos pins s1 σ H1 _ I1 q) ?_
  rintro us s2 ⟨vs, H2, I2, r, q2⟩
  exact ⟨I2.kIn, run_fnS (us := .ref a :: us) (vs := .ref a :: vs) F hr hb (hx σ) I2 (.cons rfl r) q2⟩
theorem pe_meth0S {pl : Sem Bool} (he : PE X o ta) (c : Cls X.K C) (hm : Meth X.K C m f) (F : FnOk X.prog X.w X.K X.mg X.base CX k f fd ps sp) (hr : Room k X.A) (hb : Binds X.K fd ps []) (hx : ∀ σ, PassesAt CX X σ (E σ))
    (ht : eval (.Call (.Attribute o m apos) [] [] pos) X.env = (eval o X.env >>= fun ov => standAt apos.atName >>= fun _ => holding [ov] (getMethod ov m pl) >>= fun z => callWith pos z.1 z.2 (backTo pos (starEach [] X.env)) (backToKw pos (keywordEach [] X.env))) := by rfl) :
    PE X (.Call (.Attribute o m apos) [] [] pos) (tMethS C m sp E ta tNil) := by
  constructor
  intro pins s σ H Q I h
  apply PySem.W.methodCall_KW (pl := pl) ?_ ht
  refine thn (he.run pins s σ H _ I h) ?_
  rintro u s1 ⟨x, H1, I1, rx, a, dx, fs, rfl, ea, l, q⟩
  cases rx
  apply getmeth_ok I1 ea c hm l
  exact PySem.W.callWith_K0 (first := [.ref a]) I1.kIn hm.kp (run_fnS (us := [.ref a]) (vs := [.ref a]) F hr hb (hx σ) I1 (.cons rfl .nil) q)
def tMakeS (C : Addr) (sp : Sp) (E : L2.St → XK) (t : TA) : TE := fun σ H Q => t σ H fun vs H1 => ∀ x dx, H1 x = none → H1 dx = none → dx ≠ x →
  sp (.ref x :: vs) (upd (upd H1 dx (.own x)) x (.ins C dx [])) (fun v H2 => v = .non ∧ Q (.ref x) H2) (E σ)
theorem run_makeS {pins : List (Addr × Obj)} {σ : L2.St} {H : Hp} {s : Shared} {Q : VK} {us : List Value} {vs : List V} {E : XK} (M : Mk X.K C f) (F : FnOk X.prog X.w X.K X.mg X.base CX k f fd ps sp) (hr : Room (k + 1) X.A) (hb : Binds X.K fd ps [])
    (hx : PassesAt CX X σ E) (I : Inv X pins σ H s) (r : Vals vs us) (h : ∀ x dx, H x = none → H dx = none → dx ≠ x → sp (.ref x :: vs) (upd (upd H dx (.own x)) x (.ins C dx [])) (fun v H2 => v = .non ∧ Q (.ref x) H2) E) :
    wpAny (model X.prog X.w) X.A (call (.ref C) us) (EP X pins σ Q) X.xe s := by
  have hq := h (s.heap.objs.size + 1) s.heap.objs.size (I.hok.fresh (Nat.le_succ _)) (I.hok.fresh (Nat.le_refl _)) (Nat.ne_of_lt (Nat.lt_succ_self _))
  have J := Inv.made (C := C) I
  have r2 : Vals (V.ref (s.heap.objs.size + 1) :: vs) (Value.ref (s.heap.objs.size + 1) :: us) := .cons rfl r
  have hl : (Value.ref (s.heap.objs.size + 1) :: us).length = ps.length := r2.length.symm.trans (F.len _ _ _ _ hq)
  have b := hb _ (Value.ref (s.heap.objs.size + 1) :: us) J.kIn (by rw [List.append_nil]; exact hl)
  rw [List.append_nil] at b
  refine wpAny_call (make_map (f := f) I.kIn M.makes M.init (beq_iff_eq.mp M.fn) (codeAny_mono (F.run _ X.stack _ _ ⟨Value.ref (s.heap.objs.size + 1) :: us, []⟩ _ _ _ _ (hr.make C us []) (J.env0.make C us []) b r2 hq) ?_))
  intro r s' z
  match r, z with
  | .error e, z => exact hx pins _ _ e s' J z
  | .ok (.ret u), z =>
    obtain ⟨v, H', I3, rv, ev, q3⟩ := J.after z
    subst ev
    exact ⟨rv, V.ref (s.heap.objs.size + 1), H', I3, rfl, q3⟩
  | .ok .next, z => exact z.elim
  | .ok .brk, z => exact z.elim
  | .ok .cont, z => exact z.elim
theorem pe_makeS (M : Mk X.K C f) (F : FnOk X.prog X.w X.K X.mg X.base CX k f fd ps sp) (hr : Room (k + 1) X.A) (hg : Gl X x) (hm : X.mg x = some (.ref C)) (hb : Binds X.K fd ps []) (hx : ∀ σ, PassesAt CX X σ (E σ))
    (ha : PA X (e :: es) t) (hdb : (x == ("__debug__" : Str)) = false := by decide) (he : starEach (e :: es) X.env = (false, eval e X.env) :: starEach es X.env := by rfl) (hpl : (backTo pos (starEach es X.env)).any (·.1) = false := by rfl) :
    PE X (.Call (.Name x p) (e :: es) [] pos) (tMakeS C sp E t) := by
  constructor
  intro pins s σ H Q I h
  apply wpAny_Call_Name_kw
  apply ld_glob I hg hm ?_ hdb
  apply PySem.W.callWith_K (h₀ := X.base) I.ok.mod.kin M.kp ?_ he hpl
  refine thn (ha.run pos pins s σ H _ I h) ?_
  rintro us s1 ⟨vs, H1, I1, r, q⟩
  exact ⟨I1.kIn, run_makeS M F hr hb (hx σ) I1 r q⟩
theorem pe_make0S (M : Mk X.K C f) (F : FnOk X.prog X.w X.K X.mg X.base CX k f fd ps sp) (hr : Room (k + 1) X.A) (hg : Gl X x) (hm : X.mg x = some (.ref C)) (hb : Binds X.K fd ps []) (hx : ∀ σ, PassesAt CX X σ (E σ))
    (hdb : (x == ("__debug__" : Str)) = false := by decide) : PE X (.Call (.Name x p) [] [] pos) (tMakeS C sp E tNil) :=
  ⟨fun pins s σ H Q I h => wpAny_Call_Name_kw (ld_glob I hg hm (PySem.W.callWith_K0 I.kIn M.kp (run_makeS (us := []) M F hr hb (hx σ) I .nil h)) hdb)⟩
end
/-! ### a def by its mirror -/
/-- a mirror: what a def does with its arguments and the store -/
abbrev Fm := List D → Sto → Res D
/-- behind a call -/
def CPost (G : Gx) (W : Wm) (H : Hp) (r : Res D) (Q : VK) (E : XK) : Prop := match r with
  | .ok d st => ∀ W' H' v, Ext false W H W' H' → StoOk G W' H' st → Rep G.K W' H' d v → Q v H'
  | .exc x st => ∀ W' H' c d, Ext false W H W' H' → StoOk G W' H' st → ExnRep G W' H' x c d → E c d H'
  | .bad => False
/-- an argument: a dict that the caller keeps (to be read), one that it gives away, or contents -/
def ParAt (K : PySem.W.Frag) (W : Wm) (H : Hp) (i : Nat) : D → V → Prop
  | .lkd c, v => ∃ t, t.held = true ∧ RdD K W H t c v
  | .ownd c, v => OwnD K W H (.par i) c v
  | d, v => Rep K W H d v
def ParsOk (K : PySem.W.Frag) (W : Wm) (H : Hp) (ds : List D) (vs : List V) : Prop := vs.length = ds.length ∧ ∀ (i : Nat) (d : D), ds[i]? = some d → ∃ v, vs[i]? = some v ∧ ParAt K W H i d v
theorem ParAt.of {K : PySem.W.Frag} {W : Wm} {H : Hp} {i : Nat} {d : D} {v : V} (h : Rep K W H d v) : ParAt K W H i d v := by
  cases d with
  | lkd c => unfold Rep at h; exact h.elim
  | ownd c => unfold Rep at h; exact h.elim
  | _ => exact h
theorem ParsOk.of {K : PySem.W.Frag} {W : Wm} {H : Hp} {ds : List D} {vs : List V} (h : Reps K W H ds vs) : ParsOk K W H ds vs := ⟨h.length.symm, fun i d e => let ⟨v, q1, q2⟩ := h.get e; ⟨v, q1, .of q2⟩⟩
def spOf (G : Gx) (n : Nat) (m : Fm) : Sp := fun vs H Q E => ∃ W st ds, vs.length = n ∧ StoOk G W H st ∧ ParsOk G.K W H ds vs ∧ CPost G W H (m ds st) Q E
theorem Rel.ofSto {G : Gx} {W W' : Wm} {H H' : Hp} {env : Env} {st st' : Sto} {σ : L2.St} {κ : Bool} (r : Rel G W H env st σ) (e : Ext κ W H W' H') (s : StoOk G W' H' st') : Rel G W' H' env st' σ :=
  ⟨s, r.env.mono e.mo (fun a i h => e.hl a _ h (by simp [Tag.held])) fun a h => e.hl a _ h (by simp [Tag.held])⟩
section
variable {T : List (Addr × Str)} {X : Cx} {Wx : WX} {κ κ' : Bool} {a e o : Expr} {es : List Expr} {ma mo : M D} {n : M (List D)} {mf : Fm} {k np : Nat} {f C : Addr} {fd : FuncData} {ps : List Str} {x m cls : Str} {p pos apos : Pos}
def mCall (mf : Fm) (n : M (List D)) : M D := fun env st => (n env st).bind fun ds st' => mf ds st'
theorem call_read {W : Wm} {H : Hp} {env : Env} {st : Sto} {σ : L2.St} {Q : VK} {vs : List V} {ds : List D} (rl : Rel (Gof X T) W H env st σ) (hd : Reps X.K W H ds vs) (h : Post false (RepR X) (Gof X T) Wx W H env σ (mf ds st) Q) (hl : vs.length = np) :
    spOf (Gof X T) np mf vs H Q (WE Wx σ) := by
  refine ⟨W, st, ds, hl, rl.sto, .of hd, ?_⟩
  cases e : mf ds st with
  | ok d st' => rw [e] at h; exact fun W' H' v ex s q => h W' H' v ex (rl.ofSto ex s) q
  | exc x st' => rw [e] at h; exact fun W' H' c d ex s q => h W' H' c d ex (rl.ofSto ex s) q
  | bad => rw [e] at h; exact h.elim
/-- f(..) -/
theorem ev_call (F : FnOk X.prog X.w X.K X.mg X.base (L2.CX X.prog X.w) k f fd ps (spOf (Gof X T) np mf)) (hr : Room k X.A) (tk : Takes X Wx) (hg : Gl X x) (hm : X.mg x = some (.ref f)) (hk : PySem.W.keepIn X.K (.ref f) = true) (hb : Binds X.K fd ps []) (ha : AV κ T X Wx (a :: es) n)
    (hn : ∀ env st ds st', n env st = .ok ds st' → ds.length = np) (hdb : (x == ("__debug__" : Str)) = false := by decide) (he : starEach (a :: es) X.env = (false, eval a X.env) :: starEach es X.env := by rfl) (hpl : (backTo pos (starEach es X.env)).any (·.1) = false := by rfl) :
    EV false T X Wx (.Call (.Name x p) (a :: es) [] pos) (mCall mf n) := by
  obtain ⟨ta, pa, ra⟩ := ha.ex
  refine ⟨_, pe_callS F hr hg hm hk hb (fun σ => passAt tk σ) pa hdb he hpl, fun W H env st σ Q rl h => ?_⟩
  unfold mCall at h
  cases en : n env st with
  | ok ds st' =>
    rw [en] at h
    refine ra W H env st σ _ rl ?_
    rw [en]
    intro W' H' vs ex r' q
    exact call_read r' q (Post.ext h ex.f) (q.length.symm.trans (hn _ _ _ _ en))
  | exc x st' =>
    rw [en] at h
    exact ra W H env st σ _ rl (by rw [en]; exact h)
  | bad => rw [en] at h; exact h.elim
end
end Ev
set_option autoImplicit true
set_option maxRecDepth 100000
set_option maxHeartbeats 4000000
/-! statements, a def by its body -/
namespace Ev
open PySem PySem.Spec PyProof.Rows L2
/-- a statement's end -/
inductive Out where
  | nx (env : Env) (st : Sto)
  | rt (d : D) (st : Sto)
  | bk (env : Env) (st : Sto)
  | ct (env : Env) (st : Sto)
  | xc (x : Exn) (env : Env) (st : Sto)
  | bad
abbrev Sm := Env → Sto → Out
def Res.out {α : Type} (r : Res α) (env : Env) (f : α → Sto → Out) : Out := match r with
  | .ok a st => f a st
  | .exc x st => .xc x env st
  | .bad => .bad
@[simp] theorem Res.out_ok {α : Type} (a : α) (st : Sto) (env : Env) (f : α → Sto → Out) : (Res.ok a st).out env f = f a st := rfl
@[simp] theorem Res.out_exc {α : Type} (x : Exn) (st : Sto) (env : Env) (f : α → Sto → Out) : (Res.exc x st).out env f = .xc x env st := rfl
@[simp] theorem Res.out_bad {α : Type} (env : Env) (f : α → Sto → Out) : (Res.bad : Res α).out env f = .bad := rfl
def SPost (G : Gx) (Wx : WX) (W : Wm) (H : Hp) (o : Out) (D : Ends) : Prop := match o with
  | .nx env st => ∀ W' H' σ', ExtS W H W' H' → Rel G W' H' env st σ' → D.nx σ' H'
  | .rt d st => ∀ W' H' v, ExtS W H W' H' → StoOk G W' H' st → Rep G.K W' H' d v → D.rt v H'
  | .bk env st => ∀ W' H' σ', ExtS W H W' H' → Rel G W' H' env st σ' → D.bk σ' H'
  | .ct env st => ∀ W' H' σ', ExtS W H W' H' → Rel G W' H' env st σ' → D.ct σ' H'
  | .xc x env st => ∀ W' H' c d σ', ExtS W H W' H' → Rel G W' H' env st σ' → ExnRep G W' H' x c d → Wx c d σ' H'
  | .bad => False
structure SV (T : List (Addr × Str)) (X : Cx) (Wx : WX) (s : Stmt) (m : Sm) : Prop where
  ex : ∃ t, PS X s t ∧ ∀ W H env st σ D, Rel (Gof X T) W H env st σ → SPost (Gof X T) Wx W H (m env st) D → t D σ H
structure SsV (T : List (Addr × Str)) (X : Cx) (Wx : WX) (s : List Stmt) (m : Sm) : Prop where
  ex : ∃ t, PSs X s t ∧ ∀ W H env st σ D, Rel (Gof X T) W H env st σ → SPost (Gof X T) Wx W H (m env st) D → t D σ H
/-- the slots is alone may differ -/
def Off (is : List Nat) (σ σ' : L2.St) : Prop := σ'.length = σ.length ∧ ∀ j, j ∉ is → σ'[j]? = σ[j]?
structure GV (is : List Nat) (T : List (Addr × Str)) (X : Cx) (tg : Expr) (g : D → Env → Option Env) : Prop where
  ex : ∃ t, PG X tg t ∧ ∀ W H env st σ v d env' Q, Rel (Gof X T) W H env st σ → Rep X.K W H d v → g d env = some env' → (∀ σ', Rel (Gof X T) W H env' st σ' → Off is σ σ' → Q σ' H) → t v σ H Q
structure GsV (is : List Nat) (T : List (Addr × Str)) (X : Cx) (tgs : List Expr) (g : List D → Env → Option Env) : Prop where
  ex : ∃ t, PGs X tgs t ∧ ∀ W H env st σ vs ds env' Q, Rel (Gof X T) W H env st σ → Reps X.K W H ds vs → g ds env = some env' → (∀ σ', Rel (Gof X T) W H env' st σ' → Off is σ σ' → Q σ' H) → t vs σ H Q
theorem Off.refl {is : List Nat} {σ : L2.St} : Off is σ σ := ⟨rfl, fun _ _ => rfl⟩
theorem Off.trans {is js : List Nat} {σ σ' σ2 : L2.St} (a : Off is σ σ') (b : Off js σ' σ2) : Off (is ++ js) σ σ2 := ⟨b.1.trans a.1, fun j h => by
  rw [List.mem_append, not_or] at h
  exact (b.2 j h.2).trans (a.2 j h.1)⟩
theorem Off.set {σ : L2.St} {i : Nat} {v : Option V} : Off [i] σ (σ.set i v) := ⟨List.length_set, fun j h => List.getElem?_set_ne (by simpa using (Ne.symm (by simpa using h)))⟩
section
variable {G : Gx} {Wx : WX} {W W' : Wm} {H H' : Hp} {D : Ends}
theorem SPost.ext {o : Out} (h : SPost G Wx W H o D) (e : ExtS W H W' H') : SPost G Wx W' H' o D := by
  cases o with
  | nx env st => exact fun W2 H2 σ e2 r => h W2 H2 σ (e.trans e2) r
  | rt d st => exact fun W2 H2 v e2 r q => h W2 H2 v (e.trans e2) r q
  | bk env st => exact fun W2 H2 σ e2 r => h W2 H2 σ (e.trans e2) r
  | ct env st => exact fun W2 H2 σ e2 r => h W2 H2 σ (e.trans e2) r
  | xc x env st => exact fun W2 H2 c d σ e2 r q => h W2 H2 c d σ (e.trans e2) r q
  | bad => exact h
theorem SPost.nx {env : Env} {st : Sto} {σ : L2.St} (h : SPost G Wx W H (.nx env st) D) (r : Rel G W H env st σ) : D.nx σ H := h W H σ ExtS.refl r
/-- behind an expression -/
theorem SPost.of {α β : Type} {κ : Bool} {R : Wm → Hp → α → β → Prop} {env : Env} {σ : L2.St} {r : Res α} {f : α → Sto → Out} {Q : β → Hp → Prop} (h : SPost G Wx W H (r.out env f) D)
    (k : ∀ a st' W' H' b, Ext κ W H W' H' → Rel G W' H' env st' σ → R W' H' a b → SPost G Wx W' H' (f a st') D → Q b H') : Post κ R G Wx W H env σ r Q := by
  cases r with
  | ok a st => exact fun W' H' b e r q => k a st W' H' b e r q (SPost.ext h e.s)
  | exc x st => exact fun W' H' c d e r q => h W' H' c d σ e.s r q
  | bad => exact h
theorem SPost.ofN {α : Type} {κ : Bool} {C : Wm → Hp → α → Addr → Prop} {env : Env} {σ : L2.St} {r : Res α} {f : α → Sto → Out} {Q : VK} (h : SPost G Wx W H (r.out env f) D)
    (k : ∀ a st' W' H' p, Ext κ W H W' H' → Rel G W' H' env st' σ → Fr H p → W' p = some .tmp → C W' H' a p → SPost G Wx W' H' (f a st') D → Q (.ref p) H') : PostN κ C G Wx W H env σ r Q := by
  cases r with
  | ok a st => exact fun W' H' p e r hp w q => k a st W' H' p e r hp w q (SPost.ext h e.s)
  | exc x st => exact fun W' H' c d e r q => h W' H' c d σ e.s r q
  | bad => exact h
end
/-! ### slots stored -/
section
variable {G : Gx} {W : Wm} {H : Hp} {env : Env} {st : Sto} {σ : L2.St}
theorem EnvOk.set {K : PySem.W.Frag} (e : EnvOk K W H env σ) (i : Nat) {d : D} {v : V} (h : At K W H (.slot i) d v) : EnvOk K W H (env.set i (some d)) (σ.set i (some v)) where
  len := by rw [List.length_set, List.length_set]; exact e.len
  at_ := fun j d' hj => by
    by_cases hi : j = i
    · subst hi
      by_cases hl : j < env.length
      · rw [List.getElem?_set_self hl] at hj
        cases hj
        exact ⟨v, List.getElem?_set_self (by rw [← e.len]; exact hl), h⟩
      · rw [List.getElem?_eq_none_iff.mpr (by rw [List.length_set]; omega)] at hj
        cases hj
    · rw [List.getElem?_set_ne (Ne.symm hi)] at hj
      obtain ⟨v', q1, q2⟩ := e.at_ j d' hj
      exact ⟨v', by rw [List.getElem?_set_ne (Ne.symm hi)]; exact q1, q2⟩
theorem Rel.set (r : Rel G W H env st σ) (i : Nat) {d : D} {v : V} (h : Rep G.K W H d v) : Rel G W H (env.set i (some d)) st (σ.set i (some v)) := ⟨r.sto, r.env.set i (.of h)⟩
/-- a held thing changes hands -/
theorem mo_retag {a : Addr} {t : Tag} (h : W a ≠ none) (h2 : ∀ n, W a ≠ some (.obj n)) : Mo W H (tagW W a (some t)) H where
  fr := fun b u q r _ => by
    have z : b ≠ a := fun z => by subst z; exact h q
    exact ⟨by rw [tagW_ne z]; exact q, r⟩
  ob := fun b n q => by
    have z : b ≠ a := fun z => by subst z; exact h2 n q
    rw [tagW_ne z]; exact q
  tu := fun b vs q e => ⟨by rw [tagW_ne fun z => by subst z; exact h q]; exact q, e⟩
  pt := fun b o vs q e => ⟨by rw [tagW_ne fun z => by subst z; exact h q]; exact q, e⟩
theorem Rel.retag {a : Addr} (r : Rel G W H env st σ) (h : W a = some .tmp) {t : Tag} (ht : ∀ n, t ≠ .obj n) : Rel G (tagW W a (some t)) H env st σ := by
  have mo : Mo W H (tagW W a (some t)) H := mo_retag (by rw [h]; simp) fun n z => by rw [h] at z; cases z
  refine ⟨⟨fun b n q => ?_, fun b c n q1 q2 => ?_, fun b u q => ?_, r.sto.tabs, fun b vs q => ?_⟩, r.env.mono mo (fun b i q => ?_) fun b q => ?_⟩
  · have z : b ≠ a := fun z => by subst z; rw [tagW_same] at q; exact ht n (Option.some.inj q)
    rw [tagW_ne z] at q
    obtain ⟨o, e, ro⟩ := r.sto.obj b n q
    refine ⟨o, e, ro.mono mo rfl fun c f qc => ⟨?_, rfl⟩⟩
    have z : c ≠ a := fun z => by subst z; rw [h] at qc; cases qc
    rw [tagW_ne z]; exact qc
  · have z1 : b ≠ a := fun z => by subst z; rw [tagW_same] at q1; exact ht n (Option.some.inj q1)
    have z2 : c ≠ a := fun z => by subst z; rw [tagW_same] at q2; exact ht n (Option.some.inj q2)
    rw [tagW_ne z1] at q1
    rw [tagW_ne z2] at q2
    exact r.sto.uniq b c n q1 q2
  · by_cases z : b = a
    · subst z; exact r.sto.used b _ h
    · rw [tagW_ne z] at q; exact r.sto.used b u q
  · have z : b ≠ a := fun z => by subst z; rw [r.sto.ntup b vs q] at h; cases h
    rw [tagW_ne z]
    exact r.sto.ntup b vs q
  · have z : b ≠ a := fun z => by subst z; rw [h] at q; cases q
    exact ⟨by rw [tagW_ne z]; exact q, rfl⟩
  · have z : b ≠ a := fun z => by subst z; rw [h] at q; cases q
    exact ⟨by rw [tagW_ne z]; exact q, rfl⟩
theorem exts_retag {a : Addr} {t : Tag} (h : W a = some .tmp) : ExtS W H (tagW W a (some t)) H where
  fr := fun b o q e _ => by
    have z : b ≠ a := fun z => by subst z; rw [h] at q; cases q
    exact ⟨by rw [tagW_ne z]; exact q, e⟩
  ob := fun b n q => by
    have z : b ≠ a := fun z => by subst z; rw [h] at q; cases q
    rw [tagW_ne z]; exact q
  ex := fun b q => by
    have z : b ≠ a := fun z => by subst z; rw [h] at q; cases q
    exact ⟨by rw [tagW_ne z]; exact q, rfl⟩
  th := fun _ o h n => ⟨o, h, n⟩
theorem Rel.setOwn (r : Rel G W H env st σ) (i : Nat) {ds : List D} {p : Addr} (h : W p = some .tmp) (c : CL G.K W H ds p) : Rel G (tagW W p (some (.slot i))) H (env.set i (some (.own ds))) st (σ.set i (some (.ref p))) := by
  have r' := r.retag h (t := .slot i) (fun n z => by cases z)
  have mo : Mo W H (tagW W p (some (.slot i))) H := (exts_retag h).mo
  obtain ⟨vs, q1, q2⟩ := c
  exact ⟨r'.sto, r'.env.set i (d := .own ds) ⟨p, vs, rfl, tagW_same, q1, Reps.mono mo _ _ q2⟩⟩
theorem Rel.setOwnD (r : Rel G W H env st σ) (i : Nat) {ds : Dc} {p : Addr} (h : W p = some .tmp) (c : CD G.K W H ds p) : Rel G (tagW W p (some (.slot i))) H (env.set i (some (.ownd ds))) st (σ.set i (some (.ref p))) := by
  have r' := r.retag h (t := .slot i) (fun n z => by cases z)
  have mo : Mo W H (tagW W p (some (.slot i))) H := (exts_retag h).mo
  refine ⟨r'.sto, r'.env.set i (d := .ownd ds) ⟨p, rfl, tagW_same, ?_⟩⟩
  rcases c with ⟨ks, q1, q2⟩ | ⟨ks, q1, q2⟩
  · exact .inl ⟨ks, q1, RepKc.mono mo _ _ q2⟩
  · exact .inr ⟨ks, q1, RepTc.mono mo _ _ q2⟩
theorem Rel.setLkd (r : Rel G W H env st σ) (i : Nat) {ds : Dc} {p : Addr} {o : Obj} (h : W p = some .tmp) (c : (∃ ks, H p = some (.frz o (.dK ks)) ∧ RepKc G.K W H ds ks) ∨ ∃ ks, H p = some (.frz o (.dT ks)) ∧ RepTc G.K W H ds ks) : Rel G (tagW W p (some (.slot i))) H (env.set i (some (.lkd ds))) st (σ.set i (some (.ref p))) := by
  have r' := r.retag h (t := .slot i) (fun n z => by cases z)
  have mo : Mo W H (tagW W p (some (.slot i))) H := (exts_retag h).mo
  exact ⟨r'.sto, r'.env.set i (d := .lkd ds) (.inl ⟨p, o, rfl, tagW_same, c.imp (fun ⟨ks, q1, q2⟩ => ⟨ks, q1, RepKc.mono mo _ _ q2⟩) fun ⟨ks, q1, q2⟩ => ⟨ks, q1, RepTc.mono mo _ _ q2⟩⟩)⟩
end
section
variable {T : List (Addr × Str)} {X : Cx} {Wx : WX} {κ κ' : Bool} {a b c e : Expr} {ma mb : M D} {pos pos' p : Pos}
/-! ### targets -/
def gvN (i : Nat) : D → Env → Option Env := fun d env => some (env.set i (some d))
def gvT (g : List D → Env → Option Env) : D → Env → Option Env := fun d env => match d with
  | .tup ds => g ds env
  | _ => none
def gvNil : List D → Env → Option Env := fun ds env => match ds with
  | [] => some env
  | _ => none
def gvCons (g : D → Env → Option Env) (gs : List D → Env → Option Env) : List D → Env → Option Env := fun ds env => match ds with
  | d :: ds => (g d env).bind (gs ds)
  | [] => none
theorem gv_name (i : Nat) {x : Str} (hN : X.N.Nodup) (hi : X.N[i]? = some x := by rfl) (hx : Loc X.env.scope x := by first | exact Or.inl rfl | exact Or.inr rfl) (hf : X.fn x = true ∨ X.env.scope.names.lookup x = some .local := by first | exact .inl rfl | exact .inr rfl | assumption) : GV [i] T X (.Name x pos) (gvN i) :=
  ⟨_, pg_name hN hi hx hf, fun W H env st σ v d env' Q r q e k => by
    cases e
    exact k _ (r.set i q) Off.set⟩
theorem gsv_nil : GsV [] T X [] gvNil := ⟨_, pgs_nil, fun W H env st σ vs ds env' Q r q e k => by
  cases ds with
  | nil =>
    cases e
    unfold Reps at q
    exact ⟨q, k _ r Off.refl⟩
  | cons d ds => cases e⟩
theorem gsv_cons {es : List Expr} {g : D → Env → Option Env} {gs : List D → Env → Option Env} {is js : List Nat} (h1 : GV is T X e g) (h2 : GsV js T X es gs) (hs : (assignEach (e :: es) X.env).map (·.2) = assign e X.env :: (assignEach es X.env).map (·.2) := by rfl) : GsV (is ++ js) T X (e :: es) (gvCons g gs) := by
  obtain ⟨t1, p1, r1⟩ := h1.ex
  obtain ⟨t2, p2, r2⟩ := h2.ex
  refine ⟨_, pgs_cons p1 p2 hs, fun W H env st σ vs ds env' Q r q ee k => ?_⟩
  cases ds with
  | nil => cases ee
  | cons d ds =>
    unfold Reps at q
    obtain ⟨v, rs, rfl, q1, q2⟩ := q
    have ee : (g d env).bind (gs ds) = some env' := ee
    cases eg : g d env with
    | none => rw [eg] at ee; cases ee
    | some env1 =>
      rw [eg] at ee
      exact ⟨v, rs, rfl, r1 W H env st σ v d env1 _ r q1 eg fun σ1 r' o1 => r2 W H env1 st σ1 rs ds env' Q r' q2 ee fun σ2 r'' o2 => k σ2 r'' (o1.trans o2)⟩
theorem gv_tup {es : List Expr} {j n : Nat} {gs : List D → Env → Option Env} {is : List Nat} (hc : X.calm = true) (h : GsV is T X es gs) (hl : ∀ ds env env', gs ds env = some env' → ds.length = n) (hn : (assignEach es X.env).length = n := by rfl) (hst : (assignEach es X.env).findIdx? (·.1) = none := by rfl) : GV is T X (.Tuple es j pos) (gvT gs) := by
  obtain ⟨t, p, r⟩ := h.ex
  refine ⟨_, pg_tup hc p hn hst, fun W H env st σ v d env' Q rl q e k => ?_⟩
  cases d with
  | tup ds =>
    obtain ⟨a, vs, rfl, ta, rs⟩ := rep_tup.mp q
    have e : gs ds env = some env' := e
    exact ⟨a, vs, rfl, ta.sq, by rw [← rs.length]; exact hl _ _ _ e, r W H env st σ vs ds env' Q rl rs e k⟩
  | _ => cases e
/-! ### plain statements -/
def sPass : Sm := fun env st => .nx env st
def sSeq (m n : Sm) : Sm := fun env st => match m env st with
  | .nx env' st' => n env' st'
  | o => o
def sDrop (m : M D) : Sm := fun env st => (m env st).out env fun _ st' => .nx env st'
def sRet (m : M D) : Sm := fun env st => (m env st).out env fun d st' => .rt d st'
def sIf (t : M Bool) (m n : Sm) : Sm := fun env st => (t env st).out env fun k st' => if k = true then m env st' else n env st'
def sSet (i : Nat) (m : M D) : Sm := fun env st => (m env st).out env fun d st' => .nx (env.set i (some d)) st'
def sOwn (i : Nat) (m : M (List D)) : Sm := fun env st => (m env st).out env fun ds st' => .nx (env.set i (some (.own ds))) st'
def sOwnD (i : Nat) (m : M (Dc)) : Sm := fun env st => (m env st).out env fun ds st' => .nx (env.set i (some (.ownd ds))) st'
def sTgt (g : D → Env → Option Env) (m : M D) : Sm := fun env st => (m env st).out env fun d st' => match g d env with
  | some env' => .nx env' st'
  | none => .bad
section
variable {s : Stmt} {ss ss' : List Stmt} {m n : Sm} {mt : M Bool}
theorem ssv_nil : SsV T X Wx [] sPass := ⟨_, pss_nil, fun W H env st σ D r h => h.nx r⟩
theorem ssv_one (h : SV T X Wx s m) : SsV T X Wx [s] m := by
  obtain ⟨t, p, r⟩ := h.ex
  exact ⟨t, pss_one p, r⟩
theorem ssv_cons (h1 : SV T X Wx s m) (h2 : SsV T X Wx ss n) : SsV T X Wx (s :: ss) (sSeq m n) := by
  obtain ⟨t1, p1, r1⟩ := h1.ex
  obtain ⟨t2, p2, r2⟩ := h2.ex
  refine ⟨_, pss_cons p1 p2, fun W H env st σ D r h => r1 W H env st σ _ r ?_⟩
  unfold sSeq at h
  cases em : m env st with
  | nx env' st' =>
    rw [em] at h
    exact fun W' H' σ' e r' => r2 W' H' env' st' σ' D r' (SPost.ext h e)
  | rt d st' => rw [em] at h; exact h
  | bk d st' => rw [em] at h; exact h
  | ct d st' => rw [em] at h; exact h
  | xc d env' st' => rw [em] at h; exact h
  | bad => rw [em] at h; exact h
theorem sv_expr (h : EV κ T X Wx e ma) (hs : swapsWith e none pos.line X.env = pure false := by rfl) : SV T X Wx (.Expr e pos) (sDrop ma) := by
  obtain ⟨t, p, r⟩ := h.ex
  exact ⟨_, ps_expr p hs, fun W H env st σ D rl h => r _ _ _ _ _ _ rl (SPost.of h fun d st' W' H' v e r' q h' => h'.nx r')⟩
theorem sv_ret (h : EV κ T X Wx e ma) : SV T X Wx (.Return (some e) pos) (sRet ma) := by
  obtain ⟨t, p, r⟩ := h.ex
  exact ⟨_, ps_ret p, fun W H env st σ D rl h => r _ _ _ _ _ _ rl (SPost.of h fun d st' W' H' v e r' q h' => h' W' H' v ExtS.refl r'.sto q)⟩
theorem sv_if (hc : TV κ T X Wx c mt) (ha : SsV T X Wx ss m) (hb : SsV T X Wx ss' n) : SV T X Wx (.If c ss ss' pos) (sIf mt m n) := by
  obtain ⟨t, p, r⟩ := hc.ex
  obtain ⟨ta, pa, ra⟩ := ha.ex
  obtain ⟨tb, pb, rb⟩ := hb.ex
  refine ⟨_, ps_if p pa pb, fun W H env st σ D rl h => r _ _ _ _ _ _ rl (SPost.of h fun k st' W' H' v e r' q h' => ?_)⟩
  subst q
  by_cases hk : v = true
  · rw [if_pos hk] at h' ⊢; exact ra _ _ _ _ _ _ r' h'
  · rw [if_neg hk] at h' ⊢; exact rb _ _ _ _ _ _ r' h'
/-- x = e -/
theorem sv_set (i : Nat) {x : Str} (hN : X.N.Nodup) (h : EV κ T X Wx e ma) (hi : X.N[i]? = some x := by rfl) (hx : Loc X.env.scope x := by first | exact Or.inl rfl | exact Or.inr rfl) (hs : swapsWith e (some (.Name x pos')) pos.line X.env = pure false := by rfl) (hf : X.fn x = true ∨ X.env.scope.names.lookup x = some .local := by first | exact .inl rfl | exact .inr rfl | assumption) :
    SV T X Wx (.Assign [.Name x pos'] e pos) (sSet i ma) := by
  obtain ⟨t, p, r⟩ := h.ex
  exact ⟨_, ps_set hN hi hx p hs hf, fun W H env st σ D rl h => r _ _ _ _ _ _ rl (SPost.of h fun d st' W' H' v e r' q h' => h'.nx (r'.set i q))⟩
end
end
/-! ### a def -/
def hold (W : Wm) : Wm := fun a => match W a with
  | some (.par j) => some (.slot j)
  | some t => if t.held then some .ext else some t
  | none => none
theorem hold_none {W : Wm} {a : Addr} : hold W a = none ↔ W a = none := by
  unfold hold
  cases W a with
  | none => simp
  | some t => cases t <;> simp [Tag.held]
theorem hold_obj {W : Wm} {a : Addr} {n : Nat} : hold W a = some (.obj n) ↔ W a = some (.obj n) := by
  unfold hold
  cases W a with
  | none => simp
  | some t => cases t <;> simp [Tag.held]
theorem hold_fld {W : Wm} {a : Addr} {n : Nat} {f : Str} : hold W a = some (.fld n f) ↔ W a = some (.fld n f) := by
  unfold hold
  cases W a with
  | none => simp
  | some t => cases t <;> simp [Tag.held]
theorem hold_held {W : Wm} {a : Addr} {t : Tag} (h : W a = some t) (k : t.held = true) : hold W a = some .ext := by
  unfold hold
  rw [h]
  cases t <;> simp [Tag.held] at k ⊢
theorem hold_par {W : Wm} {a : Addr} {j : Nat} (h : W a = some (.par j)) : hold W a = some (.slot j) := by
  unfold hold
  rw [h]
theorem hold_mo {W : Wm} {H : Hp} : Mo W H (hold W) H := ⟨fun a u h r _ => ⟨hold_none.mpr h, r⟩, fun a n h => hold_obj.mpr h, fun a vs h r => ⟨hold_none.mpr h, r⟩, fun a o vs h r => ⟨hold_none.mpr h, r⟩⟩
theorem StoOk.hold {G : Gx} {W : Wm} {H : Hp} {st : Sto} (s : StoOk G W H st) : StoOk G (hold W) H st where
  obj := fun a n h => by
    obtain ⟨o, e, r⟩ := s.obj a n (hold_obj.mp h)
    exact ⟨o, e, r.mono hold_mo rfl fun b f q => ⟨hold_fld.mpr q, rfl⟩⟩
  uniq := fun a b n h1 h2 => s.uniq a b n (hold_obj.mp h1) (hold_obj.mp h2)
  used := fun a t h => by
    cases e : W a with
    | none => rw [hold_none.mpr e] at h; cases h
    | some u => exact s.used a u e
  tabs := s.tabs
  ntup := fun a vs h => hold_none.mpr (s.ntup a vs h)
/-- back from a def: what the caller holds, it holds again -/
def back (W W' : Wm) : Wm := fun a => match W a with
  | some t => if t.held then some t else (match W' a with
    | some u => if u.held then none else some u
    | none => none)
  | none => match W' a with
    | some u => if u.held then none else some u
    | none => none
section
variable {G : Gx} {W W' : Wm} {H H' : Hp} {st st' : Sto}
theorem back_held {a : Addr} {t : Tag} (h : W a = some t) (k : t.held = true) : back W W' a = some t := by
  unfold back; rw [h]; simp [k]
theorem back_else {a : Addr} (h : ∀ t, W a = some t → t.held = false) : back W W' a = (match W' a with
    | some u => if u.held then none else some u
    | none => none) := by
  unfold back
  cases e : W a with
  | none => rfl
  | some t => simp [h t e]
theorem not_held (e : ExtS (hold W) H W' H') {a : Addr} (h : W' a ≠ some .ext) : ∀ t, W a = some t → t.held = false := fun t q => by
  cases k : t.held with
  | false => rfl
  | true => exact absurd (e.ex a (hold_held q k)).1 h
theorem back_ext (e : ExtS (hold W) H W' H') : Ext false W H (back W W') H' where
  fr := fun a o h q n => by
    obtain ⟨x, y⟩ := e.fr a o (hold_none.mpr h) q n
    refine ⟨?_, y⟩
    rw [back_else (fun t z => by rw [h] at z; cases z), x]
  ob := fun a n h => by
    have x := e.ob a n (hold_obj.mpr h)
    rw [back_else (fun t z => by rw [h] at z; cases z; rfl), x]
    simp [Tag.held]
  hl := fun a t h k => by
    have k : t.held = true := by simpa using k
    exact ⟨back_held h k, (e.ex a (hold_held h k)).2⟩
  th := e.th
theorem back_mo (e : ExtS (hold W) H W' H') : Mo W' H' (back W W') H' where
  fr := fun a u h r _ => ⟨by rw [back_else (not_held e (by rw [h]; simp)), h], r⟩
  ob := fun a n h => by
    rw [back_else (not_held e (by rw [h]; simp)), h]
    simp [Tag.held]
  tu := fun a vs h r => ⟨by rw [back_else (not_held e (by rw [h]; simp)), h], r⟩
  pt := fun a o vs h r => ⟨by rw [back_else (not_held e (by rw [h]; simp)), h], r⟩
theorem StoOk.back (s0 : StoOk G W H st) (e : ExtS (Ev.hold W) H W' H') (s : StoOk G W' H' st') : StoOk G (Ev.back W W') H' st' where
  obj := fun a n h => by
    have q : W' a = some (.obj n) := by
      by_cases z : ∃ t, W a = some t ∧ t.held = true
      · obtain ⟨t, z1, z2⟩ := z
        rw [back_held z1 z2] at h
        cases h
        simp [Tag.held] at z2
      · rw [back_else (fun t y => by cases k : t.held with | false => rfl | true => exact absurd ⟨t, y, k⟩ z)] at h
        split at h
        · split at h
          · cases h
          · rename_i u eu _; rw [eu]; exact h
        · cases h
    obtain ⟨o, e1, r⟩ := s.obj a n q
    refine ⟨o, e1, r.mono (back_mo e) rfl fun b f qb => ⟨?_, rfl⟩⟩
    rw [back_else (not_held e (by rw [qb]; simp)), qb]
    simp [Tag.held]
  uniq := fun a b n h1 h2 => by
    have q : ∀ c, Ev.back W W' c = some (.obj n) → W' c = some (.obj n) := fun c h => by
      by_cases z : ∃ t, W c = some t ∧ t.held = true
      · obtain ⟨t, z1, z2⟩ := z
        rw [back_held z1 z2] at h
        cases h
        simp [Tag.held] at z2
      · rw [back_else (fun t y => by cases k : t.held with | false => rfl | true => exact absurd ⟨t, y, k⟩ z)] at h
        split at h
        · split at h
          · cases h
          · rename_i u eu _; rw [eu]; exact h
        · cases h
    exact s.uniq a b n (q a h1) (q b h2)
  used := fun a t h => by
    by_cases z : ∃ t, W a = some t ∧ t.held = true
    · obtain ⟨u, z1, z2⟩ := z
      obtain ⟨o, q, n⟩ := s0.used a u z1
      exact ⟨o, (e.ex a (hold_held z1 z2)).2.trans q, n⟩
    · rw [back_else (fun t y => by cases k : t.held with | false => rfl | true => exact absurd ⟨t, y, k⟩ z)] at h
      split at h
      · rename_i u eu; exact s.used a u eu
      · cases h
  tabs := s.tabs
  ntup := fun a vs h => by
    have w := s.ntup a vs h
    rw [back_else (not_held e (by rw [w]; simp)), w]
end
/-- a def's mirror by its body's -/
def mFn (N : Nat) (m : Sm) : Fm := fun ds st => match m (ds.map some ++ List.replicate (N - ds.length) none) st with
  | .rt d st' => .ok d st'
  | .nx _ st' => .ok .non st'
  | .xc x _ st' => .exc x st'
  | _ => .bad
theorem env_startP {K : PySem.W.Frag} {W : Wm} {H : Hp} {N : List Str} {ds : List D} {vs : List V} (h : ParsOk K W H ds vs) : EnvOk K (hold W) H (ds.map some ++ List.replicate (N.length - ds.length) none) (L2.start N vs) where
  len := by simp [L2.start, h.1]
  at_ := fun i d e => by
    by_cases hi : i < ds.length
    · rw [List.getElem?_append_left (by simpa using hi), List.getElem?_map] at e
      cases q : ds[i]? with
      | none => rw [q] at e; cases e
      | some d' =>
        rw [q] at e
        cases e
        obtain ⟨v, q1, q2⟩ := h.2 i _ q
        refine ⟨v, ?_, ?_⟩
        · unfold L2.start
          rw [List.getElem?_append_left (by rw [List.length_map, h.1]; exact hi), List.getElem?_map, q1]
          rfl
        · cases d with
          | lkd c =>
            obtain ⟨t, k, a, e1, e2, e3⟩ := q2
            exact .inr ⟨⟨i, rfl⟩, a, e1, hold_held e2 k, e3.imp (fun ⟨ks, z, r⟩ => ⟨ks, z, RepKc.mono hold_mo _ _ r⟩) fun ⟨ks, z, r⟩ => ⟨ks, z, RepTc.mono hold_mo _ _ r⟩⟩
          | ownd c =>
            obtain ⟨a, e1, e2, e3⟩ := q2
            exact ⟨a, e1, hold_par e2, e3.imp (fun ⟨ks, z, r⟩ => ⟨ks, z, RepKc.mono hold_mo _ _ r⟩) fun ⟨ks, z, r⟩ => ⟨ks, z, RepTc.mono hold_mo _ _ r⟩⟩
          | own c => exact (by unfold ParAt Rep at q2; exact q2.elim)
          | _ => exact .of (Rep.mono hold_mo _ _ q2)
    · rw [List.getElem?_append_right (by simpa using hi)] at e
      have := List.mem_of_getElem? e
      rw [List.mem_replicate] at this
      cases this.2
end Ev
set_option autoImplicit true
set_option maxRecDepth 100000
set_option maxHeartbeats 4000000
/-! what is walked; for; comprehensions -/
namespace Ev
open PySem PySem.Spec PyProof.Rows L2
abbrev Kept := Wm → Hp → Wm → Hp → Prop
/-- the walked thing gives ds, one by one, as long as Kp -/
def Steps (K : PySem.W.Frag) (Kp : Kept) (ds : List D) (J : It) (W : Wm) (H : Hp) : Prop := ∀ W1 H1, Kp W H W1 H1 → (∀ i, i < ds.length → J.go i H1) ∧ J.stop ds.length H1 ∧
  ∀ i x H2, i < ds.length → J.yld i H1 x H2 → ∃ d, ds[i]? = some d ∧ ((H2 = H1 ∧ ((∀ a vs, H1 a = some (.tup vs) → W1 a = none) → Rep K W1 H1 d x)) ∨ ∃ p xs, H1 p = none ∧ H2 = upd H1 p (.tup xs) ∧ ((∀ a, H1 a = none → W1 a = none) → Rep K W1 H2 d x))
def PostI (κ : Bool) (Kp : Kept) (G : Gx) (Wx : WX) (W : Wm) (H : Hp) (env : Env) (σ : L2.St) (r : Res (List D)) (R : It → Hp → Prop) : Prop := match r with
  | .ok ds st => ∀ W' H' J, Ext κ W H W' H' → Rel G W' H' env st σ → Steps G.K Kp ds J W' H' → R J H'
  | .exc x st => ∀ W' H' c d, Ext false W H W' H' → Rel G W' H' env st σ → ExnRep G W' H' x c d → Wx c d σ H'
  | .bad => False
structure IV (κ : Bool) (Kp : Kept) (T : List (Addr × Str)) (X : Cx) (Wx : WX) (tg iter : Expr) (m : M (List D)) : Prop where
  ex : ∃ wi, PI X tg iter wi ∧ ∀ W H env st σ R, Rel (Gof X T) W H env st σ → PostI κ Kp (Gof X T) Wx W H env σ (m env st) R → wi σ H R
/-- a relation that stands as long as Kp -/
def StandsK {α : Type} (Kp : Kept) (R : Wm → Hp → α → V → Prop) : Prop := ∀ W H W' H' a v, Kp W H W' H' → R W H a v → R W' H' a v
section
variable {T : List (Addr × Str)} {X : Cx} {Wx : WX} {κ κ' κa κb : Bool} {Kp : Kept} {a b c e tg iter : Expr} {ma mb : M D} {pos p : Pos} {R1 R2 : Wm → Hp → D → V → Prop}
theorem StandsK.s : StandsK ExtS (RepR X) := fun _ _ _ _ _ _ e h => Rep.mono e.mo _ _ h
theorem StandsK.rep : StandsK (Ext κ) (RepR X) := fun _ _ _ _ _ _ e h => Rep.mono e.mo _ _ h
theorem StandsK.held : StandsK (Ext κ) (HeldR X) := fun W H W' H' a v e h => Stands.held W H W' H' a v e h
theorem StandsK.cur : StandsK (Ext true) (CurR X) := fun W H W' H' a v e h => Stands.cur W H W' H' a v e h
theorem pi_or {w1 w2 : TI} (h1 : PI X tg e w1) (h2 : PI X tg e w2) : PI X tg e (fun σ H R => w1 σ H R ∨ w2 σ H R) :=
  ⟨fun pins s σ H R I h => h.elim (h1.run pins s σ H R I) (h2.run pins s σ H R I)⟩
/-- the items of a list, a tuple, a text -/
def D.items : D → Option (List D)
  | .lst ds => some ds
  | .tup ds => some ds
  | .ptp ds => some ds
  | .str x => some (x.cps.toList.map fun c => .str ⟨#[c]⟩)
  | _ => none
def mItems (m : M D) : M (List D) := mUn m fun d st => Res.of d.items st
theorem CRep.lst_ref {K : PySem.W.Frag} {W W' : Wm} {H H' : Hp} {ds : List D} {a : Addr} (h : CRep K W H (.lst ds) (.ref a)) : ∃ vs, SqL K H a vs ∧ Reps K W H ds vs := by
  obtain ⟨b, vs, e, l, r⟩ := CRep.lst h
  cases e
  exact ⟨vs, l, r⟩
theorem steps_items {K : PySem.W.Frag} {W : Wm} {H : Hp} {a : Addr} {ds : List D} (h : ∀ W1 H1, Kp W H W1 H1 → CRep K W1 H1 (.lst ds) (.ref a)) : Steps K Kp ds (Itl K a) W H := fun W1 H1 k => by
  obtain ⟨vs, h1, h2⟩ := CRep.lst_ref (W' := W1) (H' := H1) (h W1 H1 k)
  have w := walk_list (K := K) (a := a) (xs := vs)
  rw [h2.length]
  refine ⟨fun i hi => w.goes i H1 hi h1, w.stops H1 h1, fun i x H2 hi y => ?_⟩
  obtain ⟨e1, e2⟩ := w.yields i H1 x H2 hi h1 y
  obtain ⟨d, q1, q2⟩ := h2.getV e2
  exact ⟨d, q1, .inl ⟨e1, fun _ => q2⟩⟩
theorem steps_itemsT {K : PySem.W.Frag} {W : Wm} {H : Hp} {a : Addr} {ds : List D} (h : ∀ W1 H1, Kp W H W1 H1 → CRep K W1 H1 (.tup ds) (.ref a)) : Steps K Kp ds (Itt K a) W H := fun W1 H1 k => by
  obtain ⟨b, vs, e, h1, h2⟩ := CRep.tup (h W1 H1 k)
  cases e
  have w := walk_tup (K := K) (a := a) (xs := vs)
  rw [h2.length]
  refine ⟨fun i hi => w.goes i H1 hi h1, w.stops H1 h1, fun i x H2 hi y => ?_⟩
  obtain ⟨e1, e2⟩ := w.yields i H1 x H2 hi h1 y
  obtain ⟨d, q1, q2⟩ := h2.getV e2
  exact ⟨d, q1, .inl ⟨e1, fun _ => q2⟩⟩
theorem steps_itemsP {K : PySem.W.Frag} {W : Wm} {H : Hp} {a : Addr} {ds : List D} (h : ∀ W1 H1, Kp W H W1 H1 → CRep K W1 H1 (.ptp ds) (.ref a)) : Steps K Kp ds (Itt K a) W H := fun W1 H1 k => by
  obtain ⟨b, vs, e, h1, h2⟩ := CRep.ptp (h W1 H1 k)
  cases e
  have w := walk_tup (K := K) (a := a) (xs := vs)
  rw [h2.length]
  refine ⟨fun i hi => w.goes i H1 hi h1.sq, w.stops H1 h1.sq, fun i x H2 hi y => ?_⟩
  obtain ⟨e1, e2⟩ := w.yields i H1 x H2 hi h1.sq y
  obtain ⟨d, q1, q2⟩ := h2.getV e2
  exact ⟨d, q1, .inl ⟨e1, fun _ => q2⟩⟩
theorem steps_str {K : PySem.W.Frag} {W : Wm} {H : Hp} {z : Str} : Steps K Kp (z.cps.toList.map fun c => .str ⟨#[c]⟩) (Its z) W H := fun W1 H1 _ => by
  have w := walk_str (z := z)
  have hl : (z.cps.toList.map fun c => D.str ⟨#[c]⟩).length = z.cps.size := by simp
  rw [hl]
  refine ⟨fun i hi => w.goes i H1 hi trivial, w.stops H1 trivial, fun i x H2 hi y => ?_⟩
  obtain ⟨e1, c, e2, e3⟩ := w.yields i H1 x H2 hi trivial y
  refine ⟨.str ⟨#[c]⟩, ?_, .inl ⟨e1, fun _ => rep_str.mpr e3⟩⟩
  rw [List.getElem?_map, Array.getElem?_toList, e2]
  rfl
theorem iv_seq (ha : EVg κ R1 T X Wx e ma) (S : StandsK Kp R1 := by first | exact StandsK.s | exact StandsK.rep | exact StandsK.held | exact StandsK.cur) (c1 : ToCur X R1 := by first | exact ToCur.rep | exact ToCur.held | exact ToCur.cur) : IV κ Kp T X Wx tg e (mItems ma) := by
  obtain ⟨t, pt, rt⟩ := ha.ex
  refine ⟨_, pi_or (pi_list pt) (pi_or (pi_tup pt) (pi_str pt)), fun W H env st σ R rl h => ?_⟩
  unfold mItems mUn at h
  cases em : ma env st with
  | exc x st' =>
    rw [em] at h
    exact .inl (rt _ _ _ _ _ _ rl (by rw [em]; exact h))
  | bad => rw [em] at h; exact h.elim
  | ok d st' =>
    rw [em] at h
    cases d with
    | lst ds =>
      refine .inl (rt _ _ _ _ _ _ rl ?_)
      rw [em]
      intro W' H' v ex r' q
      have q' := c1 _ _ _ _ q
      obtain ⟨a, vs, ev, l, rs⟩ := CRep.lst q'
      subst ev
      exact ⟨a, rfl, ⟨vs, l⟩, h W' H' _ ex r' (steps_items fun W1 H1 k => c1 _ _ _ _ (S _ _ _ _ _ _ k q))⟩
    | tup ds =>
      refine .inr (.inl (rt _ _ _ _ _ _ rl ?_))
      rw [em]
      intro W' H' v ex r' q
      have q' := c1 _ _ _ _ q
      obtain ⟨a, vs, ev, l, rs⟩ := CRep.tup q'
      subst ev
      exact ⟨a, rfl, ⟨vs, l⟩, h W' H' _ ex r' (steps_itemsT fun W1 H1 k => c1 _ _ _ _ (S _ _ _ _ _ _ k q))⟩
    | ptp ds =>
      refine .inr (.inl (rt _ _ _ _ _ _ rl ?_))
      rw [em]
      intro W' H' v ex r' q
      have q' := c1 _ _ _ _ q
      obtain ⟨a, vs, ev, l, rs⟩ := CRep.ptp q'
      subst ev
      exact ⟨a, rfl, ⟨vs, l.sq⟩, h W' H' _ ex r' (steps_itemsP fun W1 H1 k => c1 _ _ _ _ (S _ _ _ _ _ _ k q))⟩
    | str x =>
      refine .inr (.inr (rt _ _ _ _ _ _ rl ?_))
      rw [em]
      intro W' H' v ex r' q
      exact ⟨x, CRep.str (c1 _ _ _ _ q), h W' H' _ ex r' steps_str⟩
    | _ => exact h.elim
/-- range(a), range(a, b) -/
def rangeL (lo : Int) (n : Nat) : List D := (List.range n).map fun i : Nat => .int (lo + i)
@[irreducible] def dRange1 (ds : List D) : Option (List D) := match ds with
  | [.int j] => if j ≤ 1000000 ∧ -1000000 ≤ j then some (rangeL 0 j.toNat) else none
  | _ => none
theorem steps_range {K : PySem.W.Frag} {W : Wm} {H : Hp} {lo : Int} {n : Nat} : Steps K Kp (rangeL lo n) (Itr lo n) W H := fun W1 H1 _ => by
  have w := walk_range (lo := lo) (n := n)
  have hl : (rangeL lo n).length = n := by simp [rangeL]
  rw [hl]
  refine ⟨fun i hi => w.goes i H1 hi trivial, w.stops H1 trivial, fun i x H2 hi y => ?_⟩
  obtain ⟨e1, e2⟩ := w.yields i H1 x H2 hi trivial y
  exact ⟨.int (lo + i), by simp [rangeL, hi], .inl ⟨e1, fun _ => rep_int.mpr e2⟩⟩
theorem Reps.one_int {K : PySem.W.Frag} {W : Wm} {H : Hp} {i : Int} {vs : List V} (h : Reps K W H [.int i] vs) : vs = [.int i] := by
  obtain ⟨v, e, q⟩ := h.one_inv
  rw [e, rep_int.mp q]
theorem iv_range1 {ml : M (List D)} (ha : AV κ T X Wx [a] ml) (hg : Gl X "range") (hm : X.mg "range" = none) (hs : starEach [a] X.env = [(false, eval a X.env)] := by rfl) : IV κ Kp T X Wx tg (.Call (.Name "range" p) [a] [] pos) (mUn ml fun ds st => Res.of (dRange1 ds) st) := by
  obtain ⟨t, pt, rt⟩ := ha.ex
  refine ⟨_, pi_range1 hg hm pt hs, fun W H env st σ R rl h => rt _ _ _ _ _ _ rl ?_⟩
  unfold mUn at h
  cases em : ml env st with
  | exc x st' => rw [em] at h; exact h
  | bad => rw [em] at h; exact h.elim
  | ok ds st' =>
    rw [em] at h
    intro W' H' vs ex r' q
    replace h : PostI κ Kp (Gof X T) Wx W H env σ (Res.of (dRange1 ds) st') R := h
    unfold dRange1 at h
    split at h
    · split at h
      · rename_i j hj
        exact ⟨j, q.one_int, by omega, by omega, h W' H' _ ex r' steps_range⟩
      · exact h.elim
    · exact h.elim
/-! ### for -/
def loopM (g : D → Env → Option Env) (body : Sm) : List D → Sm
  | [], env, st => .nx env st
  | d :: ds, env, st => match g d env with
    | none => .bad
    | some env1 => match body env1 st with
      | .nx env2 st2 => loopM g body ds env2 st2
      | .ct env2 st2 => loopM g body ds env2 st2
      | .bk env2 st2 => .nx env2 st2
      | o => o
def sFor (it : M (List D)) (g : D → Env → Option Env) (body : Sm) : Sm := fun env st => (it env st).out env fun ds st' => loopM g body ds env st'
theorem rel_yield {G : Gx} {W : Wm} {H H2 : Hp} {env : Env} {st : Sto} {σ : L2.St} {d : D} {x : V} (r : Rel G W H env st σ) (h : (H2 = H ∧ ((∀ a vs, H a = some (.tup vs) → W a = none) → Rep G.K W H d x)) ∨ ∃ p xs, H p = none ∧ H2 = upd H p (.tup xs) ∧ ((∀ a, H a = none → W a = none) → Rep G.K W H2 d x)) :
    Rel G W H2 env st σ ∧ Rep G.K W H2 d x ∧ Ext true W H W H2 := by
  rcases h with ⟨rfl, h⟩ | ⟨p, xs, h1, rfl, h2⟩
  · exact ⟨r, h r.sto.ntup, Ext.refl⟩
  · exact ⟨r.laid h1, h2 fun a q => r.sto.nobody q, Ext.laid r.sto h1⟩
theorem for_readP {is : List Nat} {it : M (List D)} {wi : TI} {tg' : TG} {tb : TS} {g : D → Env → Option Env} {m : Sm} (P : Wm → Hp → Env → Sto → L2.St → Prop)
    (rw' : ∀ W H env st σ R, P W H env st σ → Rel (Gof X T) W H env st σ → PostI κ ExtS (Gof X T) Wx W H env σ (it env st) R → wi σ H R)
    (rg : ∀ W H env st σ v d env' Q, Rel (Gof X T) W H env st σ → Rep X.K W H d v → g d env = some env' → (∀ σ', Rel (Gof X T) W H env' st σ' → Off is σ σ' → Q σ' H) → tg' v σ H Q)
    (rb : ∀ W H env st σ D, Rel (Gof X T) W H env st σ → SPost (Gof X T) Wx W H (m env st) D → tb D σ H) :
    ∀ W H env st σ D, P W H env st σ → Rel (Gof X T) W H env st σ → SPost (Gof X T) Wx W H (sFor it g m env st) D → tFor wi tg' tb D σ H := fun W0 H0 env0 st0 σ0 D p0 rl0 h0 => by
  refine rw' _ _ _ _ _ _ p0 rl0 ?_
  unfold sFor at h0
  cases em : it env0 st0 with
  | exc x st' => rw [em] at h0; exact fun W' H' c d e r q => h0 W' H' c d σ0 e.s r q
  | bad => rw [em] at h0; exact h0.elim
  | ok ds st1 =>
    rw [em] at h0
    intro W1 H1 J e1 r1 sp
    have h1 : SPost (Gof X T) Wx W1 H1 (loopM g m ds env0 st1) D := SPost.ext h0 e1.s
    refine ⟨fun i k σ H => k = ds.length - i ∧ i ≤ ds.length ∧ ∃ W env st, ExtS W1 H1 W H ∧ Rel (Gof X T) W H env st σ ∧ SPost (Gof X T) Wx W H (loopM g m (ds.drop i) env st) D, ⟨ds.length, rfl, Nat.zero_le _, W1, env0, st1, ExtS.refl, r1, h1⟩, ?_⟩
    rintro i k σ H ⟨rfl, hi, W, env, st, e, r, h⟩
    obtain ⟨go, stop, yld⟩ := sp W H e
    by_cases hlt : i < ds.length
    · refine .inr ⟨go i hlt, fun σ' H' => ∃ W' env' st', ExtS W1 H1 W' H' ∧ Rel (Gof X T) W' H' env' st' σ' ∧ SPost (Gof X T) Wx W' H' (loopM g m (ds.drop (i + 1)) env' st') D,
        fun σ' H' ⟨W', env', st', a1, a2, a3⟩ => ⟨ds.length - (i + 1), by omega, rfl, hlt, W', env', st', a1, a2, a3⟩, fun x H2 y => ?_⟩
      obtain ⟨d, ed, q⟩ := yld i x H2 hlt y
      obtain ⟨r2, q2, e2⟩ := rel_yield r q
      have hd : ds.drop i = d :: ds.drop (i + 1) := by
        rw [List.drop_eq_getElem_cons hlt]
        congr 1
        rw [List.getElem?_eq_getElem hlt] at ed
        exact Option.some.inj ed
      rw [hd] at h
      unfold loopM at h
      cases eg : g d env with
      | none => simp only [eg] at h; exact h.elim
      | some env1 =>
        simp only [eg] at h
        refine rg W H2 env st σ x d env1 _ r2 q2 eg fun σ1 r3 _ => rb W H2 env1 st σ1 _ r3 ?_
        have e12 : ExtS W1 H1 W H2 := e.trans e2.s
        cases eb : m env1 st with
        | nx env2 st2 => simp only [eb] at h; exact fun W' H' σ' e' r' => ⟨W', env2, st2, e12.trans e', r', SPost.ext (SPost.ext h e2.s) e'⟩
        | ct env2 st2 => simp only [eb] at h; exact fun W' H' σ' e' r' => ⟨W', env2, st2, e12.trans e', r', SPost.ext (SPost.ext h e2.s) e'⟩
        | bk env2 st2 => simp only [eb] at h; exact fun W' H' σ' e' r' => h W' H' σ' (e2.s.trans e') r'
        | rt d2 st2 => simp only [eb] at h; exact SPost.ext h e2.s
        | xc x env2 st2 => simp only [eb] at h; exact SPost.ext h e2.s
        | bad => simp only [eb] at h; exact h.elim
    · have : i = ds.length := by omega
      subst this
      refine .inl ⟨stop, ?_⟩
      rw [List.drop_length] at h
      exact SPost.nx h r
theorem sv_for {is : List Nat} {iter : Expr} {body : List Stmt} {it : M (List D)} {g : D → Env → Option Env} {m : Sm} (hp : PassesOwn (model X.prog X.w) X.A X.env X.xe) (hc : X.calm = true) (hi : IV κ ExtS T X Wx tg iter it) (hg : GV is T X tg g) (hb : SsV T X Wx body m) (hs : ∀ x, foldedSetIterable iter X.env x = pure x := by intro _; rfl) : SV T X Wx (.For tg iter body [] pos) (sFor it g m) := by
  obtain ⟨wi, pw, rw'⟩ := hi.ex
  obtain ⟨tg', pg, rg⟩ := hg.ex
  obtain ⟨tb, pb, rb⟩ := hb.ex
  exact ⟨_, ps_for hp hc pw pg pb hs, fun W H env st σ D rl h => for_readP (fun _ _ _ _ _ => True) (fun W H env st σ R _ => rw' W H env st σ R) rg rb W H env st σ D trivial rl h⟩
/-! ### comprehensions -/
def wipeE (env : Env) : List Nat → Env
  | [] => env
  | v :: vs => (wipeE env vs).set v none
def compM (g : D → Env → Option Env) (t : M Bool) (el : M D) : List D → List D → M (List D)
  | [], acc, _, st => .ok acc st
  | d :: ds, acc, env, st => match g d env with
    | none => .bad
    | some env1 => match t env1 st with
      | .ok true st1 => match el env1 st1 with
        | .ok y st2 => compM g t el ds (acc ++ [y]) env st2
        | _ => .bad
      | .ok false st1 => compM g t el ds acc env st1
      | _ => .bad
def mComp (it : M (List D)) (vs : List Nat) (g : D → Env → Option Env) (t : M Bool) (el : M D) : M (List D) := fun env st => (it env st).bind fun ds st' => if ds.length ≤ 1000000 then compM g t el ds [] (wipeE env vs) st' else .bad
def mYes : M Bool := fun _ st => .ok true st
structure TsV (κ : Bool) (T : List (Addr × Str)) (X : Cx) (Wx : WX) (es : List Expr) (m : M Bool) : Prop where
  ex : ∃ t, PTs X es t ∧ ∀ W H env st σ Q, Rel (Gof X T) W H env st σ → Post κ BoolR (Gof X T) Wx W H env σ (m env st) Q → t σ H Q
theorem tsv_nil : TsV true T X Wx [] mYes := ⟨_, pts_nil, fun W H env st σ Q r h => h.ok r rfl⟩
theorem tsv_one {mt : M Bool} (h : TV κ T X Wx c mt) : TsV κ T X Wx [c] mt := by
  obtain ⟨t, p, r⟩ := h.ex
  exact ⟨_, pts_one p, r⟩
theorem wipe_get {σ : L2.St} {j : Nat} : ∀ {vs : List Nat}, (wipe σ vs)[j]? = if j ∈ vs ∧ j < σ.length then some none else σ[j]?
  | [] => by simp [wipe]
  | v :: vs => by
    unfold wipe
    by_cases h : v = j
    · subst h
      by_cases hl : v < σ.length
      · rw [List.getElem?_set_self (by rw [wipe_length]; exact hl), if_pos ⟨by simp, hl⟩]
      · rw [List.getElem?_eq_none_iff.mpr (by rw [List.length_set, wipe_length]; omega), if_neg (fun z => hl z.2)]
        exact (List.getElem?_eq_none_iff.mpr (by omega)).symm
    · rw [List.getElem?_set_ne h, wipe_get]
      simp [Ne.symm h]
theorem off_wipe {σ σ' : L2.St} {is vs : List Nat} (o : Off is σ σ') (h : ∀ i ∈ is, i ∈ vs) : wipe σ' vs = wipe σ vs := by
  apply List.ext_getElem?
  intro j
  rw [wipe_get, wipe_get, o.1]
  by_cases hj : j ∈ vs ∧ j < σ.length
  · rw [if_pos hj, if_pos hj]
  · rw [if_neg hj, if_neg hj]
    by_cases hv : j ∈ vs
    · have : ¬ j < σ.length := fun z => hj ⟨hv, z⟩
      rw [List.getElem?_eq_none_iff.mpr (by rw [o.1]; omega), List.getElem?_eq_none_iff.mpr (by omega)]
    · exact o.2 j fun z => hv (h j z)
theorem wipe_wipe {σ : L2.St} {vs : List Nat} : wipe (wipe σ vs) vs = wipe σ vs := by
  apply List.ext_getElem?
  intro j
  rw [wipe_get, wipe_get, wipe_length]
  by_cases hj : j ∈ vs ∧ j < σ.length
  · rw [if_pos hj, if_pos hj]
  · rw [if_neg hj, if_neg hj]
theorem wipeE_length (env : Env) : ∀ vs : List Nat, (wipeE env vs).length = env.length
  | [] => rfl
  | v :: vs => by unfold wipeE; rw [List.length_set, wipeE_length env vs]
theorem wipeE_ok {K : PySem.W.Frag} {W : Wm} {H : Hp} {env : Env} {σ : L2.St} (h : EnvOk K W H env σ) : ∀ vs : List Nat, EnvOk K W H (wipeE env vs) (wipe σ vs)
  | [] => h
  | v :: vs => by
    have ih := wipeE_ok h vs
    refine ⟨by rw [wipeE_length, wipe_length]; exact h.len, fun i d e => ?_⟩
    unfold wipeE at e
    unfold wipe
    by_cases hi : v = i
    · subst hi
      by_cases hl : v < (wipeE env vs).length
      · rw [List.getElem?_set_self hl] at e; cases e
      · rw [List.getElem?_eq_none_iff.mpr (by rw [List.length_set]; omega)] at e; cases e
    · rw [List.getElem?_set_ne hi] at e ⊢
      exact ih.at_ i d e
theorem Rel.wipe {G : Gx} {W : Wm} {H : Hp} {env : Env} {st : Sto} {σ : L2.St} (r : Rel G W H env st σ) (vs : List Nat) : Rel G W H (wipeE env vs) st (L2.wipe σ vs) := ⟨r.sto, wipeE_ok r.env vs⟩
/-- what a thing may be that is written: no table, no code object -/
def Plain (o : HO) : Prop := (∀ ps, o ≠ .tbl ps) ∧ ∀ φ, o ≠ .ext φ
theorem plain_lst {xs : List V} : Plain (.lst xs) := ⟨fun _ z => (by cases z), fun _ z => (by cases z)⟩
theorem plain_ins {C dx : Addr} {fs : List (Str × V)} : Plain (.ins C dx fs) := ⟨fun _ z => (by cases z), fun _ z => (by cases z)⟩
theorem tabs_upd {mg : Str → Option Value} {T : List (Addr × Str)} {H : Hp} {p : Addr} {o o' : HO} (h : Tb mg T H) (hp : H p = some o') (n : Plain o') : Tb mg T (upd H p o) := h.upd hp n.1 n.2
/-- what is held for the time being is written -/
theorem mo_tmp {W : Wm} {H : Hp} {p : Addr} {o : HO} {t : Tag} (h : W p = some t) : Mo W H W (upd H p o) where
  fr := fun a u q r _ => ⟨q, by
    have z : a ≠ p := fun z => by subst z; rw [h] at q; cases q
    rcases r with r | ⟨ob, r⟩
    · exact .inl (by rw [upd_ne z]; exact r)
    · exact .inr ⟨ob, by rw [upd_ne z]; exact r⟩⟩
  ob := fun _ _ q => q
  tu := fun a vs q r => ⟨q, by rw [upd_ne fun z => by subst z; rw [h] at q; cases q]; exact r⟩
  pt := fun a o vs q r => ⟨q, by rw [upd_ne fun z => by subst z; rw [h] at q; cases q]; exact r⟩
theorem Rel.tmpUpd {G : Gx} {W : Wm} {H : Hp} {env : Env} {st : Sto} {σ : L2.St} {p : Addr} {o o' : HO} (r : Rel G W H env st σ) (h : W p = some .tmp) (ho : ∀ ps, o ≠ .tbl ps) (hp : H p = some o') (n : Plain o') (hv : ∀ vs, o ≠ .tup vs := by intro _ z; cases z) : Rel G W (upd H p o) env st σ := by
  have mo : Mo W H W (upd H p o) := mo_tmp h
  have ne : ∀ a t, W a = some t → t ≠ .tmp → a ≠ p := fun a t q n z => by subst z; rw [h] at q; exact n (Option.some.inj q).symm
  refine ⟨⟨fun a n q => ?_, r.sto.uniq, fun a t q => ?_, tabs_upd r.sto.tabs hp n, ntup_upd r.sto.ntup h hv⟩, r.env.mono mo (fun a i q => ⟨q, upd_ne (ne a _ q (fun z => by cases z))⟩) fun a q => ⟨q, upd_ne (ne a _ q (fun z => by cases z))⟩⟩
  · obtain ⟨ob, e, ro⟩ := r.sto.obj a n q
    exact ⟨ob, e, ro.mono mo (upd_ne (ne a _ q (fun z => by cases z))) fun b f qb => ⟨qb, upd_ne (ne b _ qb (fun z => by cases z))⟩⟩
  · by_cases z : a = p
    · subst z; rw [upd_same]; exact ⟨o, rfl, ho⟩
    · rw [upd_ne z]; exact r.sto.used a t q
theorem ext_tmpUpd {W W' : Wm} {H H' : Hp} {p : Addr} {o : HO} (e : Ext κ W H W' H') (s : ∀ a t, W a = some t → a ≠ p) (hp : H p = none) : Ext κ W H W' (upd H' p o) where
  fr := fun a u h q n => by
    obtain ⟨x, y⟩ := e.fr a u h q n
    exact ⟨x, by rw [upd_ne (ne_of_none q hp)]; exact y⟩
  ob := e.ob
  hl := fun a t h k => by
    obtain ⟨x, y⟩ := e.hl a t h k
    exact ⟨x, by rw [upd_ne (s a t h)]; exact y⟩
  th := fun a u h n => by
    obtain ⟨o1, h1, n1⟩ := e.th a u h n
    exact ⟨o1, by rw [upd_ne (ne_of_none h hp)]; exact h1, n1⟩
theorem comp_readP {is vs : List Nat} {Xb : Cx → Prop} {it : M (List D)} {wi : TI} {g0 : TG} {tt : TT} {te : TE} {g : D → Env → Option Env} {mt : M Bool} {el : M D} {κt κe : Bool}
    (P : Wm → Hp → Env → Sto → L2.St → Prop) (hsub : ∀ i ∈ is, i ∈ vs)
    (ri : ∀ W H env st σ R, P W H env st σ → Rel (Gof X T) W H env st σ → PostI κ (Ext (κt && κe)) (Gof X T) Wx W H env σ (it env st) R → wi σ H R)
    (rg : ∀ W H env st σ v d env' Q, Rel (Gof X T) W H env st σ → Rep X.K W H d v → g d env = some env' → (∀ σ', Rel (Gof X T) W H env' st σ' → Off is σ σ' → Q σ' H) → g0 v σ H Q)
    (rt : ∀ W H env st σ Q, Rel (Gof X T) W H env st σ → Post κt BoolR (Gof X T) (fun _ _ _ _ => False) W H env σ (mt env st) Q → tt σ H Q)
    (re : ∀ W H env st σ Q, Rel (Gof X T) W H env st σ → Post κe (RepR X) (Gof X T) (fun _ _ _ _ => False) W H env σ (el env st) Q → te σ H Q) :
    ∀ W H env st σ Q, P W H env st σ → Rel (Gof X T) W H env st σ → PostN ((κ && κt) && κe) (CL X.K) (Gof X T) Wx W H env σ (mComp it vs g mt el env st) Q → tLc wi g0 tt te vs σ H Q := fun W0 H0 env0 st0 σ Q p0 rl0 h0 => by
  refine ri _ _ _ _ _ _ p0 rl0 ?_
  unfold mComp at h0
  cases em : it env0 st0 with
  | exc x st' => rw [em] at h0; exact h0
  | bad => rw [em] at h0; exact h0.elim
  | ok ds st1 =>
    rw [em] at h0
    have h0 : PostN ((κ && κt) && κe) (CL X.K) (Gof X T) Wx W0 H0 env0 σ (if ds.length ≤ 1000000 then compM g mt el ds [] (wipeE env0 vs) st1 else .bad) Q := h0
    split at h0
    · rename_i hz
      intro W1 H1 J e1 r1 sp D hD
      have ha : ∀ a t, W1 a = some t → a ≠ D := fun a t q => r1.sto.ne hD q
      have hD0 : Fr H0 D := e1.fr_ (.of hD)
      have hq : PostN ((κ && κt) && κe) (CL X.K) (Gof X T) Wx W1 H1 env0 σ (compM g mt el ds [] (wipeE env0 vs) st1) Q := h0.ext (e1.weak and3)
      refine ⟨fun i k H => k = ds.length - i ∧ i ≤ ds.length ∧ ∃ W st acc av, Ext (κt && κe) W1 H1 W H ∧ Rel (Gof X T) W H env0 st σ ∧ W D = some .tmp ∧ H D = some (.lst av) ∧ Reps X.K W H acc av ∧ acc.length ≤ i ∧
          PostN ((κ && κt) && κe) (CL X.K) (Gof X T) Wx W1 H1 env0 σ (compM g mt el (ds.drop i) acc (wipeE env0 vs) st) Q, ⟨ds.length, rfl, Nat.zero_le _, tagW W1 D (some .tmp), st1, [], [], ?_, ?_, tagW_same, upd_same, Reps.nil, Nat.le_refl _, hq⟩, ?_⟩
      · exact ext_laidT r1.sto hD
      · exact r1.laidT hD (fun n z => by cases z) (fun _ z => by cases z)
      · rintro i k H ⟨rfl, hi, W, st, acc, av, e, r, wD, hDl, hr, hacc, h⟩
        obtain ⟨go, stop, yld⟩ := sp W H e
        by_cases hlt : i < ds.length
        · refine .inr ⟨go i hlt, fun H' => ∃ W' st' acc' av', Ext (κt && κe) W1 H1 W' H' ∧ Rel (Gof X T) W' H' env0 st' σ ∧ W' D = some .tmp ∧ H' D = some (.lst av') ∧ Reps X.K W' H' acc' av' ∧ acc'.length ≤ i + 1 ∧
              PostN ((κ && κt) && κe) (CL X.K) (Gof X T) Wx W1 H1 env0 σ (compM g mt el (ds.drop (i + 1)) acc' (wipeE env0 vs) st') Q,
            fun H' ⟨W', st', acc', av', a1, a2, a3, a4, a5, a6, a7⟩ => ⟨ds.length - (i + 1), by omega, rfl, hlt, W', st', acc', av', a1, a2, a3, a4, a5, a6, a7⟩, fun x H2 y => ?_⟩
          obtain ⟨d, ed, q⟩ := yld i x H2 hlt y
          obtain ⟨r2, q2, e2⟩ := rel_yield r q
          have hd : ds.drop i = d :: ds.drop (i + 1) := by
            rw [List.drop_eq_getElem_cons hlt]
            congr 1
            rw [List.getElem?_eq_getElem hlt] at ed
            exact Option.some.inj ed
          rw [hd] at h
          unfold compM at h
          cases eg : g d (wipeE env0 vs) with
          | none => simp only [eg] at h; exact h.elim
          | some env1 =>
            simp only [eg] at h
            refine rg W H2 _ st _ x d env1 _ (r2.wipe vs) q2 eg fun σ1 r3 o => ⟨(off_wipe o hsub).trans wipe_wipe, rt W H2 env1 st σ1 _ r3 ?_⟩
            cases et : mt env1 st with
            | exc x st' => simp only [et] at h; exact h.elim
            | bad => simp only [et] at h; exact h.elim
            | ok b st2 =>
              intro W3 H3 b' e3 r4 eb
              have eb : b' = b := eb
              subst eb
              have e13 : Ext (κt && κe) W1 H1 W3 H3 := (e.trans (e2.weak fun _ => rfl)).trans e3.l
              have back3 : Rel (Gof X T) W3 H3 env0 st2 σ := r.ofSto ((e2.weak (κ' := κt) fun _ => rfl).trans e3) r4.sto
              have wD3 := e3.hl D _ wD (by simp [Tag.held])
              have hD2 : H2 D = some (.lst av) := by rw [← hDl]; exact (e2.hl D _ wD rfl).2
              cases b' with
              | false =>
                simp only [et] at h
                rw [if_neg Bool.false_ne_true]
                exact ⟨W3, st2, acc, av, e13, back3, wD3.1, wD3.2.trans hD2, Reps.mono e3.mo _ _ (Reps.mono e2.mo _ _ hr), Nat.le_succ_of_le hacc, h⟩
              | true =>
                simp only [et] at h
                rw [if_pos rfl]
                refine re W3 H3 env1 st2 σ1 _ r4 ?_
                cases ee : el env1 st2 with
                | exc x st' => simp only [ee] at h; exact h.elim
                | bad => simp only [ee] at h; exact h.elim
                | ok yd st3 =>
                  simp only [ee] at h
                  intro W4 H4 y' e4 r5 q5
                  have wD4 := e4.hl D _ wD3.1 (by simp [Tag.held])
                  have hD4 : H4 D = some (.lst av) := wD4.2.trans (wD3.2.trans hD2)
                  have hr4 : Reps X.K W4 H4 acc av := Reps.mono e4.mo _ _ (Reps.mono e3.mo _ _ (Reps.mono e2.mo _ _ hr))
                  have e14 : Ext (κt && κe) W1 H1 W4 H4 := e13.trans e4.r
                  have back4 : Rel (Gof X T) W4 H4 env0 st3 σ := back3.ofSto e4 r5.sto
                  have mo5 : Mo W4 H4 W4 (upd H4 D (.lst (av ++ [y']))) := mo_tmp wD4.1
                  refine ⟨av, hD4, ?_, W4, st3, acc ++ [yd], av ++ [y'], ext_tmpUpd e14 ha hD, back4.tmpUpd wD4.1 (fun _ z => by cases z) hD4 plain_lst, wD4.1, upd_same, (Reps.mono mo5 _ _ hr4).append (Reps.one (Rep.mono mo5 _ _ q5)), by simp; omega, h⟩
                  rw [← hr4.length, sizeLine_eq]
                  omega
        · have : i = ds.length := by omega
          subst this
          refine .inl ⟨stop, ?_⟩
          rw [List.drop_length] at h
          exact h W H D (e.weak fun z => by simp at z ⊢; exact ⟨z.1.2, z.2⟩) r (.of hD) wD ⟨av, hDl, hr⟩
    · exact h0.elim
theorem comp_read {is vs : List Nat} {Xb : Cx → Prop} {it : M (List D)} {wi : TI} {g0 : TG} {tt : TT} {te : TE} {g : D → Env → Option Env} {mt : M Bool} {el : M D} {κt κe : Bool}
    (hsub : ∀ i ∈ is, i ∈ vs)
    (ri : ∀ W H env st σ R, Rel (Gof X T) W H env st σ → PostI κ (Ext (κt && κe)) (Gof X T) Wx W H env σ (it env st) R → wi σ H R)
    (rg : ∀ W H env st σ v d env' Q, Rel (Gof X T) W H env st σ → Rep X.K W H d v → g d env = some env' → (∀ σ', Rel (Gof X T) W H env' st σ' → Off is σ σ' → Q σ' H) → g0 v σ H Q)
    (rt : ∀ W H env st σ Q, Rel (Gof X T) W H env st σ → Post κt BoolR (Gof X T) (fun _ _ _ _ => False) W H env σ (mt env st) Q → tt σ H Q)
    (re : ∀ W H env st σ Q, Rel (Gof X T) W H env st σ → Post κe (RepR X) (Gof X T) (fun _ _ _ _ => False) W H env σ (el env st) Q → te σ H Q) :
    ∀ W H env st σ Q, Rel (Gof X T) W H env st σ → PostN ((κ && κt) && κe) (CL X.K) (Gof X T) Wx W H env σ (mComp it vs g mt el env st) Q → tLc wi g0 tt te vs σ H Q := fun W0 H0 env0 st0 σ Q rl0 h0 =>
  comp_readP (Xb := Xb) (fun _ _ _ _ _ => True) hsub (fun W H env st σ R _ => ri W H env st σ R) rg rt re W0 H0 env0 st0 σ Q trivial rl0 h0
end
end Ev
set_option autoImplicit true
set_option maxRecDepth 100000
set_option maxHeartbeats 4000000
/-! comprehensions as expressions; objects -/
namespace Ev
open PySem PySem.Spec PyProof.Rows L2
/-! ### one reading for a family of contexts -/
section
variable {ι : Type} {T : List (Addr × Str)} {Xs : ι → Cx} {Wx : WX} {κ : Bool} {K : PySem.W.Frag} {mg : Str → Option Value}
theorem fam_ev {α : Type} {R : Wm → Hp → α → V → Prop} {e : Expr} {m : M α} (hK : ∀ i, Gof (Xs i) T = ⟨K, mg, T⟩) (h : ∀ i, EVg κ R T (Xs i) Wx e m) :
    ∃ t, (∀ i, PE (Xs i) e t) ∧ ∀ W H env st σ Q, Rel ⟨K, mg, T⟩ W H env st σ → Post κ R ⟨K, mg, T⟩ Wx W H env σ (m env st) Q → t σ H Q := by
  refine ⟨fun σ H Q => ∀ i, Classical.choose (h i).ex σ H Q, fun i => ⟨fun pins s σ H Q I q => (Classical.choose_spec (h i).ex).1.run pins s σ H Q I (q i)⟩, fun W H env st σ Q r p i => ?_⟩
  have z := (Classical.choose_spec (h i).ex).2
  exact z W H env st σ Q (by rw [hK i]; exact r) (by rw [hK i]; exact p)
theorem fam_tsv {es : List Expr} {m : M Bool} (hK : ∀ i, Gof (Xs i) T = ⟨K, mg, T⟩) (h : ∀ i, TsV κ T (Xs i) Wx es m) :
    ∃ t, (∀ i, PTs (Xs i) es t) ∧ ∀ W H env st σ Q, Rel ⟨K, mg, T⟩ W H env st σ → Post κ BoolR ⟨K, mg, T⟩ Wx W H env σ (m env st) Q → t σ H Q := by
  refine ⟨fun σ H Q => ∀ i, Classical.choose (h i).ex σ H Q, fun i => ⟨fun pins s σ H Q I q => (Classical.choose_spec (h i).ex).1.run pins s σ H Q I (q i)⟩, fun W H env st σ Q r p i => ?_⟩
  have z := (Classical.choose_spec (h i).ex).2
  exact z W H env st σ Q (by rw [hK i]; exact r) (by rw [hK i]; exact p)
theorem fam_gv {is : List Nat} {tg : Expr} {g : D → Env → Option Env} (hK : ∀ i, Gof (Xs i) T = ⟨K, mg, T⟩) (hK2 : ∀ i, (Xs i).K = K) (h : ∀ i, GV is T (Xs i) tg g) :
    ∃ t, (∀ i, PG (Xs i) tg t) ∧ ∀ W H env st σ v d env' Q, Rel ⟨K, mg, T⟩ W H env st σ → Rep K W H d v → g d env = some env' → (∀ σ', Rel ⟨K, mg, T⟩ W H env' st σ' → Off is σ σ' → Q σ' H) → t v σ H Q := by
  refine ⟨fun v σ H Q => ∀ i, Classical.choose (h i).ex v σ H Q, fun i => ⟨fun pins s σ H v u Q I r q => (Classical.choose_spec (h i).ex).1.run pins s σ H v u Q I r (q i)⟩, fun W H env st σ v d env' Q r q e k i => ?_⟩
  have z := (Classical.choose_spec (h i).ex).2
  exact z W H env st σ v d env' Q (by rw [hK i]; exact r) (by rw [hK2 i]; exact q) e fun σ' r' o => k σ' (by rw [← hK i]; exact r') o
end
abbrev noX : WX := fun _ _ _ _ => False
section
variable {T : List (Addr × Str)} {X : Cx} {Wx : WX} {κ κt κe : Bool} {tg iter elt : Expr} {ifs : List Expr} {scope : Scope} {own : List (Str × Nat)} {pos spos : Pos} {is : List Nat} {it : M (List D)} {g : D → Env → Option Env} {mt : M Bool} {el : M D}
theorem comp_parts (hN : X.N.Nodup) (hi : IV κ (Ext (κt && κe)) T X Wx tg iter it)
    (hg : ∀ (s : Shared) (H : Hp) (C : Addr) (cl : List (Str × Addr)) (fp : List Addr), GV is T (X.blk s H scope (compEnvC scope cl C X.env) fp) tg g) (ht : ∀ (s : Shared) (H : Hp) (C : Addr) (cl : List (Str × Addr)) (fp : List Addr), TsV κt T (X.blk s H scope (compEnvC scope cl C X.env) fp) noX ifs mt)
    (he : ∀ (s : Shared) (H : Hp) (C : Addr) (cl : List (Str × Addr)) (fp : List Addr), EV κe T (X.blk s H scope (compEnvC scope cl C X.env) fp) noX elt el) (hsub : ∀ i ∈ is, i ∈ own.map (·.2)) :
    ∃ (wi : TI) (g0 : TG) (tt : TT) (te : TE), PI X tg iter wi ∧ (∀ (s : Shared) (H : Hp) (C : Addr) (cl : List (Str × Addr)) (fp : List Addr), PG (X.blk s H scope (compEnvC scope cl C X.env) fp) tg g0) ∧ (∀ (s : Shared) (H : Hp) (C : Addr) (cl : List (Str × Addr)) (fp : List Addr), PTs (X.blk s H scope (compEnvC scope cl C X.env) fp) ifs tt) ∧
      (∀ (s : Shared) (H : Hp) (C : Addr) (cl : List (Str × Addr)) (fp : List Addr), PE (X.blk s H scope (compEnvC scope cl C X.env) fp) elt te) ∧
      ∀ W H env st σ Q, Rel (Gof X T) W H env st σ → PostN ((κ && κt) && κe) (CL X.K) (Gof X T) Wx W H env σ (mComp it (own.map (·.2)) g mt el env st) Q → tLc wi g0 tt te (own.map (·.2)) σ H Q := by
  obtain ⟨wi, pw, rw'⟩ := hi.ex
  let Xs : (Shared × Hp × Addr × List (Str × Addr) × List Addr) → Cx := fun z => X.blk z.1 z.2.1 scope (compEnvC scope z.2.2.2.1 z.2.2.1 X.env) z.2.2.2.2
  obtain ⟨g0, pg, rg⟩ := fam_gv (Xs := Xs) (K := X.K) (mg := X.mg) (T := T) (fun _ => rfl) (fun _ => rfl) fun z => hg _ _ _ _ _
  obtain ⟨tt, pt, rt⟩ := fam_tsv (Xs := Xs) (K := X.K) (mg := X.mg) (T := T) (fun _ => rfl) fun z => ht _ _ _ _ _
  obtain ⟨te, pe, re⟩ := fam_ev (Xs := Xs) (Wx := noX) (κ := κe) (R := RepR X) (e := elt) (m := el) (K := X.K) (mg := X.mg) (T := T) (fun _ => rfl) fun z => he z.1 z.2.1 z.2.2.1 z.2.2.2.1 z.2.2.2.2
  exact ⟨wi, g0, tt, te, pw, fun s H C cl fp => pg (s, H, C, cl, fp), fun s H C cl fp => pt (s, H, C, cl, fp), fun s H C cl fp => pe (s, H, C, cl, fp), comp_read (Xb := fun _ => True) hsub rw' rg rt re⟩
/-- [e for x in xs if t] -/
theorem nv_comp (hc : X.calm = true) (hN : X.N.Nodup) (hi : IV κ (Ext (κt && κe)) T X Wx tg iter it) (ok : BlkOk X.N X.env.scope scope own)
    (hg : ∀ (s : Shared) (H : Hp) (C : Addr) (cl : List (Str × Addr)) (fp : List Addr), GV is T (X.blk s H scope (compEnvC scope cl C X.env) fp) tg g) (ht : ∀ (s : Shared) (H : Hp) (C : Addr) (cl : List (Str × Addr)) (fp : List Addr), TsV κt T (X.blk s H scope (compEnvC scope cl C X.env) fp) noX ifs mt)
    (he : ∀ (s : Shared) (H : Hp) (C : Addr) (cl : List (Str × Addr)) (fp : List Addr), EV κe T (X.blk s H scope (compEnvC scope cl C X.env) fp) noX elt el) (hsub : ∀ i ∈ is, i ∈ own.map (·.2) := by decide) (hs : ∀ x, foldedSetIterable iter X.env x = pure x := by intro _; rfl) :
    NV ((κ && κt) && κe) T X Wx (.ListComp elt [⟨tg, iter, ifs, 0⟩] scope pos) (mComp it (own.map (·.2)) g mt el) := by
  obtain ⟨wi, g0, tt, te, a1, a2, a3, a4, a5⟩ := comp_parts hN hi hg ht he hsub
  exact ⟨_, pe_lc hc hN a1 ok a2 a3 a4 hs, a5⟩
theorem sv_setComp (i : Nat) {y : Str} {py : Pos} (hc : X.calm = true) (hN : X.N.Nodup) (hi : IV κ (Ext (κt && κe)) T X Wx tg iter it) (ok : BlkOk X.N X.env.scope scope own)
    (hg : ∀ (s : Shared) (H : Hp) (C : Addr) (cl : List (Str × Addr)) (fp : List Addr), GV is T (X.blk s H scope (compEnvC scope cl C X.env) fp) tg g) (ht : ∀ (s : Shared) (H : Hp) (C : Addr) (cl : List (Str × Addr)) (fp : List Addr), TsV κt T (X.blk s H scope (compEnvC scope cl C X.env) fp) noX ifs mt)
    (he : ∀ (s : Shared) (H : Hp) (C : Addr) (cl : List (Str × Addr)) (fp : List Addr), EV κe T (X.blk s H scope (compEnvC scope cl C X.env) fp) noX elt el)
    (hsw : swapsWith (.ListComp elt [⟨tg, iter, ifs, 0⟩] scope pos) (some (.Name y py)) spos.line X.env = pure true) (hy : X.N[i]? = some y := by rfl) (hyl : X.env.scope.names.lookup y = some .local := by rfl) (hsub : ∀ i ∈ is, i ∈ own.map (·.2) := by decide) (hs : ∀ x, foldedSetIterable iter X.env x = pure x := by intro _; rfl) :
    SV T X Wx (.Assign [.Name y py] (.ListComp elt [⟨tg, iter, ifs, 0⟩] scope pos) spos) (sSet i (mUn (mComp it (own.map (·.2)) g mt el) fun ds st => .ok (.lst ds) st)) := by
  obtain ⟨wi, g0, tt, te, a1, a2, a3, a4, a5⟩ := comp_parts hN hi hg ht he hsub
  refine ⟨_, ps_setLc hc hN hy hyl hsw a1 ok a2 a3 a4 hs, fun W H env st σ D rl h => a5 _ _ _ _ _ _ rl ?_⟩
  unfold sSet mUn at h
  cases em : mComp it (own.map (·.2)) g mt el env st with
  | exc x st' => rw [em] at h; exact fun W' H' c d e r q => h W' H' c d σ e.s r q
  | bad => rw [em] at h; exact h.elim
  | ok ds st' =>
    rw [em] at h
    intro W' H' p e r' hp w ⟨vs, q1, q2⟩
    have mo := mo_untag (W := W') (H := H') (p := p) fun n z => by rw [w] at z; cases z
    exact h (tagW W' p none) H' _ (ext_untmp rl.sto e hp).s ((r'.untmp w).set i (rep_lst.mpr ⟨p, vs, rfl, .inl ⟨tagW_same, .inl q1⟩, Reps.mono mo _ _ q2⟩))
end
/-! ### objects -/
section
variable {T : List (Addr × Str)} {X : Cx} {Wx : WX} {κ κ' : Bool} {a e o : Expr} {es : List Expr} {ma mo : M D} {n : M (List D)} {mf : Fm} {k np : Nat} {f C : Addr} {fd : FuncData} {ps : List Str} {x m cls fn : Str} {p pos apos pos' : Pos} {R1 : Wm → Hp → D → V → Prop}
/-- the object that a value is -/
def objAt (d : D) (st : Sto) (cls : Str) : Option (Nat × List (Str × D)) := match d with
  | .loc i => match st[i]? with
    | some (.ins c fs) => if c = cls then some (i, fs) else none
    | _ => none
  | _ => none
theorem objAt_some {d : D} {st : Sto} {i : Nat} {fs : List (Str × D)} (h : objAt d st cls = some (i, fs)) : d = .loc i ∧ st[i]? = some (.ins cls fs) := by
  unfold objAt at h
  split at h
  · split at h
    · rename_i e
      split at h
      · rename_i ec; cases h; subst ec; exact ⟨rfl, e⟩
      · cases h
    · cases h
  · cases h
/-- an instance as it stands -/
theorem Rel.ins {G : Gx} {W : Wm} {H : Hp} {env : Env} {st : Sto} {σ : L2.St} (r : Rel G W H env st σ) {d : D} {v : V} {i : Nat} {fs : List (Str × D)} (hq : Rep G.K W H d v) (h : objAt d st cls = some (i, fs)) (hC : G.mg cls = some (.ref C)) :
    ∃ a dx vs, v = .ref a ∧ W a = some (.obj i) ∧ H a = some (.ins C dx vs) ∧ (fs.map Prod.fst).Nodup ∧ FldsOk G.K W H i fs vs := by
  obtain ⟨rfl, e⟩ := objAt_some h
  obtain ⟨a, ev, w⟩ := rep_loc.mp hq
  obtain ⟨ob, e', q⟩ := r.sto.obj a i w
  rw [e] at e'
  cases e'
  obtain ⟨C', dx, vs, h1, h2, hn, h3⟩ := q
  rw [hC] at h1
  cases h1
  exact ⟨a, dx, vs, ev, w, h2, hn, h3⟩
theorem FldsOk.look {K : PySem.W.Frag} {W : Wm} {H : Hp} {n : Nat} {f : Str} : ∀ {fs : List (Str × D)} {vs : List (Str × V)}, FldsOk K W H n fs vs → (∀ d, fs.lookup f = some d → ∃ v, vs.lookup f = some v ∧ At K W H (.fld n f) d v) ∧ (fs.lookup f = none → vs.lookup f = none) ∧ fs.length = vs.length
  | [], vs, h => by
    unfold FldsOk at h
    subst h
    exact ⟨fun d z => (by cases z), fun _ => rfl, rfl⟩
  | (g, d0) :: r, vs, h => by
    unfold FldsOk at h
    obtain ⟨v, r', rfl, h1, h2⟩ := h
    obtain ⟨k1, k2, k3⟩ := FldsOk.look (f := f) h2
    by_cases z : f = g
    · subst z
      have e1 : ((f, d0) :: r).lookup f = some d0 := by simp [List.lookup]
      have e2 : ((f, v) :: r').lookup f = some v := by simp [List.lookup]
      exact ⟨fun d q => (by rw [e1] at q; cases q; exact ⟨v, e2, h1⟩), fun q => (by rw [e1] at q; cases q), by simp [k3]⟩
    · have zb : (f == g) = false := by simpa using z
      have e1 : ((g, d0) :: r).lookup f = r.lookup f := by simp [List.lookup, zb]
      have e2 : ((g, v) :: r').lookup f = r'.lookup f := by simp [List.lookup, zb]
      exact ⟨fun d q => (by rw [e1] at q; rw [e2]; exact k1 d q), fun q => (by rw [e1] at q; rw [e2]; exact k2 q), by simp [k3]⟩
/-- o.f, a field -/
def mFld (cls f : Str) (mo : M D) : M D := mUn mo fun d st => match objAt d st cls with
  | some (_, fs) => match fs.lookup f with
    | some (.own _) | some (.ownd _) | some (.lkd _) | some (.nst _) | none => .bad
    | some d => .ok d st
  | none => .bad
def mFldC (cls f : Str) (mo : M D) : M D := mUn mo fun d st => match objAt d st cls with
  | some (_, fs) => match fs.lookup f with
    | none => .bad
    | some d => .ok d.cur st
  | none => .bad
theorem ev_fld (ho : EV κ T X Wx o mo) (hC : X.mg cls = some (.ref C)) (hc : Cls X.K C) (hn : NoAttr X.K C fn) (hb : attributeBase o fn X.env (eval o X.env) = eval o X.env := by rfl) : EV κ T X Wx (.Attribute o fn pos) (mFld cls fn mo) := by
  obtain ⟨t, pt, rt⟩ := ho.ex
  refine ⟨_, pe_fld pt hb, fun W H env st σ Q rl h => rt _ _ _ _ _ _ rl (h.bind (fun z => z) fun d st1 W1 H1 v e1 r1 q1 h1 => ?_)⟩
  cases eo : objAt d st1 cls with
  | none => simp only [eo] at h1; exact h1.elim
  | some z =>
    obtain ⟨i, fs⟩ := z
    simp only [eo] at h1
    obtain ⟨a, dx, vs, rfl, w, ha, hnd, hf⟩ := r1.ins q1 eo hC
    split at h1
    · exact h1.elim
    · exact h1.elim
    · exact h1.elim
    · exact h1.elim
    · exact h1.elim
    · rename_i d' n1 n2 n3 n4 el
      obtain ⟨v', l', q'⟩ := hf.look.1 _ el
      exact ⟨a, C, dx, vs, v', rfl, ha, hc, hn, l', h1.ok r1 (q'.rep (fun xs z => n1 xs (by rw [z])) (fun xs z => n2 xs (by rw [z])) (fun xs z => n3 xs (by rw [z])) fun xs z => n4 xs (by rw [z]))⟩
theorem cv_fld (ho : EV κ T X Wx o mo) (hC : X.mg cls = some (.ref C)) (hc : Cls X.K C) (hn : NoAttr X.K C fn) (hb : attributeBase o fn X.env (eval o X.env) = eval o X.env := by rfl) : CV κ T X Wx (.Attribute o fn pos) (mFldC cls fn mo) := by
  obtain ⟨t, pt, rt⟩ := ho.ex
  refine ⟨_, pe_fld pt hb, fun W H env st σ Q rl h => rt _ _ _ _ _ _ rl (h.bind (fun z => z) fun d st1 W1 H1 v e1 r1 q1 h1 => ?_)⟩
  cases eo : objAt d st1 cls with
  | none => simp only [eo] at h1; exact h1.elim
  | some z =>
    obtain ⟨i, fs⟩ := z
    simp only [eo] at h1
    obtain ⟨a, dx, vs, rfl, w, ha, hnd, hf⟩ := r1.ins q1 eo hC
    split at h1
    · exact h1.elim
    · rename_i d' el
      obtain ⟨v', l', q'⟩ := hf.look.1 _ el
      exact ⟨a, C, dx, vs, v', rfl, ha, hc, hn, l', h1.ok r1 q'.cur⟩
/-- o.m(..) -/
def mMeth (cls m : Str) (mf : Fm) (mo : M D) (n : M (List D)) : M D := fun env st => (mo env st).bind fun d st1 => match objAt d st1 cls with
  | some (_, fs) => if (fs.lookup m).isNone = true then (n env st1).bind fun ds st2 => mf (d :: ds) st2 else .bad
  | none => .bad
theorem ev_meth {pl : Sem Bool} (ho : EV κ T X Wx o mo) (hC : X.mg cls = some (.ref C)) (hc : Cls X.K C) (hm : Meth X.K C m f) (F : FnOk X.prog X.w X.K X.mg X.base (L2.CX X.prog X.w) k f fd ps (spOf (Gof X T) (np + 1) mf)) (hr : Room k X.A) (tk : Takes X Wx) (hb : Binds X.K fd ps []) (ha : AV κ' T X Wx (a :: es) n)
    (hl : ∀ env st ds st', n env st = .ok ds st' → ds.length = np) (hst : starEach (a :: es) X.env = (false, eval a X.env) :: starEach es X.env := by rfl) (hpl : (backTo pos (starEach es X.env)).any (·.1) = false := by rfl)
    (ht : eval (.Call (.Attribute o m apos) (a :: es) [] pos) X.env = (eval o X.env >>= fun ov => standAt apos.atName >>= fun _ => holding [ov] (getMethod ov m pl) >>= fun z => callWith pos z.1 z.2 (backTo pos (starEach (a :: es) X.env)) (backToKw pos (keywordEach [] X.env))) := by rfl) :
    EV false T X Wx (.Call (.Attribute o m apos) (a :: es) [] pos) (mMeth cls m mf mo n) := by
  obtain ⟨t, pt, rt⟩ := ho.ex
  obtain ⟨ta, pa, ra⟩ := ha.ex
  refine ⟨_, pe_methS pt hc hm F hr hb (fun σ => passAt tk σ) pa hst hpl ht, fun W H env st σ Q rl h => rt _ _ _ _ _ _ rl (Post.bind h (by intro z; cases z) fun d st1 W1 H1 v e1 r1 q1 h1 => ?_)⟩
  cases eo : objAt d st1 cls with
  | none => simp only [eo] at h1; exact h1.elim
  | some z =>
    obtain ⟨i, fs⟩ := z
    simp only [eo] at h1
    split at h1
    · rename_i hnone
      obtain ⟨a', dx, vs, rfl, w, hA, hnd, hf⟩ := r1.ins q1 eo hC
      refine ⟨a', dx, vs, rfl, hA, hf.look.2.1 (by simpa using hnone), ?_⟩
      cases en : n env st1 with
      | ok ds st2 =>
        rw [en] at h1
        refine ra W1 H1 env st1 σ _ r1 ?_
        rw [en]
        intro W2 H2 us ex r2 q2
        refine call_read r2 (Reps.cons (Rep.mono ex.mo _ _ q1) q2) (Post.ext h1 ex.f) ?_
        rw [List.length_cons, ← q2.length, hl _ _ _ _ en]
      | exc x st' => rw [en] at h1; exact ra W1 H1 env st1 σ _ r1 (by rw [en]; exact h1)
      | bad => rw [en] at h1; exact h1.elim
    · exact h1.elim
theorem ev_meth0 {pl : Sem Bool} (ho : EV κ T X Wx o mo) (hC : X.mg cls = some (.ref C)) (hc : Cls X.K C) (hm : Meth X.K C m f) (F : FnOk X.prog X.w X.K X.mg X.base (L2.CX X.prog X.w) k f fd ps (spOf (Gof X T) 1 mf)) (hr : Room k X.A) (tk : Takes X Wx) (hb : Binds X.K fd ps [])
    (ht : eval (.Call (.Attribute o m apos) [] [] pos) X.env = (eval o X.env >>= fun ov => standAt apos.atName >>= fun _ => holding [ov] (getMethod ov m pl) >>= fun z => callWith pos z.1 z.2 (backTo pos (starEach [] X.env)) (backToKw pos (keywordEach [] X.env))) := by rfl) :
    EV false T X Wx (.Call (.Attribute o m apos) [] [] pos) (mMeth cls m mf mo mNil) := by
  obtain ⟨t, pt, rt⟩ := ho.ex
  refine ⟨_, pe_meth0S pt hc hm F hr hb (fun σ => passAt tk σ) ht, fun W H env st σ Q rl h => rt _ _ _ _ _ _ rl (Post.bind h (by intro z; cases z) fun d st1 W1 H1 v e1 r1 q1 h1 => ?_)⟩
  cases eo : objAt d st1 cls with
  | none => simp only [eo] at h1; exact h1.elim
  | some z =>
    obtain ⟨i, fs⟩ := z
    simp only [eo] at h1
    split at h1
    · rename_i hnone
      obtain ⟨a', dx, vs, rfl, w, hA, hnd, hf⟩ := r1.ins q1 eo hC
      exact ⟨a', dx, vs, rfl, hA, hf.look.2.1 (by simpa using hnone), call_read r1 (Reps.one q1) h1 rfl⟩
    · exact h1.elim
/-- C(..) -/
def mMake (cls : Str) (mf : Fm) (n : M (List D)) : M D := fun env st => (n env st).bind fun ds st1 => (mf (.loc st1.length :: ds) (st1 ++ [.ins cls []])).bind fun d st2 => match d with
  | .non => .ok (.loc st1.length) st2
  | _ => .bad
theorem make_read {W : Wm} {H : Hp} {env : Env} {st : Sto} {σ : L2.St} {Q : VK} {vs : List V} {ds : List D} {x dx : Addr} (rl : Rel (Gof X T) W H env st σ) (hd : Reps X.K W H ds vs) (hC : X.mg cls = some (.ref C)) (hx : H x = none) (hdx : H dx = none) (hne : dx ≠ x) (hl : vs.length = np)
    (h : Post false (RepR X) (Gof X T) Wx W H env σ ((mf (.loc st.length :: ds) (st ++ [.ins cls []])).bind fun d st2 => match d with
      | .non => .ok (.loc st.length) st2
      | _ => .bad) Q) :
    spOf (Gof X T) (np + 1) mf (.ref x :: vs) (upd (upd H dx (.own x)) x (.ins C dx [])) (fun v H2 => v = .non ∧ Q (.ref x) H2) (WE Wx σ) := by
  have r1 : Rel (Gof X T) W (upd H dx (.own x)) env st σ := rl.laid hdx
  have hx1 : upd H dx (.own x) x = none := by rw [upd_ne (Ne.symm hne)]; exact hx
  have r2 : Rel (Gof X T) (tagW W x (some (.obj st.length))) (upd (upd H dx (.own x)) x (.ins C dx [])) env (st ++ [.ins cls []]) σ := r1.laidO hx1 (fun _ z => by cases z) ⟨C, dx, [], hC, upd_same, by simp, by unfold FldsOk; rfl⟩
  have e2 : Ext false W H (tagW W x (some (.obj st.length))) (upd (upd H dx (.own x)) x (.ins C dx [])) := (Ext.laid rl.sto hdx).trans (ext_laidT r1.sto hx1)
  refine ⟨_, _, .loc st.length :: ds, by rw [List.length_cons, hl], r2.sto, ParsOk.of (Reps.cons (rep_loc.mpr ⟨x, rfl, tagW_same⟩) (Reps.mono e2.mo _ _ hd)), ?_⟩
  replace h := h.ext e2
  cases em : mf (.loc st.length :: ds) (st ++ [.ins cls []]) with
  | ok d st2 =>
    rw [em] at h
    intro W' H' v ex s q
    cases d with
    | non => exact ⟨rep_non.mp q, h W' H' (.ref x) ex (r2.ofSto ex s) (rep_loc.mpr ⟨x, rfl, ex.ob x _ tagW_same⟩)⟩
    | _ => exact h.elim
  | exc y st2 => rw [em] at h; exact fun W' H' c d ex s q => h W' H' c d ex (r2.ofSto ex s) q
  | bad => rw [em] at h; exact h.elim
theorem ev_make (hC : X.mg cls = some (.ref C)) (Mk' : Mk X.K C f) (F : FnOk X.prog X.w X.K X.mg X.base (L2.CX X.prog X.w) k f fd ps (spOf (Gof X T) (np + 1) mf)) (hr : Room (k + 1) X.A) (tk : Takes X Wx) (hg : Gl X cls) (hb : Binds X.K fd ps []) (ha : AV κ T X Wx (a :: es) n)
    (hl : ∀ env st ds st', n env st = .ok ds st' → ds.length = np) (hdb : (cls == ("__debug__" : Str)) = false := by decide) (he : starEach (a :: es) X.env = (false, eval a X.env) :: starEach es X.env := by rfl) (hpl : (backTo pos (starEach es X.env)).any (·.1) = false := by rfl) :
    EV false T X Wx (.Call (.Name cls p) (a :: es) [] pos) (mMake cls mf n) := by
  obtain ⟨ta, pa, ra⟩ := ha.ex
  refine ⟨_, pe_makeS Mk' F hr hg hC hb (fun σ => passAt tk σ) pa hdb he hpl, fun W H env st σ Q rl h => ?_⟩
  unfold mMake at h
  cases en : n env st with
  | ok ds st1 =>
    rw [en] at h
    refine ra W H env st σ _ rl ?_
    rw [en]
    intro W1 H1 us ex r1 q1 x dx hx hdx hne
    exact make_read r1 q1 hC hx hdx hne (q1.length.symm.trans (hl _ _ _ _ en)) (Post.ext h ex.f)
  | exc x st' => rw [en] at h; exact ra W H env st σ _ rl (by rw [en]; exact h)
  | bad => rw [en] at h; exact h.elim
theorem ev_make0 (hC : X.mg cls = some (.ref C)) (Mk' : Mk X.K C f) (F : FnOk X.prog X.w X.K X.mg X.base (L2.CX X.prog X.w) k f fd ps (spOf (Gof X T) 1 mf)) (hr : Room (k + 1) X.A) (tk : Takes X Wx) (hg : Gl X cls) (hb : Binds X.K fd ps [])
    (hdb : (cls == ("__debug__" : Str)) = false := by decide) : EV false T X Wx (.Call (.Name cls p) [] [] pos) (mMake cls mf mNil) :=
  ⟨_, pe_make0S Mk' F hr hg hC hb (fun σ => passAt tk σ) hdb, fun W H env st σ Q rl h x dx hx hdx hne => make_read rl Reps.nil hC hx hdx hne rfl h⟩
end
end Ev
set_option autoImplicit true
set_option maxRecDepth 100000
set_option maxHeartbeats 4000000
/-! places that are written: own lists and dicts of slots and of fields, lists of the store; fields -/
namespace Ev
open PySem PySem.Spec PyProof.Rows L2
def putD (f : Str) (d : D) : List (Str × D) → List (Str × D)
  | [] => [(f, d)]
  | (g, x) :: r => if g = f then (g, d) :: r else (g, x) :: putD f d r
theorem putD_fst {f : Str} {d : D} : ∀ {fs : List (Str × D)}, (putD f d fs).map Prod.fst = if f ∈ fs.map Prod.fst then fs.map Prod.fst else fs.map Prod.fst ++ [f]
  | [] => by simp [putD]
  | (g, x) :: r => by
    unfold putD
    by_cases h : g = f
    · subst h; simp
    · rw [if_neg h, List.map_cons, putD_fst]
      by_cases h2 : f ∈ r.map Prod.fst
      · rw [if_pos h2, if_pos (by simp only [List.map_cons, List.mem_cons]; exact .inr h2)]; rfl
      · rw [if_neg h2, if_neg (by simp only [List.map_cons, List.mem_cons, not_or]; exact ⟨fun z => h z.symm, h2⟩)]; rfl
theorem putD_nodup {f : Str} {d : D} {fs : List (Str × D)} (h : (fs.map Prod.fst).Nodup) : ((putD f d fs).map Prod.fst).Nodup := by
  rw [putD_fst]
  split
  · exact h
  · rename_i n
    rw [List.nodup_append]
    exact ⟨h, by simp, fun a ha b hb z => by simp at hb; subst hb; subst z; exact n ha⟩
theorem FldsOk.keys {K : PySem.W.Frag} {W : Wm} {H : Hp} {n : Nat} : ∀ {fs : List (Str × D)} {vs : List (Str × V)}, FldsOk K W H n fs vs → vs.map Prod.fst = fs.map Prod.fst
  | [], vs, h => by unfold FldsOk at h; subst h; rfl
  | (f, d) :: r, vs, h => by
    unfold FldsOk at h
    obtain ⟨v, r', rfl, _, h2⟩ := h
    simp [FldsOk.keys h2]
/-- a field is put; the others' own stay -/
theorem FldsOk.put {K : PySem.W.Frag} {W W' : Wm} {H H' : Hp} {n : Nat} {f : Str} {d : D} {y : V} (m : Mo W H W' H') (k : ∀ a g, g ≠ f → W a = some (.fld n g) → W' a = some (.fld n g) ∧ H' a = H a) (hy : At K W' H' (.fld n f) d y) :
    ∀ {fs : List (Str × D)} {vs : List (Str × V)}, (fs.map Prod.fst).Nodup → FldsOk K W H n fs vs → FldsOk K W' H' n (putD f d fs) (putF f y vs)
  | [], vs, _, h => by
    unfold FldsOk at h
    subst h
    unfold putD FldsOk
    exact ⟨y, [], rfl, hy, by unfold FldsOk; rfl⟩
  | (g, x) :: r, vs, nd, h => by
    unfold FldsOk at h
    obtain ⟨v, r', rfl, h1, h2⟩ := h
    rw [List.map_cons, List.nodup_cons] at nd
    by_cases e : g = f
    · subst e
      have e1 : putD g d ((g, x) :: r) = (g, d) :: r := by unfold putD; rw [if_pos rfl]
      have e2 : putF g y ((g, v) :: r') = (g, y) :: r' := by unfold putF; rw [if_pos rfl]
      rw [e1, e2]
      unfold FldsOk
      refine ⟨y, r', rfl, hy, ?_⟩
      exact FldsOk.rest m (fun a g' hg => k a g' (fun z => nd.1 (by subst z; exact hg))) h2
    · have e1 : putD f d ((g, x) :: r) = (g, x) :: putD f d r := by rw [putD, if_neg e]
      have e2 : putF f y ((g, v) :: r') = (g, v) :: putF f y r' := by rw [putF, if_neg e]
      rw [e1, e2]
      unfold FldsOk
      exact ⟨v, _, rfl, h1.mono m (fun a => k a g e) fun ⟨_, z⟩ => (by cases z), FldsOk.put m k hy nd.2 h2⟩
where
  FldsOk.rest {K : PySem.W.Frag} {W W' : Wm} {H H' : Hp} {n : Nat} (m : Mo W H W' H') : ∀ {fs : List (Str × D)} {vs : List (Str × V)}, (∀ a g, g ∈ fs.map Prod.fst → W a = some (.fld n g) → W' a = some (.fld n g) ∧ H' a = H a) → FldsOk K W H n fs vs → FldsOk K W' H' n fs vs
    | [], vs, _, h => by unfold FldsOk at h ⊢; exact h
    | (f, d) :: r, vs, k, h => by
      unfold FldsOk at h ⊢
      obtain ⟨v, r', e, h1, h2⟩ := h
      exact ⟨v, r', e, h1.mono m (fun a => k a f (by simp)) fun ⟨_, z⟩ => (by cases z), FldsOk.rest m (fun a g hg => k a g (by simp only [List.map_cons, List.mem_cons]; exact .inr hg)) h2⟩
section
variable {G : Gx} {W W' : Wm} {H H' : Hp} {env : Env} {st : Sto} {σ : L2.St}
/-- an object of the store is written -/
theorem StoOk.setObj {a : Addr} {n : Nat} {o o' : HO} {so : SObj} (s : StoOk G W H st) (hw : W a = some (.obj n)) (ha : H a = some o') (pl : Plain o') (ho : ∀ ps, o ≠ .tbl ps) (hr : ObjRep G W (upd H a o) n a so) (hv : ∀ vs, o ≠ .tup vs := by intro _ z; cases z) : StoOk G W (upd H a o) (st.set n so) where
  obj := fun b k q => by
    by_cases z : b = a
    · subst z
      rw [hw] at q
      cases q
      obtain ⟨ob, e, _⟩ := s.obj b _ hw
      exact ⟨so, List.getElem?_set_self (List.getElem?_eq_some_iff.mp e).1, hr⟩
    · have nk : k ≠ n := fun z2 => z (s.uniq b a k q (by rw [z2]; exact hw))
      obtain ⟨ob, e, r⟩ := s.obj b k q
      refine ⟨ob, by rw [List.getElem?_set_ne (Ne.symm nk)]; exact e, r.mono (mo_tmp hw) (upd_ne z) fun c f qc => ⟨qc, upd_ne fun z2 => ?_⟩⟩
      subst z2
      rw [hw] at qc
      cases qc
  uniq := s.uniq
  used := fun b t q => by
    by_cases z : b = a
    · subst z; rw [upd_same]; exact ⟨o, rfl, ho⟩
    · rw [upd_ne z]; exact s.used b t q
  tabs := tabs_upd s.tabs ha pl
  ntup := ntup_upd s.ntup hw hv
theorem ext_obj {a : Addr} {n : Nat} {o : HO} (hw : W a = some (.obj n)) (ho : ∀ ps, o ≠ .tbl ps := by intro _ z; cases z) : Ext false W H W (upd H a o) where
  fr := fun b u h q _ => ⟨h, by rw [upd_ne fun z => by subst z; rw [hw] at h; cases h]; exact q⟩
  ob := fun _ _ h => h
  hl := fun b t h k => ⟨h, upd_ne fun z => by subst z; rw [hw] at h; cases h; simp [Tag.held] at k⟩
  th := upd_th2 ho
theorem Rel.setObj {a : Addr} {n : Nat} {o o' : HO} {so : SObj} (r : Rel G W H env st σ) (hw : W a = some (.obj n)) (ha : H a = some o') (pl : Plain o') (ho : ∀ ps, o ≠ .tbl ps) (hr : ObjRep G W (upd H a o) n a so) (hv : ∀ vs, o ≠ .tup vs := by intro _ z; cases z) : Rel G W (upd H a o) env (st.set n so) σ :=
  r.ofSto (ext_obj hw ho) (r.sto.setObj hw ha pl ho hr hv)
/-- a field is put -/
theorem Rel.setFld {cls f : Str} {C a dx : Addr} {n : Nat} {fs : List (Str × D)} {vs : List (Str × V)} {d : D} {y : V} (r : Rel G W H env st σ) (hC : G.mg cls = some (.ref C)) (hw : W a = some (.obj n)) (ha : H a = some (.ins C dx vs)) (nd : (fs.map Prod.fst).Nodup) (hf : FldsOk G.K W H n fs vs) (hy : Rep G.K W H d y) :
    Rel G W (upd H a (.ins C dx (putF f y vs))) env (st.set n (.ins cls (putD f d fs))) σ := by
  have mo : Mo W H W (upd H a (.ins C dx (putF f y vs))) := mo_tmp hw
  refine r.setObj hw ha plain_ins (fun _ z => by cases z) ⟨C, dx, _, hC, upd_same, putD_nodup nd, hf.put mo (fun b g _ q => ⟨q, upd_ne fun z => ?_⟩) (.of (Rep.mono mo _ _ hy)) nd⟩
  subst z
  rw [hw] at q
  cases q
theorem Rel.setFldOwn {cls f : Str} {C a dx : Addr} {n : Nat} {fs : List (Str × D)} {vs : List (Str × V)} {ds : List D} {p : Addr} (r : Rel G W H env st σ) (hC : G.mg cls = some (.ref C)) (hw : W a = some (.obj n)) (ha : H a = some (.ins C dx vs)) (nd : (fs.map Prod.fst).Nodup) (hf : FldsOk G.K W H n fs vs) (hp : W p = some .tmp) (hc : CL G.K W H ds p) :
    Rel G (tagW W p (some (.fld n f))) (upd H a (.ins C dx (putF f (.ref p) vs))) env (st.set n (.ins cls (putD f (.own ds) fs))) σ := by
  have r' := r.retag hp (t := .fld n f) (fun n z => by cases z)
  have hap : a ≠ p := fun z => by subst z; rw [hw] at hp; cases hp
  have hw' : tagW W p (some (.fld n f)) a = some (.obj n) := by rw [tagW_ne hap]; exact hw
  have m1 : Mo W H (tagW W p (some (.fld n f))) H := (exts_retag hp).mo
  have m2 : Mo (tagW W p (some (.fld n f))) H (tagW W p (some (.fld n f))) (upd H a (.ins C dx (putF f (.ref p) vs))) := mo_tmp hw'
  have mo : Mo W H (tagW W p (some (.fld n f))) (upd H a (.ins C dx (putF f (.ref p) vs))) := ⟨fun b u q1 q2 q3 => let ⟨z1, z2⟩ := m1.fr b u q1 q2 q3; m2.fr b u z1 z2 q3, fun b k q => m2.ob b k (m1.ob b k q), fun b us q1 q2 => let ⟨z1, z2⟩ := m1.tu b us q1 q2; m2.tu b us z1 z2, fun b o us q1 q2 => let ⟨z1, z2⟩ := m1.pt b o us q1 q2; m2.pt b o us z1 z2⟩
  obtain ⟨vl, q1, q2⟩ := hc
  refine r'.setObj hw' ha plain_ins (fun _ z => by cases z) ⟨C, dx, _, hC, upd_same, putD_nodup nd, hf.put mo (fun b g hg q => ⟨?_, upd_ne fun z => ?_⟩) (d := .own ds) ⟨p, vl, rfl, tagW_same, by rw [upd_ne (Ne.symm hap)]; exact q1, Reps.mono mo _ _ q2⟩ nd⟩
  · rw [tagW_ne fun z => by subst z; rw [hp] at q; cases q]; exact q
  · subst z
    rw [hw] at q
    cases q
end
/-! ### o.f = e -/
section
variable {T : List (Addr × Str)} {X : Cx} {Wx : WX} {κ κ' : Bool} {a e o : Expr} {ma mo : M D} {C : Addr} {cls fn : Str} {p pos apos pos' tpos : Pos}
def sFldSet (cls fn : Str) (mo : M D) (m : M D) : Sm := fun env st => (m env st).out env fun d st1 => (mo env st1).out env fun od st2 => match objAt od st2 cls with
  | some (n, fs) => if fs.length < 900 then .nx env (st2.set n (.ins cls (putD fn d fs))) else .bad
  | none => .bad
def sFldOwn (cls fn : Str) (mo : M D) (m : M (List D)) : Sm := fun env st => (m env st).out env fun d st1 => (mo env st1).out env fun od st2 => match objAt od st2 cls with
  | some (n, fs) => if fs.length < 900 then .nx env (st2.set n (.ins cls (putD fn (.own d) fs))) else .bad
  | none => .bad
def sFldOwnD (cls fn : Str) (mo : M D) (m : M (Dc)) : Sm := fun env st => (m env st).out env fun d st1 => (mo env st1).out env fun od st2 => match objAt od st2 cls with
  | some (n, fs) => if fs.length < 900 then .nx env (st2.set n (.ins cls (putD fn (.ownd d) fs))) else .bad
  | none => .bad
theorem sv_fld (ho : EV κ T X Wx o mo) (hv : EV κ' T X Wx e ma) (hC : X.mg cls = some (.ref C)) (hc : Cls X.K C) (hn : NoAttr X.K C fn) (hs : swapsWith e (some (.Attribute o fn pos')) pos.line X.env = pure false := by rfl) : SV T X Wx (.Assign [.Attribute o fn pos'] e pos) (sFldSet cls fn mo ma) := by
  obtain ⟨t, pt, rt⟩ := ho.ex
  obtain ⟨tv, pv, rv⟩ := hv.ex
  refine ⟨_, ps_fld pt pv hs, fun W H env st σ D rl h => rv _ _ _ _ _ _ rl (SPost.of h fun d st1 W1 H1 y e1 r1 q1 h1 => rt _ _ _ _ _ _ r1 (SPost.of h1 fun od st2 W2 H2 v e2 r2 q2 h2 => ?_))⟩
  cases eo : objAt od st2 cls with
  | none => simp only [eo] at h2; exact h2.elim
  | some z =>
    obtain ⟨n, fs⟩ := z
    simp only [eo] at h2
    split at h2
    · rename_i hl
      obtain ⟨b, dx, vs, rfl, w, hb, nd, hf⟩ := r2.ins q2 eo hC
      exact ⟨b, C, dx, vs, rfl, hb, hc, hn, by have := hf.look (f := fn) |>.2.2; omega, h2 W2 _ σ (ext_obj w).s (r2.setFld hC w hb nd hf (Rep.mono e2.mo _ _ q1))⟩
    · exact h2.elim
theorem sv_fldOwn {ml : M (List D)} (ho : EV κ T X Wx o mo) (hv : NV κ' T X Wx e ml) (hC : X.mg cls = some (.ref C)) (hc : Cls X.K C) (hn : NoAttr X.K C fn) (hs : swapsWith e (some (.Attribute o fn pos')) pos.line X.env = pure false := by rfl) : SV T X Wx (.Assign [.Attribute o fn pos'] e pos) (sFldOwn cls fn mo ml) := by
  obtain ⟨t, pt, rt⟩ := ho.ex
  obtain ⟨tv, pv, rv⟩ := hv.ex
  refine ⟨_, ps_fld pt pv hs, fun W H env st σ D rl h => rv _ _ _ _ _ _ rl (SPost.ofN h fun d st1 W1 H1 p e1 r1 hp w1 q1 h1 => rt _ _ _ _ _ _ r1 (SPost.of h1 fun od st2 W2 H2 v e2 r2 q2 h2 => ?_))⟩
  cases eo : objAt od st2 cls with
  | none => simp only [eo] at h2; exact h2.elim
  | some z =>
    obtain ⟨n, fs⟩ := z
    simp only [eo] at h2
    split at h2
    · rename_i hl
      obtain ⟨b, dx, vs, rfl, w, hb, nd, hf⟩ := r2.ins q2 eo hC
      have w2 := e2.hl p _ w1 (by simp [Tag.held])
      obtain ⟨vl, c1, c2⟩ := q1
      have c : CL X.K W2 H2 d p := ⟨vl, w2.2.trans c1, Reps.mono e2.mo _ _ c2⟩
      have ex : ExtS W2 H2 (tagW W2 p (some (.fld n fn))) (upd H2 b (.ins C dx (putF fn (.ref p) vs))) := (exts_retag w2.1).trans (ext_obj (by rw [tagW_ne fun z => by subst z; rw [w] at w2; cases w2.1]; exact w)).s
      exact ⟨b, C, dx, vs, rfl, hb, hc, hn, by have := hf.look (f := fn) |>.2.2; omega, h2 _ _ σ ex (r2.setFldOwn hC w hb nd hf w2.1 c)⟩
    · exact h2.elim
def dAddI : D → D → Option D
  | .int i, .int j => some (.int (i + j))
  | _, _ => none
/-- x op= e, x a slot -/
def sAug (i : Nat) (op : D → D → Option D) (m : M D) : Sm := fun env st => match env[i]? with
  | some (some (.own _)) | some (some (.ownd _)) | some (some (.lkd _)) | some (some (.nst _)) | some none | none => .bad
  | some (some d) => (m env st).out env fun y st2 => match op d y with
    | some z => .nx (env.set i (some z)) st2
    | none => .bad
end
end Ev
set_option autoImplicit true
set_option maxRecDepth 100000
set_option maxHeartbeats 4000000
/-! places: what is written at -/
namespace Ev
open PySem PySem.Spec PyProof.Rows L2
/-- the thing of the tag t stands at a now -/
def PlaceAt (G : Gx) (W : Wm) (H : Hp) (st : Sto) (σ : L2.St) (t : Tag) (a : Addr) : Prop := match t with
  | .slot i => σ[i]? = some (some (.ref a))
  | .obj n => W a = some (.obj n)
  | .fld n f => ∃ b C dx vs, W b = some (.obj n) ∧ H b = some (.ins C dx vs) ∧ vs.lookup f = some (.ref a)
  | _ => False
def contL (t : Tag) (env : Env) (st : Sto) : Option (List D) := match t with
  | .slot i => match env[i]? with
    | some (some (.own ds)) => some ds
    | _ => none
  | .obj n => match st[n]? with
    | some (.ls ds) => some ds
    | _ => none
  | .fld n f => match st[n]? with
    | some (.ins _ fs) => match fs.lookup f with
      | some (.own ds) => some ds
      | _ => none
    | _ => none
  | _ => none
def contD (t : Tag) (env : Env) (st : Sto) : Option (Dc) := match t with
  | .slot i => match env[i]? with
    | some (some (.ownd ds)) => some ds
    | _ => none
  | .fld n f => match st[n]? with
    | some (.ins _ fs) => match fs.lookup f with
      | some (.ownd ds) => some ds
      | _ => none
    | _ => none
  | _ => none
def setL (t : Tag) (ds : List D) (env : Env) (st : Sto) : Env × Sto := match t with
  | .slot i => (env.set i (some (.own ds)), st)
  | .obj n => (env, st.set n (.ls ds))
  | .fld n f => match st[n]? with
    | some (.ins c fs) => (env, st.set n (.ins c (putD f (.own ds) fs)))
    | _ => (env, st)
  | _ => (env, st)
def setDc (t : Tag) (ds : Dc) (env : Env) (st : Sto) : Env × Sto := match t with
  | .slot i => (env.set i (some (.ownd ds)), st)
  | .fld n f => match st[n]? with
    | some (.ins c fs) => (env, st.set n (.ins c (putD f (.ownd ds) fs)))
    | _ => (env, st)
  | _ => (env, st)
section
variable {G : Gx} {W : Wm} {H : Hp} {env : Env} {st : Sto} {σ : L2.St} {t : Tag} {a : Addr}
/-- an own list at its place -/
theorem place_own (r : Rel G W H env st σ) (p : PlaceAt G W H st σ t a) {d : D} (h : (∃ ds, contL t env st = some ds ∧ d = .own ds) ∨ ∃ ds, contD t env st = some ds ∧ d = .ownd ds) (ht : ∀ n, t ≠ .obj n) : At G.K W H t d (.ref a) := by
  cases t with
  | slot i =>
    have e : env[i]? = some (some d) := by
      rcases h with ⟨ds, h, rfl⟩ | ⟨ds, h, rfl⟩
      · unfold contL at h; dsimp only at h; split at h
        · rename_i e; cases h; exact e
        · cases h
      · unfold contD at h; dsimp only at h; split at h
        · rename_i e; cases h; exact e
        · cases h
    obtain ⟨v, q1, q2⟩ := r.env.at_ i d e
    have : v = .ref a := by
      have p : σ[i]? = some (some (.ref a)) := p
      rw [p] at q1
      exact (Option.some.inj (Option.some.inj q1)).symm
    rw [← this]
    exact q2
  | fld n f =>
    obtain ⟨b, C, dx, vs, h1, h2, h3⟩ := p
    obtain ⟨o, e, q⟩ := r.sto.obj b n h1
    have hl : ∃ c fs, o = .ins c fs ∧ fs.lookup f = some d := by
      rcases h with ⟨ds, h, rfl⟩ | ⟨ds, h, rfl⟩
      · unfold contL at h; dsimp only at h
        rw [e] at h
        cases o with
        | ls xs => cases h
        | ins c fs =>
          dsimp only at h
          split at h
          · rename_i e2; cases h; exact ⟨c, fs, rfl, e2⟩
          · cases h
      · unfold contD at h; dsimp only at h
        rw [e] at h
        cases o with
        | ls xs => cases h
        | ins c fs =>
          dsimp only at h
          split at h
          · rename_i e2; cases h; exact ⟨c, fs, rfl, e2⟩
          · cases h
    obtain ⟨c, fs, rfl, el⟩ := hl
    obtain ⟨C', dx', vs', g1, g2, nd, g3⟩ := q
    rw [h2] at g2
    cases g2
    obtain ⟨v, e1, q1⟩ := g3.look.1 _ el
    rw [h3] at e1
    cases e1
    exact q1
  | obj n => exact absurd rfl (ht n)
  | tmp => exact p.elim
  | ext => exact p.elim
  | par j => exact p.elim
theorem place_lst (r : Rel G W H env st σ) (p : PlaceAt G W H st σ t a) {ds : List D} (h : contL t env st = some ds) : W a = some t ∧ ∃ vs, H a = some (.lst vs) ∧ Reps G.K W H ds vs := by
  by_cases ht : ∃ n, t = .obj n
  · obtain ⟨n, rfl⟩ := ht
    have p : W a = some (.obj n) := p
    unfold contL at h
    dsimp only at h
    split at h
    · rename_i e; cases h; exact ⟨p, r.ls p e⟩
    · cases h
  · obtain ⟨b, vs, e, h1, h2, h3⟩ := place_own r p (.inl ⟨ds, h, rfl⟩) fun n z => ht ⟨n, z⟩
    cases e
    exact ⟨h1, vs, h2, h3⟩
theorem exts_upd {o : HO} (hw : W a = some t) (ht : t ≠ .ext) (ho : ∀ ps, o ≠ .tbl ps) : ExtS W H W (upd H a o) where
  fr := fun b u h q _ => ⟨h, by rw [upd_ne fun z => by subst z; rw [hw] at h; cases h]; exact q⟩
  ob := fun _ _ h => h
  ex := fun b h => ⟨h, upd_ne fun z => by subst z; rw [hw] at h; exact ht (Option.some.inj h)⟩
  th := upd_th2 ho
/-- a thing at its place is written -/
theorem place_upd (r : Rel G W H env st σ) (p : PlaceAt G W H st σ t a) {d : D} {o o' : HO} (hw : W a = some t) (ho : H a = some o') (pl : Plain o') (po : ∀ ps, o ≠ .tbl ps) (hd : At G.K W (upd H a o) t d (.ref a)) (h : (∃ ds, contL t env st ≠ none ∧ d = .own ds) ∨ ∃ ds, contD t env st ≠ none ∧ d = .ownd ds) (ht : ∀ n, t ≠ .obj n) (hv : ∀ vs, o ≠ .tup vs := by intro _ z; cases z) :
    Rel G W (upd H a o) (match d with
      | .own ds => setL t ds env st
      | .ownd ds => setDc t ds env st
      | _ => (env, st)).1 (match d with
      | .own ds => setL t ds env st
      | .ownd ds => setDc t ds env st
      | _ => (env, st)).2 σ := by
  have mo : Mo W H W (upd H a o) := mo_tmp hw
  cases t with
  | slot i =>
    have p : σ[i]? = some (some (.ref a)) := p
    have st' : StoOk G W (upd H a o) st := by
      refine ⟨fun b n q => ?_, r.sto.uniq, fun b u q => ?_, tabs_upd r.sto.tabs ho pl, ntup_upd r.sto.ntup hw hv⟩
      · obtain ⟨ob, e, ro⟩ := r.sto.obj b n q
        exact ⟨ob, e, ro.mono mo (upd_ne fun z => by subst z; rw [hw] at q; cases q) fun c f qc => ⟨qc, upd_ne fun z => by subst z; rw [hw] at qc; cases qc⟩⟩
      · by_cases z : b = a
        · subst z; rw [upd_same]; exact ⟨o, rfl, po⟩
        · rw [upd_ne z]; exact r.sto.used b u q
    have env' : EnvOk G.K W (upd H a o) (env.set i (some d)) σ := by
      refine ⟨by rw [List.length_set]; exact r.env.len, fun j d' e => ?_⟩
      by_cases hj : j = i
      · subst hj
        by_cases hl : j < env.length
        · rw [List.getElem?_set_self hl] at e
          cases e
          exact ⟨_, p, hd⟩
        · rw [List.getElem?_eq_none_iff.mpr (by rw [List.length_set]; omega)] at e
          cases e
      · rw [List.getElem?_set_ne (Ne.symm hj)] at e
        obtain ⟨v, q1, q2⟩ := r.env.at_ j d' e
        exact ⟨v, q1, q2.mono mo (fun b qb => ⟨qb, upd_ne fun z => by subst z; rw [hw] at qb; cases qb; exact hj rfl⟩) fun _ b qb => ⟨qb, upd_ne fun z => by subst z; rw [hw] at qb; cases qb⟩⟩
    rcases h with ⟨ds, _, rfl⟩ | ⟨ds, _, rfl⟩
    · exact ⟨st', env'⟩
    · exact ⟨st', env'⟩
  | fld n f =>
    obtain ⟨b, C, dx, vs, h1, h2, h3⟩ := p
    obtain ⟨ob, e, q⟩ := r.sto.obj b n h1
    have hc : ∃ c fs, ob = .ins c fs := by
      cases ob with
      | ins c fs => exact ⟨c, fs, rfl⟩
      | ls xs =>
        rcases h with ⟨ds, hn, _⟩ | ⟨ds, hn, _⟩
        · exact absurd (by unfold contL; dsimp only; rw [e]) hn
        · exact absurd (by unfold contD; dsimp only; rw [e]) hn
    obtain ⟨c, fs, rfl⟩ := hc
    obtain ⟨C', dx', vs', g1, g2, nd, g3⟩ := q
    rw [h2] at g2
    cases g2
    have hba : b ≠ a := fun z => by subst z; rw [hw] at h1; cases h1
    have nb : ∀ (fs : List (Str × D)) (vs : List (Str × V)), vs.lookup f = some (.ref a) → putF f (.ref a) vs = vs := fun _ vs hv => by
      induction vs with
      | nil => cases hv
      | cons x r ih =>
        obtain ⟨g, y⟩ := x
        unfold putF
        by_cases hg : g = f
        · subst hg
          have : List.lookup g ((g, y) :: r) = some y := by simp [List.lookup]
          rw [this] at hv
          rw [if_pos rfl, Option.some.inj hv]
        · rw [if_neg hg]
          have hb : (f == g) = false := by simpa using (Ne.symm hg)
          have : List.lookup f ((g, y) :: r) = r.lookup f := by simp [List.lookup, hb]
          rw [this] at hv
          rw [ih hv]
    have key : Rel G W (upd H a o) env (st.set n (.ins c (putD f d fs))) σ := by
      refine ⟨⟨fun b2 k q => ?_, r.sto.uniq, fun b2 u q => ?_, tabs_upd r.sto.tabs ho pl, ntup_upd r.sto.ntup hw hv⟩, r.env.mono mo (fun b2 i q => ⟨q, upd_ne fun z => by subst z; rw [hw] at q; cases q⟩) fun b2 q => ⟨q, upd_ne fun z => by subst z; rw [hw] at q; cases q⟩⟩
      · by_cases hk : k = n
        · subst hk
          have := r.sto.uniq b2 b k q h1
          subst this
          refine ⟨_, List.getElem?_set_self (List.getElem?_eq_some_iff.mp e).1, C, dx, vs, g1, by rw [upd_ne hba]; exact h2, putD_nodup nd, ?_⟩
          rw [← nb fs vs h3]
          exact g3.put mo (fun b3 g hg q3 => ⟨q3, upd_ne fun z => by subst z; rw [hw] at q3; cases q3; exact hg rfl⟩) hd nd
        · obtain ⟨ob2, e2, ro⟩ := r.sto.obj b2 k q
          exact ⟨ob2, by rw [List.getElem?_set_ne (Ne.symm hk)]; exact e2, ro.mono mo (upd_ne fun z => by subst z; rw [hw] at q; cases q) fun b3 g q3 => ⟨q3, upd_ne fun z => by subst z; rw [hw] at q3; cases q3; exact hk rfl⟩⟩
      · by_cases z : b2 = a
        · subst z; rw [upd_same]; exact ⟨o, rfl, po⟩
        · rw [upd_ne z]; exact r.sto.used b2 u q
    rcases h with ⟨ds, _, rfl⟩ | ⟨ds, _, rfl⟩
    · have e1 : setL (.fld n f) ds env st = (env, st.set n (.ins c (putD f (.own ds) fs))) := by unfold setL; dsimp only; rw [e]
      dsimp only
      rw [e1]
      exact key
    · have e1 : setDc (.fld n f) ds env st = (env, st.set n (.ins c (putD f (.ownd ds) fs))) := by unfold setDc; dsimp only; rw [e]
      dsimp only
      rw [e1]
      exact key
  | obj n => exact absurd rfl (ht n)
  | tmp => exact p.elim
  | ext => exact p.elim
  | par j => exact p.elim
theorem place_updL (r : Rel G W H env st σ) (p : PlaceAt G W H st σ t a) {ds ds' : List D} {vs' : List V} (h : contL t env st = some ds) (hr : Reps G.K W H ds' vs') : Rel G W (upd H a (.lst vs')) (setL t ds' env st).1 (setL t ds' env st).2 σ ∧ ExtS W H W (upd H a (.lst vs')) := by
  obtain ⟨hw, vs, hv, _⟩ := place_lst r p h
  have mo : Mo W H W (upd H a (.lst vs')) := mo_tmp hw
  have hx : t ≠ .ext := fun z => by subst z; cases h
  refine ⟨?_, exts_upd hw hx (fun _ z => by cases z)⟩
  by_cases ht : ∃ n, t = .obj n
  · obtain ⟨n, rfl⟩ := ht
    exact r.setObj hw hv plain_lst (fun _ z => by cases z) ⟨vs', upd_same, Reps.mono mo _ _ hr⟩
  · exact place_upd r p (d := .own ds') hw hv plain_lst (fun _ z => by cases z) ⟨a, vs', rfl, hw, upd_same, Reps.mono mo _ _ hr⟩ (.inl ⟨ds', by rw [h]; simp, rfl⟩) fun n z => ht ⟨n, z⟩
end
/-! ### a place, told by an expression -/
def PostP (κ κe : Bool) (G : Gx) (Wx : WX) (W : Wm) (H : Hp) (env : Env) (σ : L2.St) (r : Res Tag) (Q : V → Hp → Prop) : Prop := match r with
  | .ok t st => ∀ W' H' a, Ext κ W H W' H' → Rel G W' H' env st σ → (∀ W2 H2 st2, Ext κe W' H' W2 H2 → Rel G W2 H2 env st2 σ → PlaceAt G W2 H2 st2 σ t a) → Q (.ref a) H'
  | .exc x st => ∀ W' H' c d, Ext false W H W' H' → Rel G W' H' env st σ → ExnRep G W' H' x c d → Wx c d σ H'
  | .bad => False
structure PlV (κ κe : Bool) (T : List (Addr × Str)) (X : Cx) (Wx : WX) (e : Expr) (m : M Tag) : Prop where
  ex : ∃ t, PE X e t ∧ ∀ W H env st σ Q, Rel (Gof X T) W H env st σ → PostP κ κe (Gof X T) Wx W H env σ (m env st) Q → t σ H Q
section
variable {T : List (Addr × Str)} {X : Cx} {Wx : WX} {κ κ' κe κi : Bool} {a e i o : Expr} {ma mi mo : M D} {C : Addr} {cls fn : Str} {p pos apos cpos pos' tpos : Pos}
/-- a slot's own list or dict -/
def pSlot (i : Nat) : M Tag := fun env st => match env[i]? with
  | some (some (.own _)) | some (some (.ownd _)) => .ok (.slot i) st
  | _ => .bad
/-- a list of the store -/
def pObj (m : M D) : M Tag := mUn m fun d st => match d with
  | .loc n => .ok (.obj n) st
  | _ => .bad
theorem pl_obj (h : EV κ T X Wx e ma) : PlV κ κe T X Wx e (pObj ma) := by
  obtain ⟨t, pt, rt⟩ := h.ex
  refine ⟨_, pt, fun W H env st σ Q rl h => rt _ _ _ _ _ _ rl ?_⟩
  unfold pObj mUn at h
  cases em : ma env st with
  | exc x st' => rw [em] at h; exact h
  | bad => rw [em] at h; exact h.elim
  | ok d st' =>
    rw [em] at h
    intro W' H' v ex r q
    cases d with
    | loc n =>
      obtain ⟨b, rfl, w⟩ := rep_loc.mp q
      exact h W' H' b ex r fun W2 H2 st2 e2 r2 => e2.ob b n w
    | _ => exact h.elim
/-- o.f, an own list or dict -/
def pFld (cls fn : Str) (mo : M D) : M Tag := mUn mo fun d st => match objAt d st cls with
  | some (n, fs) => match fs.lookup fn with
    | some (.own _) | some (.ownd _) => .ok (.fld n fn) st
    | _ => .bad
  | none => .bad
theorem pl_fld (ho : EV κ T X Wx o mo) (hC : X.mg cls = some (.ref C)) (hc : Cls X.K C) (hn : NoAttr X.K C fn) (hb : attributeBase o fn X.env (eval o X.env) = eval o X.env := by rfl) : PlV κ true T X Wx (.Attribute o fn pos) (pFld cls fn mo) := by
  obtain ⟨t, pt, rt⟩ := ho.ex
  refine ⟨_, pe_fld pt hb, fun W H env st σ Q rl h => rt _ _ _ _ _ _ rl ?_⟩
  unfold pFld mUn at h
  cases em : mo env st with
  | exc x st' => rw [em] at h; exact h
  | bad => rw [em] at h; exact h.elim
  | ok d st' =>
    rw [em] at h
    intro W' H' v ex r q
    have h : PostP κ true (Gof X T) Wx W H env σ (match objAt d st' cls with
      | some (n, fs) => match fs.lookup fn with
        | some (.own _) | some (.ownd _) => .ok (.fld n fn) st'
        | _ => .bad
      | none => .bad) Q := h
    cases eo : objAt d st' cls with
    | none => simp only [eo] at h; exact h.elim
    | some z =>
      obtain ⟨n, fs⟩ := z
      simp only [eo] at h
      obtain ⟨b, dx, vs, rfl, w, hb', nd, hf⟩ := r.ins q eo hC
      have fin : ∀ d', fs.lookup fn = some d' → ((∃ ds, d' = .own ds) ∨ ∃ ds, d' = .ownd ds) → ∃ c, vs.lookup fn = some (.ref c) ∧ At (Gof X T).K W' H' (.fld n fn) d' (.ref c) := fun d' el hk => by
        obtain ⟨v', l', q'⟩ := hf.look.1 _ el
        rcases hk with ⟨ds, rfl⟩ | ⟨ds, rfl⟩
        · obtain ⟨c, _, rfl, _⟩ := id q'; exact ⟨c, l', q'⟩
        · obtain ⟨c, rfl, _⟩ := id q'; exact ⟨c, l', q'⟩
      have stay : ∀ c, vs.lookup fn = some (.ref c) → ∀ W2 H2 st2, Ext true W' H' W2 H2 → Rel (Gof X T) W2 H2 env st2 σ → PlaceAt (Gof X T) W2 H2 st2 σ (.fld n fn) c := fun c l W2 H2 st2 e2 r2 => by
        obtain ⟨x1, x2⟩ := e2.hl b _ w rfl
        exact ⟨b, C, dx, vs, x1, x2.trans hb', l⟩
      split at h
      · rename_i ds el
        obtain ⟨c, l, _⟩ := fin _ el (.inl ⟨ds, rfl⟩)
        exact ⟨b, C, dx, vs, .ref c, rfl, hb', hc, hn, l, h W' H' c ex r (stay c l)⟩
      · rename_i ds el
        obtain ⟨c, l, _⟩ := fin _ el (.inr ⟨ds, rfl⟩)
        exact ⟨b, C, dx, vs, .ref c, rfl, hb', hc, hn, l, h W' H' c ex r (stay c l)⟩
      · exact h.elim
end
end Ev
set_option autoImplicit true
set_option maxRecDepth 100000
set_option maxHeartbeats 4000000
/-! dicts by content; places written -/
namespace Ev
open PySem PySem.Spec PyProof.Rows L2
/-! ### keys -/
theorem keyD_eqv (a b : Key) : D.eqv (keyD a) (keyD b) = decide (a = b) := by
  cases a <;> cases b <;> simp [keyD, D.eqv] <;> exact Bool.beq_eq_decide_eq _ _
theorem keysD_eqv : ∀ as bs : List Key, eqvL (as.map keyD) (bs.map keyD) = decide (as = bs)
  | [], [] => by simp [eqvL]
  | [], b :: bs => by simp [eqvL]
  | a :: as, [] => by simp [eqvL]
  | a :: as, b :: bs => by
    rw [List.map_cons, List.map_cons, eqvL, keyD_eqv, keysD_eqv as bs]
    by_cases h : a = b <;> by_cases h2 : as = bs <;> simp [h, h2]
def dKey? : D → Option Key
  | .int i => some (.inl i)
  | .str x => some (.inr x)
  | _ => none
def dKeys? : List D → Option (List Key)
  | [] => some []
  | d :: ds => match dKey? d, dKeys? ds with
    | some k, some ks => some (k :: ks)
    | _, _ => none
theorem dKey_some {d : D} {k : Key} (h : dKey? d = some k) : d = keyD k := by
  unfold dKey? at h
  split at h <;> first | (cases h; rfl) | cases h
theorem dKeys_some : ∀ {ds : List D} {ks : List Key}, dKeys? ds = some ks → ds = ks.map keyD
  | [], ks, h => by unfold dKeys? at h; cases h; rfl
  | d :: ds, ks, h => by
    unfold dKeys? at h
    split at h
    · rename_i k ks' e1 e2
      cases h
      rw [dKey_some e1, dKeys_some e2]; rfl
    · cases h
def dLook (kvs : List (D × D)) (k : D) : Option D := (kvs.find? fun p => D.eqv p.1 k).map (·.2)
def dPut (kvs : List (D × D)) (k d : D) : List (D × D) := if (kvs.any fun p => D.eqv p.1 k) = true then kvs.map (fun p => if D.eqv p.1 k = true then (p.1, d) else p) else kvs ++ [(k, d)]
def dDrop (kvs : List (D × D)) (k : D) : List (D × D) := kvs.filter fun p => !D.eqv p.1 k
section
variable {K : PySem.W.Frag} {W : Wm} {H : Hp}
theorem RepK.length : ∀ {kvs : List (D × D)} {ks : List (Key × V)}, RepK K W H kvs ks → kvs.length = ks.length
  | [], ks, h => by unfold RepK at h; subst h; rfl
  | (k, d) :: r, ks, h => by unfold RepK at h; obtain ⟨k', v, r', rfl, _, _, h2⟩ := h; simp [RepK.length h2]
theorem RepT.length : ∀ {kvs : List (D × D)} {ks : List (List Key × V)}, RepT K W H kvs ks → kvs.length = ks.length
  | [], ks, h => by unfold RepT at h; subst h; rfl
  | (k, d) :: r, ks, h => by unfold RepT at h; obtain ⟨k', v, r', rfl, _, _, h2⟩ := h; simp [RepT.length h2]
theorem RepK.look (k : Key) : ∀ {kvs : List (D × D)} {ks : List (Key × V)}, RepK K W H kvs ks → (∀ d, dLook kvs (keyD k) = some d → ∃ v, valV ks k = some v ∧ Rep K W H d v) ∧ (dLook kvs (keyD k) = none → valV ks k = none)
  | [], ks, h => by unfold RepK at h; subst h; exact ⟨fun d z => (by cases z), fun _ => rfl⟩
  | (q, d) :: r, ks, h => by
    unfold RepK at h
    obtain ⟨k', v, r', rfl, rfl, h1, h2⟩ := h
    by_cases e : k' = k
    · subst e
      have e1 : dLook ((keyD k', d) :: r) (keyD k') = some d := by simp [dLook, keyD_eqv]
      have e2 : valV ((k', v) :: r') k' = some v := valV_pos rfl
      exact ⟨fun d' z => (by rw [e1] at z; cases z; exact ⟨v, e2, h1⟩), fun z => (by rw [e1] at z; cases z)⟩
    · have e1 : dLook ((keyD k', d) :: r) (keyD k) = dLook r (keyD k) := by simp [dLook, keyD_eqv, e]
      have e2 : valV ((k', v) :: r') k = valV r' k := valV_neg e
      rw [e1, e2]
      exact RepK.look k h2
theorem RepT.look (k : List Key) : ∀ {kvs : List (D × D)} {ks : List (List Key × V)}, RepT K W H kvs ks → (∀ d, dLook kvs (.tup (k.map keyD)) = some d → ∃ v, valV ks k = some v ∧ Rep K W H d v) ∧ (dLook kvs (.tup (k.map keyD)) = none → valV ks k = none)
  | [], ks, h => by unfold RepT at h; subst h; exact ⟨fun d z => (by cases z), fun _ => rfl⟩
  | (q, d) :: r, ks, h => by
    unfold RepT at h
    obtain ⟨k', v, r', rfl, rfl, h1, h2⟩ := h
    by_cases e : k' = k
    · subst e
      have e1 : dLook ((.tup (k'.map keyD), d) :: r) (.tup (k'.map keyD)) = some d := by simp [dLook, D.eqv, keysD_eqv]
      have e2 : valV ((k', v) :: r') k' = some v := valV_pos rfl
      exact ⟨fun d' z => (by rw [e1] at z; cases z; exact ⟨v, e2, h1⟩), fun z => (by rw [e1] at z; cases z)⟩
    · have e1 : dLook ((.tup (k'.map keyD), d) :: r) (.tup (k.map keyD)) = dLook r (.tup (k.map keyD)) := by simp [dLook, D.eqv, keysD_eqv, e]
      have e2 : valV ((k', v) :: r') k = valV r' k := valV_neg e
      rw [e1, e2]
      exact RepT.look k h2
theorem any_isSome {kvs : List (D × D)} {k : D} : (kvs.any fun p => D.eqv p.1 k) = (dLook kvs k).isSome := by
  unfold dLook
  rw [Option.isSome_map, Bool.eq_iff_iff, List.find?_isSome, List.any_eq_true]
theorem RepK.append : ∀ {kvs : List (D × D)} {ks : List (Key × V)} {k : Key} {d : D} {v : V}, RepK K W H kvs ks → Rep K W H d v → RepK K W H (kvs ++ [(keyD k, d)]) (ks ++ [(k, v)])
  | [], ks, k, d, v, h, q => by
    unfold RepK at h; subst h
    show RepK K W H [(keyD k, d)] [(k, v)]
    unfold RepK
    exact ⟨k, v, [], rfl, rfl, q, by unfold RepK; rfl⟩
  | (k0, d0) :: r, ks, k, d, v, h, q => by
    unfold RepK at h
    obtain ⟨k', v', r', rfl, e, h1, h2⟩ := h
    show RepK K W H ((k0, d0) :: (r ++ [(keyD k, d)])) ((k', v') :: (r' ++ [(k, v)]))
    unfold RepK
    exact ⟨k', v', _, rfl, e, h1, RepK.append h2 q⟩
theorem RepK.repl {k : Key} {d : D} {v : V} (q : Rep K W H d v) : ∀ {kvs : List (D × D)} {ks : List (Key × V)}, RepK K W H kvs ks → RepK K W H (kvs.map fun p => if D.eqv p.1 (keyD k) = true then (p.1, d) else p) (ks.map fun kv => if kv.1 = k then (kv.1, v) else kv)
  | [], ks, h => by unfold RepK at h; subst h; unfold RepK; rfl
  | (k0, d0) :: r, ks, h => by
    unfold RepK at h
    obtain ⟨k', v', r', rfl, rfl, h1, h2⟩ := h
    have ih := RepK.repl (k := k) q h2
    rw [List.map_cons, List.map_cons]
    by_cases e : k' = k
    · subst e
      rw [if_pos (by rw [keyD_eqv]; simp), if_pos rfl]
      unfold RepK
      exact ⟨k', v, _, rfl, rfl, q, ih⟩
    · rw [if_neg (by rw [keyD_eqv]; simpa using e), if_neg e]
      unfold RepK
      exact ⟨k', v', _, rfl, rfl, h1, ih⟩
theorem RepK.put {kvs : List (D × D)} {ks : List (Key × V)} {k : Key} {d : D} {v : V} (h : RepK K W H kvs ks) (q : Rep K W H d v) : RepK K W H (dPut kvs (keyD k) d) (putK ks k v) := by
  have e : (kvs.any fun p => D.eqv p.1 (keyD k)) = (ks.any fun kv => decide (kv.1 = k)) := by
    rw [any_isSome, valV_any]
    have l := h.look k
    cases hl : dLook kvs (keyD k) with
    | none => rw [l.2 hl]; rfl
    | some d' => obtain ⟨v', e', _⟩ := l.1 _ hl; rw [e']; rfl
  unfold dPut putK
  rw [e]
  split
  · exact h.repl q
  · exact h.append q
theorem RepK.drop {k : Key} : ∀ {kvs : List (D × D)} {ks : List (Key × V)}, RepK K W H kvs ks → RepK K W H (dDrop kvs (keyD k)) (dropK ks k)
  | [], ks, h => by unfold RepK at h; subst h; unfold dDrop dropK; simp; unfold RepK; rfl
  | (k0, d0) :: r, ks, h => by
    unfold RepK at h
    obtain ⟨k', v', r', rfl, rfl, h1, h2⟩ := h
    have ih := RepK.drop (k := k) h2
    unfold dDrop dropK at ih ⊢
    by_cases e : k' = k
    · subst e
      rw [List.filter_cons_of_neg (by rw [keyD_eqv]; simp), List.filter_cons_of_neg (by simp)]
      exact ih
    · rw [List.filter_cons_of_pos (by rw [keyD_eqv]; simpa using e), List.filter_cons_of_pos (by simpa using e)]
      unfold RepK
      exact ⟨k', v', _, rfl, rfl, h1, ih⟩
theorem RepT.append : ∀ {kvs : List (D × D)} {ks : List (List Key × V)} {k : List Key} {d : D} {v : V}, RepT K W H kvs ks → Rep K W H d v → RepT K W H (kvs ++ [(.tup (k.map keyD), d)]) (ks ++ [(k, v)])
  | [], ks, k, d, v, h, q => by
    unfold RepT at h; subst h
    show RepT K W H [(.tup (k.map keyD), d)] [(k, v)]
    unfold RepT
    exact ⟨k, v, [], rfl, rfl, q, by unfold RepT; rfl⟩
  | (k0, d0) :: r, ks, k, d, v, h, q => by
    unfold RepT at h
    obtain ⟨k', v', r', rfl, e, h1, h2⟩ := h
    show RepT K W H ((k0, d0) :: (r ++ [(.tup (k.map keyD), d)])) ((k', v') :: (r' ++ [(k, v)]))
    unfold RepT
    exact ⟨k', v', _, rfl, e, h1, RepT.append h2 q⟩
theorem RepT.repl {k : List Key} {d : D} {v : V} (q : Rep K W H d v) : ∀ {kvs : List (D × D)} {ks : List (List Key × V)}, RepT K W H kvs ks → RepT K W H (kvs.map fun p => if D.eqv p.1 (.tup (k.map keyD)) = true then (p.1, d) else p) (ks.map fun kv => if kv.1 = k then (kv.1, v) else kv)
  | [], ks, h => by unfold RepT at h; subst h; unfold RepT; rfl
  | (k0, d0) :: r, ks, h => by
    unfold RepT at h
    obtain ⟨k', v', r', rfl, rfl, h1, h2⟩ := h
    have ih := RepT.repl (k := k) q h2
    rw [List.map_cons, List.map_cons]
    by_cases e : k' = k
    · subst e
      rw [if_pos (by simp [D.eqv, keysD_eqv]), if_pos rfl]
      unfold RepT
      exact ⟨k', v, _, rfl, rfl, q, ih⟩
    · rw [if_neg (by simpa [D.eqv, keysD_eqv] using e), if_neg e]
      unfold RepT
      exact ⟨k', v', _, rfl, rfl, h1, ih⟩
theorem RepT.put {kvs : List (D × D)} {ks : List (List Key × V)} {k : List Key} {d : D} {v : V} (h : RepT K W H kvs ks) (q : Rep K W H d v) : RepT K W H (dPut kvs (.tup (k.map keyD)) d) (putK ks k v) := by
  have e : (kvs.any fun p => D.eqv p.1 (.tup (k.map keyD))) = (ks.any fun kv => decide (kv.1 = k)) := by
    rw [any_isSome, valV_any]
    have l := h.look k
    cases hl : dLook kvs (.tup (k.map keyD)) with
    | none => rw [l.2 hl]; rfl
    | some d' => obtain ⟨v', e', _⟩ := l.1 _ hl; rw [e']; rfl
  unfold dPut putK
  rw [e]
  split
  · exact h.repl q
  · exact h.append q
/-- a key as it stands -/
theorem rep_key {k : Key} {v : V} : Rep K W H (keyD k) v ↔ v = kV k := by
  cases k with
  | inl i => exact rep_int
  | inr x => exact rep_str
theorem reps_keys : ∀ {ks : List Key} {vs : List V}, Reps K W H (ks.map keyD) vs → vs = ks.map kV
  | [], vs, h => by simpa [Reps] using h
  | k :: ks, vs, h => by
    rw [List.map_cons] at h
    unfold Reps at h
    obtain ⟨v, r, rfl, h1, h2⟩ := h
    rw [rep_key.mp h1, reps_keys h2]; rfl
end
/-- does a key fit a dict's kind? -/
def keyOk (t : Bool) (k : D) : Bool := if t = true then (match k with
  | .tup ks => (dKeys? ks).isSome
  | _ => false) else (dKey? k).isSome
section
variable {K : PySem.W.Frag} {W : Wm} {H : Hp}
theorem keyOk_K {k : D} {y : V} (h : keyOk false k = true) (hk : Rep K W H k y) : ∃ q : Key, k = keyD q ∧ y = kV q := by
  unfold keyOk at h
  rw [if_neg Bool.false_ne_true, Option.isSome_iff_exists] at h
  obtain ⟨q, e⟩ := h
  have e := dKey_some e
  subst e
  exact ⟨q, rfl, rep_key.mp hk⟩
theorem keyOk_T {k : D} {y : V} (h : keyOk true k = true) (hk : Rep K W H k y) : ∃ (q : List Key) (b : Addr), k = .tup (q.map keyD) ∧ y = .ref b ∧ H b = some (.tup (q.map kV)) ∧ W b = none := by
  unfold keyOk at h
  rw [if_pos rfl] at h
  cases k with
  | tup ks =>
    dsimp only at h
    rw [Option.isSome_iff_exists] at h
    obtain ⟨q, e⟩ := h
    have e := dKeys_some e
    subst e
    obtain ⟨b, vs, rfl, tb, r⟩ := rep_tup.mp hk
    rw [reps_keys r] at tb
    exact ⟨q, b, rfl, rfl, tb.2, tb.1⟩
  | _ => cases h
/-- the layer's look-up, by contents -/
theorem dget_of {c : Dc} {a : Addr} {k : D} {y : V} (hd : (∃ ks, Rd H a (.dK ks) ∧ RepKc K W H c ks) ∨ ∃ ks, Rd H a (.dT ks) ∧ RepTc K W H c ks) (hk : Rep K W H k y) (hf : keyOk c.1 k = true) :
    ∃ o, DGet H a y o ∧ (∀ d, dLook c.2 k = some d → ∃ v, o = some v ∧ Rep K W H d v) ∧ (dLook c.2 k = none → o = none) := by
  rcases hd with ⟨ks, z, ct, q⟩ | ⟨ks, z, ct, q⟩
  · rw [ct] at hf
    obtain ⟨k', rfl, rfl⟩ := keyOk_K hf hk
    have l := q.look k'
    exact ⟨valV ks k', .inl ⟨ks, k', z, rfl, rfl⟩, l.1, l.2⟩
  · rw [ct] at hf
    obtain ⟨k', b, rfl, rfl, hb, _⟩ := keyOk_T hf hk
    have l := q.look k'
    exact ⟨valV ks k', .inr ⟨ks, k', b, z, rfl, hb, rfl⟩, l.1, l.2⟩
end
/-! ### d[k], k in d -/
section
variable {T : List (Addr × Str)} {X : Cx} {Wx : WX} {κ κ' κa κb κi κe : Bool} {a b e i o : Expr} {ma mb mi : M D} {pos p tpos pos' apos cpos : Pos} {R1 R2 : Wm → Hp → D → V → Prop}
def dItem (d k : D) : Option D := match d with
  | .dct c => if keyOk c.1 k = true then dLook c.2 k else none
  | _ => none
/-- in and not in: a list, a tuple, a dict, a text -/
theorem op_inDict (hu : X.A.units + 1 < cLine) : OpR X (compareOp .In) (fun x y H Q => ∃ a o, y = .ref a ∧ DGet H a x o ∧ Q (.bl o.isSome) H) := by
  intro pins s σ H x y v u Q I rx ry ⟨a, o, ey, g, q⟩
  subst ey
  cases ry
  exact d_in hu I g rx fun s' I' => ⟨.bl _, H, I', rfl, q⟩
def subStr (x y : Str) : Bool := !(Builtin.Str.occurrences y x 0 y.length 1).isEmpty
def isIn (x y : D) : Option Bool := match y with
  | .lst xs => if okN 59 x = true ∧ xs.all (okN 59) = true then some (xs.any fun z => D.eqv z x) else none
  | .tup xs => if okN 59 x = true ∧ xs.all (okN 59) = true then some (xs.any fun z => D.eqv z x) else none
  | .ptp xs => if okN 59 x = true ∧ xs.all (okN 59) = true then some (xs.any fun z => D.eqv z x) else none
  | .dct c => if keyOk c.1 x = true then some (dLook c.2 x).isSome else none
  | .str z => match x with
    | .str w => some (subStr w z)
    | _ => none
  | _ => none
def dIn (x y : D) : Option D := (isIn x y).map .bl
def dNotIn (x y : D) : Option D := (isIn x y).map fun b => .bl !b
def rInAll (K : PySem.W.Frag) : L2.R2 := fun x y H Q => rInW K false x y H Q ∨ (∃ a o, y = .ref a ∧ DGet H a x o ∧ Q (.bl o.isSome) H) ∨ ∃ i j, x = .str i ∧ y = .str j ∧ Q (.bl (!(Builtin.Str.occurrences j i 0 j.length 1).isEmpty)) H
theorem op_inAll (hu : X.A.units + 64 < cLine) : OpR X (compareOp .In) (rInAll X.K) := (op_inW hu).or ((op_inDict (by omega)).or op_in_str)
theorem in_read {W : Wm} {H : Hp} {x y : V} {d e : D} {b : Bool} (h1 : Rep X.K W H d x) (h2 : CRep X.K W H e y) (h : isIn d e = some b) :
    (okN 59 d = true ∧ ∃ xs, (∀ z ∈ xs, okN 59 z = true) ∧ (Rep X.K noW H (.lst xs) y ∨ Rep X.K noW H (.tup xs) y ∨ Rep X.K noW H (.ptp xs) y) ∧ Rep X.K noW H d x ∧ b = xs.any fun z => D.eqv z d) ∨ (∃ a o, y = .ref a ∧ DGet H a x o ∧ b = o.isSome) ∨ ∃ i j, x = .str i ∧ y = .str j ∧ b = subStr i j := by
  unfold isIn at h
  cases e with
  | lst xs =>
    dsimp only at h
    split at h
    · rename_i o
      cases h
      refine .inl ⟨o.1, xs, List.all_eq_true.mp o.2, .inl ?_, rep_data _ _ _ o.1 h1, rfl⟩
      exact cur_data (n := 60) (by unfold okN; exact o.2) h2
    · cases h
  | tup xs =>
    dsimp only at h
    split at h
    · rename_i o
      cases h
      refine .inl ⟨o.1, xs, List.all_eq_true.mp o.2, .inr (.inl ?_), rep_data _ _ _ o.1 h1, rfl⟩
      exact cur_data (n := 60) (by unfold okN; exact o.2) h2
    · cases h
  | ptp xs =>
    dsimp only at h
    split at h
    · rename_i o
      cases h
      refine .inl ⟨o.1, xs, List.all_eq_true.mp o.2, .inr (.inr ?_), rep_data _ _ _ o.1 h1, rfl⟩
      exact cur_data (n := 60) (by unfold okN; exact o.2) h2
    · cases h
  | dct c =>
    dsimp only at h
    split at h
    · rename_i hf
      cases h
      obtain ⟨ad, rfl, hd⟩ := CRep.dct h2
      obtain ⟨o, g, g1, g2⟩ := dget_of hd h1 hf
      refine .inr (.inl ⟨ad, o, rfl, g, ?_⟩)
      cases el : dLook c.2 d with
      | none => rw [g2 el]; rfl
      | some d' => obtain ⟨v', rfl, _⟩ := g1 _ el; rfl
    · cases h
  | str z =>
    dsimp only at h
    cases d with
    | str w => cases h; exact .inr (.inr ⟨w, z, rep_str.mp h1, CRep.str h2, rfl⟩)
    | _ => cases h
  | _ => cases h
theorem op2_in : Op2 true (RepR X) (CurR X) (RepR X) T X Wx (rInAll X.K) (pure2 dIn) := by
  intro W H env st σ x y d1 d2 Q rl h1 h2 hp
  unfold pure2 dIn at hp
  cases e : isIn d1 d2 with
  | none => rw [e] at hp; exact hp.elim
  | some b =>
    rw [e] at hp
    have hq : Q (.bl b) H := hp.ok rl (rep_bl.mpr rfl)
    rcases in_read h1 h2 e with ⟨o, xs, ox, hy, hx, rfl⟩ | ⟨a, o, ey, g, rfl⟩ | ⟨i, j, ex, ey, rfl⟩
    · exact .inl ⟨d1, xs, o, ox, hx, hy, hq⟩
    · exact .inr (.inl ⟨a, o, ey, g, hq⟩)
    · exact .inr (.inr ⟨i, j, ex, ey, hq⟩)
theorem Op2.low2 {α : Type} {R0 : Wm → Hp → D → V → Prop} {R3 : Wm → Hp → α → V → Prop} {r : L2.R2} {f : D → D → Sto → Res α} (o : Op2 true R0 (CurR X) R3 T X Wx r f) (c2 : ToCur X R2) : Op2 true R0 R2 R3 T X Wx r f :=
  fun W H env st σ x y d1 d2 Q rl h1 h2 hp => o W H env st σ x y d1 d2 Q rl h1 (c2 _ _ _ _ h2) hp
theorem ev_in (hu : X.A.units + 64 < cLine) (ha : EV κ T X Wx a ma) (hb : EVg κ' R2 T X Wx b mb) (hm : behindInMarks .In b = false := by rfl) (c2 : ToCur X R2 := by first | exact ToCur.rep | exact ToCur.held | exact ToCur.cur) : EV (κ && κ') T X Wx (.Compare a [.In] [b] pos) (mBin ma mb (pure2 dIn)) := ev_cmpR (op_inAll hu) Stands.rep (op2_in.low2 c2) hm ha hb
/-! ### places written -/
theorem PostP.bindS {m : Res Tag} {f : Tag → Sto → Out} {W : Wm} {H : Hp} {env : Env} {σ : L2.St} {D' : Ends} {Q : V → Hp → Prop} (h : SPost (Gof X T) Wx W H (m.out env f) D')
    (k : ∀ t st' W' H' ad, Ext κ W H W' H' → Rel (Gof X T) W' H' env st' σ → (∀ W2 H2 st2, Ext κe W' H' W2 H2 → Rel (Gof X T) W2 H2 env st2 σ → PlaceAt (Gof X T) W2 H2 st2 σ t ad) → SPost (Gof X T) Wx W' H' (f t st') D' → Q (.ref ad) H') : PostP κ κe (Gof X T) Wx W H env σ m Q := by
  cases m with
  | ok t st => exact fun W' H' ad e r pl => k t st W' H' ad e r pl (SPost.ext h e.s)
  | exc x st => exact fun W' H' c d e r q => h W' H' c d σ e.s r q
  | bad => exact h
def nxOf (z : Env × Sto) : Out := .nx z.1 z.2
/-- P.append(e) -/
def sAppend (pl : M Tag) (m : M D) : Sm := fun env st => (pl env st).out env fun t st1 => if (contL t env st1).isSome = true then (m env st1).out env fun d st2 => match contL t env st2 with
  | some ds => if ds.length < 1000000 then nxOf (setL t (ds ++ [d]) env st2) else .bad
  | none => .bad
  else .bad
/-- P[i] = e, a list -/
def sSetIx (pl : M Tag) (mi m : M D) : Sm := fun env st => (m env st).out env fun d st1 => (pl env st1).out env fun t st2 => (mi env st2).out env fun i st3 => match contL t env st3, i with
  | some ds, .int k => match ixN ds.length k with
    | some j => nxOf (setL t (ds.set j d) env st3)
    | none => .bad
  | _, _ => .bad
theorem sv_setix {pl : M Tag} (hp : PlV κ κi T X Wx a pl) (hi : EV κi T X Wx i mi) (he : EV κ' T X Wx e ma) (ha : ∀ v, assign (.Subscript a i pos') X.env v = (holding [v] (eval a X.env) >>= fun ov => holding [v, ov] (eval i X.env) >>= fun iv => standAt pos' >>= fun _ => holding [v, ov, iv] (setItem ov iv v) >>= fun _ => release [v, ov, iv] []) := by intro _; rfl)
    (hs : swapsWithSole [.Subscript a i pos'] e pos.line X.env = pure false := by rfl) (hw : swappedStores [.Subscript a i pos'] e X.env = pure none := by rfl) (h1 : (assignEach [.Subscript a i pos'] X.env).map (·.2) = [assign (.Subscript a i pos') X.env] := by rfl) : SV T X Wx (.Assign [.Subscript a i pos'] e pos) (sSetIx pl mi ma) := by
  obtain ⟨tp, pp, rp⟩ := hp.ex
  obtain ⟨ti, pi, ri⟩ := hi.ex
  obtain ⟨te, pe, re⟩ := he.ex
  refine ⟨_, ps_asg pe (pg_sub pp pi set_list ha) hs hw h1, fun W H env st σ D rl h => re _ _ _ _ _ _ rl (SPost.of h fun d st1 W1 H1 v e1 r1 q1 h1 => rp _ _ _ _ _ _ r1 (PostP.bindS h1 fun t st2 W2 H2 ad e2 r2 pl2 h2 => ri _ _ _ _ _ _ r2 (SPost.of h2 fun di st3 W3 H3 vi e3 r3 q3 h3 => ?_)))⟩
  split at h3
  · rename_i ds k ec
    split at h3
    · rename_i j ej
      have p3 := pl2 _ _ _ e3 r3
      obtain ⟨_, vs, hv, hr⟩ := place_lst r3 p3 ec
      obtain ⟨r4, e4⟩ := place_updL r3 p3 ec (hr.set j (Rep.mono e3.mo _ _ (Rep.mono e2.mo _ _ q1)))
      exact ⟨ad, vs, k, j, rfl, rep_int.mp q3, hv, by rw [← hr.length]; exact ej, h3 _ _ _ e4 r4⟩
    · exact h3.elim
  · exact h3.elim
/-- P[k] = e, a dict -/
def sPut (pl : M Tag) (mi m : M D) : Sm := fun env st => (m env st).out env fun d st1 => (pl env st1).out env fun t st2 => (mi env st2).out env fun k st3 => match contD t env st3 with
  | some c => if keyOk c.1 k = true ∧ c.2.length < 1000000 then nxOf (setDc t (c.1, dPut c.2 k d) env st3) else .bad
  | none => .bad
/-- P[k] op= e, a dict -/
def sPutAug (op : D → D → Option D) (pl : M Tag) (mi m : M D) : Sm := fun env st => (pl env st).out env fun t st1 => (mi env st1).out env fun k st2 => match contD t env st2 with
  | some c => if keyOk c.1 k = true ∧ c.2.length < 1000000 then match dLook c.2 k with
    | some dv => (m env st2).out env fun y st3 => match op dv y, contD t env st3 with
      | some z, some c3 => if keyOk c3.1 k = true ∧ c3.2.length < 1000000 then nxOf (setDc t (c3.1, dPut c3.2 k z) env st3) else .bad
      | _, _ => .bad
    | none => .bad
    else .bad
  | none => .bad
/-- del P[k], a dict of plain keys -/
def sDel (pl : M Tag) (mi : M D) : Sm := fun env st => (pl env st).out env fun t st1 => (mi env st1).out env fun k st2 => match contD t env st2 with
  | some c => if c.1 = false ∧ keyOk false k = true ∧ (dLook c.2 k).isSome = true then nxOf (setDc t (c.1, dDrop c.2 k) env st2) else .bad
  | none => .bad
end
end Ev
set_option autoImplicit true
set_option maxRecDepth 100000
set_option maxHeartbeats 4000000
/-! errors raised; a lambda handed to the def that calls it and tells its error -/
namespace Ev
open PySem PySem.Spec PyProof.Rows L2
section
variable {G : Gx} {W : Wm} {H H1 : Hp} {env : Env} {st : Sto} {σ : L2.St} {κ : Bool}
theorem ext_extN (s : StoOk G W H st) (e : LamX.ExtN H H1) : Ext κ W H W H1 where
  fr := fun a o h q n => ⟨h, e a o q n⟩
  ob := fun _ _ h => h
  hl := fun a t h _ => ⟨h, by
    obtain ⟨o, q, n⟩ := s.used a t h
    rw [q]; exact e a o q n⟩
  th := fun a o q n => ⟨o, e a o q n, n⟩
theorem Rel.extN (r : Rel G W H env st σ) (e : LamX.ExtN H H1) (tb : Tb G.mg G.T H1) : Rel G W H1 env st σ :=
  r.ofSto (κ := true) (ext_extN r.sto e) (r.sto.more (ext_extN (κ := true) r.sto e).mo (fun a t h => ⟨h, ((ext_extN (κ := true) r.sto e).hl a t h rfl).2⟩) (fun _ _ _ h => h) tb)
end
/-! ### raise -/
def sRaise (cls : Str) (m : M (List D)) : Sm := fun env st => (m env st).out env fun _ st' => .xc ⟨cls, []⟩ env st'
section
variable {T : List (Addr × Str)} {X : Cx} {Wx : WX} {κ κ' : Bool} {a e : Expr} {es : List Expr} {ma : M D} {n : M (List D)} {x cls : Str} {p p2 pos pos2 : Pos} {C : Addr} {bmB : List Value} {B newId initId : String}
/-- raise X('..') -/
theorem sv_raiseS {m : Str} {j : Nat} (hc : X.calm = true) (tk : Takes X Wx) (F : ExcBaseFacts B newId initId bmB) (q : PySem.W.excIn X.K C bmB newId = true) (gC : X.mg cls = some (.ref C)) (kC : PySem.W.keepIn X.K (.ref C) = true) (r : Raises X (.ref C)) (hg : Gl X cls) (hdb : (cls == ("__debug__" : Str)) = false := by decide) :
    SV T X Wx (.Raise (some (.Call (.Name cls p) [.Constant (.str m) j p2] [] pos)) none pos2) (sRaise cls mNil) :=
  ⟨_, ps_raise hc tk (L2.pmk_own F q gC kC r hg hdb), fun W H env st σ D rl h => h W H (.ref C) none σ ExtS.refl rl ⟨C, rfl, gC, .inl ⟨rfl, rfl⟩⟩⟩
end
/-! ### told -/
/-- the clauses by names: the first that takes the class -/
def wordFor (ts : Str → Str → Bool) (c : Str) : List (Str × Str) → Option Str
  | [] => none
  | (x, r) :: l => if ts c x = true then some r else wordFor ts c l
def mTold (ts : Str → Str → Bool) (ws : List (Str × Str)) (m : M D) : M D := fun env st => match m env st with
  | .ok d st' => .ok d st'
  | .exc x st' => match wordFor ts x.cls ws with
    | some r => .ok (.str r) st'
    | none => .bad
  | .bad => .bad
end Ev
set_option autoImplicit true
set_option maxRecDepth 100000
set_option maxHeartbeats 4000000
/-! built-ins by value -/
namespace Ev
open PySem PySem.Spec PyProof.Rows L2
/-! ### readings -/
def dInts : List D → Option (List Int)
  | [] => some []
  | .int i :: r => (dInts r).map (i :: ·)
  | _ :: _ => none
theorem reps_dInts {K : PySem.W.Frag} {W : Wm} {H : Hp} : ∀ {ds : List D} {vs : List V} {ns : List Int}, Reps K W H ds vs → dInts ds = some ns → vs = ns.map V.int
  | [], vs, ns, h, e => by
    unfold dInts at e; cases e
    unfold Reps at h; exact h
  | .int i :: r, vs, ns, h, e => by
    unfold dInts at e
    cases er : dInts r with
    | none => rw [er] at e; cases e
    | some ms =>
      rw [er] at e; cases e
      unfold Reps at h
      obtain ⟨v, us, rfl, h1, h2⟩ := h
      rw [rep_int.mp h1, reps_dInts h2 er]; rfl
  | .bl _ :: _, _, _, _, e => by simp [dInts] at e
  | .non :: _, _, _, _, e => by simp [dInts] at e
  | .str _ :: _, _, _, _, e => by simp [dInts] at e
  | .tup _ :: _, _, _, _, e => by simp [dInts] at e
  | .lst _ :: _, _, _, _, e => by simp [dInts] at e
  | .dct _ :: _, _, _, _, e => by simp [dInts] at e
  | .loc _ :: _, _, _, _, e => by simp [dInts] at e
  | .own _ :: _, _, _, _, e => by simp [dInts] at e
  | .ownd _ :: _, _, _, _, e => by simp [dInts] at e
  | .lkd _ :: _, _, _, _, e => by simp [dInts] at e
  | .nst _ :: _, _, _, _, e => by simp [dInts] at e
  | .ptp _ :: _, _, _, _, e => by simp [dInts] at e
/-- the contents of a list -/
def dL (d : D) (st : Sto) : Option (List D) := match d with
  | .lst xs => some xs
  | .loc n => match st[n]? with
    | some (.ls xs) => some xs
    | _ => none
  | _ => none
/-- of a list or a tuple -/
def dS (d : D) (st : Sto) : Option (List D) := match d with
  | .tup xs => some xs
  | d => dL d st
section
variable {T : List (Addr × Str)} {X : Cx} {Wx : WX} {κ κ' κa κb κc : Bool} {a b c e : Expr} {ma mb mc : M D} {pos p : Pos} {R1 R2 R4 : Wm → Hp → D → V → Prop}
theorem dL_read {W : Wm} {H : Hp} {env : Env} {st : Sto} {σ : L2.St} {d : D} {x : V} {ds : List D} (rl : Rel (Gof X T) W H env st σ) (h : CRep X.K W H d x) (e : dL d st = some ds) : ∃ a vs, x = .ref a ∧ SqL X.K H a vs ∧ Reps X.K W H ds vs := by
  unfold dL at e
  split at e
  · cases e; exact CRep.lst h
  · split at e
    · rename_i es
      cases e
      obtain ⟨a, rfl, w⟩ := CRep.loc h
      obtain ⟨vs, l, r⟩ := rl.ls w es
      exact ⟨a, vs, rfl, .of l, r⟩
    · cases e
  · cases e
theorem dS_read {W : Wm} {H : Hp} {env : Env} {st : Sto} {σ : L2.St} {d : D} {x : V} {ds : List D} (rl : Rel (Gof X T) W H env st σ) (h : CRep X.K W H d x) (e : dS d st = some ds) : ∃ a vs, x = .ref a ∧ (SqL X.K H a vs ∨ SqT X.K H a vs) ∧ Reps X.K W H ds vs := by
  unfold dS at e
  split at e
  · cases e
    obtain ⟨a, vs, h1, h2, h3⟩ := CRep.tup h
    exact ⟨a, vs, h1, .inr h2, h3⟩
  · obtain ⟨a, vs, h1, h2, h3⟩ := dL_read rl h e
    exact ⟨a, vs, h1, .inl h2, h3⟩
theorem op1_of {f : D → Sto → Option D} {r : V → Hp → VK → Prop} (h : ∀ W H env st σ x d1 d Q, Rel (Gof X T) W H env st σ → CRep X.K W H d1 x → f d1 st = some d → (∀ v, Rep X.K W H d v → Q v H) → r x H Q) : Op1 (CurR X) (RepR X) T X Wx r (fun d st => Res.of (f d st) st) := by
  intro W H env st σ x d1 Q rl h1 hp
  dsimp only at hp
  cases e : f d1 st with
  | none => rw [e] at hp; exact hp.elim
  | some d => rw [e] at hp; exact h W H env st σ x d1 d Q rl h1 e fun v q => hp.ok rl q
/-! ### len -/
def dLen (d : D) (st : Sto) : Option D := match d with
  | .ptp xs => some (.int xs.length)
  | .str z => if z.length ≤ sizeLine then some (.int z.length) else none
  | d => (dS d st).map fun xs => .int xs.length
theorem op1_len : Op1 (CurR X) (RepR X) T X Wx (fun x H Q => ∃ y n, [x] = [y] ∧ LenV X.K y H n ∧ Q (.int n) H) (fun d st => Res.of (dLen d st) st) := op1_of fun W H env st σ x d1 d Q rl h1 e q => by
  unfold dLen at e
  split at e
  · cases e
    obtain ⟨a, vs, rfl, h2, h3⟩ := CRep.ptp h1
    exact ⟨_, _, rfl, .inr ⟨vs, h2.sq, h3.length⟩, q _ (rep_int.mpr rfl)⟩
  · split at e
    · rename_i hz
      cases e
      rw [CRep.str h1]
      exact ⟨_, _, rfl, ⟨hz, rfl⟩, q _ (rep_int.mpr rfl)⟩
    · cases e
  · cases ed : dS d1 st with
    | none => rw [ed] at e; cases e
    | some ds =>
      rw [ed] at e; cases e
      obtain ⟨a, vs, rfl, h2, h3⟩ := dS_read rl h1 ed
      refine ⟨_, ds.length, rfl, ?_, q _ (rep_int.mpr rfl)⟩
      rcases h2 with h2 | h2
      · exact .inl ⟨vs, h2, h3.length⟩
      · exact .inr ⟨vs, h2, h3.length⟩
theorem ev_len {f : Pos} (hg : Gl X "len") (hm : X.mg "len" = none) (ha : EVg κ R1 T X Wx a ma) (c1 : ToCur X R1 := by first | exact ToCur.rep | exact ToCur.held | exact ToCur.cur)
    (he : starEach (a :: []) X.env = (false, eval a X.env) :: starEach [] X.env := by rfl) (hpl : (backTo pos (starEach [] X.env)).any (·.1) = false := by rfl) : EV κ T X Wx (.Call (.Name "len" f) [a] [] pos) (mUn ma fun d st => Res.of (dLen d st) st) :=
  ev_callB call_len op1_len hg hm rfl ha c1 (by decide) (by decide) he hpl
/-! ### abs, int, str -/
def dAbs (d : D) (_ : Sto) : Option D := match d with
  | .int i => some (.int (if i < 0 then -i else i))
  | _ => none
theorem ev_abs {f : Pos} (hg : Gl X "abs") (hm : X.mg "abs" = none) (ha : EVg κ R1 T X Wx a ma) (c1 : ToCur X R1 := by first | exact ToCur.rep | exact ToCur.held | exact ToCur.cur)
    (he : starEach (a :: []) X.env = (false, eval a X.env) :: starEach [] X.env := by rfl) (hpl : (backTo pos (starEach [] X.env)).any (·.1) = false := by rfl) : EV κ T X Wx (.Call (.Name "abs" f) [a] [] pos) (mUn ma fun d st => Res.of (dAbs d st) st) :=
  ev_callB call_abs (op1_of fun W H env st σ x d1 d Q rl h1 e q => by
    unfold dAbs at e
    split at e
    · cases e; rw [CRep.int h1]; exact ⟨_, rfl, q _ (rep_int.mpr rfl)⟩
    · cases e) hg hm rfl ha c1 (by decide) (by decide) he hpl
/-! ### sum, min, max -/
/-- min(a, b), max(a, b) -/
def fMin2 : List D → Sto → Res D
  | [.int i, .int j], st => .ok (.int (if j < i then j else i)) st
  | _, _ => .bad
def fMax2 : List D → Sto → Res D
  | [.int i, .int j], st => .ok (.int (if j > i then j else i)) st
  | _, _ => .bad
theorem reps_ii {K : PySem.W.Frag} {W : Wm} {H : Hp} {i j : Int} {vs : List V} (h : Reps K W H [.int i, .int j] vs) : vs = [.int i, .int j] := reps_dInts (ns := [i, j]) h rfl
theorem ev_min2 {f : Pos} {n : M (List D)} (hc : X.calm = true) (hg : Gl X "min") (hm : X.mg "min" = none) (ha : AV κ T X Wx [a, b] n)
    (he : starEach (a :: [b]) X.env = (false, eval a X.env) :: starEach [b] X.env := by rfl) (hpl : (backTo pos (starEach [b] X.env)).any (·.1) = false := by rfl) : EV κ T X Wx (.Call (.Name "min" f) [a, b] [] pos) (mUn n fMin2) :=
  ev_callBs (call_min2 hc) (fun W H env st σ vs ds Q rl r h => by
    unfold fMin2 at h
    split at h
    · rw [reps_ii r]; exact ⟨_, _, rfl, h.ok rl (rep_int.mpr rfl)⟩
    · exact h.elim) hg hm rfl ha (by decide) (by decide) he hpl
/-! ### tuple(xs), list(xs) -/
end
end Ev
set_option autoImplicit true
set_option maxRecDepth 100000
set_option maxHeartbeats 4000000
/-! int(), new lists by call and by operator, slices, methods of texts, tuples put together, dict(pairs) -/
namespace Ev
open PySem PySem.Spec PyProof.Rows L2
theorem q_add_lists (l b : Addr) (items items2 : Array Value) (n n2 : Nat) (sl sl2 : Array (Option Value)) (hz : items.size + items2.size ≤ sizeLine) :
    Meets (Builtin.«list.__add__» ⟨[.ref l, .ref b], []⟩) (fun _ R s => s.heap.get? l = some { cls := .type "list", dict := none, data := .seq items n, slots := sl } ∧ s.heap.get? b = some { cls := .type "list", dict := none, data := .seq items2 n2, slots := sl2 } ∧
      R (.ok (.ret (Value.ref s.heap.objs.size))) { s with heap := s.heap.push { cls := Value.type "list", data := Data.seq (items ++ items2) } }) :=
  .of_wp fun prog w A R s h => by
    obtain ⟨hp, g, d, tk, os⟩ := s; obtain ⟨hl, hb, h⟩ := h; have f1 := PySem.AutoSeq1.idx_int; have f3 := PySem.AutoSeq1.sub_list_list
    wp_walk using PySem.AutoSeq1.wpAny_loadPart' hl, PySem.AutoSeq1.wpAny_loadPart' hb; exact ⟨_, rfl, h⟩
section
variable {T : List (Addr × Str)} {X : Cx} {Wx : WX} {κ κ' κa κb κc : Bool} {a b c e : Expr} {ma mb mc : M D} {pos p : Pos} {R1 R2 R4 : Wm → Hp → D → V → Prop}
/-- list + list, any two -/
theorem op_catL : OpR X (binaryOp .Add) (fun x y H Q => ∃ l b xs zs, x = .ref l ∧ y = .ref b ∧ SqL X.K H l xs ∧ SqL X.K H b zs ∧ xs.length + zs.length ≤ sizeLine ∧ ∀ p, H p = none → Q (.ref p) (upd H p (.lst (xs ++ zs)))) := by
  intro pins s σ H x y v u Q I rx ry h
  obtain ⟨l, b, xs, zs, rfl, rfl, hH, hB, hz, q⟩ := h
  cases rx
  cases ry
  obtain ⟨its, r, ⟨⟨cls, dd, data, sl⟩, n, ho, hc, hd, hs⟩, _⟩ := I.list hH
  obtain ⟨its2, r2, ⟨⟨cls2, dd2, data2, sl2⟩, n2, ho2, hc2, hd2, hs2⟩, _⟩ := I.list hB
  have e1 : cls = Value.type "list" := hc
  have e2 : data = Data.seq its.toArray n := hs
  have e3 : cls2 = Value.type "list" := hc2
  have e4 : data2 = Data.seq its2.toArray n2 := hs2
  have e5 : dd = none := hd
  have e6 : dd2 = none := hd2
  subst e1 e2 e3 e4 e5 e6
  have hl := r.length
  have hl2 := r2.length
  refine concat_meets ⟨_, ho, rfl⟩ ⟨_, ho2, rfl⟩ noFill_list_add seq_list_add F.slot_list_add F.entry_list_add (F.args_list_add_2 _ _) (q_add_lists l b its.toArray its2.toArray n n2 sl sl2 (by rw [List.size_toArray, List.size_toArray]; omega)) ⟨ho, ho2, ?_⟩
  have ea : its.toArray ++ its2.toArray = (its ++ its2).toArray := by simp
  rw [ea]
  exact ⟨.ref _, _, I.lnew (t' := s.toks) (r.append r2) (by rw [List.length_append]; omega), rfl, q _ I.fresh⟩
/-! ### int() -/
def dInt (d : D) (_ : Sto) : Option D := match d with
  | .int i => some (.int i)
  | .bl k => some (.int (if k then 1 else 0))
  | .str z => if z.length ≤ 640 then (PySem.intText? z).map .int else none
  | _ => none
theorem ev_int1 {f : Pos} (hg : Gl X "int") (hm : X.mg "int" = none) (ha : EVg κ R1 T X Wx a ma) (c1 : ToCur X R1 := by first | exact ToCur.rep | exact ToCur.held | exact ToCur.cur)
    (he : starEach (a :: []) X.env = (false, eval a X.env) :: starEach [] X.env := by rfl) (hpl : (backTo pos (starEach [] X.env)).any (·.1) = false := by rfl) : EV κ T X Wx (.Call (.Name "int" f) [a] [] pos) (mUn ma fun d st => Res.of (dInt d st) st) :=
  ev_callTy (call_int1.or call_int_str) (op1_of fun W H env st σ x d1 d Q rl h1 e q => by
    unfold dInt at e
    split at e
    · cases e; rw [CRep.int h1]; exact .inl (.inl ⟨_, rfl, q _ (rep_int.mpr rfl)⟩)
    · cases e; rw [CRep.bl h1]; exact .inl (.inr ⟨_, rfl, q _ (rep_int.mpr rfl)⟩)
    · split at e
      · rename_i z hz
        cases ei : PySem.intText? z with
        | none => rw [ei] at e; cases e
        | some i => rw [ei] at e; cases e; rw [CRep.str h1]; exact .inr ⟨z, i, rfl, ei, hz, q _ (rep_int.mpr rfl)⟩
      · cases e
    · cases e) hg hm rfl ha c1 (by decide) (by decide) he hpl
/-! ### new lists -/
def Op2N {α β γ : Type} (R1 : Wm → Hp → α → V → Prop) (R2 : Wm → Hp → β → V → Prop) (C : Wm → Hp → γ → Addr → Prop) (T : List (Addr × Str)) (X : Cx) (Wx : WX) (r : L2.R2) (f : α → β → Sto → Res γ) : Prop :=
  ∀ W H env st σ x y d1 d2 Q, Rel (Gof X T) W H env st σ → R1 W H d1 x → R2 W H d2 y → PostN true C (Gof X T) Wx W H env σ (f d1 d2 st) Q → r x y H Q
theorem nv_op {α β γ : Type} {R1 : Wm → Hp → α → V → Prop} {R2 : Wm → Hp → β → V → Prop} {C : Wm → Hp → γ → Addr → Prop} {na : M α} {nb : M β} {op : Operator} {r : L2.R2} {f : α → β → Sto → Res γ} (ho : OpR X (binaryOp op) r) (S : Stands κb R1) (o : Op2N R1 R2 C T X Wx r f) (ha : EVg κa R1 T X Wx a na) (hb : EVg κb R2 T X Wx b nb) : FV (κa && κb) C T X Wx (.BinOp a op b pos) (mBin na nb f) := by
  obtain ⟨ta, pa, ra⟩ := ha.ex
  obtain ⟨tb, pb, rb⟩ := hb.ex
  exact ⟨_, pe_op ho pa pb, fun W H env st σ Q rl h => ra _ _ _ _ _ _ rl (PostN.bind (R := R1) h and21 fun x st1 W1 H1 v e1 r1 q1 h1 => rb _ _ _ _ _ _ r1 (PostN.bind (R := R2) h1 and22 fun y st2 W2 H2 u e2 r2 q2 h2 =>
    o W2 H2 env st2 σ v u x y Q r2 (S _ _ _ _ _ _ e2 q1) q2 (h2.weak fun _ => rfl)))⟩
theorem newLst {W : Wm} {H : Hp} {env : Env} {st : Sto} {σ : L2.St} {Q : VK} {ds : List D} {vs : List V} (h : PostN κ (CL X.K) (Gof X T) Wx W H env σ (.ok ds st) Q) (rl : Rel (Gof X T) W H env st σ) (r : Reps X.K W H ds vs) : ∀ p, H p = none → Q (.ref p) (upd H p (.lst vs)) :=
  fun p hp => h.laid rl hp (fun _ z => by cases z) ⟨vs, upd_same, Reps.mono (ext_laidT (κ := true) rl.sto hp).mo _ _ r⟩
def fCat (d e : D) (st : Sto) : Res (List D) := match dL d st, dL e st with
  | some xs, some ys => if xs.length + ys.length ≤ 1000000 then .ok (xs ++ ys) st else .bad
  | _, _ => .bad
theorem mill {n : Nat} (h : n ≤ 1000000) : n ≤ sizeLine := by rw [sizeLine_eq]; omega
theorem nv_cat (ha : EVg κ R1 T X Wx a ma) (hb : EVg κ' R2 T X Wx b mb) (S : Stands κ' R1 := by first | exact Stands.rep | exact Stands.held | exact Stands.cur) (c1 : ToCur X R1 := by first | exact ToCur.rep | exact ToCur.held | exact ToCur.cur) (c2 : ToCur X R2 := by first | exact ToCur.rep | exact ToCur.held | exact ToCur.cur) :
    NV (κ && κ') T X Wx (.BinOp a .Add b pos) (mBin ma mb fCat) :=
  nv_op op_catL S (fun W H env st σ x y d1 d2 Q rl h1 h2 hp => by
    unfold fCat at hp
    split at hp
    · rename_i xs ys e1 e2
      split at hp
      · rename_i hz
        obtain ⟨a1, v1, rfl, l1, r1⟩ := dL_read rl (c1 _ _ _ _ h1) e1
        obtain ⟨a2, v2, rfl, l2, r2⟩ := dL_read rl (c2 _ _ _ _ h2) e2
        exact ⟨a1, a2, v1, v2, rfl, rfl, l1, l2, mill (by rw [← r1.length, ← r2.length]; exact hz), newLst hp rl (r1.append r2)⟩
      · exact hp.elim
    · exact hp.elim) ha hb
/-! ### slices -/
structure OV (κ : Bool) (T : List (Addr × Str)) (X : Cx) (Wx : WX) (e : Option Expr) (m : M (Option Int)) : Prop where
  ex : ∃ t, PO X e t ∧ ∀ W H env st σ (Q : Option Int → Hp → Prop), Rel (Gof X T) W H env st σ → Post κ (fun _ _ a b => b = a) (Gof X T) Wx W H env σ (m env st) Q → t σ H Q
def mNoPart : M (Option Int) := fun _ st => .ok none st
def mPart (m : M D) : M (Option Int) := mUn m fun d st => match d with
  | .int i => .ok (some i) st
  | _ => .bad
theorem ov_none : OV true T X Wx none mNoPart := ⟨_, po_none, fun W H env st σ Q rl h => h.ok rl rfl⟩
theorem ov_some (ha : EV κ T X Wx a ma) : OV κ T X Wx (some a) (mPart ma) := by
  obtain ⟨ta, pa, ra⟩ := ha.ex
  refine ⟨_, po_some pa, fun W H env st σ Q rl h => ra _ _ _ _ _ _ rl (h.bind (fun z => z) fun d st1 W1 H1 v e1 r1 q1 h1 => ?_)⟩
  dsimp only at h1
  split at h1
  · exact ⟨_, rep_int.mp q1, h1.ok r1 rfl⟩
  · exact h1.elim
def cutD (xs : List D) (lo hi : Option Int) : List D := (xs.drop (HT.sIx xs.length 0 lo)).take (HT.sIx xs.length xs.length hi - HT.sIx xs.length 0 lo)
theorem Reps.cut {K : PySem.W.Frag} {W : Wm} {H : Hp} {ds : List D} {vs : List V} (h : Reps K W H ds vs) (lo hi : Option Int) : Reps K W H (cutD ds lo hi) (cutV vs lo hi) := by
  unfold cutD cutV
  rw [h.length]
  exact (h.drop _).take _
def mSl {α : Type} (m : M D) (ml mh : M (Option Int)) (f : D → Option Int → Option Int → Sto → Res α) : M α := fun env st => (m env st).bind fun d st1 => (ml env st1).bind fun lo st2 => (mh env st2).bind fun hi st3 => f d lo hi st3
/-! ### t + u -/
/-! ### methods of texts -/
/-! ### i ** j -/
def dPow (d e : D) : Option D := match d, e with
  | .int i, .int j => if 0 ≤ j ∧ j ≤ 1000 ∧ i.natAbs < 18446744073709551616 then some (.int (i ^ j.toNat)) else none
  | _, _ => none
theorem ev_pow (ha : EV κ T X Wx a ma) (hb : EV κ' T X Wx b mb) : EV (κ && κ') T X Wx (.BinOp a .Pow b pos) (mBin ma mb (pure2 dPow)) :=
  ev_op op_pow Stands.rep (op2_of fun W H x y d1 d2 d Q h1 h2 e q => by
    unfold dPow at e
    split at e
    · split at e
      · rename_i hz
        cases e; rw [rep_int] at h1 h2; exact ⟨_, _, h1, h2, ⟨hz.1, Int.le_trans hz.2.1 (by decide), hz.2.2⟩, q _ (rep_int.mpr rfl)⟩
      · cases e
    · cases e) ha hb
/-! ### dict(pairs) -/
def dMerge (ps : List (D × D)) : List (D × D) := ps.foldl (fun acc kv => dPut acc kv.1 kv.2) []
end
end Ev
set_option autoImplicit true
set_option maxRecDepth 100000
set_option maxHeartbeats 4000000
/-! sorted, dict(pairs), what is owned given up -/
namespace Ev
open PySem PySem.Spec PyProof.Rows L2
/-! ### contents as data -/
mutual
def encD : D → PyData
  | .bl b => .bool b
  | .int i => .int i
  | .str x => .str x
  | .tup ds => .tuple (encDs ds)
  | .lst ds => .list (encDs ds)
  | _ => .none
def encDs : List D → List PyData
  | [] => []
  | d :: ds => encD d :: encDs ds
end
mutual
def isData : D → Bool
  | .bl _ | .int _ | .str _ => true
  | .tup ds | .lst ds => isDatas ds
  | _ => false
def isDatas : List D → Bool
  | [] => true
  | d :: ds => isData d && isDatas ds
end
section
variable {T : List (Addr × Str)} {X : Cx} {Wx : WX} {κ κ' κa κb κc : Bool} {a b c e : Expr} {ma mb mc : M D} {pos p : Pos} {R1 R2 R4 : Wm → Hp → D → V → Prop}
/-! ### sorted(d), list(d) -/
theorem Reps.strs {K : PySem.W.Frag} {W : Wm} {H : Hp} {ns : List Str} : Reps K W H (ns.map D.str) (ns.map V.str) := by
  induction ns with
  | nil => exact Reps.nil
  | cons a t ih => exact Reps.cons (rep_str.mpr rfl) ih
end
end Ev
set_option autoImplicit true
set_option maxRecDepth 100000
set_option maxHeartbeats 4000000
/-! dict(pairs), sum(d.values()), enumerate, what is owned given up, dicts walked -/
namespace Ev
open PySem PySem.Spec PyProof.Rows L2
section
variable {T : List (Addr × Str)} {X : Cx} {Wx : WX} {κ κ' κa κb κc : Bool} {a b c e : Expr} {ma mb mc : M D} {pos p : Pos} {R1 R2 R4 : Wm → Hp → D → V → Prop}
/-! ### sum(d.values()) -/
theorem RepK.vals {K : PySem.W.Frag} {W : Wm} {H : Hp} : ∀ {kvs : List (D × D)} {ks : List (Key × V)}, RepK K W H kvs ks → Reps K W H (kvs.map (·.2)) (ks.map (·.2))
  | [], ks, h => by unfold RepK at h; subst h; exact Reps.nil
  | (k, d) :: r, ks, h => by
    unfold RepK at h
    obtain ⟨k', v, r', rfl, rfl, h1, h2⟩ := h
    exact Reps.cons h1 (RepK.vals h2)
/-! ### what a slot owns is given up: a statement before it -/
def frzE (i : Nat) (env : Env) : Env := match env[i]? with
  | some (some (.lkd _)) => env
  | some (some (.nst ds)) => env.set i (some (.lst ds))
  | some (some d) => env.set i (some d.cur)
  | _ => env
def sFrz (i : Nat) (m : Sm) : Sm := fun env st => m (frzE i env) st
/-! ### enumerate(xs) -/
end
end Ev
set_option autoImplicit true
set_option maxRecDepth 100000
set_option maxHeartbeats 4000000
/-! a, b = x, y -/
namespace Ev
open PySem PySem.Spec PyProof.Rows L2
def D.isOwn : D → Bool
  | .own _ | .ownd _ | .lkd _ | .nst _ => true
  | _ => false
/-- what may be written -/
def D.isMut : D → Bool
  | .own _ | .ownd _ => true
  | _ => false
def ownVals : List D → List V → List V
  | d :: ds, v :: vs => if d.isOwn = true then v :: ownVals ds vs else ownVals ds vs
  | _, _ => []
def AsR (K : PySem.W.Frag) (W : Wm) (H : Hp) : List D → List V → Prop
  | [], vs => vs = []
  | d :: ds, vs => ∃ v r, vs = v :: r ∧ At K W H .tmp d v ∧ (d.isOwn = true → v ∉ ownVals ds r) ∧ AsR K W H ds r
def PostA (κ : Bool) (G : Gx) (Wx : WX) (W : Wm) (H : Hp) (env : Env) (σ : L2.St) (r : Res (List D)) (Q : List V → Hp → Prop) : Prop := match r with
  | .ok ds st => ∀ W' H' vs, Ext κ W H W' H' → Rel G W' H' env st σ → AsR G.K W' H' ds vs → (∀ v ∈ ownVals ds vs, ∃ p, v = .ref p ∧ Fr H p) → Q vs H'
  | .exc x st => ∀ W' H' c d, Ext false W H W' H' → Rel G W' H' env st σ → ExnRep G W' H' x c d → Wx c d σ H'
  | .bad => False
structure AW (κ : Bool) (T : List (Addr × Str)) (X : Cx) (Wx : WX) (es : List Expr) (m : M (List D)) : Prop where
  ex : ∃ t, PA X es t ∧ ∀ W H env st σ Q, Rel (Gof X T) W H env st σ → PostA κ (Gof X T) Wx W H env σ (m env st) Q → t σ H Q
section
variable {T : List (Addr × Str)} {X : Cx} {Wx : WX} {κ κ' : Bool} {a b c e : Expr} {es : List Expr} {ma : M D} {ml : M (List D)} {md : M Dc} {n : M (List D)} {pos p : Pos}
theorem aw_nil : AW true T X Wx [] mNil := ⟨_, pa_nil, fun W H env st σ Q rl h => h W H [] Ext.refl rl (by unfold AsR; rfl) (fun v hv => by cases hv)⟩
theorem At.notOwn {K : PySem.W.Frag} {W : Wm} {H : Hp} {d : D} {v : V} (h : Rep K W H d v) : d.isOwn = false := by
  cases d with
  | own _ => exact h.elim
  | ownd _ => exact h.elim
  | lkd _ => exact h.elim
  | nst _ => exact h.elim
  | _ => rfl
theorem aw_ev (he : EV κ T X Wx e ma) (hr : AW κ' T X Wx es n) (hs : starEach (e :: es) X.env = (false, eval e X.env) :: starEach es X.env := by rfl) : AW (κ && κ') T X Wx (e :: es) (mCons ma n) := by
  obtain ⟨ta, pa, ra⟩ := he.ex
  obtain ⟨tb, pb, rb⟩ := hr.ex
  refine ⟨_, pa_cons pa pb hs, fun W H env st σ Q rl h => ra _ _ _ _ _ _ rl ?_⟩
  unfold mCons mBin at h
  cases em : ma env st with
  | exc x st1 => rw [em] at h; exact h
  | bad => rw [em] at h; exact h.elim
  | ok d st1 =>
    rw [em] at h
    intro W1 H1 v e1 r1 q1
    refine rb _ _ _ _ _ _ r1 ?_
    cases en : n env st1 with
    | exc x st2 =>
      simp only [Res.bind, en] at h
      exact fun W2 H2 c d e2 r2 q2 => h W2 H2 c d (e1.f.trans e2) r2 q2
    | bad => simp only [Res.bind, en] at h; exact h.elim
    | ok ds st2 =>
      simp only [Res.bind, en] at h
      intro W2 H2 vs e2 r2 q2 f2
      have hn := At.notOwn (Rep.mono e2.mo _ _ q1)
      refine h W2 H2 (v :: vs) ((e1.weak and21).trans (e2.weak and22)) r2 ?_ ?_
      · unfold AsR
        exact ⟨v, vs, rfl, .of (Rep.mono e2.mo _ _ q1), fun z => (by rw [hn] at z; cases z), q2⟩
      · intro u hu
        unfold ownVals at hu
        rw [hn] at hu
        obtain ⟨p, h1, h2⟩ := f2 u (by simpa using hu)
        exact ⟨p, h1, e1.fr_ h2⟩
/-! ### the slots filled -/
def setsV (σ : L2.St) : List Nat → List V → L2.St
  | i :: is, v :: vs => setsV (σ.set i (some v)) is vs
  | _, _ => σ
def setsD (env : Env) : List Nat → List D → Env
  | i :: is, d :: ds => setsD (env.set i (some d)) is ds
  | _, _ => env
theorem asr_mono {K : PySem.W.Frag} {W W' : Wm} {H H' : Hp} (m : Mo W H W' H') : ∀ {ds : List D} {vs : List V}, (∀ v ∈ ownVals ds vs, ∀ a, v = .ref a → W a = some .tmp → W' a = some .tmp ∧ H' a = H a) → AsR K W H ds vs → AsR K W' H' ds vs
  | [], vs, _, h => by unfold AsR at h ⊢; exact h
  | d :: ds, vs, k, h => by
    unfold AsR at h ⊢
    obtain ⟨v, r, rfl, h1, h2, h3⟩ := h
    refine ⟨v, r, rfl, ?_, h2, asr_mono m (fun u hu => k u ?_) h3⟩
    · cases d with
      | own xs =>
        obtain ⟨a, us, rfl, w, q1, q2⟩ := h1
        obtain ⟨w', e⟩ := k (.ref a) (by simp [ownVals, D.isOwn]) a rfl w
        exact ⟨a, us, rfl, w', by rw [e]; exact q1, Reps.mono m _ _ q2⟩
      | ownd xs =>
        obtain ⟨a, rfl, w, q⟩ := h1
        obtain ⟨w', e⟩ := k (.ref a) (by simp [ownVals, D.isOwn]) a rfl w
        refine ⟨a, rfl, w', ?_⟩
        rcases q with ⟨ks, q1, q2⟩ | ⟨ks, q1, q2⟩
        · exact .inl ⟨ks, by rw [e]; exact q1, RepKc.mono m _ _ q2⟩
        · exact .inr ⟨ks, by rw [e]; exact q1, RepTc.mono m _ _ q2⟩
      | lkd xs =>
        rcases h1 with h1 | ⟨⟨_, z⟩, _⟩
        case inr => cases z
        obtain ⟨a, o, rfl, w, q⟩ := h1
        obtain ⟨w', e⟩ := k (.ref a) (by simp [ownVals, D.isOwn]) a rfl w
        exact .inl ⟨a, o, rfl, w', q.imp (fun ⟨ks, q1, q2⟩ => ⟨ks, by rw [e]; exact q1, RepKc.mono m _ _ q2⟩) fun ⟨ks, q1, q2⟩ => ⟨ks, by rw [e]; exact q1, RepTc.mono m _ _ q2⟩⟩
      | nst xs => obtain ⟨_, _, n, _⟩ := h1; exact absurd rfl n
      | _ => exact Rep.mono m _ _ h1
    · unfold ownVals
      split
      · exact List.mem_cons_of_mem _ hu
      · exact hu
theorem rel_sets {G : Gx} {H : Hp} {st : Sto} : ∀ {is : List Nat} {ds : List D} {vs : List V} {W : Wm} {env : Env} {σ : L2.St}, Rel G W H env st σ → AsR G.K W H ds vs → ∃ W', ExtS W H W' H ∧ Rel G W' H (setsD env is ds) st (setsV σ is vs)
  | [], ds, vs, W, env, σ, r, _ => ⟨W, ExtS.refl, by cases ds <;> cases vs <;> exact r⟩
  | i :: is, [], vs, W, env, σ, r, h => by unfold AsR at h; subst h; exact ⟨W, ExtS.refl, r⟩
  | i :: is, d :: ds, vs, W, env, σ, r, h => by
    unfold AsR at h
    obtain ⟨v, us, rfl, h1, h2, h3⟩ := h
    show ∃ W', ExtS W H W' H ∧ Rel G W' H (setsD (env.set i (some d)) is ds) st (setsV (σ.set i (some v)) is us)
    have own : ∀ (a : Addr), v = .ref a → W a = some .tmp → d.isOwn = true → ∀ W1, W1 = tagW W a (some (.slot i)) → AsR G.K W1 H ds us := fun a ha wa ho W1 e1 => by
      subst e1
      refine asr_mono (exts_retag wa).mo (fun u hu b hb wb => ?_) h3
      have : b ≠ a := fun z => by subst z; subst hb; subst ha; exact h2 ho hu
      exact ⟨by rw [tagW_ne this]; exact wb, rfl⟩
    have plain : Rep G.K W H d v → ∃ W', ExtS W H W' H ∧ Rel G W' H (setsD (env.set i (some d)) is ds) st (setsV (σ.set i (some v)) is us) := fun h => rel_sets (r.set i h) h3
    cases d with
    | own xs =>
      obtain ⟨a, ws, rfl, w, q1, q2⟩ := h1
      obtain ⟨W', e, r'⟩ := rel_sets (is := is) (r.setOwn i w ⟨ws, q1, q2⟩) (own a rfl w rfl _ rfl)
      exact ⟨W', (exts_retag w).trans e, r'⟩
    | ownd xs =>
      obtain ⟨a, rfl, w, q⟩ := h1
      obtain ⟨W', e, r'⟩ := rel_sets (is := is) (r.setOwnD i w q) (own a rfl w rfl _ rfl)
      exact ⟨W', (exts_retag w).trans e, r'⟩
    | lkd xs =>
      rcases h1 with h1 | ⟨⟨_, z⟩, _⟩
      case inr => cases z
      obtain ⟨a, o, rfl, w, q⟩ := h1
      obtain ⟨W', e, r'⟩ := rel_sets (is := is) (r.setLkd i w q) (own a rfl w rfl _ rfl)
      exact ⟨W', (exts_retag w).trans e, r'⟩
    | nst xs => obtain ⟨_, _, n, _⟩ := h1; exact absurd rfl n
    | _ => exact plain h1
theorem asr_len {K : PySem.W.Frag} {W : Wm} {H : Hp} : ∀ {ds : List D} {vs : List V}, AsR K W H ds vs → ds.length = vs.length
  | [], vs, h => by unfold AsR at h; subst h; rfl
  | d :: ds, vs, h => by unfold AsR at h; obtain ⟨v, r, rfl, _, _, h3⟩ := h; simp [asr_len h3]
/-! ### names -/
structure GNs (is : List Nat) (X : Cx) (es : List Expr) : Prop where
  ex : ∃ t, PGs X es t ∧ ∀ vs σ H Q, vs.length = is.length → Q (setsV σ is vs) H → t vs σ H Q
theorem gns_nil : GNs [] X [] := ⟨_, pgs_nil, fun vs σ H Q hl q => ⟨List.eq_nil_of_length_eq_zero hl, by cases List.eq_nil_of_length_eq_zero hl; exact q⟩⟩
theorem gns_cons {x : Str} {is : List Nat} (i : Nat) (hN : X.N.Nodup) (h : GNs is X es) (hi : X.N[i]? = some x := by rfl) (hx : Loc X.env.scope x := by first | exact Or.inl rfl | exact Or.inr rfl) (hf : X.fn x = true ∨ X.env.scope.names.lookup x = some .local := by first | exact .inl rfl | exact .inr rfl | assumption)
    (hs : (assignEach (.Name x p :: es) X.env).map (·.2) = assign (.Name x p) X.env :: (assignEach es X.env).map (·.2) := by rfl) : GNs (i :: is) X (.Name x p :: es) := by
  obtain ⟨t, pt, r⟩ := h.ex
  refine ⟨_, pgs_cons (pg_name hN hi hx hf) pt hs, fun vs σ H Q hl q => ?_⟩
  cases vs with
  | nil => cases hl
  | cons v vs => exact ⟨v, vs, rfl, r vs _ H Q (by simpa using hl) q⟩
def sPar (is : List Nat) (m : M (List D)) : Sm := fun env st => (m env st).out env fun ds st' => if ds.length = is.length ∧ ds.length ≤ 1000 then .nx (setsD env is ds) st' else .bad
/-- a, b, .. = x, y, .. by way of the tuple -/
theorem sv_parT {j k2 n1 : Nat} {pt pt2 : Pos} {tgs : List Expr} {is : List Nat} (hc : X.calm = true) (ha : AW κ T X Wx es n) (hg : GNs is X tgs) (hs : swapsWithSole [.Tuple tgs j pt] (.Tuple es k2 pt2) pos.line X.env = pure false := by rfl) (hw : swappedStores [.Tuple tgs j pt] (.Tuple es k2 pt2) X.env = pure none := by rfl)
    (h1 : (assignEach [.Tuple tgs j pt] X.env).map (·.2) = [assign (.Tuple tgs j pt) X.env] := by rfl) (hn : (assignEach tgs X.env).length = n1 := by rfl) (hl : is.length = n1 := by rfl) (hst : (assignEach tgs X.env).findIdx? (·.1) = none := by rfl) :
    SV T X Wx (.Assign [.Tuple tgs j pt] (.Tuple es k2 pt2) pos) (sPar is n) := by
  obtain ⟨ta, pa, ra⟩ := ha.ex
  obtain ⟨tg, pg, rg⟩ := hg.ex
  refine ⟨_, ps_asg (pe_tup pa) (pg_tup hc pg hn hst) hs hw h1, fun W H env st σ D rl h => ra _ _ _ _ _ _ rl ?_⟩
  unfold sPar at h
  cases en : n env st with
  | exc x st1 => rw [en] at h; exact fun W1 H1 c d e1 r1 q1 => h W1 H1 c d σ e1.s r1 q1
  | bad => rw [en] at h; exact h.elim
  | ok ds st1 =>
    simp only [en, Res.out] at h
    split at h
    · rename_i hz
      intro W1 H1 vs e1 r1 q1 _
      have hlen := asr_len q1
      refine ⟨small_line (by omega), fun q hq => ⟨q, vs, rfl, .inl (.inl upd_same), by omega, rg vs σ _ _ (by omega) ?_⟩⟩
      have e2 : Ext true W1 H1 W1 (upd H1 q (.tup vs)) := Ext.laid r1.sto hq
      have q2 : AsR X.K W1 (upd H1 q (.tup vs)) ds vs := asr_mono e2.mo (fun v _ a _ w => ⟨w, upd_ne (r1.sto.ne hq w)⟩) q1
      obtain ⟨W', e3, r3⟩ := rel_sets (is := is) (r1.laid hq (o := .tup vs)) q2
      exact h W' _ _ ((e1.s.trans e2.s).trans e3) r3
    · exact h.elim
end
end Ev
set_option autoImplicit true
set_option maxRecDepth 100000
set_option maxHeartbeats 4000000
/-! dicts walked: locked meanwhile -/
namespace Ev
open PySem PySem.Spec PyProof.Rows L2
section
variable {G : Gx} {W W' : Wm} {H H' : Hp} {env : Env} {st : Sto} {σ : L2.St} {d : Addr} {u : HO} {od : Obj}
def IsDct (u : HO) : Prop := (∃ ks, u = .dK ks) ∨ ∃ ks, u = .dT ks
theorem IsDct.plain (h : IsDct u) : Plain u := by rcases h with ⟨ks, rfl⟩ | ⟨ks, rfl⟩ <;> exact ⟨fun _ z => (by cases z), fun _ z => (by cases z)⟩
theorem IsDct.ntup (h : IsDct u) : ∀ v, u ≠ .tup v := by rcases h with ⟨ks, rfl⟩ | ⟨ks, rfl⟩ <;> intro v z <;> cases z
end
/-- how a dict is walked: its keys, its values, its pairs -/
inductive Wk where
  | keys | vals | items
def Wk.of : Wk → Dc → Option (List D)
  | .keys, (false, kvs) => some (kvs.map (·.1))
  | .vals, (false, kvs) => some (kvs.map (·.2))
  | .items, (false, kvs) => some (kvs.map fun p => .tup [p.1, p.2])
  | _, _ => none
end Ev
set_option autoImplicit true
set_option maxRecDepth 100000
set_option maxHeartbeats 4000000
/-! what the head tells, by names; calls by name -/
namespace Ev
open PySem PySem.Spec PyProof.Rows L2
def fdOf (K : PySem.W.Frag) (a : Addr) : FuncData := match K.lookup a with
  | some ⟨_, _, .func fd, _⟩ => fd
  | _ => default
section
variable {P : Program} {w : World} {K : PySem.W.Frag} {mg : Str → Option Value} {base : Heap} {T : List (Addr × Str)} {x qual : Str} {params : Arguments} {body : List Stmt} {scope : Scope} {f : Addr} {N ps : List Str} {k np : Nat} {m : Sm} {mf : Fm}
theorem funD_at {dvs : List V} {kws : List (Str × V)} (h : ∃ fd, FunD K x qual params body scope dvs kws f fd) : FunD K x qual params body scope dvs kws f (fdOf K f) := by
  obtain ⟨fd, F⟩ := h
  obtain ⟨oc, od, dV, kV, doc, pm, an, cdv, ct, osl, e, lk, r⟩ := F.ex
  have : fdOf K f = fd := by unfold fdOf; rw [lk]
  rw [this]
  exact F
theorem fn_okD (F : FunD K x qual params body scope [] [] f (fdOf K f)) (S : FnScope N ps scope)
    (hbody : ∀ (A : Around) (outer : List PySem.Env) (s : Shared) (H : Hp) (E : XK), Room k (A.deeper (envOfC qual scope s.heap.objs.size f (fdOf K f).code)) →
      SsV T (cxOf (L2.CX P w) P w K mg base N qual scope f (fdOf K f).code A outer s H E) (fun c d _ H' => E c d H') body m) :
    FnOk P w K mg base (L2.CX P w) (k + 1) f (fdOf K f) ps (spOf ⟨K, mg, T⟩ ps.length (mFn N.length m)) := by
  obtain ⟨oc, od, dV, kV, doc, pm, an, cdv, ct, osl, e, lk, hcd, _, _⟩ := F.ex
  have ec : (fdOf K f).code = cdv := by rw [e]
  rw [ec] at hbody
  rw [e] at lk ⊢
  refine fn_of lk hcd S (fun vs H Q E h => ?_) fun A outer s H vs Q E hr h => ?_
  · obtain ⟨_, _, _, hl, _⟩ := h
    exact hl
  · obtain ⟨W, st0, ds, hl, s0, hd, hp⟩ := h
    obtain ⟨t, p, r⟩ := (hbody A outer s H E hr).ex
    refine ⟨t, p, r (hold W) H _ st0 _ _ ⟨s0.hold, env_startP hd⟩ ?_⟩
    unfold mFn at hp
    generalize m (ds.map some ++ List.replicate (N.length - ds.length) none) st0 = o at hp ⊢
    cases o with
    | nx env st1 => exact fun W' H' σ' e r' => hp (back W W') H' .non (back_ext e) (s0.back e r'.sto) (rep_non.mpr rfl)
    | rt d st1 => exact fun W' H' v e r' q => hp (back W W') H' v (back_ext e) (s0.back e r') (Rep.mono (back_mo e) _ _ q)
    | xc x env st1 => exact fun W' H' c d σ' e r' q => hp (back W W') H' c d (back_ext e) (s0.back e r'.sto) (by
        obtain ⟨C, h1, h2, h3⟩ := q
        refine ⟨C, h1, h2, ?_⟩
        rcases h3 with h3 | ⟨dd, f, e', v, h4, h5, h6, h7⟩
        · exact .inl h3
        · exact .inr ⟨dd, f, e', v, h4, h5, h6, Rep.mono (back_mo e) _ _ h7⟩)
    | bk env st1 => exact hp.elim
    | ct env st1 => exact hp.elim
    | bad => exact hp.elim
end
/-! ### bundles -/
section
variable (P : Program) (w : World) (K : PySem.W.Frag) (mg : Str → Option Value) (base : Heap) (T : List (Addr × Str))
structure Df (x : Str) (k np : Nat) (mf : Fm) : Prop where
  ex : ∃ (f : Addr) (fd : FuncData) (ps : List Str), mg x = some (.ref f) ∧ PySem.W.keepIn K (.ref f) = true ∧ Binds K fd ps [] ∧ FnOk P w K mg base (L2.CX P w) k f fd ps (spOf ⟨K, mg, T⟩ np mf)
structure Dm (cls m : Str) (k np : Nat) (mf : Fm) : Prop where
  ex : ∃ (C f : Addr) (fd : FuncData) (ps : List Str), mg cls = some (.ref C) ∧ Cls K C ∧ Meth K C m f ∧ Binds K fd ps [] ∧ FnOk P w K mg base (L2.CX P w) k f fd ps (spOf ⟨K, mg, T⟩ np mf)
structure Dk (cls : Str) (k np : Nat) (mf : Fm) : Prop where
  ex : ∃ (C f : Addr) (fd : FuncData) (ps : List Str), mg cls = some (.ref C) ∧ Mk K C f ∧ Binds K fd ps [] ∧ FnOk P w K mg base (L2.CX P w) k f fd ps (spOf ⟨K, mg, T⟩ np mf)
end
structure De (K : PySem.W.Frag) (mg : Str → Option Value) (cls : Str) : Prop where
  ex : ∃ C : Addr, mg cls = some (.ref C) ∧ PySem.W.excIn K C He.veBase "ValueError.__new__" = true ∧ PySem.W.keepIn K (.ref C) = true ∧ PySem.W.subIn K (.ref C) (.type "BaseException") = some true ∧ PySem.W.typeIn K (.ref C) = some (.type "type")
structure Da (K : PySem.W.Frag) (mg : Str → Option Value) (cls fn : Str) : Prop where
  ex : ∃ C : Addr, mg cls = some (.ref C) ∧ Cls K C ∧ NoAttr K C fn
section
variable {T : List (Addr × Str)} {X : Cx} {Wx : WX} {κ κ' : Bool} {a e o : Expr} {es : List Expr} {ma mo : M D} {ml n : M (List D)} {md : M Dc} {mf : Fm} {j k np : Nat} {x m cls fn : Str} {p p2 pos pos2 pos' apos : Pos}
abbrev Lens (n : M (List D)) (np : Nat) : Prop := ∀ env st ds st', n env st = .ok ds st' → ds.length = np
theorem len_nil : Lens mNil 0 := fun _ _ _ _ h => by cases h; rfl
theorem len_cons {np : Nat} (h : Lens n np) : Lens (mCons ma n) (np + 1) := fun env st ds st' e => by
  unfold mCons mBin at e
  cases em : ma env st with
  | ok d st1 =>
    rw [em] at e
    cases en : n env st1 with
    | ok es st2 =>
      simp only [Res.bind, en] at e
      cases e
      simp [h _ _ _ _ en]
    | exc x st2 => simp only [Res.bind, en] at e; cases e
    | bad => simp only [Res.bind, en] at e; cases e
  | exc x st1 => rw [em] at e; cases e
  | bad => rw [em] at e; cases e
theorem ev_f (h : Df X.prog X.w X.K X.mg X.base T x j np mf) (hr : Room k X.A) (tk : Takes X Wx) (ha : AV κ T X Wx (a :: es) n) (hl : Lens n np) (hj : j ≤ k := by decide) (hg : Gl X x := by rfl) (hdb : (x == ("__debug__" : Str)) = false := by decide)
    (he : starEach (a :: es) X.env = (false, eval a X.env) :: starEach es X.env := by rfl) (hpl : (backTo pos (starEach es X.env)).any (·.1) = false := by rfl) : EV false T X Wx (.Call (.Name x p) (a :: es) [] pos) (mCall mf n) := by
  obtain ⟨f, fd, ps, h1, h2, h3, h4⟩ := h.ex
  exact ev_call h4 (hr.mono hj) tk hg h1 h2 h3 ha hl hdb he hpl
theorem ev_m {pl : Sem Bool} (cls : Str) (h : Dm X.prog X.w X.K X.mg X.base T cls m j (np + 1) mf) (hr : Room k X.A) (tk : Takes X Wx) (ho : EV κ T X Wx o mo) (ha : AV κ' T X Wx (a :: es) n) (hl : Lens n np) (hj : j ≤ k := by decide)
    (hst : starEach (a :: es) X.env = (false, eval a X.env) :: starEach es X.env := by rfl) (hpl : (backTo pos (starEach es X.env)).any (·.1) = false := by rfl)
    (ht : eval (.Call (.Attribute o m apos) (a :: es) [] pos) X.env = (eval o X.env >>= fun ov => standAt apos.atName >>= fun _ => holding [ov] (getMethod ov m pl) >>= fun z => callWith pos z.1 z.2 (backTo pos (starEach (a :: es) X.env)) (backToKw pos (keywordEach [] X.env))) := by rfl) :
    EV false T X Wx (.Call (.Attribute o m apos) (a :: es) [] pos) (mMeth cls m mf mo n) := by
  obtain ⟨C, f, fd, ps, h1, h2, h3, h4, h5⟩ := h.ex
  exact ev_meth ho h1 h2 h3 h5 (hr.mono hj) tk h4 ha hl hst hpl ht
theorem ev_m0 {pl : Sem Bool} (cls : Str) (h : Dm X.prog X.w X.K X.mg X.base T cls m j 1 mf) (hr : Room k X.A) (tk : Takes X Wx) (ho : EV κ T X Wx o mo) (hj : j ≤ k := by decide)
    (ht : eval (.Call (.Attribute o m apos) [] [] pos) X.env = (eval o X.env >>= fun ov => standAt apos.atName >>= fun _ => holding [ov] (getMethod ov m pl) >>= fun z => callWith pos z.1 z.2 (backTo pos (starEach [] X.env)) (backToKw pos (keywordEach [] X.env))) := by rfl) :
    EV false T X Wx (.Call (.Attribute o m apos) [] [] pos) (mMeth cls m mf mo mNil) := by
  obtain ⟨C, f, fd, ps, h1, h2, h3, h4, h5⟩ := h.ex
  exact ev_meth0 ho h1 h2 h3 h5 (hr.mono hj) tk h4 ht
theorem ev_k (h : Dk X.prog X.w X.K X.mg X.base T cls j (np + 1) mf) (hr : Room k X.A) (tk : Takes X Wx) (ha : AV κ T X Wx (a :: es) n) (hl : Lens n np) (hj : j + 1 ≤ k := by decide) (hg : Gl X cls := by rfl) (hdb : (cls == ("__debug__" : Str)) = false := by decide)
    (he : starEach (a :: es) X.env = (false, eval a X.env) :: starEach es X.env := by rfl) (hpl : (backTo pos (starEach es X.env)).any (·.1) = false := by rfl) : EV false T X Wx (.Call (.Name cls p) (a :: es) [] pos) (mMake cls mf n) := by
  obtain ⟨C, f, fd, ps, h1, h2, h3, h4⟩ := h.ex
  exact ev_make h1 h2 h4 (hr.mono hj) tk hg h3 ha hl hdb he hpl
theorem ev_k0 (h : Dk X.prog X.w X.K X.mg X.base T cls j 1 mf) (hr : Room k X.A) (tk : Takes X Wx) (hj : j + 1 ≤ k := by decide) (hg : Gl X cls := by rfl) (hdb : (cls == ("__debug__" : Str)) = false := by decide) : EV false T X Wx (.Call (.Name cls p) [] [] pos) (mMake cls mf mNil) := by
  obtain ⟨C, f, fd, ps, h1, h2, h3, h4⟩ := h.ex
  exact ev_make0 h1 h2 h4 (hr.mono hj) tk hg h3 hdb
theorem sv_rs {mm : Str} {i : Nat} (h : De X.K X.mg cls) (tk : Takes X Wx) (hc : X.calm = true := by rfl) (hg : Gl X cls := by rfl) (hdb : (cls == ("__debug__" : Str)) = false := by decide) : SV T X Wx (.Raise (some (.Call (.Name cls p) [.Constant (.str mm) i p2] [] pos)) none pos2) (sRaise cls mNil) := by
  obtain ⟨C, h1, h2, h3, h4, h5⟩ := h.ex
  exact sv_raiseS hc tk PySem.F.excBase_ValueError h2 h1 h3 (raises_own h4 h5) hg hdb
theorem ev_a (cls : Str) (h : Da X.K X.mg cls fn) (ho : EV κ T X Wx o mo) (hb : attributeBase o fn X.env (eval o X.env) = eval o X.env := by rfl) : EV κ T X Wx (.Attribute o fn pos) (mFld cls fn mo) := by
  obtain ⟨C, h1, h2, h3⟩ := h.ex
  exact ev_fld ho h1 h2 h3 hb
theorem cv_a (cls : Str) (h : Da X.K X.mg cls fn) (ho : EV κ T X Wx o mo) (hb : attributeBase o fn X.env (eval o X.env) = eval o X.env := by rfl) : CV κ T X Wx (.Attribute o fn pos) (mFldC cls fn mo) := by
  obtain ⟨C, h1, h2, h3⟩ := h.ex
  exact cv_fld ho h1 h2 h3 hb
theorem pl_a (cls : Str) (h : Da X.K X.mg cls fn) (ho : EV κ T X Wx o mo) (hb : attributeBase o fn X.env (eval o X.env) = eval o X.env := by rfl) : PlV κ true T X Wx (.Attribute o fn pos) (pFld cls fn mo) := by
  obtain ⟨C, h1, h2, h3⟩ := h.ex
  exact pl_fld ho h1 h2 h3 hb
theorem sv_a (cls : Str) (h : Da X.K X.mg cls fn) (ho : EV κ T X Wx o mo) (hv : EV κ' T X Wx e ma) (hs : swapsWith e (some (.Attribute o fn pos')) pos.line X.env = pure false := by rfl) : SV T X Wx (.Assign [.Attribute o fn pos'] e pos) (sFldSet cls fn mo ma) := by
  obtain ⟨C, h1, h2, h3⟩ := h.ex
  exact sv_fld ho hv h1 h2 h3 hs
theorem sv_ao (cls : Str) (h : Da X.K X.mg cls fn) (ho : EV κ T X Wx o mo) (hv : NV κ' T X Wx e ml) (hs : swapsWith e (some (.Attribute o fn pos')) pos.line X.env = pure false := by rfl) : SV T X Wx (.Assign [.Attribute o fn pos'] e pos) (sFldOwn cls fn mo ml) := by
  obtain ⟨C, h1, h2, h3⟩ := h.ex
  exact sv_fldOwn ho hv h1 h2 h3 hs
end
end Ev
set_option autoImplicit true
set_option maxRecDepth 100000
set_option maxHeartbeats 4000000
/-! the def that tells of errors, by name -/
namespace Ev
open PySem PySem.Spec PyProof.Rows L2
/-- the table of a def's lambdas -/
structure Lt (base : Heap) (mg : Str → Option Value) (T : List (Addr × Str)) (q : Str) (code : Value) : Prop where
  ex : ∃ c P : Addr, code = .ref c ∧ LamX.TabB base mg c P ∧ (P, q ++ "<lambda>") ∈ T ∧ ∀ p ∈ T, p.1 = P → p.2 = q ++ "<lambda>"
/-- the clause by its word -/
theorem names_of {X : Cx} {x : Str} {C : Addr} (hg : Gl X x) (hm : X.mg x = some (.ref C)) (hdb : (x == ("__debug__" : Str)) = false := by decide) : Names X x (.ref C) := ⟨hg, hdb, .inl hm⟩
end Ev
set_option autoImplicit true
set_option maxRecDepth 100000
set_option maxHeartbeats 4000000
/-! list(range(..)), some statements by name -/
namespace Ev
open PySem PySem.Spec PyProof.Rows L2
section
variable {T : List (Addr × Str)} {X : Cx} {Wx : WX} {κ κ' κi : Bool} {a b c e i : Expr} {ma mb mi : M D} {pos pos' p p2 tpos : Pos}
theorem gvl_nil : ∀ (ds : List D) (env env' : Env), gvNil ds env = some env' → ds.length = 0 := fun ds env env' h => by
  cases ds with
  | nil => rfl
  | cons d ds => cases h
theorem gvl_cons {g : D → Env → Option Env} {gs : List D → Env → Option Env} {n : Nat} (h : ∀ (ds : List D) (env env' : Env), gs ds env = some env' → ds.length = n) : ∀ (ds : List D) (env env' : Env), gvCons g gs ds env = some env' → ds.length = n + 1 := fun ds env env' e => by
  cases ds with
  | nil => cases e
  | cons d ds =>
    have e : (g d env).bind (gs ds) = some env' := e
    cases eg : g d env with
    | none => rw [eg] at e; cases e
    | some env1 => rw [eg] at e; simp [h _ _ _ e]
end
end Ev
set_option autoImplicit true
set_option maxRecDepth 100000
set_option maxHeartbeats 4000000
/-! the end: from the head's facts to the law -/
namespace Ev
open PySem PySem.Spec PyProof.Rows L2
section
variable {K : PySem.W.Frag} {mg : Str → Option Value} {h : Heap}
def lamT (K : PySem.W.Frag) (tf : List (He.Defn × Str)) : List (Addr × Str) := tf.map fun p => ((He.cT K p.1).2, p.2)
def tabsNodup (tf : List (He.Defn × Str)) (K : PySem.W.Frag) : Bool := decide ((tf.map fun p => (He.cT K p.1).2).Nodup)
theorem lt_of {base : Heap} {tf : List (He.Defn × Str)} {name qual : Str} {params : Arguments} {body : List Stmt} {scope : Scope} {at_ : He.Defn} {q : Str} (F : FunD K name qual params body scope [] [] (He.fAd K at_) (fdOf K (He.fAd K at_))) (nd : tabsNodup tf K = true) (hm : (at_, q ++ "<lambda>") ∈ tf)
    (TB : ∀ p ∈ tf.map (fun p => He.cT K p.1), LamX.TabB base mg p.1 p.2) : Lt base mg (lamT K tf) q (fdOf K (He.fAd K at_)).code := by
  obtain ⟨oc, od, dV, kV, doc, pm, an, cdv, ct, osl, e, lk, hcd, _, _⟩ := F.ex
  obtain ⟨c, ec⟩ := He.codeIn_ref hcd
  have ecode : (fdOf K (He.fAd K at_)).code = .ref c := by rw [e]; exact ec
  have eco : He.codeOf K at_ = c := He.codeOf_eq lk ecode
  have hP : (He.cT K at_) = (c, He.tabOf K c) := by unfold He.cT; rw [eco]
  refine ⟨c, He.tabOf K c, ecode, ?_, ?_, fun p hp ep => ?_⟩
  · have := TB _ (List.mem_map.mpr ⟨_, hm, rfl⟩)
    dsimp only at this
    rw [hP] at this
    exact this
  · refine List.mem_map.mpr ⟨_, hm, ?_⟩
    dsimp only
    rw [hP]
  · obtain ⟨z, hz, rfl⟩ := List.mem_map.mp hp
    unfold tabsNodup at nd
    have nd := of_decide_eq_true nd
    have e1 : (He.cT K z.1).2 = (He.cT K at_).2 := by rw [hP]; exact ep
    have := nodup_map_inj nd hz hm e1
    rw [this]
where
  nodup_map_inj {α β : Type} {f : α → β} : ∀ {l : List α}, (l.map f).Nodup → ∀ {a b : α}, a ∈ l → b ∈ l → f a = f b → a = b
    | [], _, _, _, ha, _, _ => by cases ha
    | x :: l, nd, a, b, ha, hb, e => by
      rw [List.map_cons, List.nodup_cons] at nd
      rcases List.mem_cons.mp ha with rfl | ha
      · rcases List.mem_cons.mp hb with rfl | hb
        · rfl
        · exact absurd (List.mem_map.mpr ⟨b, hb, e.symm⟩) nd.1
      · rcases List.mem_cons.mp hb with hb | hb
        · rw [hb] at e
          exact absurd (List.mem_map.mpr ⟨a, ha, e⟩) nd.1
        · exact nodup_map_inj nd.2 ha hb e
end
/-- the law's promise by its mirror -/
theorem law_at {l : PySem.W.OpenLaw} {w : World} {K : PySem.W.Frag} {mg : Str → Option Value} {h : Heap} {fa : List He.Fa} {fn : List He.DefD} {tabs : List He.Tab} {ex : PySem.W.Frag → Bool} {tf : List (He.Defn × Str)} {k n : Nat} {x : Str} {f : Addr} {fd : FuncData} {mf : Fm}
    (X : K.In h) (c : He.SaysX fa fn tabs (tf.map (·.1)) ex w h K) (hb : ∀ (s : Shared) (u : Value), BindsTo s fd ⟨[u], []⟩ [(x, u)]) (plain : ∀ ns : List Int, ns.length ≤ n → (∀ z ∈ ns, Builtin.Int.intBits z ≤ 1048576) → ∃ st, mf [.lst (ns.map .int)] [] = .ok (.bl true) st)
    (F : ∀ base : Heap, K.In base → base.Ns mainGlobals mg → (∀ p ∈ tf.map (fun p => He.cT K p.1), LamX.TabB base mg p.1 p.2) → FnOk l.prog w K mg base (L2.CX l.prog w) k f fd [x] (spOf ⟨K, mg, lamT K tf⟩ 1 mf)) (ne : ∀ p ∈ tf, p.2 ≠ "" := by decide +kernel) : LamX.LawAtS l w K (L2.CX l.prog w) k n x mg f h := by
  have mem : ∀ p ∈ tf.map (fun p => He.cT K p.1), ∃ q ∈ tf.map (·.1), p = He.cT K q := fun p hp => by
    obtain ⟨z, hz, rfl⟩ := List.mem_map.mp hp
    exact ⟨z.1, List.mem_map.mpr ⟨z, hz, rfl⟩, rfl⟩
  refine ⟨fd, tf.map (fun p => He.cT K p.1), _, fun p hp => ?_, fun p hp => ?_, fun p hp => ?_, hb, fun H a ns hl hbits hT hS => ?_, F⟩
  · obtain ⟨q, hq, rfl⟩ := mem p hp; exact c.empty q hq
  · obtain ⟨q, hq, rfl⟩ := mem p hp; exact c.out q hq
  · obtain ⟨q, hq, rfl⟩ := mem p hp; exact PySem.W.codeHd_of_K X (c.hd q hq)
  · obtain ⟨st, e⟩ := plain ns hl hbits
    refine ⟨fun _ => none, [], [.lst (ns.map .int)], rfl, ⟨fun a n z => (by cases z), fun a b n z => (by cases z), fun a t z => (by cases z), (tbs_nil fun p hp => ?_), fun _ _ _ => rfl⟩, ParsOk.of (Reps.one (rep_lst.mpr ⟨a, ns.map V.int, rfl, ?_, Reps.ints⟩)), ?_⟩
    · obtain ⟨z, hz, rfl⟩ := List.mem_map.mp hp
      exact ⟨ne z hz, hT _ (List.mem_map.mpr ⟨z, hz, rfl⟩)⟩
    · rcases hS with hS | hS
      · exact .inl ⟨rfl, hS⟩
      · exact .inr hS
    · rw [e]
      exact fun W' H' v _ _ r => rep_bl.mp r
end Ev
set_option autoImplicit true
set_option maxRecDepth 100000
set_option maxHeartbeats 4000000
/-! what a mirror does, by wishes -/
namespace Ev
open PySem PySem.Spec PyProof.Rows L2
def wpR {α : Type} (r : Res α) (P : α → Sto → Prop) (E : Exn → Sto → Prop) : Prop := match r with
  | .ok a st => P a st
  | .exc x st => E x st
  | .bad => False
structure Wi where
  nx : Env → Sto → Prop
  rt : D → Sto → Prop
  bk : Env → Sto → Prop
  ct : Env → Sto → Prop
  xc : Exn → Sto → Prop
def wpO (o : Out) (Q : Wi) : Prop := match o with
  | .nx env st => Q.nx env st
  | .rt d st => Q.rt d st
  | .bk env st => Q.bk env st
  | .ct env st => Q.ct env st
  | .xc x _ st => Q.xc x st
  | .bad => False
section
variable {α β γ : Type} {P : α → Sto → Prop} {E : Exn → Sto → Prop} {env : Env} {st : Sto} {Q : Wi}
theorem wpR.imp {r : Res α} {P P' : α → Sto → Prop} {E E' : Exn → Sto → Prop} (h : wpR r P E) (k : ∀ a st, P a st → P' a st) (e : ∀ x st, E x st → E' x st) : wpR r P' E' := by
  cases r with
  | ok a st => exact k a st h
  | exc x st => exact e x st h
  | bad => exact h.elim
@[simp] theorem wp_ok {a : α} : wpR (.ok a st) P E ↔ P a st := Iff.rfl
@[simp] theorem wp_exc {x : Exn} : wpR (.exc x st) P E ↔ E x st := Iff.rfl
@[simp] theorem wp_bad : wpR (.bad : Res α) P E ↔ False := Iff.rfl
@[simp] theorem wp_bind {r : Res β} {f : β → Sto → Res α} : wpR (r.bind f) P E ↔ wpR r (fun b st => wpR (f b st) P E) E := by cases r <;> exact Iff.rfl
@[simp] theorem wp_of {o : Option α} : wpR (Res.of o st) P E ↔ ∃ a, o = some a ∧ P a st := by
  cases o with
  | none => simp [Res.of]
  | some a => simp [Res.of]
@[simp] theorem wp_ite {c : Prop} [Decidable c] {r r' : Res α} : wpR (if c then r else r') P E ↔ (c → wpR r P E) ∧ (¬c → wpR r' P E) := by
  by_cases h : c <;> simp [h]
@[simp] theorem wp_mVar {i : Nat} {P : D → Sto → Prop} : wpR (mVar i env st) P E ↔ ∃ d, env[i]? = some (some d) ∧ d.isOwn = false ∧ P d st := by
  unfold mVar
  split
  · rename_i h; simp [h, D.isOwn]
  · rename_i h; simp [h, D.isOwn]
  · rename_i h; simp [h, D.isOwn]
  · rename_i h; simp [h, D.isOwn]
  · rename_i h; simp [h]
  · rename_i h; simp [h]
  · rename_i d h1 h2 h3 h4 h
    simp only [h, wp_ok]
    refine ⟨fun p => ⟨d, rfl, ?_, p⟩, fun ⟨d', e, _, p⟩ => by cases e; exact p⟩
    cases d <;> first | rfl | exact absurd rfl (h1 _) | exact absurd rfl (h2 _) | exact absurd rfl (h3 _) | exact absurd rfl (h4 _)
@[simp] theorem wp_mVarC {i : Nat} {P : D → Sto → Prop} : wpR (mVarC i env st) P E ↔ ∃ d, env[i]? = some (some d) ∧ P d.cur st := by
  unfold mVarC
  split
  · rename_i h; simp [h]
  · rename_i h; simp [h]
  · rename_i d h; simp [h]
@[simp] theorem wp_mK {d : D} {P : D → Sto → Prop} : wpR (mK d env st) P E ↔ P d st := Iff.rfl
@[simp] theorem wp_mBin {ma : M β} {mb : M γ} {f : β → γ → Sto → Res α} : wpR (mBin ma mb f env st) P E ↔ wpR (ma env st) (fun x st1 => wpR (mb env st1) (fun y st2 => wpR (f x y st2) P E) E) E := by unfold mBin; simp
@[simp] theorem wp_mUn {ma : M β} {f : β → Sto → Res α} : wpR (mUn ma f env st) P E ↔ wpR (ma env st) (fun x st1 => wpR (f x st1) P E) E := by unfold mUn; simp
@[simp] theorem wp_pure2 {f : β → γ → Option α} {x : β} {y : γ} : wpR (pure2 f x y st) P E ↔ ∃ a, f x y = some a ∧ P a st := by unfold pure2; simp
@[simp] theorem wp_mTest {m : M D} {P : Bool → Sto → Prop} : wpR (mTest m env st) P E ↔ wpR (m env st) (fun d st => ∃ b, d.b? = some b ∧ P b st) E := by unfold mTest; simp
@[simp] theorem wp_mIf {t : M Bool} {a b : M α} : wpR (mIf t a b env st) P E ↔ wpR (t env st) (fun k st1 => (k = true → wpR (a env st1) P E) ∧ (k = false → wpR (b env st1) P E)) E := by unfold mIf; simp
@[simp] theorem wp_mAnd {t u : M Bool} {P : Bool → Sto → Prop} : wpR (mAnd t u env st) P E ↔ wpR (t env st) (fun k st1 => (k = true → wpR (u env st1) P E) ∧ (k = false → P false st1)) E := by unfold mAnd; simp
@[simp] theorem wp_mOr {t u : M Bool} {P : Bool → Sto → Prop} : wpR (mOr t u env st) P E ↔ wpR (t env st) (fun k st1 => (k = true → P true st1) ∧ (k = false → wpR (u env st1) P E)) E := by unfold mOr; simp
@[simp] theorem wp_mNot {t : M Bool} {P : Bool → Sto → Prop} : wpR (mNot t env st) P E ↔ wpR (t env st) (fun k st1 => P (!k) st1) E := by unfold mNot; simp
@[simp] theorem wp_mNil {P : List D → Sto → Prop} : wpR (mNil env st) P E ↔ P [] st := Iff.rfl
@[simp] theorem wp_mCons {m : M D} {n : M (List D)} {P : List D → Sto → Prop} : wpR (mCons m n env st) P E ↔ wpR (m env st) (fun d st1 => wpR (n env st1) (fun ds st2 => P (d :: ds) st2) E) E := by unfold mCons; simp
@[simp] theorem wp_mSmall {m : M (List D)} {P : List D → Sto → Prop} : wpR (mSmall m env st) P E ↔ wpR (m env st) (fun ds st1 => ds.length ≤ 1000 ∧ P ds st1) E := by
  unfold mSmall
  rw [wp_bind]
  constructor <;> intro h <;> refine h.imp (fun a st q => ?_) (fun _ _ q => q)
  · split at q
    · exact ⟨by assumption, q⟩
    · exact q.elim
  · rw [if_pos q.1]; exact q.2
@[simp] theorem wp_mTup {m : M (List D)} {P : D → Sto → Prop} : wpR (mTup m env st) P E ↔ wpR (m env st) (fun ds st1 => ds.length ≤ 1000 ∧ P (.tup ds) st1) E := by
  unfold mTup
  rw [wp_bind]
  constructor <;> intro h <;> refine h.imp (fun a st q => ?_) (fun _ _ q => q)
  · split at q
    · exact ⟨by assumption, q⟩
    · exact q.elim
  · rw [if_pos q.1]; exact q.2
@[simp] theorem wp_mStore {m : M (List D)} {P : D → Sto → Prop} : wpR (mStore m env st) P E ↔ wpR (m env st) (fun ds st1 => ds.length ≤ 1000 ∧ P (.loc st1.length) (st1 ++ [.ls ds])) E := by
  unfold mStore
  rw [wp_bind]
  constructor <;> intro h <;> refine h.imp (fun a st q => ?_) (fun _ _ q => q)
  · split at q
    · exact ⟨by assumption, q⟩
    · exact q.elim
  · rw [if_pos q.1]; exact q.2
@[simp] theorem wp_mCall {mf : Fm} {n : M (List D)} {P : D → Sto → Prop} : wpR (mCall mf n env st) P E ↔ wpR (n env st) (fun ds st1 => wpR (mf ds st1) P E) E := by unfold mCall; simp
@[simp] theorem wp_mDnil {t : Bool} {P : Dc → Sto → Prop} : wpR (mDnil t env st) P E ↔ P (t, []) st := Iff.rfl
@[simp] theorem wp_mPart {m : M D} {P : Option Int → Sto → Prop} : wpR (mPart m env st) P E ↔ wpR (m env st) (fun d st => ∃ i, d = .int i ∧ P (some i) st) E := by
  unfold mPart
  rw [wp_mUn]
  constructor <;> intro h <;> refine h.imp (fun a st q => ?_) (fun _ _ q => q)
  · split at q
    · exact ⟨_, rfl, q⟩
    · exact q.elim
  · obtain ⟨i, rfl, q⟩ := q; exact q
@[simp] theorem wp_mNoPart {P : Option Int → Sto → Prop} : wpR (mNoPart env st) P E ↔ P none st := Iff.rfl
@[simp] theorem wp_mSl {m : M D} {ml mh : M (Option Int)} {f : D → Option Int → Option Int → Sto → Res α} : wpR (mSl m ml mh f env st) P E ↔ wpR (m env st) (fun d st1 => wpR (ml env st1) (fun lo st2 => wpR (mh env st2) (fun hi st3 => wpR (f d lo hi st3) P E) E) E) E := by unfold mSl; simp
@[simp] theorem wp_mChain {ma mb mc : M D} {f g : D → D → Option D} {P : D → Sto → Prop} : wpR (mChain ma mb mc f g env st) P E ↔ wpR (ma env st) (fun x st1 => wpR (mb env st1) (fun y st2 => ∃ k, (f x y).bind D.b? = some k ∧ wpR (if k = true then (mc env st2).bind fun z st3 => Res.of (g y z) st3 else .ok (.bl false) st2) P E) E) E := by
  unfold mChain
  simp only [wp_bind]
  constructor <;> intro h <;> refine h.imp (fun a st q => q.imp (fun b st q => ?_) (fun _ _ q => q)) (fun _ _ q => q)
  · rw [wp_of] at q; exact q
  · rw [wp_of]; exact q
@[simp] theorem wp_mItems {m : M D} {P : List D → Sto → Prop} : wpR (mItems m env st) P E ↔ wpR (m env st) (fun d st => ∃ ds, d.items = some ds ∧ P ds st) E := by unfold mItems; simp
/-! ### statements -/
@[simp] theorem wo_nx : wpO (.nx env st) Q ↔ Q.nx env st := Iff.rfl
@[simp] theorem wo_rt {d : D} : wpO (.rt d st) Q ↔ Q.rt d st := Iff.rfl
@[simp] theorem wo_bk : wpO (.bk env st) Q ↔ Q.bk env st := Iff.rfl
@[simp] theorem wo_ct : wpO (.ct env st) Q ↔ Q.ct env st := Iff.rfl
@[simp] theorem wo_xc {x : Exn} : wpO (.xc x env st) Q ↔ Q.xc x st := Iff.rfl
@[simp] theorem wo_bad : wpO .bad Q ↔ False := Iff.rfl
@[simp] theorem wo_out {r : Res α} {f : α → Sto → Out} : wpO (r.out env f) Q ↔ wpR r (fun a st => wpO (f a st) Q) Q.xc := by cases r <;> exact Iff.rfl
@[simp] theorem wo_ite {c : Prop} [Decidable c] {o o' : Out} : wpO (if c then o else o') Q ↔ (c → wpO o Q) ∧ (¬c → wpO o' Q) := by by_cases h : c <;> simp [h]
@[simp] theorem wo_seq {m n : Sm} : wpO (sSeq m n env st) Q ↔ wpO (m env st) { Q with nx := fun env' st' => wpO (n env' st') Q } := by
  unfold sSeq
  cases m env st <;> exact Iff.rfl
@[simp] theorem wo_pass : wpO (sPass env st) Q ↔ Q.nx env st := Iff.rfl
@[simp] theorem wo_if {t : M Bool} {m n : Sm} : wpO (sIf t m n env st) Q ↔ wpR (t env st) (fun k st' => (k = true → wpO (m env st') Q) ∧ (k = false → wpO (n env st') Q)) Q.xc := by unfold sIf; simp
@[simp] theorem wo_ret {m : M D} : wpO (sRet m env st) Q ↔ wpR (m env st) Q.rt Q.xc := by unfold sRet; simp
@[simp] theorem wo_set {i : Nat} {m : M D} : wpO (sSet i m env st) Q ↔ wpR (m env st) (fun d st' => Q.nx (env.set i (some d)) st') Q.xc := by unfold sSet; simp
@[simp] theorem wo_own {i : Nat} {m : M (List D)} : wpO (sOwn i m env st) Q ↔ wpR (m env st) (fun d st' => Q.nx (env.set i (some (.own d))) st') Q.xc := by unfold sOwn; simp
@[simp] theorem wo_ownD {i : Nat} {m : M Dc} : wpO (sOwnD i m env st) Q ↔ wpR (m env st) (fun d st' => Q.nx (env.set i (some (.ownd d))) st') Q.xc := by unfold sOwnD; simp
@[simp] theorem wo_drop {m : M D} : wpO (sDrop m env st) Q ↔ wpR (m env st) (fun _ st' => Q.nx env st') Q.xc := by unfold sDrop; simp
@[simp] theorem wo_raise {c : Str} {m : M (List D)} : wpO (sRaise c m env st) Q ↔ wpR (m env st) (fun _ st' => Q.xc ⟨c, []⟩ st') Q.xc := by unfold sRaise; simp
@[simp] theorem wo_frz {i : Nat} {m : Sm} : wpO (sFrz i m env st) Q ↔ wpO (m (frzE i env) st) Q := Iff.rfl
@[simp] theorem wo_tgt {g : D → Env → Option Env} {m : M D} : wpO (sTgt g m env st) Q ↔ wpR (m env st) (fun d st' => ∃ env', g d env = some env' ∧ Q.nx env' st') Q.xc := by
  unfold sTgt
  rw [wo_out]
  constructor <;> intro h <;> refine h.imp (fun a st q => ?_) (fun _ _ q => q)
  · split at q
    · rename_i e; exact ⟨_, e, q⟩
    · exact q.elim
  · obtain ⟨env', e, q⟩ := q
    simp only [e]; exact q
@[simp] theorem wo_par {is : List Nat} {m : M (List D)} : wpO (sPar is m env st) Q ↔ wpR (m env st) (fun ds st' => (ds.length = is.length ∧ ds.length ≤ 1000) ∧ Q.nx (setsD env is ds) st') Q.xc := by
  unfold sPar
  rw [wo_out]
  constructor <;> intro h <;> refine h.imp (fun a st q => ?_) (fun _ _ q => q)
  · split at q
    · exact ⟨by assumption, q⟩
    · exact q.elim
  · rw [if_pos q.1]; exact q.2
@[simp] theorem wo_for {it : M (List D)} {g : D → Env → Option Env} {m : Sm} : wpO (sFor it g m env st) Q ↔ wpR (it env st) (fun ds st' => wpO (loopM g m ds env st') Q) Q.xc := by unfold sFor; simp
@[simp] theorem wo_loop_nil {g : D → Env → Option Env} {m : Sm} : wpO (loopM g m [] env st) Q ↔ Q.nx env st := by unfold loopM; simp
theorem wo_loop_cons {g : D → Env → Option Env} {m : Sm} {d : D} {ds : List D} : wpO (loopM g m (d :: ds) env st) Q ↔ ∃ env1, g d env = some env1 ∧ wpO (m env1 st) { Q with nx := fun env' st' => wpO (loopM g m ds env' st') Q, ct := fun env' st' => wpO (loopM g m ds env' st') Q, bk := Q.nx } := by
  conv => lhs; unfold loopM
  cases g d env with
  | none => simp
  | some env1 =>
    simp only [Option.some.injEq, exists_eq_left']
    cases m env1 st <;> exact Iff.rfl
theorem wpR_congr {r : Res α} {P P' : α → Sto → Prop} (h : ∀ a st, P a st ↔ P' a st) : wpR r P E ↔ wpR r P' E := ⟨fun q => q.imp (fun a st => (h a st).mp) fun _ _ q => q, fun q => q.imp (fun a st => (h a st).mpr) fun _ _ q => q⟩
theorem iteb {c : Prop} [Decidable c] {o : Out} : wpO (if c then o else .bad) Q ↔ c ∧ wpO o Q := by by_cases h : c <;> simp [h]
theorem itebr {c : Prop} [Decidable c] {r : Res α} : wpR (if c then r else .bad) P E ↔ c ∧ wpR r P E := by by_cases h : c <;> simp [h]
@[simp] theorem wo_nxOf {z : Env × Sto} : wpO (nxOf z) Q ↔ Q.nx z.1 z.2 := Iff.rfl
@[simp] theorem wo_app {pl : M Tag} {m : M D} : wpO (sAppend pl m env st) Q ↔ wpR (pl env st) (fun t st1 => (contL t env st1).isSome = true ∧ wpR (m env st1) (fun d st2 => ∃ xs, contL t env st2 = some xs ∧ xs.length < 1000000 ∧ Q.nx (setL t (xs ++ [d]) env st2).1 (setL t (xs ++ [d]) env st2).2) Q.xc) Q.xc := by
  unfold sAppend
  simp only [wo_out, iteb]
  refine wpR_congr fun t st1 => and_congr_right fun _ => wpR_congr fun d st2 => ?_
  cases contL t env st2 with
  | none => simp
  | some c => simp only [iteb, wo_nxOf, Option.some.injEq, exists_eq_left']
@[simp] theorem wo_setix {pl : M Tag} {mi m : M D} : wpO (sSetIx pl mi m env st) Q ↔ wpR (m env st) (fun d st1 => wpR (pl env st1) (fun t st2 => wpR (mi env st2) (fun i st3 => ∃ ds k, contL t env st3 = some ds ∧ i = .int k ∧ ∃ j, ixN ds.length k = some j ∧ Q.nx (setL t (ds.set j d) env st3).1 (setL t (ds.set j d) env st3).2) Q.xc) Q.xc) Q.xc := by
  unfold sSetIx
  simp only [wo_out]
  refine wpR_congr fun d st1 => wpR_congr fun t st2 => wpR_congr fun i st3 => ?_
  cases contL t env st3 with
  | none => simp
  | some ds =>
    cases i <;> simp
    cases ixN ds.length _ <;> simp
@[simp] theorem wo_put {pl : M Tag} {mi m : M D} : wpO (sPut pl mi m env st) Q ↔ wpR (m env st) (fun d st1 => wpR (pl env st1) (fun t st2 => wpR (mi env st2) (fun k st3 => ∃ c, contD t env st3 = some c ∧ (keyOk c.1 k = true ∧ c.2.length < 1000000) ∧ Q.nx (setDc t (c.1, dPut c.2 k d) env st3).1 (setDc t (c.1, dPut c.2 k d) env st3).2) Q.xc) Q.xc) Q.xc := by
  unfold sPut
  simp only [wo_out]
  refine wpR_congr fun d st1 => wpR_congr fun t st2 => wpR_congr fun k st3 => ?_
  cases contD t env st3 with
  | none => simp
  | some c => simp only [iteb, wo_nxOf, Option.some.injEq, exists_eq_left']
@[simp] theorem wo_del {pl : M Tag} {mi : M D} : wpO (sDel pl mi env st) Q ↔ wpR (pl env st) (fun t st1 => wpR (mi env st1) (fun k st2 => ∃ c, contD t env st2 = some c ∧ (c.1 = false ∧ keyOk false k = true ∧ (dLook c.2 k).isSome = true) ∧ Q.nx (setDc t (c.1, dDrop c.2 k) env st2).1 (setDc t (c.1, dDrop c.2 k) env st2).2) Q.xc) Q.xc := by
  unfold sDel
  simp only [wo_out]
  refine wpR_congr fun t st2 => wpR_congr fun k st3 => ?_
  cases contD t env st3 with
  | none => simp
  | some c => simp only [iteb, wo_nxOf, Option.some.injEq, exists_eq_left']
@[simp] theorem wo_putaug {op : D → D → Option D} {pl : M Tag} {mi m : M D} : wpO (sPutAug op pl mi m env st) Q ↔ wpR (pl env st) (fun t st1 => wpR (mi env st1) (fun k st2 => ∃ c, contD t env st2 = some c ∧ (keyOk c.1 k = true ∧ c.2.length < 1000000) ∧ ∃ dv, dLook c.2 k = some dv ∧
    wpR (m env st2) (fun y st3 => ∃ z c3, op dv y = some z ∧ contD t env st3 = some c3 ∧ (keyOk c3.1 k = true ∧ c3.2.length < 1000000) ∧ Q.nx (setDc t (c3.1, dPut c3.2 k z) env st3).1 (setDc t (c3.1, dPut c3.2 k z) env st3).2) Q.xc) Q.xc) Q.xc := by
  unfold sPutAug
  simp only [wo_out]
  refine wpR_congr fun t st1 => wpR_congr fun k st2 => ?_
  cases contD t env st2 with
  | none => simp
  | some c =>
    simp only [iteb, Option.some.injEq, exists_eq_left']
    refine and_congr_right fun _ => ?_
    cases dLook c.2 k with
    | none => simp
    | some dv =>
      simp only [wo_out, Option.some.injEq, exists_eq_left']
      refine wpR_congr fun y st3 => ?_
      cases op dv y with
      | none => simp
      | some z =>
        cases contD t env st3 with
        | none => simp
        | some c3 => simp only [iteb, wo_nxOf, Option.some.injEq, exists_eq_left', exists_and_left]
@[simp] theorem wo_aug {i : Nat} {op : D → D → Option D} {m : M D} : wpO (sAug i op m env st) Q ↔ ∃ d, env[i]? = some (some d) ∧ d.isOwn = false ∧ wpR (m env st) (fun y st2 => ∃ z, op d y = some z ∧ Q.nx (env.set i (some z)) st2) Q.xc := by
  unfold sAug
  split
  · rename_i h; simp [h, D.isOwn]
  · rename_i h; simp [h, D.isOwn]
  · rename_i h; simp [h, D.isOwn]
  · rename_i h; simp [h, D.isOwn]
  · rename_i h; simp [h]
  · rename_i h; simp [h]
  · rename_i d h1 h2 h3 h4 h
    have hd : d.isOwn = false := by cases d <;> first | rfl | exact absurd rfl (h1 _) | exact absurd rfl (h2 _) | exact absurd rfl (h3 _) | exact absurd rfl (h4 _)
    simp only [wo_out, h, Option.some.injEq, exists_eq_left', hd, true_and]
    refine wpR_congr fun y st2 => ?_
    cases op d y <;> simp
@[simp] theorem wp_slot {i : Nat} {P : Tag → Sto → Prop} : wpR (pSlot i env st) P E ↔ ∃ d, env[i]? = some (some d) ∧ d.isMut = true ∧ P (.slot i) st := by
  unfold pSlot
  split
  · rename_i h; simp [h, D.isMut]
  · rename_i h; simp [h, D.isMut]
  · rename_i h1 h2
    simp only [wp_bad, false_iff]
    rintro ⟨d, e, o, _⟩
    cases d <;> first | exact h1 _ e | exact h2 _ e | cases o
@[simp] theorem wp_pObj {m : M D} {P : Tag → Sto → Prop} : wpR (pObj m env st) P E ↔ wpR (m env st) (fun d st => ∃ n, d = .loc n ∧ P (.obj n) st) E := by
  unfold pObj
  rw [wp_mUn]
  constructor <;> intro h <;> refine h.imp (fun a st q => ?_) (fun _ _ q => q)
  · split at q
    · exact ⟨_, rfl, q⟩
    · exact q.elim
  · obtain ⟨n, rfl, q⟩ := q; exact q
@[simp] theorem wp_pFld {cls fn : Str} {mo : M D} {P : Tag → Sto → Prop} : wpR (pFld cls fn mo env st) P E ↔ wpR (mo env st) (fun d st => ∃ z, objAt d st cls = some z ∧ ∃ v, z.2.lookup fn = some v ∧ v.isMut = true ∧ P (.fld z.1 fn) st) E := by
  unfold pFld
  rw [wp_mUn]
  constructor <;> intro h <;> refine h.imp (fun a st q => ?_) (fun _ _ q => q)
  · split at q
    · rename_i n fs e
      split at q
      · rename_i e2; exact ⟨(n, fs), e, _, e2, rfl, q⟩
      · rename_i e2; exact ⟨(n, fs), e, _, e2, rfl, q⟩
      · exact q.elim
    · exact q.elim
  · obtain ⟨⟨n, fs⟩, e, v, e2, o, q⟩ := q
    dsimp only at e2
    simp only [e]
    cases v <;> first | (simp only [e2]; exact q) | cases o
@[simp] theorem wp_mFld {cls fn : Str} {mo : M D} {P : D → Sto → Prop} : wpR (mFld cls fn mo env st) P E ↔ wpR (mo env st) (fun d st => ∃ z, objAt d st cls = some z ∧ ∃ v, z.2.lookup fn = some v ∧ v.isOwn = false ∧ P v st) E := by
  unfold mFld
  rw [wp_mUn]
  constructor <;> intro h <;> refine h.imp (fun a st q => ?_) (fun _ _ q => q)
  · split at q
    · rename_i n fs e
      split at q
      · exact q.elim
      · exact q.elim
      · exact q.elim
      · exact q.elim
      · exact q.elim
      · rename_i v h1 h2 h3 h4 e2
        refine ⟨(n, fs), e, v, e2, ?_, q⟩
        cases v <;> first | rfl | exact absurd rfl (h1 _) | exact absurd rfl (h2 _) | exact absurd rfl (h3 _) | exact absurd rfl (h4 _)
    · exact q.elim
  · obtain ⟨⟨n, fs⟩, e, v, e2, o, q⟩ := q
    dsimp only at e2
    simp only [e]
    cases v <;> first | (simp only [e2]; exact q) | cases o
@[simp] theorem wp_mFldC {cls fn : Str} {mo : M D} {P : D → Sto → Prop} : wpR (mFldC cls fn mo env st) P E ↔ wpR (mo env st) (fun d st => ∃ z, objAt d st cls = some z ∧ ∃ v, z.2.lookup fn = some v ∧ P v.cur st) E := by
  unfold mFldC
  rw [wp_mUn]
  constructor <;> intro h <;> refine h.imp (fun a st q => ?_) (fun _ _ q => q)
  · split at q
    · rename_i n fs e
      split at q
      · exact q.elim
      · rename_i v e2; exact ⟨(n, fs), e, v, e2, q⟩
    · exact q.elim
  · obtain ⟨⟨n, fs⟩, e, v, e2, q⟩ := q
    dsimp only at e2
    simp only [e, e2]; exact q
@[simp] theorem wp_mMeth {cls m : Str} {mf : Fm} {mo : M D} {n : M (List D)} {P : D → Sto → Prop} : wpR (mMeth cls m mf mo n env st) P E ↔ wpR (mo env st) (fun d st1 => ∃ z, objAt d st1 cls = some z ∧ (z.2.lookup m).isNone = true ∧ wpR (n env st1) (fun ds st2 => wpR (mf (d :: ds) st2) P E) E) E := by
  unfold mMeth
  rw [wp_bind]
  constructor <;> intro h <;> refine h.imp (fun a st q => ?_) (fun _ _ q => q)
  · split at q
    · rename_i n fs e
      rw [itebr, wp_bind] at q
      exact ⟨_, e, q⟩
    · exact q.elim
  · obtain ⟨⟨i, fs⟩, e, q⟩ := q
    simp only [e]
    rw [itebr, wp_bind]
    exact q
@[simp] theorem wp_mMake {cls : Str} {mf : Fm} {n : M (List D)} {P : D → Sto → Prop} : wpR (mMake cls mf n env st) P E ↔ wpR (n env st) (fun ds st1 => wpR (mf (.loc st1.length :: ds) (st1 ++ [.ins cls []])) (fun d st2 => d = .non ∧ P (.loc st1.length) st2) E) E := by
  unfold mMake
  rw [wp_bind]
  constructor <;> intro h <;> refine h.imp (fun a st q => ?_) (fun _ _ q => q)
  · rw [wp_bind] at q
    refine q.imp (fun b st q => ?_) (fun _ _ q => q)
    split at q
    · exact ⟨rfl, q⟩
    · exact q.elim
  · rw [wp_bind]
    refine q.imp (fun b st q => ?_) (fun _ _ q => q)
    obtain ⟨rfl, q⟩ := q
    exact q
@[simp] theorem wo_fldset {cls fn : Str} {mo m : M D} : wpO (sFldSet cls fn mo m env st) Q ↔ wpR (m env st) (fun d st1 => wpR (mo env st1) (fun od st2 => ∃ z, objAt od st2 cls = some z ∧ z.2.length < 900 ∧ Q.nx env (st2.set z.1 (.ins cls (putD fn d z.2)))) Q.xc) Q.xc := by
  unfold sFldSet
  rw [wo_out]
  constructor <;> intro h <;> refine h.imp (fun a st q => ?_) (fun _ _ q => q)
  · rw [wo_out] at q
    refine q.imp (fun b st q => ?_) (fun _ _ q => q)
    split at q
    · rename_i e; rw [iteb] at q; exact ⟨_, e, q⟩
    · exact q.elim
  · rw [wo_out]
    refine q.imp (fun b st q => ?_) (fun _ _ q => q)
    obtain ⟨⟨i, fs⟩, e, q⟩ := q
    simp only [e]; rw [iteb]; exact q
@[simp] theorem wo_fldown {cls fn : Str} {mo : M D} {m : M (List D)} : wpO (sFldOwn cls fn mo m env st) Q ↔ wpR (m env st) (fun d st1 => wpR (mo env st1) (fun od st2 => ∃ z, objAt od st2 cls = some z ∧ z.2.length < 900 ∧ Q.nx env (st2.set z.1 (.ins cls (putD fn (.own d) z.2)))) Q.xc) Q.xc := by
  unfold sFldOwn
  rw [wo_out]
  constructor <;> intro h <;> refine h.imp (fun a st q => ?_) (fun _ _ q => q)
  · rw [wo_out] at q
    refine q.imp (fun b st q => ?_) (fun _ _ q => q)
    split at q
    · rename_i e; rw [iteb] at q; exact ⟨_, e, q⟩
    · exact q.elim
  · rw [wo_out]
    refine q.imp (fun b st q => ?_) (fun _ _ q => q)
    obtain ⟨⟨i, fs⟩, e, q⟩ := q
    simp only [e]; rw [iteb]; exact q
@[simp] theorem wo_fldownd {cls fn : Str} {mo : M D} {m : M Dc} : wpO (sFldOwnD cls fn mo m env st) Q ↔ wpR (m env st) (fun d st1 => wpR (mo env st1) (fun od st2 => ∃ z, objAt od st2 cls = some z ∧ z.2.length < 900 ∧ Q.nx env (st2.set z.1 (.ins cls (putD fn (.ownd d) z.2)))) Q.xc) Q.xc := by
  unfold sFldOwnD
  rw [wo_out]
  constructor <;> intro h <;> refine h.imp (fun a st q => ?_) (fun _ _ q => q)
  · rw [wo_out] at q
    refine q.imp (fun b st q => ?_) (fun _ _ q => q)
    split at q
    · rename_i e; rw [iteb] at q; exact ⟨_, e, q⟩
    · exact q.elim
  · rw [wo_out]
    refine q.imp (fun b st q => ?_) (fun _ _ q => q)
    obtain ⟨⟨i, fs⟩, e, q⟩ := q
    simp only [e]; rw [iteb]; exact q
@[simp] theorem wp_told {ts : Str → Str → Bool} {ws : List (Str × Str)} {m : M D} {P : D → Sto → Prop} : wpR (mTold ts ws m env st) P E ↔ wpR (m env st) P (fun x st' => ∃ r, wordFor ts x.cls ws = some r ∧ P (.str r) st') := by
  unfold mTold
  cases m env st with
  | ok d st' => exact Iff.rfl
  | exc x st' =>
    simp only [wp_exc]
    cases wordFor ts x.cls ws <;> simp
  | bad => exact Iff.rfl
end
/-! ### calls -/
theorem wp_fn {N : Nat} {m : Sm} {ds : List D} {st : Sto} {P : D → Sto → Prop} {E : Exn → Sto → Prop} : wpR (mFn N m ds st) P E ↔ wpO (m (ds.map some ++ List.replicate (N - ds.length) none) st) ⟨fun _ st => P .non st, P, fun _ _ => False, fun _ _ => False, E⟩ := by
  unfold mFn
  cases m (ds.map some ++ List.replicate (N - ds.length) none) st <;> exact Iff.rfl
/-! ### comprehensions -/
end Ev
set_option autoImplicit true
set_option maxRecDepth 100000
set_option maxHeartbeats 4000000
/-! ops on contents, in closed form -/
namespace Ev
open PySem PySem.Spec PyProof.Rows L2
section
variable {i j : Int} {x y : Str} {st : Sto}
@[simp] theorem dAdd_i : dAdd (.int i) (.int j) = some (.int (i + j)) := rfl
@[simp] theorem dAddI_i : dAddI (.int i) (.int j) = some (.int (i + j)) := rfl
@[simp] theorem dSub_i : dSub (.int i) (.int j) = some (.int (i - j)) := rfl
theorem dMul_i (h : (-(2 ^ 64) < i ∧ i < 2 ^ 64) ∨ (-(2 ^ 64) < j ∧ j < 2 ^ 64)) : dMul (.int i) (.int j) = some (.int (i * j)) := if_pos h
theorem dDiv_i (h : 0 < j) (h2 : j < 1073741824) : dDiv (.int i) (.int j) = some (.int (i / j)) := if_pos ⟨h, h2⟩
theorem dMod_i (h : 0 < j) : dMod (.int i) (.int j) = some (.int (i % j)) := if_pos h
@[simp] theorem dLt_i : dOrd fLt (.int i) (.int j) = some (.bl (decide (i < j))) := rfl
@[simp] theorem dLe_i : dOrd fLe (.int i) (.int j) = some (.bl (decide (i ≤ j))) := rfl
@[simp] theorem dGt_i : dOrd fGt (.int i) (.int j) = some (.bl (decide (j < i))) := rfl
@[simp] theorem dGe_i : dOrd fGe (.int i) (.int j) = some (.bl (decide (j ≤ i))) := rfl
@[simp] theorem dOrd_i {op : CmpOp} : dOrd (ordOf op) (.int i) (.int j) = some (.bl (ordOf op i j)) := rfl
@[simp] theorem bq {b : Bool} : D.b? (.bl b) = some b := rfl
theorem eqv_i : D.eqv (.int i) (.int j) = decide (i = j) := by simp [D.eqv]; exact Bool.beq_eq_decide_eq _ _
theorem eqv_s : D.eqv (.str x) (.str y) = decide (x = y) := by simp [D.eqv]; exact Bool.beq_eq_decide_eq _ _
@[simp] theorem okN_i {n : Nat} : okN n (.int i) = true := by cases n <;> rfl
@[simp] theorem okN_s {n : Nat} : okN n (.str x) = true := by cases n <;> rfl
@[simp] theorem okN_n {n : Nat} : okN n .non = true := by cases n <;> rfl
@[simp] theorem okN_b {n : Nat} {b : Bool} : okN n (.bl b) = true := by cases n <;> rfl
@[simp] theorem dEq_i : dEq (.int i) (.int j) = some (.bl (decide (i = j))) := by simp [dEq, eqv_i]
@[simp] theorem dNe_i : dNe (.int i) (.int j) = some (.bl (!decide (i = j))) := by simp [dNe, eqv_i]
@[simp] theorem dEq_s : dEq (.str x) (.str y) = some (.bl (decide (x = y))) := by simp [dEq, eqv_s]
@[simp] theorem dNe_s : dNe (.str x) (.str y) = some (.bl (!decide (x = y))) := by simp [dNe, eqv_s]
@[simp] theorem dInt_i : dInt (.int i) st = some (.int i) := rfl
@[simp] theorem dInt_b {b : Bool} : dInt (.bl b) st = some (.int (if b then 1 else 0)) := rfl
@[simp] theorem dAbs_i : dAbs (.int i) st = some (.int (if i < 0 then -i else i)) := rfl
theorem dIx_loc {n : Nat} {xs : List D} (h : st[n]? = some (.ls xs)) : dIx (.loc n) (.int i) st = L2.atI xs i := by simp [dIx, h]
@[simp] theorem dIx_lst {xs : List D} : dIx (.lst xs) (.int i) st = L2.atI xs i := rfl
@[simp] theorem dIx_tup {xs : List D} : dIx (.tup xs) (.int i) st = L2.atI xs i := rfl
@[simp] theorem own_i : D.isOwn (.int i) = false := rfl
@[simp] theorem own_s : D.isOwn (.str x) = false := rfl
@[simp] theorem own_b {b : Bool} : D.isOwn (.bl b) = false := rfl
@[simp] theorem own_n : D.isOwn .non = false := rfl
@[simp] theorem own_t {ds : List D} : D.isOwn (.tup ds) = false := rfl
@[simp] theorem own_l {ds : List D} : D.isOwn (.lst ds) = false := rfl
@[simp] theorem own_d {c : Dc} : D.isOwn (.dct c) = false := rfl
@[simp] theorem own_o {n : Nat} : D.isOwn (.loc n) = false := rfl
@[simp] theorem own_w {ds : List D} : D.isOwn (.own ds) = true := rfl
@[simp] theorem own_wd {c : Dc} : D.isOwn (.ownd c) = true := rfl
@[simp] theorem mut_w {ds : List D} : D.isMut (.own ds) = true := rfl
@[simp] theorem mut_wd {c : Dc} : D.isMut (.ownd c) = true := rfl
@[simp] theorem own_wl {c : Dc} : D.isOwn (.lkd c) = true := rfl
@[simp] theorem cur_wl {c : Dc} : D.cur (.lkd c) = .dct c := rfl
@[simp] theorem cur_i : D.cur (.int i) = .int i := rfl
@[simp] theorem cur_s : D.cur (.str x) = .str x := rfl
@[simp] theorem cur_w {ds : List D} : D.cur (.own ds) = .lst ds := rfl
@[simp] theorem cur_wd {c : Dc} : D.cur (.ownd c) = .dct c := rfl
@[simp] theorem cur_l {ds : List D} : D.cur (.lst ds) = .lst ds := rfl
@[simp] theorem cur_d {c : Dc} : D.cur (.dct c) = .dct c := rfl
@[simp] theorem at0 {α : Type} {a : α} {l : List α} : L2.atI (a :: l) 0 = some a := by simp [L2.atI, ixN]
@[simp] theorem at1 {α : Type} {a b : α} {l : List α} : L2.atI (a :: b :: l) 1 = some b := by
  have : (1 : Int) < (l.length : Int) + 1 + 1 := by omega
  simp [L2.atI, ixN, this]
@[simp] theorem at2 {α : Type} {a b c : α} {l : List α} : L2.atI (a :: b :: c :: l) 2 = some c := by
  have : (2 : Int) < (l.length : Int) + 1 + 1 + 1 := by omega
  simp [L2.atI, ixN, this]
@[simp] theorem ix30 : ixN 3 0 = some 0 := by decide
@[simp] theorem ix31 : ixN 3 1 = some 1 := by decide
@[simp] theorem ix32 : ixN 3 2 = some 2 := by decide
theorem contL_obj {n : Nat} {env : Env} {xs : List D} (h : st[n]? = some (.ls xs)) : contL (.obj n) env st = some xs := by simp [contL, h]
@[simp] theorem setL_obj {n : Nat} {env : Env} {xs : List D} : setL (.obj n) xs env st = (env, st.set n (.ls xs)) := rfl
end
end Ev
set_option autoImplicit true
set_option maxRecDepth 100000
set_option maxHeartbeats 4000000
/-! dicts by keys that are texts or ints, as plain lists -/
namespace Ev
open PySem PySem.Spec PyProof.Rows L2
section
variable {κ α : Type} [DecidableEq κ]
/-- the first of a key -/
def lk (l : List (κ × α)) (k : κ) : Option α := (l.find? fun p => decide (p.1 = k)).map (·.2)
/-- written -/
def pt (l : List (κ × α)) (k : κ) (a : α) : List (κ × α) := if (l.any fun p => decide (p.1 = k)) = true then l.map (fun p => if p.1 = k then (p.1, a) else p) else l ++ [(k, a)]
/-- taken out -/
def dr (l : List (κ × α)) (k : κ) : List (κ × α) := l.filter fun p => !decide (p.1 = k)
/-- a key's content -/
class KeyD (κ : Type) where
  d : κ → D
  eqv : ∀ a b : κ, D.eqv (d a) (d b) = true ↔ a = b
  ok : ∀ a, keyOk false (d a) = true
instance : KeyD Str := ⟨D.str, fun a b => by rw [eqv_s]; simp, fun a => rfl⟩
instance : KeyD Int := ⟨D.int, fun a b => by rw [eqv_i]; simp, fun a => rfl⟩
variable [KeyD κ] (f : α → D)
def tb (l : List (κ × α)) : List (D × D) := l.map fun p => (KeyD.d p.1, f p.2)
@[simp] theorem tb_nil : tb f ([] : List (κ × α)) = [] := rfl
@[simp] theorem tb_len (l : List (κ × α)) : (tb f l).length = l.length := by simp [tb]
theorem keq (a b : κ) : D.eqv (KeyD.d a) (KeyD.d b) = decide (a = b) := by
  by_cases h : a = b
  · rw [(KeyD.eqv a b).mpr h]; simp [h]
  · have : D.eqv (KeyD.d a) (KeyD.d b) ≠ true := fun z => h ((KeyD.eqv a b).mp z)
    simp [h, this]
@[simp] theorem tb_look (l : List (κ × α)) (k : κ) : dLook (tb f l) (KeyD.d k) = (lk l k).map f := by
  unfold dLook tb lk
  rw [List.find?_map]
  simp only [Function.comp_def, keq]
  cases l.find? fun p => decide (p.1 = k) <;> rfl
@[simp] theorem tb_put (l : List (κ × α)) (k : κ) (a : α) : dPut (tb f l) (KeyD.d k) (f a) = tb f (pt l k a) := by
  unfold dPut pt tb
  rw [List.any_map]
  simp only [Function.comp_def, keq]
  split
  · rw [List.map_map, List.map_map]
    apply List.map_congr_left
    intro p _
    by_cases h : p.1 = k <;> simp [h, keq]
  · simp
@[simp] theorem tb_drop (l : List (κ × α)) (k : κ) : dDrop (tb f l) (KeyD.d k) = tb f (dr l k) := by
  unfold dDrop dr tb
  rw [List.filter_map]
  simp only [Function.comp_def, keq]
theorem in_dct (l : List (κ × α)) (k : κ) : dIn (KeyD.d k) (.dct (false, tb f l)) = some (.bl (lk l k).isSome) := by
  simp [dIn, isIn, KeyD.ok]
theorem notIn_dct (l : List (κ × α)) (k : κ) : dNotIn (KeyD.d k) (.dct (false, tb f l)) = some (.bl !(lk l k).isSome) := by
  simp [dNotIn, isIn, KeyD.ok]
theorem item_dct (l : List (κ × α)) (k : κ) : dItem (.dct (false, tb f l)) (KeyD.d k) = (lk l k).map f := by
  simp [dItem, KeyD.ok]
end
section
variable {α : Type} (f : α → D)
@[simp] theorem in_s (l : List (Str × α)) (k : Str) : dIn (.str k) (.dct (false, tb f l)) = some (.bl (lk l k).isSome) := in_dct f l k
@[simp] theorem notIn_s (l : List (Str × α)) (k : Str) : dNotIn (.str k) (.dct (false, tb f l)) = some (.bl !(lk l k).isSome) := notIn_dct f l k
@[simp] theorem item_s (l : List (Str × α)) (k : Str) : dItem (.dct (false, tb f l)) (.str k) = (lk l k).map f := item_dct f l k
@[simp] theorem look_s (l : List (Str × α)) (k : Str) : dLook (tb f l) (.str k) = (lk l k).map f := tb_look f l k
@[simp] theorem put_s (l : List (Str × α)) (k : Str) (a : α) : dPut (tb f l) (.str k) (f a) = tb f (pt l k a) := tb_put f l k a
@[simp] theorem drop_s (l : List (Str × α)) (k : Str) : dDrop (tb f l) (.str k) = tb f (dr l k) := tb_drop f l k
@[simp] theorem in_n (l : List (Int × α)) (k : Int) : dIn (.int k) (.dct (false, tb f l)) = some (.bl (lk l k).isSome) := in_dct f l k
@[simp] theorem notIn_n (l : List (Int × α)) (k : Int) : dNotIn (.int k) (.dct (false, tb f l)) = some (.bl !(lk l k).isSome) := notIn_dct f l k
@[simp] theorem item_n (l : List (Int × α)) (k : Int) : dItem (.dct (false, tb f l)) (.int k) = (lk l k).map f := item_dct f l k
@[simp] theorem look_n (l : List (Int × α)) (k : Int) : dLook (tb f l) (.int k) = (lk l k).map f := tb_look f l k
@[simp] theorem put_n (l : List (Int × α)) (k : Int) (a : α) : dPut (tb f l) (.int k) (f a) = tb f (pt l k a) := tb_put f l k a
@[simp] theorem drop_n (l : List (Int × α)) (k : Int) : dDrop (tb f l) (.int k) = tb f (dr l k) := tb_drop f l k
@[simp] theorem keyOk_s {k : Str} : keyOk false (.str k) = true := rfl
@[simp] theorem keyOk_n {k : Int} : keyOk false (.int k) = true := rfl
end
@[simp] theorem fMin2_i {i j : Int} {st : Sto} : fMin2 [.int i, .int j] st = .ok (.int (if j < i then j else i)) st := rfl
@[simp] theorem fMax2_i {i j : Int} {st : Sto} : fMax2 [.int i, .int j] st = .ok (.int (if j > i then j else i)) st := rfl
end Ev
set_option autoImplicit true
set_option maxRecDepth 100000
set_option maxHeartbeats 4000000
/-! sorting ints; least and greatest; loops over ranges -/
namespace Ev
open PySem PySem.Spec PyProof.Rows L2
theorem encD_i (i : Int) : encD (.int i) = .int i := by rw [encD]
@[simp] theorem dL_ints {zs : List Int} {st : Sto} : dL (.lst (zs.map .int)) st = some (zs.map .int) := rfl
@[simp] theorem dLen_l {xs : List D} {st : Sto} : dLen (.lst xs) st = some (.int xs.length) := rfl
@[simp] theorem dLen_t {xs : List D} {st : Sto} : dLen (.tup xs) st = some (.int xs.length) := rfl
@[simp] theorem dS_l {xs : List D} {st : Sto} : dS (.lst xs) st = some xs := rfl
@[simp] theorem dS_t {xs : List D} {st : Sto} : dS (.tup xs) st = some xs := rfl
@[simp] theorem dL_l {xs : List D} {st : Sto} : dL (.lst xs) st = some xs := rfl
@[simp] theorem items_l {xs : List D} : D.items (.lst xs) = some xs := rfl
@[simp] theorem items_t {xs : List D} : D.items (.tup xs) = some xs := rfl
end Ev
set_option autoImplicit true
set_option maxRecDepth 100000
set_option maxHeartbeats 4000000
/-! dicts made of pairs -/
namespace Ev
open PySem PySem.Spec PyProof.Rows L2
section
variable {κ α : Type} [DecidableEq κ]
def keys (l : List (κ × α)) : List κ := l.map (·.1)
/-- pairs put in one after another -/
def mg (l : List (κ × α)) : List (κ × α) := l.foldl (fun acc p => pt acc p.1 p.2) []
variable [KeyD κ] (f : α → D)
theorem dKey_d (k : κ) : ∃ q, dKey? (KeyD.d k) = some q := by
  have := KeyD.ok k
  unfold keyOk at this
  rw [if_neg Bool.false_ne_true] at this
  exact Option.isSome_iff_exists.mp this
end
end Ev
set_option autoImplicit true
set_option maxRecDepth 100000
set_option maxHeartbeats 4000000
/-! more of dicts as lists; ranges -/
namespace Ev
open PySem PySem.Spec PyProof.Rows L2
/-- lo, lo + 1, ..: so many -/
def rng (lo : Int) (n : Nat) : List Int := (List.range n).map fun i : Nat => lo + i
@[simp] theorem rng_len (lo : Int) (n : Nat) : (rng lo n).length = n := by simp [rng]
end Ev
set_option autoImplicit true
set_option maxRecDepth 100000
set_option maxHeartbeats 4000000
/-! a thing checked, told -/
namespace Ev
open PySem PySem.Spec PyProof.Rows L2
section
variable {env : Ev.Env} {st : Sto} {Q : Wi} {m due : M D} {v : D} {s t : Sm}
/-! ### one statement, then the rest -/
variable {n : Sm} {mt : M Bool}
theorem sq {r : Sm} (h : wpO (r env st) { Q with nx := fun e s => wpO (n e s) Q }) : wpO (sSeq r n env st) Q := wo_seq.mpr h
end
end Ev
set_option autoImplicit true
set_option maxRecDepth 100000
set_option maxHeartbeats 4000000
/-! comprehensions with effects -/
namespace Ev
open PySem PySem.Spec PyProof.Rows L2
theorem comp_inv {g : D → Ev.Env → Option Ev.Env} {t : M Bool} {el : M D} {env : Ev.Env} (I : List D → List D → Sto → Prop) (step : ∀ d ds acc st, I (d :: ds) acc st → ∃ env1, g d env = some env1 ∧ wpR (t env1 st) (fun b st1 => (b = true → wpR (el env1 st1) (fun y st2 => I ds (acc ++ [y]) st2) fun _ _ => False) ∧ (b = false → I ds acc st1)) fun _ _ => False) :
    ∀ {ds acc : List D} {st : Sto}, I ds acc st → wpR (compM g t el ds acc env st) (fun r st' => I [] r st') fun _ _ => False
  | [], acc, st, h => by unfold compM; exact h
  | d :: ds, acc, st, h => by
    obtain ⟨env1, e, q⟩ := step d ds acc st h
    have rest := fun acc st (h : I ds acc st) => comp_inv I step (ds := ds) (acc := acc) (st := st) h
    unfold compM
    simp only [e]
    cases et : t env1 st with
    | exc x s => rw [et] at q; exact q.elim
    | bad => rw [et] at q; exact q.elim
    | ok b st1 =>
      rw [et] at q
      cases b with
      | false => exact rest acc st1 (q.2 rfl)
      | true =>
        have q1 := q.1 rfl
        simp only
        cases ee : el env1 st1 with
        | exc x s => rw [ee] at q1; exact q1.elim
        | bad => rw [ee] at q1; exact q1.elim
        | ok y st2 => rw [ee] at q1; exact rest _ st2 q1
theorem wp_compI {it : M (List D)} {vs : List Nat} {g : D → Ev.Env → Option Ev.Env} {t : M Bool} {el : M D} {env : Ev.Env} {st : Sto} {P : List D → Sto → Prop} {E : Exn → Sto → Prop} (I : List D → List D → Sto → Prop)
    (hi : wpR (it env st) (fun ds st' => ds.length ≤ 1000000 ∧ I ds [] st' ∧ (∀ d ds acc st, I (d :: ds) acc st → ∃ env1, g d (wipeE env vs) = some env1 ∧ wpR (t env1 st) (fun b st1 => (b = true → wpR (el env1 st1) (fun y st2 => I ds (acc ++ [y]) st2) fun _ _ => False) ∧ (b = false → I ds acc st1)) fun _ _ => False) ∧ ∀ r st', I [] r st' → P r st') E) :
    wpR (mComp it vs g t el env st) P E := by
  unfold mComp
  rw [wp_bind]
  refine hi.imp (fun ds st' ⟨q1, q2, q3, q4⟩ => ?_) (fun _ _ z => z)
  rw [if_pos q1]
  exact (comp_inv I q3 q2).imp q4 fun _ _ z => z.elim
end Ev
set_option autoImplicit true
set_option maxRecDepth 100000
set_option maxHeartbeats 4000000
/-! generator expressions: what they give, their frame's context -/
namespace Ev
open PySem PySem.Spec PyProof.Rows L2
/-! ### mirrors -/
/-- the next thing given, and what is left to be walked -/
def nextM (g : D → Env → Option Env) (t : M Bool) (el : M D) : List D → Env → Sto → Res (Option (D × List D))
  | [], _, st => .ok none st
  | d :: ds, env, st => match g d env with
    | none => .bad
    | some env1 => match t env1 st with
      | .ok true st1 => match el env1 st1 with
        | .ok y st2 => .ok (some (y, ds)) st2
        | _ => .bad
      | .ok false st1 => nextM g t el ds env st1
      | _ => .bad
/-- any, all, sum of what is given -/
def anyM (g : D → Env → Option Env) (t : M Bool) (el : M D) : List D → Env → Sto → Res Bool
  | [], _, st => .ok false st
  | d :: ds, env, st => match g d env with
    | none => .bad
    | some env1 => match t env1 st with
      | .ok true st1 => match el env1 st1 with
        | .ok (.bl b) st2 => if b then .ok true st2 else anyM g t el ds env st2
        | _ => .bad
      | .ok false st1 => anyM g t el ds env st1
      | _ => .bad
section
variable {g : D → Env → Option Env} {t : M Bool} {el : M D} {env : Env}
theorem nextM_len : ∀ {ds : List D} {st st' : Sto} {y : D} {r : List D}, nextM g t el ds env st = .ok (some (y, r)) st' → r.length < ds.length
  | [], st, st', y, r, h => by cases h
  | d :: ds, st, st', y, r, h => by
    unfold nextM at h
    split at h
    · cases h
    · split at h
      · split at h
        · cases h; simp
        · cases h
      · have := nextM_len h
        simp; omega
      · cases h
theorem anyM_next : ∀ {ds : List D} {st : Sto}, anyM g t el ds env st = match nextM g t el ds env st with
    | .ok none st' => .ok false st'
    | .ok (some (.bl b, r)) st' => if b then .ok true st' else anyM g t el r env st'
    | _ => .bad
  | [], st => rfl
  | d :: ds, st => by
    conv => lhs; unfold anyM
    unfold nextM
    cases g d env with
    | none => rfl
    | some env1 =>
      dsimp only
      cases t env1 st with
      | exc x s => rfl
      | bad => rfl
      | ok b st1 =>
        cases b with
        | false => exact anyM_next
        | true =>
          dsimp only
          cases el env1 st1 with
          | exc x s => rfl
          | bad => rfl
          | ok y st2 => cases y <;> rfl
end
/-- where the walk stands behind so many things given -/
def posG (nx : List D → Sto → Res (Option (D × List D))) (ds : List D) (st : Sto) : Nat → Option (List D × Sto)
  | 0 => some (ds, st)
  | j + 1 => match posG nx ds st j with
    | none => none
    | some (r, s) => match nx r s with
      | .ok (some (_, r')) s' => some (r', s')
      | _ => none
theorem posG_len {g : D → Env → Option Env} {t : M Bool} {el : M D} {env : Env} {ds : List D} {st : Sto} : ∀ {j : Nat} {r : List D} {s : Sto}, posG (fun r s => nextM g t el r env s) ds st j = some (r, s) → r.length + j ≤ ds.length
  | 0, r, s, h => by cases h; simp
  | j + 1, r, s, h => by
    unfold posG at h
    split at h
    · cases h
    · rename_i r0 s0 e
      split at h
      · rename_i y r' s' e2
        cases h
        have h1 := posG_len e
        have h2 := nextM_len e2
        omega
      · cases h
/-! ### the frame's names and context -/
/-- a generator expression's names: its own (at vs), captured ones, globals -/
structure GxS (N : List Str) (vs : List Nat) (sc scope : Scope) : Prop where
  kind : scope.kind = .function
  co : scope.isCoroutine = false
  cell : ∀ y ∈ scope.names, y.2 ≠ .cell
  dot : scope.names.lookup (".0" : Str) = some NameKind.local
  own : ∀ (i : Nat) (y : Str), N[i]? = some y → scope.names.lookup y = some .local → i ∈ vs
  free : ∀ y ∈ scope.names, y.2 = .free → sc.names.lookup y.1 = some .cell ∨ sc.names.lookup y.1 = some .free
def gxSB (N : List Str) (vs : List Nat) (sc scope : Scope) : Bool :=
  decide (scope.kind = .function) && !scope.isCoroutine && (scope.names.all fun y => !decide (y.2 = .cell) && (!decide (y.2 = .free) || decide (sc.names.lookup y.1 = some .cell) || decide (sc.names.lookup y.1 = some .free))) &&
    decide (scope.names.lookup (".0" : Str) = some NameKind.local) && (List.range N.length).all fun i => match N[i]? with
      | some y => !decide (scope.names.lookup y = some .local) || vs.contains i
      | none => true
theorem gxS_by {N : List Str} {vs : List Nat} {sc scope : Scope} (h : gxSB N vs sc scope = true) : GxS N vs sc scope := by
  unfold gxSB at h
  simp only [Bool.and_eq_true, Bool.or_eq_true, Bool.not_eq_true', decide_eq_true_eq, decide_eq_false_iff_not, List.all_eq_true] at h
  obtain ⟨⟨⟨⟨h1, h2⟩, h3⟩, h4⟩, h5⟩ := h
  refine ⟨h1, h2, fun y hy => (h3 y hy).1, h4, fun i y e hl => ?_, fun y hy e => ?_⟩
  · have hi : i < N.length := (List.getElem?_eq_some_iff.mp e).1
    have := h5 i (List.mem_range.mpr hi)
    rw [e] at this
    simp only [Bool.or_eq_true, Bool.not_eq_true', decide_eq_false_iff_not] at this
    rcases this with z | z
    · exact absurd hl z
    · simpa using z
  · rcases (h3 y hy).2 with (z | z) | z
    · exact absurd e z
    · exact .inl z
    · exact .inr z
abbrev gxEnv (X : Cx) (scope : Scope) (C : Addr) (code : Value) : PySem.Env := genEnv scope (cloFrom X.env.cells scope.names []) C code builtinsNs X.env
/-- the context of the frame at C, made at s -/
def gxCx (X : Cx) (A : Around) (s : Shared) (H : Hp) (scope : Scope) (C : Addr) (code : Value) (fp : List Addr) : Cx where
  prog := X.prog
  w := X.w
  K := X.K
  mg := X.mg
  base := X.base
  A := A
  N := X.N
  s_0 := s
  H_0 := H
  env := gxEnv X scope C code
  outer := X.stack
  stack := gxEnv X scope C code :: X.stack
  ex := fp
  fn := fun _ => false
  calm := true
  pn := []
  xe := fun _ _ => False
section
variable {X : Cx} {pins pins' : List (Addr × Obj)} {σ : L2.St} {H : Hp} {s : Shared} {vs : List Nat} {scope : Scope} {code : Value} {fp : List Addr} {A : Around}
theorem GxS.has (S : GxS X.N vs X.env.scope scope) (ok : X.Ok) : ∀ y ∈ scope.names, y.2 = .free → ∃ c, X.env.cells.lookup y.1 = some c := fun y hy e => by
  rcases S.free y hy e with k | k
  · exact ok.has _ (.inl k)
  · exact ok.has _ (.inr k)
/-- what is pinned while the frame sleeps -/
def PinOk (Y : Cx) (pins : List (Addr × Obj)) (H : Hp) (h : Heap) : Prop := ∀ p ∈ pins, h.get? p.1 = some p.2 ∧ H p.1 = none ∧ p.1 ≠ Y.env.locals ∧ p.1 ∉ Y.fs ∧ ∀ v, p.2.data ≠ .cell v
theorem gx_start {h₁ : Heap} {g' : Array GenState} {tk : Nat} {m : Str → Option Value} (I : Inv X pins σ H s) (S : GxS X.N vs X.env.scope scope) (hd : A.handled = none) (hfr : A.frames = some (gxEnv X scope s.heap.objs.size code :: X.stack)) (hfp : ∀ b ∈ fp, FpOk X pins H b)
    (hlt : ∀ b ∈ fp, b < s.heap.objs.size) (hns : h₁.Ns s.heap.objs.size m) (kp : ∀ b o, s.heap.get? b = some o → h₁.get? b = some o) (hg : AllBare g') (hpin : PinOk (gxCx X A s H scope s.heap.objs.size code fp) pins' H h₁) :
    Inv (gxCx X A s H scope s.heap.objs.size code fp) pins' (wipe σ vs) H { s with heap := h₁, gens := g', toks := tk } := by
  have hfree := S.has I.ok
  have cm : ∀ {y c}, (cloFrom X.env.cells scope.names []).lookup y = some c → X.env.cells.lookup y = some c := fun {y c} e => by
    rcases cloFrom_mem (PySem.mem_of_lookup e) with hm | ⟨h1, h2⟩
    · cases hm
    · obtain ⟨c1, hc⟩ := hfree _ h1 rfl
      have hc : X.env.cells.lookup y = some c1 := hc
      have e2 : c = c1 := by
        rw [h2, hc] <;> rfl
      rw [e2]
      exact hc
  have look : ∀ {y}, scope.names.lookup y = some .free → ∃ c, (cloFrom X.env.cells scope.names []).lookup y = some c := fun {y} hl => by
    have hy : (y, NameKind.free) ∈ scope.names := PySem.mem_of_lookup hl
    exact mem_lookup (cloFrom_has (cells := X.env.cells) (acc := []) hy)
  have cellK : ∀ {c : Addr} {v : Option Value}, s.heap.IsCell c v → h₁.IsCell c v := fun {c v} ⟨o, ho, hd⟩ => ⟨o, kp _ _ ho, hd⟩
  refine ⟨⟨I.ok.mod, S.kind, I.ok.glob, rfl, Nat.le_refl _, fun y z c e1 e2 => I.ok.inj y z c (cm e1) (cm e2), fun y hy => ?_, fun y c z _ => ?_, fun _ => hd, hfr, .inr ⟨rfl, rfl⟩, fun b hb => ⟨?_, fun x c e z => ?_⟩, fun b o e => I.bs b o e, Nat.le_trans I.ok.bsz I.sz,
      fun b o e hb => ?_, fun b hb hm => ?_, I.stack, I.stkFree⟩,
    rfl, hg, Un.kept kp, ⟨_, hns, fun i y v e1 e2 e3 => ?_⟩, fun y c e => ?_, I.hok.fresh (Nat.le_refl _), fun y c e => I.freeC y c (cm e), fun p hp => hpin p hp, I.hok.kept kp, (by rw [wipe_length]; exact I.len)⟩
  · have hy : scope.names.lookup y = some .cell ∨ scope.names.lookup y = some .free := hy
    rcases hy with hy | hy
    · exact absurd rfl (S.cell _ (PySem.mem_of_lookup hy))
    · exact look hy
  · have z : false = true := z
    cases z
  · exact Nat.ne_of_lt (hlt b hb)
  · exact (hfp b hb).2.2.2.2.1 x c (cm e) z
  · rcases (hfp b hb).2.2.2.1 with z | z
    · exact I.ok.noex b o e z
    · exact absurd (Nat.lt_of_lt_of_le (Heap.lt_size (I.ok.bs b o e).1) z) (Nat.lt_irrefl _)
  · rcases List.mem_cons.mp (I.stkSub b hm) with z | z
    · exact (hfp b hb).2.1 z
    · exact (hfp b hb).2.2.1 z
  · have e3 : Vis scope y := e3
    obtain ⟨e2, hi⟩ := wipe_some e2
    rcases e3 with k | k | k
    · exact absurd (S.own i y e1 k) hi
    · exact absurd rfl (S.cell _ (PySem.mem_of_lookup k))
    · obtain ⟨m, hn, hl⟩ := I.loc
      have hvis : Vis X.env.scope y := (S.free _ (PySem.mem_of_lookup k) rfl).elim (fun k => .inr (.inl k)) (fun k => .inr (.inr k))
      obtain ⟨w', r, q⟩ := hl i y v e1 e2 hvis
      obtain ⟨c2, h2⟩ := look k
      refine ⟨w', r, .inr ⟨.inr k, c2, h2, ?_⟩⟩
      have c1 := cm h2
      rcases q with ⟨k', _⟩ | ⟨_, c3, e', z⟩
      · have k' : X.env.scope.names.lookup y = some .local := k'
        rcases S.free _ (PySem.mem_of_lookup k) rfl with k2 | k2 <;> rw [show X.env.scope.names.lookup y = _ from k2] at k' <;> cases k'
      · rw [c1] at e'
        cases e'
        exact cellK z
  · obtain ⟨w', z⟩ := I.cell y c (cm e)
    exact ⟨w', cellK z⟩
end
section
variable {Y : Cx} {pins pins' : List (Addr × Obj)} {σ : L2.St} {H : Hp} {s : Shared}
/-- other things pinned -/
theorem repin (I : Inv Y pins σ H s) (h : ∀ p ∈ Y.pn ++ pins', s.heap.get? p.1 = some p.2 ∧ H p.1 = none ∧ p.1 ≠ Y.env.locals ∧ p.1 ∉ Y.fs ∧ ∀ v, p.2.data ≠ .cell v) : Inv Y pins' σ H s :=
  ⟨I.ok, I.os, I.bare, I.base, I.loc, I.cell, I.free, I.freeC, h, I.hok, I.len⟩
/-- slots forgotten -/
theorem unslot (I : Inv Y pins σ H s) (vs : List Nat) : Inv Y pins (wipe σ vs) H s :=
  ⟨I.ok, I.os, I.bare, I.base, (by
    obtain ⟨m, hn, hl⟩ := I.loc
    exact ⟨m, hn, fun i y v e1 e2 e3 => hl i y v e1 (wipe_some e2).1 e3⟩), I.cell, I.free, I.freeC, I.pin, I.hok, (by rw [wipe_length]; exact I.len)⟩
end
end Ev
set_option autoImplicit true
set_option maxRecDepth 100000
set_option maxHeartbeats 4000000
/-! generator expressions: the code object, the generator made -/
namespace Ev
open PySem PySem.Spec PyProof.Rows L2 GenW
section
variable {X : Cx} {pins : List (Addr × Obj)} {σ : L2.St} {H : Hp} {s : Shared} {T : List (Addr × Str)} {scope : Scope} {pos : Pos}
/-- what stands behind the making of a generator: its object at a (number n), its frame at C, over the iterator it -/
structure GxMade (X : Cx) (pins : List (Addr × Obj)) (σ : L2.St) (vs : List Nat) (scope : Scope) (tg iter elt : Expr) (ifs : List Expr) (gpos : Pos) (Rw : It → Hp → Prop) (v : Value) (s' : Shared) : Prop where
  ex : ∃ (a C it : Addr) (n : Nat) (fp : List Addr) (tn : Nat → Heap → Prop) (J : It) (H0 : Hp) (s0 : Shared) (cv : Value) (go : Obj),
    v = .ref a ∧ go.cls = .type "generator" ∧ (∃ nm qn, go.data = .fields #[.int n 0, nm, qn]) ∧ go.slots = #[] ∧ C = s0.heap.objs.size ∧ C < a ∧ Rw J H0 ∧ Turn X.prog X.w X.K tg J fp it tn ∧ tn 0 s'.heap ∧ a < s'.heap.objs.size ∧ s'.heap.get? a = some go ∧
    s'.gens[n]? = some (.fresh (.compStart (.GeneratorExp elt [⟨tg, iter, ifs, 0⟩] scope gpos) 0 (.ref it) .none (gxEnv X scope C cv))) ∧ Inv X pins σ H0 s0 ∧ Inv X pins σ H0 s' ∧
    (∀ b ∈ fp, FpOk X pins H0 b ∧ b < C) ∧ (∀ A : Around, A.handled = none → A.frames = some (gxEnv X scope C cv :: X.stack) → Inv (gxCx X A s0 H0 scope C cv fp) [(a, go)] (wipe σ vs) H0 s')
theorem gx_made {k : Nat} {vs : List Nat} {tg iter elt : Expr} {ifs : List Expr} {wi : TI} {R Rw : It → Hp → Prop} (I : Inv X pins σ H s) (hr : Room k X.A) (gt : Gt X.base X.mg T X.env.qual X.env.code pos) (S : GxS X.N vs X.env.scope scope) (hi : PI X tg iter wi) (hw : wi σ H R)
    (hR : ∀ J H1, R J H1 → Tb X.mg T H1 ∧ ∀ H2, LamX.ExtN H1 H2 → Tb X.mg T H2 → Rw J H2) (hs : ∀ x, genFold iter X.env x = pure x) {Q : Value → Shared → Prop}
    (hQ : ∀ v s', GxMade X pins σ vs scope tg iter elt ifs pos Rw v s' → Q v s') : wpAny (model X.prog X.w) X.A (eval (.GeneratorExp elt [⟨tg, iter, ifs, 0⟩] scope pos) X.env) Q X.xe s := by
  refine wpAny_GeneratorExp_make S.co (closure_ok (S.has I.ok)) S.cell S.dot S.kind (by have := hr.dp; omega) ?_ hs
  refine thn (hi.run pins s σ H R I hw) fun xv s1 h1 => thn h1 fun itv s2 h2 => ?_
  obtain ⟨it, fp, tn, J, H1, rfl, I2, tu, t0, hfp, hRJ⟩ := h2
  obtain ⟨hT, hRw⟩ := hR J H1 hRJ
  refine ⟨I2.nolimit, gx_code I2 gt hT fun cv H2 s3 I3 eN T3 hsz hk => ?_⟩
  obtain ⟨_, bm, ob, e1, e2, e3, e4, e5, e6, e7, e8⟩ := gt.bm
  refine wpAny_builtinsFor (m := X.mg) (by rw [I3.ok.glob]; exact I3.mod.glob.keeps I3.bk) e1 e2 (I3.bk _ _ e5) e6 e7 e8 ?_
  intro h' hn' hs'
  have hz : h'.objs.size = s3.heap.objs.size + 1 := by rw [hs'.1, Heap.size_push]
  have k1 : ∀ b o, s3.heap.get? b = some o → h'.get? b = some o := fun b o e => hs'.extBut b o (Nat.ne_of_lt (Heap.lt_size e)) (Heap.get?_push_of_some _ e)
  have fpl : ∀ b ∈ fp, b < s3.heap.objs.size := fun b hb => by
    obtain ⟨o, ho, _⟩ := tu.obj 0 _ t0 b hb
    exact Nat.lt_of_lt_of_le (Heap.lt_size ho) hsz
  have fp3 : ∀ b ∈ fp, FpOk X pins H2 b := fun b hb => by
    obtain ⟨o, ho, _⟩ := tu.obj 0 _ t0 b hb
    obtain ⟨z1, z2⟩ := hfp b hb
    exact ⟨(hk b o z1 ho).2, z2⟩
  refine hQ _ _ ⟨h'.objs.size, s3.heap.objs.size, it, s3.gens.size, fp, tn, J, H2, s3, cv, _, rfl, rfl, ⟨_, _, rfl⟩, rfl, rfl, (by rw [hz]; exact Nat.lt_succ_self _), hRw _ eN T3, tu, ?_, ?_, Heap.get?_push_size _ rfl, Array.getElem?_push_size .., I3, ?_, fun b hb => ⟨fp3 b hb, fpl b hb⟩, fun A hd hfr => ?_⟩
  · refine tu.keep 0 _ _ t0 fun b hb o e => Heap.get?_push_of_some _ (k1 b o (hk b o (hfp b hb).1 e).1)
  · show _ < (h'.push _).objs.size
    rw [Heap.size_push]; exact Nat.lt_succ_self _
  · refine I3.call' (ch := []) rfl (Un.kept fun b o e => Heap.get?_push_of_some _ (k1 b o e)) (I3.hok.kept fun b o e => Heap.get?_push_of_some _ (k1 b o e)) (AllBare.push I3.bare rfl) fun b z => by simp at z
  · refine gx_start (m := fun y => if y = ".0" then some (.ref it) else none) I3 S hd hfr fp3 fpl (hn'.keeps fun b o e => Heap.get?_push_of_some _ e) (fun b o e => Heap.get?_push_of_some _ (k1 b o e)) (AllBare.push I3.bare rfl) fun p hp => ?_
    rw [List.mem_singleton.mp hp]
    refine ⟨Heap.get?_push_size _ rfl, I3.hok.fresh (by rw [hz]; exact Nat.le_succ _), Nat.ne_of_gt (by show s3.heap.objs.size < h'.objs.size; rw [hz]; exact Nat.lt_succ_self _), fun hm => ?_, fun v z => by cases z⟩
    have hm : h'.objs.size ∈ frs X.stack := hm
    rcases List.mem_cons.mp (I3.stkSub _ hm) with z | z
    · have q := I3.lt
      rw [← z, hz] at q
      exact absurd (Nat.lt_trans (Nat.lt_succ_self _) q) (Nat.lt_irrefl _)
    · exact I3.nofs (by rw [hz]; exact Nat.le_succ _) z
end
end Ev
set_option autoImplicit true
set_option maxRecDepth 100000
set_option maxHeartbeats 4000000
/-! generator expressions: the next thing -/
namespace Ev
open PySem PySem.Spec PyProof.Rows L2 GenW
/-- what stays through a generator's life, and its mirror -/
structure GK where
  X : Cx
  T : List (Addr × Str)
  A : Around
  s0 : Shared
  H0 : Hp
  scope : Scope
  cv : Value
  fp : List Addr
  it : Addr
  tn : Nat → Heap → Prop
  J : It
  tg : Expr
  iter : Expr
  elt : Expr
  ifs : List Expr
  gpos : Pos
  a : Addr
  gn : Nat
  go : Obj
  S : Addr
  g : D → Env → Option Env
  mt : M Bool
  el : M D
  ds : List D
  env0 : Env
  st1 : Sto
  W1 : Wm
  H1 : Hp
  σw : L2.St
  vs : List Nat
  κ : Bool
namespace GK
variable (z : GK)
abbrev env : PySem.Env := gxEnv z.X z.scope z.s0.heap.objs.size z.cv
abbrev code : Code := .compLoop (.GeneratorExp z.elt [⟨z.tg, z.iter, z.ifs, 0⟩] z.scope z.gpos) 0 (.ref z.it) .none z.env
abbrev code0 : Code := .compStart (.GeneratorExp z.elt [⟨z.tg, z.iter, z.ifs, 0⟩] z.scope z.gpos) 0 (.ref z.it) .none z.env
abbrev B : Around := z.A.in1.over z.code []
abbrev Y : Cx := gxCx z.X z.B z.s0 z.H0 z.scope z.s0.heap.objs.size z.cv z.fp
def nx : List D → Sto → Res (Option (D × List D)) := fun r s => nextM z.g z.mt z.el r z.env0 s
abbrev pins (o : Obj) : List (Addr × Obj) := [(z.a, z.go), (z.S, o)]
/-- between two things: i walked -/
structure At (o : Obj) (i : Nat) (st : Sto) (W : Wm) (H : Hp) (s : Shared) : Prop where
  inv : Inv z.Y (z.pins o) z.σw H s
  rel : Rel (Gof z.X z.T) W H z.env0 st z.σw
  ext : Ext z.κ z.W1 z.H1 W H
  le : i ≤ z.ds.length
  tn : z.tn i s.heap
  fph : ∀ b ∈ z.fp, H b = none
/-- the end: nothing more -/
def R : GenEnd := fun n s₀ r s1 => r = .ok .next ∧ n ≤ z.ds.length + 1 ∧ ∃ rj sj st' W H o, posG z.nx z.ds z.st1 (z.ds.length + 1 - n) = some (rj, sj) ∧ z.nx rj sj = .ok none st' ∧ s₀.heap.get? z.S = some o ∧ Inv z.Y (z.pins o) z.σw H s1 ∧
  Rel (Gof z.X z.T) W H z.env0 st' z.σw ∧ Ext z.κ z.W1 z.H1 W H
/-- a thing is given -/
def P : Protocol := fun m s₀ v s1 kap => m ≤ z.ds.length ∧ ∃ rj sj st' W H o i yd y, posG z.nx z.ds z.st1 (z.ds.length - m) = some (rj, sj) ∧ z.nx rj sj = .ok (some (yd, z.ds.drop i)) st' ∧ s₀.heap.get? z.S = some o ∧ z.At o i st' W H s1 ∧ RelV y v ∧ Rep z.X.K W H yd y ∧
  ∀ o' s', (∃ r st'', z.nx (z.ds.drop i) st' = .ok r st'') → z.At o' i st' W H s' → s'.heap.get? z.S = some o' → kap (.send .none) s'
/-- what is asked of it all -/
structure Ok : Prop where
  hh : z.A.handled = none
  turn : Turn z.X.prog z.X.w z.X.K z.tg z.J z.fp z.it z.tn
  steps : Steps z.X.K (Ext z.κ) z.ds z.J z.W1 z.H1
  tgt : ∃ is, (∀ i ∈ is, i ∈ z.vs) ∧ GV is z.T z.Y z.tg z.g
  test : TsV z.κ z.T z.Y noX z.ifs z.mt
  elem : EV z.κ z.T z.Y noX z.elt z.el
  wiped : wipe z.σw z.vs = z.σw
  fps : ∀ b ∈ z.fp, b ≠ z.s0.heap.objs.size ∧ b ∉ frs z.X.stack ∧ (∀ x c, z.env.cells.lookup x = some c → c ≠ b) ∧ b ≠ z.a ∧ b ≠ z.S
  co : z.scope.isCoroutine = false
end GK
/-- the iterator's records, pinned as they stand -/
def fpPins (h : Heap) (fp : List Addr) : List (Addr × Obj) := fp.filterMap fun b => (h.get? b).map fun o => (b, o)
theorem mem_fpPins {h : Heap} {fp : List Addr} {b : Addr} {o : Obj} (hb : b ∈ fp) (e : h.get? b = some o) : (b, o) ∈ fpPins h fp := List.mem_filterMap.mpr ⟨b, hb, by rw [e]; rfl⟩
theorem of_fpPins {h : Heap} {fp : List Addr} {p : Addr × Obj} (hp : p ∈ fpPins h fp) : p.1 ∈ fp ∧ h.get? p.1 = some p.2 := by
  obtain ⟨b, hb, e⟩ := List.mem_filterMap.mp hp
  cases q : h.get? b with
  | none => rw [q] at e; cases e
  | some o => rw [q] at e; cases e; exact ⟨hb, q⟩
namespace GK
variable {z : GK}
theorem Ok.fpOk (k : z.Ok) {H : Hp} {b : Addr} {o : Obj} (hb : b ∈ z.fp) (hn : H b = none) : FpOk z.Y (z.pins o) H b := by
  obtain ⟨h1, h2, h3, h4, h5⟩ := k.fps b hb
  refine ⟨hn, h1, h2, .inl hb, h3, fun p hp => ?_⟩
  rcases List.mem_cons.mp (show p ∈ z.pins o from hp) with e | hp
  · rw [e]; exact Ne.symm h4
  · rw [List.mem_singleton.mp hp]; exact Ne.symm h5
/-- its own records pinned -/
theorem Ok.hold (k : z.Ok) {o : Obj} {i : Nat} {σ : L2.St} {H : Hp} {s : Shared} (I : Inv z.Y (z.pins o) σ H s) (t : z.tn i s.heap) (hf : ∀ b ∈ z.fp, H b = none) : Inv z.Y (z.pins o ++ fpPins s.heap z.fp) σ H s :=
  repin I fun p hp => by
    rcases List.mem_append.mp (show p ∈ z.pins o ++ fpPins s.heap z.fp from hp) with h | h
    · exact I.pin p h
    · obtain ⟨h1, h2⟩ := of_fpPins h
      obtain ⟨q1, q2, _⟩ := k.fps p.1 h1
      obtain ⟨ob, e, nc⟩ := k.turn.obj i _ t p.1 h1
      rw [h2] at e
      cases e
      exact ⟨h2, hf p.1 h1, q1, q2, nc⟩
theorem Ok.free (k : z.Ok) {o : Obj} {i : Nat} {σ : L2.St} {H : Hp} {s : Shared} {h : Heap} (I : Inv z.Y (z.pins o ++ fpPins h z.fp) σ H s) (t : z.tn i h) : Inv z.Y (z.pins o) σ H s ∧ z.tn i s.heap ∧ ∀ b ∈ z.fp, H b = none := by
  have inl : ∀ p, p ∈ z.pins o → p ∈ z.Y.pn ++ (z.pins o ++ fpPins h z.fp) := fun p hp => List.mem_append_left (fpPins h z.fp) hp
  have inr : ∀ p, p ∈ fpPins h z.fp → p ∈ z.Y.pn ++ (z.pins o ++ fpPins h z.fp) := fun p hp => List.mem_append_right (z.pins o) hp
  refine ⟨repin I fun p hp => I.pin p (inl p hp), k.turn.keep i _ _ t fun b hb ob e => (I.pin (b, ob) (inr _ (mem_fpPins hb e))).1, fun b hb => ?_⟩
  obtain ⟨ob, e, _⟩ := k.turn.obj i _ t b hb
  exact (I.pin (b, ob) (inr _ (mem_fpPins hb e))).2.1
theorem Ok.seg (k : z.Ok) : ∀ (q i n : Nat) (s₀ s : Shared) (o : Obj) (W : Wm) (H : Hp) (st : Sto) (rj : List D) (sj : Sto), z.ds.length - i = q → n ≤ z.ds.length + 1 → z.ds.length - i + 1 ≤ n → posG z.nx z.ds z.st1 (z.ds.length + 1 - n) = some (rj, sj) → z.nx rj sj = z.nx (z.ds.drop i) st →
    (∃ r st', z.nx (z.ds.drop i) st = .ok r st') → s₀.heap.get? z.S = some o → z.At o i st W H s → Seg (model z.X.prog z.X.w) z.A.in1 z.R z.P n s₀ z.code ((model z.X.prog z.X.w).den z.code) [] s := by
  intro q
  induction q with
  | zero =>
    intro i n s₀ s o W H st rj sj hq hn hl hp hx hok hS hA
    have hi : i = z.ds.length := by have := hA.le; omega
    subst hi
    show Seg _ z.A.in1 _ _ _ s₀ _ ((compTurn (.GeneratorExp z.elt [⟨z.tg, z.iter, z.ifs, 0⟩] z.scope z.gpos) 0 (.ref z.it) .none z.env).onRaise (leaving z.env)) [] s
    rw [compTurn_gen, Sem.onRaise_eq_wrap]
    refine seg_bind_wrap (wpAny_standAt ?_)
    refine seg_bind_wrap (wpAny_mono (k.turn.done z.Y rfl rfl rfl rfl z.ds.length (z.pins o) s z.σw H (fun _ _ => False) hA.inv (fun b hb => k.fpOk hb (hA.fph b hb)) hA.tn (k.steps W H hA.ext).2.1) (fun r s1 hr => ?_) fun _ _ e => e.elim)
    obtain ⟨rfl, I1⟩ := hr
    refine seg_end (.ok .next) ⟨rfl, hn, rj, sj, st, W, H, o, hp, ?_, hS, I1, hA.rel, hA.ext⟩
    rw [hx, List.drop_length]
    rfl
  | succ q ih =>
    intro i n s₀ s o W H st rj sj hq hn hl hp hx hok hS hA
    have hlt : i < z.ds.length := by omega
    show Seg _ z.A.in1 _ _ _ s₀ _ ((compTurn (.GeneratorExp z.elt [⟨z.tg, z.iter, z.ifs, 0⟩] z.scope z.gpos) 0 (.ref z.it) .none z.env).onRaise (leaving z.env)) [] s
    rw [compTurn_gen, Sem.onRaise_eq_wrap]
    refine seg_bind_wrap (wpAny_standAt ?_)
    obtain ⟨go, _, yld⟩ := k.steps W H hA.ext
    refine seg_bind_wrap (wpAny_mono (k.turn.item z.Y rfl rfl rfl rfl i (z.pins o) s z.σw H (fun _ _ => False) hA.inv (fun b hb => k.fpOk hb (hA.fph b hb)) hA.tn (go i hlt)) (fun r s1 hr => ?_) fun _ _ e => e.elim)
    obtain ⟨u, rfl, hr⟩ := hr
    refine seg_bind_wrap (wpAny_mono hr (fun _ s2 hr => ?_) fun _ _ e => e.elim)
    obtain ⟨x, H2, I2, rv, y2, t2, f2⟩ := hr
    obtain ⟨d, ed, qd⟩ := yld i x H2 hlt y2
    obtain ⟨rl2, rp2, e2⟩ := rel_yield hA.rel qd
    have hd : z.ds.drop i = d :: z.ds.drop (i + 1) := by
      rw [List.drop_eq_getElem_cons hlt]
      congr 1
      rw [List.getElem?_eq_getElem hlt] at ed
      exact Option.some.inj ed
    rw [hd] at hx hok
    obtain ⟨rr, rst, hok⟩ := hok
    have hst : z.nx (d :: z.ds.drop (i + 1)) st = (match z.g d z.env0 with
        | none => .bad
        | some env1 => match z.mt env1 st with
          | .ok true st1 => match z.el env1 st1 with
            | .ok y st2 => .ok (some (y, z.ds.drop (i + 1))) st2
            | _ => .bad
          | .ok false st1 => z.nx (z.ds.drop (i + 1)) st1
          | _ => .bad) := by
      unfold nx
      rw [nextM]
      all_goals (cases z.g d z.env0 with
        | none => rfl
        | some env1 =>
          dsimp only
          cases z.mt env1 st with
          | ok b s1 =>
            cases b with
            | false => rfl
            | true =>
              dsimp only
              cases z.el env1 s1 <;> rfl
          | exc x s1 => rfl
          | bad => rfl)
    rw [hst] at hx hok
    clear hst
    cases eg : z.g d z.env0 with
    | none => simp only [eg] at hok; cases hok
    | some env1 =>
      simp only [eg] at hx hok
      obtain ⟨is, hsub, gv⟩ := k.tgt
      obtain ⟨tgt, pg, rg⟩ := gv.ex
      obtain ⟨tt, pt, rt⟩ := k.test.ex
      obtain ⟨te, pe, re⟩ := k.elem.ex
      have I2' := k.hold I2 t2 f2
      refine seg_bind_wrap (wpAny_mono (pg.run _ s2 z.σw H2 x u (fun σ' H' => H' = H2 ∧ Rel (Gof z.X z.T) W H2 env1 st σ' ∧ Off is z.σw σ') I2' rv (rg W H2 z.env0 st z.σw x d env1 _ rl2 rp2 eg fun σ' r' o' => ⟨rfl, r', o'⟩)) (fun _ s3 h3 => ?_) fun _ _ e => e.elim)
      obtain ⟨σ3, H3, I3, eH, rl3, off3⟩ := h3
      subst eH
      have hw : wipe σ3 z.vs = z.σw := (off_wipe off3 hsub).trans k.wiped
      cases et : z.mt env1 st with
      | exc x' st' => simp only [et] at hok; cases hok
      | bad => simp only [et] at hok; cases hok
      | ok b st2 =>
        refine seg_bind_wrap (wpAny_mono (pt.run _ s3 σ3 H3 (fun b' H' => b' = b ∧ ∃ W', Ext z.κ W H3 W' H' ∧ Rel (Gof z.X z.T) W' H' env1 st2 σ3) I3 (rt W H3 env1 st σ3 _ rl3 (by rw [et]; exact fun W' H' b' e' r' eb => ⟨eb, W', e', r'⟩))) (fun ok s4 h4 => ?_) fun _ _ e => e.elim)
        obtain ⟨H4, I4, eb, W4, e4, rl4⟩ := h4
        subst eb
        have back4 : Rel (Gof z.X z.T) W4 H4 z.env0 st2 z.σw := rl2.ofSto e4 rl4.sto
        have ex4 : Ext z.κ z.W1 z.H1 W4 H4 := (hA.ext.trans (e2.weak fun _ => rfl)).trans e4
        cases ok with
        | false =>
          simp only [et] at hx hok
          simp only [Bool.false_eq_true, if_false]
          obtain ⟨I5, t5, f5⟩ := k.free I4 t2
          refine seg_again rfl (ih (i + 1) n s₀ s4 o W4 H4 st2 rj sj (by omega) hn (by omega) hp hx ⟨_, _, hok⟩ hS ⟨?_, back4, ex4, hlt, t5, f5⟩)
          have := unslot I5 z.vs
          rwa [hw] at this
        | true =>
          simp only [et] at hx hok
          simp only [if_true]
          cases ee : z.el env1 st2 with
          | exc x' st' => simp only [ee] at hok; cases hok
          | bad => simp only [ee] at hok; cases hok
          | ok yd st3 =>
            simp only [ee] at hx hok
            have hy : ∀ v, yieldOut z.env v = yieldValue v := fun v => by
              have : z.env.scope.isCoroutine = false := k.co
              simp only [yieldOut, this, Bool.false_eq_true, if_false]
            simp only [hy]
            rw [Sem.bind_eq_wrap', Sem.bind_eq_wrap', Sem.wrap_wrap, Sem.wrap_wrap]
            obtain ⟨n, rfl⟩ : ∃ m, n = m + 1 := ⟨n - 1, by omega⟩
            refine seg_wrap (wpAny_mono (pe.run _ s4 σ3 H4 (fun v H' => ∃ W', Ext z.κ W4 H4 W' H' ∧ Rel (Gof z.X z.T) W' H' env1 st3 σ3 ∧ Rep z.X.K W' H' yd v) I4 (re W4 H4 env1 st2 σ3 _ rl4 (by rw [ee]; exact fun W' H' v e' r' q' => ⟨W', e', r', q'⟩))) (fun v s5 h5 => ?_) fun _ _ e => e.elim)
            obtain ⟨yv, H5, I5, rv5, W5, e5, rl5, rp5⟩ := h5
            obtain ⟨I6, t6, f6⟩ := k.free I5 t2
            have I7 := unslot I6 z.vs
            rw [hw] at I7
            have back5 : Rel (Gof z.X z.T) W5 H5 z.env0 st3 z.σw := back4.ofSto e5 rl5.sto
            refine seg_at (seg_yield rfl rfl rfl ⟨by omega, rj, sj, st3, W5, H5, o, i + 1, yd, yv, (by rw [show z.ds.length - n = z.ds.length + 1 - (n + 1) by omega]; exact hp), hx, hS, ⟨I7, back5, ex4.trans e5, hlt, t6, f6⟩, rv5, rp5, fun o' s' hok' hA' hS' => ?_⟩)
            refine seg_again rfl (ih (i + 1) n s' s' o' W5 H5 st3 (z.ds.drop (i + 1)) st3 (by omega) (by omega) (by omega) ?_ rfl hok' hS' hA')
            have e1 : z.ds.length + 1 - n = (z.ds.length + 1 - (n + 1)) + 1 := by omega
            rw [e1]
            unfold posG
            simp only [hp]
            have hx' : z.nx rj sj = Res.ok (some (yd, List.drop (i + 1) z.ds)) st3 := hx
            simp only [hx']
theorem seg0 (k : z.Ok) {n : Nat} {s₀ s : Shared} {o : Obj} {W : Wm} {H : Hp} (hn : n = z.ds.length + 1) (hok : ∃ r st', z.nx z.ds z.st1 = .ok r st') (hS : s₀.heap.get? z.S = some o) (hA : z.At o 0 z.st1 W H s) :
    Seg (model z.X.prog z.X.w) z.A.in1 z.R z.P n s₀ z.code0 ((model z.X.prog z.X.w).den z.code0) [] s := by
  have loop := k.seg z.ds.length 0 n s₀ s o W H z.st1 z.ds z.st1 (Nat.sub_zero _) (by omega) (by omega) (by rw [hn, Nat.sub_self]; rfl) (by rw [List.drop_zero]) (by rw [List.drop_zero]; exact hok) hS hA
  show Seg _ z.A.in1 _ _ _ s₀ _ ((compStart (.GeneratorExp z.elt [⟨z.tg, z.iter, z.ifs, 0⟩] z.scope z.gpos) 0 (.ref z.it) .none z.env).onRaise (leaving z.env)) [] s
  unfold compStart
  rw [Sem.onRaise_eq_wrap]
  show Seg _ z.A.in1 _ _ _ s₀ _ ((ask >>= _).wrap _ _ _ _) [] s
  refine seg_bind_wrap (wpAny_askSetting ?_)
  split
  · exact seg_again rfl loop
  · first
      | exact seg_bind_wrap (wpAny_rule (seg_bind_wrap (wpAny_standAt (seg_bind_wrap (k.turn.self _ 0 s _ _ hA.tn (seg_again rfl loop))))))
      | (refine seg_bind_wrap (wpAny_rule ?_)
         show Seg _ z.A.in1 _ _ _ s₀ _ ((standAt z.iter.pos >>= _).wrap _ _ _ _) [] s
         exact seg_bind_wrap (wpAny_standAt (seg_bind_wrap (k.turn.self _ 0 s _ _ hA.tn (seg_again rfl loop)))))
/-- the generator sleeps, i things walked -/
structure Zz (z : GK) (o : Obj) (i : Nat) (st : Sto) (W : Wm) (H : Hp) (s : Shared) : Prop where
  at_ : z.At o i st W H s
  gs : ∃ (gs : GenState) (j : Nat), s.gens[z.gn]? = some gs ∧ posG z.nx z.ds z.st1 j = some (z.ds.drop i, st) ∧
    ∀ o' s', (∃ r st'', z.nx (z.ds.drop i) st = .ok r st'') → z.At o' i st W H s' → s'.heap.get? z.S = some o' → gs.Goes (model z.X.prog z.X.w) z.A.in1 z.R z.P (z.ds.length + 1 - j) (.send .none) s'
theorem bare_inv {Y : Cx} {pins : List (Addr × Obj)} {σ : L2.St} {H : Hp} {s : Shared} (I : Inv Y pins σ H s) {n : Nat} {x : GenState} (hx : x.bare = true) : Inv Y pins σ H (s.setGen n x) :=
  ⟨I.ok, I.os, allBare_setGen I.bare hx, I.base, I.loc, I.cell, I.free, I.freeC, I.pin, I.hok, I.len⟩
theorem At.gen {o : Obj} {i : Nat} {st : Sto} {W : Wm} {H : Hp} {s : Shared} (h : z.At o i st W H s) {n : Nat} {x : GenState} (hx : x.bare = true) : z.At o i st W H (s.setGen n x) :=
  ⟨bare_inv h.inv hx, h.rel, h.ext, h.le, h.tn, h.fph⟩
theorem At.pinS {o : Obj} {i : Nat} {st : Sto} {W : Wm} {H : Hp} {s : Shared} (h : z.At o i st W H s) : s.heap.get? z.S = some o := (h.inv.pin (z.S, o) (List.mem_cons_of_mem _ List.mem_cons_self)).1
theorem At.pinA {o : Obj} {i : Nat} {st : Sto} {W : Wm} {H : Hp} {s : Shared} (h : z.At o i st W H s) : s.heap.get? z.a = some z.go := (h.inv.pin (z.a, z.go) List.mem_cons_self).1
theorem next (k : z.Ok) (hroom : z.A.depth < recursionLimit) (hgo : z.go.cls = .type "generator" ∧ (∃ nm qn, z.go.data = .fields #[.int z.gn 0, nm, qn]) ∧ z.go.slots = #[]) {o : Obj} {i : Nat} {st st' : Sto} {W : Wm} {H : Hp} {s : Shared} (h : z.Zz o i st W H s) {r : Option (D × List D)}
    (hnx : z.nx (z.ds.drop i) st = .ok r st') {Q : Option Value → Shared → Prop} {E : Value → Shared → Prop}
    (hN : r = none → ∀ W' H' s', Inv z.Y (z.pins o) z.σw H' s' → Rel (Gof z.X z.T) W' H' z.env0 st' z.σw → Ext z.κ z.W1 z.H1 W' H' → Q none s')
    (hY : ∀ yd i', r = some (yd, z.ds.drop i') → ∀ W' H' s' y v, RelV y v → Rep z.X.K W' H' yd y → z.Zz o i' st' W' H' s' → Q (some v) s') :
    wpAny (model z.X.prog z.X.w) z.A (pyNext (.ref z.a)) Q E s := by
  obtain ⟨hA, gs, j, hgs, hpos, hgoes⟩ := h
  have hg : s.heap.IsGen z.a z.gn := by
    obtain ⟨h1, ⟨nm, qn, h2⟩, h3⟩ := hgo
    exact ⟨z.go, nm, qn, hA.pinA, h1, h2, h3⟩
  have hjl : (z.ds.drop i).length + j ≤ z.ds.length := posG_len hpos
  have e1 : z.ds.length + 1 - (z.ds.length + 1 - j) = j := by omega
  have e2 : z.ds.length - (z.ds.length + 1 - j - 1) = j := by omega
  have hlt : z.gn < s.gens.size := (Array.getElem?_eq_some_iff.mp hgs).1
  refine wpAny_gsz (n := z.gn + 1) hlt ?_
  refine wpAny_pyNext_genexpQ (P := fun n s₀ s1 => n ≤ z.ds.length + 1 ∧ ∃ rj sj st' W H o, posG z.nx z.ds z.st1 (z.ds.length + 1 - n) = some (rj, sj) ∧ z.nx rj sj = .ok none st' ∧ s₀.heap.get? z.S = some o ∧ Inv z.Y (z.pins o) z.σw H s1 ∧
    Rel (Gof z.X z.T) W H z.env0 st' z.σw ∧ Ext z.κ z.W1 z.H1 W H) (Y := z.P) k.hh hA.inv.nolimit hroom hg hgs (hgoes o (s.setGen z.gn .running) ⟨_, _, hnx⟩ (hA.gen rfl) hA.pinS) (fun v s1 gs' hb hv => ?_) (fun s1 hp h' hk => ?_)
  · intro hsz
    obtain ⟨_, rj, sj, st2, W', H', o', i', yd, y, p1, p2, p3, p4, p5, p6, p7⟩ := hv
    rw [e2, hpos] at p1
    cases p1
    rw [hnx] at p2
    cases p2
    have eo : o' = o := by
      have q : s.heap.get? z.S = some o' := p3
      rw [hA.pinS] at q
      exact (Option.some.inj q).symm
    subst eo
    have hsz1 : z.gn < s1.gens.size := by
      have q : (s1.setGen z.gn gs').gens.size = s1.gens.size := setGen_size _ _ _
      have hsz' : z.gn + 1 ≤ (s1.setGen z.gn gs').gens.size := hsz
      omega
    refine hY yd i' rfl W' H' _ y v p5 p6 ⟨p4.gen hb, gs', j + 1, setGen_at hsz1, ?_, fun o2 s2 c1 c2 c3 => ?_⟩
    · unfold posG
      simp only [hpos, hnx]
    · have q := p7 o2 s2 c1 c2 c3
      have e3 : z.ds.length + 1 - j = (z.ds.length + 1 - (j + 1)) + 1 := by omega
      rw [e3] at q
      exact q
  · intro _
    obtain ⟨_, rj, sj, st2, W', H', o', p1, p2, p3, p4, p5, p6⟩ := hp
    rw [e1, hpos] at p1
    cases p1
    rw [hnx] at p2
    cases p2
    have eo : o' = o := by
      have q : s.heap.get? z.S = some o' := p3
      rw [hA.pinS] at q
      exact (Option.some.inj q).symm
    subst eo
    exact hN rfl W' H' _ (p4.call' (ch := []) rfl (Un.kept hk) (p4.hok.kept hk) (allBare_setGen p4.bare rfl) fun b q => by simp at q) p5 p6
end GK
end Ev
set_option autoImplicit true
set_option maxRecDepth 100000
set_option maxHeartbeats 4000000
/-! any, all, sum of a generator expression -/
namespace Ev
open PySem PySem.Spec PyProof.Rows L2 GenW
/-- a generator's frame's room -/
theorem gx_room {k : Nat} {A : Around} (r : Room (k + 1) A) {e : Expr} {gs : List Comprehension} {sc : Scope} {p : Pos} {v w : Value} {env : PySem.Env} : Room k (A.in1.in1.over (.compLoop (.GeneratorExp e gs sc p) 0 v w env) []) :=
  ⟨r.hd, by have := r.dp; show A.depth + 0 + 1 + 3 * k + 5 < _; omega, by have := r.un; show A.units + 1 + 1 + 0 + 3 + 16 * k + 200 < _; omega⟩
theorem gx_frames {A : Around} {l : List PySem.Env} (h : A.frames = some l) {e : Expr} {gs : List Comprehension} {sc : Scope} {p : Pos} {v w : Value} {env : PySem.Env} : (A.in1.in1.over (.compLoop (.GeneratorExp e gs sc p) 0 v w env) []).frames = some (env :: l) := by
  show pushEnvs [env] (pushEnvs [] A.frames) = _
  rw [h]
  rfl
/-- what the iterator has come with -/
def RwG (X : Cx) (T : List (Addr × Str)) (κ κ0 : Bool) (W : Wm) (H : Hp) (env : Env) (σ : L2.St) (ds : List D) (st1 : Sto) : It → Hp → Prop := fun J H1 => ∃ W1, Ext κ W H W1 H1 ∧ Rel (Gof X T) W1 H1 env st1 σ ∧ Steps X.K (Ext κ0) ds J W1 H1
theorem rwG_ext {X : Cx} {T : List (Addr × Str)} {κ κ0 : Bool} {W : Wm} {H : Hp} {env : Env} {σ : L2.St} {ds : List D} {st1 : Sto} (J : It) (H1 : Hp) (h : RwG X T κ κ0 W H env σ ds st1 J H1) : Tb X.mg T H1 ∧ ∀ H2, LamX.ExtN H1 H2 → Tb X.mg T H2 → RwG X T κ κ0 W H env σ ds st1 J H2 := by
  obtain ⟨W1, e1, r1, s1⟩ := h
  exact ⟨r1.sto.tabs, fun H2 eN T2 => ⟨W1, e1.trans (ext_extN r1.sto eN), r1.extN eN T2, fun W' H' k => s1 W' H' ((ext_extN r1.sto eN).trans k)⟩⟩
section
variable {X : Cx} {T : List (Addr × Str)} {pins : List (Addr × Obj)} {σ : L2.St} {vs is : List Nat} {scope : Scope} {tg iter elt : Expr} {ifs : List Expr} {gpos : Pos} {g : D → Env → Option Env} {mt : M Bool} {el : M D} {κ κ0 : Bool} {W0 : Wm} {HH : Hp} {env : Env} {ds : List D} {st1 : Sto}
/-- the consumer's own list stands apart -/
structure Far (z : GK) : Prop where
  sz : z.s0.heap.objs.size ≤ z.S
  cel : ∀ x c, z.env.cells.lookup x = some c → c ≠ z.S
  na : z.S ≠ z.a
  nC : z.S ≠ z.s0.heap.objs.size
  nf : z.S ∉ frs z.X.stack
  np : z.S ∉ z.fp
/-- the generator sleeps; how one comes back from it -/
structure Begun (X : Cx) (T : List (Addr × Str)) (pins : List (Addr × Obj)) (σ : L2.St) (vs : List Nat) (g : D → Env → Option Env) (mt : M Bool) (el : M D) (κ κ0 : Bool) (W0 : Wm) (HH : Hp) (env : Env) (ds : List D) (st1 : Sto) (z : GK) (o : Obj) (s : Shared) : Prop where
  ok : z.Ok
  room : z.A.depth < recursionLimit
  go : z.go.cls = .type "generator" ∧ (∃ nm qn, z.go.data = .fields #[.int z.gn 0, nm, qn]) ∧ z.go.slots = #[]
  prog : z.X = X
  mir : z.g = g ∧ z.mt = mt ∧ z.el = el ∧ z.ds = ds ∧ z.env0 = wipeE env vs
  zz : (∃ r st', nextM g mt el ds (wipeE env vs) st1 = .ok r st') → ∃ W H, z.Zz o 0 st1 W H s
  back : ∀ o' W' H' st' s', Inv z.Y (z.pins o') z.σw H' s' → Rel (Gof z.X z.T) W' H' z.env0 st' z.σw → Ext z.κ z.W1 z.H1 W' H' → Inv X pins σ H' s' ∧ Ext (κ && κ0) W0 HH W' H' ∧ Rel (Gof X T) W' H' env st' σ
theorem begun_of {k : Nat} (hr : Room (k + 1) X.A) (S : GxS X.N vs X.env.scope scope) (hgv : ∀ (A : Around) (s : Shared) (H : Hp) (C : Addr) (code : Value) (fp : List Addr), GV is T (gxCx X A s H scope C code fp) tg g) (ht : ∀ (A : Around) (s : Shared) (H : Hp) (C : Addr) (code : Value) (fp : List Addr), Room k A → TsV κ0 T (gxCx X A s H scope C code fp) noX ifs mt)
    (he : ∀ (A : Around) (s : Shared) (H : Hp) (C : Addr) (code : Value) (fp : List Addr), Room k A → EV κ0 T (gxCx X A s H scope C code fp) noX elt el) (hsub : ∀ i ∈ is, i ∈ vs) {v : Value} {s5 : Shared} (hm : GxMade X pins σ vs scope tg iter elt ifs gpos (RwG X T κ κ0 W0 HH env σ ds st1) v s5) :
    ∃ a go, v = .ref a ∧ s5.heap.get? a = some go ∧ (∃ n nm qn, go.cls = .type "generator" ∧ go.data = .fields #[.int (n : Nat) 0, nm, qn] ∧ go.slots = #[]) ∧ s5.heap.NoLimit ∧
      ∀ (Sx : Addr) (o : Obj) (s6 : Shared), s6.gens = s5.gens → s6.os = s5.os → (∀ b ob, s5.heap.get? b = some ob → s6.heap.get? b = some ob) → s6.heap.get? Sx = some o → ((Sx = a ∧ o = go) ∨ (s5.heap.objs.size ≤ Sx ∧ ∀ c, o.data ≠ .cell c)) →
        ∃ z : GK, z.a = a ∧ z.S = Sx ∧ z.A = X.A.in1 ∧ Begun X T pins σ vs g mt el κ κ0 W0 HH env ds st1 z o s6 ∧ (s5.heap.objs.size ≤ Sx → Far z) := by
  obtain ⟨a, C, it, n, fp, tn, J, H0, s0, cv, go, rfl, g1, g2, g3, rfl, hCa, ⟨W1, e1, r1, st⟩, tu, t0, ha, hgo, hgn, I0, I5, hfp, hY⟩ := hm
  obtain ⟨nm, qn, g2⟩ := g2
  refine ⟨a, go, rfl, hgo, ⟨n, nm, qn, g1, g2, g3⟩, I5.nolimit, fun Sx o s6 hgens hos kp hSx hS => ?_⟩
  let z : GK := { X := X, T := T, A := X.A.in1, s0 := s0, H0 := H0, scope := scope, cv := cv, fp := fp, it := it, tn := tn, J := J, tg := tg, iter := iter, elt := elt, ifs := ifs, gpos := gpos, a := a, gn := n, go := go, S := Sx, g := g, mt := mt, el := el, ds := ds, env0 := wipeE env vs, st1 := st1, W1 := W1, H1 := H0, σw := wipe σ vs, vs := vs, κ := κ0 }
  have hB : Room k z.B := gx_room hr
  have hfr : z.B.frames = some (gxEnv X scope s0.heap.objs.size cv :: X.stack) := gx_frames I5.ok.frames
  have Iy5 : Inv z.Y [(a, go)] (wipe σ vs) H0 s5 := hY z.B hB.hd hfr
  have Iy6 : Inv z.Y [(a, go)] (wipe σ vs) H0 s6 := Iy5.call' (ch := []) hos (Un.kept kp) (Iy5.hok.kept kp) (by rw [hgens]; exact Iy5.bare) fun b q => by simp at q
  have yng : ∀ b, s5.heap.objs.size ≤ b → H0 b = none ∧ b ≠ s0.heap.objs.size ∧ b ∉ frs X.stack ∧ b ∉ fp := fun b hb => by
    have hC : s0.heap.objs.size < s5.heap.objs.size := Nat.lt_trans hCa ha
    refine ⟨I5.hok.fresh hb, Nat.ne_of_gt (Nat.lt_of_lt_of_le hC hb), fun q => ?_, fun q => absurd (Nat.lt_of_lt_of_le ((hfp b q).2) (Nat.le_trans (Nat.le_of_lt hC) hb)) (Nat.lt_irrefl _)⟩
    rcases List.mem_cons.mp (I5.stkSub b q) with w | w
    · have q1 := I5.lt
      rw [← w] at q1
      exact absurd (Nat.lt_of_lt_of_le q1 hb) (Nat.lt_irrefl _)
    · exact I5.nofs hb w
  have pa := Iy6.pin (a, go) List.mem_cons_self
  have Iz : Inv z.Y (z.pins o) (wipe σ vs) H0 s6 := repin Iy6 fun p hp => by
    rcases List.mem_cons.mp (show p ∈ z.pins o from hp) with e | hp
    · rw [e]; exact pa
    · rw [List.mem_singleton.mp hp]
      rcases hS with ⟨q1, q2⟩ | ⟨q1, q2⟩
      · have e : ((z.S, o) : Addr × Obj) = (a, go) := by rw [q2]; exact congrArg (fun x => (x, go)) q1
        rw [e]; exact pa
      · obtain ⟨y1, y2, y3, _⟩ := yng Sx q1
        exact ⟨hSx, y1, y2, y3, q2⟩
  have t6 : tn 0 s6.heap := tu.keep 0 _ _ t0 fun b _ ob e => kp b ob e
  have fph : ∀ b ∈ fp, H0 b = none := fun b hb => (hfp b hb).1.1
  have cels : ∀ x c, z.env.cells.lookup x = some c → X.env.cells.lookup x = some c := fun x c e => by
    rcases cloFrom_mem (PySem.mem_of_lookup e) with hm | ⟨h1, h2⟩
    · cases hm
    · obtain ⟨c1, hc⟩ := S.has I0.ok _ h1 rfl
      have hc : X.env.cells.lookup x = some c1 := hc
      have e2 : c = c1 := by
        rw [h2, hc] <;> rfl
      rw [e2]
      exact hc
  have zok : z.Ok := by
    refine ⟨hr.hd, tu, st, ⟨is, hsub, hgv _ _ _ _ _ _⟩, ht _ _ _ _ _ _ hB, he _ _ _ _ _ _ hB, wipe_wipe, fun b hb => ?_, S.co⟩
    obtain ⟨⟨f1, f2, f3, f4, f5, f6⟩, fC⟩ := hfp b hb
    refine ⟨Nat.ne_of_lt fC, fun q => ?_, fun x c e => ?_, Nat.ne_of_lt (Nat.lt_trans fC hCa), ?_⟩
    · rcases List.mem_cons.mp (I0.stkSub b q) with w | w
      · exact f2 w
      · exact f3 w
    · exact f5 x c (cels x c e)
    · rcases hS with ⟨q1, _⟩ | ⟨q1, _⟩
      · rw [show z.S = a from q1]; exact Nat.ne_of_lt (Nat.lt_trans fC hCa)
      · exact fun w => (yng Sx q1).2.2.2 (by have w : b = Sx := w; rw [← w]; exact hb)
  refine ⟨z, rfl, rfl, rfl, ⟨zok, ?_, ⟨g1, ⟨nm, qn, g2⟩, g3⟩, rfl, ⟨rfl, rfl, rfl, rfl, rfl⟩, fun hok => ⟨W1, H0, ?_⟩, fun o' W' H' st' s' J' r' x' => ?_⟩, fun q => ?_⟩
  · exact hr.depth
  · have hA : ∀ (o' : Obj) (s' : Shared), z.At o' 0 st1 W1 H0 s' → s'.heap.get? z.S = some o' → Seg (model X.prog X.w) z.A.in1 z.R z.P (ds.length + 1 - 0) s' z.code0 ((model X.prog X.w).den z.code0) [] s' := fun o' s' hA' hS' => GK.seg0 zok (by rfl) hok hS' hA'
    refine ⟨⟨Iz, r1.wipe vs, Ext.refl, Nat.zero_le _, t6, fph⟩, .fresh z.code0, 0, by rw [hgens]; exact hgn, by rfl, fun o' s' _ hA' hS' => ⟨rfl, hA o' s' hA' hS'⟩⟩
  · have un : Un (frs X.stack) fp H0 H' s0.heap s'.heap := J'.base
    have x1 : Ext κ0 W1 H0 W' H' := x'
    refine ⟨I0.call' (ch := fp) J'.os un J'.hok J'.bare fun b hb => ?_, (e1.l).trans x1.r, r1.ofSto x1 r'.sto⟩
    obtain ⟨⟨f1, f2, f3, f4, f5, f6⟩, _⟩ := hfp b hb
    exact ⟨f4, f2, f5, f6⟩
  · obtain ⟨_, y2, y3, y4⟩ := yng Sx q
    have lC : s0.heap.objs.size ≤ Sx := Nat.le_of_lt (Nat.lt_of_lt_of_le (Nat.lt_trans hCa ha) q)
    refine ⟨lC, fun x c e w => ?_, fun w => ?_, y2, y3, y4⟩
    · obtain ⟨v, hv⟩ := I0.cell x c (cels x c e)
      have := hv.lt
      rw [show c = Sx from w] at this
      exact absurd (Nat.lt_of_lt_of_le this lC) (Nat.lt_irrefl _)
    · rw [show Sx = a from w] at q
      exact absurd (Nat.lt_of_lt_of_le ha q) (Nat.lt_irrefl _)
end
end Ev
set_option autoImplicit true
set_option maxRecDepth 100000
set_option maxHeartbeats 4000000
/-! any, all, sum of a generator expression: the loops -/
namespace Ev
open PySem PySem.Spec PyProof.Rows L2 GenW
section
variable {z : GK} {A : Around} {R : Result → Shared → Prop} {b : Bool} {st' : Sto} {o : Obj}
theorem any_walk (k : z.Ok) (hroom : z.A.depth < recursionLimit) (hgo : z.go.cls = .type "generator" ∧ (∃ nm qn, z.go.data = .fields #[.int z.gn 0, nm, qn]) ∧ z.go.slots = #[]) (hA : z.A = A.in1)
    (hR : ∀ W' H' s', Inv z.Y (z.pins o) z.σw H' s' → Rel (Gof z.X z.T) W' H' z.env0 st' z.σw → Ext z.κ z.W1 z.H1 W' H' → R (.ok (.ret (.bool b))) s') :
    ∀ (n i : Nat) (st : Sto) (W : Wm) (H : Hp) (s : Shared), (z.ds.drop i).length < n → z.Zz o i st W H s → anyM z.g z.mt z.el (z.ds.drop i) z.env0 st = .ok b st' → codeAny (model z.X.prog z.X.w) A (.builtin "any.loop" ⟨[.ref z.a], []⟩) R s := by
  intro n
  induction n with
  | zero => intro i st W H s hn _ _; omega
  | succ n ih =>
    intro i st W H s hn hz hm
    refine codeAny_builtin F.entry_any_loop (?_ : _)
    rw [Around.under_plainId (F.plain_any_loop) _, ← hA]
    show wpAny _ z.A (pyNext (.ref z.a) >>= _) _ _ s
    rw [anyM_next] at hm
    cases hx : nextM z.g z.mt z.el (z.ds.drop i) z.env0 st with
    | exc x s1 => rw [hx] at hm; cases hm
    | bad => rw [hx] at hm; cases hm
    | ok r st2 =>
      rw [hx] at hm
      refine wpAny_bind (GK.next k hroom hgo hz hx (fun hr W' H' s' J r' x' => ?_) (fun yd i' hr W' H' s' y v rv rp hz' => ?_))
      · subst hr
        cases hm
        exact wpAny_bind (wpAny_rule (wpAny_pure (hR W' H' s' J r' x')))
      · subst hr
        have hlen : (z.ds.drop i').length < (z.ds.drop i).length := nextM_len hx
        cases yd with
        | bl c =>
          have ey := rep_bl.mp rp
          subst ey
          have ev : v = .bool c := rv
          subst ev
          refine wpAny_bind (wpAny_holding (wpAny_truthy_bool (wpAny_bind (wpAny_letGo ?_))))
          cases c with
          | false =>
            have hm : anyM z.g z.mt z.el (z.ds.drop i') z.env0 st2 = .ok b st' := hm
            simp only [Bool.false_eq_true, if_false]
            exact wpAny_pure ⟨plainId_quiet F.plain_any_loop _, ih i' st2 W' H' s' (by omega) hz' hm⟩
          | true =>
            have hm : Res.ok true st2 = .ok b st' := hm
            cases hm
            simp only [if_true]
            exact wpAny_bind (wpAny_rule (wpAny_pure (hR W' H' s' hz'.at_.inv hz'.at_.rel hz'.at_.ext)))
        | _ => cases hm
end
end Ev
set_option autoImplicit true
set_option maxRecDepth 100000
set_option maxHeartbeats 4000000
/-! sum of a generator expression; the rules -/
namespace Ev
open PySem PySem.Spec PyProof.Rows L2 GenW
end Ev
set_option autoImplicit true
set_option maxRecDepth 100000
set_option maxHeartbeats 4000000
/-! any(..), all(..), sum(..) of a generator expression -/
namespace Ev
open PySem PySem.Spec PyProof.Rows L2 GenW
def mAnyG (it : M (List D)) (vs : List Nat) (g : D → Env → Option Env) (t : M Bool) (el : M D) : M D := fun env st => (it env st).bind fun ds st1 => (anyM g t el ds (wipeE env vs) st1).bind fun b st2 => .ok (.bl b) st2
theorem any_ok {g : D → Env → Option Env} {t : M Bool} {el : M D} {ds : List D} {env : Env} {st st' : Sto} {b : Bool} (h : anyM g t el ds env st = .ok b st') : ∃ r st'', nextM g t el ds env st = .ok r st'' := by
  rw [anyM_next] at h
  cases e : nextM g t el ds env st with
  | ok r s => exact ⟨r, s, rfl⟩
  | exc x s => rw [e] at h; cases h
  | bad => rw [e] at h; cases h
theorem any_nx {g : D → Env → Option Env} {t : M Bool} {el : M D} {env : Env} : ∀ {ds : List D} {st s' : Sto} {x : Exn}, anyM g t el ds env st ≠ .exc x s'
  | [], _, _, _ => by intro h; cases h
  | d :: ds, st, s', x => by
    intro h
    unfold anyM at h
    repeat' split at h
    all_goals first | (cases h; done) | exact any_nx h
section
variable {X : Cx} {T : List (Addr × Str)} {Wx : WX} {vs is : List Nat} {scope : Scope} {tg iter elt : Expr} {ifs : List Expr} {p pos gpos : Pos} {g : D → Env → Option Env} {mt : M Bool} {el : M D} {it : M (List D)} {κ κ0 : Bool} {k : Nat}
/-- the generator made, for what comes behind -/
theorem gen_made {pins : List (Addr × Obj)} {σ : L2.St} {H : Hp} {s : Shared} {W : Wm} {env : Env} {st : Sto} {Q' : Value → Shared → Prop} {α : Type} {f : List D → Env → Sto → Res α} {R3 : Wm → Hp → α → V → Prop} {Q : VK} (hr : Room (k + 1) X.A) (gt : Gt X.base X.mg T X.env.qual X.env.code gpos) (hi : IV κ (Ext κ0) T X Wx tg iter it) (hcx : X.xe = X.xe)
    (S : GxS X.N vs X.env.scope scope) (hgv : ∀ (A : Around) (s : Shared) (H : Hp) (C : Addr) (code : Value) (fp : List Addr), GV is T (gxCx X A s H scope C code fp) tg g) (ht : ∀ (A : Around) (s : Shared) (H : Hp) (C : Addr) (code : Value) (fp : List Addr), Room k A → TsV κ0 T (gxCx X A s H scope C code fp) noX ifs mt)
    (he : ∀ (A : Around) (s : Shared) (H : Hp) (C : Addr) (code : Value) (fp : List Addr), Room k A → EV κ0 T (gxCx X A s H scope C code fp) noX elt el) (hsub : ∀ i ∈ is, i ∈ vs) (hs : ∀ x, genFold iter X.env x = pure x)
    (I : Inv X pins σ H s) (rl : Rel (Gof X T) W H env st σ) (hp : Post (κ && κ0) R3 (Gof X T) Wx W H env σ ((it env st).bind fun ds st1 => f ds (wipeE env vs) st1) Q)
    (hQ : ∀ ds st1 a go s5 n, Post (κ && κ0) R3 (Gof X T) Wx W H env σ (f ds (wipeE env vs) st1) Q → s5.heap.get? a = some go → s5.heap.IsGen a n → s5.heap.NoLimit →
      (∀ (Sx : Addr) (o : Obj) (s6 : Shared), s6.gens = s5.gens → s6.os = s5.os → (∀ b ob, s5.heap.get? b = some ob → s6.heap.get? b = some ob) → s6.heap.get? Sx = some o → ((Sx = a ∧ o = go) ∨ (s5.heap.objs.size ≤ Sx ∧ ∀ c, o.data ≠ .cell c)) →
        ∃ z : GK, z.a = a ∧ z.S = Sx ∧ z.A = X.A.in1 ∧ Begun X T pins σ vs g mt el κ κ0 W H env ds st1 z o s6 ∧ (s5.heap.objs.size ≤ Sx → Far z)) → Q' (.ref a) s5) :
    wpAny (model X.prog X.w) X.A (eval (.GeneratorExp elt [⟨tg, iter, ifs, 0⟩] scope gpos) X.env) Q' X.xe s := by
  obtain ⟨wi, pw, rw'⟩ := hi.ex
  cases em : it env st with
  | bad => rw [em] at hp; exact hp.elim
  | exc x st' =>
    rw [em] at hp
    exact gx_made (R := fun _ _ => False) (Rw := fun _ _ => False) I hr gt S pw (rw' W H env st σ _ rl (by rw [em]; exact hp)) (fun _ _ q => q.elim) hs fun v s' ⟨_, _, _, _, _, _, _, _, _, _, _, _, _, _, _, _, _, q, _⟩ => q.elim
  | ok ds st1 =>
    rw [em] at hp
    refine gx_made (R := RwG X T κ κ0 W H env σ ds st1) (Rw := RwG X T κ κ0 W H env σ ds st1) I hr gt S pw (rw' W H env st σ _ rl (by rw [em]; exact fun W1 H1 J e1 r1 s1 => ⟨W1, e1, r1, s1⟩)) (fun J H1 q => rwG_ext J H1 q) hs fun v s5 hm => ?_
    obtain ⟨a, go, rfl, hgo, ⟨n, nm, qn, g1, g2, g3⟩, hl, hb⟩ := begun_of hr S hgv ht he hsub hm
    exact hQ ds st1 a go s5 n hp hgo ⟨go, nm, qn, hgo, g1, g2, g3⟩ hl hb
theorem ev_anyG (hr : Room (k + 1) X.A) (gt : Gt X.base X.mg T X.env.qual X.env.code gpos) (hg : Gl X "any") (hm : X.mg "any" = none) (hi : IV κ (Ext κ0) T X Wx tg iter it)
    (hgv : ∀ (A : Around) (s : Shared) (H : Hp) (C : Addr) (code : Value) (fp : List Addr), GV is T (gxCx X A s H scope C code fp) tg g) (ht : ∀ (A : Around) (s : Shared) (H : Hp) (C : Addr) (code : Value) (fp : List Addr), Room k A → TsV κ0 T (gxCx X A s H scope C code fp) noX ifs mt)
    (he : ∀ (A : Around) (s : Shared) (H : Hp) (C : Addr) (code : Value) (fp : List Addr), Room k A → EV κ0 T (gxCx X A s H scope C code fp) noX elt el) (hsub : ∀ i ∈ is, i ∈ vs := by decide) (S : gxSB X.N vs X.env.scope scope = true := by rfl) (hs : ∀ x, genFold iter X.env x = pure x := by intro _; rfl)
    (hse : starEach [.GeneratorExp elt [⟨tg, iter, ifs, 0⟩] scope gpos] X.env = (false, eval (.GeneratorExp elt [⟨tg, iter, ifs, 0⟩] scope gpos) X.env) :: starEach [] X.env := by rfl) :
    EV (κ && κ0) T X Wx (.Call (.Name "any" p) [.GeneratorExp elt [⟨tg, iter, ifs, 0⟩] scope gpos] [] pos) (mAnyG it vs g mt el) := by
  refine ⟨fun σ H Q => ∃ W env st, Rel (Gof X T) W H env st σ ∧ Post (κ && κ0) (RepR X) (Gof X T) Wx W H env σ (mAnyG it vs g mt el env st) Q, ⟨fun pins s σ H Q I ⟨W, env, st, rl, hp⟩ => ?_⟩, fun W H env st σ Q rl hp => ⟨W, env, st, rl, hp⟩⟩
  refine wpAny_Call_Name_kw (ld_blt I hg hm boot_any ?_)
  refine PyProof.Rows.callWith_builtin1 ?_ hse (by rfl)
  rw [hse]
  show wpAny _ _ (spliced ((false, eval (.GeneratorExp elt [⟨tg, iter, ifs, 0⟩] scope gpos) X.env) :: backTo pos (starEach [] X.env))) _ _ s
  refine Calls.spliced_cons (gen_made (f := fun ds e st1 => (anyM g mt el ds e st1).bind fun b st2 => Res.ok (D.bl b) st2) hr gt hi rfl (gxS_by S) hgv ht he hsub hs I rl hp fun ds st1 a go s5 n hp5 hgo hgen hlim hbeg => ?_)
  refine Calls.spliced_nil ?_
  refine call_function_tree F.kind_any F.plain_any F.entry_any (F.args_any1 _) ?_
  unfold Builtin.«any»
  refine wpAny_bind (m := oneArg "any" _) (wpAny_pure ?_)
  refine wpAny_bind (wpAny_pyIter_gen hgen ?_)
  obtain ⟨z, hza, hzS, hzA, B, _⟩ := hbeg a go s5 rfl rfl (fun _ _ e => e) hgo (.inl ⟨rfl, rfl⟩)
  refine wpAny_pure ⟨plainId_quiet F.plain_any_loop _, ?_⟩
  obtain ⟨m1, m2, m3, m4, m5⟩ := B.mir
  cases ea : anyM g mt el ds (wipeE env vs) st1 with
  | bad => rw [ea] at hp5; exact hp5.elim
  | exc x st' => exact absurd ea any_nx
  | ok b st2 =>
    rw [ea] at hp5
    obtain ⟨W5, H5, hz⟩ := B.zz (any_ok ea)
    have key : ∀ R' : Result → Shared → Prop, (∀ W' H' s', Inv z.Y (z.pins go) z.σw H' s' → Rel (Gof z.X z.T) W' H' z.env0 st2 z.σw → Ext z.κ z.W1 z.H1 W' H' → R' (.ok (.ret (.bool b))) s') → codeAny (model X.prog X.w) X.A (.builtin "any.loop" ⟨[.ref a], []⟩) R' s5 := fun R' hR' => by
      have q := any_walk B.ok B.room B.go hzA (R := R') hR' (z.ds.length + 1) 0 st1 W5 H5 s5 (by simp) hz (by rw [m1, m2, m3, m4, m5]; exact ea)
      rw [B.prog, hza] at q
      exact q
    refine key _ fun W' H' s' J r' x' => ?_
    obtain ⟨I', e', r2⟩ := B.back go W' H' st2 s' J r' x'
    exact ⟨.bl b, H', I', rfl, hp5 W' H' _ e' r2 (rep_bl.mpr rfl)⟩
end
end Ev
set_option autoImplicit true
set_option maxRecDepth 100000
set_option maxHeartbeats 4000000
/-! all(..), sum(..) of a generator expression -/
namespace Ev
open PySem PySem.Spec PyProof.Rows L2 GenW
end Ev
set_option autoImplicit true
set_option maxRecDepth 100000
set_option maxHeartbeats 4000000
/-! a field op= e, while, d.get(k, x) -/
namespace Ev
open PySem PySem.Spec PyProof.Rows L2
section
variable {T : List (Addr × Str)} {X : Cx} {Wx : WX} {κ κ' κa κb κc : Bool} {a b c e o : Expr} {ma mb mc mo : M D} {cls fn : Str} {C : Addr} {p pos pos' tpos apos : Pos} {R1 : Wm → Hp → D → V → Prop}
/-! ### o.f op= e -/
/-! ### while -/
/-! ### d.get(k, x) -/
def mGet2 (md mk mx : M D) : M D := fun env st => (md env st).bind fun d st1 => match d with
  | .dct c => (mk env st1).bind fun k st2 => (mx env st2).bind fun x st3 => if keyOk c.1 k = true then .ok ((dLook c.2 k).getD x) st3 else .bad
  | _ => .bad
end
end Ev
set_option autoImplicit true
set_option maxRecDepth 100000
set_option maxHeartbeats 4000000
/-! an object's own dict walked: locked the while -/
namespace Ev
open PySem PySem.Spec PyProof.Rows L2
end Ev
set_option autoImplicit true
set_option maxRecDepth 100000
set_option maxHeartbeats 4000000
/-! the locked field's keys, values, pairs -/
namespace Ev
open PySem PySem.Spec PyProof.Rows L2
end Ev
set_option autoImplicit true
set_option maxRecDepth 100000
set_option maxHeartbeats 4000000
/-! dict displays; list, tuple, sorted of d.items() -/
namespace Ev
open PySem PySem.Spec PyProof.Rows L2
/-! ### displays -/
def mNilP : M (List (D × D)) := fun _ st => .ok [] st
def mConsP (mk mv : M D) (n : M (List (D × D))) : M (List (D × D)) := fun env st => (mk env st).bind fun k st1 => (mv env st1).bind fun v st2 => (n env st2).bind fun r st3 => .ok ((k, v) :: r) st3
section
variable {T : List (Addr × Str)} {X : Cx} {Wx : WX} {κ κ' κa κb κc : Bool} {a b c e o : Expr} {ma mb mc mo : M D} {p pos apos mpos : Pos} {R1 : Wm → Hp → D → V → Prop}
/-- {k: v, ..}, keys ints or texts -/
def mDisp (n : M (List (D × D))) : M Dc := fun env st => (n env st).bind fun ps st' => if ps.length ≤ 15 ∧ (ps.all fun q => (dKey? q.1).isSome) = true then .ok (false, dMerge ps) st' else .bad
end
end Ev
set_option autoImplicit true
set_option maxRecDepth 100000
set_option maxHeartbeats 4000000
/-! list, tuple, sorted of d.items() -/
namespace Ev
open PySem PySem.Spec PyProof.Rows L2
/-! ### the view -/
end Ev
set_option autoImplicit true
set_option maxRecDepth 100000
set_option maxHeartbeats 4000000
/-! sorted(d.items()); the three in contents -/
namespace Ev
open PySem PySem.Spec PyProof.Rows L2
/-! ### in contents -/
def itemsOf (kvs : List (D × D)) : List D := kvs.map fun q => .tup [q.1, q.2]
def dItems : D → Option (List D)
  | .dct (false, kvs) => some (itemsOf kvs)
  | _ => none
end Ev
set_option autoImplicit true
set_option maxRecDepth 100000
set_option maxHeartbeats 4000000
/-! dicts compared; min and max over values and keys; counts in lists -/
namespace Ev
open PySem PySem.Spec PyProof.Rows L2
/-! ### == and != of dicts -/
def okKv (kvs : List (D × D)) : Bool := kvs.all fun p => okN 59 p.2
def hitsD (kb : List (D × D)) : List (D × D) → Bool
  | [] => true
  | p :: r => match dLook kb p.1 with
    | some y => D.eqv p.2 y && hitsD kb r
    | none => false
def eqvK (ka kb : List (D × D)) : Bool := ka.length == kb.length && hitsD kb ka
def dEq2 : D → D → Option D
  | .dct (false, ka), .dct (false, kb) => if okKv ka = true ∧ okKv kb = true then some (.bl (eqvK ka kb)) else none
  | d, e => dEq d e
def dNe2 : D → D → Option D
  | .dct (false, ka), .dct (false, kb) => if okKv ka = true ∧ okKv kb = true then some (.bl (!eqvK ka kb)) else none
  | d, e => dNe d e
end Ev
set_option autoImplicit true
set_option maxRecDepth 100000
set_option maxHeartbeats 4000000
/-! min and max over a dict's values, over a dict -/
namespace Ev
open PySem PySem.Spec PyProof.Rows L2
end Ev
set_option autoImplicit true
set_option maxRecDepth 100000
set_option maxHeartbeats 4000000
/-! min(d); xs.count(x), xs.index(x); list(d) -/
namespace Ev
open PySem PySem.Spec PyProof.Rows L2
/-! ### min(d) -/
/-! ### counts and places in lists -/
/-! ### in contents -/
section
variable {T : List (Addr × Str)} {X : Cx} {Wx : WX} {κ κ' κa κb κc : Bool} {a b c e : Expr} {ma mb mc : M D} {pos p apos : Pos} {R1 R2 R4 : Wm → Hp → D → V → Prop}
def dKeysL : D → Option (List D)
  | .dct (false, kvs) => some (kvs.map (·.1))
  | _ => none
end
end Ev
set_option autoImplicit true
set_option maxRecDepth 100000
set_option maxHeartbeats 4000000
/-! a, d[k], .. = x, y, .. -/
namespace Ev
open PySem PySem.Spec PyProof.Rows L2
end Ev
set_option autoImplicit true
set_option maxRecDepth 100000
set_option maxHeartbeats 4000000
/-! range with a step, zip, reversed; a = b = e -/
namespace Ev
open PySem PySem.Spec PyProof.Rows L2
section
variable {T : List (Addr × Str)} {X : Cx} {Wx : WX} {Kp : Kept} {κ κ' κa κb : Bool} {a b c e tg : Expr} {ma mb mc : M D} {pos p : Pos} {R1 : Wm → Hp → D → V → Prop}
/-! ### zip -/
/-! ### a = b = e -/
def setAll (env : Env) (is : List Nat) (d : D) : Env := is.foldl (fun env i => env.set i (some d)) env
def sChain (is : List Nat) (m : M D) : Sm := fun env st => (m env st).out env fun d st' => .nx (setAll env is d) st'
/-! ### reversed(xs) -/
end
end Ev
set_option autoImplicit true
set_option maxRecDepth 100000
set_option maxHeartbeats 4000000
/-! min and max with a key: the loop, over what is walked -/
namespace Ev
open PySem PySem.Spec PyProof.Rows L2
end Ev
set_option autoImplicit true
set_option maxRecDepth 100000
set_option maxHeartbeats 4000000
/-! a lambda of one parameter, called -/
namespace Ev
open PySem PySem.Spec PyProof.Rows L2
/-- the lambda's names: its parameter p (slot j), captured ones, globals -/
structure LxS (N : List Str) (j : Nat) (p : Str) (sc scope : Scope) : Prop where
  kind : scope.kind = .function
  co : scope.isCoroutine = false
  gen : scope.isGenerator = false
  cell : ∀ y ∈ scope.names, y.2 ≠ .cell
  par : scope.names.lookup p = some .local
  at_ : N[j]? = some p
  own : ∀ (i : Nat) (y : Str), N[i]? = some y → scope.names.lookup y = some .local → y = p ∧ i = j
  free : ∀ y ∈ scope.names, y.2 = .free → sc.names.lookup y.1 = some .cell ∨ sc.names.lookup y.1 = some .free
section
variable {X : Cx} {pins : List (Addr × Obj)} {σ : L2.St} {H : Hp} {s : Shared}
theorem LxS.has {j : Nat} {p : Str} {scope : Scope} (L : LxS X.N j p X.env.scope scope) (ok : X.Ok) : ∀ y ∈ scope.names, y.2 = .free → ∃ c, X.env.cells.lookup y.1 = some c := fun y hy e => by
  rcases L.free y hy e with k | k
  · exact ok.has _ (.inl k)
  · exact ok.has _ (.inr k)
theorem lx_start {A : Around} {E : XK} {j : Nat} {p : Str} {scope : Scope} {f c' : Addr} {h₁ : Heap} {tk : Nat} {x : V} {u : Value} (I : Inv X pins σ H s) (L : LxS X.N j p X.env.scope scope) (r : RelV x u) (e0 : Env0 X.prog X.w X.K X.mg X.base A X.stack s H) (hd : A.handled = none)
    (hns : h₁.Ns s.heap.objs.size fun y => [(p, u)].reverse.lookup y) (kp : ∀ b o, s.heap.get? b = some o → h₁.get? b = some o) :
    Inv (LamX.lamCx X A X.stack s H E scope f c') [] ((wipe σ [j]).set j (some x)) H { s with heap := h₁, toks := tk } := by
  have hfree := L.has I.ok
  have cm : ∀ {y c}, (cloFrom X.env.cells scope.names []).lookup y = some c → X.env.cells.lookup y = some c := fun {y c} e => by
    rcases cloFrom_mem (PySem.mem_of_lookup e) with hm | ⟨h1, h2⟩
    · cases hm
    · obtain ⟨c1, hc⟩ := hfree _ h1 rfl
      have hc : X.env.cells.lookup y = some c1 := hc
      have e2 : c = c1 := by
        rw [h2, hc] <;> rfl
      rw [e2]
      exact hc
  have look : ∀ {y}, scope.names.lookup y = some .free → ∃ c, (cloFrom X.env.cells scope.names []).lookup y = some c := fun {y} hl => by
    have hy : (y, NameKind.free) ∈ scope.names := PySem.mem_of_lookup hl
    exact mem_lookup (cloFrom_has (cells := X.env.cells) (acc := []) hy)
  have cellK : ∀ {c : Addr} {v : Option Value}, s.heap.IsCell c v → h₁.IsCell c v := fun {c v} ⟨o, ho, hd⟩ => ⟨o, kp _ _ ho, hd⟩
  have noA : ∀ b : Addr, b ∉ (LamX.lamCx X A X.stack s H E scope f c').ex := fun b z => absurd (show b ∈ ([] : List Addr) from z) (by simp)
  have hj : j < σ.length := by rw [I.len]; exact (List.getElem?_eq_some_iff.mp L.at_).1
  refine ⟨⟨e0.mod, L.kind, rfl, rfl, Nat.le_refl _, fun y z c e1 e2 => I.ok.inj y z c (cm e1) (cm e2), fun y hy => ?_, fun y c z _ => ?_, fun _ => hd, Around.frames_deeper e0.frames, .inr ⟨rfl, rfl⟩, fun b z => absurd z (noA b), e0.bs, e0.bsz, fun b _ _ => noA b,
      fun b z => absurd z (noA b), e0.funs, e0.frf⟩,
    rfl, e0.bare, Un.kept kp, ⟨_, hns, fun i y v e1 e2 e3 => ?_⟩, fun y c e => ?_, e0.hok.fresh (Nat.le_refl _), fun y c e => I.freeC y c (cm e), fun q hq => absurd (show q ∈ ([] : List (Addr × Obj)) ++ [] from hq) (by simp), e0.hok.kept kp, (by rw [List.length_set, wipe_length]; exact I.len)⟩
  · have hy : scope.names.lookup y = some .cell ∨ scope.names.lookup y = some .free := hy
    rcases hy with hy | hy
    · exact absurd rfl (L.cell _ (PySem.mem_of_lookup hy))
    · exact look hy
  · have z : false = true := z
    cases z
  · have e3 : Vis scope y := e3
    rcases e3 with k | k | k
    · obtain ⟨ey, ei⟩ := L.own i y e1 k
      subst ey
      subst ei
      rw [List.getElem?_set_self (by rw [wipe_length]; exact hj)] at e2
      cases e2
      exact ⟨u, r, .inl ⟨k, by simp⟩⟩
    · exact absurd rfl (L.cell _ (PySem.mem_of_lookup k))
    · have hij : j ≠ i := fun z => by
        subst z
        have e1 : X.N[j]? = some y := e1
        rw [L.at_] at e1
        cases e1
        rw [L.par] at k
        cases k
      rw [List.getElem?_set_ne hij] at e2
      obtain ⟨e2, _⟩ := wipe_some e2
      obtain ⟨m, hn, hl⟩ := I.loc
      have hvis : Vis X.env.scope y := (L.free _ (PySem.mem_of_lookup k) rfl).elim (fun k => .inr (.inl k)) (fun k => .inr (.inr k))
      obtain ⟨w', r, q⟩ := hl i y v e1 e2 hvis
      obtain ⟨c2, h2⟩ := look k
      refine ⟨w', r, .inr ⟨.inr k, c2, h2, ?_⟩⟩
      have c1 := cm h2
      rcases q with ⟨k', _⟩ | ⟨_, c3, e', z⟩
      · have k' : X.env.scope.names.lookup y = some .local := k'
        rcases L.free _ (PySem.mem_of_lookup k) rfl with k2 | k2 <;> rw [show X.env.scope.names.lookup y = _ from k2] at k' <;> cases k'
      · rw [c1] at e'
        cases e'
        exact cellK z
  · obtain ⟨w', z⟩ := I.cell y c (cm e)
    exact ⟨w', cellK z⟩
/-- f(u), f the lambda, from within a builtin (A) -/
theorem lx_call {A : Around} {k j : Nat} {p : Str} {scope : Scope} {f c' : Addr} {params : Arguments} {body : Expr} {pm ctv : Value} {x : V} {u : Value} {tb : TE} {Q : VK} {Q' : Value → Shared → Prop} {E' : Value → Shared → Prop}
    (I : Inv X pins σ H s) (L : LxS X.N j p X.env.scope scope) (r : RelV x u) (hA : Room (k + 1) A) (hfr : A.frames = some X.stack)
    (hf : s.heap.get? f = some (PySem.W.kla_obj "<lambda>" (X.env.qual ++ "<lambda>") params body scope (cloFrom X.env.cells scope.names []) pm c' ctv)) (hcode : ∃ (oc : Obj) (vs : Array Value) (t : Tok), s.heap.get? c' = some oc ∧ oc.data = .fields vs ∧ vs[1]? = some (.str (X.env.qual ++ "<lambda>") t))
    (hbind : bindArgs (PySem.W.kla_fn "<lambda>" (X.env.qual ++ "<lambda>") params body scope (cloFrom X.env.cells scope.names []) pm (.ref c') ctv) ⟨[u], []⟩ = pure [(p, u)])
    (hbody : PE (LamX.lamCx X A X.stack s H (fun _ _ _ => False) scope f c') body tb) (ht : tb ((wipe σ [j]).set j (some x)) H Q)
    (hQ : ∀ v s', EP X pins σ Q v s' → Q' v s') : wpAny (model X.prog X.w) A (call (.ref f) [u]) Q' E' s := by
  obtain ⟨oc, vs, t, hoc, hdc, hvc⟩ := hcode
  have e0 : Env0 X.prog X.w X.K X.mg X.base A X.stack s H := ⟨hfr, I.ok.mod, I.bs, Nat.le_trans I.ok.bsz I.sz, I.stack, I.stkFree, I.hok, I.bare⟩
  have rc : codeAny (model X.prog X.w) A (.call (.ref f) ⟨[u], []⟩) (CR (L2.CX X.prog X.w) X.stack X.prog X.w H s Q (fun _ _ _ => False)) s := by
    refine PySem.W.kla_callFunE hA.depth hf rfl L.co L.gen rfl ⟨c', oc, vs, t, rfl, hoc, hdc, hvc⟩ ?_
    rw [hbind]
    refine wpAny_pure (wpAny_newFunctionEnv (fun y hy => L.cell y hy) (fun y hy => ?_) (fun h₁ hns hsb => ⟨I.nolimit.fresh _ hsb, ?_⟩) L.kind)
    · rw [List.mem_singleton.mp hy]; exact L.par
    show codeAny _ _ (.expr body (LamX.lamEnv X scope s.heap.objs.size f c')) _ _
    have kp : ∀ b o, s.heap.get? b = some o → h₁.get? b = some o := fun b o e => hsb.extBut b o (Nat.ne_of_lt (Heap.lt_size e)) (Heap.get?_push_of_some _ e)
    have J : Inv (LamX.lamCx X A X.stack s H (fun _ _ _ => False) scope f c') [] ((wipe σ [j]).set j (some x)) H { s with heap := h₁, toks := s.toks + ([(p, u)] : List (Str × Value)).length } :=
      lx_start I L r e0 hA.hd hns kp
    refine PySem.W.kla_codeExpr (wpAny_mono (hbody.run [] _ _ H Q J ht) (fun v s' hq => ?_) fun e s' hq => hq)
    obtain ⟨w', H', J', rv, q⟩ := hq
    exact ⟨w', H', J'.os, J'.bare, J'.base, J'.hok, rv, q⟩
  refine wpAny_call (codeAny_mono rc fun r s' hq => ?_)
  cases r with
  | error e =>
    obtain ⟨_, _, _, _, _, _, _, _, _, _, _, _, z⟩ := hq
    exact z.elim
  | ok fl =>
    cases fl with
    | ret u => exact hQ _ _ (I.after hq)
    | next => exact False.elim hq
    | brk => exact False.elim hq
    | cont => exact False.elim hq
end
end Ev
set_option autoImplicit true
set_option maxRecDepth 100000
set_option maxHeartbeats 4000000
/-! slices whose bounds call; list(range(a, b, c)) -/
namespace Ev
open PySem PySem.Spec PyProof.Rows L2
section
variable {T : List (Addr × Str)} {X : Cx} {Wx : WX} {κ κ' κl κh : Bool} {a b c e : Expr} {ma mb mc : M D} {pos pos' p p2 : Pos} {lo hi : Option Expr} {ml mh : M (Option Int)} {R1 : Wm → Hp → D → V → Prop}
theorem nv_slice2 (ha : EVg κ R1 T X Wx a ma) (hl : OV κl T X Wx lo ml) (hh : OV κh T X Wx hi mh) (S1 : Stands κl R1 := by first | exact Stands.rep | exact Stands.held | exact Stands.cur) (S2 : Stands κh R1 := by first | exact Stands.rep | exact Stands.held | exact Stands.cur) (c1 : ToCur X R1 := by first | exact ToCur.rep | exact ToCur.held | exact ToCur.cur) :
    NV ((κ && κl) && κh) T X Wx (.Subscript a (.Slice lo hi none p2) pos) (mSl ma ml mh fun d lo hi st => (Res.of (dL d st) st).bind fun xs st => .ok (cutD xs lo hi) st) := by
  obtain ⟨ta, pa, ra⟩ := ha.ex
  obtain ⟨tl, pl, rl⟩ := hl.ex
  obtain ⟨th, ph, rh⟩ := hh.ex
  refine ⟨_, pe_slice sl_list pa pl ph, fun W H env st σ Q r h => ra _ _ _ _ _ _ r (PostN.bind (R := R1) h and3 fun d st1 W1 H1 v e1 r1 q1 h1 => rl _ _ _ _ _ _ r1 (PostN.bind (R := fun _ _ a b => b = a) h1 and32 fun l st2 W2 H2 l' e2 r2 q2 h2 =>
    rh _ _ _ _ _ _ r2 (PostN.bind (R := fun _ _ a b => b = a) h2 and33 fun u st3 W3 H3 u' e3 r3 q3 h3 => ?_)))⟩
  subst q2 q3
  dsimp only at h3
  cases ed : dL d st3 with
  | none => rw [ed] at h3; exact h3.elim
  | some ds =>
    rw [ed] at h3
    obtain ⟨a, vs, rfl, l1, l2⟩ := dL_read r3 (c1 _ _ _ _ (S2 _ _ _ _ _ _ e3 (S1 _ _ _ _ _ _ e2 q1))) ed
    exact ⟨a, vs, rfl, l1, newLst (h3.weak fun _ => rfl) r3 (l2.cut _ _)⟩
/-! ### list(range(a, b, c)) -/
/-! ### targets by name -/
end
end Ev
set_option autoImplicit true
set_option maxRecDepth 100000
set_option maxHeartbeats 4000000
/-! the end, with generator expressions -/
namespace Ev
open PySem PySem.Spec PyProof.Rows L2
theorem gt_of {mg : Str → Option Value} {K : PySem.W.Frag} {base : Heap} {tf : List (He.Defn × Str)} {name qual : Str} {params : Arguments} {body : List Stmt} {scope : Scope} {at_ : He.Defn} {q : Str} {gp : Pos} (F : FunD K name qual params body scope [] [] (He.fAd K at_) (fdOf K (He.fAd K at_))) (nd : tabsNodup tf K = true) (hm : (at_, q ++ "<genexpr>") ∈ tf)
    (TB : ∀ p ∈ tf.map (fun p => He.cT K p.1), LamX.TabB base mg p.1 p.2) : Gt base mg (lamT K tf) q (fdOf K (He.fAd K at_)).code gp := by
  obtain ⟨oc, od, dV, kV, doc, pm, an, cdv, ct, osl, e, lk, hcd, _, _⟩ := F.ex
  obtain ⟨c, ec⟩ := He.codeIn_ref hcd
  have ecode : (fdOf K (He.fAd K at_)).code = .ref c := by rw [e]; exact ec
  have eco : He.codeOf K at_ = c := He.codeOf_eq lk ecode
  have hP : (He.cT K at_) = (c, He.tabOf K c) := by unfold He.cT; rw [eco]
  refine .own c (He.tabOf K c) ecode ?_ ?_ (gen_ne _) fun p hp ep => ?_
  · have := TB _ (List.mem_map.mpr ⟨_, hm, rfl⟩)
    dsimp only at this
    rw [hP] at this
    exact this
  · refine List.mem_map.mpr ⟨_, hm, ?_⟩
    dsimp only
    rw [hP]
  · obtain ⟨z, hz, rfl⟩ := List.mem_map.mp hp
    unfold tabsNodup at nd
    have nd := of_decide_eq_true nd
    have e1 : (He.cT K z.1).2 = (He.cT K at_).2 := by rw [hP]; exact ep
    have := lt_of.nodup_map_inj nd hz hm e1
    rw [this]
end Ev
set_option autoImplicit true
set_option maxRecDepth 100000
set_option maxHeartbeats 4000000
/-! slices of tuples, of texts with calling bounds -/
namespace Ev
open PySem PySem.Spec PyProof.Rows L2
end Ev
set_option autoImplicit true
set_option maxRecDepth 100000
set_option maxHeartbeats 4000000
/-! text.join(texts), text.split(text) -/
namespace Ev
open PySem PySem.Spec PyProof.Rows L2
section
variable {T : List (Addr × Str)} {X : Cx} {Wx : WX} {κ κ' : Bool} {a b : Expr} {ma mb : M D} {pos apos : Pos} {R1 : Wm → Hp → D → V → Prop}
/-- z.split(y): a new list -/
def mSplit (ma mb : M D) : M (List D) := fun env st => (ma env st).bind fun d st1 => match d with
  | .str z => (mb env st1).bind fun e st2 => match e with
    | .str y => if (y.length == 0) = false ∧ z.length + 2 ≤ sizeLine then .ok ((Txt.split z y).map D.str) st2 else .bad
    | _ => .bad
  | _ => .bad
theorem nv_split (ha : EV κ T X Wx a ma) (hb : EV κ' T X Wx b mb) (hs : starEach [b] X.env = [(false, eval b X.env)] := by rfl) (hbase : attributeBase a "split" X.env (eval a X.env) = eval a X.env := by rfl) (hline : (apos.endLine == pos.line) = true := by rfl) :
    NV (κ && κ') T X Wx (.Call (.Attribute a "split" apos) [b] [] pos) (mSplit ma mb) := by
  obtain ⟨ta, pa, ra⟩ := ha.ex
  obtain ⟨tb, pb, rb⟩ := hb.ex
  refine ⟨_, pe_m1 F.slot_str_split F.type_str_split mt_split pa pb hs hbase hline, fun W H env st σ Q rl h => ra _ _ _ _ _ _ rl (PostN.bind (R := RepR X) h and21 fun d st1 W1 H1 v e1 r1 q1 h1 => ?_)⟩
  try dsimp only at h1
  split at h1
  · rename_i z
    rw [rep_str.mp q1]
    refine ⟨⟨_, rfl⟩, rb _ _ _ _ _ _ r1 (PostN.bind (R := RepR X) h1 and22 fun d2 st2 W2 H2 v2 e2 r2 q2 h2 => ?_)⟩
    try dsimp only at h2
    split at h2
    · rename_i y
      split at h2
      · rename_i hz
        rw [rep_str.mp q2]
        exact ⟨z, y, rfl, rfl, hz.1, hz.2, newLst (h2.weak fun _ => rfl) r2 Reps.strs⟩
      · exact h2.elim
    · exact h2.elim
  · exact h1.elim
end
end Ev
set_option autoImplicit true
set_option maxRecDepth 100000
set_option maxHeartbeats 4000000
/-! sorted(xs, reverse=True) -/
namespace Ev
open PySem PySem.Spec PyProof.Rows L2
end Ev
set_option autoImplicit true
set_option maxRecDepth 100000
set_option maxHeartbeats 4000000
/-! min and max of three -/
namespace Ev
open PySem PySem.Spec PyProof.Rows L2
section
variable {T : List (Addr × Str)} {X : Cx} {Wx : WX} {κ κ' : Bool} {a b c : Expr} {pos p : Pos}
def fMin3 : List D → Sto → Res D
  | [.int i, .int j, .int k], st => .ok (.int (if k < (if j < i then j else i) then k else (if j < i then j else i))) st
  | _, _ => .bad
def fMax3 : List D → Sto → Res D
  | [.int i, .int j, .int k], st => .ok (.int (if (if i < j then j else i) < k then k else (if i < j then j else i))) st
  | _, _ => .bad
end
end Ev
set_option autoImplicit true
set_option maxRecDepth 100000
set_option maxHeartbeats 4000000
/-! wishes: dicts compared, counts -/
namespace Ev
open PySem PySem.Spec PyProof.Rows L2
section
variable {st : Sto} {P : D → Sto → Prop} {E : Exn → Sto → Prop}
@[simp] theorem dEq2_k {ka kb : List (D × D)} : dEq2 (.dct (false, ka)) (.dct (false, kb)) = if okKv ka = true ∧ okKv kb = true then some (.bl (eqvK ka kb)) else none := rfl
@[simp] theorem dNe2_k {ka kb : List (D × D)} : dNe2 (.dct (false, ka)) (.dct (false, kb)) = if okKv ka = true ∧ okKv kb = true then some (.bl (!eqvK ka kb)) else none := rfl
@[simp] theorem dEq2_s {x : Str} {e : D} : dEq2 (.str x) e = dEq (.str x) e := rfl
@[simp] theorem dNe2_s {x : Str} {e : D} : dNe2 (.str x) e = dNe (.str x) e := rfl
@[simp] theorem dItems_k {kvs : List (D × D)} : dItems (.dct (false, kvs)) = some (itemsOf kvs) := rfl
@[simp] theorem dKeysL_k {kvs : List (D × D)} : dKeysL (.dct (false, kvs)) = some (kvs.map (·.1)) := rfl
@[simp] theorem fMin3_i {i j k : Int} : fMin3 [.int i, .int j, .int k] st = .ok (.int (if k < (if j < i then j else i) then k else (if j < i then j else i))) st := rfl
@[simp] theorem fMax3_i {i j k : Int} : fMax3 [.int i, .int j, .int k] st = .ok (.int (if (if i < j then j else i) < k then k else (if i < j then j else i))) st := rfl
end
end Ev
set_option autoImplicit true
set_option maxRecDepth 100000
set_option maxHeartbeats 4000000
/-! min and max with a key: the keys by the lambda, the answer -/
namespace Ev
open PySem PySem.Spec PyProof.Rows L2
/-- the keys, one by one -/
def keysM (el : M D) (j : Nat) (env : Env) : List D → Sto → Res (List D)
  | [], st => .ok [] st
  | d :: ds, st => match el (env.set j (some d)) st with
    | .ok k st1 => match keysM el j env ds st1 with
      | .ok ks st2 => .ok (k :: ks) st2
      | _ => .bad
    | _ => .bad
section
variable {T : List (Addr × Str)} {X : Cx} {pins : List (Addr × Obj)} {σ : L2.St} {H : Hp} {s : Shared} {W : Wm} {env : Env} {st : Sto}
/-- one turn: f's answer for an item -/
theorem key_turn {k j : Nat} {p : Str} {scope : Scope} {f c' P' : Addr} {params : Arguments} {body : Expr} {pm ctv : Value} {el : M D} {x : V} {u : Value} {dx kd : D} {st' : Sto} {Q' : Value → Shared → Prop} {E' : Value → Shared → Prop}
    (I : Inv X pins σ H s) (rl : Rel (Gof X T) W H env st σ) (L : LxS X.N j p X.env.scope scope) (r : RelV x u) (hx : Rep X.K W H dx x) (hA : Room (k + 1) X.A.in1)
    (hf : s.heap.get? f = some (PySem.W.kla_obj "<lambda>" (X.env.qual ++ "<lambda>") params body scope (cloFrom X.env.cells scope.names []) pm c' ctv)) (hc : H c' = some (CodeT c' P' (X.env.qual ++ "<lambda>")))
    (hbind : bindArgs (PySem.W.kla_fn "<lambda>" (X.env.qual ++ "<lambda>") params body scope (cloFrom X.env.cells scope.names []) pm (.ref c') ctv) ⟨[u], []⟩ = pure [(p, u)])
    (he : ∀ (A : Around) (outer : List PySem.Env) (s : Shared) (H : Hp) (E : XK), Room k (A.deeper (LamX.lamEnv X scope s.heap.objs.size f c')) → EV true T (LamX.lamCx X A outer s H E scope f c') noX body el)
    (hel : el (env.set j (some dx)) st = .ok kd st')
    (hQ : ∀ v s' W' H' y, Inv X pins σ H' s' → Ext true W H W' H' → Rel (Gof X T) W' H' env st' σ → RelV y v → Rep X.K W' H' kd y → Q' v s') : wpAny (model X.prog X.w) X.A.in1 (call (.ref f) [u]) Q' E' s := by
  obtain ⟨tb, pb, rb⟩ := (he X.A.in1 X.stack s H (fun _ _ _ => False) (hA.deeper _)).ex
  refine lx_call (Q := fun y H' => ∃ W', Ext true W H W' H' ∧ Rel (Gof X T) W' H' env st' σ ∧ Rep X.K W' H' kd y) I L r hA I.ok.frames hf (codeRec_of I.hok hc).1 hbind pb ?_ fun v s' h => ?_
  · refine rb W H (env.set j (some dx)) st _ _ ?_ ?_
    · rw [show (wipe σ [j]).set j (some x) = σ.set j (some x) by simp [wipe, List.set_set]]
      exact rl.set j hx
    · rw [hel]
      intro W' H' y e' r' q'
      exact ⟨W', e', rl.ofSto e' r'.sto, q'⟩
  · obtain ⟨y, H', J, ry, W', e', r', q'⟩ := h
    exact hQ v s' W' H' y J e' r' ry q'
end
/-- what stands behind so many keys -/
structure KJ (X : Cx) (T : List (Addr × Str)) (pn : List (Addr × Obj)) (σ : L2.St) (env : Env) (fp : List Addr) (el : M D) (j : Nat) (ds ks : List D) (st' : Sto) (W0 : Wm) (H0 : Hp) (jn : Nat) (P : Wm → Hp → Prop) (s : Shared) : Prop where
  ex : ∃ (W : Wm) (H : Hp) (st2 : Sto), Inv X pn σ H s ∧ Rel (Gof X T) W H env st2 σ ∧ Ext true W0 H0 W H ∧ (∀ b ∈ fp, H b = none) ∧ keysM el j env (ds.drop jn) st2 = .ok (ks.drop jn) st' ∧ P W H
/-- which of the builtin's own addresses are out of the way -/
def Away (X : Cx) (pn : List (Addr × Obj)) (b : Addr) : Prop := b ≠ X.env.locals ∧ b ∉ X.fs ∧ (b ∈ X.ex ∨ X.s_0.heap.objs.size ≤ b) ∧ (∀ x c, X.env.cells.lookup x = some c → c ≠ b) ∧ ∀ p ∈ X.pn ++ pn, p.1 ≠ b
section
variable {T : List (Addr × Str)} {X : Cx} {pn : List (Addr × Obj)} {σ : L2.St} {env : Env} {el : M D} {j : Nat} {ds ks : List D} {st' : Sto} {W0 : Wm} {H0 : Hp} {s s' : Shared} {S I0 : Addr}
theorem KJ.keep {jn : Nat} {P : Wm → Hp → Prop} (h : KJ X T pn σ env [S, I0] el j ds ks st' W0 H0 jn P s) (aw : ∀ b ∈ [S, I0], Away X pn b) (m : Moved (S :: [I0]) (fun a b => b = a) s s') : KJ X T pn σ env [S, I0] el j ds ks st' W0 H0 jn P s' := by
  obtain ⟨W, H, st2, I, r, e, hf, hk, p⟩ := h.ex
  have I' : Inv X pn σ H { s with heap := s'.heap, toks := s'.toks } := I.turnedL (t' := s'.toks) (ch := [S, I0]) (fun b o hb q => m.heap b o hb q) fun b hb => ⟨hf b hb, aw b hb⟩
  have e1 : s' = { s with heap := s'.heap, toks := s'.toks } := by
    obtain ⟨hp, g, d, tk, os⟩ := s'
    have h1 : g = s.gens := m.gens
    have h2 : d = s.drawn := m.drawn
    have h3 : os = s.os := m.os
    subst h1 h2 h3
    rfl
  rw [e1]
  exact ⟨W, H, st2, I', r, e, hf, hk, p⟩
theorem keysM_step {jn : Nat} {st2 : Sto} (hj : jn < ds.length) (hl : ks.length = ds.length) (h : keysM el j env (ds.drop jn) st2 = .ok (ks.drop jn) st') : ∃ st3, el (env.set j (some (ds.getD jn .non))) st2 = .ok (ks.getD jn .non) st3 ∧ keysM el j env (ds.drop (jn + 1)) st3 = .ok (ks.drop (jn + 1)) st' := by
  have hk : jn < ks.length := by omega
  rw [List.drop_eq_getElem_cons hj, List.drop_eq_getElem_cons hk] at h
  unfold keysM at h
  have d1 : ds.getD jn .non = ds[jn] := by rw [List.getD_eq_getElem?_getD, List.getElem?_eq_getElem hj]; rfl
  have d2 : ks.getD jn .non = ks[jn] := by rw [List.getD_eq_getElem?_getD, List.getElem?_eq_getElem hk]; rfl
  rw [d1, d2]
  split at h
  · rename_i k1 st3 e1
    split at h
    · rename_i ks2 st4 e2
      injection h with h1 h2
      injection h1 with h3 h4
      subst h3
      refine ⟨st3, e1, ?_⟩
      rw [e2, h4, h2]
    · cases h
  · cases h
/-- a turn, with all that stands -/
theorem KJ.turn {k : Nat} {p : Str} {scope : Scope} {f c' P' : Addr} {params : Arguments} {body : Expr} {pm ctv : Value} {u : Value} {jn : Nat} {P : Wm → Hp → Prop} {oS oI : Obj} {Q' : Value → Shared → Prop} {E' : Value → Shared → Prop}
    (h : KJ X T pn σ env [S, I0] el j ds ks st' W0 H0 jn P s) (aw : ∀ b ∈ [S, I0], Away X pn b) (hj : jn < ds.length) (hl : ks.length = ds.length) (L : LxS X.N j p X.env.scope scope) (hA : Room (k + 1) X.A.in1)
    (hu : ∃ y, RelV y u ∧ ∀ W H, Ext true W0 H0 W H → Rep X.K W H (ds.getD jn .non) y) (hS : s.heap.get? S = some oS) (nS : ∀ z, oS.data ≠ .cell z) (hI : s.heap.get? I0 = some oI) (nI : ∀ z, oI.data ≠ .cell z)
    (hf : (f, PySem.W.kla_obj "<lambda>" (X.env.qual ++ "<lambda>") params body scope (cloFrom X.env.cells scope.names []) pm c' ctv) ∈ pn) (hc : H0 c' = some (CodeT c' P' (X.env.qual ++ "<lambda>")))
    (hbind : bindArgs (PySem.W.kla_fn "<lambda>" (X.env.qual ++ "<lambda>") params body scope (cloFrom X.env.cells scope.names []) pm (.ref c') ctv) ⟨[u], []⟩ = pure [(p, u)])
    (he : ∀ (A : Around) (outer : List PySem.Env) (s : Shared) (H : Hp) (E : XK), Room k (A.deeper (LamX.lamEnv X scope s.heap.objs.size f c')) → EV true T (LamX.lamCx X A outer s H E scope f c') noX body el)
    (hP : ∀ W H W' H', Ext true W H W' H' → P W H → P W' H')
    (hQ : ∀ v s', KJ X T pn σ env [S, I0] el j ds ks st' W0 H0 (jn + 1) (fun W H => P W H ∧ ∃ z, RelV z v ∧ Rep X.K W H (ks.getD jn .non) z) s' → s'.heap.get? S = some oS → s'.heap.get? I0 = some oI → (∀ b o q, H0 b = some (.frz o q) → s.heap.get? b = some o ∧ s'.heap.get? b = some o) → Q' v s') : wpAny (model X.prog X.w) X.A.in1 (call (.ref f) [u]) Q' E' s := by
  obtain ⟨W, H, st2, I, r, e, hfp, hk, hp⟩ := h.ex
  obtain ⟨y, ry, hy⟩ := hu
  obtain ⟨st3, k1, k2⟩ := keysM_step hj hl hk
  have keepH : ∀ {W H : _} (e : Ext true W0 H0 W H) b o, H0 b = some o → (∀ ps, o ≠ .tbl ps) → H b = some o := fun {W H} e b o h n => by
    cases w : W0 b with
    | none => exact (e.fr b o w h n).2
    | some t => rw [(e.hl b t w rfl).2]; exact h
  have I2 : Inv X (pn ++ [(S, oS), (I0, oI)]) σ H s := repin I fun q hq => by
    rw [← List.append_assoc] at hq
    rcases List.mem_append.mp hq with hq | hq
    · exact I.pin q hq
    · have aS := aw S (by simp)
      have aI := aw I0 (by simp)
      rcases List.mem_cons.mp hq with rfl | hq
      · exact ⟨hS, hfp S (by simp), aS.1, aS.2.1, nS⟩
      · rw [List.mem_singleton.mp hq]
        exact ⟨hI, hfp I0 (by simp), aI.1, aI.2.1, nI⟩
  have gf := (I2.pin _ (List.mem_append_right _ (List.mem_append_left _ hf))).1
  refine key_turn I2 r L ry (hy W H e) hA gf (keepH e _ _ hc codeT_ne) hbind he k1 fun v s2 W2 H2 z J e2 r2 rz qz => ?_
  have pS := J.pin (S, oS) (by simp)
  have pI := J.pin (I0, oI) (by simp)
  refine hQ v s2 ⟨W2, H2, st3, repin J fun q hq => J.pin q ?_, r2, e.trans e2, fun b hb => ?_, k2, hP _ _ _ _ e2 hp, z, rz, qz⟩ pS.1 pI.1 fun b o q hb => ⟨(I.hok b _ (keepH e _ _ hb frz_ntbl)).1, (J.hok b _ (keepH (e.trans e2) _ _ hb frz_ntbl)).1⟩
  · rw [← List.append_assoc]; exact List.mem_append_left _ hq
  · rcases List.mem_cons.mp hb with rfl | hb
    · exact pS.2.1
    · rw [List.mem_singleton.mp hb]; exact pI.2.1
end
end Ev
set_option autoImplicit true
set_option maxRecDepth 100000
set_option maxHeartbeats 4000000
/-! list * int -/
namespace Ev
open PySem PySem.Spec PyProof.Rows L2
theorem q_int_rmul_list (a : Int) (t : Tok) (l : Addr) (items : Array Value) (n : Nat) (sl : Array (Option Value)) :
    Meets (Builtin.«int.__rmul__» ⟨[.int a t, .ref l], []⟩) (fun _ R s => s.heap.get? l = some { cls := .type "list", dict := none, data := .seq items n, slots := sl } ∧ R (.ok (.ret Value.notImplemented)) s) :=
  .of_wp fun prog w A R s h => by obtain ⟨hp, g, d, tk, os⟩ := s; obtain ⟨hl, h⟩ := h; wp_walk using PySem.AutoSeq1.wpAny_loadPart' hl; exact ⟨_, rfl, h⟩
theorem q_mul_list (l : Addr) (items : Array Value) (n : Nat) (sl : Array (Option Value)) (x : Int) (u : Tok) (hc0 : ¬(!Builtin.List.listFitsIndex x) = true) (hc1 : ¬items.size * x.toNat > (2 ^ 63 - 1) / 8) (hc2 : ¬Builtin.List.listTooLong (items.size * x.toNat) = true) :
    Meets (Builtin.«list.__mul__» ⟨[.ref l, .int x u], []⟩) (fun _ R s => s.heap.get? l = some { cls := .type "list", dict := none, data := .seq items n, slots := sl } ∧ R (.ok (.ret (Value.ref s.heap.objs.size))) { s with heap := s.heap.push { cls := Value.type "list", data := Data.seq (List.foldl (fun x1 x2 => x1 ++ x2) #[] (List.replicate (if items.isEmpty = true then 0 else x.toNat) items)) }, toks := s.toks }) :=
  .of_wp fun prog w A R s h => by
    obtain ⟨hp, g, d, tk, os⟩ := s; obtain ⟨hl, h⟩ := h
    have hsz := AutoListH.joined_fits hc2
    have f1 := PySem.AutoSeq1.idx_int
    wp_walk using PySem.AutoSeq1.wpAny_loadPart' hl
    refine wpAny_ite_false (decide_eq_false (Nat.not_lt.mpr hsz)) ?_; wp_walk using PySem.AutoSeq1.wpAny_loadPart' hl; exact ⟨_, rfl, h⟩
section
variable {T : List (Addr × Str)} {X : Cx} {Wx : WX} {κ κ' κa κb κc : Bool} {a b c e : Expr} {ma mb mc : M D} {pos p : Pos} {R1 R2 R4 : Wm → Hp → D → V → Prop}
theorem op_repL : OpR X (binaryOp .Mult) (fun x y H Q => ∃ l k xs, x = .ref l ∧ y = .int k ∧ SqL X.K H l xs ∧ -(2 ^ 63) ≤ k ∧ k < 2 ^ 63 ∧ xs.length * k.toNat ≤ sizeLine ∧ ∀ p, H p = none → Q (.ref p) (upd H p (.lst (List.replicate k.toNat xs).flatten))) := by
  intro pins s σ H x y v u Q I rx ry h
  obtain ⟨l, k, xs, rfl, rfl, hH, h1, h2, hz, q⟩ := h
  cases rx
  obtain ⟨t, rfl⟩ := ry
  obtain ⟨its, r, ⟨⟨cls, dd, data, sl⟩, n, ho, hc, hd, hs⟩, _⟩ := I.list hH
  have e1 : cls = Value.type "list" := hc
  have e2 : data = Data.seq its.toArray n := hs
  have e5 : dd = none := hd
  subst e1 e2 e5
  have hl := r.length
  have hlen : its.toArray.size * k.toNat ≤ sizeLine := by rw [List.size_toArray, ← hl]; exact hz
  have hcap : ¬ its.toArray.size * k.toNat > (2 ^ 63 - 1) / 8 := by
    have : (sizeLine : Nat) ≤ (2 ^ 63 - 1) / 8 := by decide
    omega
  have hfit : ¬ (!Builtin.List.listFitsIndex k) = true := by
    rw [fitsIndex_both h1 h2]
    exact Bool.false_ne_true
  have hlong : ¬ Builtin.List.listTooLong (its.toArray.size * k.toNat) = true := by
    rw [notLongL hlen]
    exact Bool.false_ne_true
  have hnew : List.foldl (fun x1 x2 => x1 ++ x2) #[] (List.replicate (if its.toArray.isEmpty = true then 0 else k.toNat) its.toArray) = (List.replicate k.toNat its).flatten.toArray := by
    have f0 : ∀ m : Nat, List.foldl (fun x1 x2 => x1 ++ x2) #[] (List.replicate m its.toArray) = (List.replicate m its).flatten.toArray := fun m => by
      have := foldl_rep its m []
      rw [List.nil_append] at this
      exact this
    rw [f0]
    cases its with
    | nil => simp
    | cons a r' => rw [if_neg (by simp)]
  refine wpAny_binaryOp_repeat_ref (T := "list") (U := "int") (by decide) ⟨_, ho, rfl⟩ (fun s' => typeIs_int s' k t) noFill_list_mul F.fills_int_mul F.slot_int_rmul repeat_list F.slot_int_index.lookup
    (call_meets F.slot_int_rmul (typeIs_int s k t) F.entry_int_rmul (F.args_int_rmul_2 _ _) (q_int_rmul_list k t l its.toArray n sl)
      ⟨ho, rfl, ⟨_, ho, rfl⟩, call_meets F.slot_list_mul ⟨_, ho, rfl⟩ F.entry_list_mul (F.args_list_mul_2 _ _) (q_mul_list l its.toArray n sl k t hfit hcap hlong) ⟨ho, ?_⟩⟩)
  rw [hnew]
  exact ⟨.ref _, _, I.lnew (t' := s.toks) (r.rep k.toNat) (by rw [PyProof.Rows.lm_len_rep_flat, Nat.mul_comm]; exact hz), rfl, q _ I.fresh⟩
def fRep (d e : D) (st : Sto) : Res (List D) := match dL d st, e with
  | some xs, .int k => if k < 1000000 ∧ -1000000 ≤ k ∧ xs.length * k.toNat ≤ 1000000 then .ok (List.replicate k.toNat xs).flatten st else .bad
  | _, _ => .bad
theorem reps_rep {K : PySem.W.Frag} {W : Wm} {H : Hp} {ds : List D} {vs : List V} (h : Reps K W H ds vs) : ∀ n : Nat, Reps K W H (List.replicate n ds).flatten (List.replicate n vs).flatten
  | 0 => by simp [Reps]
  | n + 1 => by
    simp only [List.replicate_succ, List.flatten_cons]
    exact h.append (reps_rep h n)
theorem nv_rep (ha : EVg κ R1 T X Wx a ma) (hb : EV κ' T X Wx b mb) (S : Stands κ' R1 := by first | exact Stands.rep | exact Stands.held | exact Stands.cur) (c1 : ToCur X R1 := by first | exact ToCur.rep | exact ToCur.held | exact ToCur.cur) :
    NV (κ && κ') T X Wx (.BinOp a .Mult b pos) (mBin ma mb fRep) :=
  nv_op op_repL S (fun W H env st σ x y d1 d2 Q rl h1 h2 hp => by
    unfold fRep at hp
    split at hp
    · rename_i xs k e1
      split at hp
      · rename_i hz
        obtain ⟨a1, v1, rfl, l1, r1⟩ := dL_read rl (c1 _ _ _ _ h1) e1
        have := rep_int.mp h2
        subst this
        exact ⟨a1, k, v1, rfl, rfl, l1, by omega, by omega, mill (by rw [← r1.length]; exact hz.2.2), newLst hp rl (reps_rep r1 _)⟩
      · exact hp.elim
    · exact hp.elim) ha hb
end
end Ev
set_option autoImplicit true
set_option maxRecDepth 100000
set_option maxHeartbeats 4000000
/-! texts compared -/
namespace Ev
open PySem PySem.Spec PyProof.Rows L2
end Ev
set_option autoImplicit true
set_option maxRecDepth 100000
set_option maxHeartbeats 4000000
/-! min(d, key=lambda k: ..), d a frozen dict: the call -/
namespace Ev
open PySem PySem.Spec PyProof.Rows L2
end Ev
set_option autoImplicit true
set_option maxRecDepth 100000
set_option maxHeartbeats 4000000
/-! min(d, key=lambda k: ..), d a slot's dict -/
namespace Ev
open PySem PySem.Spec PyProof.Rows L2
end Ev
set_option autoImplicit true
set_option maxRecDepth 100000
set_option maxHeartbeats 4000000
/-! min and max of a tuple of numbers -/
namespace Ev
open PySem PySem.Spec PyProof.Rows L2
end Ev
set_option autoImplicit true
set_option maxRecDepth 100000
set_option maxHeartbeats 4000000
/-! sorted(.., key=lambda k: ..): the keys asked, one by one -/
namespace Ev
open PySem PySem.Spec PyProof.Rows L2
end Ev
set_option autoImplicit true
set_option maxRecDepth 100000
set_option maxHeartbeats 4000000
/-! sorted(.., key=lambda k: ..): the loop, the order -/
namespace Ev
open PySem PySem.Spec PyProof.Rows L2
section
variable {T : List (Addr × Str)} {X : Cx} {pn : List (Addr × Obj)} {σ : L2.St} {env : Env} {el : M D} {j : Nat} {ds ks : List D} {st' : Sto} {W0 : Wm} {H0 : Hp} {s s' : Shared} {S I0 : Addr}
theorem KJ.imp {jn : Nat} {P P' : Wm → Hp → Prop} (h : KJ X T pn σ env [S, I0] el j ds ks st' W0 H0 jn P s) (f : ∀ W H, P W H → P' W H) : KJ X T pn σ env [S, I0] el j ds ks st' W0 H0 jn P' s := by
  obtain ⟨W, H, st2, a, b, c, d, e, p⟩ := h.ex
  exact ⟨W, H, st2, a, b, c, d, e, f _ _ p⟩
end
end Ev
set_option autoImplicit true
set_option maxRecDepth 100000
set_option maxHeartbeats 4000000
/-! sorted(d, key=lambda k: ..), d a frozen dict: the call -/
namespace Ev
open PySem PySem.Spec PyProof.Rows L2
end Ev
set_option autoImplicit true
set_option maxRecDepth 100000
set_option maxHeartbeats 4000000
/-! sorted(d, key=lambda k: ..), d a slot's dict -/
namespace Ev
open PySem PySem.Spec PyProof.Rows L2
end Ev
set_option autoImplicit true
set_option maxRecDepth 100000
set_option maxHeartbeats 4000000
/-! min(o.f, key=lambda k: ..), the field's dict locked -/
namespace Ev
open PySem PySem.Spec PyProof.Rows L2
end Ev
set_option autoImplicit true
set_option maxRecDepth 100000
set_option maxHeartbeats 4000000
/-! sum of a tuple of numbers -/
namespace Ev
open PySem PySem.Spec PyProof.Rows L2
end Ev
set_option autoImplicit true
set_option maxRecDepth 100000
set_option maxHeartbeats 4000000
/-! xs.remove(y); xs[i] op= y; fields as targets; lists unpacked -/
namespace Ev
open PySem PySem.Spec PyProof.Rows L2
section
variable {T : List (Addr × Str)} {X : Cx} {Wx : WX} {κ κ' κi κa κb κc κe : Bool} {a i e o b : Expr} {es tgs : List Expr} {mi ma mo : M D} {pos p pos' apos cpos tpos : Pos} {C : Addr} {cls fn : Str} {R1 : Wm → Hp → D → V → Prop}
/-- xs * n, not to be reckoned by itself -/
@[irreducible] def fRepI (d e : D) (st : Sto) : Res (List D) := fRep d e st
theorem fRepI_eq : fRepI = fRep := by unfold fRepI; rfl
theorem nv_repI (ha : EVg κ R1 T X Wx a ma) (hb : EV κ' T X Wx b mo) (S : Stands κ' R1 := by first | exact Stands.rep | exact Stands.held | exact Stands.cur) (c1 : ToCur X R1 := by first | exact ToCur.rep | exact ToCur.held | exact ToCur.cur) :
    NV (κ && κ') T X Wx (.BinOp a .Mult b pos) (mBin ma mo fRepI) := by rw [fRepI_eq]; exact nv_rep ha hb S c1
end
end Ev
set_option autoImplicit true
set_option maxRecDepth 100000
set_option maxHeartbeats 4000000
/-! dicts of slots lent to a def (it reads them), or given away -/
namespace Ev
open PySem PySem.Spec PyProof.Rows L2
/-! ### lent -/
section
variable {K : PySem.W.Frag} {W W' : Wm} {H H' : Hp} {κ : Bool}
def RepB (K : PySem.W.Frag) (W : Wm) (H : Hp) : D → V → Prop
  | .lkd c, v => ∃ t, t.held = true ∧ RdD K W H t c v
  | d, v => Rep K W H d v
def RepBs (K : PySem.W.Frag) (W : Wm) (H : Hp) (ds : List D) (vs : List V) : Prop := vs.length = ds.length ∧ ∀ (i : Nat) (d : D), ds[i]? = some d → ∃ v, vs[i]? = some v ∧ RepB K W H d v
theorem RepB.of {d : D} {v : V} (h : Rep K W H d v) : RepB K W H d v := by
  cases d with
  | lkd c => unfold Rep at h; exact h.elim
  | _ => exact h
theorem RepB.mono {d : D} {v : V} (e : Ext κ W H W' H') (h : RepB K W H d v) : RepB K W' H' d v := by
  cases d with
  | lkd c =>
    obtain ⟨t, k, a, e1, e2, e3⟩ := h
    obtain ⟨x, y⟩ := e.hl a t e2 (by simp [k])
    exact ⟨t, k, a, e1, x, e3.imp (fun ⟨ks, z, r⟩ => ⟨ks, Rd.same y z, RepKc.mono e.mo _ _ r⟩) fun ⟨ks, z, r⟩ => ⟨ks, Rd.same y z, RepTc.mono e.mo _ _ r⟩⟩
  | ownd c => exact (by unfold RepB Rep at h; exact h.elim)
  | own c => exact (by unfold RepB Rep at h; exact h.elim)
  | _ => exact RepB.of (Rep.mono e.mo _ _ h)
theorem RepBs.nil : RepBs K W H [] [] := ⟨rfl, fun i d e => by simp at e⟩
theorem RepBs.cons {d : D} {v : V} {ds : List D} {vs : List V} (h : RepB K W H d v) (r : RepBs K W H ds vs) : RepBs K W H (d :: ds) (v :: vs) := ⟨by simp [r.1], fun i d' e => by
  cases i with
  | zero => cases e; exact ⟨v, rfl, h⟩
  | succ i => exact r.2 i d' e⟩
theorem RepBs.mono {ds : List D} {vs : List V} (e : Ext κ W H W' H') (h : RepBs K W H ds vs) : RepBs K W' H' ds vs := ⟨h.1, fun i d q => let ⟨v, q1, q2⟩ := h.2 i d q; ⟨v, q1, q2.mono e⟩⟩
end
/-! ### given away -/
section
variable {hs : List (Nat × Nat)} {W W' : Wm} {H H' : Hp} {K : PySem.W.Frag}
/-- an argument at the place j: one of hs given away, a dict lent, or contents -/
def RepH (hs : List (Nat × Nat)) (K : PySem.W.Frag) (W : Wm) (H : Hp) (j : Nat) : D → V → Prop
  | .ownd c, v => ∃ i, hs.lookup i = some j ∧ OwnD K W H (.slot i) c v
  | .lkd c, v => ∃ t, t.held = true ∧ (∀ i, t = .slot i → hs.lookup i = none) ∧ RdD K W H t c v
  | d, v => Rep K W H d v
def RepHs (hs : List (Nat × Nat)) (K : PySem.W.Frag) (W : Wm) (H : Hp) (j : Nat) (ds : List D) (vs : List V) : Prop := vs.length = ds.length ∧ ∀ (i : Nat) (d : D), ds[i]? = some d → ∃ v, vs[i]? = some v ∧ RepH hs K W H (j + i) d v
theorem RepHs.nil {j : Nat} : RepHs hs K W H j [] [] := ⟨rfl, fun i d e => by simp at e⟩
theorem RepHs.cons {j : Nat} {d : D} {v : V} {ds : List D} {vs : List V} (h : RepH hs K W H j d v) (r : RepHs hs K W H (j + 1) ds vs) : RepHs hs K W H j (d :: ds) (v :: vs) := ⟨by simp [r.1], fun i d' e => by
  cases i with
  | zero => cases e; exact ⟨v, rfl, h⟩
  | succ i =>
    obtain ⟨v', q1, q2⟩ := r.2 i d' e
    exact ⟨v', q1, by rw [show j + (i + 1) = j + 1 + i by omega]; exact q2⟩⟩
theorem RepH.of {j : Nat} {d : D} {v : V} (h : Rep K W H d v) : RepH hs K W H j d v := by
  cases d with
  | ownd c => exact (by unfold Rep at h; exact h.elim)
  | lkd c => exact (by unfold Rep at h; exact h.elim)
  | _ => exact h
theorem RepH.mono {κ : Bool} {j : Nat} {d : D} {v : V} (e : Ext κ W H W' H') (h : RepH hs K W H j d v) : RepH hs K W' H' j d v := by
  cases d with
  | ownd c =>
    obtain ⟨i, hl, a, e1, e2, e3⟩ := h
    obtain ⟨x, y⟩ := e.hl a _ e2 (by simp [Tag.held])
    exact ⟨i, hl, a, e1, x, e3.imp (fun ⟨ks, z, r⟩ => ⟨ks, y.trans z, RepKc.mono e.mo _ _ r⟩) fun ⟨ks, z, r⟩ => ⟨ks, y.trans z, RepTc.mono e.mo _ _ r⟩⟩
  | lkd c =>
    obtain ⟨t, k, hl, a, e1, e2, e3⟩ := h
    obtain ⟨x, y⟩ := e.hl a t e2 (by simp [k])
    exact ⟨t, k, hl, a, e1, x, e3.imp (fun ⟨ks, z, r⟩ => ⟨ks, Rd.same y z, RepKc.mono e.mo _ _ r⟩) fun ⟨ks, z, r⟩ => ⟨ks, Rd.same y z, RepTc.mono e.mo _ _ r⟩⟩
  | own c => exact (by unfold RepH Rep at h; exact h.elim)
  | _ => exact RepH.of (Rep.mono e.mo _ _ h)
end
end Ev
set_option autoImplicit true
set_option maxRecDepth 100000
set_option maxHeartbeats 4000000
/-! any(..), all(..) of a generator over a slot's dict, frozen or lent -/
namespace Ev
open PySem PySem.Spec PyProof.Rows L2 GenW
end Ev
set_option autoImplicit true
set_option maxRecDepth 100000
set_option maxHeartbeats 4000000
/-! min(xs, key=lambda x: ..), xs a slot's list -/
namespace Ev
open PySem PySem.Spec PyProof.Rows L2
section
variable {W W' : Wm} {H H' : Hp} {d : Addr} {u : HO} {od : Obj} {G : Gx} {env : Env} {st : Sto} {σ : L2.St}
def IsLst (u : HO) : Prop := ∃ vs, u = .lst vs
theorem IsLst.plain (h : IsLst u) : Plain u := by obtain ⟨ks, rfl⟩ := h; exact ⟨fun _ z => (by cases z), fun _ z => (by cases z)⟩
theorem IsLst.ntup (h : IsLst u) : ∀ v, u ≠ .tup v := by obtain ⟨ks, rfl⟩ := h; intro v z; cases z
end
end Ev
set_option autoImplicit true
set_option maxRecDepth 100000
set_option maxHeartbeats 4000000
/-! x is True, x is False -/
namespace Ev
open PySem PySem.Spec PyProof.Rows L2
end Ev
set_option autoImplicit true
set_option maxRecDepth 100000
set_option maxHeartbeats 4000000
/-! sorted(d, reverse=True), d a dict of numbers -/
namespace Ev
open PySem PySem.Spec PyProof.Rows L2
end Ev
set_option autoImplicit true
set_option maxRecDepth 100000
set_option maxHeartbeats 4000000
/-! a comprehension over a slot's own dict, which stays its own: locked while it is walked -/
namespace Ev
open PySem PySem.Spec PyProof.Rows L2
end Ev
set_option autoImplicit true
set_option maxRecDepth 100000
set_option maxHeartbeats 4000000
/-! a lambda's body: its room, told of its own context -/
namespace Ev
open PySem PySem.Spec PyProof.Rows L2
end Ev
set_option autoImplicit true
set_option maxRecDepth 100000
set_option maxHeartbeats 4000000
/-! d.pop(k), xs.pop() -/
namespace Ev
open PySem PySem.Spec PyProof.Rows L2
end Ev
set_option autoImplicit true
set_option maxRecDepth 100000
set_option maxHeartbeats 4000000
/-! for over a slot's frozen dict, over a frozen dict of an object -/
namespace Ev
open PySem PySem.Spec PyProof.Rows L2
end Ev
set_option autoImplicit true
set_option maxRecDepth 100000
set_option maxHeartbeats 4000000
/-! x in range(a, b); a module's numbers and texts -/
namespace Ev
open PySem PySem.Spec PyProof.Rows L2
end Ev
set_option autoImplicit true
set_option maxRecDepth 100000
set_option maxHeartbeats 4000000
/-! list(text) -/
namespace Ev
open PySem PySem.Spec PyProof.Rows L2
end Ev
set_option autoImplicit true
set_option maxRecDepth 100000
set_option maxHeartbeats 4000000
/-! min(xs), contents of any kind -/
namespace Ev
open PySem PySem.Spec PyProof.Rows L2
end Ev
set_option autoImplicit true
set_option maxRecDepth 100000
set_option maxHeartbeats 4000000
/-! x = [e for k in o.f if t], o.f an own dict -/
namespace Ev
open PySem PySem.Spec PyProof.Rows L2
end Ev
set_option autoImplicit true
set_option maxRecDepth 100000
set_option maxHeartbeats 4000000
/-! a dict and a text compared -/
namespace Ev
open PySem PySem.Spec PyProof.Rows L2
open AutoSeq1 (wpAny_loadPart')
open MeetsSeq
section
variable {X : Cx} {pins : List (Addr × Obj)} {σ : L2.St} {H : Hp} {s : Shared} {W : Wm}
/-- a dict on the left, a text on the right: not alike -/
def dEq3 : D → D → Option D
  | .dct (false, _), .str _ => some (.bl false)
  | d, e => dEq2 d e
end
end Ev
set_option autoImplicit true
set_option maxRecDepth 100000
set_option maxHeartbeats 4000000
/-! a slot's own list of own lists -/
namespace Ev
open PySem PySem.Spec PyProof.Rows L2
section
variable {K : PySem.W.Frag} {W W' : Wm} {H H' : Hp} {t : Tag}
theorem RowsAt.length : ∀ {ds : List D} {bs : List Addr}, RowsAt K W H t ds bs → ds.length = bs.length
  | [], bs, h => by unfold RowsAt at h; subst h; rfl
  | d :: r, bs, h => by
    obtain ⟨b, r', xs, us, rfl, e, h1, h2, h3, h4⟩ := h
    simp [h4.length]
theorem RowsAt.get : ∀ {ds : List D} {bs : List Addr} {j : Nat} {d : D}, RowsAt K W H t ds bs → ds[j]? = some d → ∃ b xs us, bs[j]? = some b ∧ d = .lst xs ∧ W b = some t ∧ H b = some (.lst us) ∧ Reps K W H xs us
  | [], bs, j, d, h, e => by cases e
  | d0 :: r, bs, j, d, h, e => by
    obtain ⟨b, r', xs, us, rfl, e0, h1, h2, h3, h4⟩ := h
    cases j with
    | zero => cases e; exact ⟨b, xs, us, rfl, e0, h1, h2, h3⟩
    | succ j => exact h4.get e
theorem RowsAt.append : ∀ {ds es : List D} {bs cs : List Addr}, RowsAt K W H t ds bs → RowsAt K W H t es cs → RowsAt K W H t (ds ++ es) (bs ++ cs)
  | [], es, bs, cs, h, k => by unfold RowsAt at h; subst h; exact k
  | d :: r, es, bs, cs, h, k => by
    obtain ⟨b, r', xs, us, rfl, e, h1, h2, h3, h4⟩ := h
    exact ⟨b, r' ++ cs, xs, us, rfl, e, h1, h2, h3, h4.append k⟩
/-- one of the lists is written -/
theorem RowsAt.set (m : Mo W H W' H') (k : ∀ a, W a = some t → W' a = some t) : ∀ {ds : List D} {bs : List Addr} {j : Nat} {b : Addr} {xs : List D} {us : List V}, bs.Nodup → RowsAt K W H t ds bs → bs[j]? = some b → (∀ a, a ∈ bs → a ≠ b → H' a = H a) → H' b = some (.lst us) → Reps K W' H' xs us → RowsAt K W' H' t (ds.set j (.lst xs)) bs
  | [], bs, j, b, xs, us, nd, h, e, ho, hb, hr => by unfold RowsAt at h; subst h; cases e
  | d :: r, bs, j, b, xs, us, nd, h, e, ho, hb, hr => by
    obtain ⟨b0, r', xs0, us0, rfl, e0, h1, h2, h3, h4⟩ := h
    obtain ⟨n1, n2⟩ := List.nodup_cons.mp nd
    cases j with
    | zero =>
      cases e
      refine ⟨b, r', xs, us, rfl, rfl, k _ h1, hb, hr, h4.mono m fun a ha w => ⟨k _ w, ho a (List.mem_cons_of_mem _ ha) fun z => n1 (z ▸ ha)⟩⟩
    | succ j =>
      have hbm : b ∈ r' := List.mem_of_getElem? e
      exact ⟨b0, r', xs0, us0, rfl, e0, k _ h1, (ho b0 List.mem_cons_self fun z => n1 (z ▸ hbm)).trans h2, Reps.mono m _ _ h3, h4.set m k n2 e (fun a ha => ho a (List.mem_cons_of_mem _ ha)) hb hr⟩
/-- as plain contents -/
theorem RowsAt.noW {n : Nat} : ∀ {ds : List D} {bs : List Addr}, (∀ d ∈ ds, okN n d = true) → RowsAt K W H t ds bs → Reps K noW H ds (bs.map V.ref)
  | [], bs, o, h => by unfold RowsAt at h; subst h; exact Reps.nil
  | d :: r, bs, o, h => by
    obtain ⟨b, r', xs, us, rfl, rfl, h1, h2, h3, h4⟩ := h
    refine Reps.cons ?_ (h4.noW fun d hd => o d (List.mem_cons_of_mem _ hd))
    have ob := o _ List.mem_cons_self
    cases n with
    | zero => simp [okN] at ob
    | succ n => exact rep_lst.mpr ⟨b, us, rfl, .inl ⟨rfl, .inl h2⟩, h3.all fun d hd v => rep_data n d v (okN_lst ob d hd)⟩
end
section
variable {T : List (Addr × Str)} {X : Cx} {Wx : WX} {κ κ' : Bool} {a b e : Expr} {ma mb m : M D} {pos p apos cpos pos' : Pos} {R1 R2 : Wm → Hp → D → V → Prop}
/-! ### len, one of the lists -/
theorem CRep.nst {K : PySem.W.Frag} {W : Wm} {H : Hp} {ds : List D} {v : V} (h : CRep K W H (.nst ds) v) : ∃ t, OwnN K W H t ds v := by
  rcases h with h | ⟨t, ds', e, _⟩ | ⟨t, kvs, e, _⟩ | ⟨t, ds', e, h⟩
  · unfold Rep at h; exact h.elim
  · cases e
  · cases e
  · cases e; exact ⟨t, h⟩
end
end Ev
set_option autoImplicit true
set_option maxRecDepth 100000
set_option maxHeartbeats 4000000
/-! a slot's own list of own lists, written -/
namespace Ev
open PySem PySem.Spec PyProof.Rows L2
end Ev
set_option autoImplicit true
set_option maxRecDepth 100000
set_option maxHeartbeats 4000000
/-! t.index(y), t a tuple -/
namespace Ev
open PySem PySem.Spec PyProof.Rows L2
end Ev
set_option autoImplicit true
set_option maxRecDepth 100000
set_option maxHeartbeats 4000000
/-! x in d.values() -/
namespace Ev
open PySem PySem.Spec PyProof.Rows L2
/-! ### as an expression -/
end Ev
set_option autoImplicit true
set_option maxRecDepth 100000
set_option maxHeartbeats 4000000
/-! sorted(t), t a tuple -/
namespace Ev
open PySem PySem.Spec PyProof.Rows L2
end Ev
set_option autoImplicit true
set_option maxRecDepth 100000
set_option maxHeartbeats 4000000
/-! len(d), d a dict -/
namespace Ev
open PySem PySem.Spec PyProof.Rows L2
end Ev
set_option autoImplicit true
set_option maxRecDepth 100000
set_option maxHeartbeats 4000000
/-! a list of new lists, made by a comprehension -/
namespace Ev
open PySem PySem.Spec PyProof.Rows L2
theorem RowsAt.retag {K : PySem.W.Frag} {W W' : Wm} {H : Hp} {t t' : Tag} (mo : Mo W H W' H) : ∀ {ds : List D} {bs : List Addr}, (∀ b ∈ bs, W' b = some t') → RowsAt K W H t ds bs → RowsAt K W' H t' ds bs
  | [], bs, k, h => h
  | d :: r, bs, k, h => by
    obtain ⟨b, r', xs, us, rfl, e, h1, h2, h3, h4⟩ := h
    exact ⟨b, r', xs, us, rfl, e, k b List.mem_cons_self, h2, Reps.mono mo _ _ h3, h4.retag mo fun c hc => k c (List.mem_cons_of_mem _ hc)⟩
end Ev
set_option autoImplicit true
set_option maxRecDepth 100000
set_option maxHeartbeats 4000000
/-! texts: z * n, z += w -/
namespace Ev
open PySem PySem.Spec PyProof.Rows L2
/-- a text so many times -/
def repS (z : Str) (n : Int) : Str := ⟨(List.replicate n.toNat z.cps.toList).flatten.toArray⟩
theorem foldl_app : ∀ (k : Nat) (xs acc : Array Nat), ((List.replicate k xs).foldl (· ++ ·) acc) = (acc.toList ++ (List.replicate k xs.toList).flatten).toArray
  | 0, xs, acc => by simp
  | k + 1, xs, acc => by
    rw [List.replicate_succ, List.foldl_cons, foldl_app k xs (acc ++ xs), List.replicate_succ, List.flatten_cons]
    simp
theorem sum_rep_ : ∀ (k x : Nat), (List.replicate k x).sum = k * x
  | 0, x => by simp
  | k + 1, x => by rw [List.replicate_succ, List.sum_cons, sum_rep_ k x, Nat.add_mul, Nat.one_mul, Nat.add_comm]
theorem repS_length (z : Str) (n : Int) : (repS z n).length = n.toNat * z.length := by
  show ((List.replicate n.toNat z.cps.toList).flatten.toArray).size = _
  rw [List.size_toArray, List.length_flatten, List.map_replicate, sum_rep_]
  simp [Str.length]
theorem op_mulS {X : Cx} : OpR X (binaryOp .Mult) (fun x y H Q => ∃ z n, x = V.str z ∧ y = V.int n ∧ -1000000 ≤ n ∧ n ≤ 1000000 ∧ n.toNat * z.length ≤ 1000000 ∧ Q (.str (repS z n)) H) := by
  intro pins s σ H x y v u Q I rx ry ⟨z, n, ex, ey, h1, h2, h3, q⟩
  subst ex ey
  obtain ⟨t, rfl⟩ := rx
  obtain ⟨t', rfl⟩ := ry
  have hsl : n.toNat * z.length ≤ sizeLine := by rw [sizeLine_eq]; omega
  refine P.mul_str (by rw [decide_eq_false (by omega), decide_eq_false (by omega)]; rfl) (fun k1 k2 => ?_) (fun k1 k2 => ?_) ?_
  · have : (z.length : Int) ≤ 1000000 := by
      have hn : 1 ≤ n.toNat := by omega
      have := Nat.le_trans (Nat.le_mul_of_pos_left z.length hn) h3
      omega
    have h5 : (z.length : Int) * n ≤ 1000000 * 1000000 := Int.mul_le_mul this h2 (by omega) (by omega)
    have h4 : (z.length : Int) ≤ (2 ^ 63 - 1) / n := Int.le_ediv_of_mul_le (by omega) (Int.le_trans h5 (by decide))
    omega
  · unfold Builtin.Str.tooLong
    rw [decide_eq_false_iff_not]
    rw [Nat.mul_comm]
    omega
  · by_cases c1 : n < 1
    · rw [if_pos c1]
      refine ⟨by decide, .str (repS z n), H, I.tok _, ?_, q⟩
      have : n.toNat = 0 := by omega
      have e : repS z n = Str.empty := by
        unfold repS
        rw [this]
        rfl
      rw [e]
      exact ⟨_, rfl⟩
    rw [if_neg c1]
    by_cases c2 : (n == 1 || z.length == 0) = true
    · rw [if_pos c2]
      refine ⟨.str (repS z n), H, I, ⟨t, ?_⟩, q⟩
      have : repS z n = z := by
        rw [Bool.or_eq_true] at c2
        rcases c2 with c2 | c2
        · have : n = 1 := by simpa using c2
          subst this
          unfold repS
          cases z
          simp
        · have hz : z.length = 0 := by simpa using c2
          have he : z.cps = #[] := by
            have : z.cps.size = 0 := hz
            exact Array.eq_empty_of_size_eq_zero this
          unfold repS
          cases z
          simp only at he
          subst he
          simp
      rw [this]
    · rw [if_neg c2]
      refine ⟨?_, .str (repS z n), H, I.tok _, ?_, q⟩
      · rw [foldl_app]
        have := repS_length z n
        unfold repS at this
        simp only [List.nil_append]
        show (Str.length ⟨_⟩) ≤ _
        rw [this]
        exact hsl
      · rw [foldl_app]
        exact ⟨_, rfl⟩
def dMulS : D → D → Option D
  | .str z, .int n => if -1000000 ≤ n ∧ n ≤ 1000000 ∧ n.toNat * z.length ≤ 1000000 then some (.str (repS z n)) else none
  | _, _ => none
section
variable {T : List (Addr × Str)} {X : Cx} {Wx : WX} {κ κ' : Bool} {a b e : Expr} {ma mb : M D} {pos pos' : Pos}
theorem op2_mulS : Op2 true (RepR X) (RepR X) (RepR X) T X Wx (fun x y H Q => ∃ z n, x = V.str z ∧ y = V.int n ∧ -1000000 ≤ n ∧ n ≤ 1000000 ∧ n.toNat * z.length ≤ 1000000 ∧ Q (.str (repS z n)) H) (pure2 dMulS) := by
  intro W H env st σ x y d e Q rl h1 h2 hp
  unfold pure2 dMulS at hp
  split at hp
  · rename_i z n
    split at hp
    · rename_i o
      exact ⟨z, n, rep_str.mp h1, rep_int.mp h2, o.1, o.2.1, o.2.2, hp.ok rl (rep_str.mpr rfl)⟩
    · exact hp.elim
  · exact hp.elim
theorem ev_mulS (ha : EV κ T X Wx a ma) (hb : EV κ' T X Wx b mb) : EV (κ && κ') T X Wx (.BinOp a .Mult b pos) (mBin ma mb (pure2 dMulS)) := ev_op op_mulS Stands.rep op2_mulS ha hb
end
end Ev
set_option autoImplicit true
set_option maxRecDepth 100000
set_option maxHeartbeats 4000000
/-! dict(pairs) whose keys are tuples -/
namespace L2
open PySem PySem.Spec PyProof.Rows
end L2
set_option autoImplicit true
set_option maxRecDepth 100000
set_option maxHeartbeats 4000000
/-! dict(pairs) whose keys are tuples, by contents -/
namespace Ev
open PySem PySem.Spec PyProof.Rows L2
end Ev
set_option autoImplicit true
set_option maxRecDepth 100000
set_option maxHeartbeats 4000000
/-! a def that gives back contents and a new dict, as a tuple, and `a, d = f(..)` -/
namespace Ev
open PySem PySem.Spec PyProof.Rows L2
def PPost (G : Gx) (W : Wm) (H : Hp) (o : Out) (D : Ends) : Prop := match o with
  | .rt (.tup [d, .ownd c]) st => ∀ W' H' p a v1 i, ExtS W H W' H' → StoOk G W' H' st → H' p = some (.tup [v1, .ref a]) → Rep G.K W' H' d v1 → W' a = some (.slot i) → CD G.K W' H' c a → D.rt (.ref p) H'
  | _ => False
theorem PPost.ext {G : Gx} {W W' : Wm} {H H' : Hp} {o : Out} {D : Ends} (h : PPost G W H o D) (e : ExtS W H W' H') : PPost G W' H' o D := by
  unfold PPost at h ⊢
  split at h
  · exact fun W2 H2 p a v1 i e2 => h W2 H2 p a v1 i (e.trans e2)
  · exact h.elim
/-! ### the def -/
section
variable {G : Gx} {W W' : Wm} {H H' : Hp} {st st' : Sto}
theorem StoOk.retag {a : Addr} {t t2 : Tag} (s : StoOk G W H st) (h : W a = some t) (h1 : ∀ n, t ≠ .obj n) (h2 : ∀ n f, t ≠ .fld n f) (h3 : ∀ n, t2 ≠ .obj n) : StoOk G (tagW W a (some t2)) H st := by
  have mo : Mo W H (tagW W a (some t2)) H := mo_retag (by rw [h]; simp) fun n z => by rw [h] at z; cases z; exact h1 n rfl
  refine ⟨fun b n q => ?_, fun b c n q1 q2 => ?_, fun b u q => ?_, s.tabs, fun b vs q => ?_⟩
  · have z : b ≠ a := fun z => by subst z; rw [tagW_same] at q; exact h3 n (Option.some.inj q)
    rw [tagW_ne z] at q
    obtain ⟨o, e, ro⟩ := s.obj b n q
    refine ⟨o, e, ro.mono mo rfl fun c f qc => ⟨?_, rfl⟩⟩
    have z : c ≠ a := fun z => by subst z; rw [h] at qc; cases qc; exact h2 _ _ rfl
    rw [tagW_ne z]; exact qc
  · have z1 : b ≠ a := fun z => by subst z; rw [tagW_same] at q1; exact h3 n (Option.some.inj q1)
    have z2 : c ≠ a := fun z => by subst z; rw [tagW_same] at q2; exact h3 n (Option.some.inj q2)
    rw [tagW_ne z1] at q1
    rw [tagW_ne z2] at q2
    exact s.uniq b c n q1 q2
  · by_cases z : b = a
    · subst z; exact s.used b _ h
    · rw [tagW_ne z] at q; exact s.used b u q
  · have z : b ≠ a := fun z => by subst z; rw [s.ntup b vs q] at h; cases h
    rw [tagW_ne z]
    exact s.ntup b vs q
theorem CD.mono {K : PySem.W.Frag} {c : Dc} {a : Addr} (m : Mo W H W' H) (h : CD K W H c a) : CD K W' H c a := h.imp (fun ⟨ks, z, r⟩ => ⟨ks, z, RepKc.mono m _ _ r⟩) fun ⟨ks, z, r⟩ => ⟨ks, z, RepTc.mono m _ _ r⟩
end
/-! ### the call -/
/-! ### x in d.values(), as a test -/
end Ev
set_option autoImplicit true
set_option maxRecDepth 100000
set_option maxHeartbeats 4000000
/-! tuple(range(a, b, c)) -/
namespace Ev
open PySem PySem.Spec PyProof.Rows L2
end Ev
set_option autoImplicit true
set_option maxRecDepth 100000
set_option maxHeartbeats 4000000
/-! dicts whose keys are tuples: del, len, list, sorted -/
namespace L2
open PySem PySem.Spec PyProof.Rows
end L2
namespace Ev
open PySem PySem.Spec PyProof.Rows L2
section
variable {K : PySem.W.Frag} {W : Wm} {H : Hp}
theorem RepT.drop {k : List Key} : ∀ {kvs : List (D × D)} {ks : List (List Key × V)}, RepT K W H kvs ks → RepT K W H (dDrop kvs (.tup (k.map keyD))) (dropK ks k)
  | [], ks, h => by unfold RepT at h; subst h; unfold dDrop dropK; simp; unfold RepT; rfl
  | (k0, d0) :: r, ks, h => by
    unfold RepT at h
    obtain ⟨k', v', r', rfl, rfl, h1, h2⟩ := h
    have ih := RepT.drop (k := k) h2
    unfold dDrop dropK at ih ⊢
    by_cases e : k' = k
    · subst e
      rw [List.filter_cons_of_neg (by simp [D.eqv, keysD_eqv]), List.filter_cons_of_neg (by simp)]
      exact ih
    · rw [List.filter_cons_of_pos (by simpa [D.eqv, keysD_eqv] using e), List.filter_cons_of_pos (by simpa using e)]
      unfold RepT
      exact ⟨k', v', _, rfl, rfl, h1, ih⟩
end
/-! ### len(d) -/
end Ev
set_option autoImplicit true
set_option maxRecDepth 100000
set_option maxHeartbeats 4000000
/-! sorted(d.items()), d's keys tuples -/
namespace Ev
open PySem PySem.Spec PyProof.Rows L2
end Ev
set_option autoImplicit true
set_option maxRecDepth 100000
set_option maxHeartbeats 4000000
/-! walks of dicts whose keys are tuples: a comprehension over a slot's dict, a field's dict -/
namespace Ev
open PySem PySem.Spec PyProof.Rows L2
/-! ### a locked field's dict -/
end Ev
set_option autoImplicit true
set_option maxRecDepth 100000
set_option maxHeartbeats 4000000
/-! texts replaced by written ones: a token must be out -/
namespace L2
open PySem PySem.Spec PyProof.Rows
end L2
set_option autoImplicit true
set_option maxRecDepth 100000
set_option maxHeartbeats 4000000
/-! texts replaced: xs = [text.join(..) ..]; ys = [x.replace(..) for x in xs] -/
namespace Ev
open PySem PySem.Spec PyProof.Rows L2
end Ev
set_option autoImplicit true
set_option maxRecDepth 100000
set_option maxHeartbeats 4000000
/-! things compared by what they are: a < b of tuples -/
namespace Ev
open PySem PySem.Spec PyProof.Rows L2
end Ev
set_option autoImplicit true
set_option maxRecDepth 100000
set_option maxHeartbeats 4000000
/-! enumerate(text), zip(text, text) -/
namespace L2
open PySem PySem.Spec PyProof.Rows
end L2
namespace Ev
open PySem PySem.Spec PyProof.Rows L2
end Ev
set_option autoImplicit true
set_option maxRecDepth 100000
set_option maxHeartbeats 4000000
/-! reversed(text), text.join(reversed(text)) -/
namespace RS
open PySem PySem.Spec PyProof.Rows RT
def IsRs (h : Heap) (a : Addr) (z : Str) (t : Tok) (i : Int) : Prop := ∃ o, h.get? a = some o ∧ o.cls = .type "reversed" ∧ o.data = .fields #[.str z t, rawInt i]
theorem IsRs.at {h h' : Heap} {a : Addr} {z : Str} {t : Tok} {i : Int} (x : IsRs h a z t i) (e : ∀ o, h.get? a = some o → h'.get? a = some o) : IsRs h' a z t i := let ⟨o, ho, r⟩ := x; ⟨o, e _ ho, r⟩
end RS
namespace Ev
open PySem PySem.Spec PyProof.Rows L2
end Ev
set_option autoImplicit true
set_option maxRecDepth 100000
set_option maxHeartbeats 4000000
/-! for t in o.f: if c: return k, the field's own dict locked the while -/
namespace Ev
open PySem PySem.Spec PyProof.Rows L2
/-! ### try: .. except X: .. -/
end Ev
set_option autoImplicit true
set_option maxRecDepth 100000
set_option maxHeartbeats 4000000
/-! quiet statements and defs (they change nothing that stood); for over a lent dict; a new dict lent -/
namespace Ev
open PySem PySem.Spec PyProof.Rows L2
def QPost (G : Gx) (W : Wm) (H : Hp) (o : Out) (D : Ends) : Prop := match o with
  | .nx env st => ∀ W' H' σ', Ext true W H W' H' → Rel G W' H' env st σ' → D.nx σ' H'
  | .rt d st => ∀ W' H' v, Ext true W H W' H' → StoOk G W' H' st → Rep G.K W' H' d v → D.rt v H'
  | .bk env st => ∀ W' H' σ', Ext true W H W' H' → Rel G W' H' env st σ' → D.bk σ' H'
  | .ct env st => ∀ W' H' σ', Ext true W H W' H' → Rel G W' H' env st σ' → D.ct σ' H'
  | .xc _ _ _ => False
  | .bad => False
section
variable {G : Gx} {Wx : WX} {W W' : Wm} {H H' : Hp} {D : Ends}
theorem QPost.ext {o : Out} (h : QPost G W H o D) (e : Ext true W H W' H') : QPost G W' H' o D := by
  cases o with
  | nx env st => exact fun W2 H2 σ e2 r => h W2 H2 σ (e.trans e2) r
  | rt d st => exact fun W2 H2 v e2 r q => h W2 H2 v (e.trans e2) r q
  | bk env st => exact fun W2 H2 σ e2 r => h W2 H2 σ (e.trans e2) r
  | ct env st => exact fun W2 H2 σ e2 r => h W2 H2 σ (e.trans e2) r
  | xc x env st => exact h
  | bad => exact h
theorem QPost.nx {env : Env} {st : Sto} {σ : L2.St} (h : QPost G W H (.nx env st) D) (r : Rel G W H env st σ) : D.nx σ H := h W H σ Ext.refl r
theorem QPost.of {α β : Type} {R : Wm → Hp → α → β → Prop} {env : Env} {σ : L2.St} {r : Res α} {f : α → Sto → Out} {Q : β → Hp → Prop} (h : QPost G W H (r.out env f) D)
    (k : ∀ a st' W' H' b, Ext true W H W' H' → Rel G W' H' env st' σ → R W' H' a b → QPost G W' H' (f a st') D → Q b H') : Post true R G Wx W H env σ r Q := by
  cases r with
  | ok a st => exact fun W' H' b e r q => k a st W' H' b e r q (QPost.ext h e)
  | exc x st => exact h.elim
  | bad => exact h
end
/-! ### a def that changes nothing -/
end Ev
set_option autoImplicit true
set_option maxRecDepth 100000
set_option maxHeartbeats 4000000
/-! text.count(text), text.index(text) where it is there -/
namespace Ev
open PySem PySem.Spec PyProof.Rows L2
end Ev
set_option autoImplicit true
set_option maxRecDepth 100000
set_option maxHeartbeats 4000000
/-! sorted(xs, key=lambda x: ..), xs any list -/
namespace Ev
open PySem PySem.Spec PyProof.Rows L2
end Ev
set_option autoImplicit true
set_option maxRecDepth 100000
set_option maxHeartbeats 4000000
/-! max(xs, key=lambda x: ..), xs a slot's own list -/
namespace Ev
open PySem PySem.Spec PyProof.Rows L2
end Ev
set_option autoImplicit true
set_option maxRecDepth 100000
set_option maxHeartbeats 4000000
/-! min of four -/
namespace Ev
open PySem PySem.Spec PyProof.Rows L2
end Ev
set_option autoImplicit true
set_option maxRecDepth 100000
set_option maxHeartbeats 4000000
/-! a list of the store walked where nothing changes -/
namespace Ev
open PySem PySem.Spec PyProof.Rows L2
end Ev
set_option autoImplicit true
set_option maxRecDepth 100000
set_option maxHeartbeats 4000000
/-! tuples that are known to have no dict of their own: written, added, made a dict -/
namespace Ev
open PySem PySem.Spec PyProof.Rows L2
section
variable {T : List (Addr × Str)} {X : Cx} {Wx : WX} {κ κ' : Bool} {a b e : Expr} {ma mb m : M D} {pos p : Pos}
/-! ### as it stands -/
def PtpH (K : PySem.W.Frag) (H : Hp) (a : Addr) (vs : List V) : Prop := (∃ o : Obj, H a = some (.frz o (.tup vs)) ∧ o.cls = .type "tuple" ∧ o.dict = none) ∨ KTup K a vs
theorem PtpAt.h {K : PySem.W.Frag} {W : Wm} {H : Hp} {a : Addr} {vs : List V} (h : PtpAt K W H a vs) : PtpH K H a vs := h.imp (fun q => q.2) id
theorem PtpH.obj {pins : List (Addr × Obj)} {σ : L2.St} {H : Hp} {s : Shared} {a : Addr} {vs : List V} (h : PtpH X.K H a vs) (I : Inv X pins σ H s) : ∃ (o : Obj) (its : List Value) (n : Nat), s.heap.get? a = some o ∧ o.cls = .type "tuple" ∧ o.dict = none ∧ o.data = .seq its.toArray n ∧ vs.length ≤ sizeLine ∧ Vals vs its := by
  rcases h with ⟨o, hq, oc, od⟩ | ⟨o, its, n, hk, oc, od, hd, hz, rv⟩
  · obtain ⟨ho, hz, its, rv, o', ho', _, n, hdat⟩ := I.hok _ _ hq
    rw [ho] at ho'; cases ho'
    exact ⟨o, its, n, ho, oc, od, hdat, hz, rv⟩
  · exact ⟨o, its.toList, n, I.kIn a o hk, oc, od, by simpa using hd, by rw [rv.length]; simpa using hz, rv⟩
/-! ### written -/
def tTupP (t : TA) : TE := fun σ H Q => t σ H fun xs H1 => xs.length ≤ sizeLine ∧ ∀ (p : Addr) (o : Obj), H1 p = none → o.cls = .type "tuple" → o.dict = none → Q (.ref p) (upd H1 p (.frz o (.tup xs)))
theorem pe_tupP {es : List Expr} {t : TA} {x1 : Nat} (h : PA X es t) : PE X (.Tuple es x1 pos) (tTupP t) := by
  refine ⟨fun pins s σ H Q I hq => ?_⟩
  refine wpAny_Tuple_spliced (thn (h.run pos pins s σ H _ I hq) fun us s1 ⟨xs, H1, I1, r, z, q⟩ => ⟨by rw [← r.length]; exact z, ?_⟩)
  have hf : H1 s1.heap.objs.size = none := I1.hok.fresh (Nat.le_refl _)
  refine ⟨.ref s1.heap.objs.size, upd H1 s1.heap.objs.size (.frz { cls := .type "tuple", data := .seq us.toArray } (.tup xs)), I1.laid (t' := s1.toks) (fun b u e => Heap.get?_push_of_some _ e) (Nat.le_refl _) ?_, rfl, q _ _ hf rfl rfl⟩
  exact ⟨Heap.get?_push_size _ rfl, z, us, r, ⟨_, Heap.get?_push_size _ rfl, rfl, _, rfl⟩⟩
def mTupP (m : M (List D)) : M D := fun env st => (m env st).bind fun ds st' => if ds.length ≤ 1000 then .ok (.ptp ds) st' else .bad
theorem ev_tupP {es : List Expr} {n : M (List D)} {x1 : Nat} (h : AV κ T X Wx es n) : EV κ T X Wx (.Tuple es x1 pos) (mTupP n) := by
  obtain ⟨ta, pa, ra⟩ := h.ex
  refine ⟨_, pe_tupP pa, fun W H env st σ Q rl h => ra _ _ _ _ _ _ rl (h.bind id fun ds st1 W1 H1 vs e1 r1 q1 h1 => ?_)⟩
  split at h1
  · rename_i hz
    rw [q1.length] at hz
    exact ⟨small_line hz, fun p o hp hc hd => h1.laid r1 hp (rep_ptp.mpr ⟨p, vs, rfl, .inl ⟨r1.sto.nobody hp, o, upd_same, hc, hd⟩, Reps.mono (Ext.laid (κ := true) r1.sto hp).mo _ _ q1⟩)⟩
  · exact h1.elim
/-! ### added -/
def rCatP (K : PySem.W.Frag) : L2.R2 := fun x y H Q => ∃ a b xs ys, x = .ref a ∧ y = .ref b ∧ SqT K H a xs ∧ SqT K H b ys ∧ xs.length + ys.length ≤ sizeLine ∧
  (xs = [] → Q (.ref b) H) ∧ (xs ≠ [] → ys = [] → Q (.ref a) H) ∧ (xs ≠ [] → ys ≠ [] → ∀ (p : Addr) (o : Obj), H p = none → o.cls = .type "tuple" → o.dict = none → Q (.ref p) (upd H p (.frz o (.tup (xs ++ ys)))))
theorem op_catP : OpR X (binaryOp .Add) (rCatP X.K) := by
  intro pins s σ H x y v u Q I rx ry h
  obtain ⟨a, b, xs, ys, rfl, rfl, ha, hb, hz, q0, q1, q2⟩ := h
  cases rx
  cases ry
  obtain ⟨its, r1, p1, _⟩ := I.tuple ha
  obtain ⟨its2, r2, p2, _⟩ := I.tuple hb
  by_cases hx : xs = []
  · subst hx
    cases r1
    exact cat_tup0 p1 p2 ⟨.ref b, H, I, rfl, q0 rfl⟩
  · refine HT.cat_tup p1 p2 (fun z => hx (r1.nil_iff.mp z)) (fun z => ⟨.ref a, H, I, rfl, q1 hx (r2.nil_iff.mp z)⟩) (fun z => ?_) (by rw [← r1.length, ← r2.length]; exact hz)
    refine ⟨.ref s.heap.objs.size, _, I.laid (t' := s.toks) (o := .frz { cls := .type "tuple", data := .seq (its ++ its2).toArray } (.tup (xs ++ ys))) (fun b ob q => Heap.get?_push_of_some _ q) (Nat.le_refl _) ?_, rfl, q2 hx (fun w => z (r2.nil_iff.mpr w)) _ _ (I.hok.fresh (Nat.le_refl _)) rfl rfl⟩
    exact ⟨Heap.get?_push_size _ rfl, by rw [List.length_append]; exact hz, _, r1.append r2, IsTup.new _ _⟩
def dCatP (d e : D) : Option D := match d, e with
  | .ptp xs, .ptp ys => if xs.length + ys.length ≤ 1000000 then some (.ptp (xs ++ ys)) else none
  | _, _ => none
theorem ev_catP (ha : EV κ T X Wx a ma) (hb : EV κ' T X Wx b mb) : EV (κ && κ') T X Wx (.BinOp a .Add b pos) (mBin ma mb (pure2 dCatP)) :=
  ev_op op_catP Stands.rep (fun W H env st σ x y d1 d2 Q rl h1 h2 hp => by
    unfold pure2 dCatP at hp
    split at hp
    · split at hp
      · rename_i hz
        obtain ⟨a1, v1, rfl, t1, r1⟩ := rep_ptp.mp h1
        obtain ⟨a2, v2, rfl, t2, r2⟩ := rep_ptp.mp h2
        have l1 := r1.length
        have l2 := r2.length
        refine ⟨a1, a2, v1, v2, rfl, rfl, t1.sq, t2.sq, mill (by omega), fun z => hp.ok rl ?_, fun z z2 => hp.ok rl ?_, fun z z2 p o hp' hc hd => hp.laid rl hp' (rep_ptp.mpr ⟨p, _, rfl, .inl ⟨rl.sto.nobody hp', o, upd_same, hc, hd⟩, Reps.mono (Ext.laid (κ := true) rl.sto hp').mo _ _ (r1.append r2)⟩)⟩
        · subst z
          have := List.eq_nil_of_length_eq_zero (l1.trans rfl)
          subst this
          exact rep_ptp.mpr ⟨a2, v2, rfl, t2, r2⟩
        · subst z2
          have := List.eq_nil_of_length_eq_zero (l2.trans rfl)
          subst this
          rw [List.append_nil]
          exact rep_ptp.mpr ⟨a1, v1, rfl, t1, r1⟩
      · exact hp.elim
    · exact hp.elim) ha hb
/-! ### dict(t) -/
end
/-! ### given up behind statements -/
end Ev
set_option autoImplicit true
set_option maxRecDepth 100000
set_option maxHeartbeats 4000000
/-! plain tuples read as tuples, sliced, t.index; enumerate over what is own; loops that change own slots alone -/
namespace Ev
open PySem PySem.Spec PyProof.Rows L2
/-! ### enumerate over what is read -/
/-! ### statements that change own slots alone -/
structure ExtF (W : Wm) (H : Hp) (W' : Wm) (H' : Hp) : Prop where
  fr : ∀ a o, W a = none → H a = some o → (∀ ps, o ≠ .tbl ps) → W' a = none ∧ H' a = some o
  hl : ∀ a t, W a = some t → (∀ i, t ≠ .slot i) → W' a = some t ∧ H' a = H a
  th : ∀ a o, H a = some o → (∀ ps, o ≠ .tbl ps) → ∃ o', H' a = some o' ∧ ∀ ps, o' ≠ .tbl ps
section
variable {W W' W2 : Wm} {H H' H2 : Hp}
theorem ExtF.refl : ExtF W H W H := ⟨fun _ _ h e _ => ⟨h, e⟩, fun _ _ h _ => ⟨h, rfl⟩, fun _ o h n => ⟨o, h, n⟩⟩
theorem ExtF.trans (a : ExtF W H W' H') (b : ExtF W' H' W2 H2) : ExtF W H W2 H2 :=
  ⟨fun c o h e n => let ⟨x, y⟩ := a.fr c o h e n; b.fr c o x y n, fun c t h k => let ⟨x, y⟩ := a.hl c t h k; let ⟨z, u⟩ := b.hl c t x k; ⟨z, u.trans y⟩, fun c o h n => let ⟨o1, h1, n1⟩ := a.th c o h n; b.th c o1 h1 n1⟩
theorem Ext.toF (a : Ext true W H W' H') : ExtF W H W' H' := ⟨a.fr, fun c t h _ => a.hl c t h rfl, a.th⟩
theorem ExtF.s (a : ExtF W H W' H') : ExtS W H W' H' := ⟨a.fr, fun c n h => (a.hl c _ h (by intro i z; cases z)).1, fun c h => a.hl c _ h (by intro i z; cases z), a.th⟩
theorem ExtF.mo (a : ExtF W H W' H') : Mo W H W' H' := a.s.mo
end
/-- a field's own list, read -/
def FRep (K : PySem.W.Frag) (W : Wm) (H : Hp) (d : D) (v : V) : Prop := Rep K W H d v ∨ ∃ n f ds, d = .lst ds ∧ OwnL K W H (.fld n f) ds v
abbrev FldR (X : Cx) : Wm → Hp → D → V → Prop := fun W H => FRep X.K W H
theorem StandsK.fld {X : Cx} : StandsK ExtF (FldR X) := fun W H W' H' d v e h => by
  rcases h with h | ⟨n, f, ds, rfl, a, vs, q, h1, h2, h3⟩
  · exact .inl (Rep.mono e.mo _ _ h)
  · obtain ⟨x, y⟩ := e.hl a _ h1 (by intro i z; cases z)
    exact .inr ⟨n, f, ds, rfl, a, vs, q, x, y.trans h2, Reps.mono e.mo _ _ h3⟩
theorem ToCur.fld {X : Cx} : ToCur X (FldR X) := fun W H d v h => by
  rcases h with h | ⟨n, f, ds, rfl, h⟩
  · exact .inl h
  · exact .inr (.inl ⟨_, ds, rfl, h⟩)
def FPost (G : Gx) (W : Wm) (H : Hp) (o : Out) (D : Ends) : Prop := match o with
  | .nx env st => ∀ W' H' σ', ExtF W H W' H' → Rel G W' H' env st σ' → D.nx σ' H'
  | .rt d st => ∀ W' H' v, ExtF W H W' H' → StoOk G W' H' st → Rep G.K W' H' d v → D.rt v H'
  | .bk env st => ∀ W' H' σ', ExtF W H W' H' → Rel G W' H' env st σ' → D.bk σ' H'
  | .ct env st => ∀ W' H' σ', ExtF W H W' H' → Rel G W' H' env st σ' → D.ct σ' H'
  | .xc _ _ _ => False
  | .bad => False
section
variable {G : Gx} {Wx : WX} {W W' : Wm} {H H' : Hp} {D : Ends}
theorem FPost.ext {o : Out} (h : FPost G W H o D) (e : ExtF W H W' H') : FPost G W' H' o D := by
  cases o with
  | nx env st => exact fun W2 H2 σ e2 r => h W2 H2 σ (e.trans e2) r
  | rt d st => exact fun W2 H2 v e2 r q => h W2 H2 v (e.trans e2) r q
  | bk env st => exact fun W2 H2 σ e2 r => h W2 H2 σ (e.trans e2) r
  | ct env st => exact fun W2 H2 σ e2 r => h W2 H2 σ (e.trans e2) r
  | xc x env st => exact h
  | bad => exact h
theorem FPost.nx {env : Env} {st : Sto} {σ : L2.St} (h : FPost G W H (.nx env st) D) (r : Rel G W H env st σ) : D.nx σ H := h W H σ ExtF.refl r
theorem FPost.of {α β : Type} {R : Wm → Hp → α → β → Prop} {env : Env} {σ : L2.St} {r : Res α} {f : α → Sto → Out} {Q : β → Hp → Prop} (h : FPost G W H (r.out env f) D)
    (k : ∀ a st' W' H' b, Ext true W H W' H' → Rel G W' H' env st' σ → R W' H' a b → FPost G W' H' (f a st') D → Q b H') : Post true R G Wx W H env σ r Q := by
  cases r with
  | ok a st => exact fun W' H' b e r q => k a st W' H' b e r q (FPost.ext h e.toF)
  | exc x st => exact h.elim
  | bad => exact h
end
end Ev
set_option autoImplicit true
set_option maxRecDepth 100000
set_option maxHeartbeats 4000000
/-! an own error whose __init__ says super().__init__(text), then self.f = f: made -/
namespace PySem
namespace OwnX
open PySem.W PySem.Calls PyProof.Rows PySem.HandSPX
/-! ### the text of __init__ -/
def iA (p1 p2 : Pos) : Arguments := { posonlyargs := [], args := [{ arg := "self", annotation := none, pos := p1 }, { arg := "row", annotation := none, pos := p2 }], vararg := none, kwonlyargs := [], kw_defaults := [], kwarg := none, defaults := [] }
def iB (txt : Str) (j : Nat) (r1 r2 r3 r4 r5 r6 q1 q2 q3 q4 : Pos) : List Stmt := [.Expr (.Call (.Attribute (.Call (.Name "super" r1) [] [] r2) "__init__" r3) [.Constant (.str txt) j r4] [] r5) r6, .Assign [.Attribute (.Name "self" q1) "row" q2] (.Name "row" q3) q4]
def iS : Scope := { kind := .function, names := [("self", .local), ("row", .local), ("__class__", .free), ("super", .globalImplicit)], isGenerator := false, isCoroutine := false, more := [] }
structure OwnTxt (P : Program) (K : Frag) (mg : Str → Option Value) (x : Str) (C fI : Addr) : Prop where
  gC : mg x = some (.ref C)
  cls : ∃ nm q N bs bm sn sub ab col dd k0 k1 k2 k3 k5, K.lookup C = some (excClassObj nm q C N bs bm true sn sub ab col dd k0 k1 k2 k3 k5 "ValueError.__new__") ∧ refsVE bm = true
  sa : findIn K (.ref C) "__setattr__" = some (some (.builtin "object.__setattr__"))
  ga : findIn K (.ref C) "__getattribute__" = some (some (.builtin "BaseException.__getattribute__"))
  gg : findIn K (.ref C) "__getattr__" = some none
  noN : findIn K (.ref C) "row" = some none
  iC : findIn K (.ref C) "__init__" = some (some (.ref fI))
  tC : typeIn K (.ref fI) = some (.type "function")
  kC : keepIn K (.ref C) = true
  exC : subIn K (.ref C) (.type "BaseException") = some true
  tyC : typeIn K (.ref C) = some (.type "type")
  hdC : hasDictIn K C = true
  veC : subIn K (.ref C) (.type "ValueError") = some true
  mrC : mroIn K C (.ref C) = some true
  suC : ks_superIn K C C "__init__" = some (some (.builtin "ValueError.__init__"))
  opq : nsIn K cStatics "thirdparty.any" = some none
  sup : mg "super" = none
  top : (P.main.scope.names.lookup ("super" : Str)).isSome = false
  fn : ∃ (oc : Value) (od : Option Addr) (doc pm : Value) (an : Option Addr) (cda : Addr) (ct : Value) (cc : Addr) (osl : Array (Option Value)) (q txt : Str) (j : Nat) (p1 p2 r1 r2 r3 r4 r5 r6 q1 q2 q3 q4 : Pos),
    K.lookup fI = some ⟨oc, od, .func (ksFn "__init__" q (iA p1 p2) (iB txt j r1 r2 r3 r4 r5 r6 q1 q2 q3 q4) iS .none .none doc pm an (.ref cda) ct cc), osl⟩ ∧ codeIn K (.ref cda) q = true ∧ (r3.endLine == r5.line) = true ∧
    (∃ ccl cdd vs ccs file tf, K.lookup cda = some ⟨ccl, cdd, .fields vs, ccs⟩ ∧ vs[2]? = some (.str file tf) ∧ ((P.main.file : Str) == file) = true) ∧ ∃ cl cld csl, K.lookup cc = some ⟨cl, cld, .cell (some (.ref C)), csl⟩
theorem kept_but {K : Frag} {h h' : Heap} {x : Addr} (X : K.In h) (hx : K.lookup x = none) (k : ∀ b o, b ≠ x → h.get? b = some o → h'.get? b = some o) : K.In h' := fun a o e =>
  k a o (fun z => by rw [z, hx] at e; cases e) (X a o e)
/-- what __init__ leaves of a fresh exception at x -/
structure InitEnd (h h' : Heap) (x C dx : Addr) (v : Value) : Prop where
  keep : ∀ b o, b ≠ x → h.get? b = some o → h'.get? b = some o
  obj : ∃ t1 : Addr, h'.get? x = some { cls := .ref C, dict := some dx, data := .fields #[.ref t1, .none, .none, .none, .bool false, .none] }
  dbig : h.objs.size ≤ dx
  dne : dx ≠ x
  ns : h'.Ns1 dx (fun y => if y = "row" then some v else none)
structure OwnMade (h h' : Heap) (e C d : Addr) (v : Value) : Prop where
  keep : ∀ b o, h.get? b = some o → h'.get? b = some o
  new : h.objs.size ≤ e
  obj : ∃ oe vs, h'.get? e = some oe ∧ oe.cls = .ref C ∧ oe.dict = some d ∧ oe.data = .fields vs ∧ vs[1]? = some .none ∧ vs[2]? = some .none
  dbig : h.objs.size ≤ d
  dne : d ≠ e
  ns : h'.Ns1 d (fun y => if y = "row" then some v else none)
theorem one_size (v : Value) : [v].length ≤ sizeLine := by
  rw [sizeLine_eq]
  exact (by decide : 1 ≤ 16777216)
section
variable {prog : Program} {w : World} {A : Around} {E : Value → Shared → Prop} {R : Result → Shared → Prop} {s : Shared} {K : Frag} {mg : Str → Option Value} {C fI : Addr} {x0 : Str} {base : Heap}
theorem wpAt_methL {c : Code} {env : Env} {o : Expr} {name : Str} {apos pos : Pos} {args : List Expr} {Q : Value → Shared → Prop}
    (hfew : ((backTo pos (starEach args env)).all (fun x => !x.1) && (backToKw pos (keywordEach [] env)).all (fun x => x.1.isSome)
      && decide (args.length + ([] : List Keyword).length + (if ([] : List Keyword).isEmpty then 0 else 1) < 30)) = true) (hline : (apos.endLine == pos.line) = true)
    (h : wpAt (model prog w) A c (attributeBase o name env (eval o env)) (fun ov s₁ => ∀ pl, wpAny (model prog w) A (getMethod ov name pl) (fun fx s₂ => wpAny (model prog w) A (callWith pos fx.1 fx.2 (backTo pos (starEach args env)) []) Q E s₂) E s₁) E s) :
    wpAt (model prog w) A c (eval (.Call (.Attribute o name apos) args [] pos) env) Q E s := by
  rw [arm_eval_Call]
  refine wpAt_bind (wpAt_mono h (fun ov s₁ h₁ => wpAt_of_wpAny (wpAny_bind (wpAny_standAt ?_))) fun _ _ x => x)
  have hform : methodCallForm (args.length + ([] : List Keyword).length) (backTo pos (starEach args env)) (backToKw pos (keywordEach [] env)) = true := hfew
  have hpos : methodCallPos true o env apos pos = pure pos := by unfold methodCallPos; simp [hline]
  unfold methodCall
  rw [hform]
  refine wpAny_bind (wpAny_holding (wpAny_mono (h₁ _) (fun fx s₂ h₂ => ?_) fun _ _ x => x))
  exact wpAny_bind (wpAny_of_eq hpos h₂)
theorem init_bound {u x t0 : Addr} {rest : List Value} {nm q : Str} {N : Addr} {bs bm : List Value} {sn : List Str} {sub : List Value} {ab : Bool} {col : Option Bool} {dd : Option Addr} {k0 k1 k2 k3 k5 : Option Value} {Q : Value → Shared → Prop} {h : Heap} {g : Array GenState} {d : Drawn} {t : Nat} {os : OsState}
    (hC : h.get? C = some (excClassObj nm q C N bs bm true sn sub ab col dd k0 k1 k2 k3 k5 "ValueError.__new__")) (hu : h.get? u = some (kxs_mw "ValueError.__init__" x)) (he : h.get? x = some (excO C t0)) (hz : rest.length ≤ sizeLine)
    (hq : ∀ h' t1, (∀ b o, b ≠ x → h.get? b = some o → h'.get? b = some o) → h'.get? x = some (excO C t1) → Q .none ⟨h', g, d, t, os⟩) : wpAny (model prog w) A (call (.ref u) rest) Q E ⟨h, g, d, t, os⟩ := by
  have FB := F.excBase_ValueError
  refine wpAny_call (codeAny_of_tree ?_)
  show wpAny _ A.in1 (callAny (.ref u) ⟨rest, []⟩) _ _ _
  simp only [callAny]
  refine wpAny_bind (wpAny_load hu ?_)
  simp only [kxs_mw, show (Value.type "method-wrapper" == Value.type "method" || Value.type "method-wrapper" == Value.type "builtin_function_or_method" || Value.type "method-wrapper" == Value.type "method-wrapper") = true by decide, if_true]
  refine KFB.if_so (by decide) ?_
  refine wpAny_bind (check_bound_init FB.toExcCallFacts hC he rfl ?_)
  refine wpAny_bind (wpAny_pure (wpAny_pure ?_))
  refine ⟨plainId_quiet FB.init.plain _, codeAny_builtin FB.initEntry ?_⟩
  exact exc_init_tree (cls := .ref C) (t0 := t0) (dv := none) (c2 := .none) (c3 := .none) (b4 := .bool false) he hz fun h' k e' _ => hq h' _ k e'
theorem own_init (T : OwnTxt prog K mg x0 C fI) (Mb : L2.Mod K mg base) {x t0 : Addr} {v : Value} (bk : ∀ b o, base.get? b = some o → s.heap.get? b = some o) (X : K.In s.heap) (hlim : s.heap.NoLimit) (hx : s.heap.get? x = some (excO C t0)) (hnx : K.lookup x = none) (hnb : base.get? x = none) (hroom : A.depth < recursionLimit)
    (hq : ∀ h' tk dx, InitEnd s.heap h' x C dx v → R (.ok (.ret .none)) { s with heap := h', toks := tk }) :
    codeAny (model prog w) A (.call (.ref fI) ⟨[.ref x, v], []⟩) R s := by
  obtain ⟨oc, od, doc, pm, an, cda, ct, cc, osl, q, txt, j, p1, p2, r1, r2, r3, r4, r5, r6, q1, q2, q3, q4, ho, hcd, hline, ⟨ccl, cdd, vs, ccs, file, tf, hcode, hvs, hfile⟩, cl, cld, csl, hcell⟩ := T.fn
  obtain ⟨nm, q', N, bs, bm, sn, sub, ab, col, dd, k0, k1, k2, k3, k5, hC, hbm⟩ := T.cls
  have hcl : clsIn K C = some { name := nm, bases := bs, mro := .ref C :: bm, ns := N, qualname := q', hasDict := true, slotNames := sn, subclasses := sub, abstract := ab, collection := col, hasDel := false } := by unfold clsIn; rw [hC] <;> rfl
  obtain ⟨mb, hb1, hb2⟩ := Mb.blt
  refine ks_codeAny_call_defAt (fd := ksFn "__init__" q (iA p1 p2) (iB txt j r1 r2 r3 r4 r5 r6 q1 q2 q3 q4) iS .none .none doc pm an (.ref cda) ct cc) (body := iB txt j r1 r2 r3 r4 r5 r6 q1 q2 q3 q4) (binds := [("self", .ref x), ("row", v)]) hroom (X _ _ ho) rfl hlim (codeRec_of X hcd) rfl (BindsTo.of_eq (by first | rfl | with_unfolding_all rfl)) (show ∀ x ∈ iS.names, x.2 ≠ .cell by decide) (locs rfl) (fun h₁ hn k => ?_)
  have hxL : s.heap.objs.size ≠ x := Nat.ne_of_gt (Heap.lt_size hx)
  have X₁ : K.In h₁ := X.keeps k
  have hx₁ := k _ _ hx
  obtain ⟨hp, g, d, tk, os⟩ := s
  show wpAt (model prog w) (A.deeper (ksEnv q iS hp.objs.size fI (.ref cda) cc)) (.func _ (ksEnv q iS hp.objs.size fI (.ref cda) cc)) (execs (iB txt j r1 r2 r3 r4 r5 r6 q1 q2 q3 q4) (ksEnv q iS hp.objs.size fI (.ref cda) cc)) _ _ ⟨h₁, g, d, tk + 2, os⟩
  generalize A.deeper (ksEnv q iS hp.objs.size fI (.ref cda) cc) = A1
  refine ks_wpAt_execs_cons (ks_wpAt_Expr_any ?_)
  refine wpAt_methL (by rfl) hline ?_
  refine (ks_wpAt_super_base (env := ksEnv q iS hp.objs.size fI (.ref cda) cc) rfl rfl (by decide) rfl (X₁ _ _ ho) rfl rfl rfl (X₁ _ _ hcode) rfl hvs hfile T.top ?_)
  refine ks_loadName_global rfl rfl (loadGlobal_builtin (env := ksEnv q iS hp.objs.size fI (.ref cda) cc) (Mb.glob.keeps fun b o e => k b o (bk b o e)) T.sup (hb1.keeps fun b o e => k b o (bk b o e)) ((hb2 _ (by decide)).trans (by first | boot_by_name | rfl | kernel_rfl)) ⟨rfl, ?_⟩)
  refine wpAny_loadName_free rfl rfl rfl ⟨_, X₁ _ _ hcell, rfl⟩ ?_
  refine wpAny_loadName_local (v := .ref x) rfl rfl hn (by first | rfl | with_unfolding_all rfl | kernel_rfl) ?_
  refine ks_wpAny_isType_cls (X₁ _ _ hC) rfl ⟨rfl, ?_⟩
  refine ks_wpAny_call_super (oD := excClassObj nm q' C N bs bm true sn sub ab col dd k0 k1 k2 k3 k5 "ValueError.__new__") (X₁ _ _ hC) rfl hx₁ rfl (fun c e => by cases e) (looks_mroIn X₁ T.mrC) (fun h₂ hso k2 pl => ?_)
  have X₂ : K.In h₂ := X₁.keeps k2
  have hx₂ := k2 _ _ hx₁
  have I₂ : InstAt h₂ x (excO C t0) C none := ⟨hx₂, rfl, rfl, trivial⟩
  have hm := T.suC
  unfold ks_superIn at hm
  rw [hcl, Option.bind_some] at hm
  refine kxs_getMethod kxs_ValueError hso (looks_opaque X₂ T.opq) (l₀ := .ref C :: bm) (fun A Q E s k q => wpAny_bind ((looks_clsIn X₂ hcl) A _ E s k (wpAny_pure q))) rfl X₂ hm (I₂.type.andThen (looks_subIn X₂ T.veC)) (ks_ne X₂ I₂ hcl) (by decide) ?_
  have k3 : ∀ b o, h₂.get? b = some o → (h₂.push (kxs_mw "ValueError.__init__" x)).get? b = some o := fun b o e => Heap.get?_push_of_some _ e
  have hu : (h₂.push (kxs_mw "ValueError.__init__" x)).get? h₂.objs.size = some (kxs_mw "ValueError.__init__" x) := Heap.get?_push_size _ rfl
  have he : starEach [Expr.Constant (.str txt) j r4] (ksEnv q iS hp.objs.size fI (.ref cda) cc) = (false, eval (.Constant (.str txt) j r4) (ksEnv q iS hp.objs.size fI (.ref cda) cc)) :: starEach [] (ksEnv q iS hp.objs.size fI (.ref cda) cc) := rfl
  show wpAny _ _ (callWith r5 (.ref h₂.objs.size) [] (backTo r5 (starEach [Expr.Constant (.str txt) j r4] (ksEnv q iS hp.objs.size fI (.ref cda) cc))) []) _ _ _
  rw [he]
  refine kxs_callWith (i := "ValueError.__init__") (x := x) (by rfl) (evalArgs_plain (Calls.spliced_cons ?_))
  show wpAny _ _ (eval (.Constant (.str txt) j r4) (ksEnv q iS hp.objs.size fI (.ref cda) cc)) _ _ _
  refine Calls.Constant_str (Calls.spliced_nil ⟨hu, ?_⟩)
  refine init_bound (t0 := t0) (k3 _ _ (k2 _ _ (k _ _ (X _ _ hC)))) hu (k3 _ _ hx₂) (one_size _) (fun h₄ t1 k4 hx₄ => ?_)
  have keep : ∀ b o, b ≠ x → h₁.get? b = some o → h₄.get? b = some o := fun b o hb e => k4 b o hb (k3 b o (k2 b o e))
  have X₄ : K.In h₄ := kept_but X₁ hnx keep
  obtain ⟨oL, es, ep, hL, hrest⟩ := hn
  have hn₄ : h₄.Ns hp.objs.size (fun y => ([("self", Value.ref x), ("row", v)] : List (Str × Value)).reverse.lookup y) := ⟨oL, es, ep, keep _ _ hxL hL, hrest⟩
  show wpAt _ _ _ (execs [Stmt.Assign [.Attribute (.Name "self" q1) "row" q2] (.Name "row" q3) q4] (ksEnv q iS hp.objs.size fI (.ref cda) cc)) _ _ _
  refine wpAt_of_wpAny ?_
  refine wpAny_execs_cons (plainObj_wpAny_Assign_Attribute ?_)
  refine ESX.ldL (v := v) hn₄ (by first | rfl | with_unfolding_all rfl | kernel_rfl) (ESX.ldL (v := .ref x) hn₄ (by first | rfl | with_unfolding_all rfl | kernel_rfl) ?_)
  refine set_plain X₄ (ox := excO C t1) (od := none) ⟨hx₄, rfl, rfl, trivial⟩ T.sa ?_
  refine exc_osa X₄ hx₄ hcl (show refsVE (.ref C :: bm) = true from hbm) rfl T.noN (fun h₅ tk₅ dx k₅ dn dne hx₅ hn₅ => ?_)
  show wpAny _ _ (execs _ _) _ _ _
  exact wpAny_execs_nil (hq h₅ tk₅ dx ⟨fun b o hb e => k₅ b o hb (keep b o hb (k b o e)), ⟨t1, hx₅⟩, Nat.le_of_lt (Nat.lt_of_lt_of_le hn₄.lt dn), dne, hn₅⟩)
theorem own_made (T : OwnTxt prog K mg x0 C fI) (Mb : L2.Mod K mg base) {v : Value} (bk : ∀ b o, base.get? b = some o → s.heap.get? b = some o) (X : K.In s.heap) (hlim : s.heap.NoLimit) (hroom : A.depth + 1 < recursionLimit)
    (hq : ∀ h' tk e d, OwnMade s.heap h' e C d v → R (.ok (.ret (.ref e))) { s with heap := h', toks := tk }) :
    codeAny (model prog w) A (.call (.ref C) ⟨[v], []⟩) R s := by
  obtain ⟨nm, q, N, bs, bm, sn, sub, ab, col, dd, k0, k1, k2, k3, k5, hC, hbm⟩ := T.cls
  obtain ⟨hp, g, dr, tk, os⟩ := s
  have k : ∀ b o, hp.get? b = some o → ((hp.push (kdv_tup [v])).push (excO C hp.objs.size)).get? b = some o := fun b o e => Heap.get?_push_of_some _ (Heap.get?_push_of_some _ e)
  have hget : ((hp.push (kdv_tup [v])).push (excO C hp.objs.size)).get? (hp.objs.size + 1) = some (excO C hp.objs.size) := by heap_get
  have fresh : ∀ (h0 : Heap), (∀ b o, h0.get? b = some o → hp.get? b = some o) → h0.get? (hp.objs.size + 1) = none := fun h0 hk => by
    cases e : h0.get? (hp.objs.size + 1) with
    | none => rfl
    | some o =>
      have z : hp.get? (hp.objs.size + 1) = some o := hk _ _ e
      exact absurd (Nat.lt_of_succ_lt (Heap.lt_size z)) (Nat.lt_irrefl _)
  have hnx : K.lookup (hp.objs.size + 1) = none := by
    cases e : K.lookup (hp.objs.size + 1) with
    | none => rfl
    | some o =>
      have z : hp.get? (hp.objs.size + 1) = some o := X _ _ e
      exact absurd (Nat.lt_of_succ_lt (Heap.lt_size z)) (Nat.lt_irrefl _)
  refine call_own F.excBase_ValueError (fun X => refsVE_contains X bm hbm) (X _ _ hC) (looks_findIn X T.iC) (fun self => bind_fn X self T.tC) (one_size v) ?_
  refine own_init (s := ⟨(hp.push (kdv_tup [v])).push (excO C hp.objs.size), g, dr, tk, os⟩) T Mb (fun b o e => k b o (bk b o e)) (X.keeps k) (hlim.keeps k) hget hnx (fresh base bk) ?_ fun h' tk' dx ⟨k', ⟨t1, hx⟩, dn, dne, hns⟩ => ?_
  · show A.depth + 1 < recursionLimit
    exact hroom
  · have old : ∀ b o, hp.get? b = some o → h'.get? b = some o := fun b o e => k' b o (Nat.ne_of_lt (Nat.lt_succ_of_lt (Heap.lt_size e))) (k b o e)
    have z : hp.objs.size + 1 + 1 ≤ dx := by
      first
        | (simpa only [Heap.size_push] using dn)
        | exact dn
        | (have q := dn; rw [Heap.size_push, Heap.size_push] at q; exact q)
    exact ⟨rfl, hq h' tk' (hp.objs.size + 1) dx ⟨old, Nat.le_succ _, ⟨_, _, hx, rfl, rfl, rfl, rfl, rfl⟩, Nat.le_trans (Nat.le_trans (Nat.le_succ _) (Nat.le_succ _)) z, dne, hns⟩⟩
end
end OwnX
end PySem
namespace L2
open PySem PySem.Spec PyProof.Rows
theorem relO_row {v : V} {v' : Value} (r : RelV v v') (f : Str) : RelO (List.lookup f [(("row" : Str), v)]) (if f = "row" then some v' else none) := by
  by_cases hw : f = "row"
  · subst hw
    rw [if_pos rfl]
    have q : List.lookup ("row" : Str) [(("row" : Str), v)] = some v := by simp [List.lookup]
    rw [q]
    exact r
  · rw [if_neg hw]
    have qw : (f == ("row" : Str)) = false := by simpa using hw
    have q2 : List.lookup f [(("row" : Str), v)] = none := by simp [List.lookup, qw]
    rw [q2]
    trivial
section
variable {X : Cx} {C fI : Addr} {x : Str}
def tMkRow (C : Addr) (ta : TA) : St → Hp → XK → Prop := fun σ H Q => ta σ H fun vs H1 => ∃ v, vs = [v] ∧ ∀ d, H1 d = none → Q (.ref C) (some d) (upd H1 d (.xd [(("row" : Str), v)]))
theorem pmk_row {a : Expr} {ta : TA} {p pos : Pos} {k : Nat} (T : PySem.OwnX.OwnTxt X.prog X.K X.mg x C fI) (hr : Room k X.A) (ha : PA X [a] ta) (hg : Gl X x)
    (hdb : (x == ("__debug__" : Str)) = false := by decide) (he : starEach (a :: []) X.env = (false, eval a X.env) :: starEach [] X.env := by rfl) (hpl : (backTo pos (starEach [] X.env)).any (·.1) = false := by rfl) :
    PMk X (.Call (.Name x p) [a] [] pos) (tMkRow C ta) := by
  intro pins s σ H Q I h
  refine wpAny_Call_Name_kw (ld_glob I hg T.gC ?_ hdb)
  refine PySem.W.callWith_K (h₀ := X.base) I.ok.mod.kin T.kC (thn (ha.run pos pins s σ H _ I h) fun us s1 hh => ?_) he hpl
  obtain ⟨vs, H1, I1, r1, v, ev, q1⟩ := hh
  subst ev
  refine ⟨I1.kIn, ?_⟩
  cases r1 with
  | cons rv rn =>
    rename_i v' us'
    cases rn
    show wpAny _ _ (call (.ref C) [v']) _ _ _
    have hlim := I1.nolimit
    have hmod := I1.mod
    have hbk := I1.bk
    obtain ⟨hp, g, dr, tk, os⟩ := s1
    refine wpAny_call (PySem.OwnX.own_made T hmod hbk I1.kIn hlim (by have := hr.dp; omega) fun h' tk' e d M => ?_)
    show MkP X pins σ Q (.ref e) ⟨h', g, dr, tk', os⟩
    obtain ⟨oe, fv, hoe, hc, hd, hdat, h1, _⟩ := M.obj
    have hns := M.ns
    obtain ⟨G', g1, g2⟩ := restrict h' fun b => decide (b ≠ e)
    have gk : ∀ b, b ≠ e → G'.get? b = h'.get? b := fun b hb => g1 b (decide_eq_true hb)
    have ge : G'.get? e = none := g2 e (by simp)
    have old : ∀ b o, hp.get? b = some o → G'.get? b = some o := fun b o q => (gk b (Nat.ne_of_lt (Nat.lt_of_lt_of_le (Heap.lt_size q) M.new))).trans (M.keep b o q)
    have ob : ObjOk X.prog X.w (upd H1 d (.xd [(("row" : Str), v)])) G' d (.xd [(("row" : Str), v)]) :=
      ⟨_, hns.at (fun o q => (gk d M.dne).trans q), fun f => relO_row rv f⟩
    have J : Inv X pins σ (upd H1 d (.xd [(("row" : Str), v)])) ⟨G', g, dr, tk', os⟩ := I1.laid (t' := tk') old M.dbig ob
    refine ⟨e, oe, fv, ⟨G', g, dr, tk', os⟩, _, .ref C, some d, rfl, J, fun b o q => ?_, ge, hoe, ⟨hc, hd⟩, hdat, h1, ?_, rfl, I1.bare, raises_own T.exC T.tyC, q1 d (I1.hok.fresh M.dbig)⟩
    · by_cases hb : b = e
      · have q' : G'.get? b = some o := q
        rw [hb, ge] at q'; cases q'
      · exact (gk b hb).symm.trans q
    · rw [upd_ne (Ne.symm M.dne)]
      exact I1.hok.fresh M.new
end
end L2
set_option autoImplicit true
set_option maxRecDepth 100000
set_option maxHeartbeats 4000000
/-! errors with an own __init__ (BadText): raised, here and within an except suite; told by e.row; defs whose errors have no context -/
namespace Ev
open PySem PySem.Spec PyProof.Rows L2
structure Dx (P : Program) (K : PySem.W.Frag) (mg : Str → Option Value) (x : Str) : Prop where
  ex : ∃ C fI : Addr, PySem.OwnX.OwnTxt P K mg x C fI
def sRaiseR (cls : Str) (m : M D) : Sm := fun env st => (m env st).out env fun d st' => .xc ⟨cls, [("row", d)]⟩ env st'
section
variable {T : List (Addr × Str)} {X : Cx} {Wx : WX} {κ κ' : Bool} {a e o c : Expr} {es : List Expr} {ma mo : M D} {n : M (List D)} {mf : Fm} {j k np : Nat} {x m cls : Str} {p pos pos2 apos : Pos}
theorem row_read {C : Addr} {ta : TA} (gC : X.mg x = some (.ref C)) (ra : ∀ W H env st σ Q, Rel (Gof X T) W H env st σ → Post κ (RepsR X) (Gof X T) Wx W H env σ (mCons ma mNil env st) Q → ta σ H Q) :
    ∀ W H env st σ D, Rel (Gof X T) W H env st σ → SPost (Gof X T) Wx W H (sRaiseR x ma env st) D → tMkRow C ta σ H (fun cls d H' => Wx cls d σ H') := fun W H env st σ D rl h => by
  refine ra W H env st σ _ rl ?_
  unfold sRaiseR at h
  unfold mCons mBin mNil
  cases em : ma env st with
  | bad => rw [em] at h; exact h.elim
  | exc z st' =>
    rw [em] at h
    exact fun W' H' c d e r q => h W' H' c d σ e.s r q
  | ok d st' =>
    rw [em] at h
    intro W' H' vs e' r' q
    obtain ⟨v, ev, q1⟩ := Reps.one_inv (show Reps _ W' H' [d] vs from q)
    refine ⟨v, ev, fun dd hd => ?_⟩
    have e2 : Ext κ W' H' W' (upd H' dd (.xd [(("row" : Str), v)])) := Ext.laid r'.sto hd
    exact h W' _ (.ref C) (some dd) σ (e'.s.trans e2.s) (r'.laid hd) ⟨C, rfl, gC, .inr ⟨dd, "row", d, v, rfl, rfl, upd_same, Rep.mono e2.mo _ _ q1⟩⟩
theorem sv_raiseR (F : Dx X.prog X.K X.mg x) (tk : Takes X Wx) (hr : Room k X.A) (ha : EV κ T X Wx a ma) (hc : X.calm = true := by rfl) (hg : Gl X x := by rfl) (hdb : (x == ("__debug__" : Str)) = false := by decide)
    (he : starEach (a :: []) X.env = (false, eval a X.env) :: starEach [] X.env := by rfl) (hpl : (backTo pos (starEach [] X.env)).any (·.1) = false := by rfl) : SV T X Wx (.Raise (some (.Call (.Name x p) [a] [] pos)) none pos2) (sRaiseR x ma) := by
  obtain ⟨C, fI, O⟩ := F.ex
  obtain ⟨ta, pa, ra⟩ := (av_cons ha av_nil he).ex
  exact ⟨_, ps_raise hc tk (pmk_row O hr pa hg hdb he hpl), row_read O.gC ra⟩
/-! ### errors without a context -/
end
/-! ### defs -/
/-! ### try: .. except X: a suite that raises -/
end Ev
set_option autoImplicit true
set_option maxRecDepth 100000
set_option maxHeartbeats 4000000
/-! isinstance of a caught error with fields of its own; a def that calls what it got and tells of which classes the error is -/
namespace PySem.W
open PySem PySem.Spec PySem.Calls PyProof.Rows
section
variable {prog : Program} {w : World} {A : Around} {E : Value → Shared → Prop} {s : Shared} {K : Frag} {x D : Addr} {ox : Obj}
theorem findObj_dataO {C : Addr} {od : Option Obj} {name : Str} {a g : Value} (hc : (clsIn K C).isSome = true) (ha : findIn K (.ref C) name = some (some a)) (hg : specialIn K a "__get__" = some (some g)) (ht : takesIn K a = some true) : findObj K C od name = some (.bind g a) := by
  obtain ⟨cd, hc⟩ := Option.isSome_iff_exists.mp hc
  unfold findObj
  rw [hc, Option.bind_some, ha, Option.bind_some]
  simp [hg, ht]
theorem kin_classO {od : Option Obj} {Q : Option Value → Shared → Prop} (hga : findIn K (.ref D) "__getattribute__" = some (some (.builtin "BaseException.__getattribute__"))) (hgt : findIn K (.ref D) "__getattr__" = some none) (hsub : subIn K (.ref D) (.type "BaseException") = some true)
    (hdct : hasDictIn K D = true) (ha : findIn K (.ref D) "__class__" = some (some (.builtin "object.__class__")))
    (hn : specialIn K (.builtin "object.__class__") "__get__" = some (some (.builtin "getset_descriptor.__get__"))) (htk : takesIn K (.builtin "object.__class__") = some true) (hm : mroIn K D (.type "object") = some true)
    (X : K.In s.heap) (I : InstAt s.heap x ox D od) (h : Q (some (.ref D)) { s with toks := s.toks + 1 }) : wpAny (model prog w) A (getAttr? (.ref x) "__class__") Q E s := by
  have hf : findObj K D od "__class__" = some (.bind (.builtin "getset_descriptor.__get__") (.builtin "object.__class__")) := findObj_dataO (by obtain ⟨cd, hc, _⟩ := any_some hdct; rw [hc]; rfl) ha hn htk
  obtain ⟨hp, g, d, t, os⟩ := s
  have L0 := I.type (M := model prog w)
  have L1 := looks_findIn (M := model prog w) X hga
  have L2 := looks_findIn (M := model prog w) X hgt
  have L3 := looks_find (M := model prog w) X I hf
  have sub : Looks (model prog w) hp (isInstance (.ref x) (.type "BaseException")) true := L0.andThen (looks_subIn X hsub)
  have hx0 : (false && onTheHeap (Value.builtin "BaseException.__getattribute__")) = false := rfl
  have hx2 : (Value.builtin "BaseException.__getattribute__" == Value.builtin "object.__getattribute__") = false := by decide +kernel
  have hx1 : (onTheHeap (Value.ref D) && Value.builtin "BaseException.__getattribute__" == Value.builtin "object.__getattribute__") = false := by rw [hx2]; rfl
  unfold getAttr? getAttrBy? getAttrBy
  refine wpAny_bind (wpAny_mkText (wpAny_bind (wpAny_attempt (wpAny_holding (wpAny_bind (L0.at (wpAny_bind (L1.at ?_))))))))
  show wpAny _ _ (if (onTheHeap (Value.ref D) && Value.builtin "BaseException.__getattribute__" == Value.builtin "object.__getattribute__") = true then _ else _) _ _ _
  rw [hx1, if_neg Bool.false_ne_true]
  unfold getAttrByItsOwn hookBefore
  refine wpAny_bind ?_
  rw [if_pos (show onTheHeap (Value.ref D) = true from rfl)]
  refine L2.at ?_
  refine wpAny_bind (wpAny_attempt (wpAny_holding ?_))
  unfold callGetattribute
  rw [hx0, if_neg Bool.false_ne_true]
  unfold boundAndCalled
  rw [PySem.F.excAttr_ValueError.ga.bind (.ref x)]
  refine wpAny_bind (wpAny_pure ?_)
  show wpAny _ _ (call (.builtin "BaseException.__getattribute__") [.ref x, .str "__class__" t]) _ _ _
  refine wpAny_call (codeAny_call_builtin PySem.F.excAttr_ValueError.ga.plain PySem.F.entry_bexc_ga ?_)
  refine @check_slot (model prog w) _ _ ⟨hp, g, d, t + 1, os⟩ "BaseException.__getattribute__" "BaseException" "__getattribute__" (.ref x) [.str "__class__" t] [] _ (by decide +kernel) (by decide +kernel) sub (PySem.F.args_bexc_ga (.ref x) (.str "__class__" t)) ?_
  unfold Builtin.«object.__getattribute__»
  refine wpAny_bind (wpAny_of_eq (a := ((Value.ref x : Value), [Value.str "__class__" t])) (by first | rfl | (simp only [slotArgs]; rfl)) ?_)
  refine wpAny_bind (wpAny_pure (wpAny_bind (L0.at (wpAny_bind (L3.at ?_)))))
  show wpAny _ _ (holding [Value.builtin "object.__class__"] (call (.builtin "getset_descriptor.__get__") [.builtin "object.__class__", .ref x, .ref D]) >>= ret) _ _ _
  refine wpAny_bind (wpAny_holding (wpAny_call (class_get (s := ⟨hp, g, d, t + 1, os⟩) (ox := ox) (od := od) X I hm ?_)))
  refine wpAny_pure ?_
  show wpAny _ _ (handedOut (.ref D)) _ _ _
  rw [handedOut_of (v := .ref D) rfl]
  first
    | exact wpAny_pure (wpAny_pure h)
    | exact wpAny_pure h
    | exact wpAny_pure (wpAny_bind (wpAny_pure (wpAny_pure h)))
theorem kitx_excO (hga : findIn K (.ref D) "__getattribute__" = some (some (.builtin "BaseException.__getattribute__"))) (hgt : findIn K (.ref D) "__getattr__" = some none) (hsub : subIn K (.ref D) (.type "BaseException") = some true) (hdct : hasDictIn K D = true) (ha : findIn K (.ref D) "__class__" = some (some (.builtin "object.__class__")))
    (hn : specialIn K (.builtin "object.__class__") "__get__" = some (some (.builtin "getset_descriptor.__get__"))) (htk : takesIn K (.builtin "object.__class__") = some true) (hm : mroIn K D (.type "object") = some true) :
    KitX K (.ref x) (.ref D) (fun h => ∃ od, InstAt h x ox D od) where
  ty := fun _ _ _ ⟨_, I⟩ => I.type
  it := fun _ _ X _ => by
    obtain ⟨cdD, hcD, _⟩ := any_some hdct
    unfold clsIn at hcD
    split at hcD
    · rename_i c' d' cd' sl' ho
      intro A' Q' E' s' k q
      unfold isType loadHead
      exact wpAny_bind (wpAny_loadPart (k _ _ (X _ _ ho)) (wpAny_pure q))
    · cases hcD
  ne := fun h tp dd its n sl X htp => by
    obtain ⟨cdD, hcD, _⟩ := any_some hdct
    refine Bool.eq_false_iff.mpr fun q => ?_
    have e : D = tp := Value.ref.inj (beq_iff_eq.mp q)
    subst e
    unfold clsIn at hcD
    split at hcD
    · rename_i c' d' cd' sl' ho
      have z := (X _ _ ho).symm.trans htp
      cases z
    · cases hcD
  ca := fun X ⟨_, I⟩ k => kin_classO hga hgt hsub hdct ha hn htk hm X I k
end
end PySem.W
namespace L2
open PySem PySem.Spec PyProof.Rows
/-- isinstance(e, c), e the exception that the suite holds, with fields or without -/
def rIsO (K : PySem.W.Frag) (D a : Addr) (d : Option Addr) : List V → Hp → VK → Prop := fun xs H Q => ∃ (c : V) (cv : Value) (b : Bool), xs = [.ref a, c] ∧ (∀ u, RelV c u → u = cv) ∧ PySem.W.kitOne K (.ref D) cv = some b ∧ (∀ dd, d = some dd → ∃ fs, H dd = some (.xd fs)) ∧ Q (.bl b) H
theorem call_isO {X : Cx} {a D : Addr} {d : Option Addr} {oe : Obj} {pn : List (Addr × Obj)} (C : ExcC X.K D) (hz : Zc (.ref D) d oe) (hf : ∃ vs, oe.data = .fields vs) : CallR (X.suite a ((a, oe) :: pn)) (.builtin "isinstance") (rIsO X.K D a d) := by
  intro pins s σ H xs us Q I r h
  obtain ⟨c, cv, b, rfl, hcv, e, hd, q⟩ := h
  cases r with
  | cons rx rr =>
    cases rr with
    | cons rt rr =>
      cases rr
      cases rx
      have ec := hcv _ rt
      subst ec
      obtain ⟨hget, _⟩ := I.pin (a, oe) (List.mem_append.mpr (.inl List.mem_cons_self))
      obtain ⟨vs, hv⟩ := hf
      have J : ∃ od, PySem.W.InstAt s.heap a oe D od := by
        cases d with
        | none => exact ⟨none, hget, hz.1, by unfold PySem.W.notCls; rw [hv] <;> rfl, by rw [hz.2]; trivial⟩
        | some dd =>
          obtain ⟨fs, hx⟩ := hd dd rfl
          obtain ⟨mA, hns, _⟩ := I.hok dd _ hx
          obtain ⟨od, ho, _⟩ := lookIn_ns hns
          exact ⟨some od, hget, hz.1, by unfold PySem.W.notCls; rw [hv] <;> rfl, by rw [hz.2]; exact ho⟩
      exact PySem.W.kia_one (PySem.W.kitx_excO C.hg C.hk C.hs C.hd C.ha C.hn C.ht C.hm) I.kIn J e (fun z => nomatch z) fun tk => ⟨.bl b, H, I.kept (t' := tk) fun _ _ z => z, rfl, q⟩
end L2
namespace Ev
open PySem PySem.Spec PyProof.Rows L2 LamX
/-! ### the suite that tells of which classes the error is -/
def tVarN (n i : Nat) : TE := fun σ H Q => ∃ v, (σ.length = n → σ[i]? = some (some v)) ∧ Q v H
theorem pe_varN {X : Cx} {i : Nat} {x : Str} {pos : Pos} (hN : X.N[i]? = some x) (hv : Vis X.env.scope x) (hd : (x == ("__debug__" : Str)) = false := by decide) (hcd : (x == ("__classdict__" : Str)) = false := by decide) : PE X (.Name x pos) (tVarN X.N.length i) :=
  ⟨fun pins s σ H Q I h => let ⟨v, e, q⟩ := h; (pe_var (pos := pos) hN hv hd hcd).run pins s σ H Q I ⟨v, e I.len, q⟩⟩
def tIs (K : PySem.W.Frag) (a : Addr) (cls : Value) (d : Option Addr) (N i : Nat) (cv : Value) : TE := fun σ H Q => ∃ (D : Addr) (b : Bool), cls = .ref D ∧ ExcC K D ∧ (σ.length = N → σ[i]? = some (some (.ref a))) ∧ PySem.W.kitOne K (.ref D) cv = some b ∧ (∀ dd, d = some dd → ∃ fs, H dd = some (.xd fs)) ∧ Q (.bl b) H
def tIss (K : PySem.W.Frag) (a : Addr) (cls : Value) (d : Option Addr) (N i : Nat) : List Value → TA
  | [] => tNil
  | cv :: r => tCons (tIs K a cls d N i cv) (tIss K a cls d N i r)
section
variable {X : Cx} {a : Addr} {oe : Obj} {cls : Value} {d : Option Addr} {pn : List (Addr × Obj)} {n x : Str} {i : Nat} {p p1 p2 pos : Pos}
theorem pe_is {c : V} {cv : Value} (hz : Zc cls d oe) (hf : ∃ vs, oe.data = .fields vs) (hN : X.N[i]? = some n) (hv : Vis X.env.scope n) (hc : PE (X.suite a ((a, oe) :: pn)) (.Name x p2) (tC c)) (hcv : ∀ u, RelV c u → u = cv) (hg : Gl X "isinstance") (hm : X.mg "isinstance" = none)
    (hd : (n == ("__debug__" : Str)) = false := by decide) (hcd : (n == ("__classdict__" : Str)) = false := by decide) :
    PE (X.suite a ((a, oe) :: pn)) (.Call (.Name "isinstance" p) [.Name n p1, .Name x p2] [] pos) (tIs X.K a cls d X.N.length i cv) := by
  refine ⟨fun pins s σ H Q I h => ?_⟩
  obtain ⟨D, b, rfl, C, hs, hk, hx, q⟩ := h
  refine (pe_callB (id := "isinstance") (call_isO C hz hf) hg hm (by first | boot_by_name | rfl) (pa_cons (pe_varN (X := X.suite a ((a, oe) :: pn)) hN hv hd hcd) (pa_cons hc pa_nil (by rfl)) (by rfl)) (by decide) (by decide) (by rfl) (by rfl)).run pins s σ H Q I ?_
  exact ⟨.ref a, hs, ⟨c, cv, b, rfl, hcv, hk, hx, q⟩⟩
end
inductive IsL (X : Cx) (n : Str) : List Expr → List Value → Prop
  | nil : IsL X n [] []
  | cons {x : Str} {c : V} {cv : Value} {es : List Expr} {cvs : List Value} {p p1 p2 pos : Pos} (hc : ∀ (a : Addr) (pn : List (Addr × Obj)), PE (X.suite a pn) (.Name x p2) (tC c)) (hcv : ∀ u, RelV c u → u = cv) (t : IsL X n es cvs) : IsL X n (.Call (.Name "isinstance" p) [.Name n p1, .Name x p2] [] pos :: es) (cv :: cvs)
theorem pa_is {X : Cx} {a : Addr} {oe : Obj} {cls : Value} {d : Option Addr} {pn : List (Addr × Obj)} {n : Str} {i : Nat} (hz : Zc cls d oe) (hf : ∃ vs, oe.data = .fields vs) (hN : X.N[i]? = some n) (hv : Vis X.env.scope n) (hg : Gl X "isinstance") (hm : X.mg "isinstance" = none)
    (hd : (n == ("__debug__" : Str)) = false := by decide) (hcd : (n == ("__classdict__" : Str)) = false := by decide) : ∀ {es : List Expr} {cvs : List Value}, IsL X n es cvs → PA (X.suite a ((a, oe) :: pn)) es (tIss X.K a cls d X.N.length i cvs)
  | _, _, .nil => pa_nil
  | _, _, .cons hc hcv t => pa_cons (pe_is hz hf hN hv (hc _ _) hcv hg hm hd hcd) (pa_is hz hf hN hv hg hm hd hcd t) (by rfl)
/-- a class's answers to isinstance -/
inductive Ans (K : PySem.W.Frag) (D : Addr) : List Value → List Bool → Prop
  | nil : Ans K D [] []
  | cons {cv : Value} {b : Bool} {r : List Value} {bs : List Bool} (h : PySem.W.kitOne K (.ref D) cv = some b) (t : Ans K D r bs) : Ans K D (cv :: r) (b :: bs)
theorem Ans.split {K : PySem.W.Frag} {D : Addr} : ∀ {cs cs' : List Value} {bs : List Bool}, Ans K D (cs ++ cs') bs → ∃ b1 b2, bs = b1 ++ b2 ∧ Ans K D cs b1 ∧ Ans K D cs' b2
  | [], _, bs, h => ⟨[], bs, rfl, .nil, h⟩
  | _ :: _, _, _, .cons e t => let ⟨b1, b2, e1, h1, h2⟩ := Ans.split t; ⟨_ :: b1, b2, by rw [e1]; rfl, .cons e h1, h2⟩
theorem tIss_read {K : PySem.W.Frag} {a D : Addr} {d : Option Addr} {N i : Nat} {σ : L2.St} {H : Hp} (C : ExcC K D) (hs : σ.length = N → σ[i]? = some (some (.ref a))) (hx : ∀ dd, d = some dd → ∃ fs, H dd = some (.xd fs)) : ∀ {cvs : List Value} {bs : List Bool} {Q : List V → Hp → Prop}, Ans K D cvs bs → Q (bs.map V.bl) H → tIss K a (.ref D) d N i cvs σ H Q
  | _, _, _, .nil, q => q
  | _, _, _, .cons e t, q => ⟨D, _, rfl, C, hs, e, hx, tIss_read C hs hx t q⟩
/-- new lists are laid -/
inductive Lay : Hp → Hp → Prop
  | refl (H : Hp) : Lay H H
  | step {H H' : Hp} {p : Addr} {vs : List V} (h : Lay H H') (hp : H' p = none) : Lay H (upd H' p (.lst vs))
theorem Lay.keep {H H' : Hp} (l : Lay H H') {b : Addr} {o : HO} (h : H b = some o) : H' b = some o := by
  induction l with
  | refl => exact h
  | step l hp ih => rw [upd_ne (ne_of_none ih hp)]; exact ih
theorem Lay.none {H H' : Hp} (l : Lay H H') {p : Addr} (h : H' p = none) : H p = none := by
  cases e : H p with
  | none => rfl
  | some o => rw [l.keep e] at h; cases h
def rCat (K : PySem.W.Frag) : L2.R2 := fun x y H Q => ∃ l b xs zs, x = .ref l ∧ y = .ref b ∧ SqL K H l xs ∧ SqL K H b zs ∧ xs.length + zs.length ≤ sizeLine ∧ ∀ p, H p = none → Q (.ref p) (upd H p (.lst (xs ++ zs)))
def tsU (K : PySem.W.Frag) (N i j : Nat) (c1 c2 c3 : List Value) (a : Addr) (cls : Value) (d : Option Addr) : TS :=
  tSeq (tAsg (tLst (tIss K a cls d N i c1)) (gName j)) (tSeq (tAsg (tOp (rCat K) (tVarN N j) (tLst (tIss K a cls d N i c2))) (gName j)) (tRet (tOp (rCat K) (tVarN N j) (tLst (tIss K a cls d N i c3)))))
theorem pss_under {X : Cx} {a : Addr} {oe : Obj} {cls : Value} {d : Option Addr} {pn : List (Addr × Obj)} {n m : Str} {i j : Nat} {e1 e2 e3 : List Expr} {c1 c2 c3 : List Value} {p1 p2 p3 p4 p5 p6 p7 p8 p9 p10 p11 p12 : Pos} (hz : Zc cls d oe) (hf : ∃ vs, oe.data = .fields vs) (nd : X.N.Nodup) (hi : X.N[i]? = some n) (hj : X.N[j]? = some m)
    (hvi : X.env.scope.names.lookup n = some .local) (hvj : X.env.scope.names.lookup m = some .local) (hg : Gl X "isinstance") (hm : X.mg "isinstance" = none) (l1 : IsL X n e1 c1) (l2 : IsL X n e2 c2) (l3 : IsL X n e3 c3)
    (hs1 : swapsWith (.List e1 p1) (some (.Name m p2)) p3.line X.env = pure false := by rfl) (hs2 : swapsWith (.BinOp (.Name m p4) .Add (.List e2 p5) p6) (some (.Name m p7)) p8.line X.env = pure false := by rfl)
    (hd : (n == ("__debug__" : Str)) = false := by decide) (hcd : (n == ("__classdict__" : Str)) = false := by decide) (hd2 : (m == ("__debug__" : Str)) = false := by decide) (hcd2 : (m == ("__classdict__" : Str)) = false := by decide) :
    PSs (X.suite a ((a, oe) :: pn)) [.Assign [.Name m p2] (.List e1 p1) p3, .Assign [.Name m p7] (.BinOp (.Name m p4) .Add (.List e2 p5) p6) p8, .Return (some (.BinOp (.Name m p9) .Add (.List e3 p10) p11)) p12] (tsU X.K X.N.length i j c1 c2 c3 a cls d) := by
  have pj : ∀ p, PE (X.suite a ((a, oe) :: pn)) (.Name m p) (tVarN X.N.length j) := fun p => pe_varN (X := X.suite a ((a, oe) :: pn)) hj (.inl hvj) hd2 hcd2
  exact pss_cons (ps_set nd hj (.inl hvj) (pe_lst (pa_is hz hf hi (.inl hvi) hg hm hd hcd l1)) hs1 (.inr hvj)) (pss_cons (ps_set nd hj (.inl hvj) (pe_op op_catL (pj _) (pe_lst (pa_is hz hf hi (.inl hvi) hg hm hd hcd l2))) hs2 (.inr hvj)) (pss_one (ps_ret (pe_op op_catL (pj _) (pe_lst (pa_is hz hf hi (.inl hvi) hg hm hd hcd l3))))))
theorem set_get {σ : L2.St} {i : Nat} {v : Option V} {N : Nat} (hi : i < N) (h : (σ.set i v).length = N) : (σ.set i v)[i]? = some v := by
  rw [List.length_set] at h
  rw [List.getElem?_set_self (by omega)]
theorem tsU_read {K : PySem.W.Frag} {N i j : Nat} {c1 c2 c3 : List Value} {b1 b2 b3 : List Bool} {a D : Addr} {d : Option Addr} {σ : L2.St} {H : Hp} {E : Ends} (hij : i ≠ j) (hi : i < N) (hj : j < N) (C : ExcC K D) (hx : ∀ dd, d = some dd → ∃ fs, H dd = some (.xd fs))
    (h1 : Ans K D c1 b1) (h2 : Ans K D c2 b2) (h3 : Ans K D c3 b3) (hz : (b1 ++ b2 ++ b3).length ≤ sizeLine) (hq : ∀ p H', Lay H H' → H' p = some (.lst ((b1 ++ b2 ++ b3).map V.bl)) → H p = none → E.rt (.ref p) H') :
    tsU K N i j c1 c2 c3 a (.ref D) d E (σ.set i (some (.ref a))) H := by
  have z1 : b1.length ≤ sizeLine := by simp only [List.length_append] at hz; omega
  have z2 : b2.length ≤ sizeLine := by simp only [List.length_append] at hz; omega
  have z3 : b3.length ≤ sizeLine := by simp only [List.length_append] at hz; omega
  have z12 : b1.length + b2.length ≤ sizeLine := by simp only [List.length_append] at hz; omega
  have z123 : b1.length + b2.length + b3.length ≤ sizeLine := by simp only [List.length_append] at hz; omega
  have xs : ∀ {H' : Hp}, Lay H H' → ∀ dd, d = some dd → ∃ fs, H' dd = some (.xd fs) := fun l dd e => let ⟨fs, q⟩ := hx dd e; ⟨fs, l.keep q⟩
  refine tIss_read C (fun h => set_get hi h) hx h1 ⟨by rw [List.length_map]; exact z1, fun q1 hq1 => ?_⟩
  have L1 : Lay H (upd H q1 (.lst (b1.map V.bl))) := .step (.refl H) hq1
  refine ⟨.ref q1, fun h => set_get hj h, ?_⟩
  refine tIss_read C (fun h => by rw [List.getElem?_set_ne (Ne.symm hij)]; exact set_get hi (by rw [List.length_set] at h; exact h)) (xs L1) h2 ⟨by rw [List.length_map]; exact z2, fun q2 hq2 => ?_⟩
  have L2' : Lay H (upd (upd H q1 (.lst (b1.map V.bl))) q2 (.lst (b2.map V.bl))) := .step L1 hq2
  refine ⟨q1, q2, _, _, rfl, rfl, .inl (.inl (by rw [upd_ne (ne_of_none upd_same hq2)]; exact upd_same)), .inl (.inl upd_same), by rw [List.length_map, List.length_map]; exact z12, fun q3 hq3 => ?_⟩
  have L3 := Lay.step (vs := b1.map V.bl ++ b2.map V.bl) L2' hq3
  refine ⟨.ref q3, fun h => set_get hj h, ?_⟩
  refine tIss_read C (fun h => by
    rw [List.getElem?_set_ne (Ne.symm hij), List.getElem?_set_ne (Ne.symm hij)]
    exact set_get hi (by rw [List.length_set, List.length_set] at h; exact h)) (xs L3) h3 ⟨by rw [List.length_map]; exact z3, fun q4 hq4 => ?_⟩
  have L4 := Lay.step (vs := b3.map V.bl) L3 hq4
  refine ⟨q3, q4, _, _, rfl, rfl, .inl (.inl (by rw [upd_ne (ne_of_none upd_same hq4)]; exact upd_same)), .inl (.inl upd_same), by rw [List.length_append, List.length_map, List.length_map, List.length_map]; exact z123, fun q5 hq5 => ?_⟩
  have L5 := Lay.step (vs := b1.map V.bl ++ b2.map V.bl ++ b3.map V.bl) L4 hq5
  exact hq q5 _ L5 (by rw [upd_same, List.map_append, List.map_append]) (L4.none hq5)
end Ev
namespace Ev
open PySem PySem.Spec PyProof.Rows L2 LamX
/-- what the def makes of the lambda's reading: the classes' answers; it must raise -/
def TTu (K : PySem.W.Frag) (cF : Value) (cs : List Value) : (XK → Hp → VK → Prop) → Hp → VK → Prop := fun tl H Q =>
  tl (fun cls d H' => PySem.W.exmOne K cls cF = some true ∧ ∃ D bs, cls = .ref D ∧ ExcC K D ∧ (∀ dd, d = some dd → ∃ fs, H' dd = some (.xd fs)) ∧ Ans K D cs bs ∧ ∀ p H'', Lay H' H'' → H'' p = some (.lst (bs.map V.bl)) → H' p = none → Q (.ref p) H'') H (fun _ H' => ([] : List V).length ≤ sizeLine ∧ ∀ p, H' p = none → Q (.ref p) (upd H' p (.lst [])))
theorem under_gives {X : Cx} {Ng : List Str} {x a n m xF q : Str} {sg : Scope} {g : Addr} {cdg cF : Value} {i j : Nat} {e1 e2 e3 : List Expr} {c1 c2 c3 : List Value} {p1 p2 p3 p4 p5 p6 p7 p8 p9 p10 p11 p12 q1 q2 q3 q4 q5 q6 q7 q8 : Pos} (h0 : ∀ f : Addr, (L2.start Ng [V.ref f])[0]? = some (some (V.ref f)))
    (nd : Ng.Nodup) (hi : Ng[i]? = some n) (hj : Ng[j]? = some m) (hij : i ≠ j) (hvi : sg.names.lookup n = some .local) (hvj : sg.names.lookup m = some .local) (hz : (c1 ++ c2 ++ c3).length ≤ sizeLine)
    (hk : ∀ (s : Shared) (H : Hp), (cxOf C8.CX0 X.prog X.w X.K X.mg X.base Ng x sg g cdg X.A X.stack s H C8.E0).nox.env.kindOf n = some .local) (hnm : ∀ (s : Shared) (H : Hp), Names (cxOf C8.CX0 X.prog X.w X.K X.mg X.base Ng x sg g cdg X.A X.stack s H C8.E0).nox xF cF) (hg : ∀ (s : Shared) (H : Hp), Gl (cxOf C8.CX0 X.prog X.w X.K X.mg X.base Ng x sg g cdg X.A X.stack s H C8.E0).nox "isinstance") (hm : X.mg "isinstance" = none)
    (l1 : ∀ (s : Shared) (H : Hp), IsL (cxOf C8.CX0 X.prog X.w X.K X.mg X.base Ng x sg g cdg X.A X.stack s H C8.E0).nox n e1 c1) (l2 : ∀ (s : Shared) (H : Hp), IsL (cxOf C8.CX0 X.prog X.w X.K X.mg X.base Ng x sg g cdg X.A X.stack s H C8.E0).nox n e2 c2) (l3 : ∀ (s : Shared) (H : Hp), IsL (cxOf C8.CX0 X.prog X.w X.K X.mg X.base Ng x sg g cdg X.A X.stack s H C8.E0).nox n e3 c3)
    (hd : (n == ("__debug__" : Str)) = false := by decide) (hcd : (n == ("__classdict__" : Str)) = false := by decide) (hd2 : (m == ("__debug__" : Str)) = false := by decide) (hcd2 : (m == ("__classdict__" : Str)) = false := by decide)
    (hs1 : ∀ env, swapsWith (.List e1 p1) (some (.Name m p2)) p3.line env = pure false := by intros; rfl) (hs2 : ∀ env, swapsWith (.BinOp (.Name m p4) .Add (.List e2 p5) p6) (some (.Name m p7)) p8.line env = pure false := by intros; rfl) :
    GivesTo3 X Ng x sg g cdg [.Try [.Expr (.Call (.Name a q1) [] [] q2) q3] [.ExceptHandler (some (.Name xF q4)) (some n) [.Assign [.Name m p2] (.List e1 p1) p3, .Assign [.Name m p7] (.BinOp (.Name m p4) .Add (.List e2 p5) p6) p8, .Return (some (.BinOp (.Name m p9) .Add (.List e3 p10) p11)) p12] q5] [] [] q6, .Return (some (.List [] q7)) q8] a q (TTu X.K cF (c1 ++ c2 ++ c3)) := by
  intro f c' P' s H Q tl act hc h
  let Z := (cxOf C8.CX0 X.prog X.w X.K X.mg X.base Ng x sg g cdg X.A X.stack s H C8.E0).nox
  have hb : ∀ (W : WX) (pn : List (Addr × Obj)) (xe : Value → Shared → Prop), Takes (Z.tr pn xe) W → PassesOwn (model Z.prog Z.w) Z.A Z.env xe → PSs (Z.tr pn xe) [.Expr (.Call (.Name a q1) [] [] q2) q3] (fun D σ H => ∃ Ech : XK, (∀ cls d σ' H', Ech cls d H' → W cls d σ' H') ∧ σ[0]? = some (some (.ref f)) ∧ H c' = some (CodeT c' P' q) ∧ tl Ech H (fun _ H1 => D.nx σ H1)) := fun W pn xe tk _ => by
    refine ⟨fun pins s' σ H' D I h' => ?_⟩
    obtain ⟨Ech, hW, h1, h2, h3⟩ := h'
    exact (pss_one (ps_expr (pos := q3) (act W pn xe Ech q1 q2 tk hW))).run pins s' σ H' D I ⟨h1, h2, h3⟩
  have iN : i < Ng.length := by
    rcases Nat.lt_or_ge i Ng.length with z | z
    · exact z
    · rw [List.getElem?_eq_none z] at hi; cases hi
  have jN : j < Ng.length := by
    rcases Nat.lt_or_ge j Ng.length with z | z
    · exact z
    · rw [List.getElem?_eq_none z] at hj; cases hj
  have P1 := ps_try_as (X := Z) (n := n) (x := xF) (np := q4) (pos' := q5) (pos := q6) (c := cF) (i := i) (Wout := noX) (tb := fun W D σ H => ∃ Ech : XK, (∀ cls d σ' H', Ech cls d H' → W cls d σ' H') ∧ σ[0]? = some (some (.ref f)) ∧ H c' = some (CodeT c' P' q) ∧ tl Ech H (fun _ H1 => D.nx σ H1))
    (ts := fun a cls d => tsU X.K Ng.length i j c1 c2 c3 a cls d) rfl rfl nd hi (hk s H) (hnm s H) takes_none5 hb (fun a oe cls d pn hzc hf => pss_under (X := Z) (p1 := p1) (p2 := p2) (p3 := p3) (p4 := p4) (p5 := p5) (p6 := p6) (p7 := p7) (p8 := p8) (p9 := p9) (p10 := p10) (p11 := p11) (p12 := p12) hzc hf nd hi hj hvi hvj (hg s H) hm (l1 s H) (l2 s H) (l3 s H) (hs1 _) (hs2 _) hd hcd hd2 hcd2)
  refine ⟨_, pss_cons P1 (pss_one (ps_ret (pos := q8) (pe_lst (pos := q7) pa_nil))), ?_⟩
  refine ⟨_, fun cls d σ' H' z => ?_, h0 f, hc, h⟩
  obtain ⟨ex, D, bs, rfl, C, hx, A, hq⟩ := z
  refine ⟨true, ex, fun _ a ha => ?_, fun z => nomatch z⟩
  obtain ⟨b12, b3, e1, A12, A3⟩ := Ans.split A
  obtain ⟨b1, b2, e2, A1, A2⟩ := Ans.split A12
  subst e1 e2
  have lz : ∀ {cs : List Value} {bs : List Bool}, Ans X.K D cs bs → bs.length = cs.length := fun {cs bs} A => by
    induction A with
    | nil => rfl
    | cons _ _ ih => simp [ih]
  exact tsU_read hij iN jN C hx A1 A2 A3 (by rw [lz A]; exact hz) fun p H'' l e n => hq p H'' l e n
end Ev
set_option autoImplicit true
set_option maxRecDepth 100000
set_option maxHeartbeats 4000000
/-! a list of lambdas, one of them called by a def that tells of its error -/
namespace Ev
open PySem PySem.Spec PyProof.Rows L2 LamX
/-! ### code objects are nobody's -/
open Classical in
noncomputable def untag (W : Wm) (H : Hp) : Wm := fun a => if (∃ p, H a = some (.ext p)) ∧ (∀ t, W a = some t → t.held = false) then none else W a
section
variable {W W' : Wm} {H H' : Hp} {G : Gx} {env : Env} {st : Sto} {σ : L2.St} {a : Addr} {t : Tag}
theorem untag_sub (h : untag W H a = some t) : W a = some t := by
  unfold untag at h
  split at h
  · cases h
  · exact h
theorem untag_none (h : W a = none) : untag W H a = none := by
  unfold untag
  split
  · rfl
  · exact h
theorem untag_not (n : ∀ p, H a ≠ some (.ext p)) : untag W H a = W a := by
  unfold untag
  rw [if_neg fun ⟨⟨p, e⟩, _⟩ => n p e]
theorem untag_held (h : W a = some t) (th : t.held = true) : untag W H a = some t := by
  unfold untag
  rw [if_neg fun ⟨_, z⟩ => by rw [z t h] at th; cases th]
  exact h
theorem untag_mo (s : StoOk G W H st) : Mo W H (untag W H) H := ⟨fun a u h r _ => ⟨untag_none h, r⟩, fun a n h => by
  obtain ⟨o, _, r⟩ := s.obj a n h
  have z : ∀ p, H a ≠ some (.ext p) := by
    cases o with
    | ins cls fs => obtain ⟨C, dx, vs, _, e, _⟩ := r; intro p q; rw [e] at q; cases q
    | ls xs => obtain ⟨vs, e, _⟩ := r; intro p q; rw [e] at q; cases q
  rw [untag_not z]; exact h, fun a vs h e => ⟨untag_none h, e⟩, fun a o vs h e => ⟨untag_none h, e⟩⟩
theorem lst_next {vs : List V} (e : H a = some (.lst vs)) : ∀ p, H a ≠ some (.ext p) := fun p q => by rw [e] at q; cases q
theorem dk_next {ks : List (Key × V)} (e : H a = some (.dK ks)) : ∀ p, H a ≠ some (.ext p) := fun p q => by rw [e] at q; cases q
theorem dt_next {ks : List (List Key × V)} (e : H a = some (.dT ks)) : ∀ p, H a ≠ some (.ext p) := fun p q => by rw [e] at q; cases q
theorem fz_next {o : Obj} {u : HO} (e : H a = some (.frz o u)) : ∀ p, H a ≠ some (.ext p) := fun p q => by rw [e] at q; cases q
theorem RowsAt.untag {K : PySem.W.Frag} (m : Mo W H (untag W H) H) : ∀ {ds : List D} {bs : List Addr}, RowsAt K W H t ds bs → RowsAt K (Ev.untag W H) H t ds bs
  | [], bs, h => h
  | d :: r, bs, h => by
    obtain ⟨b, r', xs, us, rfl, e, h1, h2, h3, h4⟩ := h
    exact ⟨b, r', xs, us, rfl, e, by rw [untag_not (lst_next h2)]; exact h1, h2, Reps.mono m _ _ h3, RowsAt.untag m h4⟩
theorem At.untag {K : PySem.W.Frag} (m : Mo W H (untag W H) H) : ∀ {d : D} {v : V}, At K W H t d v → At K (untag W H) H t d v := by
  intro d v h
  cases d with
  | own ds =>
    obtain ⟨a, vs, e, h1, h2, h3⟩ := h
    exact ⟨a, vs, e, by rw [untag_not (lst_next h2)]; exact h1, h2, Reps.mono m _ _ h3⟩
  | ownd kvs =>
    obtain ⟨a, e, h1, h2⟩ := h
    rcases h2 with ⟨ks, q, r⟩ | ⟨ks, q, r⟩
    · exact ⟨a, e, by rw [untag_not (dk_next q)]; exact h1, .inl ⟨ks, q, RepKc.mono m _ _ r⟩⟩
    · exact ⟨a, e, by rw [untag_not (dt_next q)]; exact h1, .inr ⟨ks, q, RepTc.mono m _ _ r⟩⟩
  | nst ds =>
    obtain ⟨a, bs, n, e, h1, h2, h3, h4⟩ := h
    exact ⟨a, bs, n, e, by rw [untag_not (lst_next h2)]; exact h1, h2, h3, h4.untag m⟩
  | lkd kvs =>
    rcases h with h | ⟨hs, h⟩
    case inr =>
      obtain ⟨a, e, h1, h2⟩ := h
      refine .inr ⟨hs, a, e, untag_held h1 rfl, h2.imp (fun ⟨ks, z, r⟩ => ⟨ks, z, RepKc.mono m _ _ r⟩) fun ⟨ks, z, r⟩ => ⟨ks, z, RepTc.mono m _ _ r⟩⟩
    obtain ⟨a, o, e, h1, h2⟩ := h
    rcases h2 with ⟨ks, q, r⟩ | ⟨ks, q, r⟩
    · exact .inl ⟨a, o, e, by rw [untag_not (fz_next q)]; exact h1, .inl ⟨ks, q, RepKc.mono m _ _ r⟩⟩
    · exact .inl ⟨a, o, e, by rw [untag_not (fz_next q)]; exact h1, .inr ⟨ks, q, RepTc.mono m _ _ r⟩⟩
  | _ => exact Rep.mono m _ _ h
theorem FldsOk.untag {K : PySem.W.Frag} {n : Nat} (m : Mo W H (untag W H) H) : ∀ {fs : List (Str × D)} {vs : List (Str × V)}, FldsOk K W H n fs vs → FldsOk K (untag W H) H n fs vs
  | [], vs, h => by simpa [FldsOk] using h
  | (f, d) :: r, vs, h => by
    unfold FldsOk at h ⊢
    obtain ⟨v, r', e, h1, h2⟩ := h
    exact ⟨v, r', e, h1.untag m, FldsOk.untag m h2⟩
theorem Rel.untag (r : Rel G W H env st σ) : Rel G (untag W H) H env st σ where
  sto := {
    obj := fun a n h => by
      obtain ⟨o, e, q⟩ := r.sto.obj a n (untag_sub h)
      refine ⟨o, e, ?_⟩
      cases o with
      | ins cls fs =>
        obtain ⟨C, dx, vs, h1, h2, hn, h3⟩ := q
        exact ⟨C, dx, vs, h1, h2, hn, h3.untag (untag_mo r.sto)⟩
      | ls xs =>
        obtain ⟨vs, h1, h2⟩ := q
        exact ⟨vs, h1, Reps.mono (untag_mo r.sto) _ _ h2⟩
    uniq := fun a b n h1 h2 => r.sto.uniq a b n (untag_sub h1) (untag_sub h2)
    used := fun a t h => r.sto.used a t (untag_sub h)
    tabs := r.sto.tabs
    ntup := fun a vs h => untag_none (r.sto.ntup a vs h) }
  env := ⟨r.env.len, fun i d h => let ⟨v, q, z⟩ := r.env.at_ i d h; ⟨v, q, z.untag (untag_mo r.sto)⟩⟩
theorem Ext.untag (s : StoOk G W H st) (e : Ext false (untag W H) H W' H') : Ext false W H W' H' :=
  ⟨fun a o h q n => e.fr a o (untag_none h) q n, fun a n h => e.ob a n ((untag_mo s).ob a n h), fun a t h k => e.hl a t (untag_held h (by simpa using k)) k, e.th⟩
theorem ExtS.untag (s : StoOk G W H st) (e : ExtS (untag W H) H W' H') : ExtS W H W' H' :=
  ⟨fun a o h q n => e.fr a o (untag_none h) q n, fun a n h => e.ob a n ((untag_mo s).ob a n h), fun a h => e.ex a (untag_held h rfl), e.th⟩
theorem untag_code {p : Heap → Prop} (e : Ext false (untag W H) H W' H') (h : H a = some (.ext p)) : H' a = some (.ext p) := by
  cases w : untag W H a with
  | none => exact (e.fr a _ w h (fun ps z => by cases z)).2
  | some t =>
    have th : t.held = true := by
      unfold Ev.untag at w
      split at w
      · cases w
      · rename_i z
        cases k : t.held with
        | true => rfl
        | false => exact absurd ⟨⟨p, h⟩, fun t' q => by rw [w] at q; cases q; exact k⟩ z
    exact ((e.hl a t w (by simpa using th)).2).trans h
end
end Ev
namespace Ev
open PySem PySem.Spec PyProof.Rows L2 LamX PySem.W PySem.Calls
section
variable {X : Cx} {pins : List (Addr × Obj)} {σ : L2.St} {H : Hp} {s : Shared}
/-- the lambda is made: its code object is new, or found in the table -/
theorem lam_make4 {T : List (Addr × Str)} {c P : Addr} {params : Arguments} {body : Expr} {scope : Scope} {pos : Pos} {E : Value → Shared → Prop} {Q : Value → Shared → Prop} (I : Inv X pins σ H s) (TB : TabB X.base X.mg c P) (hcode : X.env.code = .ref c)
    (hm : (P, X.env.qual ++ "<lambda>") ∈ T) (hq : X.env.qual ++ "<lambda>" ≠ "") (hu : ∀ p ∈ T, p.1 = P → p.2 = X.env.qual ++ "<lambda>") (hT : Tb X.mg T H) (hgp : genAt pos = false) (hdef : defaultsOf params X.env = ([], [])) (hfree : ∀ y ∈ scope.names, y.2 = .free → ∃ c, X.env.cells.lookup y.1 = some c)
    (h : ∀ (f c' P' : Addr) (pm ctv : Value) (H1 : Hp) (s' : Shared), Inv X pins σ H1 s' → ExtN H H1 → Tb X.mg T H1 → InT X.mg T H1 P' →
      s'.heap.get? f = some (PySem.W.kla_obj "<lambda>" (X.env.qual ++ "<lambda>") params body scope (cloFrom X.env.cells scope.names []) pm c' ctv) → H1 f = none → s.heap.objs.size ≤ f → f ∉ frs X.stack → H1 c' = some (CodeT c' P' (X.env.qual ++ "<lambda>")) → Q (.ref f) s') :
    wpAny (model X.prog X.w) X.A (eval (.Lambda params body scope pos) X.env) Q E s := by
  obtain ⟨ps, hP, ht, ha⟩ := (hT _ hm).2 hq
  refine PySem.W.kla_eval hdef ?_
  have bP : s.heap.BuiltinsAt X.mg P := TB.bm.keeps I.bk
  have hP' : s.heap.get? P = some { cls := .none, data := .fields ps } := I.hok P _ hP
  have nofr : ∀ f, s.heap.objs.size ≤ f → f ∉ frs X.stack := fun f hf z => by
    rcases List.mem_cons.mp (I.stkSub _ z) with e | e
    · have h1 := I.lt
      rw [← e] at h1
      exact Nat.lt_irrefl _ (Nat.lt_of_lt_of_le h1 hf)
    · exact I.nofs hf e
  cases hc : codeAmong pos ps.toList with
  | none =>
    refine makeFn3 (mg := X.mg) (c := c) (P := P) (ps := ps) (closure_ok hfree) I.ok.glob (I.mod.glob.keeps I.bk) hcode (TB.code.keeps I.bk) hP' ht hc TB.gP bP fun c' P2 ctv h' tk hx hge hlt hrec htb i1 i2 i3 => ?_
    obtain ⟨c2, oc, vs, t, e2, hoc, hd, hv⟩ := hrec
    cases e2
    have hsz : s.heap.objs.size ≤ h'.objs.size := Nat.le_trans hge (Nat.le_of_lt hlt)
    have nC : H c' = none := I.hok.fresh hge
    have nP2 : H P2 = none := I.hok.fresh i1
    have hne : c' ≠ P2 := by
      obtain ⟨_, _, _, _, _, _, _, _, _, _, _, _, _, _, _, _, _, _, _, _, z⟩ := i2
      exact z
    have kp : ∀ b o, h'.get? b = some o → (h'.push (PySem.W.kla_obj "<lambda>" (X.env.qual ++ "<lambda>") params body scope (cloFrom X.env.cells scope.names []) ((X.mg "__name__").getD .none) c' ctv)).get? b = some o := fun b o e => Heap.get?_push_of_some _ e
    have I1 := inv_code (q := X.env.qual ++ "<lambda>") (pos := pos) (t' := tk) (h' := h'.push (PySem.W.kla_obj "<lambda>" (X.env.qual ++ "<lambda>") params body scope (cloFrom X.env.cells scope.names []) ((X.mg "__name__").getD .none) c' ctv)) I hP
      (fun b o hb e => kp _ _ (hx b o hb e)) (kp _ _ htb) hge i1 hne ⟨oc, vs, t, kp _ _ hoc, hd, hv⟩ (i2.keeps kp) (i3.keeps kp)
    have hbb : ∀ bm, X.mg "__builtins__" = some (.ref bm) → bm ≠ P2 := fun bm e z => by
      obtain ⟨bm', ob, e1, _, _, _, e5, _⟩ := bP
      rw [e] at e1
      cases e1
      rw [z] at e5
      exact Nat.lt_irrefl _ (Nat.lt_of_lt_of_le (Heap.lt_size e5) i1)
    have hgg : mainGlobals ≠ P2 := fun z => by
      have := (I.mod.glob.keeps I.bk).lt
      rw [z] at this
      exact Nat.lt_irrefl _ (Nat.lt_of_lt_of_le this i1)
    obtain ⟨a1, a2, a3, a4⟩ := tb_add (pos := pos) (q := X.env.qual ++ "<lambda>") hT hP ht nC nP2 hne hgg hbb fun p hp _ e _ => hu p hp e
    refine h h'.objs.size c' P2 ((X.mg "__name__").getD .none) ctv _ _ I1 a2 a1 a4 (Heap.get?_push_size _ rfl) ?_ hsz (nofr _ hsz) a3
    have n1 : h'.objs.size ≠ c' := Nat.ne_of_gt hlt
    have n2 : h'.objs.size ≠ P := Nat.ne_of_gt (Nat.lt_of_lt_of_le (Heap.lt_size hP') hsz)
    have n3 : h'.objs.size ≠ P2 := Nat.ne_of_gt i2.lt.2
    unfold addH
    rw [upd_ne n3, upd_ne n1, upd_ne n2]
    exact I.hok.fresh hsz
  | some cv =>
    obtain ⟨c', P', q', e, hco, hin, hqq⟩ := ha pos cv hc
    subst e
    rw [hqq hgp] at hco
    refine PySem.W.kla_makeFunctionHit (mg := X.mg) (c := c) (P := P) (ps := ps) (closure_ok hfree) I.ok.glob (I.mod.glob.keeps I.bk) hcode (TB.code.keeps I.bk) hP' ht hc bP fun ctv h' tk hx hsz => ?_
    have I1 : Inv X pins σ H { s with heap := h'.push (PySem.W.kla_obj "<lambda>" (X.env.qual ++ "<lambda>") params body scope (cloFrom X.env.cells scope.names []) ((X.mg "__name__").getD .none) c' ctv), toks := tk } := I.kept fun b o e => Heap.get?_push_of_some _ (hx b o e)
    exact h h'.objs.size c' P' ((X.mg "__name__").getD .none) ctv H _ I1 (ExtN.refl H) hT hin (Heap.get?_push_size _ rfl) (I.hok.fresh hsz) hsz (nofr _ hsz) hco
/-! ### pinned in the context -/
theorem pin_add {pn : List (Addr × Obj)} {a : Addr} {o : Obj} (I : Inv (X.tr pn X.xe) pins σ H s) (h : s.heap.get? a = some o) (hn : H a = none) (hl : a ≠ X.env.locals) (hf : a ∉ X.fs) (hd : ∀ v, o.data ≠ .cell v) : Inv (X.tr ((a, o) :: pn) X.xe) pins σ H s :=
  ⟨(I.ok.ofTry).toTry _ _, I.os, I.bare, I.base, I.loc, I.cell, I.free, I.freeC, fun p hp => by
    rcases List.mem_append.mp hp with z | z
    · rcases List.mem_cons.mp z with e | e
      · subst e; exact ⟨h, hn, hl, hf, hd⟩
      · exact I.pin p (List.mem_append_left _ e)
    · exact I.pin p (List.mem_append_right _ z), I.hok, I.len⟩
theorem pin_start (I : Inv X pins σ H s) : Inv (X.tr X.pn X.xe) pins σ H s := ⟨I.ok.toTry _ _, I.os, I.bare, I.base, I.loc, I.cell, I.free, I.freeC, I.pin, I.hok, I.len⟩
theorem pin_end {pn : List (Addr × Obj)} (ok : X.Ok) (I : Inv (X.tr pn X.xe) pins σ H s) (h : ∀ p ∈ X.pn, p ∈ pn) : Inv X pins σ H s := ⟨ok, I.os, I.bare, I.base, I.loc, I.cell, I.free, I.freeC, fun p hp => I.pin p (by
  rcases List.mem_append.mp hp with z | z
  · exact List.mem_append_left _ (h p z)
  · exact List.mem_append_right _ z), I.hok, I.len⟩
/-! ### the lambdas of a list -/
/-- a lambda as it is made -/
structure LamI where
  params : Arguments
  body : Expr
  scope : Scope
  f : Addr
  c : Addr
  P : Addr
  pm : Value
  ctv : Value
def LamI.obj (X : Cx) (l : LamI) : Obj := PySem.W.kla_obj "<lambda>" (X.env.qual ++ "<lambda>") l.params l.body l.scope (cloFrom X.env.cells l.scope.names []) l.pm l.c l.ctv
/-- the list's expressions, by what each lambda is -/
inductive LamsE (X : Cx) : List Expr → List (Arguments × Expr × Scope) → Prop
  | nil : LamsE X [] []
  | cons {params : Arguments} {body : Expr} {scope : Scope} {pos : Pos} {es : List Expr} {ls : List (Arguments × Expr × Scope)} (L : lamSB X.env.scope scope = true) (hdef : defaultsOf params X.env = ([], [])) (hgp : genAt pos = false) (t : LamsE X es ls) : LamsE X (.Lambda params body scope pos :: es) ((params, body, scope) :: ls)
theorem lams_run {T : List (Addr × Str)} {c P : Addr} {pos : Pos} (TB : TabB X.base X.mg c P) (hcode : X.env.code = .ref c) (hm : (P, X.env.qual ++ "<lambda>") ∈ T) (hq : X.env.qual ++ "<lambda>" ≠ "") (hu : ∀ p ∈ T, p.1 = P → p.2 = X.env.qual ++ "<lambda>") :
    ∀ {es : List Expr} {ls : List (Arguments × Expr × Scope)} {pn : List (Addr × Obj)} {s : Shared} {H : Hp} {E : Value → Shared → Prop} {Q : List Value → Shared → Prop}, LamsE X es ls → Inv (X.tr pn X.xe) pins σ H s → Tb X.mg T H →
      (∀ (is : List LamI) (H1 : Hp) (s1 : Shared), is.map (fun l => (l.params, l.body, l.scope)) = ls → Inv (X.tr (is.reverse.map (fun l => (l.f, l.obj X)) ++ pn) X.xe) pins σ H1 s1 → ExtN H H1 → Tb X.mg T H1 → (∀ l ∈ is, H1 l.c = some (CodeT l.c l.P (X.env.qual ++ "<lambda>"))) → Q (is.map fun l => Value.ref l.f) s1) →
      wpAny (model X.prog X.w) X.A (spliced (backTo pos (starEach es X.env))) Q E s
  | _, _, pn, s, H, E, Q, .nil, I, hT, h => Calls.spliced_nil (h [] H s rfl I (ExtN.refl H) hT (fun _ z => nomatch z))
  | _, _, pn, s, H, E, Q, .cons (params := params) (body := body) (scope := scope) (pos := lpos) (es := es) L hdef hgp t, I, hT, h => by
    show wpAny _ _ (spliced ((false, eval (.Lambda params body scope lpos) X.env) :: backTo pos (starEach es X.env))) _ _ s
    refine Calls.spliced_cons (lam_make4 (X := X.tr pn X.xe) I TB hcode hm hq hu hT hgp hdef ((lamS_by L).has I.ok.ofTry) fun f c' P' pm' ctv H1 s' I1 eN T1 hin hf hfn hge hfr hco => ?_)
    have hd : ∀ v, (LamI.obj X ⟨params, body, scope, f, c', P', pm', ctv⟩).data ≠ .cell v := fun v z => by cases z
    have I2 := pin_add (X := X) (o := LamI.obj X ⟨params, body, scope, f, c', P', pm', ctv⟩) I1 hf hfn (fun z => by
      have h1 : X.env.locals < s.heap.objs.size := I.lt
      rw [← z] at h1
      exact Nat.lt_irrefl _ (Nat.lt_of_lt_of_le h1 hge)) (I.nofs hge) hd
    refine lams_run TB hcode hm hq hu t I2 T1 fun is H2 s2 e I3 eN2 T2 hc => ?_
    refine h (⟨params, body, scope, f, c', P', pm', ctv⟩ :: is) H2 s2 (by rw [List.map_cons, e]) ?_ (eN.trans eN2) T2 fun l hl => ?_
    · rw [List.reverse_cons, List.map_append, List.append_assoc]; exact I3
    · rcases List.mem_cons.mp hl with z | z
      · subst z; exact eN2 _ _ hco codeT_ne
      · exact hc l z
end
end Ev
namespace Ev
open PySem PySem.Spec PyProof.Rows L2 LamX
/-- the def x takes one thing a, calls it, and tells of its error's classes -/
structure Tu (K : PySem.W.Frag) (mg : Str → Option Value) (ans : Str → Option (List Bool)) (x a : Str) : Prop where
  ex : ∃ (g : Addr) (pg : Arguments) (bg : List Stmt) (sg : Scope) (dV kV doc pm cdv ct oc : Value) (an od : Option Addr) (osl : Array (Option Value)) (Ng : List Str) (cF : Value) (cs : List Value),
    mg x = some (.ref g) ∧ PySem.W.keepIn K (.ref g) = true ∧ K.lookup g = some ⟨oc, od, .func (PySem.W.fnOf x x pg bg sg dV kV doc pm an cdv ct), osl⟩ ∧ PySem.W.codeIn K cdv x = true ∧ L2.Binds K (PySem.W.fnOf x x pg bg sg dV kV doc pm an cdv ct) [a] [] ∧
      FnScope Ng [a] sg ∧ Ng[0]? = some a ∧ Vis sg a ∧ (∀ (X : Cx) (q : Str), X.K = K → X.mg = mg → GivesTo3 X Ng x sg g cdv bg a q (TTu K cF cs)) ∧
      (∀ (y : Str) (A : Addr) (bs : List Bool), mg y = some (.ref A) → ans y = some bs → PySem.W.exmOne K (.ref A) cF = some true ∧ ExcC K A ∧ Ans K A cs bs)
/-- the lambdas' readings -/
inductive LamsM (T : List (Addr × Str)) (X : Cx) (k : Nat) : List (Arguments × Expr × Scope) → List (M D) → Prop
  | nil : LamsM T X k [] []
  | cons {κ : Bool} {params : Arguments} {body : Expr} {scope : Scope} {m : M D} {ls : List (Arguments × Expr × Scope)} {ms : List (M D)} (L : lamSB X.env.scope scope = true)
      (hbind : ∀ (q : Str) (cl : List (Str × Addr)) (pm cv ctv : Value), bindArgs (PySem.W.kla_fn "<lambda>" q params body scope cl pm cv ctv) ⟨[], []⟩ = pure [])
      (hbody : ∀ (A : Around) (outer : List PySem.Env) (s : Shared) (H : Hp) (E : XK) (f c' : Addr), Room k (A.deeper (lamEnv X scope s.heap.objs.size f c')) → EV κ T (lamCx X A outer s H E scope f c') (fun c d _ H' => E c d H') body m) (t : LamsM T X k ls ms) : LamsM T X k ((params, body, scope) :: ls) (m :: ms)
/-- one of them, ready -/
structure LamR (T : List (Addr × Str)) (X : Cx) (k : Nat) (l : Arguments × Expr × Scope) (m : M D) : Prop where
  L : lamSB X.env.scope l.2.2 = true
  hbind : ∀ (q : Str) (cl : List (Str × Addr)) (pm cv ctv : Value), bindArgs (PySem.W.kla_fn "<lambda>" q l.1 l.2.1 l.2.2 cl pm cv ctv) ⟨[], []⟩ = pure []
  hbody : ∃ κ, ∀ (A : Around) (outer : List PySem.Env) (s : Shared) (H : Hp) (E : XK) (f c' : Addr), Room k (A.deeper (lamEnv X l.2.2 s.heap.objs.size f c')) → EV κ T (lamCx X A outer s H E l.2.2 f c') (fun c d _ H' => E c d H') l.2.1 m
theorem LamsM.get {T : List (Addr × Str)} {X : Cx} {k : Nat} : ∀ {ls : List (Arguments × Expr × Scope)} {ms : List (M D)} {n : Nat} {m : M D}, LamsM T X k ls ms → ms[n]? = some m → ∃ l, ls[n]? = some l ∧ LamR T X k l m
  | _, _, n, m, .nil, e => by simp at e
  | _, _, 0, m, .cons L hb hy t, e => by
    simp at e
    subst e
    exact ⟨_, rfl, ⟨L, hb, _, hy⟩⟩
  | _, _, n + 1, m, .cons L hb hy t, e => by
    obtain ⟨l, h1, h2⟩ := LamsM.get (n := n) t (by simpa using e)
    exact ⟨l, by simpa using h1, h2⟩
section
variable {T : List (Addr × Str)} {X : Cx}
/-- x(e): e one of the lambdas that the context holds -/
def tCallU (X : Cx) (k : Nat) (TT : (XK → Hp → VK → Prop) → Hp → VK → Prop) (te : TE) : TE := fun σ H Q => te σ H fun v H1 => ∃ (l : LamI) (t : XK → TE), (l.f, l.obj X) ∈ X.pn ∧ lamSB X.env.scope l.scope = true ∧ (∀ (q : Str) (cl : List (Str × Addr)) (pm cv ctv : Value), bindArgs (PySem.W.kla_fn "<lambda>" q l.params l.body l.scope cl pm cv ctv) ⟨[], []⟩ = pure []) ∧
  (∀ (A : Around) (outer : List PySem.Env) (s : Shared) (H : Hp) (E : XK) (f c' : Addr), Room k (A.deeper (lamEnv X l.scope s.heap.objs.size f c')) → PE (lamCx X A outer s H E l.scope f c') l.body (t E)) ∧ v = .ref l.f ∧ H1 l.c = some (CodeT l.c l.P (X.env.qual ++ "<lambda>")) ∧ TT (fun E H' Q' => t E σ H' Q') H1 Q
theorem pe_callU {TT : (XK → Hp → VK → Prop) → Hp → VK → Prop} {x a : Str} {g : Addr} {k : Nat} {pg : Arguments} {bg : List Stmt} {sg : Scope} {dV kV doc pm cdv ct oc : Value} {an od : Option Addr} {osl : Array (Option Value)} {Ng : List Str} {e : Expr} {te : TE} {p pos : Pos} (hg : Gl X x) (hm : X.mg x = some (.ref g)) (hk : PySem.W.keepIn X.K (.ref g) = true)
    (lk : X.K.lookup g = some ⟨oc, od, .func (PySem.W.fnOf x x pg bg sg dV kV doc pm an cdv ct), osl⟩) (hcg : PySem.W.codeIn X.K cdv x = true) (hb : L2.Binds X.K (PySem.W.fnOf x x pg bg sg dV kV doc pm an cdv ct) [a] []) (Sg : FnScope Ng [a] sg) (hNg : Ng[0]? = some a) (hva : Vis sg a)
    (hG : GivesTo3 X Ng x sg g cdv bg a (X.env.qual ++ "<lambda>") TT) (hr : Room (k + 2) X.A) (he : PE X e te) (hse : starEach [e] X.env = (false, eval e X.env) :: starEach [] X.env)
    (hdb : (x == ("__debug__" : Str)) = false := by decide) (hd : (a == ("__debug__" : Str)) = false := by decide) (hcd : (a == ("__classdict__" : Str)) = false := by decide) :
    PE X (.Call (.Name x p) [e] [] pos) (tCallU X k TT te) := by
  refine ⟨fun pins s σ H Q I h => ?_⟩
  refine wpAny_Call_Name_kw (ld_glob I hg hm ?_ hdb)
  refine PySem.W.callWith_K (h₀ := X.base) I.ok.mod.kin hk ?_ hse (by rfl)
  rw [hse]
  show wpAny _ _ (spliced ((false, eval e X.env) :: backTo pos (starEach [] X.env))) _ _ s
  refine Calls.spliced_cons (thn (he.run pins s σ H _ I h) fun u s' hh => ?_)
  obtain ⟨v, H1, I1, rv, l, t, hpn, L, hbind, hbody, ev, hco, hT⟩ := hh
  subst ev
  obtain rfl : u = Value.ref l.f := rv
  refine Calls.spliced_nil ⟨I1.kIn, ?_⟩
  obtain ⟨hf, hfn, hfl, hfs, _⟩ := I1.pin _ (List.mem_append_left _ hpn)
  have hfr : l.f ∉ frs X.stack := fun z => by
    rcases List.mem_cons.mp (I1.stkSub _ z) with e | e
    · exact hfl e
    · exact hfs e
  have rc : codeAny (model X.prog X.w) X.A (.call (.ref g) ⟨[.ref l.f], []⟩) (CR C8.CX0 X.stack X.prog X.w H1 s' Q C8.E0) s' := by
    refine run_ofS (N := Ng) (ps := [a]) (us := [.ref l.f]) (vs := [.ref l.f]) lk hcg Sg hr I1.env0 (hb s' [.ref l.f] I1.kIn rfl) (.cons rfl .nil) rfl fun hr' => ?_
    obtain ⟨t', ht', hq'⟩ := hG l.f l.c l.P s' H1 Q (fun E H' Q' => t E σ H' Q') (fun W pn xe E p1 p2 tk hW => pe_act3 (i := 0) I1 (lamS_by L) hf hfn hfr (hbind _ _ _ _ _) tk hW hr' (fun A outer s H hr2 => hbody A outer s H E l.f l.c hr2) hNg hva hd hcd) hco hT
    exact ⟨t', ht'.nox, hq'⟩
  refine wpAny_call (codeAny_mono rc fun r s2 hq => ?_)
  cases r with
  | error e => exact (show False from hq).elim
  | ok fl =>
    cases fl with
    | ret u => exact I1.after hq
    | next => exact False.elim hq
    | brk => exact False.elim hq
    | cont => exact False.elim hq
end
/-- whats = [lambda: .., ..]; k = e; if x(whats[k]) != r: return False -/
def sUnder (i j : Nat) (ans : Str → Option (List Bool)) (ms : List (M D)) (mk mr : M D) : Sm := fun env st => match mk (env.set i none) st with
  | .ok (.int n) st1 => if 0 ≤ n then (match ms[n.toNat]? with
    | some m => (match m ((env.set i none).set j (some (.int n))) st1 with
      | .exc e st2 => (match ans e.cls with
        | some bs => (match mr ((env.set i none).set j (some (.int n))) st2 with
          | .ok d st3 => (match dNe (.lst (bs.map .bl)) d with
            | some (.bl true) => .rt (.bl false) st3
            | some (.bl false) => .nx ((env.set i none).set j (some (.int n))) st3
            | _ => .bad)
          | _ => .bad)
        | none => .bad)
      | _ => .bad)
    | none => .bad) else .bad
  | _ => .bad
section
variable {G : Gx} {W : Wm} {H H' : Hp} {env : Env} {st : Sto} {σ : L2.St}
theorem Rel.drop (r : Rel G W H env st σ) (i : Nat) (v : Option V) : Rel G W H (env.set i none) st (σ.set i v) := ⟨r.sto, by rw [List.length_set, List.length_set]; exact r.env.len, fun k d e => by
  by_cases z : k = i
  · subst z
    rcases Nat.lt_or_ge k env.length with q | q
    · rw [List.getElem?_set_self q] at e; cases e
    · rw [List.getElem?_eq_none (by rw [List.length_set]; exact q)] at e; cases e
  · rw [List.getElem?_set_ne (Ne.symm z)] at e
    obtain ⟨u, h1, h2⟩ := r.env.at_ k d e
    exact ⟨u, by rw [List.getElem?_set_ne (Ne.symm z)]; exact h1, h2⟩⟩
theorem Lay.rel (l : Lay H H') (r : Rel G W H env st σ) : Rel G W H' env st σ ∧ Ext false W H W H' := by
  induction l with
  | refl => exact ⟨r, Ext.refl⟩
  | step l hp ih =>
    obtain ⟨r1, e1⟩ := ih
    exact ⟨r1.laid hp, e1.trans (Ext.laid r1.sto hp)⟩
theorem Reps.bools {K : PySem.W.Frag} : ∀ (bs : List Bool), Reps K W H (bs.map D.bl) (bs.map V.bl)
  | [] => Reps.nil
  | b :: bs => Reps.cons (rep_bl.mpr rfl) (Reps.bools bs)
end
section
variable {T : List (Addr × Str)} {X : Cx} {Wx : WX} {κ κ' : Bool} {k : Nat} {ans : Str → Option (List Bool)} {x a w y : Str} {i j : Nat} {es : List Expr} {ls : List (Arguments × Expr × Scope)} {ms : List (M D)} {ek er : Expr} {mk mr : M D} {p1 p2 p3 p4 p5 p6 p7 p8 p9 p10 p11 p12 p13 p14 : Pos} {jc : Nat}
theorem sub_of {ls' : List LamI} {l : Arguments × Expr × Scope} {n : Nat} (e : ls'.map (fun l => (l.params, l.body, l.scope)) = ls) (h : ls[n]? = some l) : ∃ q, ls'[n]? = some q ∧ (q.params, q.body, q.scope) = l := by
  rw [← e, List.getElem?_map] at h
  cases z : ls'[n]? with
  | none => rw [z] at h; cases h
  | some q => rw [z] at h; exact ⟨q, rfl, by simpa using h⟩
theorem ssv_under (F : Tu X.K X.mg ans x a) (hl : Lt X.base X.mg T X.env.qual X.env.code) (hr : Room (k + 2) X.A) (hu : X.A.units + 64 < cLine) (nd : X.N.Nodup) (i j : Nat) (le : LamsE X es ls) (lm : LamsM T X k ls ms) (hk : ∀ pn, EV κ T (X.tr pn X.xe) Wx ek mk) (hrr : ∀ pn, EV κ' T (X.tr pn X.xe) Wx er mr)
    (hi : X.N[i]? = some w := by rfl) (hj : X.N[j]? = some y := by rfl) (hij : i ≠ j := by decide) (hxi : Loc X.env.scope w := by first | exact Or.inl rfl | exact Or.inr rfl) (hxj : Loc X.env.scope y := by first | exact Or.inl rfl | exact Or.inr rfl) (hfi : X.fn w = true ∨ X.env.scope.names.lookup w = some .local := by first | exact .inl rfl | exact .inr rfl) (hfj : X.fn y = true ∨ X.env.scope.names.lookup y = some .local := by first | exact .inl rfl | exact .inr rfl)
    (hsz : es.length ≤ sizeLine := by decide) (hs1 : swapsWith (.List es p2) (some (.Name w p1)) p3.line X.env = pure false := by rfl) (hs2 : swapsWith ek (some (.Name y p4)) p5.line X.env = pure false := by rfl) (hg : Gl X x := by rfl) (hmk : behindInMarks .NotEq er = false := by rfl)
    (hdb : (x == ("__debug__" : Str)) = false := by decide) (hd : (a == ("__debug__" : Str)) = false := by decide) (hcd : (a == ("__classdict__" : Str)) = false := by decide) (hd1 : (w == ("__debug__" : Str)) = false := by decide) (hcd1 : (w == ("__classdict__" : Str)) = false := by decide) (hd2 : (y == ("__debug__" : Str)) = false := by decide) (hcd2 : (y == ("__classdict__" : Str)) = false := by decide) :
    SsV T X Wx [.Assign [.Name w p1] (.List es p2) p3, .Assign [.Name y p4] ek p5, .If (.Compare (.Call (.Name x p6) [.Subscript (.Name w p7) (.Name y p8) p9] [] p10) [.NotEq] [er] p11) [.Return (some (.Constant (.bool false) jc p12)) p13] [] p14] (sUnder i j ans ms mk mr) := by
  obtain ⟨g, pg, bg, sg, dV, kV, doc, pm, cdv, ct, oc, an, od, osl, Ng, cF, cs, f1, f2, f3, f4, f5, f6, f7, f8, f9, f10⟩ := F.ex
  obtain ⟨c, P, e1, e2, e3, e4⟩ := hl.ex
  refine ⟨fun D σ H => ∃ W env st, Rel (Gof X T) W H env st σ ∧ SPost (Gof X T) Wx W H (sUnder i j ans ms mk mr env st) D, ⟨fun pins s σ H D I h => ?_⟩, fun W H env st σ D rl h => ⟨W, env, st, rl, h⟩⟩
  obtain ⟨W, env, st, rl, hp⟩ := h
  have ok := I.ok
  have I0 := pin_start I
  have hiN : i < X.N.length := (List.getElem?_eq_some_iff.mp hi).1
  have hjN : j < X.N.length := (List.getElem?_eq_some_iff.mp hj).1
  refine wpAny_execs_cons (wpAny_Assign_Name (wpAny_List_spliced (lams_run (pos := p2) e2 e1 e3 (lam_ne _) e4 le I0 rl.sto.tabs fun is H1 s1 eis I1 eN T1 hc => ⟨?_, ?_⟩)) hs1)
  · have z1 : is.length = ls.length := by rw [← eis, List.length_map]
    have z2 : ∀ {es : List Expr} {ls : List (Arguments × Expr × Scope)}, LamsE X es ls → ls.length = es.length := fun {es ls} h => by
      induction h with
      | nil => rfl
      | cons _ _ _ _ ih => simp [ih]
    rw [List.length_map, z1, z2 le]; exact hsz
  have vals : ∀ (l : List LamI), Vals (l.map fun l => V.ref l.f) (l.map fun l => Value.ref l.f) := fun l => by
    induction l with
    | nil => exact .nil
    | cons q l ih => exact .cons rfl ih
  have len : is.length ≤ sizeLine := by
    have z1 : is.length = ls.length := by rw [← eis, List.length_map]
    have z2 : ∀ {es : List Expr} {ls : List (Arguments × Expr × Scope)}, LamsE X es ls → ls.length = es.length := fun {es ls} h => by
      induction h with
      | nil => rfl
      | cons _ _ _ _ ih => simp [ih]
    rw [z1, z2 le]; exact hsz
  have nA : H1 s1.heap.objs.size = none := I1.hok.fresh (Nat.le_refl _)
  have I2 := I1.laid (t' := s1.toks) (h' := s1.heap.push { cls := .type "list", data := .seq (is.map fun l => Value.ref l.f).toArray }) (a := s1.heap.objs.size) (o := .lst (is.map fun l => V.ref l.f)) (fun b u e => Heap.get?_push_of_some _ e) (Nat.le_refl _) ⟨by rw [List.length_map]; exact len, _, 0, vals is, Heap.get?_push_size _ rfl⟩
  refine store_ok (X := X.tr (is.reverse.map (fun l => (l.f, l.obj X)) ++ X.pn) X.xe) I2 nd hi hxi (v := .ref s1.heap.objs.size) rfl (fun s3 I3 => ?_) hfi
  show wpAny (model X.prog X.w) X.A (execs _ X.env) (SP X pins D) X.xe s3
  generalize epn : (is.reverse.map (fun l => (l.f, l.obj X)) ++ X.pn) = pn' at I3
  obtain ⟨tk, pk, rk⟩ := (hk pn').ex
  obtain ⟨tr, pr, rr⟩ := (hrr pn').ex
  have pi := pe_ix (X := X.tr pn' X.xe) (pos := p9) ix_seq (pe_var (pos := p7) hi (by rcases hxi with z | z; exact .inl z; exact .inr (.inl z)) hd1 hcd1) (pe_var (pos := p8) hj (by rcases hxj with z | z; exact .inl z; exact .inr (.inl z)) hd2 hcd2) (fun _ _ => rfl)
  have pcall := pe_callU (X := X.tr pn' X.xe) (k := k) (p := p6) (pos := p10) hg f1 f2 f3 f4 f5 f6 f7 f8 (f9 (X.tr pn' X.xe) _ rfl rfl) hr pi (by rfl) hdb hd hcd
  have P23 := pss_cons (X := X.tr pn' X.xe) (ps_set (pos := p5) (pos' := p4) nd hj hxj pk hs2 hfj) (pss_one (ps_if (pos := p14) (pt_cmpR (pos := p11) (op_neW hu) pcall pr hmk) (pss_one (ps_ret (pos := p13) (pe_bl (b := false) (j := jc) (pos := p12)))) pss_nil))
  refine wpAny_mono (P23.run pins s3 _ _ D I3 ?_) (fun f s' q => ?_) (fun _ _ q => q)
  · have eN1 : Ext false W H W H1 := ext_extN rl.sto eN
    have r1 : Rel (Gof X T) W H1 env st σ := rl.extN eN T1
    have wA : W s1.heap.objs.size = none := r1.sto.nobody nA
    have r2 : Rel (Gof X T) W (upd H1 s1.heap.objs.size (.lst (is.map fun l => V.ref l.f))) (env.set i none) st (σ.set i (some (.ref s1.heap.objs.size))) := (r1.laid nA).drop i _
    have e2' : Ext false W H W (upd H1 s1.heap.objs.size (.lst (is.map fun l => V.ref l.f))) := eN1.trans (Ext.laid r1.sto nA)
    have hA2 : (upd H1 s1.heap.objs.size (.lst (is.map fun l => V.ref l.f))) s1.heap.objs.size = some (.lst (is.map fun l => V.ref l.f)) := upd_same
    have hC2 : ∀ l ∈ is, (upd H1 s1.heap.objs.size (.lst (is.map fun l => V.ref l.f))) l.c = some (CodeT l.c l.P (X.env.qual ++ "<lambda>")) := fun l hl => by
      rw [upd_ne (ne_of_none (hc l hl) nA)]; exact hc l hl
    generalize upd H1 s1.heap.objs.size (.lst (is.map fun l => V.ref l.f)) = H2 at r2 e2' hA2 hC2 ⊢
    have r2u := r2.untag
    have back : ∀ {W' : Wm} {H' : Hp}, Ext false (Ev.untag W H2) H2 W' H' → ExtS W H W' H' := fun e => (e2'.trans (Ext.untag r2.sto e)).s
    have wA2 : Ev.untag W H2 s1.heap.objs.size = none := untag_none wA
    have hlen : (σ.set i (some (.ref s1.heap.objs.size))).length = X.N.length := I3.len
    unfold sUnder at hp
    show tk _ H2 _
    refine rk (Ev.untag W H2) H2 (env.set i none) st _ _ r2u ?_
    cases em : mk (env.set i none) st with
    | bad => rw [em] at hp; exact hp.elim
    | exc _ _ => rw [em] at hp; exact hp.elim
    | ok d st1 =>
      rw [em] at hp
      intro W3 H3 v e3 r3 q3
      cases d with
      | int n =>
        dsimp only at hp
        obtain rfl : v = .int n := rep_int.mp q3
        split at hp
        case isFalse => exact hp.elim
        rename_i hn
        cases emn : ms[n.toNat]? with
        | none => rw [emn] at hp; exact hp.elim
        | some m =>
          rw [emn] at hp
          dsimp only at hp
          obtain ⟨l0, el0, R⟩ := lm.get emn
          obtain ⟨l, el, e0⟩ := sub_of eis el0
          subst e0
          obtain ⟨κm, hbody⟩ := R.hbody
          have r4 : Rel (Gof X T) W3 H3 ((env.set i none).set j (some (.int n))) st1 ((σ.set i (some (.ref s1.heap.objs.size))).set j (some (.int n))) := r3.set j (rep_int.mpr rfl)
          generalize e3e : (env.set i none).set j (some (.int n)) = env3 at r4 hp
          have fam : ∀ E : XK, ∃ t : TE, (∀ (A : Around) (outer : List PySem.Env) (s : Shared) (H : Hp) (f c' : Addr), Room k (A.deeper (LamX.lamEnv X l.scope s.heap.objs.size f c')) → PE (LamX.lamCx X A outer s H E l.scope f c') l.body t) ∧
              ∀ W H env st σ Q, Rel (Gof X T) W H env st σ → Post κm (RepR X) (Gof X T) (fun c d _ H' => E c d H') W H env σ (m env st) Q → t σ H Q := fun E => by
            let Xs : {z : Around × List PySem.Env × Shared × Hp × Addr × Addr // Room k (z.1.deeper (LamX.lamEnv X l.scope z.2.2.1.heap.objs.size z.2.2.2.2.1 z.2.2.2.2.2))} → Cx := fun z => LamX.lamCx X z.1.1 z.1.2.1 z.1.2.2.1 z.1.2.2.2.1 E l.scope z.1.2.2.2.2.1 z.1.2.2.2.2.2
            obtain ⟨t, h1, h2⟩ := fam_ev (Xs := Xs) (Wx := fun c d _ H' => E c d H') (κ := κm) (R := RepR X) (e := l.body) (m := m) (K := X.K) (mg := X.mg) (T := T) (fun _ => rfl) fun z => hbody z.1.1 z.1.2.1 z.1.2.2.1 z.1.2.2.2.1 E z.1.2.2.2.2.1 z.1.2.2.2.2.2 z.2
            exact ⟨t, fun A outer s H f c' hr => h1 ⟨(A, outer, s, H, f, c'), hr⟩, h2⟩
          have hA3 : H3 s1.heap.objs.size = some (.lst (is.map fun l => V.ref l.f)) := (e3.fr _ _ wA2 hA2 (fun _ z => by cases z)).2
          have hC3 : H3 l.c = some (CodeT l.c l.P (X.env.qual ++ "<lambda>")) := untag_code e3.f (hC2 l (List.mem_of_getElem? el))
          have mem : (l.f, l.obj X) ∈ pn' := by
            rw [← epn]
            exact List.mem_append_left _ (List.mem_map.mpr ⟨l, List.mem_reverse.mpr (List.mem_of_getElem? el), rfl⟩)
          have at1 : atI (is.map fun l => V.ref l.f) n = some (.ref l.f) := by
            have z : n.toNat < is.length := (List.getElem?_eq_some_iff.mp el).1
            unfold atI ixN
            rw [List.length_map, if_pos hn]
            first
              | (rw [if_pos (by omega)]; simp [el])
              | (simp [el, z])
          unfold gName tIfS tTest tOp tCallU tVar
          dsimp only
          refine ⟨.ref s1.heap.objs.size, ?_, .int n, ?_, .inl ⟨_, _, n, _, rfl, rfl, .inl (.inl hA3), at1, ?_⟩⟩
          · rw [List.getElem?_set_ne (Ne.symm hij)]
            exact List.getElem?_set_self (by rw [List.length_set] at hlen; omega)
          · exact List.getElem?_set_self (by omega)
          refine ⟨l, fun E => Classical.choose (fam E), mem, R.L, R.hbind, fun A outer s H E f c' hr => (Classical.choose_spec (fam E)).1 A outer s H f c' hr, rfl, hC3, ?_⟩
          refine (Classical.choose_spec (fam _)).2 W3 H3 env3 st1 _ _ r4 ?_
          cases emm : m env3 st1 with
          | bad => rw [emm] at hp; exact hp.elim
          | ok _ _ => rw [emm] at hp; exact hp.elim
          | exc x st2 =>
            rw [emm] at hp
            dsimp only at hp
            cases ea : ans x.cls with
            | none => rw [ea] at hp; exact hp.elim
            | some bs =>
              rw [ea] at hp
              dsimp only at hp
              intro W4 H4 cl d e4' r4' hx
              obtain ⟨C, rfl, hC, hdd⟩ := hx
              obtain ⟨g1, g2, g3⟩ := f10 _ _ _ hC ea
              refine ⟨g1, C, bs, rfl, g2, fun dd ed => ?_, g3, fun p H5 lay hp5 hp4 => ?_⟩
              · rcases hdd with ⟨_, z⟩ | ⟨dd', f, e, v, _, z1, z2, _⟩
                · rw [z] at ed; cases ed
                · rw [z1] at ed; cases ed; exact ⟨_, z2⟩
              obtain ⟨r5, e5⟩ := lay.rel r4'
              refine rr W4 H5 env3 st2 _ _ r5 ?_
              cases emr : mr env3 st2 with
              | bad => rw [emr] at hp; exact hp.elim
              | exc _ _ => rw [emr] at hp; exact hp.elim
              | ok d2 st3 =>
                rw [emr] at hp
                dsimp only at hp
                intro W6 H6 y6 e6 r6 q6
                have wp : W4 p = none := r4'.sto.nobody hp4
                obtain ⟨w6, h6⟩ := e6.fr p _ wp hp5 (fun _ z => by cases z)
                have rep : Rep X.K W6 H6 (.lst (bs.map .bl)) (.ref p) := by
                  unfold Rep
                  exact ⟨p, _, rfl, .inl ⟨w6, .inl h6⟩, Reps.bools bs⟩
                refine op2_neW (X := X.tr pn' X.xe) (Wx := Wx) W6 H6 env3 st3 _ _ _ _ _ _ r6 (.inl rep) (.inl q6) ?_
                unfold pure2
                have all : ∀ {W7 : Wm} {H7 : Hp}, Ext true W6 H6 W7 H7 → ExtS W H W7 H7 := fun e7 => ((back e3.f).trans (e4'.s.trans (e5.s.trans (e6.f.s)))).trans e7.s
                cases en : dNe (.lst (bs.map .bl)) d2 with
                | none => rw [en] at hp; exact hp.elim
                | some b =>
                  rw [en] at hp
                  intro W7 H7 v7 e7 r7 q7
                  cases b with
                  | bl b =>
                    cases b with
                    | true =>
                      refine ⟨true, rep_bl.mp q7, ?_⟩
                      show D.rt (.bl false) H7
                      exact hp W7 H7 _ (all e7) r7.sto (rep_bl.mpr rfl)
                    | false =>
                      refine ⟨false, rep_bl.mp q7, ?_⟩
                      show D.nx _ H7
                      exact hp W7 H7 _ (all e7) r7
                  | _ => exact hp.elim
      | _ => exact hp.elim
  · have sub : ∀ p ∈ X.pn, p ∈ pn' := fun p hp => by rw [← epn]; exact List.mem_append_right _ hp
    cases f with
    | next => obtain ⟨σ', H', J, q⟩ := q; exact ⟨σ', H', pin_end ok J sub, q⟩
    | brk => obtain ⟨σ', H', J, q⟩ := q; exact ⟨σ', H', pin_end ok J sub, q⟩
    | cont => obtain ⟨σ', H', J, q⟩ := q; exact ⟨σ', H', pin_end ok J sub, q⟩
    | ret u => obtain ⟨v, σ', H', J, r, q⟩ := q; exact ⟨v, σ', H', pin_end ok J sub, r, q⟩
end
end Ev
set_option autoImplicit true
set_option maxRecDepth 100000
set_option maxHeartbeats 4000000
/-! what the head of a law tells of errors with an own __init__, and of isinstance -/
namespace Ev
open PySem PySem.Spec PyProof.Rows L2 PySem.OwnX PySem.HandSPX
def excCB (K : PySem.W.Frag) (D : Addr) : Bool := He.eqO (PySem.W.findIn K (.ref D) "__getattribute__") (some (some (.builtin "BaseException.__getattribute__"))) && (He.eqO (PySem.W.findIn K (.ref D) "__getattr__") (some none) && (decide (PySem.W.subIn K (.ref D) (.type "BaseException") = some true) && (PySem.W.hasDictIn K D && (He.eqO (PySem.W.findIn K (.ref D) "__class__") (some (some (.builtin "object.__class__"))) &&
  (He.eqO (PySem.W.specialIn K (.builtin "object.__class__") "__get__") (some (some (.builtin "getset_descriptor.__get__"))) && (decide (PySem.W.takesIn K (.builtin "object.__class__") = some true) && decide (PySem.W.mroIn K D (.type "object") = some true)))))))
theorem excCB_ok {K : PySem.W.Frag} {D : Addr} (h : excCB K D = true) : ExcC K D := by
  obtain ⟨h1, h⟩ := He.ba h
  obtain ⟨h2, h⟩ := He.ba h
  obtain ⟨h3, h⟩ := He.ba h
  obtain ⟨h4, h⟩ := He.ba h
  obtain ⟨h5, h⟩ := He.ba h
  obtain ⟨h6, h⟩ := He.ba h
  obtain ⟨h7, h8⟩ := He.ba h
  exact ⟨He.eqO_ok h1, He.eqO_ok h2, of_decide_eq_true h3, h4, He.eqO_ok h5, He.eqO_ok h6, of_decide_eq_true h7, of_decide_eq_true h8⟩
def ansB (K : PySem.W.Frag) (D : Addr) : List Value → List Bool → Bool
  | [], [] => true
  | cv :: r, b :: bs => decide (PySem.W.kitOne K (.ref D) cv = some b) && ansB K D r bs
  | _, _ => false
theorem ansB_ok {K : PySem.W.Frag} {D : Addr} : ∀ {cs : List Value} {bs : List Bool}, ansB K D cs bs = true → Ans K D cs bs
  | [], [], _ => .nil
  | cv :: r, b :: bs, h => let ⟨h1, h2⟩ := He.ba (show (decide (PySem.W.kitOne K (.ref D) cv = some b) && ansB K D r bs) = true from h); .cons (of_decide_eq_true h1) (ansB_ok h2)
  | [], _ :: _, h => by cases h
  | _ :: _, [], h => by cases h
/-! ### an own error with an own __init__ -/
def argsB (a : Arguments) : Bool := match a with
  | ⟨[], [⟨s1, none, _⟩, ⟨s2, none, _⟩], none, [], [], none, []⟩ => decide (s1 = "self") && decide (s2 = "row")
  | _ => false
theorem argsB_ok {a : Arguments} (h : argsB a = true) : ∃ p1 p2, a = iA p1 p2 := by
  unfold argsB at h
  split at h
  · obtain ⟨h1, h2⟩ := He.ba h
    rw [of_decide_eq_true h1, of_decide_eq_true h2]
    exact ⟨_, _, rfl⟩
  · cases h
def bodyB (b : List Stmt) : Bool := match b with
  | [.Expr (.Call (.Attribute (.Call (.Name n1 r1) [] [] r2) n2 r3) [.Constant (.str txt) j r4] [] r5) r6, .Assign [.Attribute (.Name n3 q1) n4 q2] (.Name n5 q3) q4] => decide (n1 = "super") && (decide (n2 = "__init__") && (decide (n3 = "self") && (decide (n4 = "row") && (decide (n5 = "row") && (r3.endLine == r5.line)))))
  | _ => false
theorem bodyB_ok {b : List Stmt} (h : bodyB b = true) : ∃ txt j r1 r2 r3 r4 r5 r6 q1 q2 q3 q4, b = iB txt j r1 r2 r3 r4 r5 r6 q1 q2 q3 q4 ∧ (r3.endLine == r5.line) = true := by
  unfold bodyB at h
  split at h
  · obtain ⟨h1, h⟩ := He.ba h
    obtain ⟨h2, h⟩ := He.ba h
    obtain ⟨h3, h⟩ := He.ba h
    obtain ⟨h4, h⟩ := He.ba h
    obtain ⟨h5, h6⟩ := He.ba h
    rw [of_decide_eq_true h1, of_decide_eq_true h2, of_decide_eq_true h3, of_decide_eq_true h4, of_decide_eq_true h5]
    exact ⟨_, _, _, _, _, _, _, _, _, _, _, _, rfl, h6⟩
  · cases h
def fileB (K : PySem.W.Frag) (cda : Addr) (F : Str) : Bool := match K.lookup cda with
  | some ⟨_, _, .fields vs, _⟩ => (match vs[2]? with | some (Value.str f _) => decide (f = F) | _ => false)
  | _ => false
theorem fileB_ok {K : PySem.W.Frag} {cda : Addr} {F : Str} (h : fileB K cda F = true) : ∃ ccl cdd vs ccs tf, K.lookup cda = some ⟨ccl, cdd, .fields vs, ccs⟩ ∧ vs[2]? = some (.str F tf) := by
  unfold fileB at h
  split at h
  · rename_i c d vs s e
    split at h
    · rename_i f t e2
      rw [← of_decide_eq_true h]
      exact ⟨c, d, vs, s, t, e, e2⟩
    · cases h
  · cases h
def cellB (K : PySem.W.Frag) (cc C : Addr) : Bool := match K.lookup cc with
  | some ⟨_, _, .cell (some (.ref C')), _⟩ => decide (C' = C)
  | _ => false
theorem cellB_ok {K : PySem.W.Frag} {cc C : Addr} (h : cellB K cc C = true) : ∃ cl cld csl, K.lookup cc = some ⟨cl, cld, .cell (some (.ref C)), csl⟩ := by
  unfold cellB at h
  split at h
  · rename_i c d C' s e
    rw [← of_decide_eq_true h]
    exact ⟨c, d, s, e⟩
  · cases h
def initB (K : PySem.W.Frag) (C fI : Addr) (F : Str) : Bool := match K.lookup fI with
  | some ⟨_, _, .func ⟨n, q, a, .stmts b, sc, gl, [(cn, cc)], dV, kV, _, _, _, .ref cda, _, bl⟩, _⟩ => decide (n = "__init__") && (argsB a && (bodyB b && (decide (sc = iS) && (decide (gl = mainGlobals) && (decide (cn = "__class__") && (decide (dV = .none) && (decide (kV = .none) && (decide (bl = builtinsNs) && (PySem.W.codeIn K (.ref cda) q && (fileB K cda F && cellB K cc C))))))))))
  | _ => false
theorem initB_ok {P : Program} {K : PySem.W.Frag} {C fI : Addr} {F : Str} (hF : ((P.main.file : Str) == F) = true) (h : initB K C fI F = true) : ∃ (oc : Value) (od : Option Addr) (doc pm : Value) (an : Option Addr) (cda : Addr) (ct : Value) (cc : Addr) (osl : Array (Option Value)) (q txt : Str) (j : Nat) (p1 p2 r1 r2 r3 r4 r5 r6 q1 q2 q3 q4 : Pos),
    K.lookup fI = some ⟨oc, od, .func (PySem.W.ksFn "__init__" q (iA p1 p2) (iB txt j r1 r2 r3 r4 r5 r6 q1 q2 q3 q4) iS .none .none doc pm an (.ref cda) ct cc), osl⟩ ∧ PySem.W.codeIn K (.ref cda) q = true ∧ (r3.endLine == r5.line) = true ∧
    (∃ ccl cdd vs ccs file tf, K.lookup cda = some ⟨ccl, cdd, .fields vs, ccs⟩ ∧ vs[2]? = some (.str file tf) ∧ ((P.main.file : Str) == file) = true) ∧ ∃ cl cld csl, K.lookup cc = some ⟨cl, cld, .cell (some (.ref C)), csl⟩ := by
  unfold initB at h
  split at h
  · rename_i oc od n q a b sc gl cn cc dV kV doc pm an cda ct bl osl e
    obtain ⟨h1, h⟩ := He.ba h
    obtain ⟨h2, h⟩ := He.ba h
    obtain ⟨h3, h⟩ := He.ba h
    obtain ⟨h4, h⟩ := He.ba h
    obtain ⟨h5, h⟩ := He.ba h
    obtain ⟨h6, h⟩ := He.ba h
    obtain ⟨h7, h⟩ := He.ba h
    obtain ⟨h8, h⟩ := He.ba h
    obtain ⟨h9, h⟩ := He.ba h
    obtain ⟨h10, h⟩ := He.ba h
    obtain ⟨h11, h12⟩ := He.ba h
    obtain ⟨p1, p2, ea⟩ := argsB_ok h2
    obtain ⟨txt, j, r1, r2, r3, r4, r5, r6, q1, q2, q3, q4, eb, hl⟩ := bodyB_ok h3
    obtain ⟨ccl, cdd, vs, ccs, tf, f1, f2⟩ := fileB_ok h11
    refine ⟨oc, od, doc, pm, an, cda, ct, cc, osl, q, txt, j, p1, p2, r1, r2, r3, r4, r5, r6, q1, q2, q3, q4, ?_, h10, hl, ⟨ccl, cdd, vs, ccs, F, tf, f1, f2, hF⟩, cellB_ok h12⟩
    rw [e, of_decide_eq_true h1, ea, eb, of_decide_eq_true h4, of_decide_eq_true h5, of_decide_eq_true h6, of_decide_eq_true h7, of_decide_eq_true h8, of_decide_eq_true h9]
  · cases h
def clsB (K : PySem.W.Frag) (C : Addr) : Bool := match K.lookup C with
  | some ⟨.type "type", _, .cls cd, sl⟩ => (match cd.mro, sl.toList with
    | .ref C' :: bm, [_, _, _, _, some (.builtin n), _] => C' == C && (n == "ValueError.__new__" && (!cd.hasDel && (cd.hasDict && refsVE bm)))
    | _, _ => false)
  | _ => false
theorem clsB_ok {K : PySem.W.Frag} {C : Addr} (q : clsB K C = true) : ∃ nm q N bs bm sn sub ab col dd k0 k1 k2 k3 k5, K.lookup C = some (excClassObj nm q C N bs bm true sn sub ab col dd k0 k1 k2 k3 k5 "ValueError.__new__") ∧ refsVE bm = true := by
  unfold clsB at q
  split at q
  · rename_i dd cd sl ho
    split at q
    · rename_i C' bm k0 k1 k2 k3 n k5 hm hs
      simp only [Bool.and_eq_true, beq_iff_eq, Bool.not_eq_true'] at q
      obtain ⟨rfl, rfl, hdel, hdi, ht⟩ := q
      obtain ⟨nm, bs, mro, ns, qn, hd, sn, sub, ab, col, del⟩ := cd
      dsimp only at hm hdel hdi
      subst hm hdel hdi
      have hsl : sl = #[k0, k1, k2, k3, some (.builtin "ValueError.__new__"), k5] := by
        obtain ⟨l⟩ := sl
        simp only at hs
        rw [hs]
      subst hsl
      exact ⟨nm, qn, ns, bs, bm, sn, sub, ab, col, dd, k0, k1, k2, k3, k5, ho, ht⟩
    · cases q
  · cases q
def ownB (K : PySem.W.Frag) (C fI : Addr) (F : Str) : Bool := clsB K C && (He.eqO (PySem.W.findIn K (.ref C) "__setattr__") (some (some (.builtin "object.__setattr__"))) && (He.eqO (PySem.W.findIn K (.ref C) "__getattribute__") (some (some (.builtin "BaseException.__getattribute__"))) && (He.eqO (PySem.W.findIn K (.ref C) "__getattr__") (some none) && (He.eqO (PySem.W.findIn K (.ref C) "row") (some none) &&
  (He.eqO (PySem.W.findIn K (.ref C) "__init__") (some (some (.ref fI))) && (decide (PySem.W.typeIn K (.ref fI) = some (.type "function")) && (PySem.W.keepIn K (.ref C) && (decide (PySem.W.subIn K (.ref C) (.type "BaseException") = some true) && (decide (PySem.W.typeIn K (.ref C) = some (.type "type")) && (PySem.W.hasDictIn K C && (decide (PySem.W.subIn K (.ref C) (.type "ValueError") = some true) &&
  (decide (PySem.W.mroIn K C (.ref C) = some true) && (He.eqO (PySem.W.ks_superIn K C C "__init__") (some (some (.builtin "ValueError.__init__"))) && (He.eqO (PySem.W.nsIn K cStatics "thirdparty.any") (some none) && initB K C fI F))))))))))))))
theorem ownB_ok {P : Program} {K : PySem.W.Frag} {mg : Str → Option Value} {x F : Str} (g : mg x = some (.ref (He.ga K x))) (hs : mg "super" = none) (hF : ((P.main.file : Str) == F) = true) (htop : (P.main.scope.names.lookup ("super" : Str)).isSome = false) (h : ownB K (He.ga K x) (He.ma K (He.ga K x) "__init__") F = true) : Dx P K mg x := by
  obtain ⟨h1, h⟩ := He.ba h
  obtain ⟨h2, h⟩ := He.ba h
  obtain ⟨h3, h⟩ := He.ba h
  obtain ⟨h4, h⟩ := He.ba h
  obtain ⟨h5, h⟩ := He.ba h
  obtain ⟨h6, h⟩ := He.ba h
  obtain ⟨h7, h⟩ := He.ba h
  obtain ⟨h8, h⟩ := He.ba h
  obtain ⟨h9, h⟩ := He.ba h
  obtain ⟨h10, h⟩ := He.ba h
  obtain ⟨h11, h⟩ := He.ba h
  obtain ⟨h12, h⟩ := He.ba h
  obtain ⟨h13, h⟩ := He.ba h
  obtain ⟨h14, h⟩ := He.ba h
  obtain ⟨h15, h16⟩ := He.ba h
  exact ⟨_, _, { gC := g, cls := clsB_ok h1, sa := He.eqO_ok h2, ga := He.eqO_ok h3, gg := He.eqO_ok h4, noN := He.eqO_ok h5, iC := He.eqO_ok h6, tC := of_decide_eq_true h7, kC := h8, exC := of_decide_eq_true h9, tyC := of_decide_eq_true h10, hdC := h11, veC := of_decide_eq_true h12, mrC := of_decide_eq_true h13, suC := He.eqO_ok h14, opq := He.eqO_ok h15, sup := hs, top := htop, fn := initB_ok hF h16 }⟩
end Ev
namespace Ev
open PySem PySem.Spec PyProof.Rows L2
theorem ssv_never {T : List (Addr × Str)} {X : Cx} {Wx : WX} {ss : List Stmt} : SsV T X Wx ss (fun _ _ => .bad) := ⟨fun _ _ _ => False, ⟨fun _ _ _ _ _ _ h => h.elim⟩, fun _ _ _ _ _ _ _ h => h⟩
end Ev
/-! ### the hook, the statics among what it reads -/
namespace He
open PySem PySem.Spec PyProof.Rows L2
def asY (g : Addr → Option Obj) (n : Nat) : List Addr := asD g n ++ [cStatics]
def obsY (n : Nat) (fa : List Fa) (fn : List DefD) (ts : List Tab) (tf : List Defn) (ex : PySem.W.Frag → Bool) (g : Addr → Option Obj) : AlX := (obsT fa fn ts (frT g (asY g n)), ex (frT g (asY g n)) && tabsB g tf (frT g (asY g n)))
theorem saysY_of {n : Nat} {fa : List Fa} {fn : List DefD} {ts : List Tab} {tf : List Defn} {ex : PySem.W.Frag → Bool} {w : World} {h : Heap} (e : obsY n fa fn ts tf ex h.get? = valX fn ts w) : SaysX fa fn ts tf ex w h (frT h.get? (asY h.get? n)) := by
  have e1 : obsT fa fn ts (frT h.get? (asY h.get? n)) = valT fn ts w := congrArg (fun z : AlX => z.1) e
  have e2 : (ex (frT h.get? (asY h.get? n)) && tabsB h.get? tf (frT h.get? (asY h.get? n))) = true := congrArg (fun z : AlX => z.2) e
  obtain ⟨h1, h2⟩ := ba e2
  have key : ∀ p ∈ tf, PySem.W.codeHdIn (frT h.get? (asY h.get? n)) (cT (frT h.get? (asY h.get? n)) p).1 (cT (frT h.get? (asY h.get? n)) p).2 = true ∧ ∃ o, h.get? (cT (frT h.get? (asY h.get? n)) p).2 = some o ∧ emptyTab o = true := fun p hp => by
    obtain ⟨h3, h4⟩ := ba (List.all_eq_true.mp h2 p hp)
    refine ⟨h3, ?_⟩
    cases q : h.get? (cT (frT h.get? (asY h.get? n)) p).2 with
    | none =>
      rw [q] at h4
      cases h4
    | some o =>
      rw [q] at h4
      exact ⟨o, rfl, h4⟩
  exact ⟨e1, h1, fun p hp => (key p hp).1, fun p hp => by
    obtain ⟨_, o, q, z⟩ := key p hp
    exact frT_none q z, fun p hp => by
    obtain ⟨_, o, q, z⟩ := key p hp
    rw [q, emptyTab_eq z]⟩
def hookY (n : Nat) (fa : List Fa) (fn : List DefD) (ts : List Tab) (tf : List Defn) (ex : PySem.W.Frag → Bool) : PySem.W.Hook where
  α := AlX
  obs := fun s => obsY n fa fn ts tf ex s.heap.get?
  val := fun w => valX fn ts w
  says := fun w h => ∃ K : PySem.W.Frag, K.In h ∧ SaysX fa fn ts tf ex w h K
  of := fun _ _ e => ⟨_, frT_in, saysY_of e⟩
  keeps := fun _ _ _ ⟨K, hK, c⟩ k => ⟨K, PySem.W.Frag.In.keeps hK k, ⟨c.t, c.more, c.hd, c.out, fun p hp => k _ _ (c.empty p hp)⟩⟩
theorem obsY_eq {n : Nat} {fa : List Fa} {fn : List DefD} {ts : List Tab} {tf : List Defn} {ex : PySem.W.Frag → Bool} {g : Addr → Option Obj} {s : Shared} (h : ∀ a, g a = s.heap.get? a) : obsY n fa fn ts tf ex g = (hookY n fa fn ts tf ex).obs s := by
  have e : g = s.heap.get? := funext h
  rw [e] <;> rfl
end He
set_option autoImplicit true
set_option maxRecDepth 100000
set_option maxHeartbeats 4000000
/-! wishes: what EvG and EvH added -/
namespace Ev
open PySem PySem.Spec PyProof.Rows L2
section
variable {α β γ : Type} {P : α → Sto → Prop} {E : Exn → Sto → Prop} {env : Env} {st : Sto} {Q : Wi}
@[simp] theorem wp_mNilP {P : List (D × D) → Sto → Prop} : wpR (mNilP env st) P E ↔ P [] st := Iff.rfl
@[simp] theorem wp_mConsP {mk mv : M D} {n : M (List (D × D))} {P : List (D × D) → Sto → Prop} : wpR (mConsP mk mv n env st) P E ↔ wpR (mk env st) (fun k st1 => wpR (mv env st1) (fun v st2 => wpR (n env st2) (fun r st3 => P ((k, v) :: r) st3) E) E) E := by unfold mConsP; simp
@[simp] theorem wp_mDisp {n : M (List (D × D))} {P : Dc → Sto → Prop} : wpR (mDisp n env st) P E ↔ wpR (n env st) (fun ps st1 => (ps.length ≤ 15 ∧ (ps.all fun q => (dKey? q.1).isSome) = true) ∧ P (false, dMerge ps) st1) E := by
  unfold mDisp
  rw [wp_bind]
  constructor <;> intro h <;> refine h.imp (fun a st q => ?_) (fun _ _ q => q)
  · split at q
    · exact ⟨by assumption, q⟩
    · exact q.elim
  · rw [if_pos q.1]; exact q.2
@[simp] theorem wp_mGet2 {md mk mx : M D} {P : D → Sto → Prop} : wpR (mGet2 md mk mx env st) P E ↔ wpR (md env st) (fun d st1 => ∃ c, d = .dct c ∧ wpR (mk env st1) (fun k st2 => wpR (mx env st2) (fun x st3 => keyOk c.1 k = true ∧ P ((dLook c.2 k).getD x) st3) E) E) E := by
  unfold mGet2
  rw [wp_bind]
  constructor <;> intro h <;> refine h.imp (fun a st q => ?_) (fun _ _ q => q)
  · split at q
    · rename_i c
      refine ⟨c, rfl, ?_⟩
      simp only [wp_bind] at q
      refine q.imp (fun k st2 q => q.imp (fun x st3 q => ?_) fun _ _ z => z) fun _ _ z => z
      split at q
      · exact ⟨by assumption, q⟩
      · exact q.elim
    · exact q.elim
  · obtain ⟨c, rfl, q⟩ := q
    simp only [wp_bind]
    refine q.imp (fun k st2 q => q.imp (fun x st3 q => ?_) fun _ _ z => z) fun _ _ z => z
    rw [if_pos q.1]; exact q.2
@[simp] theorem wo_chain {is : List Nat} {m : M D} : wpO (sChain is m env st) Q ↔ wpR (m env st) (fun d st' => Q.nx (setAll env is d) st') Q.xc := by
  unfold sChain
  cases m env st <;> exact Iff.rfl
end
end Ev
set_option autoImplicit true
set_option maxRecDepth 100000
set_option maxHeartbeats 4000000
/-! wishes: any, all, sum of a generator expression without effects; locks -/
namespace Ev
open PySem PySem.Spec PyProof.Rows L2
end Ev
set_option autoImplicit true
set_option maxRecDepth 100000
set_option maxHeartbeats 4000000
/-! typed readings: values -/
namespace Ev
open PySem PySem.Spec PyProof.Rows L2
section
variable {α β γ : Type} {env : Env} {st : Sto}
abbrev eN : Unit → D := fun _ => .non
abbrev eL (f : α → D) : List α → D := fun xs => .lst (xs.map f)
abbrev eT (f : α → D) : List α → D := fun xs => .tup (xs.map f)
abbrev eO2 (f : α → D) (g : β → D) : α × β → D := fun p => .tup [f p.1, g p.2]
/-! ### equality -/
/-- an encoding whose equality is the model's -/
structure EqE [DecidableEq α] (n : Nat) (f : α → D) : Prop where
  ok : ∀ (m : Nat) (a : α), n ≤ m → okN m (f a) = true
  eq : ∀ a b : α, D.eqv (f a) (f b) = decide (a = b)
theorem EqE.int : EqE 0 D.int := ⟨fun _ _ _ => okN_i, fun _ _ => eqv_i⟩
theorem EqE.str : EqE 0 D.str := ⟨fun _ _ _ => okN_s, fun _ _ => eqv_s⟩
theorem EqE.bl : EqE 0 D.bl := ⟨fun _ _ _ => okN_b, fun a b => by cases a <;> cases b <;> simp [D.eqv]⟩
theorem EqE.non : EqE 0 eN := ⟨fun _ _ _ => okN_n, fun a b => by simp [eN, D.eqv]⟩
theorem EqE.list {n : Nat} [DecidableEq α] {f : α → D} (h : EqE n f) : EqE (n + 1) (eL f) := by
  refine ⟨fun m xs hm => ?_, fun xs ys => ?_⟩
  · obtain ⟨k, rfl⟩ : ∃ k, m = k + 1 := ⟨m - 1, by omega⟩
    simp only [eL, okN, List.all_map, List.all_eq_true]
    intro x _
    exact h.ok k x (by omega)
  · simp only [eL, D.eqv]
    induction xs generalizing ys with
    | nil => cases ys <;> simp [eqvL]
    | cons a r ih => cases ys with
      | nil => simp [eqvL]
      | cons b s => simp [eqvL, h.eq, ih, Bool.decide_and]
theorem EqE.tups {n : Nat} [DecidableEq α] {f : α → D} (h : EqE n f) : EqE (n + 1) (eT f) := by
  refine ⟨fun m xs hm => ?_, fun xs ys => ?_⟩
  · obtain ⟨k, rfl⟩ : ∃ k, m = k + 1 := ⟨m - 1, by omega⟩
    simp only [eT, okN, List.all_map, List.all_eq_true]
    intro x _
    exact h.ok k x (by omega)
  · have := (EqE.list h).eq xs ys
    simp only [eL, D.eqv] at this
    simp only [eT, D.eqv, this]
section
variable {κ : Type} [DecidableEq κ] [KeyD κ] {f : α → D} {ma mb : M D} {k : κ} {l : List (κ × α)}
/-- what stands at a key -/
def at_ [Inhabited α] (l : List (κ × α)) (k : κ) : α := (lk l k).getD default
end
/-! ### tests -/
/-! ### lists of values -/
section
variable {m mi : M D} {f : α → D} {xs : List α}
/-- the item at a place -/
def ix [Inhabited α] (xs : List α) (i : Int) : α := (L2.atI xs i).getD default
end
end
end Ev
set_option autoImplicit true
set_option maxRecDepth 100000
set_option maxHeartbeats 4000000
/-! typed readings: lists, dicts, comprehensions -/
namespace Ev
open PySem PySem.Spec PyProof.Rows L2
section
variable {α β γ : Type} {env : Env} {st : Sto} {m mi : M D} {f : α → D} {xs : List α}
/-! ### things walked -/
/-- by steps of c -/
def steps (i j c : Int) : List Int := (List.range (Builtin.Range.rangeSize i j c).toNat).map fun k : Nat => i + (k : Int) * c
/-! ### comprehensions -/
/-! ### slices, sums, sorted -/
/-- a part of a list -/
def cut (xs : List α) (lo hi : Option Int) : List α := (xs.drop (HT.sIx xs.length 0 lo)).take (HT.sIx xs.length xs.length hi - HT.sIx xs.length 0 lo)
theorem encD_s (x : Str) : encD (.str x) = .str x := by rw [encD]
/-! ### put together -/
/-! ### fields -/
end
end Ev
set_option autoImplicit true
set_option maxRecDepth 100000
set_option maxHeartbeats 4000000
/-! typed readings: statements -/
namespace Ev
open PySem PySem.Spec PyProof.Rows L2
end Ev
set_option autoImplicit true
set_option maxRecDepth 100000
set_option maxHeartbeats 4000000
/-! typed readings: the rest of the rules -/
namespace Ev
open PySem PySem.Spec PyProof.Rows L2
/-- two lists, item by item -/
inductive All2 {α β : Type} (I : α → β → Prop) : List α → List β → Prop
  | nil : All2 I [] []
  | cons {x : α} {y : β} {xs : List α} {ys : List β} : I x y → All2 I xs ys → All2 I (x :: xs) (y :: ys)
section
variable {α β γ δ : Type} {env : Env} {st : Sto} {P : β → Sto → Prop} {E : Exn → Sto → Prop} {m mi ma mb : M D} {f : α → D} {xs : List α}
/-- texts in order -/
def ltS (x y : Str) : Bool := decide (x.cps.toList < y.cps.toList)
/-- so many times -/
def rep (xs : List α) (k : Int) : List α := (List.replicate k.toNat xs).flatten
/-! ### comprehensions with effects -/
/-! ### statements -/
variable {N B C : Env → Sto → Prop} {R : D → Sto → Prop} {X : Exn → Sto → Prop} {a b : Sm}
end
/-! ### the same, with a name for what is new -/
end Ev
set_option autoImplicit true
set_option maxRecDepth 100000
set_option maxHeartbeats 4000000
/-! typed readings: contents taken as of a kind; in, over contents; min by a key -/
namespace Ev
open PySem PySem.Spec PyProof.Rows L2
def ltE {β : Type} (g : β → D) (x y : β) : Bool := PySem.W.dataLt (encD (g x)) (encD (g y))
end Ev
set_option autoImplicit true
set_option maxRecDepth 100000
set_option maxHeartbeats 4000000
/-! typed readings: sorted by a key -/
namespace Ev
open PySem PySem.Spec PyProof.Rows L2
end Ev
set_option autoImplicit true
set_option maxRecDepth 100000
set_option maxHeartbeats 4000000
/-! typed readings: lists removed from, added at, unpacked -/
namespace Ev
open PySem PySem.Spec PyProof.Rows L2
end Ev
set_option autoImplicit true
set_option maxRecDepth 100000
set_option maxHeartbeats 4000000
/-! typed readings: dicts lent and given away -/
namespace Ev
open PySem PySem.Spec PyProof.Rows L2
end Ev
set_option autoImplicit true
set_option maxRecDepth 100000
set_option maxHeartbeats 4000000
/-! typed readings: generators over lent dicts, least by a key over a list, a put whose value rolls -/
namespace Ev
open PySem PySem.Spec PyProof.Rows L2
end Ev
set_option autoImplicit true
set_option maxRecDepth 100000
set_option maxHeartbeats 4000000
/-! typed: pops, loops over dicts, in range -/
namespace Ev
open PySem PySem.Spec PyProof.Rows L2
end Ev
set_option autoImplicit true
set_option maxRecDepth 100000
set_option maxHeartbeats 4000000
/-! typed: texts as lists of signs -/
namespace Ev
open PySem PySem.Spec PyProof.Rows L2
end Ev
set_option autoImplicit true
set_option maxRecDepth 100000
set_option maxHeartbeats 4000000
/-! typed: written tuples cut and joined -/
namespace Ev
open PySem PySem.Spec PyProof.Rows L2
/-! contents of any kind taken as a dict, as a list -/
end Ev
set_option autoImplicit true
set_option maxRecDepth 100000
set_option maxHeartbeats 4000000
/-! a dict and a text compared, typed -/
namespace Ev
open PySem PySem.Spec PyProof.Rows
/-! the typed law -/
def eq3B (x y : D) : Bool := match dEq3 x y with
  | some (.bl b) => b
  | _ => false
def eq3Ok (x y : D) : Prop := ∃ b, dEq3 x y = some (.bl b)
section
variable {ma mb : M D} {env : Env} {st : Sto}
@[simp] theorem eq3Ok_ds {x : List (D × D)} {b : Str} : eq3Ok (.dct (false, x)) (.str b) := ⟨_, rfl⟩
@[simp] theorem eq3B_ds {x : List (D × D)} {b : Str} : eq3B (.dct (false, x)) (.str b) = false := rfl
@[simp] theorem eq3Ok_ss {a b : Str} : eq3Ok (.str a) (.str b) := by
  obtain ⟨k, e⟩ : ∃ k, dEq (.str a) (.str b) = some (.bl k) := by unfold dEq; exact ⟨_, rfl⟩
  exact ⟨k, by rw [← e]; rfl⟩
end
end Ev
set_option autoImplicit true
set_option maxRecDepth 100000
set_option maxHeartbeats 4000000
/-! a slot's own list of own lists, typed -/
namespace Ev
open PySem PySem.Spec PyProof.Rows L2
end Ev
set_option autoImplicit true
set_option maxRecDepth 100000
set_option maxHeartbeats 4000000
/-! typed: x in d.values(), t = xs.pop() -/
namespace Ev
open PySem PySem.Spec PyProof.Rows L2
end Ev
set_option autoImplicit true
set_option maxRecDepth 100000
set_option maxHeartbeats 4000000
/-! typed readings: dicts whose keys are tuples -/
namespace Ev
open PySem PySem.Spec PyProof.Rows L2
/-- a tuple key's content -/
class KeyT (κ : Type) where
  d : κ → D
  ks : κ → List D
  e : ∀ a, d a = .tup (ks a)
  eqv : ∀ a b : κ, D.eqv (d a) (d b) = true ↔ a = b
  ok : ∀ a, (dKeys? (ks a)).isSome = true
theorem dKeys_of {α : Type} [DecidableEq α] [KeyD α] (a : α) {r : List D} (h : (dKeys? r).isSome = true) : (dKeys? (KeyD.d a :: r)).isSome = true := by
  obtain ⟨q, e⟩ := dKey_d a
  obtain ⟨z, ez⟩ := Option.isSome_iff_exists.mp h
  unfold dKeys?
  rw [e, ez]
  rfl
instance {α β : Type} [DecidableEq α] [DecidableEq β] [KeyD α] [KeyD β] : KeyT (α × β) where
  d := eO2 KeyD.d KeyD.d
  ks p := [KeyD.d p.1, KeyD.d p.2]
  e _ := rfl
  eqv a b := by
    simp [D.eqv, eqvL, keq, Prod.ext_iff]
  ok a := dKeys_of a.1 (dKeys_of a.2 rfl)
section
variable {κ α : Type} [DecidableEq κ] [KeyT κ] (f : α → D)
def tbT (l : List (κ × α)) : List (D × D) := l.map fun p => (KeyT.d p.1, f p.2)
@[simp] theorem tbT_nil : tbT f ([] : List (κ × α)) = [] := rfl
@[simp] theorem tbT_len (l : List (κ × α)) : (tbT f l).length = l.length := by simp [tbT]
theorem keqT (a b : κ) : D.eqv (KeyT.d a) (KeyT.d b) = decide (a = b) := by
  by_cases h : a = b
  · rw [(KeyT.eqv a b).mpr h]; simp [h]
  · have : D.eqv (KeyT.d a) (KeyT.d b) ≠ true := fun z => h ((KeyT.eqv a b).mp z)
    simp [h, this]
@[simp] theorem tbT_look (l : List (κ × α)) (k : κ) : dLook (tbT f l) (KeyT.d k) = (lk l k).map f := by
  unfold dLook tbT lk
  rw [List.find?_map]
  simp only [Function.comp_def, keqT]
  cases l.find? fun p => decide (p.1 = k) <;> rfl
@[simp] theorem tbT_put (l : List (κ × α)) (k : κ) (a : α) : dPut (tbT f l) (KeyT.d k) (f a) = tbT f (pt l k a) := by
  unfold dPut pt tbT
  rw [List.any_map]
  simp only [Function.comp_def, keqT]
  split
  · rw [List.map_map, List.map_map]
    apply List.map_congr_left
    intro p _
    by_cases h : p.1 = k <;> simp [h, keqT]
  · simp
@[simp] theorem tbT_drop (l : List (κ × α)) (k : κ) : dDrop (tbT f l) (KeyT.d k) = tbT f (dr l k) := by
  unfold dDrop dr tbT
  rw [List.filter_map]
  simp only [Function.comp_def, keqT]
end
end Ev
set_option autoImplicit true
set_option maxRecDepth 100000
set_option maxHeartbeats 4000000
/-! typed readings: contents and a new dict given back as a tuple -/
namespace Ev
open PySem PySem.Spec PyProof.Rows L2
end Ev
set_option autoImplicit true
set_option maxRecDepth 100000
set_option maxHeartbeats 4000000
/-! typed readings: parts of texts, texts in texts, texts repeated, made longer; tuple(range(a, b, c)) -/
namespace Ev
open PySem PySem.Spec PyProof.Rows L2
/-! ### signs -/
end Ev
set_option autoImplicit true
set_option maxRecDepth 100000
set_option maxHeartbeats 4000000
/-! typed readings: lists unpacked that are reckoned with effects, texts stripped -/
namespace Ev
open PySem PySem.Spec PyProof.Rows L2
end Ev
set_option autoImplicit true
set_option maxRecDepth 100000
set_option maxHeartbeats 4000000
/-! typed readings: dicts keyed by pairs, walked, sorted, dropped, of a field; texts replaced -/
namespace Ev
open PySem PySem.Spec PyProof.Rows L2
end Ev
set_option autoImplicit true
set_option maxRecDepth 100000
set_option maxHeartbeats 4000000
/-! plain facts for the typed readings -/
namespace Ev
open PySem PySem.Spec PyProof.Rows L2
end Ev
namespace Ev
open PySem PySem.Spec PyProof.Rows L2
end Ev
namespace Ev
open PySem PySem.Spec PyProof.Rows L2
end Ev
namespace Ev
open PySem PySem.Spec PyProof.Rows L2
/-! ### told and compared -/
end Ev
namespace Ev
open PySem PySem.Spec PyProof.Rows L2
/-! ### pairs of a text and a number, sorted -/
end Ev
set_option autoImplicit true
set_option maxRecDepth 100000
set_option maxHeartbeats 4000000
/-! plain facts: orders of contents, sorts and least ones -/
namespace Ev
open PySem PySem.Spec PyProof.Rows L2
section
variable {α β γ κ : Type}
/-- kinds of contents that are ordered -/
structure OrdE [DecidableEq α] (n : Nat) (f : α → D) : Prop where
  data : ∀ a, isData (f a) = true
  alike : ∀ a b, PySem.W.alike (encD (f a)) (encD (f b)) = true
  depth : ∀ a, (encD (f a)).depth ≤ n
  eqv : ∀ a b, PyData.eqv (encD (f a)) (encD (f b)) = decide (a = b)
  inj : ∀ a b, ltE f a b = false → ltE f b a = false → a = b
theorem ltE_i (a b : Int) : ltE D.int a b = decide (a < b) := by
  unfold ltE; rw [encD_i, encD_i]; exact PySem.W.dataLt_int a b
theorem ltE_s (a b : Str) : ltE D.str a b = ltS a b := by
  unfold ltE; rw [encD_s, encD_s]; exact PySem.W.dataLt_str a b
theorem OrdE.int : OrdE 0 D.int where
  data _ := by simp [isData]
  alike _ _ := by rw [encD_i, encD_i]; simp [PySem.W.alike]
  depth _ := by rw [encD_i]; simp [PyData.depth]
  eqv a b := by rw [encD_i, encD_i]; simp [PyData.eqv, Bool.beq_eq_decide_eq]
  inj a b h1 h2 := by
    rw [ltE_i] at h1 h2
    simp only [decide_eq_false_iff_not] at h1 h2
    omega
theorem str_ext {a b : Str} (h : a.cps.toList = b.cps.toList) : a = b := by
  cases a; cases b
  congr 1
  exact Array.toList_inj.mp h
theorem OrdE.str : OrdE 0 D.str where
  data _ := by simp [isData]
  alike _ _ := by rw [encD_s, encD_s]; simp [PySem.W.alike]
  depth _ := by rw [encD_s]; simp [PyData.depth]
  eqv a b := by rw [encD_s, encD_s]; simp [PyData.eqv, Bool.beq_eq_decide_eq]
  inj a b h1 h2 := by
    rw [ltE_s] at h1 h2
    unfold ltS at h1 h2
    simp only [decide_eq_false_iff_not] at h1 h2
    exact str_ext (List.le_antisymm (List.not_lt.mp h2) (List.not_lt.mp h1))
section
variable [DecidableEq α] [DecidableEq β] {f : α → D} {g : β → D} {n m : Nat}
theorem OrdE.mono (E : OrdE n f) (h : n ≤ m) : OrdE m f := ⟨E.data, E.alike, fun a => Nat.le_trans (E.depth a) h, E.eqv, E.inj⟩
end
/-! ### what may be sorted -/
section
variable [DecidableEq α] {f : α → D} {n : Nat}
def tupNE : D → Bool
  | .tup (_ :: _) => true
  | _ => false
def nonTup : D → Bool
  | .tup _ => false
  | _ => true
def Shp (f : α → D) : Prop := (∀ a, tupNE (f a) = true) ∨ ∀ a, nonTup (f a) = true
end
theorem Shp.int : Shp D.int := .inr fun _ => rfl
theorem Shp.str : Shp D.str := .inr fun _ => rfl
/-! ### sorted ones are the same -/
end
/-! ### sums, small products -/
end Ev
namespace Ev
open PySem PySem.Spec PyProof.Rows L2
section
variable {κ α β : Type} [DecidableEq κ]
/-- a dict changed at some keys: changed or dropped -/
def upd (h : κ → α → Option α) (S : List κ) (l : List (κ × α)) : List (κ × α) := l.filterMap fun p => if p.1 ∈ S then (h p.1 p.2).map fun v => (p.1, v) else some p
end
end Ev
namespace Ev
open PySem PySem.Spec PyProof.Rows L2
theorem All2.length {α β : Type} {I : α → β → Prop} {xs : List α} {ys : List β} (h : All2 I xs ys) : xs.length = ys.length := by
  induction h with
  | nil => rfl
  | cons _ _ ih => simp [ih]
end Ev
set_option autoImplicit true
set_option maxRecDepth 100000
set_option maxHeartbeats 4000000
/-! plain facts: walks that look for a first one, dicts compared, falling lists -/
namespace Ev
open PySem PySem.Spec PyProof.Rows L2
/-! ### falling lists -/
end Ev
set_option autoImplicit true
set_option maxRecDepth 100000
set_option maxHeartbeats 4000000
/-! plain: orders of triples, ranges by steps, sums by threes -/
namespace Ev
open PySem PySem.Spec PyProof.Rows L2
/-! ### ranges by steps -/
/-! ### sums by threes -/
def s3 : List Int → Int
  | [] => 0
  | [a] => a
  | [a, b] => a + b
  | a :: b :: _ :: r => a + b + s3 r
end Ev
set_option autoImplicit true
set_option maxRecDepth 100000
set_option maxHeartbeats 4000000
/-! plain lemmas: dicts put and dropped, triples in order -/
namespace Ev
open PySem PySem.Spec PyProof.Rows L2
end Ev
set_option autoImplicit true
set_option maxRecDepth 100000
set_option maxHeartbeats 4000000
/-! plain lemmas: texts as lists of signs -/
namespace Ev
open PySem PySem.Spec PyProof.Rows L2
end Ev
set_option autoImplicit true
set_option maxRecDepth 100000
set_option maxHeartbeats 4000000
/-! typed: texts by enumerate, zip, reversed; reversed(tuple) -/
namespace Ev
open PySem PySem.Spec PyProof.Rows L2
end Ev
set_option autoImplicit true
set_option maxRecDepth 100000
set_option maxHeartbeats 4000000
/-! typed: for with a return over a locked field, try, for over a lent dict, quiet calls -/
namespace Ev
open PySem PySem.Spec PyProof.Rows L2
end Ev
set_option autoImplicit true
set_option maxRecDepth 100000
set_option maxHeartbeats 4000000
/-! typed: plain tuples; min of four; sorted and max by a key -/
namespace Ev
open PySem PySem.Spec PyProof.Rows L2
section
variable {α β γ δ : Type} {f : α → D} {env : Env} {st : Sto} {m ma mb : M D}
def eP (f : α → D) (xs : List α) : D := .ptp (xs.map f)
structure EqE2 {α : Type} [DecidableEq α] (n : Nat) (f g : α → D) : Prop where
  okl : ∀ (m : Nat) (a : α), n ≤ m → okN m (f a) = true
  okr : ∀ (m : Nat) (a : α), n ≤ m → okN m (g a) = true
  eq : ∀ a b : α, D.eqv (f a) (g b) = decide (a = b)
theorem EqE2.of {n : Nat} [DecidableEq α] (h : EqE n f) : EqE2 n f f := ⟨h.ok, h.ok, h.eq⟩
theorem ok_eP {n : Nat} [DecidableEq α] (h : EqE n f) (m : Nat) (a : List α) (hm : n + 1 ≤ m) : okN m (eP f a) = true := by
  obtain ⟨k, rfl⟩ : ∃ k, m = k + 1 := ⟨m - 1, by omega⟩
  simp only [eP, okN, List.all_map, List.all_eq_true]
  intro x _
  exact h.ok k x (by omega)
theorem EqE2.pt {n : Nat} [DecidableEq α] (h : EqE n f) : EqE2 (n + 1) (eP f) (eT f) := ⟨ok_eP h, h.tups.ok, fun a b => (show D.eqv (.ptp _) (.tup _) = _ by rw [eqv_pt]; exact h.tups.eq a b)⟩
theorem EqE2.list {n : Nat} [DecidableEq α] {g : α → D} (h : EqE2 n f g) : EqE2 (n + 1) (eL f) (eL g) := by
  refine ⟨fun m xs hm => ?_, fun m xs hm => ?_, fun xs ys => ?_⟩
  · obtain ⟨k, rfl⟩ : ∃ k, m = k + 1 := ⟨m - 1, by omega⟩
    simp only [eL, okN, List.all_map, List.all_eq_true]
    intro x _
    exact h.okl k x (by omega)
  · obtain ⟨k, rfl⟩ : ∃ k, m = k + 1 := ⟨m - 1, by omega⟩
    simp only [eL, okN, List.all_map, List.all_eq_true]
    intro x _
    exact h.okr k x (by omega)
  · simp only [eL, D.eqv]
    induction xs generalizing ys with
    | nil => cases ys <;> simp [eqvL]
    | cons a r ih => cases ys with
      | nil => simp [eqvL]
      | cons b q => simp [eqvL, h.eq, ih]
theorem EqE2.tups {n : Nat} [DecidableEq α] {g : α → D} (h : EqE2 n f g) : EqE2 (n + 1) (eT f) (eT g) := by
  refine ⟨fun m xs hm => ?_, fun m xs hm => ?_, fun xs ys => ?_⟩
  · obtain ⟨k, rfl⟩ : ∃ k, m = k + 1 := ⟨m - 1, by omega⟩
    simp only [eT, okN, List.all_map, List.all_eq_true]
    intro x _
    exact h.okl k x (by omega)
  · obtain ⟨k, rfl⟩ : ∃ k, m = k + 1 := ⟨m - 1, by omega⟩
    simp only [eT, okN, List.all_map, List.all_eq_true]
    intro x _
    exact h.okr k x (by omega)
  · have := h.list.eq xs ys
    simp only [eL, D.eqv] at this
    simp only [eT, D.eqv, this]
end
end Ev
set_option autoImplicit true
set_option maxRecDepth 100000
set_option maxHeartbeats 4000000
/-! typed: plain tuples read, sliced, index; loops that change own slots alone -/
namespace Ev
open PySem PySem.Spec PyProof.Rows L2
end Ev
set_option maxRecDepth 100000
set_option maxHeartbeats 4000000
set_option autoImplicit false
namespace K24
open PySem PySem.Spec PyProof.Rows L2 Ev
noncomputable section
def top (i : Nat) : Stmt := PySem.Challenge.pw_shoehall_k24_refusals_apart.main.body.getD i (.Pass ⟨0, 0, 0, 0⟩)
def mtd (i j : Nat) : Stmt := match top i with
  | .ClassDef _ _ _ body _ _ _ _ _ _ _ => body.getD j (.Pass ⟨0, 0, 0, 0⟩)
  | _ => .Pass ⟨0, 0, 0, 0⟩
def ws : List (Str × Str) := []
def below : List (Str × Str) := []
def ts (x y : Str) : Bool := below.contains (x, y)
def unN : List Str := ["BadDeed", "BadPlan", "BadShoe", "BadSize", "BadText", "NoRoom", "NoSuch", "NoWay", "ValueError"]
def exN : List Str := ["ShoeFault", "BadShoe", "BadPlan", "BadSize", "NoSuch", "NoRoom", "NoWay", "BadText", "BadDeed"]
def unB : List (Str × Str) := [("ShoeFault", "ValueError"), ("BadShoe", "BadShoe"), ("BadShoe", "ValueError"), ("BadPlan", "BadPlan"), ("BadPlan", "ValueError"), ("BadSize", "BadSize"), ("BadSize", "ValueError"), ("NoSuch", "NoSuch"), ("NoSuch", "ValueError"), ("NoRoom", "NoRoom"), ("NoRoom", "ValueError"), ("NoWay", "NoWay"), ("NoWay", "ValueError"), ("BadText", "BadText"), ("BadText", "ValueError"), ("BadDeed", "BadDeed"), ("BadDeed", "ValueError")]
def ans (y : Str) : Option (List Bool) := if exN.contains y then some (unN.map fun n => unB.contains (y, n)) else none
structure Facts (P : Program) (w : World) (K : PySem.W.Frag) (mg : Str → Option Value) (base : Heap) (T : List (Addr × Str)) : Prop where
  free_abs : mg "abs" = none
  free_any : mg "any" = none
  free_int : mg "int" = none
  free_len : mg "len" = none
  free_min : mg "min" = none
  free_range : mg "range" = none
  free_super : mg "super" = none
  g_crossed : mg "crossed" = some (.ref (He.fAd K ("crossed", none)))
  d_crossed : FunD K "crossed" "crossed" (defArgs (top 12)) (defBody (top 12)) (defScope (top 12)) [] [] (He.fAd K ("crossed", none)) (fdOf K (He.fAd K ("crossed", none)))
  g_lace_for : mg "lace_for" = some (.ref (He.fAd K ("lace_for", none)))
  d_lace_for : FunD K "lace_for" "lace_for" (defArgs (top 13)) (defBody (top 13)) (defScope (top 13)) [] [] (He.fAd K ("lace_for", none)) (fdOf K (He.fAd K ("lace_for", none)))
  d_Store___init__ : FunD K "__init__" "Store.__init__" (defArgs (mtd 15 0)) (defBody (mtd 15 0)) (defScope (mtd 15 0)) [] [] (He.fAd K ("Store", some "__init__")) (fdOf K (He.fAd K ("Store", some "__init__")))
  d_Desk___init__ : FunD K "__init__" "Desk.__init__" (defArgs (mtd 22 0)) (defBody (mtd 22 0)) (defScope (mtd 22 0)) [] [] (He.fAd K ("Desk", some "__init__")) (fdOf K (He.fAd K ("Desk", some "__init__")))
  d_Desk_redo : FunD K "redo" "Desk.redo" (defArgs (mtd 22 6)) (defBody (mtd 22 6)) (defScope (mtd 22 6)) [] [] (He.fAd K ("Desk", some "redo")) (fdOf K (He.fAd K ("Desk", some "redo")))
  d_Feet___init__ : FunD K "__init__" "Feet.__init__" (defArgs (mtd 24 0)) (defBody (mtd 24 0)) (defScope (mtd 24 0)) [] [] (He.fAd K ("Feet", some "__init__")) (fdOf K (He.fAd K ("Feet", some "__init__")))
  g__law_dice : mg "_law_dice" = some (.ref (He.fAd K ("_law_dice", none)))
  d__law_dice : FunD K "_law_dice" "_law_dice" (defArgs (top 26)) (defBody (top 26)) (defScope (top 26)) [] [] (He.fAd K ("_law_dice", none)) (fdOf K (He.fAd K ("_law_dice", none)))
  g__law_roll : mg "_law_roll" = some (.ref (He.fAd K ("_law_roll", none)))
  d__law_roll : FunD K "_law_roll" "_law_roll" (defArgs (top 27)) (defBody (top 27)) (defScope (top 27)) [] [] (He.fAd K ("_law_roll", none)) (fdOf K (He.fAd K ("_law_roll", none)))
  d_Store_put : FunD K "put" "Store.put" (defArgs (mtd 15 1)) (defBody (mtd 15 1)) (defScope (mtd 15 1)) [] [] (He.fAd K ("Store", some "put")) (fdOf K (He.fAd K ("Store", some "put")))
  g_read_row : mg "read_row" = some (.ref (He.fAd K ("read_row", none)))
  d_read_row : FunD K "read_row" "read_row" (defArgs (top 19)) (defBody (top 19)) (defScope (top 19)) [] [] (He.fAd K ("read_row", none)) (fdOf K (He.fAd K ("read_row", none)))
  g__law_rounds : mg "_law_rounds" = some (.ref (He.fAd K ("_law_rounds", none)))
  d__law_rounds : FunD K "_law_rounds" "_law_rounds" (defArgs (top 28)) (defBody (top 28)) (defScope (top 28)) [] [] (He.fAd K ("_law_rounds", none)) (fdOf K (He.fAd K ("_law_rounds", none)))
  g_law : mg "law" = some (.ref (He.fAd K ("law", none)))
  d_law : FunD K "law" "law" (defArgs (top 30)) (defBody (top 30)) (defScope (top 30)) [] [] (He.fAd K ("law", none)) (fdOf K (He.fAd K ("law", none)))
  gc_Store : mg "Store" = some (.ref (He.ga K "Store"))
  cl_Store : Cls K (He.ga K "Store")
  mk_Store : Mk K (He.ga K "Store") (He.fAd K ("Store", some "__init__"))
  gc_Desk : mg "Desk" = some (.ref (He.ga K "Desk"))
  cl_Desk : Cls K (He.ga K "Desk")
  mk_Desk : Mk K (He.ga K "Desk") (He.fAd K ("Desk", some "__init__"))
  mt_Desk_redo : Meth K (He.ga K "Desk") "redo" (He.fAd K ("Desk", some "redo"))
  gc_Feet : mg "Feet" = some (.ref (He.ga K "Feet"))
  cl_Feet : Cls K (He.ga K "Feet")
  mk_Feet : Mk K (He.ga K "Feet") (He.fAd K ("Feet", some "__init__"))
  mt_Store_put : Meth K (He.ga K "Store") "put" (He.fAd K ("Store", some "put"))
  a_Desk_deeds : Da K mg "Desk" "deeds"
  a_Desk_text : Da K mg "Desk" "text"
  a_Desk_undone : Da K mg "Desk" "undone"
  a_Store_high : Da K mg "Store" "high"
  a_Store_moved : Da K mg "Store" "moved"
  a_Store_stacks : Da K mg "Store" "stacks"
  e_BadDeed : De K mg "BadDeed"
  e_BadPlan : De K mg "BadPlan"
  e_BadShoe : De K mg "BadShoe"
  e_BadSize : De K mg "BadSize"
  e_NoRoom : De K mg "NoRoom"
  e_NoSuch : De K mg "NoSuch"
  e_NoWay : De K mg "NoWay"
  un : Tu K mg ans "_law_under" "what"
  x_BadText : Dx P K mg "BadText"
  lt_law : Lt base mg T (envOfC "law" (defScope (top 30)) 0 0 .none).qual (fdOf K (He.fAd K ("law", none))).code
  gt_Store_put : ∀ gp, Gt base mg T (envOfC "Store.put" (defScope (mtd 15 1)) 0 0 .none).qual (fdOf K (He.fAd K ("Store", some "put"))).code gp
section
variable {P : Program} {w : World} {K : PySem.W.Frag} {mg : Str → Option Value} {base : Heap} {T : List (Addr × Str)}
abbrev N_crossed : List Str := ["rows", "up", "down", "row"]
theorem sc_crossed : FnScope N_crossed ["rows"] (defScope (top 12)) := ⟨rfl, rfl, rfl, by decide +kernel, rfl, by decide +kernel, by decide +kernel⟩
def m_crossed : Sm := (sSeq (sIf (mTest (mBin (mVar 0) (mK (.int 1)) (pure2 (dOrd fLt)))) (sRaise "BadSize" mNil) sPass)
  (fun _ _ => .bad))
theorem fn_crossed (C : Facts P w K mg base T) : FnOk P w K mg base (L2.CX P w) 1 (He.fAd K ("crossed", none)) (fdOf K (He.fAd K ("crossed", none))) ["rows"] (spOf ⟨K, mg, T⟩ 1 (mFn 4 m_crossed)) :=
  fn_okD (N := N_crossed) (ps := ["rows"]) C.d_crossed sc_crossed fun A outer s H E hr =>
  (ssv_cons (sv_if (tv_lt (ev_var 0) ev_int) (ssv_one (sv_rs C.e_BadSize (takes_of rfl rfl rfl rfl))) ssv_nil)
  ssv_never)
theorem ok_crossed (C : Facts P w K mg base T) : Df P w K mg base T "crossed" 1 1 (mFn 4 m_crossed) :=
  ⟨_, _, ["rows"], C.g_crossed, C.d_crossed.kp, C.d_crossed.bindsN (fun _ _ _ _ _ _ us hl => match us, hl with | [_], _ => rfl), fn_crossed C⟩
abbrev N_lace_for : List Str := ["lengths", "need", "good", "long"]
theorem sc_lace_for : FnScope N_lace_for ["lengths", "need"] (defScope (top 13)) := ⟨rfl, rfl, rfl, by decide +kernel, rfl, by decide +kernel, by decide +kernel⟩
def m_lace_for : Sm := (sSeq (sSet 2 (mUn (mComp (mItems (mVar 0)) [3] (gvN 3) (mTest (mBin (mVar 3) (mVar 1) (pure2 (dOrd fGe)))) (mVar 3)) fun ds st => .ok (.lst ds) st))
  (sSeq (sIf (mTest (mBin (mVar 2) (mUn (mSmall mNil) fun ds st => .ok (.lst ds) st) (pure2 dEq))) (sRaise "NoWay" mNil) sPass)
  (fun _ _ => .bad)))
theorem fn_lace_for (C : Facts P w K mg base T) : FnOk P w K mg base (L2.CX P w) 1 (He.fAd K ("lace_for", none)) (fdOf K (He.fAd K ("lace_for", none))) ["lengths", "need"] (spOf ⟨K, mg, T⟩ 2 (mFn 4 m_lace_for)) :=
  fn_okD (N := N_lace_for) (ps := ["lengths", "need"]) C.d_lace_for sc_lace_for fun A outer s H E hr =>
  (ssv_cons (sv_setComp 2 (by rfl) sc_lace_for.nd (iv_seq (ev_var 0)) (blkOk_by (own := [("long", 3)]) (by rfl)) (fun _ _ _ _ _ => (gv_name 3 sc_lace_for.nd)) (fun _ _ _ _ _ => (tsv_one (tv_ge (ev_var 3) (ev_var 1)))) (fun _ _ _ _ _ => (ev_var 3)) (by rfl))
  (ssv_cons (sv_if (tv_eq hr.units (ev_var 2) (ev_frz (nv_lst av_nil))) (ssv_one (sv_rs C.e_NoWay (takes_of rfl rfl rfl rfl))) ssv_nil)
  ssv_never))
theorem ok_lace_for (C : Facts P w K mg base T) : Df P w K mg base T "lace_for" 1 2 (mFn 4 m_lace_for) :=
  ⟨_, _, ["lengths", "need"], C.g_lace_for, C.d_lace_for.kp, C.d_lace_for.bindsN (fun _ _ _ _ _ _ us hl => match us, hl with | [_, _], _ => rfl), fn_lace_for C⟩
abbrev N_Store___init__ : List Str := ["self", "stacks", "high"]
theorem sc_Store___init__ : FnScope N_Store___init__ ["self", "stacks", "high"] (defScope (mtd 15 0)) := ⟨rfl, rfl, rfl, by decide +kernel, rfl, by decide +kernel, by decide +kernel⟩
def m_Store___init__ : Sm := (sSeq (sIf (mTest (mBin (mUn (mCons (mVar 1) (mCons (mVar 2) mNil)) fMin2) (mK (.int 1)) (pure2 (dOrd fLt)))) (sRaise "BadPlan" mNil) sPass)
  (sSeq (sFldSet "Store" "high" (mVar 0) (mVar 2))
  (sSeq (sFldOwn "Store" "stacks" (mVar 0) (mBin (mUn (mSmall (mCons (mTupP mNil) mNil)) fun ds st => .ok (.lst ds) st) (mVar 1) fRepI))
  (sFldSet "Store" "moved" (mVar 0) (mK (.int 0))))))
theorem fn_Store___init__ (C : Facts P w K mg base T) : FnOk P w K mg base (L2.CX P w) 1 (He.fAd K ("Store", some "__init__")) (fdOf K (He.fAd K ("Store", some "__init__"))) ["self", "stacks", "high"] (spOf ⟨K, mg, T⟩ 3 (mFn 3 m_Store___init__)) :=
  fn_okD (N := N_Store___init__) (ps := ["self", "stacks", "high"]) C.d_Store___init__ sc_Store___init__ fun A outer s H E hr =>
  (ssv_cons (sv_if (tv_lt (ev_min2 (by rfl) (by rfl) C.free_min (av_cons (ev_var 1) (av_cons (ev_var 2) av_nil))) ev_int) (ssv_one (sv_rs C.e_BadPlan (takes_of rfl rfl rfl rfl))) ssv_nil)
  (ssv_cons (sv_a "Store" C.a_Store_high (ev_var 0) (ev_var 2))
  (ssv_cons (sv_ao "Store" C.a_Store_stacks (ev_var 0) (nv_repI (ev_frz (nv_lst (av_cons (ev_tupP av_nil) av_nil))) (ev_var 1)))
  (ssv_one (sv_a "Store" C.a_Store_moved (ev_var 0) ev_int)))))
theorem ok_Store___init__ (C : Facts P w K mg base T) : Dk P w K mg base T "Store" 1 3 (mFn 3 m_Store___init__) :=
  ⟨_, _, _, ["self", "stacks", "high"], C.gc_Store, C.mk_Store, C.d_Store___init__.bindsN (fun _ _ _ _ _ _ us hl => match us, hl with | [_, _, _], _ => rfl), fn_Store___init__ C⟩
abbrev N_Desk___init__ : List Str := ["self"]
theorem sc_Desk___init__ : FnScope N_Desk___init__ ["self"] (defScope (mtd 22 0)) := ⟨rfl, rfl, rfl, by decide +kernel, rfl, by decide +kernel, by decide +kernel⟩
def m_Desk___init__ : Sm := (sSeq (sFldSet "Desk" "text" (mVar 0) (mK (.str "1 boot made 8\n2 boot sold 3\n2 clog made 4\n3 boot spoilt 2")))
  (sSeq (sFldOwn "Desk" "deeds" (mVar 0) (mSmall mNil))
  (sFldOwn "Desk" "undone" (mVar 0) (mSmall mNil))))
theorem fn_Desk___init__ (C : Facts P w K mg base T) : FnOk P w K mg base (L2.CX P w) 1 (He.fAd K ("Desk", some "__init__")) (fdOf K (He.fAd K ("Desk", some "__init__"))) ["self"] (spOf ⟨K, mg, T⟩ 1 (mFn 1 m_Desk___init__)) :=
  fn_okD (N := N_Desk___init__) (ps := ["self"]) C.d_Desk___init__ sc_Desk___init__ fun A outer s H E hr =>
  (ssv_cons (sv_a "Desk" C.a_Desk_text (ev_var 0) ev_str)
  (ssv_cons (sv_ao "Desk" C.a_Desk_deeds (ev_var 0) (nv_lst av_nil))
  (ssv_one (sv_ao "Desk" C.a_Desk_undone (ev_var 0) (nv_lst av_nil)))))
theorem ok_Desk___init__ (C : Facts P w K mg base T) : Dk P w K mg base T "Desk" 1 1 (mFn 1 m_Desk___init__) :=
  ⟨_, _, _, ["self"], C.gc_Desk, C.mk_Desk, C.d_Desk___init__.bindsN (fun _ _ _ _ _ _ us hl => match us, hl with | [_], _ => rfl), fn_Desk___init__ C⟩
abbrev N_Desk_redo : List Str := ["self", "deed"]
theorem sc_Desk_redo : FnScope N_Desk_redo ["self"] (defScope (mtd 22 6)) := ⟨rfl, rfl, rfl, by decide +kernel, rfl, by decide +kernel, by decide +kernel⟩
def m_Desk_redo : Sm := (sSeq (sIf (mTest (mBin (mFldC "Desk" "undone" (mVar 0)) (mUn (mSmall mNil) fun ds st => .ok (.lst ds) st) (pure2 dEq))) (sRaise "BadDeed" mNil) sPass)
  (fun _ _ => .bad))
theorem fn_Desk_redo (C : Facts P w K mg base T) : FnOk P w K mg base (L2.CX P w) 1 (He.fAd K ("Desk", some "redo")) (fdOf K (He.fAd K ("Desk", some "redo"))) ["self"] (spOf ⟨K, mg, T⟩ 1 (mFn 2 m_Desk_redo)) :=
  fn_okD (N := N_Desk_redo) (ps := ["self"]) C.d_Desk_redo sc_Desk_redo fun A outer s H E hr =>
  (ssv_cons (sv_if (tv_eq hr.units (cv_a "Desk" C.a_Desk_undone (ev_var 0)) (ev_frz (nv_lst av_nil))) (ssv_one (sv_rs C.e_BadDeed (takes_of rfl rfl rfl rfl))) ssv_nil)
  ssv_never)
theorem ok_Desk_redo (C : Facts P w K mg base T) : Dm P w K mg base T "Desk" "redo" 1 1 (mFn 2 m_Desk_redo) :=
  ⟨_, _, _, ["self"], C.gc_Desk, C.cl_Desk, C.mt_Desk_redo, C.d_Desk_redo.bindsN (fun _ _ _ _ _ _ us hl => match us, hl with | [_], _ => rfl), fn_Desk_redo C⟩
abbrev N_Feet___init__ : List Str := ["self", "left", "right", "long", "wide"]
theorem sc_Feet___init__ : FnScope N_Feet___init__ ["self", "left", "right"] (defScope (mtd 24 0)) := ⟨rfl, rfl, rfl, by decide +kernel, rfl, by decide +kernel, by decide +kernel⟩
def m_Feet___init__ : Sm := (sSeq (sFor (mItems (mTup (mCons (mVar 1) (mCons (mVar 2) mNil)))) (gvT (gvCons (gvN 3) (gvCons (gvN 4) gvNil))) (sIf (mOr (mTest (mBin (mVar 3) (mK (.int 1)) (pure2 (dOrd fLt)))) (mNot (mTest (mChain (mK (.int 1)) (mVar 4) (mVar 3) (dOrd (ordOf .LtE)) (dOrd (ordOf .LtE)))))) (sRaise "BadShoe" mNil) sPass))
  (fun _ _ => .bad))
theorem fn_Feet___init__ (C : Facts P w K mg base T) : FnOk P w K mg base (L2.CX P w) 1 (He.fAd K ("Feet", some "__init__")) (fdOf K (He.fAd K ("Feet", some "__init__"))) ["self", "left", "right"] (spOf ⟨K, mg, T⟩ 3 (mFn 5 m_Feet___init__)) :=
  fn_okD (N := N_Feet___init__) (ps := ["self", "left", "right"]) C.d_Feet___init__ sc_Feet___init__ fun A outer s H E hr =>
  (ssv_cons (sv_for (passes_of rfl) (by rfl) (iv_seq (ev_tup (av_cons (ev_var 1) (av_cons (ev_var 2) av_nil)))) (gv_tup (by rfl) (gsv_cons (gv_name 3 sc_Feet___init__.nd) (gsv_cons (gv_name 4 sc_Feet___init__.nd) gsv_nil)) (gvl_cons (gvl_cons gvl_nil))) (ssv_one (sv_if (TW.tv (tw_or (tv_lt (ev_var 3) ev_int) (tw_or1 (tv_not (tv_chain (.inr (.inl rfl)) (.inr (.inl rfl)) ev_int (ev_var 4) (ev_var 3)))))) (ssv_one (sv_rs C.e_BadShoe (takes_of rfl rfl rfl rfl))) ssv_nil)))
  ssv_never)
theorem ok_Feet___init__ (C : Facts P w K mg base T) : Dk P w K mg base T "Feet" 1 3 (mFn 5 m_Feet___init__) :=
  ⟨_, _, _, ["self", "left", "right"], C.gc_Feet, C.mk_Feet, C.d_Feet___init__.bindsN (fun _ _ _ _ _ _ us hl => match us, hl with | [_, _, _], _ => rfl), fn_Feet___init__ C⟩
abbrev N__law_dice : List Str := ["cell"]
theorem sc__law_dice : FnScope N__law_dice ["cell"] (defScope (top 26)) := ⟨rfl, rfl, rfl, by decide +kernel, rfl, by decide +kernel, by decide +kernel⟩
def m__law_dice : Sm := (sSeq (sIf (mTest (mChain (mBin (mK (.int 0)) (mK (.int 10)) (pure2 dSub)) (mVar 0) (mK (.int 10)) (dOrd (ordOf .Lt)) (dOrd (ordOf .Lt)))) (sRet (mStore (mCons (mUn (mVar 0) fun d st => Res.of (dAbs d st) st) (mCons (mK (.int 0)) (mCons (mK (.int 2)) mNil))))) sPass)
  (sRet (mStore (mCons (mVar 0) (mCons (mBin (mK (.int 1)) (mBin (mUn (mVar 0) fun d st => Res.of (dInt d st) st) (mK (.int 1009)) (pure2 dMod)) (pure2 dAdd)) (mCons (mUn (mBin (mVar 0) (mBin (mK (.int 10)) (mK (.int 18)) (pure2 dPow)) (pure2 (dOrd fGe))) fun d st => Res.of (dInt d st) st) mNil))))))
theorem fn__law_dice (C : Facts P w K mg base T) : FnOk P w K mg base (L2.CX P w) 1 (He.fAd K ("_law_dice", none)) (fdOf K (He.fAd K ("_law_dice", none))) ["cell"] (spOf ⟨K, mg, T⟩ 1 (mFn 1 m__law_dice)) :=
  fn_okD (N := N__law_dice) (ps := ["cell"]) C.d__law_dice sc__law_dice fun A outer s H E hr =>
  (ssv_cons (sv_if (tv_chain (.inl rfl) (.inl rfl) (ev_sub ev_int ev_int) (ev_var 0) ev_int) (ssv_one (sv_ret (ev_lstO (av_cons (ev_abs (by rfl) C.free_abs (ev_var 0)) (av_cons ev_int (av_cons ev_int av_nil)))))) ssv_nil)
  (ssv_one (sv_ret (ev_lstO (av_cons (ev_var 0) (av_cons (ev_add ev_int (ev_mod (ev_int1 (by rfl) C.free_int (ev_var 0)) ev_int)) (av_cons (ev_int1 (by rfl) C.free_int (ev_ge (ev_var 0) (ev_pow ev_int ev_int))) av_nil)))))))
theorem ok__law_dice (C : Facts P w K mg base T) : Df P w K mg base T "_law_dice" 1 1 (mFn 1 m__law_dice) :=
  ⟨_, _, ["cell"], C.g__law_dice, C.d__law_dice.kp, C.d__law_dice.bindsN (fun _ _ _ _ _ _ us hl => match us, hl with | [_], _ => rfl), fn__law_dice C⟩
abbrev N__law_roll : List Str := ["dice", "many", "found"]
theorem sc__law_roll : FnScope N__law_roll ["dice", "many"] (defScope (top 27)) := ⟨rfl, rfl, rfl, by decide +kernel, rfl, by decide +kernel, by decide +kernel⟩
def m__law_roll : Sm := (sSeq (sIf (mOr (mTest (mBin (mBin (mVar 0) (mK (.int 2)) fun d i st => Res.of (dIx d i st) st) (mK (.int 2)) (pure2 dEq))) (mAnd (mTest (mBin (mBin (mVar 0) (mK (.int 2)) fun d i st => Res.of (dIx d i st) st) (mK (.int 1)) (pure2 dEq))) (mTest (mBin (mBin (mVar 0) (mK (.int 0)) fun d i st => Res.of (dIx d i st) st) (mK (.int 0)) (pure2 (dOrd fGt)))))) (sSeq (sSet 2 (mBin (mUn (mBin (mVar 0) (mK (.int 0)) fun d i st => Res.of (dIx d i st) st) fun d st => Res.of (dInt d st) st) (mVar 1) (pure2 dMod)))
  (sSeq (sSetIx (pObj (mVar 0)) (mK (.int 0)) (mBin (mBin (mVar 0) (mK (.int 0)) fun d i st => Res.of (dIx d i st) st) (mVar 1) (pure2 dDiv)))
  (sRet (mVar 2)))) sPass)
  (sSeq (sSetIx (pObj (mVar 0)) (mK (.int 2)) (mK (.int 0)))
  (sSeq (sSetIx (pObj (mVar 0)) (mK (.int 0)) (mBin (mUn (mBin (mBin (mBin (mBin (mVar 0) (mK (.int 0)) fun d i st => Res.of (dIx d i st) st) (mK (.int 48271)) (pure2 dMul)) (mBin (mBin (mVar 0) (mK (.int 1)) fun d i st => Res.of (dIx d i st) st) (mK (.int 69621)) (pure2 dMul)) (pure2 dAdd)) (mK (.int 11)) (pure2 dAdd)) fun d st => Res.of (dInt d st) st) (mK (.int 2147483647)) (pure2 dMod)))
  (sSeq (sSetIx (pObj (mVar 0)) (mK (.int 1)) (mBin (mBin (mVar 0) (mK (.int 1)) fun d i st => Res.of (dIx d i st) st) (mK (.int 1)) (pure2 dAdd)))
  (sRet (mBin (mUn (mBin (mBin (mBin (mVar 0) (mK (.int 0)) fun d i st => Res.of (dIx d i st) st) (mK (.int 7)) (pure2 dDiv)) (mBin (mVar 0) (mK (.int 0)) fun d i st => Res.of (dIx d i st) st) (pure2 dAdd)) fun d st => Res.of (dInt d st) st) (mVar 1) (pure2 dMod)))))))
theorem fn__law_roll (C : Facts P w K mg base T) : FnOk P w K mg base (L2.CX P w) 1 (He.fAd K ("_law_roll", none)) (fdOf K (He.fAd K ("_law_roll", none))) ["dice", "many"] (spOf ⟨K, mg, T⟩ 2 (mFn 3 m__law_roll)) :=
  fn_okD (N := N__law_roll) (ps := ["dice", "many"]) C.d__law_roll sc__law_roll fun A outer s H E hr =>
  (ssv_cons (sv_if (TW.tv (tw_or (tv_eq hr.units (ev_ix (ev_var 0) ev_int) ev_int) (tw_or1 (TW.tv (tw_and (tv_eq hr.units (ev_ix (ev_var 0) ev_int) ev_int) (tw_and1 (tv_gt (ev_ix (ev_var 0) ev_int) ev_int))))))) (ssv_cons (sv_set 2 sc__law_roll.nd (ev_mod (ev_int1 (by rfl) C.free_int (ev_ix (ev_var 0) ev_int)) (ev_var 1)))
  (ssv_cons (sv_setix (pl_obj (ev_var 0)) ev_int (ev_div (ev_ix (ev_var 0) ev_int) (ev_var 1)))
  (ssv_one (sv_ret (ev_var 2))))) ssv_nil)
  (ssv_cons (sv_setix (pl_obj (ev_var 0)) ev_int ev_int)
  (ssv_cons (sv_setix (pl_obj (ev_var 0)) ev_int (ev_mod (ev_int1 (by rfl) C.free_int (ev_add (ev_add (ev_mul (ev_ix (ev_var 0) ev_int) ev_int) (ev_mul (ev_ix (ev_var 0) ev_int) ev_int)) ev_int)) ev_int))
  (ssv_cons (sv_setix (pl_obj (ev_var 0)) ev_int (ev_add (ev_ix (ev_var 0) ev_int) ev_int))
  (ssv_one (sv_ret (ev_mod (ev_int1 (by rfl) C.free_int (ev_add (ev_div (ev_ix (ev_var 0) ev_int) ev_int) (ev_ix (ev_var 0) ev_int))) (ev_var 1))))))))
theorem ok__law_roll (C : Facts P w K mg base T) : Df P w K mg base T "_law_roll" 1 2 (mFn 3 m__law_roll) :=
  ⟨_, _, ["dice", "many"], C.g__law_roll, C.d__law_roll.kp, C.d__law_roll.bindsN (fun _ _ _ _ _ _ us hl => match us, hl with | [_, _], _ => rfl), fn__law_roll C⟩
abbrev N_Store_put : List Str := ["self", "name", "stack", "row"]
theorem sc_Store_put : FnScope N_Store_put ["self", "name", "stack"] (defScope (mtd 15 1)) := ⟨rfl, rfl, rfl, by decide +kernel, rfl, by decide +kernel, by decide +kernel⟩
def m_Store_put : Sm := (sSeq (sIf (mNot (mTest (mChain (mK (.int 0)) (mVar 2) (mUn (mFldC "Store" "stacks" (mVar 0)) fun d st => Res.of (dLen d st) st) (dOrd (ordOf .LtE)) (dOrd (ordOf .Lt))))) (sRaise "NoSuch" mNil) sPass)
  (sSeq (sIf (mOr (mTest (mBin (mVar 1) (mK (.str "")) (pure2 dEq))) (mTest (mAnyG (mItems (mFldC "Store" "stacks" (mVar 0))) [3] (gvN 3) mYes (mBin (mVar 1) (mVar 3) (pure2 dIn))))) (sRaise "BadDeed" mNil) sPass)
  (sSeq (sIf (mTest (mBin (mUn (mBin (mFldC "Store" "stacks" (mVar 0)) (mVar 2) fun d i st => Res.of (dIx d i st) st) fun d st => Res.of (dLen d st) st) (mFld "Store" "high" (mVar 0)) (pure2 dEq))) (sRaise "NoRoom" mNil) sPass)
  (sSetIx (pFld "Store" "stacks" (mVar 0)) (mVar 2) (mBin (mBin (mFldC "Store" "stacks" (mVar 0)) (mVar 2) fun d i st => Res.of (dIx d i st) st) (mTupP (mCons (mVar 1) mNil)) (pure2 dCatP))))))
theorem fn_Store_put (C : Facts P w K mg base T) : FnOk P w K mg base (L2.CX P w) 2 (He.fAd K ("Store", some "put")) (fdOf K (He.fAd K ("Store", some "put"))) ["self", "name", "stack"] (spOf ⟨K, mg, T⟩ 3 (mFn 4 m_Store_put)) :=
  fn_okD (N := N_Store_put) (ps := ["self", "name", "stack"]) C.d_Store_put sc_Store_put fun A outer s H E hr =>
  (ssv_cons (sv_if (tv_not (tv_chain (.inr (.inl rfl)) (.inl rfl) ev_int (ev_var 2) (ev_len (by rfl) C.free_len (cv_a "Store" C.a_Store_stacks (ev_var 0))))) (ssv_one (sv_rs C.e_NoSuch (takes_of rfl rfl rfl rfl))) ssv_nil)
  (ssv_cons (sv_if (TW.tv (tw_or (tv_eq hr.units (ev_var 1) ev_str) (tw_or1 (tv_val (ev_anyG hr (C.gt_Store_put _ ) (by rfl) C.free_any (iv_seq (cv_a "Store" C.a_Store_stacks (ev_var 0))) (fun _ _ _ _ _ _ => (gv_name 3 sc_Store_put.nd)) (fun _ _ _ _ _ _ hx => tsv_nil) (fun _ _ _ _ _ _ hx => (ev_in hx.units (ev_var 1) (ev_var 3)))))))) (ssv_one (sv_rs C.e_BadDeed (takes_of rfl rfl rfl rfl))) ssv_nil)
  (ssv_cons (sv_if (tv_eq hr.units (ev_len (by rfl) C.free_len (ev_ix (cv_a "Store" C.a_Store_stacks (ev_var 0)) (ev_var 2))) (ev_a "Store" C.a_Store_high (ev_var 0))) (ssv_one (sv_rs C.e_NoRoom (takes_of rfl rfl rfl rfl))) ssv_nil)
  (ssv_one (sv_setix (pl_a "Store" C.a_Store_stacks (ev_var 0)) (ev_var 2) (ev_catP (ev_ix (cv_a "Store" C.a_Store_stacks (ev_var 0)) (ev_var 2)) (ev_tupP (av_cons (ev_var 1) av_nil))))))))
theorem ok_Store_put (C : Facts P w K mg base T) : Dm P w K mg base T "Store" "put" 2 3 (mFn 4 m_Store_put) :=
  ⟨_, _, _, ["self", "name", "stack"], C.gc_Store, C.cl_Store, C.mt_Store_put, C.d_Store_put.bindsN (fun _ _ _ _ _ _ us hl => match us, hl with | [_, _, _], _ => rfl), fn_Store_put C⟩
abbrev N_read_row : List Str := ["text", "words", "one", "found", "sign"]
theorem sc_read_row : FnScope N_read_row ["text"] (defScope (top 19)) := ⟨rfl, rfl, rfl, by decide +kernel, rfl, by decide +kernel, by decide +kernel⟩
def m_read_row : Sm := (sSeq (sSet 1 (mUn (mSplit (mVar 0) (mK (.str " "))) fun ds st => .ok (.lst ds) st))
  (sSeq (sIf (mTest (mBin (mUn (mVar 1) fun d st => Res.of (dLen d st) st) (mK (.int 4)) (pure2 dNe))) (sRaiseR "BadText" (mK (.int 0))) sPass)
  (fun _ _ => .bad)))
theorem fn_read_row (C : Facts P w K mg base T) : FnOk P w K mg base (L2.CX P w) 2 (He.fAd K ("read_row", none)) (fdOf K (He.fAd K ("read_row", none))) ["text"] (spOf ⟨K, mg, T⟩ 1 (mFn 5 m_read_row)) :=
  fn_okD (N := N_read_row) (ps := ["text"]) C.d_read_row sc_read_row fun A outer s H E hr =>
  (ssv_cons (sv_set 1 sc_read_row.nd (ev_frz (nv_split (ev_var 0) ev_str)))
  (ssv_cons (sv_if (tv_ne hr.units (ev_len (by rfl) C.free_len (ev_var 1)) ev_int) (ssv_one (sv_raiseR C.x_BadText (takes_of rfl rfl rfl rfl) hr ev_int)) ssv_nil)
  ssv_never))
theorem ok_read_row (C : Facts P w K mg base T) : Df P w K mg base T "read_row" 2 1 (mFn 5 m_read_row) :=
  ⟨_, _, ["text"], C.g_read_row, C.d_read_row.kp, C.d_read_row.bindsN (fun _ _ _ _ _ _ us hl => match us, hl with | [_], _ => rfl), fn_read_row C⟩
abbrev N__law_rounds : List Str := ["script", "most", "cells", "cell"]
theorem sc__law_rounds : FnScope N__law_rounds ["script", "most"] (defScope (top 28)) := ⟨rfl, rfl, rfl, by decide +kernel, rfl, by decide +kernel, by decide +kernel⟩
def m__law_rounds : Sm := (sSeq (sSet 2 (mUn (mSl (mVar 0) mNoPart (mPart (mVar 1)) fun d lo hi st => (Res.of (dL d st) st).bind fun xs st => .ok (cutD xs lo hi) st) fun ds st => .ok (.lst ds) st))
  (sSeq (sIf (mTest (mBin (mVar 2) (mUn (mSmall mNil) fun ds st => .ok (.lst ds) st) (pure2 dEq))) (sSet 2 (mUn (mSmall (mCons (mK (.int 0)) mNil)) fun ds st => .ok (.lst ds) st)) sPass)
  (sRet (mUn (mComp (mItems (mVar 2)) [3] (gvN 3) mYes (mCall (mFn 1 m__law_dice) (mCons (mVar 3) mNil))) fun ds st => .ok (.lst ds) st))))
theorem fn__law_rounds (C : Facts P w K mg base T) : FnOk P w K mg base (L2.CX P w) 2 (He.fAd K ("_law_rounds", none)) (fdOf K (He.fAd K ("_law_rounds", none))) ["script", "most"] (spOf ⟨K, mg, T⟩ 2 (mFn 4 m__law_rounds)) :=
  fn_okD (N := N__law_rounds) (ps := ["script", "most"]) C.d__law_rounds sc__law_rounds fun A outer s H E hr =>
  (ssv_cons (sv_set 2 sc__law_rounds.nd (ev_frz (nv_slice2 (ev_var 0) ov_none (ov_some (ev_var 1)))))
  (ssv_cons (sv_if (tv_eq hr.units (ev_var 2) (ev_frz (nv_lst av_nil))) (ssv_one (sv_set 2 sc__law_rounds.nd (ev_frz (nv_lst (av_cons ev_int av_nil))))) ssv_nil)
  (ssv_one (sv_ret (ev_frz (nv_comp (by rfl) sc__law_rounds.nd (iv_seq (ev_var 2)) (blkOk_by (own := [("cell", 3)]) (by rfl)) (fun _ _ _ _ _ => (gv_name 3 sc__law_rounds.nd)) (fun _ _ _ _ _ => tsv_nil) (fun _ _ _ _ _ => (ev_f (ok__law_dice C) hr takes0 (av_cons (ev_var 3) av_nil) (len_cons len_nil)))))))))
theorem ok__law_rounds (C : Facts P w K mg base T) : Df P w K mg base T "_law_rounds" 2 2 (mFn 4 m__law_rounds) :=
  ⟨_, _, ["script", "most"], C.g__law_rounds, C.d__law_rounds.kp, C.d__law_rounds.bindsN (fun _ _ _ _ _ _ us hl => match us, hl with | [_, _], _ => rfl), fn__law_rounds C⟩
abbrev N_law : List Str := ["script", "dice", "whats", "k", "many", "desk", "store", "j"]
theorem sc_law : FnScope N_law ["script"] (defScope (top 30)) := ⟨rfl, rfl, rfl, by decide +kernel, rfl, by decide +kernel, by decide +kernel⟩
def m_law : Sm := (sSeq (sFor (mItems (mCall (mFn 4 m__law_rounds) (mCons (mVar 0) (mCons (mK (.int 1)) mNil)))) (gvN 1) (sSeq (sPar [4, 5, 6] (mCons (mBin (mK (.int 1)) (mCall (mFn 3 m__law_roll) (mCons (mVar 1) (mCons (mK (.int 90)) mNil))) (pure2 dAdd)) (mCons (mMake "Desk" (mFn 1 m_Desk___init__) mNil) (mCons (mMake "Store" (mFn 3 m_Store___init__) (mCons (mK (.int 1)) (mCons (mK (.int 1)) mNil))) mNil))))
  (sSeq (sDrop (mMeth "Store" "put" (mFn 4 m_Store_put) (mVar 6) (mCons (mK (.str "a")) (mCons (mK (.int 0)) mNil))))
  (sUnder 2 3 ans [(mMeth "Desk" "redo" (mFn 2 m_Desk_redo) (mVar 5) mNil), (mMake "Store" (mFn 3 m_Store___init__) (mCons (mBin (mK (.int 1)) (mVar 4) (pure2 dSub)) (mCons (mK (.int 1)) mNil))), (mMake "Feet" (mFn 5 m_Feet___init__) (mCons (mTup (mCons (mVar 4) (mCons (mBin (mVar 4) (mK (.int 1)) (pure2 dAdd)) mNil))) (mCons (mTup (mCons (mVar 4) (mCons (mK (.int 1)) mNil))) mNil))), (mCall (mFn 4 m_crossed) (mCons (mBin (mK (.int 1)) (mVar 4) (pure2 dSub)) mNil)), (mCall (mFn 5 m_read_row) (mCons (mBin (mK (.str "x")) (mVar 4) (pure2 dMulS)) mNil)), (mMeth "Store" "put" (mFn 4 m_Store_put) (mVar 6) (mCons (mK (.str "b")) (mCons (mK (.int 0)) mNil))), (mMeth "Store" "put" (mFn 4 m_Store_put) (mVar 6) (mCons (mK (.str "b")) (mCons (mVar 4) mNil))), (mCall (mFn 4 m_lace_for) (mCons (mUn (mSmall (mCons (mVar 4) mNil)) fun ds st => .ok (.lst ds) st) (mCons (mBin (mVar 4) (mK (.int 1)) (pure2 dAdd)) mNil)))] (mCall (mFn 3 m__law_roll) (mCons (mVar 1) (mCons (mK (.int 8)) mNil))) (mUn (mBin (mUn (mComp (mUn (mCons (mK (.int 8)) mNil) fun ds st => Res.of (dRange1 ds) st) [7] (gvN 7) mYes (mBin (mVar 7) (mVar 3) (pure2 dEq))) fun ds st => .ok (.lst ds) st) (mUn (mSmall (mCons (mK (.bl true)) mNil)) fun ds st => .ok (.lst ds) st) fCat) fun ds st => .ok (.lst ds) st)))))
  (sRet (mK (.bl true))))
theorem fn_law (C : Facts P w K mg base T) : FnOk P w K mg base (L2.CX P w) 5 (He.fAd K ("law", none)) (fdOf K (He.fAd K ("law", none))) ["script"] (spOf ⟨K, mg, T⟩ 1 (mFn 8 m_law)) :=
  fn_okD (N := N_law) (ps := ["script"]) C.d_law sc_law fun A outer s H E hr =>
  (ssv_cons (sv_for (passes_of rfl) (by rfl) (iv_seq (ev_f (ok__law_rounds C) hr (takes_of rfl rfl rfl rfl) (av_cons (ev_var 0) (av_cons ev_int av_nil)) (len_cons (len_cons len_nil)))) (gv_name 1 sc_law.nd) (ssv_cons (sv_parT (by rfl) (aw_ev (ev_add ev_int (ev_f (ok__law_roll C) hr (takes_of rfl rfl rfl rfl) (av_cons (ev_var 1) (av_cons ev_int av_nil)) (len_cons (len_cons len_nil)))) (aw_ev (ev_k0 (ok_Desk___init__ C) hr (takes_of rfl rfl rfl rfl)) (aw_ev (ev_k (ok_Store___init__ C) hr (takes_of rfl rfl rfl rfl) (av_cons ev_int (av_cons ev_int av_nil)) (len_cons (len_cons len_nil))) aw_nil))) (gns_cons 4 sc_law.nd (gns_cons 5 sc_law.nd (gns_cons 6 sc_law.nd gns_nil))))
  (ssv_cons (sv_expr (ev_m "Store" (ok_Store_put C) hr (takes_of rfl rfl rfl rfl) (ev_var 6) (av_cons ev_str (av_cons ev_int av_nil)) (len_cons (len_cons len_nil))))
  (ssv_under (k := 2) C.un C.lt_law hr hr.units sc_law.nd 2 3 (.cons (by rfl) (by rfl) (by rfl) (.cons (by rfl) (by rfl) (by rfl) (.cons (by rfl) (by rfl) (by rfl) (.cons (by rfl) (by rfl) (by rfl) (.cons (by rfl) (by rfl) (by rfl) (.cons (by rfl) (by rfl) (by rfl) (.cons (by rfl) (by rfl) (by rfl) (.cons (by rfl) (by rfl) (by rfl) .nil)))))))) (.cons (by rfl) (by intros; rfl) (fun _ _ _ _ _ _ _ hl => (ev_m0 "Desk" (ok_Desk_redo C) hl (takes_of rfl rfl rfl rfl) (ev_var 5))) (.cons (by rfl) (by intros; rfl) (fun _ _ _ _ _ _ _ hl => (ev_k (ok_Store___init__ C) hl (takes_of rfl rfl rfl rfl) (av_cons (ev_sub ev_int (ev_var 4)) (av_cons ev_int av_nil)) (len_cons (len_cons len_nil)))) (.cons (by rfl) (by intros; rfl) (fun _ _ _ _ _ _ _ hl => (ev_k (ok_Feet___init__ C) hl (takes_of rfl rfl rfl rfl) (av_cons (ev_tup (av_cons (ev_var 4) (av_cons (ev_add (ev_var 4) ev_int) av_nil))) (av_cons (ev_tup (av_cons (ev_var 4) (av_cons ev_int av_nil))) av_nil)) (len_cons (len_cons len_nil)))) (.cons (by rfl) (by intros; rfl) (fun _ _ _ _ _ _ _ hl => (ev_f (ok_crossed C) hl (takes_of rfl rfl rfl rfl) (av_cons (ev_sub ev_int (ev_var 4)) av_nil) (len_cons len_nil))) (.cons (by rfl) (by intros; rfl) (fun _ _ _ _ _ _ _ hl => (ev_f (ok_read_row C) hl (takes_of rfl rfl rfl rfl) (av_cons (ev_mulS ev_str (ev_var 4)) av_nil) (len_cons len_nil))) (.cons (by rfl) (by intros; rfl) (fun _ _ _ _ _ _ _ hl => (ev_m "Store" (ok_Store_put C) hl (takes_of rfl rfl rfl rfl) (ev_var 6) (av_cons ev_str (av_cons ev_int av_nil)) (len_cons (len_cons len_nil)))) (.cons (by rfl) (by intros; rfl) (fun _ _ _ _ _ _ _ hl => (ev_m "Store" (ok_Store_put C) hl (takes_of rfl rfl rfl rfl) (ev_var 6) (av_cons ev_str (av_cons (ev_var 4) av_nil)) (len_cons (len_cons len_nil)))) (.cons (by rfl) (by intros; rfl) (fun _ _ _ _ _ _ _ hl => (ev_f (ok_lace_for C) hl (takes_of rfl rfl rfl rfl) (av_cons (ev_frz (nv_lst (av_cons (ev_var 4) av_nil))) (av_cons (ev_add (ev_var 4) ev_int) av_nil)) (len_cons (len_cons len_nil)))) .nil)))))))) (fun _ => (ev_f (ok__law_roll C) hr (takes_of rfl rfl rfl rfl) (av_cons (ev_var 1) (av_cons ev_int av_nil)) (len_cons (len_cons len_nil)))) (fun _ => (ev_frz (nv_cat (ev_frz (nv_comp (by rfl) sc_law.nd (iv_range1 (av_cons ev_int av_nil) (by rfl) C.free_range) (blkOk_by (own := [("j", 7)]) (by rfl)) (fun _ _ _ _ _ => (gv_name 7 sc_law.nd)) (fun _ _ _ _ _ => tsv_nil) (fun _ _ _ _ _ => (ev_eq hr.units (ev_var 7) (ev_var 3))))) (ev_frz (nv_lst (av_cons ev_bl av_nil))))))))))
  (ssv_one (sv_ret ev_bl)))
end
end
end K24
set_option maxRecDepth 100000
set_option maxHeartbeats 0
set_option autoImplicit false
namespace K24
open PySem PySem.Spec PyProof.Rows L2 Ev
noncomputable section
def fa0 : List He.Fa := [.free "abs",
  .free "any",
  .free "int",
  .free "len",
  .free "min",
  .free "range",
  .free "super",
  .glo "crossed",
  .glo "lace_for",
  .glo "_law_dice",
  .glo "_law_roll",
  .glo "read_row",
  .glo "_law_rounds",
  .glo "law",
  .glo "_law_under",
  .glo "ShoeFault",
  .glo "BadShoe",
  .glo "BadPlan",
  .glo "BadSize",
  .glo "NoSuch",
  .glo "NoRoom",
  .glo "NoWay",
  .glo "BadText",
  .glo "BadDeed",
  .exm "ShoeFault" "ShoeFault" true,
  .exm "BadShoe" "ShoeFault" true,
  .exm "BadPlan" "ShoeFault" true,
  .exm "BadSize" "ShoeFault" true,
  .exm "NoSuch" "ShoeFault" true,
  .exm "NoRoom" "ShoeFault" true,
  .exm "NoWay" "ShoeFault" true,
  .exm "BadText" "ShoeFault" true,
  .exm "BadDeed" "ShoeFault" true,
  .free "isinstance",
  .free "ValueError",
  .glo "Store",
  .cls "Store",
  .glo "Desk",
  .cls "Desk",
  .glo "Feet",
  .cls "Feet",
  .mkr "Store",
  .mkr "Desk",
  .meth "Desk" "redo",
  .mkr "Feet",
  .meth "Store" "put",
  .noat "Desk" "deeds",
  .noat "Desk" "text",
  .noat "Desk" "undone",
  .noat "Store" "high",
  .noat "Store" "moved",
  .noat "Store" "stacks",
  .exc "BadDeed",
  .exc "BadPlan",
  .exc "BadShoe",
  .exc "BadSize",
  .exc "NoRoom",
  .exc "NoSuch",
  .exc "NoWay"]
def dom : List Str := []
def fa : List He.Fa := fa0 ++ dom.flatMap fun y => ws.map fun p => .exm y p.1 (ts y p.1)
def D_crossed : He.DefD := ⟨("crossed", none), "crossed", "crossed", defArgs (top 12), defBody (top 12), defScope (top 12), [], []⟩
def D_lace_for : He.DefD := ⟨("lace_for", none), "lace_for", "lace_for", defArgs (top 13), defBody (top 13), defScope (top 13), [], []⟩
def D_Store___init__ : He.DefD := ⟨("Store", some "__init__"), "__init__", "Store.__init__", defArgs (mtd 15 0), defBody (mtd 15 0), defScope (mtd 15 0), [], []⟩
def D_Desk___init__ : He.DefD := ⟨("Desk", some "__init__"), "__init__", "Desk.__init__", defArgs (mtd 22 0), defBody (mtd 22 0), defScope (mtd 22 0), [], []⟩
def D_Desk_redo : He.DefD := ⟨("Desk", some "redo"), "redo", "Desk.redo", defArgs (mtd 22 6), defBody (mtd 22 6), defScope (mtd 22 6), [], []⟩
def D_Feet___init__ : He.DefD := ⟨("Feet", some "__init__"), "__init__", "Feet.__init__", defArgs (mtd 24 0), defBody (mtd 24 0), defScope (mtd 24 0), [], []⟩
def D__law_dice : He.DefD := ⟨("_law_dice", none), "_law_dice", "_law_dice", defArgs (top 26), defBody (top 26), defScope (top 26), [], []⟩
def D__law_roll : He.DefD := ⟨("_law_roll", none), "_law_roll", "_law_roll", defArgs (top 27), defBody (top 27), defScope (top 27), [], []⟩
def D_Store_put : He.DefD := ⟨("Store", some "put"), "put", "Store.put", defArgs (mtd 15 1), defBody (mtd 15 1), defScope (mtd 15 1), [], []⟩
def D_read_row : He.DefD := ⟨("read_row", none), "read_row", "read_row", defArgs (top 19), defBody (top 19), defScope (top 19), [], []⟩
def D__law_rounds : He.DefD := ⟨("_law_rounds", none), "_law_rounds", "_law_rounds", defArgs (top 28), defBody (top 28), defScope (top 28), [], []⟩
def D_law : He.DefD := ⟨("law", none), "law", "law", defArgs (top 30), defBody (top 30), defScope (top 30), [], []⟩
def D__law_under : He.DefD := ⟨("_law_under", none), "_law_under", "_law_under", defArgs (top 29), defBody (top 29), defScope (top 29), [], []⟩
def fn : List He.DefD := [D_crossed, D_lace_for, D_Store___init__, D_Desk___init__, D_Desk_redo, D_Feet___init__, D__law_dice, D__law_roll, D_Store_put, D_read_row, D__law_rounds, D_law, D__law_under]
def tf : List (He.Defn × Str) := [(("Store", some "put"), (envOfC "Store.put" (defScope (mtd 15 1)) 0 0 .none).qual ++ "<genexpr>"),
  (("law", none), (envOfC "law" (defScope (top 30)) 0 0 .none).qual ++ "<lambda>")]
def loose : List Str := (["_wall", "ShoeFault", "BadShoe", "BadPlan", "BadSize", "NoSuch", "NoRoom", "NoWay", "BadText", "BadDeed", "crossed", "lace_for", "Store", "DEEDS", "Row", "read_row", "Shoebook", "Desk", "Feet", "_law_dice", "_law_roll", "_law_rounds", "_law_under"] : List Str)
abbrev Rw : PySem.W.OpenRow := PySem.W.OpenLaw.row PySem.Challenge.rw_shoehall_k24_refusals_apart
def csU (K : PySem.W.Frag) : List Value := [.ref (He.ga K "BadDeed"), .ref (He.ga K "BadPlan"), .ref (He.ga K "BadShoe"), .ref (He.ga K "BadSize"), .ref (He.ga K "BadText"), .ref (He.ga K "NoRoom"), .ref (He.ga K "NoSuch"), .ref (He.ga K "NoWay"), .type "ValueError"]
def undB (K : PySem.W.Frag) : Bool := exN.all fun y => excCB K (He.ga K y) && (match ans y with | some bs => ansB K (He.ga K y) (csU K) bs | none => false)
abbrev ex (K : PySem.W.Frag) : Bool := tabsNodup tf K && undB K && ownB K (He.ga K "BadText") (He.ma K (He.ga K "BadText") "__init__") "/claim/cut.py"
abbrev hk : PySem.W.Hook := He.hookY 5 fa fn [] (tf.map (·.1)) ex
def ob (s : PySem.W.SharedT) : He.AlX := He.obsY 5 fa fn [] (tf.map (·.1)) ex (HandSHeadRun.getT s)
theorem ob_eq (s : PySem.W.SharedT) : ob s = hk.obs s.abs := He.obsY_eq (HandSHeadRun.getT_eq s)
theorem head_run (w : World) : HandSHeadRun.RunEq Rw (PySem.W.view Rw.prog [30]) hk ob 20000 loose w := by
  intro os
  kernel_rfl
section
variable {w : World} {K : PySem.W.Frag} {h : Heap} {mg : Str → Option Value}
theorem nd_of {w : World} {K : PySem.W.Frag} {h : Heap} (c : He.SaysX fa fn [] (tf.map (·.1)) ex w h K) : tabsNodup tf K = true := by
  have z := c.more
  unfold ex at z
  obtain ⟨z, _⟩ := He.ba z
  obtain ⟨z, _⟩ := He.ba z
  exact z
theorem und_of {w : World} {K : PySem.W.Frag} {h : Heap} (c : He.SaysX fa fn [] (tf.map (·.1)) ex w h K) : undB K = true := by
  have z := c.more
  unfold ex at z
  obtain ⟨z, _⟩ := He.ba z
  exact (He.ba z).2
theorem ownb_of_BadText {w : World} {K : PySem.W.Frag} {h : Heap} (c : He.SaysX fa fn [] (tf.map (·.1)) ex w h K) : ownB K (He.ga K "BadText") (He.ma K (He.ga K "BadText") "__init__") "/claim/cut.py" = true := by
  have z := c.more
  unfold ex at z
  exact (He.ba z).2
theorem un_of {w : World} {K : PySem.W.Frag} {h : Heap} {mg : Str → Option Value} (X : K.In h) (G : h.Ns mainGlobals mg) (c : He.SaysX fa fn [] (tf.map (·.1)) ex w h K) : Tu K mg ans "_law_under" "what" := by
  have glo : ∀ y ∈ exN, mg y = some (.ref (He.ga K y)) := by
    intro y hy
    rcases (by simpa [exN] using hy : y = "ShoeFault" ∨ y = "BadShoe" ∨ y = "BadPlan" ∨ y = "BadSize" ∨ y = "NoSuch" ∨ y = "NoRoom" ∨ y = "NoWay" ∨ y = "BadText" ∨ y = "BadDeed") with rfl | rfl | rfl | rfl | rfl | rfl | rfl | rfl | rfl
    · exact He.glo_ok X G (c.t.d.fact 15 (f := .glo "ShoeFault") rfl)
    · exact He.glo_ok X G (c.t.d.fact 16 (f := .glo "BadShoe") rfl)
    · exact He.glo_ok X G (c.t.d.fact 17 (f := .glo "BadPlan") rfl)
    · exact He.glo_ok X G (c.t.d.fact 18 (f := .glo "BadSize") rfl)
    · exact He.glo_ok X G (c.t.d.fact 19 (f := .glo "NoSuch") rfl)
    · exact He.glo_ok X G (c.t.d.fact 20 (f := .glo "NoRoom") rfl)
    · exact He.glo_ok X G (c.t.d.fact 21 (f := .glo "NoWay") rfl)
    · exact He.glo_ok X G (c.t.d.fact 22 (f := .glo "BadText") rfl)
    · exact He.glo_ok X G (c.t.d.fact 23 (f := .glo "BadDeed") rfl)
  have exm : ∀ y ∈ exN, PySem.W.exmOne K (.ref (He.ga K y)) (.ref (He.ga K "ShoeFault")) = some true := by
    intro y hy
    rcases (by simpa [exN] using hy : y = "ShoeFault" ∨ y = "BadShoe" ∨ y = "BadPlan" ∨ y = "BadSize" ∨ y = "NoSuch" ∨ y = "NoRoom" ∨ y = "NoWay" ∨ y = "BadText" ∨ y = "BadDeed") with rfl | rfl | rfl | rfl | rfl | rfl | rfl | rfl | rfl
    · exact He.exm_ok (c.t.d.fact 24 (f := .exm "ShoeFault" "ShoeFault" true) rfl)
    · exact He.exm_ok (c.t.d.fact 25 (f := .exm "BadShoe" "ShoeFault" true) rfl)
    · exact He.exm_ok (c.t.d.fact 26 (f := .exm "BadPlan" "ShoeFault" true) rfl)
    · exact He.exm_ok (c.t.d.fact 27 (f := .exm "BadSize" "ShoeFault" true) rfl)
    · exact He.exm_ok (c.t.d.fact 28 (f := .exm "NoSuch" "ShoeFault" true) rfl)
    · exact He.exm_ok (c.t.d.fact 29 (f := .exm "NoRoom" "ShoeFault" true) rfl)
    · exact He.exm_ok (c.t.d.fact 30 (f := .exm "NoWay" "ShoeFault" true) rfl)
    · exact He.exm_ok (c.t.d.fact 31 (f := .exm "BadText" "ShoeFault" true) rfl)
    · exact He.exm_ok (c.t.d.fact 32 (f := .exm "BadDeed" "ShoeFault" true) rfl)
  have F := funD_at (c.t.d.def_ 12 (d := D__law_under) rfl)
  obtain ⟨oc, od, dV, kV, doc, pm, an, cdv, ct, osl, e, lk, hcd, hD, hK⟩ := F.ex
  have hb := F.bindsN (ps := ["what"]) (fun _ _ _ _ _ _ us hl => match us, hl with | [_], _ => rfl)
  rw [e] at lk hb
  refine ⟨_, _, _, _, dV, kV, doc, pm, cdv, ct, oc, an, od, osl, ["what", "some", "e"], .ref (He.ga K "ShoeFault"), csU K, He.glo_ok X G (c.t.d.fact 14 (f := .glo "_law_under") rfl), F.kp, lk, hcd, hb, ⟨rfl, rfl, rfl, by decide +kernel, rfl, by decide +kernel, by decide +kernel⟩, rfl, .inl rfl, fun X2 q eK em => ?_, fun y A bs hA hy => ?_⟩
  · rw [← eK]
    have hmg : ∀ x, x ∈ exN → X2.mg x = some (.ref (He.ga X2.K x)) := fun x hx => by rw [em, eK]; exact glo x hx
    have fVE : ∀ (X2 : Cx), X2.mg = mg → X2.mg "ValueError" = none := fun X2 em => by rw [em]; exact He.free_ok X G (c.t.d.fact 34 (f := .free "ValueError") rfl)
    have fII : X2.mg "isinstance" = none := by rw [em]; exact He.free_ok X G (c.t.d.fact 33 (f := .free "isinstance") rfl)
    exact under_gives (n := "e") (m := "some") (i := 2) (j := 1) (c1 := (csU X2.K).take 4) (c2 := ((csU X2.K).drop 4).take 4) (c3 := (csU X2.K).drop 8) (fun f => rfl) (Ng := ["what", "some", "e"]) (by decide +kernel) rfl rfl (by decide) rfl rfl (by rw [sizeLine_eq]; exact (show (9 : Nat) ≤ 16777216 from by decide)) (fun _ _ => by rfl) (fun s H => names_of (by rfl) (hmg "ShoeFault" (by decide +kernel))) (fun _ _ => by rfl) fII
      (fun s H => (.cons (c := .ref (He.ga X2.K "BadDeed")) (fun _ _ => pe_glob (by rfl) (hmg "BadDeed" (by decide +kernel)) rfl) (fun _ r => r) (.cons (c := .ref (He.ga X2.K "BadPlan")) (fun _ _ => pe_glob (by rfl) (hmg "BadPlan" (by decide +kernel)) rfl) (fun _ r => r) (.cons (c := .ref (He.ga X2.K "BadShoe")) (fun _ _ => pe_glob (by rfl) (hmg "BadShoe" (by decide +kernel)) rfl) (fun _ r => r) (.cons (c := .ref (He.ga X2.K "BadSize")) (fun _ _ => pe_glob (by rfl) (hmg "BadSize" (by decide +kernel)) rfl) (fun _ r => r) .nil))))) (fun s H => (.cons (c := .ref (He.ga X2.K "BadText")) (fun _ _ => pe_glob (by rfl) (hmg "BadText" (by decide +kernel)) rfl) (fun _ r => r) (.cons (c := .ref (He.ga X2.K "NoRoom")) (fun _ _ => pe_glob (by rfl) (hmg "NoRoom" (by decide +kernel)) rfl) (fun _ r => r) (.cons (c := .ref (He.ga X2.K "NoSuch")) (fun _ _ => pe_glob (by rfl) (hmg "NoSuch" (by decide +kernel)) rfl) (fun _ r => r) (.cons (c := .ref (He.ga X2.K "NoWay")) (fun _ _ => pe_glob (by rfl) (hmg "NoWay" (by decide +kernel)) rfl) (fun _ r => r) .nil))))) (fun s H => (.cons (c := .ty "ValueError") (fun _ _ => pe_bltn (u := .type "ValueError") (by rfl) (fVE X2 em) (by decide +kernel) rfl) (fun _ r => r) .nil))
  · have hc : y ∈ exN := by
      unfold ans at hy
      split at hy
      · rename_i z; exact List.mem_of_elem_eq_true z
      · cases hy
    rw [glo y hc] at hA
    cases hA
    have z := und_of c
    unfold undB at z
    have z2 := List.all_eq_true.mp z y hc
    obtain ⟨z3, z4⟩ := He.ba z2
    rw [hy] at z4
    exact ⟨exm y hc, excCB_ok z3, ansB_ok z4⟩
theorem own_of {w : World} {K : PySem.W.Frag} {h : Heap} {mg : Str → Option Value} (X : K.In h) (G : h.Ns mainGlobals mg) (c : He.SaysX fa fn [] (tf.map (·.1)) ex w h K) : Dx PySem.Challenge.rw_shoehall_k24_refusals_apart.prog K mg "BadText" :=
  ownB_ok (He.glo_ok X G (c.t.d.fact 22 (f := .glo "BadText") rfl)) (He.free_ok X G (c.t.d.fact 6 (f := .free "super") rfl)) (by kernel_rfl) (by kernel_rfl) (ownb_of_BadText c)
theorem facts_of {base : Heap} (X : K.In h) (G : h.Ns mainGlobals mg) (c : He.SaysX fa fn [] (tf.map (·.1)) ex w h K) (TB : ∀ p ∈ tf.map (fun p => He.cT K p.1), LamX.TabB base mg p.1 p.2) : Facts PySem.Challenge.rw_shoehall_k24_refusals_apart.prog w K mg base (lamT K tf) := by
  exact {
    free_abs := He.free_ok X G (c.t.d.fact 0 (f := .free "abs") rfl)
    free_any := He.free_ok X G (c.t.d.fact 1 (f := .free "any") rfl)
    free_int := He.free_ok X G (c.t.d.fact 2 (f := .free "int") rfl)
    free_len := He.free_ok X G (c.t.d.fact 3 (f := .free "len") rfl)
    free_min := He.free_ok X G (c.t.d.fact 4 (f := .free "min") rfl)
    free_range := He.free_ok X G (c.t.d.fact 5 (f := .free "range") rfl)
    free_super := He.free_ok X G (c.t.d.fact 6 (f := .free "super") rfl)
    g_crossed := He.glo_ok X G (c.t.d.fact 7 (f := .glo "crossed") rfl)
    d_crossed := funD_at (c.t.d.def_ 0 (d := D_crossed) rfl)
    g_lace_for := He.glo_ok X G (c.t.d.fact 8 (f := .glo "lace_for") rfl)
    d_lace_for := funD_at (c.t.d.def_ 1 (d := D_lace_for) rfl)
    d_Store___init__ := funD_at (c.t.d.def_ 2 (d := D_Store___init__) rfl)
    d_Desk___init__ := funD_at (c.t.d.def_ 3 (d := D_Desk___init__) rfl)
    d_Desk_redo := funD_at (c.t.d.def_ 4 (d := D_Desk_redo) rfl)
    d_Feet___init__ := funD_at (c.t.d.def_ 5 (d := D_Feet___init__) rfl)
    g__law_dice := He.glo_ok X G (c.t.d.fact 9 (f := .glo "_law_dice") rfl)
    d__law_dice := funD_at (c.t.d.def_ 6 (d := D__law_dice) rfl)
    g__law_roll := He.glo_ok X G (c.t.d.fact 10 (f := .glo "_law_roll") rfl)
    d__law_roll := funD_at (c.t.d.def_ 7 (d := D__law_roll) rfl)
    d_Store_put := funD_at (c.t.d.def_ 8 (d := D_Store_put) rfl)
    g_read_row := He.glo_ok X G (c.t.d.fact 11 (f := .glo "read_row") rfl)
    d_read_row := funD_at (c.t.d.def_ 9 (d := D_read_row) rfl)
    g__law_rounds := He.glo_ok X G (c.t.d.fact 12 (f := .glo "_law_rounds") rfl)
    d__law_rounds := funD_at (c.t.d.def_ 10 (d := D__law_rounds) rfl)
    g_law := He.glo_ok X G (c.t.d.fact 13 (f := .glo "law") rfl)
    d_law := funD_at (c.t.d.def_ 11 (d := D_law) rfl)
    gc_Store := He.glo_ok X G (c.t.d.fact 35 (f := .glo "Store") rfl)
    cl_Store := He.cls_ok (c.t.d.fact 36 (f := .cls "Store") rfl)
    gc_Desk := He.glo_ok X G (c.t.d.fact 37 (f := .glo "Desk") rfl)
    cl_Desk := He.cls_ok (c.t.d.fact 38 (f := .cls "Desk") rfl)
    gc_Feet := He.glo_ok X G (c.t.d.fact 39 (f := .glo "Feet") rfl)
    cl_Feet := He.cls_ok (c.t.d.fact 40 (f := .cls "Feet") rfl)
    mk_Store := He.mkr_ok (c.t.d.fact 41 (f := .mkr "Store") rfl)
    mk_Desk := He.mkr_ok (c.t.d.fact 42 (f := .mkr "Desk") rfl)
    mt_Desk_redo := He.meth_ok (c.t.d.fact 43 (f := .meth "Desk" "redo") rfl)
    mk_Feet := He.mkr_ok (c.t.d.fact 44 (f := .mkr "Feet") rfl)
    mt_Store_put := He.meth_ok (c.t.d.fact 45 (f := .meth "Store" "put") rfl)
    a_Desk_deeds := ⟨_, He.glo_ok X G (c.t.d.fact 37 (f := .glo "Desk") rfl), He.cls_ok (c.t.d.fact 38 (f := .cls "Desk") rfl), He.noat_ok (c.t.d.fact 46 (f := .noat "Desk" "deeds") rfl)⟩
    a_Desk_text := ⟨_, He.glo_ok X G (c.t.d.fact 37 (f := .glo "Desk") rfl), He.cls_ok (c.t.d.fact 38 (f := .cls "Desk") rfl), He.noat_ok (c.t.d.fact 47 (f := .noat "Desk" "text") rfl)⟩
    a_Desk_undone := ⟨_, He.glo_ok X G (c.t.d.fact 37 (f := .glo "Desk") rfl), He.cls_ok (c.t.d.fact 38 (f := .cls "Desk") rfl), He.noat_ok (c.t.d.fact 48 (f := .noat "Desk" "undone") rfl)⟩
    a_Store_high := ⟨_, He.glo_ok X G (c.t.d.fact 35 (f := .glo "Store") rfl), He.cls_ok (c.t.d.fact 36 (f := .cls "Store") rfl), He.noat_ok (c.t.d.fact 49 (f := .noat "Store" "high") rfl)⟩
    a_Store_moved := ⟨_, He.glo_ok X G (c.t.d.fact 35 (f := .glo "Store") rfl), He.cls_ok (c.t.d.fact 36 (f := .cls "Store") rfl), He.noat_ok (c.t.d.fact 50 (f := .noat "Store" "moved") rfl)⟩
    a_Store_stacks := ⟨_, He.glo_ok X G (c.t.d.fact 35 (f := .glo "Store") rfl), He.cls_ok (c.t.d.fact 36 (f := .cls "Store") rfl), He.noat_ok (c.t.d.fact 51 (f := .noat "Store" "stacks") rfl)⟩
    e_BadDeed := ⟨_, He.glo_ok X G (c.t.d.fact 23 (f := .glo "BadDeed") rfl), He.exc_ok (c.t.d.fact 52 (f := .exc "BadDeed") rfl)⟩
    e_BadPlan := ⟨_, He.glo_ok X G (c.t.d.fact 17 (f := .glo "BadPlan") rfl), He.exc_ok (c.t.d.fact 53 (f := .exc "BadPlan") rfl)⟩
    e_BadShoe := ⟨_, He.glo_ok X G (c.t.d.fact 16 (f := .glo "BadShoe") rfl), He.exc_ok (c.t.d.fact 54 (f := .exc "BadShoe") rfl)⟩
    e_BadSize := ⟨_, He.glo_ok X G (c.t.d.fact 18 (f := .glo "BadSize") rfl), He.exc_ok (c.t.d.fact 55 (f := .exc "BadSize") rfl)⟩
    e_NoRoom := ⟨_, He.glo_ok X G (c.t.d.fact 20 (f := .glo "NoRoom") rfl), He.exc_ok (c.t.d.fact 56 (f := .exc "NoRoom") rfl)⟩
    e_NoSuch := ⟨_, He.glo_ok X G (c.t.d.fact 19 (f := .glo "NoSuch") rfl), He.exc_ok (c.t.d.fact 57 (f := .exc "NoSuch") rfl)⟩
    e_NoWay := ⟨_, He.glo_ok X G (c.t.d.fact 21 (f := .glo "NoWay") rfl), He.exc_ok (c.t.d.fact 58 (f := .exc "NoWay") rfl)⟩
    un := un_of X G c
    x_BadText := own_of X G c
    gt_Store_put := fun _ => gt_of (funD_at (c.t.d.def_ 8 (d := D_Store_put) rfl)) (nd_of c) (by simp [tf]) TB
    lt_law := lt_of (funD_at (c.t.d.def_ 11 (d := D_law) rfl)) (nd_of c) (by simp [tf]) TB }
end
theorem law_in (plain : ∀ ns : List Int, ns.length ≤ 63 → (∀ z ∈ ns, Builtin.Int.intBits z ≤ 1048576) → ∃ st, mFn 8 m_law [.lst (ns.map .int)] [] = .ok (.bl true) st) {w : World} {K : PySem.W.Frag} {h : Heap} {mg : Str → Option Value} {f : Addr} (X : K.In h) (G : h.Ns mainGlobals mg) (c : He.SaysX fa fn [] (tf.map (·.1)) ex w h K) (hf : mg "law" = some (.ref f)) :
    LamX.LawAtS PySem.Challenge.rw_shoehall_k24_refusals_apart w K (L2.CX PySem.Challenge.rw_shoehall_k24_refusals_apart.prog w) 5 63 "script" mg f h := by
  have g : mg "law" = some (.ref (He.fAd K ("law", none))) := He.glo_ok X G (c.t.d.fact 13 (f := .glo "law") rfl)
  rw [hf] at g
  cases g
  refine law_at (tf := tf) X c (fun s u => ?_) plain fun base KB GB TB => fn_law (facts_of (base := base) X G c TB)
  exact FunD.bindsA (ps := ["script"]) (funD_at (c.t.d.def_ 11 (d := D_law) rfl)) (fun _ _ _ _ _ _ us hl => match us, hl with | [_], _ => rfl) s [u] rfl
end
end K24
set_option autoImplicit true
set_option maxRecDepth 100000
set_option maxHeartbeats 4000000
namespace K24
open PySem PySem.Spec PyProof.Rows L2 Ev
theorem roll_eq {a b c many : Int} {i : Nat} {st : Sto} {P : D → Sto → Prop} {E : Exn → Sto → Prop} (hi : st[i]? = some (.ls [.int a, .int b, .int c])) (h0 : 0 < many) (h1 : many < 1073741824)
    (h : ∀ v a b c, 0 ≤ v → v < many → P (.int v) (st.set i (.ls [.int a, .int b, .int c]))) : wpR (mFn 3 m__law_roll [.loc i, .int many] st) P E := by
  have hl : i < st.length := (List.getElem?_eq_some_iff.mp hi).1
  have e1 := Int.emod_nonneg
  rw [wp_fn]
  unfold m__law_roll
  simp only [wo_seq, wo_if]
  by_cases hc : c = 2 ∨ (c = 1 ∧ 0 < a)
  · have key : wpR (mOr (mTest (mBin (mBin (mVar 0) (mK (.int 2)) fun d i st => Res.of (dIx d i st) st) (mK (.int 2)) (pure2 dEq))) (mAnd (mTest (mBin (mBin (mVar 0) (mK (.int 2)) fun d i st => Res.of (dIx d i st) st) (mK (.int 1)) (pure2 dEq))) (mTest (mBin (mBin (mVar 0) (mK (.int 0)) fun d i st => Res.of (dIx d i st) st) (mK (.int 0)) (pure2 (dOrd fGt))))) [some (.loc i), some (.int many), none] st) (fun k st' => k = true ∧ st' = st) (fun _ _ => False) := by
      simp [dIx_loc hi]
      rcases hc with rfl | ⟨rfl, h⟩ <;> simp [*]
    refine key.imp (fun k st' q => ?_) (fun _ _ z => z.elim)
    rw [q.1, q.2]
    simp [dIx_loc hi, dMod_i h0, dDiv_i h0 h1, contL_obj hi]
    exact h _ _ _ _ (Int.emod_nonneg _ (by omega)) (Int.emod_lt_of_pos _ h0)
  · have key : wpR (mOr (mTest (mBin (mBin (mVar 0) (mK (.int 2)) fun d i st => Res.of (dIx d i st) st) (mK (.int 2)) (pure2 dEq))) (mAnd (mTest (mBin (mBin (mVar 0) (mK (.int 2)) fun d i st => Res.of (dIx d i st) st) (mK (.int 1)) (pure2 dEq))) (mTest (mBin (mBin (mVar 0) (mK (.int 0)) fun d i st => Res.of (dIx d i st) st) (mK (.int 0)) (pure2 (dOrd fGt))))) [some (.loc i), some (.int many), none] st) (fun k st' => k = false ∧ st' = st) (fun _ _ => False) := by
      simp [dIx_loc hi]
      have h2 : c ≠ 2 := fun z => hc (.inl z)
      by_cases h3 : c = 1
      · subst h3
        have h4 : a ≤ 0 := by
          have := fun z => hc (.inr ⟨rfl, z⟩)
          omega
        simp [h4]
      · simp [h2, h3]
    refine key.imp (fun k st' q => ?_) (fun _ _ z => z.elim)
    rw [q.1, q.2]
    clear key
    simp only [Bool.false_eq_true, false_implies, true_implies, true_and, wo_pass, forall_const, reduceCtorEq]
    have s1 : (st.set i (.ls [.int a, .int b, .int 0]))[i]? = some (.ls [.int a, .int b, .int 0]) := List.getElem?_set_self hl
    simp [contL_obj hi]
    generalize h5 : (a * 48271 + b * 69621 + 11) % 2147483647 = a2
    have s2 : (st.set i (.ls [.int a2, .int b, .int 0]))[i]? = some (.ls [.int a2, .int b, .int 0]) := List.getElem?_set_self hl
    have s3 : (st.set i (.ls [.int a2, .int (b + 1), .int 0]))[i]? = some (.ls [.int a2, .int (b + 1), .int 0]) := List.getElem?_set_self hl
    simp [dIx_loc s1, dIx_loc s2, dIx_loc s3, contL_obj s1, contL_obj s2, contL_obj s3, dMul_i, dMod_i, dDiv_i, h5, h0]
    exact h _ _ _ _ (Int.emod_nonneg _ (by omega)) (Int.emod_lt_of_pos _ h0)
def Dice (st : Sto) (d : Nat) : Prop := ∃ a b c : Int, st[d]? = some (.ls [.int a, .int b, .int c])
/-- only the dice differ -/
def But (d : Nat) (st st' : Sto) : Prop := st'.length = st.length ∧ ∀ n, n ≠ d → st'[n]? = st[n]?
theorem But.refl {d : Nat} {st : Sto} : But d st st := ⟨rfl, fun _ _ => rfl⟩
theorem But.trans {d : Nat} {a b c : Sto} (x : But d a b) (y : But d b c) : But d a c := ⟨y.1.trans x.1, fun n h => (y.2 n h).trans (x.2 n h)⟩
section
variable {st : Sto} {d : Nat} {P : D → Sto → Prop} {E : Exn → Sto → Prop} {many : Int}
theorem roll_wp (h : Dice st d) (h0 : 0 < many) (h1 : many < 1073741824) (k : ∀ v st', 0 ≤ v → v < many → Dice st' d → But d st st' → P (.int v) st') : wpR (mFn 3 m__law_roll [.loc d, .int many] st) P E := by
  obtain ⟨a, b, c, e⟩ := h
  have hl : d < st.length := (List.getElem?_eq_some_iff.mp e).1
  refine roll_eq e h0 h1 fun v a b c v0 v1 => k v _ v0 v1 ⟨a, b, c, List.getElem?_set_self hl⟩ ⟨List.length_set, fun n hn => List.getElem?_set_ne (Ne.symm hn)⟩
end
section
variable {st : Sto}
theorem wp_val {α : Type} {r : Res α} {v : α} {st : Sto} {P : α → Sto → Prop} {E : Exn → Sto → Prop} (h : r = .ok v st) (k : P v st) : wpR r P E := by rw [h]; exact k
end
section
variable {st : Sto} {P : D → Sto → Prop} {E : Exn → Sto → Prop}
theorem pow_18 : dPow (D.int 10) (D.int 18) = some (.int 1000000000000000000) := by kernel_rfl
theorem dice_wp {z : Int} (k : ∀ a b c : Int, P (.loc st.length) (st ++ [.ls [.int a, .int b, .int c]])) : wpR (mFn 1 m__law_dice [.int z] st) P E := by
  rw [wp_fn]
  unfold m__law_dice
  simp
  cases e1 : ordOf CmpOp.Lt (-10) z with
  | false => exact .inl ⟨rfl, _, dMod_i (by decide), _, dAdd_i, _, pow_18, _, dGe_i, _, rfl, k _ _ _⟩
  | true =>
    refine .inr ⟨rfl, ?_⟩
    cases e2 : ordOf CmpOp.Lt z 10 with
    | false => exact .inl ⟨rfl, _, dMod_i (by decide), _, dAdd_i, _, pow_18, _, dGe_i, _, rfl, k _ _ _⟩
    | true => exact .inr ⟨rfl, k _ _ _⟩
theorem rounds_wp {ns : List Int} (k : ∀ a b c : Int, P (.lst [.loc st.length]) (st ++ [.ls [.int a, .int b, .int c]])) : wpR (mFn 4 m__law_rounds [.lst (ns.map .int), .int 1] st) P E := by
  rw [wp_fn]
  unfold m__law_rounds
  have key : ∀ z : Int, wpR (mComp (mItems (mVar 2)) [3] (gvN 3) mYes (mCall (mFn 1 m__law_dice) (mCons (mVar 3) mNil)) [some (.lst (ns.map .int)), some (.int 1), some (.lst [.int z]), none] st) (fun ds st' => ∃ a b c : Int, ds = [.loc st.length] ∧ st' = (st ++ [.ls [.int a, .int b, .int c]])) (fun _ _ => False) := by
    intro z
    refine wp_compI (fun ds acc s => (ds = [.int z] ∧ acc = [] ∧ s = st) ∨ (ds = [] ∧ ∃ a b c : Int, acc = [.loc st.length] ∧ s = (st ++ [.ls [.int a, .int b, .int c]]))) ?_
    simp [D.items]
    rintro d ds acc s rfl rfl rfl rfl
    refine ⟨_, rfl, ?_⟩
    simp [wipeE]
    exact wp_val (v := true) (st := s) (by rfl) ⟨fun _ => dice_wp fun a b c => ⟨rfl, a, b, c, rfl⟩, rfl⟩
  cases ns with
  | nil =>
    simp
    refine ⟨_, rfl, .inr ⟨(by rfl), (key 0).imp (fun ds st' ⟨a, b, c, q1, q2⟩ => ?_) fun _ _ z => z.elim⟩⟩
    rw [q1, q2]; exact k a b c
  | cons z r =>
    have hc : Ev.cutD (D.int z :: List.map D.int r) none (some 1) = [.int z] := by
      simp [Ev.cutD, HT.sIx]
    simp [hc]
    refine ⟨_, rfl, .inl ⟨(by rfl), (key z).imp (fun ds st' ⟨a, b, c, q1, q2⟩ => ?_) fun _ _ z => z.elim⟩⟩
    rw [q1, q2]; exact k a b c
end
end K24
set_option autoImplicit true
set_option maxRecDepth 100000
set_option maxHeartbeats 4000000
namespace K24
open PySem PySem.Spec PyProof.Rows L2 Ev
def deskO : SObj := .ins "Desk" [("text", .str "1 boot made 8\n2 boot sold 3\n2 clog made 4\n3 boot spoilt 2"), ("deeds", .own []), ("undone", .own [])]
def storeO (xs : List D) : SObj := .ins "Store" [("high", .int 1), ("stacks", .own [.ptp xs]), ("moved", .int 0)]
def l0 : M D := (mMeth "Desk" "redo" (mFn 2 m_Desk_redo) (mVar 5) mNil)
def l1 : M D := (mMake "Store" (mFn 3 m_Store___init__) (mCons (mBin (mK (.int 1)) (mVar 4) (pure2 dSub)) (mCons (mK (.int 1)) mNil)))
def l2 : M D := (mMake "Feet" (mFn 5 m_Feet___init__) (mCons (mTup (mCons (mVar 4) (mCons (mBin (mVar 4) (mK (.int 1)) (pure2 dAdd)) mNil))) (mCons (mTup (mCons (mVar 4) (mCons (mK (.int 1)) mNil))) mNil)))
def l3 : M D := (mCall (mFn 4 m_crossed) (mCons (mBin (mK (.int 1)) (mVar 4) (pure2 dSub)) mNil))
def l4 : M D := (mCall (mFn 5 m_read_row) (mCons (mBin (mK (.str "x")) (mVar 4) (pure2 dMulS)) mNil))
def l5 : M D := (mMeth "Store" "put" (mFn 4 m_Store_put) (mVar 6) (mCons (mK (.str "b")) (mCons (mK (.int 0)) mNil)))
def l6 : M D := (mMeth "Store" "put" (mFn 4 m_Store_put) (mVar 6) (mCons (mK (.str "b")) (mCons (mVar 4) mNil)))
def l7 : M D := (mCall (mFn 4 m_lace_for) (mCons (mUn (mSmall (mCons (mVar 4) mNil)) fun ds st => .ok (.lst ds) st) (mCons (mBin (mVar 4) (mK (.int 1)) (pure2 dAdd)) mNil)))
def mk_ : M D := (mCall (mFn 3 m__law_roll) (mCons (mVar 1) (mCons (mK (.int 8)) mNil)))
def mr_ : M D := (mUn (mBin (mUn (mComp (mUn (mCons (mK (.int 8)) mNil) fun ds st => Res.of (dRange1 ds) st) [7] (gvN 7) mYes (mBin (mVar 7) (mVar 3) (pure2 dEq))) fun ds st => .ok (.lst ds) st) (mUn (mSmall (mCons (mK (.bl true)) mNil)) fun ds st => .ok (.lst ds) st) fCat) fun ds st => .ok (.lst ds) st)
def envB (ns : D) (m : Int) (k : Option D) : Ev.Env := [some ns, some (.loc 0), none, k, some (.int m), some (.loc 1), some (.loc 2), none]
theorem made_desk (D0 : SObj) (env : Ev.Env) : mMake "Desk" (mFn 1 m_Desk___init__) mNil env [D0] = .ok (.loc 1) [D0, deskO] := by kernel_rfl
theorem made_store (D0 : SObj) (env : Ev.Env) : mMake "Store" (mFn 3 m_Store___init__) (mCons (mK (.int 1)) (mCons (mK (.int 1)) mNil)) env [D0, deskO] = .ok (.loc 2) [D0, deskO, storeO []] := by kernel_rfl
theorem put_a (D0 ns : _) (m : Int) : mMeth "Store" "put" (mFn 4 m_Store_put) (mVar 6) (mCons (mK (.str "a")) (mCons (mK (.int 0)) mNil)) (envB ns m none) [D0, deskO, storeO []] = .ok .non [D0, deskO, storeO [.str "a"]] := by kernel_rfl
def nxB (o : Out) : Bool := match o with
  | .nx _ _ => true
  | _ => false
/-- behind k = .. -/
def tl (mm mr : M D) (env : Ev.Env) (st : Sto) : Out := match mm env st with
  | .exc e st2 => (match ans e.cls with
    | some bs => (match mr env st2 with
      | .ok d st3 => (match dNe (.lst (bs.map .bl)) d with
        | some (.bl true) => .rt (.bl false) st3
        | some (.bl false) => .nx env st3
        | _ => .bad)
      | _ => .bad)
    | none => .bad)
  | _ => .bad
theorem t0 (D0 : SObj) (ns : D) (m : Int) : nxB (tl l0 mr_ (envB ns m (some (.int 0))) [D0, deskO, storeO [.str "a"]]) = true := by kernel_rfl
theorem t1 (D0 : SObj) (ns : D) : ∀ m : Nat, m < 90 → nxB (tl l1 mr_ (envB ns ((m : Int) + 1) (some (.int 1))) [D0, deskO, storeO [.str "a"]]) = true
  | 0, _ => by kernel_rfl
  | 1, _ => by kernel_rfl
  | 2, _ => by kernel_rfl
  | 3, _ => by kernel_rfl
  | 4, _ => by kernel_rfl
  | 5, _ => by kernel_rfl
  | 6, _ => by kernel_rfl
  | 7, _ => by kernel_rfl
  | 8, _ => by kernel_rfl
  | 9, _ => by kernel_rfl
  | 10, _ => by kernel_rfl
  | 11, _ => by kernel_rfl
  | 12, _ => by kernel_rfl
  | 13, _ => by kernel_rfl
  | 14, _ => by kernel_rfl
  | 15, _ => by kernel_rfl
  | 16, _ => by kernel_rfl
  | 17, _ => by kernel_rfl
  | 18, _ => by kernel_rfl
  | 19, _ => by kernel_rfl
  | 20, _ => by kernel_rfl
  | 21, _ => by kernel_rfl
  | 22, _ => by kernel_rfl
  | 23, _ => by kernel_rfl
  | 24, _ => by kernel_rfl
  | 25, _ => by kernel_rfl
  | 26, _ => by kernel_rfl
  | 27, _ => by kernel_rfl
  | 28, _ => by kernel_rfl
  | 29, _ => by kernel_rfl
  | 30, _ => by kernel_rfl
  | 31, _ => by kernel_rfl
  | 32, _ => by kernel_rfl
  | 33, _ => by kernel_rfl
  | 34, _ => by kernel_rfl
  | 35, _ => by kernel_rfl
  | 36, _ => by kernel_rfl
  | 37, _ => by kernel_rfl
  | 38, _ => by kernel_rfl
  | 39, _ => by kernel_rfl
  | 40, _ => by kernel_rfl
  | 41, _ => by kernel_rfl
  | 42, _ => by kernel_rfl
  | 43, _ => by kernel_rfl
  | 44, _ => by kernel_rfl
  | 45, _ => by kernel_rfl
  | 46, _ => by kernel_rfl
  | 47, _ => by kernel_rfl
  | 48, _ => by kernel_rfl
  | 49, _ => by kernel_rfl
  | 50, _ => by kernel_rfl
  | 51, _ => by kernel_rfl
  | 52, _ => by kernel_rfl
  | 53, _ => by kernel_rfl
  | 54, _ => by kernel_rfl
  | 55, _ => by kernel_rfl
  | 56, _ => by kernel_rfl
  | 57, _ => by kernel_rfl
  | 58, _ => by kernel_rfl
  | 59, _ => by kernel_rfl
  | 60, _ => by kernel_rfl
  | 61, _ => by kernel_rfl
  | 62, _ => by kernel_rfl
  | 63, _ => by kernel_rfl
  | 64, _ => by kernel_rfl
  | 65, _ => by kernel_rfl
  | 66, _ => by kernel_rfl
  | 67, _ => by kernel_rfl
  | 68, _ => by kernel_rfl
  | 69, _ => by kernel_rfl
  | 70, _ => by kernel_rfl
  | 71, _ => by kernel_rfl
  | 72, _ => by kernel_rfl
  | 73, _ => by kernel_rfl
  | 74, _ => by kernel_rfl
  | 75, _ => by kernel_rfl
  | 76, _ => by kernel_rfl
  | 77, _ => by kernel_rfl
  | 78, _ => by kernel_rfl
  | 79, _ => by kernel_rfl
  | 80, _ => by kernel_rfl
  | 81, _ => by kernel_rfl
  | 82, _ => by kernel_rfl
  | 83, _ => by kernel_rfl
  | 84, _ => by kernel_rfl
  | 85, _ => by kernel_rfl
  | 86, _ => by kernel_rfl
  | 87, _ => by kernel_rfl
  | 88, _ => by kernel_rfl
  | 89, _ => by kernel_rfl
  | m + 90, h => absurd h (by omega)
theorem t2 (D0 : SObj) (ns : D) : ∀ m : Nat, m < 90 → nxB (tl l2 mr_ (envB ns ((m : Int) + 1) (some (.int 2))) [D0, deskO, storeO [.str "a"]]) = true
  | 0, _ => by kernel_rfl
  | 1, _ => by kernel_rfl
  | 2, _ => by kernel_rfl
  | 3, _ => by kernel_rfl
  | 4, _ => by kernel_rfl
  | 5, _ => by kernel_rfl
  | 6, _ => by kernel_rfl
  | 7, _ => by kernel_rfl
  | 8, _ => by kernel_rfl
  | 9, _ => by kernel_rfl
  | 10, _ => by kernel_rfl
  | 11, _ => by kernel_rfl
  | 12, _ => by kernel_rfl
  | 13, _ => by kernel_rfl
  | 14, _ => by kernel_rfl
  | 15, _ => by kernel_rfl
  | 16, _ => by kernel_rfl
  | 17, _ => by kernel_rfl
  | 18, _ => by kernel_rfl
  | 19, _ => by kernel_rfl
  | 20, _ => by kernel_rfl
  | 21, _ => by kernel_rfl
  | 22, _ => by kernel_rfl
  | 23, _ => by kernel_rfl
  | 24, _ => by kernel_rfl
  | 25, _ => by kernel_rfl
  | 26, _ => by kernel_rfl
  | 27, _ => by kernel_rfl
  | 28, _ => by kernel_rfl
  | 29, _ => by kernel_rfl
  | 30, _ => by kernel_rfl
  | 31, _ => by kernel_rfl
  | 32, _ => by kernel_rfl
  | 33, _ => by kernel_rfl
  | 34, _ => by kernel_rfl
  | 35, _ => by kernel_rfl
  | 36, _ => by kernel_rfl
  | 37, _ => by kernel_rfl
  | 38, _ => by kernel_rfl
  | 39, _ => by kernel_rfl
  | 40, _ => by kernel_rfl
  | 41, _ => by kernel_rfl
  | 42, _ => by kernel_rfl
  | 43, _ => by kernel_rfl
  | 44, _ => by kernel_rfl
  | 45, _ => by kernel_rfl
  | 46, _ => by kernel_rfl
  | 47, _ => by kernel_rfl
  | 48, _ => by kernel_rfl
  | 49, _ => by kernel_rfl
  | 50, _ => by kernel_rfl
  | 51, _ => by kernel_rfl
  | 52, _ => by kernel_rfl
  | 53, _ => by kernel_rfl
  | 54, _ => by kernel_rfl
  | 55, _ => by kernel_rfl
  | 56, _ => by kernel_rfl
  | 57, _ => by kernel_rfl
  | 58, _ => by kernel_rfl
  | 59, _ => by kernel_rfl
  | 60, _ => by kernel_rfl
  | 61, _ => by kernel_rfl
  | 62, _ => by kernel_rfl
  | 63, _ => by kernel_rfl
  | 64, _ => by kernel_rfl
  | 65, _ => by kernel_rfl
  | 66, _ => by kernel_rfl
  | 67, _ => by kernel_rfl
  | 68, _ => by kernel_rfl
  | 69, _ => by kernel_rfl
  | 70, _ => by kernel_rfl
  | 71, _ => by kernel_rfl
  | 72, _ => by kernel_rfl
  | 73, _ => by kernel_rfl
  | 74, _ => by kernel_rfl
  | 75, _ => by kernel_rfl
  | 76, _ => by kernel_rfl
  | 77, _ => by kernel_rfl
  | 78, _ => by kernel_rfl
  | 79, _ => by kernel_rfl
  | 80, _ => by kernel_rfl
  | 81, _ => by kernel_rfl
  | 82, _ => by kernel_rfl
  | 83, _ => by kernel_rfl
  | 84, _ => by kernel_rfl
  | 85, _ => by kernel_rfl
  | 86, _ => by kernel_rfl
  | 87, _ => by kernel_rfl
  | 88, _ => by kernel_rfl
  | 89, _ => by kernel_rfl
  | m + 90, h => absurd h (by omega)
theorem t3 (D0 : SObj) (ns : D) : ∀ m : Nat, m < 90 → nxB (tl l3 mr_ (envB ns ((m : Int) + 1) (some (.int 3))) [D0, deskO, storeO [.str "a"]]) = true
  | 0, _ => by kernel_rfl
  | 1, _ => by kernel_rfl
  | 2, _ => by kernel_rfl
  | 3, _ => by kernel_rfl
  | 4, _ => by kernel_rfl
  | 5, _ => by kernel_rfl
  | 6, _ => by kernel_rfl
  | 7, _ => by kernel_rfl
  | 8, _ => by kernel_rfl
  | 9, _ => by kernel_rfl
  | 10, _ => by kernel_rfl
  | 11, _ => by kernel_rfl
  | 12, _ => by kernel_rfl
  | 13, _ => by kernel_rfl
  | 14, _ => by kernel_rfl
  | 15, _ => by kernel_rfl
  | 16, _ => by kernel_rfl
  | 17, _ => by kernel_rfl
  | 18, _ => by kernel_rfl
  | 19, _ => by kernel_rfl
  | 20, _ => by kernel_rfl
  | 21, _ => by kernel_rfl
  | 22, _ => by kernel_rfl
  | 23, _ => by kernel_rfl
  | 24, _ => by kernel_rfl
  | 25, _ => by kernel_rfl
  | 26, _ => by kernel_rfl
  | 27, _ => by kernel_rfl
  | 28, _ => by kernel_rfl
  | 29, _ => by kernel_rfl
  | 30, _ => by kernel_rfl
  | 31, _ => by kernel_rfl
  | 32, _ => by kernel_rfl
  | 33, _ => by kernel_rfl
  | 34, _ => by kernel_rfl
  | 35, _ => by kernel_rfl
  | 36, _ => by kernel_rfl
  | 37, _ => by kernel_rfl
  | 38, _ => by kernel_rfl
  | 39, _ => by kernel_rfl
  | 40, _ => by kernel_rfl
  | 41, _ => by kernel_rfl
  | 42, _ => by kernel_rfl
  | 43, _ => by kernel_rfl
  | 44, _ => by kernel_rfl
  | 45, _ => by kernel_rfl
  | 46, _ => by kernel_rfl
  | 47, _ => by kernel_rfl
  | 48, _ => by kernel_rfl
  | 49, _ => by kernel_rfl
  | 50, _ => by kernel_rfl
  | 51, _ => by kernel_rfl
  | 52, _ => by kernel_rfl
  | 53, _ => by kernel_rfl
  | 54, _ => by kernel_rfl
  | 55, _ => by kernel_rfl
  | 56, _ => by kernel_rfl
  | 57, _ => by kernel_rfl
  | 58, _ => by kernel_rfl
  | 59, _ => by kernel_rfl
  | 60, _ => by kernel_rfl
  | 61, _ => by kernel_rfl
  | 62, _ => by kernel_rfl
  | 63, _ => by kernel_rfl
  | 64, _ => by kernel_rfl
  | 65, _ => by kernel_rfl
  | 66, _ => by kernel_rfl
  | 67, _ => by kernel_rfl
  | 68, _ => by kernel_rfl
  | 69, _ => by kernel_rfl
  | 70, _ => by kernel_rfl
  | 71, _ => by kernel_rfl
  | 72, _ => by kernel_rfl
  | 73, _ => by kernel_rfl
  | 74, _ => by kernel_rfl
  | 75, _ => by kernel_rfl
  | 76, _ => by kernel_rfl
  | 77, _ => by kernel_rfl
  | 78, _ => by kernel_rfl
  | 79, _ => by kernel_rfl
  | 80, _ => by kernel_rfl
  | 81, _ => by kernel_rfl
  | 82, _ => by kernel_rfl
  | 83, _ => by kernel_rfl
  | 84, _ => by kernel_rfl
  | 85, _ => by kernel_rfl
  | 86, _ => by kernel_rfl
  | 87, _ => by kernel_rfl
  | 88, _ => by kernel_rfl
  | 89, _ => by kernel_rfl
  | m + 90, h => absurd h (by omega)
theorem t4 (D0 : SObj) (ns : D) : ∀ m : Nat, m < 90 → nxB (tl l4 mr_ (envB ns ((m : Int) + 1) (some (.int 4))) [D0, deskO, storeO [.str "a"]]) = true
  | 0, _ => by kernel_rfl
  | 1, _ => by kernel_rfl
  | 2, _ => by kernel_rfl
  | 3, _ => by kernel_rfl
  | 4, _ => by kernel_rfl
  | 5, _ => by kernel_rfl
  | 6, _ => by kernel_rfl
  | 7, _ => by kernel_rfl
  | 8, _ => by kernel_rfl
  | 9, _ => by kernel_rfl
  | 10, _ => by kernel_rfl
  | 11, _ => by kernel_rfl
  | 12, _ => by kernel_rfl
  | 13, _ => by kernel_rfl
  | 14, _ => by kernel_rfl
  | 15, _ => by kernel_rfl
  | 16, _ => by kernel_rfl
  | 17, _ => by kernel_rfl
  | 18, _ => by kernel_rfl
  | 19, _ => by kernel_rfl
  | 20, _ => by kernel_rfl
  | 21, _ => by kernel_rfl
  | 22, _ => by kernel_rfl
  | 23, _ => by kernel_rfl
  | 24, _ => by kernel_rfl
  | 25, _ => by kernel_rfl
  | 26, _ => by kernel_rfl
  | 27, _ => by kernel_rfl
  | 28, _ => by kernel_rfl
  | 29, _ => by kernel_rfl
  | 30, _ => by kernel_rfl
  | 31, _ => by kernel_rfl
  | 32, _ => by kernel_rfl
  | 33, _ => by kernel_rfl
  | 34, _ => by kernel_rfl
  | 35, _ => by kernel_rfl
  | 36, _ => by kernel_rfl
  | 37, _ => by kernel_rfl
  | 38, _ => by kernel_rfl
  | 39, _ => by kernel_rfl
  | 40, _ => by kernel_rfl
  | 41, _ => by kernel_rfl
  | 42, _ => by kernel_rfl
  | 43, _ => by kernel_rfl
  | 44, _ => by kernel_rfl
  | 45, _ => by kernel_rfl
  | 46, _ => by kernel_rfl
  | 47, _ => by kernel_rfl
  | 48, _ => by kernel_rfl
  | 49, _ => by kernel_rfl
  | 50, _ => by kernel_rfl
  | 51, _ => by kernel_rfl
  | 52, _ => by kernel_rfl
  | 53, _ => by kernel_rfl
  | 54, _ => by kernel_rfl
  | 55, _ => by kernel_rfl
  | 56, _ => by kernel_rfl
  | 57, _ => by kernel_rfl
  | 58, _ => by kernel_rfl
  | 59, _ => by kernel_rfl
  | 60, _ => by kernel_rfl
  | 61, _ => by kernel_rfl
  | 62, _ => by kernel_rfl
  | 63, _ => by kernel_rfl
  | 64, _ => by kernel_rfl
  | 65, _ => by kernel_rfl
  | 66, _ => by kernel_rfl
  | 67, _ => by kernel_rfl
  | 68, _ => by kernel_rfl
  | 69, _ => by kernel_rfl
  | 70, _ => by kernel_rfl
  | 71, _ => by kernel_rfl
  | 72, _ => by kernel_rfl
  | 73, _ => by kernel_rfl
  | 74, _ => by kernel_rfl
  | 75, _ => by kernel_rfl
  | 76, _ => by kernel_rfl
  | 77, _ => by kernel_rfl
  | 78, _ => by kernel_rfl
  | 79, _ => by kernel_rfl
  | 80, _ => by kernel_rfl
  | 81, _ => by kernel_rfl
  | 82, _ => by kernel_rfl
  | 83, _ => by kernel_rfl
  | 84, _ => by kernel_rfl
  | 85, _ => by kernel_rfl
  | 86, _ => by kernel_rfl
  | 87, _ => by kernel_rfl
  | 88, _ => by kernel_rfl
  | 89, _ => by kernel_rfl
  | m + 90, h => absurd h (by omega)
theorem t5 (D0 : SObj) (ns : D) (m : Int) : nxB (tl l5 mr_ (envB ns m (some (.int 5))) [D0, deskO, storeO [.str "a"]]) = true := by kernel_rfl
theorem t6 (D0 : SObj) (ns : D) : ∀ m : Nat, m < 90 → nxB (tl l6 mr_ (envB ns ((m : Int) + 1) (some (.int 6))) [D0, deskO, storeO [.str "a"]]) = true
  | 0, _ => by kernel_rfl
  | 1, _ => by kernel_rfl
  | 2, _ => by kernel_rfl
  | 3, _ => by kernel_rfl
  | 4, _ => by kernel_rfl
  | 5, _ => by kernel_rfl
  | 6, _ => by kernel_rfl
  | 7, _ => by kernel_rfl
  | 8, _ => by kernel_rfl
  | 9, _ => by kernel_rfl
  | 10, _ => by kernel_rfl
  | 11, _ => by kernel_rfl
  | 12, _ => by kernel_rfl
  | 13, _ => by kernel_rfl
  | 14, _ => by kernel_rfl
  | 15, _ => by kernel_rfl
  | 16, _ => by kernel_rfl
  | 17, _ => by kernel_rfl
  | 18, _ => by kernel_rfl
  | 19, _ => by kernel_rfl
  | 20, _ => by kernel_rfl
  | 21, _ => by kernel_rfl
  | 22, _ => by kernel_rfl
  | 23, _ => by kernel_rfl
  | 24, _ => by kernel_rfl
  | 25, _ => by kernel_rfl
  | 26, _ => by kernel_rfl
  | 27, _ => by kernel_rfl
  | 28, _ => by kernel_rfl
  | 29, _ => by kernel_rfl
  | 30, _ => by kernel_rfl
  | 31, _ => by kernel_rfl
  | 32, _ => by kernel_rfl
  | 33, _ => by kernel_rfl
  | 34, _ => by kernel_rfl
  | 35, _ => by kernel_rfl
  | 36, _ => by kernel_rfl
  | 37, _ => by kernel_rfl
  | 38, _ => by kernel_rfl
  | 39, _ => by kernel_rfl
  | 40, _ => by kernel_rfl
  | 41, _ => by kernel_rfl
  | 42, _ => by kernel_rfl
  | 43, _ => by kernel_rfl
  | 44, _ => by kernel_rfl
  | 45, _ => by kernel_rfl
  | 46, _ => by kernel_rfl
  | 47, _ => by kernel_rfl
  | 48, _ => by kernel_rfl
  | 49, _ => by kernel_rfl
  | 50, _ => by kernel_rfl
  | 51, _ => by kernel_rfl
  | 52, _ => by kernel_rfl
  | 53, _ => by kernel_rfl
  | 54, _ => by kernel_rfl
  | 55, _ => by kernel_rfl
  | 56, _ => by kernel_rfl
  | 57, _ => by kernel_rfl
  | 58, _ => by kernel_rfl
  | 59, _ => by kernel_rfl
  | 60, _ => by kernel_rfl
  | 61, _ => by kernel_rfl
  | 62, _ => by kernel_rfl
  | 63, _ => by kernel_rfl
  | 64, _ => by kernel_rfl
  | 65, _ => by kernel_rfl
  | 66, _ => by kernel_rfl
  | 67, _ => by kernel_rfl
  | 68, _ => by kernel_rfl
  | 69, _ => by kernel_rfl
  | 70, _ => by kernel_rfl
  | 71, _ => by kernel_rfl
  | 72, _ => by kernel_rfl
  | 73, _ => by kernel_rfl
  | 74, _ => by kernel_rfl
  | 75, _ => by kernel_rfl
  | 76, _ => by kernel_rfl
  | 77, _ => by kernel_rfl
  | 78, _ => by kernel_rfl
  | 79, _ => by kernel_rfl
  | 80, _ => by kernel_rfl
  | 81, _ => by kernel_rfl
  | 82, _ => by kernel_rfl
  | 83, _ => by kernel_rfl
  | 84, _ => by kernel_rfl
  | 85, _ => by kernel_rfl
  | 86, _ => by kernel_rfl
  | 87, _ => by kernel_rfl
  | 88, _ => by kernel_rfl
  | 89, _ => by kernel_rfl
  | m + 90, h => absurd h (by omega)
theorem t7 (D0 : SObj) (ns : D) : ∀ m : Nat, m < 90 → nxB (tl l7 mr_ (envB ns ((m : Int) + 1) (some (.int 7))) [D0, deskO, storeO [.str "a"]]) = true
  | 0, _ => by kernel_rfl
  | 1, _ => by kernel_rfl
  | 2, _ => by kernel_rfl
  | 3, _ => by kernel_rfl
  | 4, _ => by kernel_rfl
  | 5, _ => by kernel_rfl
  | 6, _ => by kernel_rfl
  | 7, _ => by kernel_rfl
  | 8, _ => by kernel_rfl
  | 9, _ => by kernel_rfl
  | 10, _ => by kernel_rfl
  | 11, _ => by kernel_rfl
  | 12, _ => by kernel_rfl
  | 13, _ => by kernel_rfl
  | 14, _ => by kernel_rfl
  | 15, _ => by kernel_rfl
  | 16, _ => by kernel_rfl
  | 17, _ => by kernel_rfl
  | 18, _ => by kernel_rfl
  | 19, _ => by kernel_rfl
  | 20, _ => by kernel_rfl
  | 21, _ => by kernel_rfl
  | 22, _ => by kernel_rfl
  | 23, _ => by kernel_rfl
  | 24, _ => by kernel_rfl
  | 25, _ => by kernel_rfl
  | 26, _ => by kernel_rfl
  | 27, _ => by kernel_rfl
  | 28, _ => by kernel_rfl
  | 29, _ => by kernel_rfl
  | 30, _ => by kernel_rfl
  | 31, _ => by kernel_rfl
  | 32, _ => by kernel_rfl
  | 33, _ => by kernel_rfl
  | 34, _ => by kernel_rfl
  | 35, _ => by kernel_rfl
  | 36, _ => by kernel_rfl
  | 37, _ => by kernel_rfl
  | 38, _ => by kernel_rfl
  | 39, _ => by kernel_rfl
  | 40, _ => by kernel_rfl
  | 41, _ => by kernel_rfl
  | 42, _ => by kernel_rfl
  | 43, _ => by kernel_rfl
  | 44, _ => by kernel_rfl
  | 45, _ => by kernel_rfl
  | 46, _ => by kernel_rfl
  | 47, _ => by kernel_rfl
  | 48, _ => by kernel_rfl
  | 49, _ => by kernel_rfl
  | 50, _ => by kernel_rfl
  | 51, _ => by kernel_rfl
  | 52, _ => by kernel_rfl
  | 53, _ => by kernel_rfl
  | 54, _ => by kernel_rfl
  | 55, _ => by kernel_rfl
  | 56, _ => by kernel_rfl
  | 57, _ => by kernel_rfl
  | 58, _ => by kernel_rfl
  | 59, _ => by kernel_rfl
  | 60, _ => by kernel_rfl
  | 61, _ => by kernel_rfl
  | 62, _ => by kernel_rfl
  | 63, _ => by kernel_rfl
  | 64, _ => by kernel_rfl
  | 65, _ => by kernel_rfl
  | 66, _ => by kernel_rfl
  | 67, _ => by kernel_rfl
  | 68, _ => by kernel_rfl
  | 69, _ => by kernel_rfl
  | 70, _ => by kernel_rfl
  | 71, _ => by kernel_rfl
  | 72, _ => by kernel_rfl
  | 73, _ => by kernel_rfl
  | 74, _ => by kernel_rfl
  | 75, _ => by kernel_rfl
  | 76, _ => by kernel_rfl
  | 77, _ => by kernel_rfl
  | 78, _ => by kernel_rfl
  | 79, _ => by kernel_rfl
  | 80, _ => by kernel_rfl
  | 81, _ => by kernel_rfl
  | 82, _ => by kernel_rfl
  | 83, _ => by kernel_rfl
  | 84, _ => by kernel_rfl
  | 85, _ => by kernel_rfl
  | 86, _ => by kernel_rfl
  | 87, _ => by kernel_rfl
  | 88, _ => by kernel_rfl
  | 89, _ => by kernel_rfl
  | m + 90, h => absurd h (by omega)
end K24
set_option autoImplicit true
set_option maxRecDepth 100000
set_option maxHeartbeats 4000000
set_option pp.maxSteps 300
namespace K24
open PySem PySem.Spec PyProof.Rows L2 Ev
theorem under_tl {env : Ev.Env} {st st1 : Sto} {n : Int} {ms : List (M D)} {mk mr mm : M D} (h : mk (env.set 2 none) st = .ok (.int n) st1) (hn : 0 ≤ n) (hm : ms[n.toNat]? = some mm) : sUnder 2 3 ans ms mk mr env st = tl mm mr ((env.set 2 none).set 3 (some (.int n))) st1 := by
  unfold sUnder tl
  rw [h]
  dsimp only
  rw [if_pos hn, hm] <;> rfl
theorem nx_wp {o : Out} {Q : Wi} (h : nxB o = true) (k : ∀ env st, Q.nx env st) : wpO o Q := by
  cases o with
  | nx env st => exact k env st
  | _ => cases h
theorem plain (ns : List Int) (h : ns.length ≤ 63) (hb : ∀ z ∈ ns, Builtin.Int.intBits z ≤ 1048576) : ∃ st, mFn 8 m_law [.lst (ns.map .int)] [] = .ok (.bl true) st := by
  have key : wpR (mFn 8 m_law [.lst (ns.map .int)] []) (fun d _ => d = .bl true) fun _ _ => False := by
    rw [wp_fn]
    unfold m_law
    rw [wo_seq, wo_for]
    unfold mItems
    rw [wp_mUn, wp_mCall, wp_mCons]
    show wpR (mFn 4 m__law_rounds [.lst (ns.map .int), .int 1] []) _ _
    refine rounds_wp fun a b c => ?_
    show wpO (loopM (gvN 1) _ [.loc 0] _ _) _
    rw [wo_loop_cons]
    refine ⟨_, rfl, ?_⟩
    rw [wo_seq, wo_par, wp_mCons, wp_mBin]
    show wpR (mFn 3 m__law_roll [.loc 0, .int 90] [.ls [.int a, .int b, .int c]]) _ _
    refine roll_wp (d := 0) ⟨a, b, c, rfl⟩ (by decide) (by decide) fun v st1 v0 v1 d1 b1 => ?_
    obtain ⟨a1, b1', c1, e1⟩ := d1
    have es : st1 = [.ls [.int a1, .int b1', .int c1]] := by
      have l := b1.1
      match st1, l, e1 with
      | [x], _, e => simpa using e
    subst es
    obtain ⟨m, rfl⟩ : ∃ m : Nat, v = m := ⟨v.toNat, by omega⟩
    generalize hD : SObj.ls [D.int a1, D.int b1', D.int c1] = D0
    show wpR (mCons (mMake ("Desk" : Str) (mFn 1 m_Desk___init__) mNil) (mCons (mMake ("Store" : Str) (mFn 3 m_Store___init__) (mCons (mK (.int 1)) (mCons (mK (.int 1)) mNil))) mNil) _ [D0]) _ _
    rw [wp_mCons]
    refine wp_val (made_desk D0 _) ?_
    rw [wp_mCons]
    refine wp_val (made_store D0 _) ?_
    refine ⟨⟨rfl, (show (3 : Nat) ≤ 1000 by decide)⟩, ?_⟩
    have em : (1 + (m : Int)) = (m : Int) + 1 := by omega
    rw [em]
    have es : setsD (List.set (List.map some [D.lst (List.map D.int ns)] ++ List.replicate (8 - [D.lst (List.map D.int ns)].length) none) 1 (some (D.loc 0))) [4, 5, 6] [D.int ((m : Int) + 1), D.loc 1, D.loc 2] = envB (.lst (ns.map .int)) ((m : Int) + 1) none := by
      first | rfl | kernel_rfl | simp [setsD, envB]
    rw [es]
    show wpO (sSeq _ _ (envB (.lst (ns.map .int)) ((m : Int) + 1) none) [D0, deskO, storeO []]) _
    rw [wo_seq, wo_drop]
    refine wp_val (v := .non) (st := [D0, deskO, storeO [.str "a"]]) (put_a D0 (.lst (ns.map .int)) _) ?_
    have hm : m < 90 := by omega
    -- the roll
    have rl : ∃ n : Nat, n < 8 ∧ ∃ D1 : SObj, mk_ (envB (.lst (ns.map .int)) ((m : Int) + 1) none) [D0, deskO, storeO [.str "a"]] = .ok (.int n) [D1, deskO, storeO [.str "a"]] := by
      have z : wpR (mFn 3 m__law_roll [.loc 0, .int 8] [D0, deskO, storeO [.str "a"]]) (fun d st => ∃ n : Nat, n < 8 ∧ d = .int n ∧ ∃ D1 : SObj, st = [D1, deskO, storeO [.str "a"]]) (fun _ _ => False) := by
        rw [← hD]
        refine roll_wp (d := 0) ⟨a1, b1', c1, rfl⟩ (by decide) (by decide) fun v st1 v0 v1 d1 b2 => ?_
        obtain ⟨n, rfl⟩ : ∃ n : Nat, v = n := ⟨v.toNat, by omega⟩
        refine ⟨n, by omega, rfl, ?_⟩
        have l := b2.1
        have q1 := b2.2 1 (by decide)
        have q2 := b2.2 2 (by decide)
        match st1, l, q1, q2 with
        | [x, y, z], _, q1, q2 =>
          have q1 : y = deskO := by simpa using q1
          have q2 : z = storeO [.str "a"] := by simpa using q2
          exact ⟨x, by rw [q1, q2]⟩
      have e : mk_ (envB (.lst (ns.map .int)) ((m : Int) + 1) none) [D0, deskO, storeO [.str "a"]] = mFn 3 m__law_roll [.loc 0, .int 8] [D0, deskO, storeO [.str "a"]] := rfl
      rw [e]
      unfold wpR at z
      split at z
      · rename_i d st q
        obtain ⟨n, hn, rfl, D1, rfl⟩ := z
        exact ⟨n, hn, D1, q⟩
      · exact z.elim
      · exact z.elim
    obtain ⟨n, hn, D1, er⟩ := rl
    have fin : ∀ mm : M D, [l0, l1, l2, l3, l4, l5, l6, l7][n]? = some mm → nxB (tl mm mr_ (envB (.lst (ns.map .int)) ((m : Int) + 1) (some (.int n))) [D1, deskO, storeO [.str "a"]]) = true := by
      intro mm e
      match n, hn, e with
      | 0, _, e => cases e; exact t0 D1 _ _
      | 1, _, e => cases e; exact t1 D1 _ m hm
      | 2, _, e => cases e; exact t2 D1 _ m hm
      | 3, _, e => cases e; exact t3 D1 _ m hm
      | 4, _, e => cases e; exact t4 D1 _ m hm
      | 5, _, e => cases e; exact t5 D1 _ _
      | 6, _, e => cases e; exact t6 D1 _ m hm
      | 7, _, e => cases e; exact t7 D1 _ m hm
    obtain ⟨mm, emm⟩ : ∃ mm, [l0, l1, l2, l3, l4, l5, l6, l7][n]? = some mm := ⟨_, List.getElem?_eq_getElem (by simpa using hn)⟩
    have U := under_tl (env := envB (.lst (ns.map .int)) ((m : Int) + 1) none) (st := [D0, deskO, storeO [.str "a"]]) (ms := [l0, l1, l2, l3, l4, l5, l6, l7]) (mk := mk_) (mr := mr_) (mm := mm) (n := n) er (by omega) (by simpa using emm)
    show wpO (sUnder 2 3 ans [l0, l1, l2, l3, l4, l5, l6, l7] mk_ mr_ (envB (.lst (ns.map .int)) ((m : Int) + 1) none) [D0, deskO, storeO [.str "a"]]) _
    rw [U]
    refine nx_wp (fin mm emm) fun env st => ?_
    dsimp only
    rw [wo_loop_nil]
    dsimp only
    rw [wo_ret]
    exact (rfl : D.bl true = D.bl true)
  unfold wpR at key
  split at key
  · rename_i d st e
    exact ⟨_, by rw [e, key]⟩
  · exact key.elim
  · exact key.elim
end K24
set_option autoImplicit true
set_option maxRecDepth 100000
set_option maxHeartbeats 0
open PySem PySem.W PySem.Calls PyProof.Rows
theorem PySem.Challenge.cw_shoehall_k24_refusals_apart_holds : PySem.Challenge.rw_shoehall_k24_refusals_apart.Holds := by
  w_on; o_law
  refine HandSHeadRun.head_any (r := OpenLaw.row PySem.Challenge.rw_shoehall_k24_refusals_apart) (q := view (OpenLaw.row PySem.Challenge.rw_shoehall_k24_refusals_apart).prog [30]) (H := K24.hk) (ob := K24.ob) (M := 20000) (loose := K24.loose) (d := HandSHeadRun.topDef (OpenLaw.row PySem.Challenge.rw_shoehall_k24_refusals_apart).prog 30) (kwd := []) K24.ob_eq
    (by kernel_rfl) (fun s => by kernel_rfl) K24.head_run (by kernel_rfl) (by kernel_rfl) (by kernel_rfl) (by rfl) (by first | assumption | decide +kernel) (by decide +kernel) ⟨rfl, rfl, rfl, rfl, rfl, by decide +kernel⟩ ?hw ?hc
  case hw => w_witness2
  case hc =>
    refine LamX.walk_ofTsE (l := PySem.Challenge.rw_shoehall_k24_refusals_apart) (n := 63) (k := 5) (x := "script") (CX := fun w => L2.CX PySem.Challenge.rw_shoehall_k24_refusals_apart.prog w) rfl (by decide) (by kernel_rfl) ⟨rfl, by decide, by decide⟩ ?F (fun _ _ _ _ _ ⟨_, _, _, _, _, _, _, _, _, _, _, _, z⟩ => z.elim)
    intro w mg fa h Y G hmg0
    obtain ⟨K, KX, c⟩ := Y
    have hmg : mg ("law" : PySem.Str) = some (.ref fa) := by
      have e : (HandSHeadRun.topDef (OpenLaw.row PySem.Challenge.rw_shoehall_k24_refusals_apart).prog 30).name = ("law" : PySem.Str) := by kernel_rfl
      rw [← e]
      exact hmg0
    exact ⟨K, KX, K24.law_in K24.plain KX G c hmg⟩
