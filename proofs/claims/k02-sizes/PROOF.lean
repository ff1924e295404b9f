import PyProof.Rows.All
import Wide.All
import OpenK.AllK
import Wide.FinOn
import HandS.ForMost
import HandS.Lambda
import HandS.TryMany
import HandS.CallSlots
import HandS.TupAny
import KE.SortData
import HandS.StrMore
import HandS.More
import HandS.Style
import HandS.ForExc
import HandS.Walk
import HandS.Small
import HandS.RaiseMore
import HandS.Sort
import PyProof.SumWalkG
import PyProof.Rows.SumGenD
import HandS.Defaults
import HandS.HeadHook4
import HandS.HeadWalk
import HandS.WordsExc
import HandS.Conv
import HandS.EndTab
import HandS.Head0
import HandS.Head1
import HandS.Head2
import HandS.HeadEnd
import PySem.Challenge.RW_shoehall_k02_sizes
set_option Elab.async false
set_option linter.all false
set_option maxRecDepth 100000
set_option maxHeartbeats 2000000
/-! values by content, and how they stand in the layer's heap -/
namespace Ev
open PySem PySem.Spec PyProof.Rows L2

/-- a value by its content -/
inductive D where
  | non | bl (b : Bool) | int (i : Int) | str (x : Str)
  | tup (xs : List D) | lst (xs : List D) | dct (c : Bool × List (D × D))
  | loc (n : Nat) | own (xs : List D) | ownd (c : Bool × List (D × D))

/-- a dict's content: whether its keys are tuples, its pairs -/
abbrev Dc := Bool × List (D × D)
/-- whose an address is -/
inductive Tag where
  | slot (i : Nat) | tmp | ext | obj (n : Nat) | fld (n : Nat) (f : Str)
abbrev Wm := Addr → Option Tag

/-- a class's instance, a list by reference -/
inductive SObj where
  | ins (cls : Str) (fs : List (Str × D))
  | ls (xs : List D)
abbrev Sto := List SObj
abbrev Env := List (Option D)

def keyD : Key → D
  | .inl i => .int i
  | .inr x => .str x

/-- a tuple's (a list's) items, at an address that is nobody's, or in the written part -/
def TupAt (_ : PySem.W.Frag) (W : Wm) (H : Hp) (a : Addr) (vs : List V) : Prop := W a = none ∧ H a = some (.tup vs)
def LstAt (K : PySem.W.Frag) (W : Wm) (H : Hp) (a : Addr) (vs : List V) : Prop :=
  (W a = none ∧ Rd H a (.lst vs)) ∨ ∃ (o : Obj) (its : Array Value) (n : Nat), K.lookup a = some o ∧ o.cls = .type "list" ∧ o.dict = none ∧ o.data = .seq its n ∧ its.size ≤ sizeLine ∧ Vals vs its.toList
theorem TupAt.sq {K : PySem.W.Frag} {W : Wm} {H : Hp} {a : Addr} {vs : List V} (h : TupAt K W H a vs) : SqT K H a vs := .inl (.inl h.2)
theorem LstAt.sq {K : PySem.W.Frag} {W : Wm} {H : Hp} {a : Addr} {vs : List V} (h : LstAt K W H a vs) : SqL K H a vs := h.elim (fun q => .inl q.2) .inr

def Free (W : Wm) (H : Hp) (a : Addr) (u : HO) : Prop := W a = none ∧ Rd H a u
section
variable (K : PySem.W.Frag) (W : Wm) (H : Hp)
mutual
def Rep : D → V → Prop
  | .non, v => v = .non
  | .bl b, v => v = .bl b
  | .int i, v => v = .int i
  | .str x, v => v = .str x
  | .tup ds, v => ∃ a vs, v = .ref a ∧ TupAt K W H a vs ∧ Reps ds vs
  | .lst ds, v => ∃ a vs, v = .ref a ∧ LstAt K W H a vs ∧ Reps ds vs
  | .dct (t, kvs), v => ∃ a, v = .ref a ∧ ((∃ ks, Free W H a (.dK ks) ∧ t = false ∧ RepK kvs ks) ∨ ∃ ks, Free W H a (.dT ks) ∧ t = true ∧ RepT kvs ks)
  | .loc n, v => ∃ a, v = .ref a ∧ W a = some (.obj n)
  | .own _, _ => False
  | .ownd _, _ => False
def Reps : List D → List V → Prop
  | [], vs => vs = []
  | d :: ds, vs => ∃ v r, vs = v :: r ∧ Rep d v ∧ Reps ds r
def RepK : List (D × D) → List (Key × V) → Prop
  | [], ks => ks = []
  | (k, d) :: r, ks => ∃ k' v r', ks = (k', v) :: r' ∧ k = keyD k' ∧ Rep d v ∧ RepK r r'
def RepT : List (D × D) → List (List Key × V) → Prop
  | [], ks => ks = []
  | (k, d) :: r, ks => ∃ k' v r', ks = (k', v) :: r' ∧ k = .tup (k'.map keyD) ∧ Rep d v ∧ RepT r r'
end
end
/-- all that is nobody's stays readable, references stay -/
def RdU (u : HO) : Prop := (∀ ps, u ≠ .tbl ps) ∧ ∀ o v, u ≠ .frz o v
structure Mo (W : Wm) (H : Hp) (W' : Wm) (H' : Hp) : Prop where
  fr : ∀ a u, W a = none → Rd H a u → RdU u → W' a = none ∧ Rd H' a u
  ob : ∀ a n, W a = some (.obj n) → W' a = some (.obj n)
  tu : ∀ a vs, W a = none → H a = some (.tup vs) → W' a = none ∧ H' a = some (.tup vs)
section
variable {K : PySem.W.Frag} {W W' : Wm} {H H' : Hp}
theorem TupAt.mono (m : Mo W H W' H') {a : Addr} {vs : List V} (h : TupAt K W H a vs) : TupAt K W' H' a vs := m.tu a _ h.1 h.2
theorem LstAt.mono (m : Mo W H W' H') {a : Addr} {vs : List V} (h : LstAt K W H a vs) : LstAt K W' H' a vs := h.elim (fun q => .inl (m.fr a _ q.1 q.2 ⟨fun _ z => (by cases z), fun _ _ z => (by cases z)⟩)) .inr
mutual
theorem Rep.mono (m : Mo W H W' H') : ∀ (d : D) (v : V), Rep K W H d v → Rep K W' H' d v
  | .non, v, h => by simpa [Rep] using h
  | .bl b, v, h => by simpa [Rep] using h
  | .int i, v, h => by simpa [Rep] using h
  | .str x, v, h => by simpa [Rep] using h
  | .tup ds, v, h => by
    unfold Rep at h ⊢
    obtain ⟨a, vs, e, t, r⟩ := h
    exact ⟨a, vs, e, t.mono m, Reps.mono m ds vs r⟩
  | .lst ds, v, h => by
    unfold Rep at h ⊢
    obtain ⟨a, vs, e, t, r⟩ := h
    exact ⟨a, vs, e, t.mono m, Reps.mono m ds vs r⟩
  | .dct (tk, kvs), v, h => by
    unfold Rep at h ⊢
    obtain ⟨a, e, h⟩ := h
    refine ⟨a, e, ?_⟩
    rcases h with ⟨ks, t, k, r⟩ | ⟨ks, t, k, r⟩
    · exact .inl ⟨ks, m.fr a _ t.1 t.2 ⟨fun _ z => (by cases z), fun _ _ z => (by cases z)⟩, k, RepK.mono m kvs ks r⟩
    · exact .inr ⟨ks, m.fr a _ t.1 t.2 ⟨fun _ z => (by cases z), fun _ _ z => (by cases z)⟩, k, RepT.mono m kvs ks r⟩
  | .loc n, v, h => by
    unfold Rep at h ⊢
    obtain ⟨a, e, h⟩ := h
    exact ⟨a, e, m.ob a n h⟩
  | .own _, _, h => by unfold Rep at h; exact h.elim
  | .ownd _, _, h => by unfold Rep at h; exact h.elim
theorem Reps.mono (m : Mo W H W' H') : ∀ (ds : List D) (vs : List V), Reps K W H ds vs → Reps K W' H' ds vs
  | [], vs, h => by simpa [Reps] using h
  | d :: ds, vs, h => by
    unfold Reps at h ⊢
    obtain ⟨v, r, e, h1, h2⟩ := h
    exact ⟨v, r, e, Rep.mono m d v h1, Reps.mono m ds r h2⟩
theorem RepK.mono (m : Mo W H W' H') : ∀ (kvs : List (D × D)) (ks : List (Key × V)), RepK K W H kvs ks → RepK K W' H' kvs ks
  | [], vs, h => by simpa [RepK] using h
  | (k, d) :: ds, vs, h => by
    unfold RepK at h ⊢
    obtain ⟨k', v, r, e, ek, h1, h2⟩ := h
    exact ⟨k', v, r, e, ek, Rep.mono m d v h1, RepK.mono m ds r h2⟩
theorem RepT.mono (m : Mo W H W' H') : ∀ (kvs : List (D × D)) (ks : List (List Key × V)), RepT K W H kvs ks → RepT K W' H' kvs ks
  | [], vs, h => by simpa [RepT] using h
  | (k, d) :: ds, vs, h => by
    unfold RepT at h ⊢
    obtain ⟨k', v, r, e, ek, h1, h2⟩ := h
    exact ⟨k', v, r, e, ek, Rep.mono m d v h1, RepT.mono m ds r h2⟩
end
end
def RepKc (K : PySem.W.Frag) (W : Wm) (H : Hp) (c : Dc) (ks : List (Key × V)) : Prop := c.1 = false ∧ RepK K W H c.2 ks
def RepTc (K : PySem.W.Frag) (W : Wm) (H : Hp) (c : Dc) (ks : List (List Key × V)) : Prop := c.1 = true ∧ RepT K W H c.2 ks
theorem RepKc.mono {K : PySem.W.Frag} {W W' : Wm} {H H' : Hp} (m : Mo W H W' H') (c : Dc) (ks : List (Key × V)) (h : RepKc K W H c ks) : RepKc K W' H' c ks := ⟨h.1, RepK.mono m _ _ h.2⟩
theorem RepTc.mono {K : PySem.W.Frag} {W W' : Wm} {H H' : Hp} (m : Mo W H W' H') (c : Dc) (ks : List (List Key × V)) (h : RepTc K W H c ks) : RepTc K W' H' c ks := ⟨h.1, RepT.mono m _ _ h.2⟩
/-! ### lists of representations -/
section
variable {K : PySem.W.Frag} {W : Wm} {H : Hp}
theorem Reps.length : ∀ {ds : List D} {vs : List V}, Reps K W H ds vs → ds.length = vs.length
  | [], vs, h => by unfold Reps at h; subst h; rfl
  | d :: ds, vs, h => by
    unfold Reps at h
    obtain ⟨v, r, e, h1, h2⟩ := h
    subst e
    simp [Reps.length h2]
theorem Reps.get : ∀ {ds : List D} {vs : List V} {i : Nat} {d : D}, Reps K W H ds vs → ds[i]? = some d → ∃ v, vs[i]? = some v ∧ Rep K W H d v
  | [], vs, i, d, h, e => by simp at e
  | d :: ds, vs, i, d', h, e => by
    unfold Reps at h
    obtain ⟨v, r, er, h1, h2⟩ := h
    subst er
    cases i with
    | zero => simp at e; subst e; exact ⟨v, rfl, h1⟩
    | succ i =>
      obtain ⟨v', q1, q2⟩ := Reps.get (i := i) h2 (by simpa using e)
      exact ⟨v', by simpa using q1, q2⟩
theorem Reps.getV : ∀ {ds : List D} {vs : List V} {i : Nat} {v : V}, Reps K W H ds vs → vs[i]? = some v → ∃ d, ds[i]? = some d ∧ Rep K W H d v
  | [], vs, i, d, h, e => by unfold Reps at h; subst h; simp at e
  | d :: ds, vs, i, d', h, e => by
    unfold Reps at h
    obtain ⟨v, r, er, h1, h2⟩ := h
    subst er
    cases i with
    | zero => simp at e; subst e; exact ⟨d, rfl, h1⟩
    | succ i =>
      obtain ⟨v', q1, q2⟩ := Reps.getV (i := i) h2 (by simpa using e)
      exact ⟨v', by simpa using q1, q2⟩
theorem Reps.cons {d : D} {ds : List D} {v : V} {vs : List V} (h : Rep K W H d v) (r : Reps K W H ds vs) : Reps K W H (d :: ds) (v :: vs) := by
  unfold Reps; exact ⟨v, vs, rfl, h, r⟩
theorem Reps.nil : Reps K W H [] [] := by unfold Reps; rfl
theorem Reps.append : ∀ {ds es : List D} {vs us : List V}, Reps K W H ds vs → Reps K W H es us → Reps K W H (ds ++ es) (vs ++ us)
  | [], es, vs, us, h, q => by unfold Reps at h; subst h; exact q
  | d :: ds, es, vs, us, h, q => by
    unfold Reps at h
    obtain ⟨v, r, e, h1, h2⟩ := h
    subst e
    exact Reps.cons h1 (Reps.append h2 q)
theorem Reps.one {d : D} {v : V} (h : Rep K W H d v) : Reps K W H [d] [v] := Reps.cons h Reps.nil
theorem Reps.one_inv {d : D} {vs : List V} (h : Reps K W H [d] vs) : ∃ v, vs = [v] ∧ Rep K W H d v := by
  unfold Reps at h
  obtain ⟨v, r, e, h1, h2⟩ := h
  unfold Reps at h2
  subst h2
  exact ⟨v, e, h1⟩
theorem Reps.take : ∀ {ds : List D} {vs : List V} (n : Nat), Reps K W H ds vs → Reps K W H (ds.take n) (vs.take n)
  | [], vs, n, h => by unfold Reps at h; subst h; simpa using Reps.nil
  | d :: ds, vs, 0, h => by simpa using Reps.nil
  | d :: ds, vs, n + 1, h => by
    unfold Reps at h
    obtain ⟨v, r, e, h1, h2⟩ := h
    subst e
    simpa using Reps.cons h1 (Reps.take n h2)
theorem Reps.drop : ∀ {ds : List D} {vs : List V} (n : Nat), Reps K W H ds vs → Reps K W H (ds.drop n) (vs.drop n)
  | ds, vs, 0, h => by simpa using h
  | [], vs, n + 1, h => by unfold Reps at h; subst h; simpa using Reps.nil
  | d :: ds, vs, n + 1, h => by
    unfold Reps at h
    obtain ⟨v, r, e, h1, h2⟩ := h
    subst e
    simpa using Reps.drop n h2
theorem Reps.set : ∀ {ds : List D} {vs : List V} (n : Nat) {d : D} {v : V}, Rep K W H d v → Reps K W H ds vs → Reps K W H (ds.set n d) (vs.set n v)
  | [], vs, n, d, v, _, h => by unfold Reps at h; subst h; simpa using Reps.nil
  | d :: ds, vs, n, d', v', q, h => by
    unfold Reps at h
    obtain ⟨v, r, e, h1, h2⟩ := h
    subst e
    cases n with
    | zero => simpa using Reps.cons q h2
    | succ n => simpa using Reps.cons h1 (Reps.set n q h2)
theorem Reps.reverse : ∀ {ds : List D} {vs : List V}, Reps K W H ds vs → Reps K W H ds.reverse vs.reverse
  | [], vs, h => by unfold Reps at h; subst h; simpa using Reps.nil
  | d :: ds, vs, h => by
    unfold Reps at h
    obtain ⟨v, r, e, h1, h2⟩ := h
    subst e
    simpa using Reps.append (Reps.reverse h2) (Reps.one h1)
theorem Reps.ints {ns : List Int} : Reps K W H (ns.map D.int) (ns.map V.int) := by
  induction ns with
  | nil => exact Reps.nil
  | cons n ns ih => exact Reps.cons (by unfold Rep; rfl) ih
end
/-! ### the state: slots, objects -/
/-- the written part, the module's names, the tables of code objects -/
structure Gx where
  K : PySem.W.Frag
  mg : Str → Option Value
  T : List (Addr × Str)
/-- a list that t owns -/
def OwnL (K : PySem.W.Frag) (W : Wm) (H : Hp) (t : Tag) (ds : List D) (v : V) : Prop := ∃ a vs, v = .ref a ∧ W a = some t ∧ H a = some (.lst vs) ∧ Reps K W H ds vs
def OwnD (K : PySem.W.Frag) (W : Wm) (H : Hp) (t : Tag) (kvs : Dc) (v : V) : Prop :=
  ∃ a, v = .ref a ∧ W a = some t ∧ ((∃ ks, H a = some (.dK ks) ∧ RepKc K W H kvs ks) ∨ ∃ ks, H a = some (.dT ks) ∧ RepTc K W H kvs ks)
/-- what may stand in a place of the tag t -/
def At (K : PySem.W.Frag) (W : Wm) (H : Hp) (t : Tag) : D → V → Prop
  | .own ds, v => OwnL K W H t ds v
  | .ownd kvs, v => OwnD K W H t kvs v
  | d, v => Rep K W H d v
structure EnvOk (K : PySem.W.Frag) (W : Wm) (H : Hp) (env : Env) (σ : L2.St) : Prop where
  len : env.length = σ.length
  at_ : ∀ (i : Nat) (d : D), env[i]? = some (some d) → ∃ v, σ[i]? = some (some v) ∧ At K W H (.slot i) d v
def FldsOk (K : PySem.W.Frag) (W : Wm) (H : Hp) (n : Nat) : List (Str × D) → List (Str × V) → Prop
  | [], vs => vs = []
  | (f, d) :: r, vs => ∃ v r', vs = (f, v) :: r' ∧ At K W H (.fld n f) d v ∧ FldsOk K W H n r r'
def ObjRep (G : Gx) (W : Wm) (H : Hp) (n : Nat) (a : Addr) : SObj → Prop
  | .ins cls fs => ∃ C dx vs, G.mg cls = some (.ref C) ∧ H a = some (.ins C dx vs) ∧ (fs.map Prod.fst).Nodup ∧ FldsOk G.K W H n fs vs
  | .ls xs => ∃ vs, H a = some (.lst vs) ∧ Reps G.K W H xs vs
structure StoOk (G : Gx) (W : Wm) (H : Hp) (st : Sto) : Prop where
  obj : ∀ a n, W a = some (.obj n) → ∃ o, st[n]? = some o ∧ ObjRep G W H n a o
  uniq : ∀ a b n, W a = some (.obj n) → W b = some (.obj n) → a = b
  used : ∀ a t, W a = some t → ∃ o, H a = some o ∧ ∀ ps, o ≠ .tbl ps
  tabs : LamX.Tabs G.T H
structure Rel (G : Gx) (W : Wm) (H : Hp) (env : Env) (st : Sto) (σ : L2.St) : Prop where
  sto : StoOk G W H st
  env : EnvOk G.K W H env σ

def Tag.held : Tag → Bool
  | .slot _ | .tmp | .ext => true
  | _ => false
/-- behind an expression (κ: one that changes nothing that stood) -/
structure Ext (κ : Bool) (W : Wm) (H : Hp) (W' : Wm) (H' : Hp) : Prop where
  fr : ∀ a o, W a = none → H a = some o → (∀ ps, o ≠ .tbl ps) → W' a = none ∧ H' a = some o
  ob : ∀ a n, W a = some (.obj n) → W' a = some (.obj n)
  hl : ∀ a t, W a = some t → (κ || t.held) = true → W' a = some t ∧ H' a = H a
  th : ∀ a o, H a = some o → (∀ ps, o ≠ .tbl ps) → ∃ o', H' a = some o' ∧ ∀ ps, o' ≠ .tbl ps
/-- behind a statement -/
structure ExtS (W : Wm) (H : Hp) (W' : Wm) (H' : Hp) : Prop where
  fr : ∀ a o, W a = none → H a = some o → (∀ ps, o ≠ .tbl ps) → W' a = none ∧ H' a = some o
  ob : ∀ a n, W a = some (.obj n) → W' a = some (.obj n)
  ex : ∀ a, W a = some .ext → W' a = some .ext ∧ H' a = H a
  th : ∀ a o, H a = some o → (∀ ps, o ≠ .tbl ps) → ∃ o', H' a = some o' ∧ ∀ ps, o' ≠ .tbl ps
section
variable {W W' W2 : Wm} {H H' H2 : Hp} {κ κ' : Bool}
theorem Ext.refl : Ext κ W H W H := ⟨fun _ _ h e _ => ⟨h, e⟩, fun _ _ h => h, fun _ _ h _ => ⟨h, rfl⟩, fun _ o h n => ⟨o, h, n⟩⟩
theorem ExtS.refl : ExtS W H W H := ⟨fun _ _ h e _ => ⟨h, e⟩, fun _ _ h => h, fun _ h => ⟨h, rfl⟩, fun _ o h n => ⟨o, h, n⟩⟩
theorem Ext.trans (a : Ext κ W H W' H') (b : Ext κ W' H' W2 H2) : Ext κ W H W2 H2 :=
  ⟨fun c o h e n => let ⟨x, y⟩ := a.fr c o h e n; b.fr c o x y n, fun c n h => b.ob c n (a.ob c n h), fun c t h k => let ⟨x, y⟩ := a.hl c t h k; let ⟨z, u⟩ := b.hl c t x k; ⟨z, u.trans y⟩, fun c o h n => let ⟨o1, h1, n1⟩ := a.th c o h n; b.th c o1 h1 n1⟩
theorem ExtS.trans (a : ExtS W H W' H') (b : ExtS W' H' W2 H2) : ExtS W H W2 H2 :=
  ⟨fun c o h e n => let ⟨x, y⟩ := a.fr c o h e n; b.fr c o x y n, fun c n h => b.ob c n (a.ob c n h), fun c h => let ⟨x, y⟩ := a.ex c h; let ⟨z, u⟩ := b.ex c x; ⟨z, u.trans y⟩, fun c o h n => let ⟨o1, h1, n1⟩ := a.th c o h n; b.th c o1 h1 n1⟩
theorem Ext.weak (a : Ext κ W H W' H') (h : κ' = true → κ = true) : Ext κ' W H W' H' := ⟨a.fr, a.ob, fun c t e z => a.hl c t e (by
  rw [Bool.or_eq_true] at z ⊢
  exact z.imp h id), a.th⟩
theorem Ext.l (a : Ext κ W H W' H') : Ext (κ && κ') W H W' H' := a.weak fun h => (Bool.and_eq_true_iff.mp h).1
theorem Ext.r (a : Ext κ' W H W' H') : Ext (κ && κ') W H W' H' := a.weak fun h => (Bool.and_eq_true_iff.mp h).2
theorem Ext.f (a : Ext κ W H W' H') : Ext false W H W' H' := a.weak fun h => by cases h
theorem Ext.s (a : Ext κ W H W' H') : ExtS W H W' H' := ⟨a.fr, a.ob, fun c h => a.hl c _ h (by simp [Tag.held]), a.th⟩
theorem upd_th {H : Hp} {p : Addr} {o : HO} (hp : H p = none) (a : Addr) (u : HO) (h : H a = some u) (n : ∀ ps, u ≠ .tbl ps) : ∃ o', upd H p o a = some o' ∧ ∀ ps, o' ≠ .tbl ps := ⟨u, by rw [upd_ne (ne_of_none h hp)]; exact h, n⟩
theorem upd_th2 {H : Hp} {p : Addr} {o : HO} (ho : ∀ ps, o ≠ .tbl ps) (a : Addr) (u : HO) (h : H a = some u) (n : ∀ ps, u ≠ .tbl ps) : ∃ o', upd H p o a = some o' ∧ ∀ ps, o' ≠ .tbl ps := by
  by_cases z : a = p
  · subst z; exact ⟨o, upd_same, ho⟩
  · exact ⟨u, by rw [upd_ne z]; exact h, n⟩
/-- nothing that counts stands there -/
def Fr (H : Hp) (p : Addr) : Prop := ∀ o, H p = some o → ∃ ps, o = .tbl ps
theorem Fr.of {H : Hp} {p : Addr} (h : H p = none) : Fr H p := fun o e => by rw [h] at e; cases e
theorem frz_ntbl {o : Obj} {u : HO} (ps : Array Value) : HO.frz o u ≠ .tbl ps := by intro z; cases z
theorem ExtS.mo (a : ExtS W H W' H') : Mo W H W' H' := ⟨fun c u h r n => by
  rcases r with r | ⟨o, r⟩
  · obtain ⟨x, y⟩ := a.fr c _ h r n.1
    exact ⟨x, .inl y⟩
  · obtain ⟨x, y⟩ := a.fr c _ h r frz_ntbl
    exact ⟨x, .inr ⟨o, y⟩⟩, a.ob, fun c vs h e => a.fr c _ h e (fun _ z => by cases z)⟩
theorem Ext.mo (a : Ext κ W H W' H') : Mo W H W' H' := a.s.mo
end
section
variable {K : PySem.W.Frag} {W W' : Wm} {H H' : Hp} {t : Tag}
theorem At.mono (m : Mo W H W' H') (k : ∀ a, W a = some t → W' a = some t ∧ H' a = H a) : ∀ {d : D} {v : V}, At K W H t d v → At K W' H' t d v := by
  intro d v h
  cases d with
  | own ds =>
    obtain ⟨a, vs, e, h1, h2, h3⟩ := h
    obtain ⟨x, y⟩ := k a h1
    exact ⟨a, vs, e, x, y.trans h2, Reps.mono m _ _ h3⟩
  | ownd kvs =>
    obtain ⟨a, e, h1, h2⟩ := h
    obtain ⟨x, y⟩ := k a h1
    refine ⟨a, e, x, ?_⟩
    rcases h2 with ⟨ks, q, r⟩ | ⟨ks, q, r⟩
    · exact .inl ⟨ks, y.trans q, RepKc.mono m _ _ r⟩
    · exact .inr ⟨ks, y.trans q, RepTc.mono m _ _ r⟩
  | _ => exact Rep.mono m _ _ h
theorem At.of {d : D} {v : V} (h : Rep K W H d v) : At K W H t d v := by
  cases d with
  | own ds => unfold Rep at h; exact h.elim
  | ownd ds => unfold Rep at h; exact h.elim
  | _ => exact h
theorem EnvOk.mono {env : Env} {σ : L2.St} (e : EnvOk K W H env σ) (m : Mo W H W' H') (k : ∀ a i, W a = some (.slot i) → W' a = some (.slot i) ∧ H' a = H a) : EnvOk K W' H' env σ :=
  ⟨e.len, fun i d h => let ⟨v, q, r⟩ := e.at_ i d h; ⟨v, q, r.mono m fun a => k a i⟩⟩
theorem FldsOk.mono {n : Nat} (m : Mo W H W' H') (k : ∀ a f, W a = some (.fld n f) → W' a = some (.fld n f) ∧ H' a = H a) : ∀ {fs : List (Str × D)} {vs : List (Str × V)}, FldsOk K W H n fs vs → FldsOk K W' H' n fs vs
  | [], vs, h => by simpa [FldsOk] using h
  | (f, d) :: r, vs, h => by
    unfold FldsOk at h ⊢
    obtain ⟨v, r', e, h1, h2⟩ := h
    exact ⟨v, r', e, h1.mono m fun a => k a f, FldsOk.mono m k h2⟩
theorem ObjRep.mono {G : Gx} {n : Nat} {a : Addr} {o : SObj} (m : Mo W H W' H') (ha : H' a = H a) (k : ∀ a f, W a = some (.fld n f) → W' a = some (.fld n f) ∧ H' a = H a) (h : ObjRep G W H n a o) : ObjRep G W' H' n a o := by
  cases o with
  | ins cls fs =>
    obtain ⟨C, dx, vs, h1, h2, hn, h3⟩ := h
    exact ⟨C, dx, vs, h1, ha.trans h2, hn, h3.mono m k⟩
  | ls xs =>
    obtain ⟨vs, h1, h2⟩ := h
    exact ⟨vs, ha.trans h1, Reps.mono m _ _ h2⟩
/-- an address that is free in the heap is nobody's -/
theorem StoOk.nobody {G : Gx} {st : Sto} (s : StoOk G W H st) {a : Addr} (h : H a = none) : W a = none := by
  cases e : W a with
  | none => rfl
  | some t => obtain ⟨o, q, _⟩ := s.used a t e; rw [h] at q; cases q
end
/-! ### a new object, nobody's -/
section
variable {G : Gx} {W : Wm} {H : Hp} {env : Env} {st : Sto} {σ : L2.St} {p : Addr} {o : HO}
theorem StoOk.ne {a p : Addr} {t : Tag} (s : StoOk G W H st) (hp : H p = none) (h : W a = some t) : a ≠ p := fun z => by
  obtain ⟨o, q, _⟩ := s.used a t h
  rw [z, hp] at q; cases q
theorem StoOk.neF {a p : Addr} {t : Tag} (s : StoOk G W H st) (hp : Fr H p) (h : W a = some t) : a ≠ p := fun z => by
  obtain ⟨o, q, n⟩ := s.used a t h
  rw [z] at q
  obtain ⟨ps, e⟩ := hp o q
  exact n ps e
theorem Ext.laid {κ : Bool} (s : StoOk G W H st) (hp : H p = none) : Ext κ W H W (upd H p o) :=
  ⟨fun a u h e n => ⟨h, by rw [upd_ne (ne_of_none e hp)]; exact e⟩, fun _ _ h => h, fun a t h _ => ⟨h, upd_ne (s.ne hp h)⟩, upd_th hp⟩
/-- a state that is only more -/
theorem StoOk.more {W' : Wm} {H' : Hp} (s : StoOk G W H st) (m : Mo W H W' H') (ho : ∀ a t, W' a = some t → W a = some t ∧ H' a = H a) (hk : ∀ a n f, W a = some (.fld n f) → W' a = some (.fld n f)) (tb : LamX.Tabs G.T H') : StoOk G W' H' st where
  obj := fun a n h => by
    obtain ⟨h1, h2⟩ := ho a _ h
    obtain ⟨o, e, r⟩ := s.obj a n h1
    exact ⟨o, e, r.mono m h2 fun b f hb => ⟨hk b _ _ hb, (ho b _ (hk b _ _ hb)).2⟩⟩
  uniq := fun a b n h1 h2 => s.uniq a b n (ho a _ h1).1 (ho b _ h2).1
  used := fun a t h => by
    obtain ⟨h1, h2⟩ := ho a _ h
    obtain ⟨o, q, n⟩ := s.used a t h1
    exact ⟨o, h2.trans q, n⟩
  tabs := tb
theorem StoOk.laid (s : StoOk G W H st) (hp : H p = none) : StoOk G W (upd H p o) st :=
  s.more (Ext.laid (κ := true) s hp).mo (fun a t h => ⟨h, upd_ne (s.ne hp h)⟩) (fun _ _ _ h => h) (s.tabs.ext fun b u q => by rw [upd_ne (ne_of_none q hp)]; exact q)
theorem Rel.laid (r : Rel G W H env st σ) (hp : H p = none) : Rel G W (upd H p o) env st σ :=
  ⟨r.sto.laid hp, r.env.mono (Ext.laid (κ := true) r.sto hp).mo fun a i h => ⟨h, upd_ne (r.sto.ne hp h)⟩⟩
end
/-! ### whose a thing is, changed -/
def tagW (W : Wm) (a : Addr) (t : Option Tag) : Wm := fun b => if b = a then t else W b
theorem tagW_same {W : Wm} {a : Addr} {t : Option Tag} : tagW W a t a = t := by unfold tagW; rw [if_pos rfl]
theorem tagW_ne {W : Wm} {a b : Addr} {t : Option Tag} (h : b ≠ a) : tagW W a t b = W b := by unfold tagW; rw [if_neg h]
section
variable {G : Gx} {W : Wm} {H : Hp} {env : Env} {st : Sto} {σ : L2.St} {p : Addr} {o : HO} {t : Tag}
/-- what is no object's own is given up: nobody's -/
theorem mo_untag (h : ∀ n, W p ≠ some (.obj n)) : Mo W H (tagW W p none) H where
  fr := fun a u h r _ => ⟨by
    by_cases z : a = p
    · rw [z, tagW_same]
    · rw [tagW_ne z]; exact h, r⟩
  ob := fun a n q => by
    by_cases z : a = p
    · rw [z] at q; exact absurd q (h n)
    · rw [tagW_ne z]; exact q
  tu := fun a vs h e => ⟨by
    by_cases z : a = p
    · rw [z, tagW_same]
    · rw [tagW_ne z]; exact h, e⟩
theorem StoOk.untag (s : StoOk G W H st) (h : ∀ n, W p ≠ some (.obj n)) (hf : ∀ n f, W p ≠ some (.fld n f)) : StoOk G (tagW W p none) H st :=
  s.more (mo_untag h) (fun a u q => by
    by_cases z : a = p
    · rw [z, tagW_same] at q; cases q
    · rw [tagW_ne z] at q; exact ⟨q, rfl⟩) (fun a n f q => by
    by_cases z : a = p
    · rw [z] at q; exact absurd q (hf n f)
    · rw [tagW_ne z]; exact q) s.tabs
theorem Rel.untmp (r : Rel G W H env st σ) (h : W p = some .tmp) : Rel G (tagW W p none) H env st σ :=
  ⟨r.sto.untag (fun n z => by rw [h] at z; cases z) (fun n f z => by rw [h] at z; cases z), r.env.mono (mo_untag fun n z => by rw [h] at z; cases z) fun a i q => by
    by_cases z : a = p
    · rw [z, h] at q; cases q
    · exact ⟨by rw [tagW_ne z]; exact q, rfl⟩⟩
/-- a new object, held at once -/
theorem ext_laidT {κ : Bool} (s : StoOk G W H st) (hp : H p = none) : Ext κ W H (tagW W p (some t)) (upd H p o) where
  fr := fun a u h e n => by
    have z : a ≠ p := ne_of_none e hp
    exact ⟨by rw [tagW_ne z]; exact h, by rw [upd_ne z]; exact e⟩
  ob := fun a n h => by rw [tagW_ne (s.ne hp h)]; exact h
  hl := fun a u h _ => ⟨by rw [tagW_ne (s.ne hp h)]; exact h, upd_ne (s.ne hp h)⟩
  th := upd_th hp
theorem StoOk.laidT (s : StoOk G W H st) (hp : H p = none) (ht : ∀ n, t ≠ .obj n) (ho : ∀ ps, o ≠ .tbl ps) : StoOk G (tagW W p (some t)) (upd H p o) st where
  obj := fun a n h => by
    have z : a ≠ p := fun z => by rw [z, tagW_same] at h; exact ht n (Option.some.inj h)
    rw [tagW_ne z] at h
    obtain ⟨ob, e, r⟩ := s.obj a n h
    exact ⟨ob, e, r.mono (ext_laidT (κ := true) s hp).mo (upd_ne z) fun b f q => (ext_laidT (κ := true) s hp).hl b _ q rfl⟩
  uniq := fun a b n h1 h2 => by
    have z1 : a ≠ p := fun z => by rw [z, tagW_same] at h1; exact ht n (Option.some.inj h1)
    have z2 : b ≠ p := fun z => by rw [z, tagW_same] at h2; exact ht n (Option.some.inj h2)
    rw [tagW_ne z1] at h1
    rw [tagW_ne z2] at h2
    exact s.uniq a b n h1 h2
  used := fun a u h => by
    by_cases z : a = p
    · rw [z, upd_same]; exact ⟨o, rfl, ho⟩
    · rw [tagW_ne z] at h
      rw [upd_ne z]
      exact s.used a u h
  tabs := s.tabs.ext fun b u q => by rw [upd_ne (ne_of_none q hp)]; exact q
theorem Rel.laidT (r : Rel G W H env st σ) (hp : H p = none) (ht : ∀ n, t ≠ .obj n) (ho : ∀ ps, o ≠ .tbl ps) : Rel G (tagW W p (some t)) (upd H p o) env st σ :=
  ⟨r.sto.laidT hp ht ho, r.env.mono (ext_laidT (κ := true) r.sto hp).mo fun a i q => (ext_laidT (κ := true) r.sto hp).hl a _ q rfl⟩
/-- a new object of the store -/
theorem StoOk.laidO {so : SObj} (s : StoOk G W H st) (hp : H p = none) (ho : ∀ ps, o ≠ .tbl ps) (hr : ObjRep G (tagW W p (some (.obj st.length))) (upd H p o) st.length p so) : StoOk G (tagW W p (some (.obj st.length))) (upd H p o) (st ++ [so]) where
  obj := fun a n h => by
    by_cases z : a = p
    · subst z
      rw [tagW_same] at h
      cases h
      exact ⟨so, by simp, hr⟩
    · rw [tagW_ne z] at h
      obtain ⟨ob, e, r⟩ := s.obj a n h
      refine ⟨ob, ?_, r.mono (ext_laidT (κ := true) s hp).mo (upd_ne z) fun b f q => (ext_laidT (κ := true) s hp).hl b _ q rfl⟩
      rw [List.getElem?_append_left (List.getElem?_eq_some_iff.mp e).1]
      exact e
  uniq := fun a b n h1 h2 => by
    have old : ∀ c, c ≠ p → tagW W p (some (.obj st.length)) c = some (.obj n) → n < st.length := fun c hc q => by
      rw [tagW_ne hc] at q
      obtain ⟨ob, e, _⟩ := s.obj c n q
      exact (List.getElem?_eq_some_iff.mp e).1
    by_cases z1 : a = p
    · by_cases z2 : b = p
      · rw [z1, z2]
      · have := old b z2 h2
        rw [z1, tagW_same] at h1
        cases h1
        omega
    · by_cases z2 : b = p
      · have := old a z1 h1
        rw [z2, tagW_same] at h2
        cases h2
        omega
      · rw [tagW_ne z1] at h1
        rw [tagW_ne z2] at h2
        exact s.uniq a b n h1 h2
  used := fun a u h => by
    by_cases z : a = p
    · rw [z, upd_same]; exact ⟨o, rfl, ho⟩
    · rw [tagW_ne z] at h
      rw [upd_ne z]
      exact s.used a u h
  tabs := s.tabs.ext fun b u q => by rw [upd_ne (ne_of_none q hp)]; exact q
theorem Rel.laidO {so : SObj} (r : Rel G W H env st σ) (hp : H p = none) (ho : ∀ ps, o ≠ .tbl ps) (hr : ObjRep G (tagW W p (some (.obj st.length))) (upd H p o) st.length p so) : Rel G (tagW W p (some (.obj st.length))) (upd H p o) env (st ++ [so]) σ :=
  ⟨r.sto.laidO hp ho hr, r.env.mono (ext_laidT (κ := true) r.sto hp).mo fun a i q => (ext_laidT (κ := true) r.sto hp).hl a _ q rfl⟩
end
end Ev

set_option maxRecDepth 100000
set_option maxHeartbeats 2000000
namespace Ev
open PySem PySem.Spec PyProof.Rows L2

/-- an exception by its class's name and its fields -/
structure Exn where
  cls : Str
  fs : List (Str × D)
inductive Res (α : Type) where
  | ok (a : α) (st : Sto)
  | exc (x : Exn) (st : Sto)
  | bad
namespace Res
variable {α β : Type}
def bind (r : Res α) (f : α → Sto → Res β) : Res β := match r with
  | .ok a st => f a st
  | .exc x st => .exc x st
  | .bad => .bad
@[simp] theorem bind_ok (a : α) (st : Sto) (f : α → Sto → Res β) : (Res.ok a st).bind f = f a st := rfl
@[simp] theorem bind_exc (x : Exn) (st : Sto) (f : α → Sto → Res β) : (Res.exc x st).bind f = .exc x st := rfl
@[simp] theorem bind_bad (f : α → Sto → Res β) : (Res.bad : Res α).bind f = .bad := rfl
end Res
/-- a pure answer, or none -/
def Res.of {α : Type} (o : Option α) (st : Sto) : Res α := match o with
  | some a => .ok a st
  | none => .bad
@[simp] theorem Res.of_some {α : Type} (a : α) (st : Sto) : Res.of (some a) st = .ok a st := rfl
@[simp] theorem Res.of_none {α : Type} (st : Sto) : Res.of (none : Option α) st = .bad := rfl
abbrev M (α : Type) := Env → Sto → Res α

def ExnRep (G : Gx) (W : Wm) (H : Hp) (x : Exn) (c : Value) (d : Option Addr) : Prop :=
  ∃ C, c = .ref C ∧ G.mg x.cls = some (.ref C) ∧ ((x.fs = [] ∧ d = none) ∨ ∃ dd f e v, x.fs = [(f, e)] ∧ d = some dd ∧ H dd = some (.xd [(f, v)]) ∧ Rep G.K W H e v)

/-- what an expression's answer asks of what is wanted -/
def Post {α β : Type} (κ : Bool) (R : Wm → Hp → α → β → Prop) (G : Gx) (Wx : WX) (W : Wm) (H : Hp) (env : Env) (σ : L2.St) (r : Res α) (Q : β → Hp → Prop) : Prop := match r with
  | .ok a st => ∀ W' H' b, Ext κ W H W' H' → Rel G W' H' env st σ → R W' H' a b → Q b H'
  | .exc x st => ∀ W' H' c d, Ext false W H W' H' → Rel G W' H' env st σ → ExnRep G W' H' x c d → Wx c d σ H'
  | .bad => False
section
variable {α β γ δ : Type} {κ κ' : Bool} {R : Wm → Hp → α → β → Prop} {R' : Wm → Hp → γ → δ → Prop} {G : Gx} {Wx : WX} {W W' : Wm} {H H' : Hp} {env : Env} {σ : L2.St}
theorem Post.ext {r : Res α} {Q : β → Hp → Prop} (h : Post κ R G Wx W H env σ r Q) (e : Ext κ W H W' H') : Post κ R G Wx W' H' env σ r Q := by
  cases r with
  | ok a st => exact fun W2 H2 b e2 r2 q => h W2 H2 b (e.trans e2) r2 q
  | exc x st => exact fun W2 H2 c d e2 r2 q => h W2 H2 c d (e.f.trans e2) r2 q
  | bad => exact h.elim
/-- a part κ' of an expression κ -/
theorem Post.bind {r : Res α} {f : α → Sto → Res γ} {Q : δ → Hp → Prop} {Q1 : β → Hp → Prop} (h : Post κ R' G Wx W H env σ (r.bind f) Q) (hk : κ = true → κ' = true)
    (k : ∀ a st' W' H' b, Ext κ' W H W' H' → Rel G W' H' env st' σ → R W' H' a b → Post κ R' G Wx W' H' env σ (f a st') Q → Q1 b H') : Post κ' R G Wx W H env σ r Q1 := by
  cases r with
  | ok a st => exact fun W' H' b e r q => k a st W' H' b e r q (h.ext (e.weak hk))
  | exc x st => exact h
  | bad => exact h.elim
theorem Post.weak {r : Res α} {Q : β → Hp → Prop} (h : Post κ R G Wx W H env σ r Q) (hk : κ = true → κ' = true) : Post κ' R G Wx W H env σ r Q := by
  cases r with
  | ok a st => exact fun W' H' b e r q => h W' H' b (e.weak hk) r q
  | exc x st => exact h
  | bad => exact h.elim
theorem Post.ok {a : α} {st : Sto} {Q : β → Hp → Prop} {b : β} (h : Post κ R G Wx W H env σ (.ok a st) Q) (r : Rel G W H env st σ) (q : R W H a b) : Q b H := h W H b Ext.refl r q
theorem Post.okE {a : α} {st : Sto} {Q : β → Hp → Prop} {b : β} (h : Post κ R G Wx W H env σ (.ok a st) Q) (e : Ext κ W H W' H') (r : Rel G W' H' env st σ) (q : R W' H' a b) : Q b H' := h W' H' b e r q
end

def Gof (X : Cx) (T : List (Addr × Str)) : Gx := ⟨X.K, X.mg, T⟩
abbrev RepR (X : Cx) : Wm → Hp → D → V → Prop := fun W H => Rep X.K W H
abbrev RepsR (X : Cx) : Wm → Hp → List D → List V → Prop := fun W H => Reps X.K W H
abbrev BoolR : Wm → Hp → Bool → Bool → Prop := fun _ _ a b => b = a
/-- what is to be read now, whoever holds it -/
def CRep (K : PySem.W.Frag) (W : Wm) (H : Hp) (d : D) (v : V) : Prop :=
  Rep K W H d v ∨ (∃ t ds, d = .lst ds ∧ OwnL K W H t ds v) ∨ ∃ t kvs, d = .dct kvs ∧ OwnD K W H t kvs v
abbrev CurR (X : Cx) : Wm → Hp → D → V → Prop := fun W H => CRep X.K W H
/-- what is to be read, and stands through any expression -/
def HRep (K : PySem.W.Frag) (W : Wm) (H : Hp) (d : D) (v : V) : Prop :=
  Rep K W H d v ∨ (∃ t ds, t.held = true ∧ d = .lst ds ∧ OwnL K W H t ds v) ∨ ∃ t kvs, t.held = true ∧ d = .dct kvs ∧ OwnD K W H t kvs v
abbrev HeldR (X : Cx) : Wm → Hp → D → V → Prop := fun W H => HRep X.K W H
/-! ### the judgements -/
structure EVg {α : Type} (κ : Bool) (R : Wm → Hp → α → V → Prop) (T : List (Addr × Str)) (X : Cx) (Wx : WX) (e : Expr) (m : M α) : Prop where
  ex : ∃ t, PE X e t ∧ ∀ W H env st σ Q, Rel (Gof X T) W H env st σ → Post κ R (Gof X T) Wx W H env σ (m env st) Q → t σ H Q
abbrev EV (κ : Bool) (T : List (Addr × Str)) (X : Cx) (Wx : WX) (e : Expr) (m : M D) : Prop := EVg κ (RepR X) T X Wx e m
abbrev CV (κ : Bool) (T : List (Addr × Str)) (X : Cx) (Wx : WX) (e : Expr) (m : M D) : Prop := EVg κ (CurR X) T X Wx e m
structure TV (κ : Bool) (T : List (Addr × Str)) (X : Cx) (Wx : WX) (e : Expr) (m : M Bool) : Prop where
  ex : ∃ t, PT X e t ∧ ∀ W H env st σ Q, Rel (Gof X T) W H env st σ → Post κ BoolR (Gof X T) Wx W H env σ (m env st) Q → t σ H Q
structure TW (κ : Bool) (T : List (Addr × Str)) (X : Cx) (Wx : WX) (e : Expr) (m : M Bool) : Prop where
  ex : ∃ t, PW X e t ∧ ∀ W H env st σ Q, Rel (Gof X T) W H env st σ → Post κ BoolR (Gof X T) Wx W H env σ (m env st) Q → t σ H Q
structure AV (κ : Bool) (T : List (Addr × Str)) (X : Cx) (Wx : WX) (es : List Expr) (m : M (List D)) : Prop where
  ex : ∃ t, PA X es t ∧ ∀ W H env st σ Q, Rel (Gof X T) W H env st σ → Post κ (RepsR X) (Gof X T) Wx W H env σ (m env st) Q → t σ H Q
theorem TW.tv {κ : Bool} {T : List (Addr × Str)} {X : Cx} {Wx : WX} {e : Expr} {m : M Bool} (h : TW κ T X Wx e m) : TV κ T X Wx e m := by
  obtain ⟨t, h1, h2⟩ := h.ex
  exact ⟨t, h1.pt, h2⟩
/-- a relation that stands through an expression -/
def Stands {α : Type} (κ : Bool) (R : Wm → Hp → α → V → Prop) : Prop := ∀ W H W' H' a v, Ext κ W H W' H' → R W H a v → R W' H' a v
section
variable {T : List (Addr × Str)} {X : Cx} {Wx : WX} {κ κ' : Bool}
theorem Stands.rep : Stands κ (RepR X) := fun _ _ _ _ _ _ e h => Rep.mono e.mo _ _ h
theorem Stands.cur : Stands true (CurR X) := fun W H W' H' d v e h => by
  rcases h with h | ⟨t, ds, rfl, a, vs, q, h1, h2, h3⟩ | ⟨t, kvs, rfl, a, q, h1, h2⟩
  · exact .inl (Rep.mono e.mo _ _ h)
  · obtain ⟨x, y⟩ := e.hl a t h1 rfl
    exact .inr (.inl ⟨t, ds, rfl, a, vs, q, x, y.trans h2, Reps.mono e.mo _ _ h3⟩)
  · obtain ⟨x, y⟩ := e.hl a t h1 rfl
    refine .inr (.inr ⟨t, kvs, rfl, a, q, x, ?_⟩)
    rcases h2 with ⟨ks, z, r⟩ | ⟨ks, z, r⟩
    · exact .inl ⟨ks, y.trans z, RepKc.mono e.mo _ _ r⟩
    · exact .inr ⟨ks, y.trans z, RepTc.mono e.mo _ _ r⟩
theorem Stands.held : Stands κ (HeldR X) := fun W H W' H' d v e h => by
  rcases h with h | ⟨t, ds, k, rfl, a, vs, q, h1, h2, h3⟩ | ⟨t, kvs, k, rfl, a, q, h1, h2⟩
  · exact .inl (Rep.mono e.mo _ _ h)
  · obtain ⟨x, y⟩ := e.hl a t h1 (by simp [k])
    exact .inr (.inl ⟨t, ds, k, rfl, a, vs, q, x, y.trans h2, Reps.mono e.mo _ _ h3⟩)
  · obtain ⟨x, y⟩ := e.hl a t h1 (by simp [k])
    refine .inr (.inr ⟨t, kvs, k, rfl, a, q, x, ?_⟩)
    rcases h2 with ⟨ks, z, r⟩ | ⟨ks, z, r⟩
    · exact .inl ⟨ks, y.trans z, RepKc.mono e.mo _ _ r⟩
    · exact .inr ⟨ks, y.trans z, RepTc.mono e.mo _ _ r⟩
/-- a relation is another one's -/
theorem EVg.imp {α : Type} {R R' : Wm → Hp → α → V → Prop} {e : Expr} {m : M α} (h : EVg κ R T X Wx e m) (hr : ∀ W H a v, R W H a v → R' W H a v) : EVg κ R' T X Wx e m := by
  obtain ⟨t, h1, h2⟩ := h.ex
  refine ⟨t, h1, fun W H env st σ Q r p => h2 W H env st σ Q r ?_⟩
  cases e : m env st with
  | ok a st' => rw [e] at p; exact fun W' H' b x y z => p W' H' b x y (hr _ _ _ _ z)
  | exc x st' => rw [e] at p; exact p
  | bad => rw [e] at p; exact p
theorem EVg.map {α β : Type} {R : Wm → Hp → α → V → Prop} {R' : Wm → Hp → β → V → Prop} {e : Expr} {m : M α} (f : α → β) (h : EVg κ R T X Wx e m) (hr : ∀ W H a v, R W H a v → R' W H (f a) v) : EVg κ R' T X Wx e (fun env st => (m env st).bind fun a st' => .ok (f a) st') := by
  obtain ⟨t, h1, h2⟩ := h.ex
  refine ⟨t, h1, fun W H env st σ Q r p => h2 W H env st σ Q r ?_⟩
  exact p.bind id fun a st' W' H' b e r q p' => p'.ok r (hr _ _ _ _ q)
theorem cv_of {e : Expr} {m : M D} (h : EV κ T X Wx e m) : CV κ T X Wx e m := h.imp fun _ _ _ _ q => .inl q
theorem EVg.low {α : Type} {R : Wm → Hp → α → V → Prop} {e : Expr} {m : M α} (h : EVg κ R T X Wx e m) : EVg false R T X Wx e m := by
  obtain ⟨t, h1, h2⟩ := h.ex
  exact ⟨t, h1, fun W H env st σ Q r p => h2 W H env st σ Q r (p.weak fun z => by cases z)⟩
end

section
variable {T : List (Addr × Str)} {X : Cx} {Wx : WX} {κ κ' : Bool} {a b c e : Expr} {ma mb mc : M D} {pos p : Pos}

/-! ### names and constants -/
def mVar (i : Nat) : M D := fun env st => match env[i]? with
  | some (some (.own _)) | some (some (.ownd _)) | some none | none => .bad
  | some (some d) => .ok d st
def D.cur : D → D
  | .own xs => .lst xs
  | .ownd xs => .dct xs
  | d => d
def mVarC (i : Nat) : M D := fun env st => match env[i]? with
  | some none | none => .bad
  | some (some d) => .ok d.cur st
def mK (d : D) : M D := fun _ st => .ok d st
theorem mVar_some {env : Env} {i : Nat} {st st' : Sto} {d : D} (h : mVar i env st = .ok d st') : st' = st ∧ env[i]? = some (some d) ∧ (∀ xs, d ≠ .own xs) ∧ ∀ xs, d ≠ .ownd xs := by
  unfold mVar at h
  split at h
  all_goals first | cases h | skip
  rename_i h1 h2 e
  exact ⟨rfl, e, fun xs z => h1 xs (by subst z; rfl), fun xs z => h2 xs (by subst z; rfl)⟩
theorem At.rep {K : PySem.W.Frag} {W : Wm} {H : Hp} {t : Tag} {d : D} {v : V} (h : At K W H t d v) (n1 : ∀ xs, d ≠ .own xs) (n2 : ∀ xs, d ≠ .ownd xs) : Rep K W H d v := by
  cases d with
  | own xs => exact absurd rfl (n1 xs)
  | ownd xs => exact absurd rfl (n2 xs)
  | _ => exact h
theorem At.cur {K : PySem.W.Frag} {W : Wm} {H : Hp} {t : Tag} {d : D} {v : V} (h : At K W H t d v) : CRep K W H d.cur v := by
  cases d with
  | own xs => exact .inr (.inl ⟨t, xs, rfl, h⟩)
  | ownd xs => exact .inr (.inr ⟨t, xs, rfl, h⟩)
  | _ => exact .inl h
theorem At.heldR {K : PySem.W.Frag} {W : Wm} {H : Hp} {t : Tag} {d : D} {v : V} (k : t.held = true) (h : At K W H t d v) : HRep K W H d.cur v := by
  cases d with
  | own xs => exact .inr (.inl ⟨t, xs, k, rfl, h⟩)
  | ownd xs => exact .inr (.inr ⟨t, xs, k, rfl, h⟩)
  | _ => exact .inl h
theorem ev_var (i : Nat) {x : Str} (hN : X.N[i]? = some x := by rfl) (hv : Vis X.env.scope x := by first | exact Or.inl rfl | exact Or.inr (Or.inl rfl) | exact Or.inr (Or.inr rfl)) (hd : (x == ("__debug__" : Str)) = false := by decide)
    (hcd : (x == ("__classdict__" : Str)) = false := by decide) : EV true T X Wx (.Name x pos) (mVar i) :=
  ⟨_, pe_var hN hv hd hcd, fun W H env st σ Q r h => by
    cases em : mVar i env st with
    | ok d st' =>
      obtain ⟨rfl, e, n1, n2⟩ := mVar_some em
      obtain ⟨v, q1, q2⟩ := r.env.at_ i d e
      rw [em] at h
      exact ⟨v, q1, h.ok r (q2.rep n1 n2)⟩
    | exc x st' => unfold mVar at em; split at em <;> cases em
    | bad => rw [em] at h; exact h.elim⟩
theorem cv_var (i : Nat) {x : Str} (hN : X.N[i]? = some x := by rfl) (hv : Vis X.env.scope x := by first | exact Or.inl rfl | exact Or.inr (Or.inl rfl) | exact Or.inr (Or.inr rfl)) (hd : (x == ("__debug__" : Str)) = false := by decide)
    (hcd : (x == ("__classdict__" : Str)) = false := by decide) : EVg true (HeldR X) T X Wx (.Name x pos) (mVarC i) :=
  ⟨_, pe_var hN hv hd hcd, fun W H env st σ Q r h => by
    unfold mVarC at h
    split at h
    · exact h.elim
    · exact h.elim
    · rename_i d e
      obtain ⟨v, q1, q2⟩ := r.env.at_ i d e
      exact ⟨v, q1, h.ok r (q2.heldR rfl)⟩⟩
theorem ev_int {i : Int} {j : Nat} : EV true T X Wx (.Constant (.int i) j pos) (mK (.int i)) := ⟨_, pe_int, fun _ _ _ _ _ _ r h => h.ok r (by simp [Rep])⟩
theorem ev_bl {i : Bool} {j : Nat} : EV true T X Wx (.Constant (.bool i) j pos) (mK (.bl i)) := ⟨_, pe_bl, fun _ _ _ _ _ _ r h => h.ok r (by simp [Rep])⟩
theorem ev_non {j : Nat} : EV true T X Wx (.Constant .none j pos) (mK .non) := ⟨_, pe_non, fun _ _ _ _ _ _ r h => h.ok r (by simp [Rep])⟩
theorem ev_str {i : Str} {j : Nat} : EV true T X Wx (.Constant (.str i) j pos) (mK (.str i)) := ⟨_, pe_str, fun _ _ _ _ _ _ r h => h.ok r (by simp [Rep])⟩
/-- a constant of the module -/
theorem ev_glob {x : Str} {v : V} {u : Value} {d : D} (hg : Gl X x) (hm : X.mg x = some u) (r : RelV v u) (hd : ∀ W H, Rep X.K W H d v) (hdb : (x == ("__debug__" : Str)) = false := by decide) : EV true T X Wx (.Name x pos) (mK d) :=
  ⟨_, pe_glob hg hm r hdb, fun W H _ _ _ _ r h => h.ok r (hd W H)⟩

/-! ### two things, one after the other -/
def mBin {α β γ : Type} (ma : M α) (mb : M β) (f : α → β → Sto → Res γ) : M γ := fun env st => (ma env st).bind fun x st1 => (mb env st1).bind fun y st2 => f x y st2
def mUn {α γ : Type} (ma : M α) (f : α → Sto → Res γ) : M γ := fun env st => (ma env st).bind fun x st1 => f x st1
/-- a two-place reading over values, and its law on contents -/
def Op2 {α β γ : Type} (κ : Bool) (R1 : Wm → Hp → α → V → Prop) (R2 : Wm → Hp → β → V → Prop) (R3 : Wm → Hp → γ → V → Prop) (T : List (Addr × Str)) (X : Cx) (Wx : WX) (r : L2.R2) (f : α → β → Sto → Res γ) : Prop :=
  ∀ W H env st σ x y d1 d2 Q, Rel (Gof X T) W H env st σ → R1 W H d1 x → R2 W H d2 y → Post κ R3 (Gof X T) Wx W H env σ (f d1 d2 st) Q → r x y H Q
theorem and3 {κ1 κ2 κ3 : Bool} : ((κ1 && κ2) && κ3) = true → κ1 = true := by intro h; simp at h; exact h.1.1
theorem and32 {κ1 κ2 κ3 : Bool} : ((κ1 && κ2) && κ3) = true → κ2 = true := by intro h; simp at h; exact h.1.2
theorem and33 {κ1 κ2 κ3 : Bool} : ((κ1 && κ2) && κ3) = true → κ3 = true := by intro h; simp at h; exact h.2
theorem and21 {κ1 κ2 : Bool} : (κ1 && κ2) = true → κ1 = true := by intro h; simp at h; exact h.1
theorem and22 {κ1 κ2 : Bool} : (κ1 && κ2) = true → κ2 = true := by intro h; simp at h; exact h.2
section
variable {α β γ : Type} {R1 : Wm → Hp → α → V → Prop} {R2 : Wm → Hp → β → V → Prop} {R3 : Wm → Hp → γ → V → Prop} {na : M α} {nb : M β} {κa κb : Bool}
theorem op2_pair {ta tb : TE} {r : L2.R2} {f : α → β → Sto → Res γ} (S : Stands κb R1) (o : Op2 true R1 R2 R3 T X Wx r f)
    (ha : ∀ W H env st σ Q, Rel (Gof X T) W H env st σ → Post κa R1 (Gof X T) Wx W H env σ (na env st) Q → ta σ H Q) (hb : ∀ W H env st σ Q, Rel (Gof X T) W H env st σ → Post κb R2 (Gof X T) Wx W H env σ (nb env st) Q → tb σ H Q) :
    ∀ W H env st σ Q, Rel (Gof X T) W H env st σ → Post (κa && κb) R3 (Gof X T) Wx W H env σ (mBin na nb f env st) Q → tOp r ta tb σ H Q := fun W H env st σ Q rl h =>
  ha _ _ _ _ _ _ rl (h.bind and21 fun x st1 W1 H1 v e1 r1 q1 h1 => hb _ _ _ _ _ _ r1 (h1.bind and22 fun y st2 W2 H2 u e2 r2 q2 h2 => o W2 H2 env st2 σ v u x y Q r2 (S _ _ _ _ _ _ e2 q1) q2 (h2.weak fun _ => rfl)))
theorem ev_op {op : Operator} {r : L2.R2} {f : α → β → Sto → Res γ} (ho : OpR X (binaryOp op) r) (S : Stands κb R1) (o : Op2 true R1 R2 R3 T X Wx r f) (ha : EVg κa R1 T X Wx a na) (hb : EVg κb R2 T X Wx b nb) : EVg (κa && κb) R3 T X Wx (.BinOp a op b pos) (mBin na nb f) := by
  obtain ⟨ta, pa, ra⟩ := ha.ex
  obtain ⟨tb, pb, rb⟩ := hb.ex
  exact ⟨_, pe_op ho pa pb, op2_pair S o ra rb⟩
theorem ev_cmpR {op : CmpOp} {r : L2.R2} {f : α → β → Sto → Res γ} (ho : OpR X (compareOp op) r) (S : Stands κb R1) (o : Op2 true R1 R2 R3 T X Wx r f) (hm : behindInMarks op b = false) (ha : EVg κa R1 T X Wx a na) (hb : EVg κb R2 T X Wx b nb) : EVg (κa && κb) R3 T X Wx (.Compare a [op] [b] pos) (mBin na nb f) := by
  obtain ⟨ta, pa, ra⟩ := ha.ex
  obtain ⟨tb, pb, rb⟩ := hb.ex
  exact ⟨_, pe_cmpR ho pa pb hm, op2_pair S o ra rb⟩
end
/-- a value-level op that changes nothing -/
def pure2 {α β γ : Type} (f : α → β → Option γ) : α → β → Sto → Res γ := fun x y st => Res.of (f x y) st

/-! ### ints -/
def dAdd : D → D → Option D
  | .int i, .int j => some (.int (i + j))
  | .str x, .str y => if x.length + y.length ≤ sizeLine then some (.str (x ++ y)) else none
  | _, _ => none
def dSub : D → D → Option D
  | .int i, .int j => some (.int (i - j))
  | _, _ => none
def dMul : D → D → Option D
  | .int i, .int j => if (-(2 ^ 64) < i ∧ i < 2 ^ 64) ∨ (-(2 ^ 64) < j ∧ j < 2 ^ 64) then some (.int (i * j)) else none
  | _, _ => none
def dDiv : D → D → Option D
  | .int i, .int j => if 0 < j ∧ j < 1073741824 then some (.int (i / j)) else none
  | _, _ => none
def dMod : D → D → Option D
  | .int i, .int j => if 0 < j then some (.int (i % j)) else none
  | _, _ => none
theorem rep_int {K : PySem.W.Frag} {W : Wm} {H : Hp} {i : Int} {v : V} : Rep K W H (.int i) v ↔ v = .int i := by simp [Rep]
theorem rep_str {K : PySem.W.Frag} {W : Wm} {H : Hp} {i : Str} {v : V} : Rep K W H (.str i) v ↔ v = .str i := by simp [Rep]
theorem rep_bl {K : PySem.W.Frag} {W : Wm} {H : Hp} {i : Bool} {v : V} : Rep K W H (.bl i) v ↔ v = .bl i := by simp [Rep]
theorem rep_non {K : PySem.W.Frag} {W : Wm} {H : Hp} {v : V} : Rep K W H .non v ↔ v = .non := by simp [Rep]
theorem op2_of {f : D → D → Option D} {r : L2.R2} (h : ∀ W H x y d1 d2 d Q, Rep X.K W H d1 x → Rep X.K W H d2 y → f d1 d2 = some d → (∀ v, Rep X.K W H d v → Q v H) → r x y H Q) : Op2 true (RepR X) (RepR X) (RepR X) T X Wx r (pure2 f) := by
  intro W H env st σ x y d1 d2 Q rl h1 h2 hp
  unfold pure2 at hp
  cases e : f d1 d2 with
  | none => rw [e] at hp; exact hp.elim
  | some d => rw [e] at hp; exact h W H x y d1 d2 d Q h1 h2 e fun v q => hp.ok rl q
theorem opr_add : OpR X (binaryOp .Add) (fun x y H Q => rI0 (fun i j => .int (i + j)) x y H Q ∨ ∃ i j, x = .str i ∧ y = .str j ∧ i.length + j.length ≤ sizeLine ∧ Q (.str (i ++ j)) H) := op_add.or op_add_str
theorem op2_add : Op2 true (RepR X) (RepR X) (RepR X) T X Wx (fun x y H Q => rI0 (fun i j => .int (i + j)) x y H Q ∨ ∃ i j, x = .str i ∧ y = .str j ∧ i.length + j.length ≤ sizeLine ∧ Q (.str (i ++ j)) H) (pure2 dAdd) := op2_of fun W H x y d1 d2 d Q h1 h2 e q => by
  unfold dAdd at e
  split at e
  · cases e; rw [rep_int] at h1 h2; exact .inl ⟨_, _, h1, h2, q _ (rep_int.mpr rfl)⟩
  · split at e
    · cases e; rw [rep_str] at h1 h2; exact .inr ⟨_, _, h1, h2, by assumption, q _ (rep_str.mpr rfl)⟩
    · cases e
  · cases e
theorem op2_sub : Op2 true (RepR X) (RepR X) (RepR X) T X Wx (rI0 fun i j => .int (i - j)) (pure2 dSub) := op2_of fun W H x y d1 d2 d Q h1 h2 e q => by
  unfold dSub at e
  split at e
  · cases e; rw [rep_int] at h1 h2; exact ⟨_, _, h1, h2, q _ (rep_int.mpr rfl)⟩
  · cases e
theorem op2_mul : Op2 true (RepR X) (RepR X) (RepR X) T X Wx (rI CMul fun i j => .int (i * j)) (pure2 dMul) := op2_of fun W H x y d1 d2 d Q h1 h2 e q => by
  unfold dMul at e
  split at e
  · split at e
    · cases e; rw [rep_int] at h1 h2; exact ⟨_, _, h1, h2, by assumption, q _ (rep_int.mpr rfl)⟩
    · cases e
  · cases e
theorem op2_div : Op2 true (RepR X) (RepR X) (RepR X) T X Wx (rI CDiv fun i j => .int (i / j)) (pure2 dDiv) := op2_of fun W H x y d1 d2 d Q h1 h2 e q => by
  unfold dDiv at e
  split at e
  · split at e
    · cases e; rw [rep_int] at h1 h2; exact ⟨_, _, h1, h2, by assumption, q _ (rep_int.mpr rfl)⟩
    · cases e
  · cases e
theorem op2_mod : Op2 true (RepR X) (RepR X) (RepR X) T X Wx (rI (fun _ j => 0 < j) fun i j => .int (i % j)) (pure2 dMod) := op2_of fun W H x y d1 d2 d Q h1 h2 e q => by
  unfold dMod at e
  split at e
  · split at e
    · cases e; rw [rep_int] at h1 h2; exact ⟨_, _, h1, h2, by assumption, q _ (rep_int.mpr rfl)⟩
    · cases e
  · cases e
theorem ev_add (ha : EV κ T X Wx a ma) (hb : EV κ' T X Wx b mb) : EV (κ && κ') T X Wx (.BinOp a .Add b pos) (mBin ma mb (pure2 dAdd)) := ev_op opr_add Stands.rep op2_add ha hb
theorem ev_sub (ha : EV κ T X Wx a ma) (hb : EV κ' T X Wx b mb) : EV (κ && κ') T X Wx (.BinOp a .Sub b pos) (mBin ma mb (pure2 dSub)) := ev_op op_sub Stands.rep op2_sub ha hb
theorem ev_mul (ha : EV κ T X Wx a ma) (hb : EV κ' T X Wx b mb) : EV (κ && κ') T X Wx (.BinOp a .Mult b pos) (mBin ma mb (pure2 dMul)) := ev_op op_mul Stands.rep op2_mul ha hb
theorem ev_div (ha : EV κ T X Wx a ma) (hb : EV κ' T X Wx b mb) : EV (κ && κ') T X Wx (.BinOp a .FloorDiv b pos) (mBin ma mb (pure2 dDiv)) := ev_op op_fdiv Stands.rep op2_div ha hb
theorem ev_mod (ha : EV κ T X Wx a ma) (hb : EV κ' T X Wx b mb) : EV (κ && κ') T X Wx (.BinOp a .Mod b pos) (mBin ma mb (pure2 dMod)) := ev_op op_mod Stands.rep op2_mod ha hb
end
end Ev

set_option maxRecDepth 100000
set_option maxHeartbeats 4000000
/-! == and != of contents -/
namespace Ev
open PySem PySem.Spec PyProof.Rows L2
mutual
def D.eqv : D → D → Bool
  | .non, .non => true
  | .bl a, .bl b => a == b
  | .bl a, .int j => (if a then 1 else 0) == j
  | .int i, .bl b => i == (if b then 1 else 0)
  | .int i, .int j => i == j
  | .str x, .str y => x == y
  | .tup xs, .tup ys => eqvL xs ys
  | .lst xs, .lst ys => eqvL xs ys
  | _, _ => false
def eqvL : List D → List D → Bool
  | [], [] => true
  | x :: xs, y :: ys => D.eqv x y && eqvL xs ys
  | _, _ => false
end
/-- plain data, n deep at most -/
def okN : Nat → D → Bool
  | _, .non => true
  | _, .bl _ => true
  | _, .int _ => true
  | _, .str _ => true
  | n + 1, .tup xs => xs.all (okN n)
  | n + 1, .lst xs => xs.all (okN n)
  | _, _ => false
theorem okN_lst {n : Nat} {xs : List D} (h : okN (n + 1) (.lst xs) = true) : ∀ d ∈ xs, okN n d = true := by unfold okN at h; exact List.all_eq_true.mp h
theorem okN_tup {n : Nat} {xs : List D} (h : okN (n + 1) (.tup xs) = true) : ∀ d ∈ xs, okN n d = true := by unfold okN at h; exact List.all_eq_true.mp h
def noW : Wm := fun _ => none
section
variable {K : PySem.W.Frag} {W : Wm} {H : Hp}
theorem rep_lst {ds : List D} {v : V} : Rep K W H (.lst ds) v ↔ ∃ a vs, v = .ref a ∧ LstAt K W H a vs ∧ Reps K W H ds vs := by rw [Rep]
theorem rep_tup {ds : List D} {v : V} : Rep K W H (.tup ds) v ↔ ∃ a vs, v = .ref a ∧ TupAt K W H a vs ∧ Reps K W H ds vs := by rw [Rep]
theorem rep_loc {n : Nat} {v : V} : Rep K W H (.loc n) v ↔ ∃ a, v = .ref a ∧ W a = some (.obj n) := by rw [Rep]
theorem TupAt.sqN {a : Addr} {vs : List V} (h : TupAt K W H a vs) : SqT K H a vs := h.sq
theorem LstAt.noW {a : Addr} {vs : List V} (h : LstAt K W H a vs) : LstAt K noW H a vs := h.elim (fun q => .inl ⟨rfl, q.2⟩) .inr
theorem TupAt.noW {a : Addr} {vs : List V} (h : TupAt K W H a vs) : TupAt K noW H a vs := ⟨rfl, h.2⟩
theorem Reps.all {W' : Wm} {H' : Hp} : ∀ {ds : List D} {vs : List V}, (∀ d ∈ ds, ∀ v, Rep K W H d v → Rep K W' H' d v) → Reps K W H ds vs → Reps K W' H' ds vs
  | [], vs, _, h => by unfold Reps at h ⊢; exact h
  | d :: ds, vs, k, h => by
    unfold Reps at h
    obtain ⟨v, r, e, h1, h2⟩ := h
    subst e
    exact Reps.cons (k d (by simp) v h1) (Reps.all (fun d' hd => k d' (by simp [hd])) h2)
/-- plain data stand whoever holds what -/
theorem rep_data : ∀ (n : Nat) (d : D) (v : V), okN n d = true → Rep K W H d v → Rep K noW H d v := by
  intro n
  induction n with
  | zero =>
    intro d v o h
    cases d with
    | non => exact rep_non.mpr (rep_non.mp h)
    | bl b => exact rep_bl.mpr (rep_bl.mp h)
    | int b => exact rep_int.mpr (rep_int.mp h)
    | str b => exact rep_str.mpr (rep_str.mp h)
    | _ => simp [okN] at o
  | succ n ih =>
    intro d v o h
    cases d with
    | non => exact rep_non.mpr (rep_non.mp h)
    | bl b => exact rep_bl.mpr (rep_bl.mp h)
    | int b => exact rep_int.mpr (rep_int.mp h)
    | str b => exact rep_str.mpr (rep_str.mp h)
    | lst xs =>
      obtain ⟨a, vs, e, l, r⟩ := rep_lst.mp h
      exact rep_lst.mpr ⟨a, vs, e, l.noW, r.all fun d hd v => ih d v (okN_lst o d hd)⟩
    | tup xs =>
      obtain ⟨a, vs, e, l, r⟩ := rep_tup.mp h
      exact rep_tup.mpr ⟨a, vs, e, l.noW, r.all fun d hd v => ih d v (okN_tup o d hd)⟩
    | _ => simp [okN] at o
theorem cur_data {n : Nat} {d : D} {v : V} (o : okN n d = true) (h : CRep K W H d v) : Rep K noW H d v := by
  rcases h with h | ⟨t, ds, rfl, a, vs, e, h1, h2, h3⟩ | ⟨t, kvs, rfl, _⟩
  · exact rep_data n d v o h
  · cases n with
    | zero => simp [okN] at o
    | succ n => exact rep_lst.mpr ⟨a, vs, e, .inl ⟨rfl, .inl h2⟩, h3.all fun d hd v => rep_data n d v (okN_lst o d hd)⟩
  · cases n <;> simp [okN] at o
end
theorem eqvL_range : ∀ xs ys : List D, ((List.range (min xs.length ys.length)).all (fun j => D.eqv (xs.getD j .non) (ys.getD j .non)) && xs.length == ys.length) = eqvL xs ys
  | [], [] => rfl
  | [], _ :: _ => by simp [eqvL]
  | _ :: _, [] => by simp [eqvL]
  | x :: xs, y :: ys => by
    have h := eqvL_range xs ys
    have m : min (x :: xs).length (y :: ys).length = min xs.length ys.length + 1 := by simp only [List.length_cons]; omega
    rw [m, List.range_succ_eq_map, List.all_cons, List.all_map, eqvL, ← h, ← Bool.and_assoc]
    congr 1
    simp
theorem eqvL_same {xs ys : List D} (h : xs.length = ys.length) : (List.range xs.length).all (fun j => D.eqv (xs.getD j .non) (ys.getD j .non)) = eqvL xs ys := by
  have q := eqvL_range xs ys
  rw [← h, Nat.min_self] at q
  simpa using q
theorem eqvL_other {xs ys : List D} (h : xs.length ≠ ys.length) : eqvL xs ys = false := by
  rw [← eqvL_range xs ys]; simp [h]
section
variable {X : Cx} {pins : List (Addr × Obj)} {σ : L2.St} {H : Hp} {s : Shared}
theorem rep_inj (I : Inv X pins σ H s) : ∀ (n : Nat) (d e : D) (v : V), okN n d = true → okN n e = true → Rep X.K noW H d v → Rep X.K noW H e v → d = e := by
  intro n
  induction n with
  | zero =>
    intro d e v o1 o2 h1 h2
    cases d with
    | non => rw [rep_non] at h1; subst h1; cases e <;> first | rfl | (simp [okN] at o2; done) | (simp [Rep] at h2; done)
    | bl b => rw [rep_bl] at h1; subst h1; cases e <;> first | (simp [okN] at o2; done) | (simp [Rep] at h2; done) | (simp [Rep] at h2; simp [h2])
    | int b => rw [rep_int] at h1; subst h1; cases e <;> first | (simp [okN] at o2; done) | (simp [Rep] at h2; done) | (simp [Rep] at h2; simp [h2])
    | str b => rw [rep_str] at h1; subst h1; cases e <;> first | (simp [okN] at o2; done) | (simp [Rep] at h2; done) | (simp [Rep] at h2; simp [h2])
    | _ => simp [okN] at o1
  | succ n ih =>
    intro d e v o1 o2 h1 h2
    have lists : ∀ (xs ys : List D) (vs : List V), (∀ d ∈ xs, okN n d = true) → (∀ d ∈ ys, okN n d = true) → Reps X.K noW H xs vs → Reps X.K noW H ys vs → xs = ys := by
      intro xs
      induction xs with
      | nil =>
        intro ys vs _ _ q1 q2
        unfold Reps at q1; subst q1
        cases ys with
        | nil => rfl
        | cons y ys => unfold Reps at q2; obtain ⟨_, _, z, _⟩ := q2; cases z
      | cons x xs ihx =>
        intro ys vs k1 k2 q1 q2
        unfold Reps at q1
        obtain ⟨v, r, rfl, q1, q1'⟩ := q1
        cases ys with
        | nil => unfold Reps at q2; cases q2
        | cons y ys =>
          unfold Reps at q2
          obtain ⟨v', r', z, q2, q2'⟩ := q2
          cases z
          rw [ih x y v (k1 x (by simp)) (k2 y (by simp)) q1 q2, ihx ys r (fun d hd => k1 d (by simp [hd])) (fun d hd => k2 d (by simp [hd])) q1' q2']
    cases d with
    | non => rw [rep_non] at h1; subst h1; cases e <;> first | rfl | (simp [okN] at o2; done) | (simp [Rep] at h2; done)
    | bl b => rw [rep_bl] at h1; subst h1; cases e <;> first | (simp [okN] at o2; done) | (simp [Rep] at h2; done) | (simp [Rep] at h2; simp [h2])
    | int b => rw [rep_int] at h1; subst h1; cases e <;> first | (simp [okN] at o2; done) | (simp [Rep] at h2; done) | (simp [Rep] at h2; simp [h2])
    | str b => rw [rep_str] at h1; subst h1; cases e <;> first | (simp [okN] at o2; done) | (simp [Rep] at h2; done) | (simp [Rep] at h2; simp [h2])
    | lst xs =>
      obtain ⟨a, vs, rfl, l, r⟩ := rep_lst.mp h1
      cases e with
      | lst ys =>
        obtain ⟨a', vs', z, l', r'⟩ := rep_lst.mp h2
        cases z
        have := I.list_inj l.sq l'.sq
        subst this
        rw [lists xs ys _ (okN_lst o1) (okN_lst o2) r r']
      | tup ys =>
        obtain ⟨a', vs', z, l', r'⟩ := rep_tup.mp h2
        cases z
        obtain ⟨_, _, pl, _⟩ := I.list l.sq
        obtain ⟨_, _, pt, _⟩ := I.tuple l'.sq
        exact absurd rfl (SeqAt.ne_of_list_tuple pl.isList pt)
      | _ => first | (simp [okN] at o2; done) | (simp [Rep] at h2; done)
    | tup xs =>
      obtain ⟨a, vs, rfl, l, r⟩ := rep_tup.mp h1
      cases e with
      | tup ys =>
        obtain ⟨a', vs', z, l', r'⟩ := rep_tup.mp h2
        cases z
        have := I.tuple_inj l.sq l'.sq
        subst this
        rw [lists xs ys _ (okN_tup o1) (okN_tup o2) r r']
      | lst ys =>
        obtain ⟨a', vs', z, l', r'⟩ := rep_lst.mp h2
        cases z
        obtain ⟨_, _, pl, _⟩ := I.list l'.sq
        obtain ⟨_, _, pt, _⟩ := I.tuple l.sq
        exact absurd rfl (SeqAt.ne_of_list_tuple pl.isList pt)
      | _ => first | (simp [okN] at o2; done) | (simp [Rep] at h2; done)
    | _ => simp [okN] at o1
theorem eqvL_refl : ∀ {xs : List D}, (∀ d ∈ xs, D.eqv d d = true) → eqvL xs xs = true
  | [], _ => by simp [eqvL]
  | x :: xs, h => by rw [eqvL, h x (by simp), eqvL_refl fun d hd => h d (by simp [hd])]; rfl
theorem eqv_refl : ∀ (n : Nat) (d : D), okN n d = true → D.eqv d d = true := by
  intro n
  induction n with
  | zero => intro d o; cases d <;> first | (simp [okN] at o; done) | simp [D.eqv]
  | succ n ih =>
    intro d o
    cases d with
    | lst xs => rw [D.eqv]; exact eqvL_refl fun d hd => ih d (okN_lst o d hd)
    | tup xs => rw [D.eqv]; exact eqvL_refl fun d hd => ih d (okN_tup o d hd)
    | _ => first | (simp [okN] at o; done) | simp [D.eqv]
theorem eq_items {n : Nat} {A : Around} (ih : ∀ (d e : D) (A : Around) (x y : V) (a b : Value), Rep X.K noW H d x → Rep X.K noW H e y → RelV x a → RelV y b → okN n d = true → okN n e = true → A.units + n < cLine → SeqAt.EqAt A s a b (D.eqv d e))
    {xs ys : List D} {vx vy : List V} {ix iy : List Value} (zx : Reps X.K noW H xs vx) (zy : Reps X.K noW H ys vy) (rx : Vals vx ix) (ry : Vals vy iy) (o1 : ∀ d ∈ xs, okN n d = true) (o2 : ∀ d ∈ ys, okN n d = true) (hu : A.units + n < cLine)
    (j : Nat) (h1 : j < ix.toArray.size) (h2 : j < iy.toArray.size) : SeqAt.EqAt A s ix.toArray[j] iy.toArray[j] (D.eqv (xs.getD j .non) (ys.getD j .non)) := by
  have l1 : xs.length = ix.length := zx.length.trans rx.length
  have l2 : ys.length = iy.length := zy.length.trans ry.length
  have j1 : j < xs.length := by rw [l1]; simpa using h1
  have j2 : j < ys.length := by rw [l2]; simpa using h2
  obtain ⟨v, e1, q1⟩ := zx.get (List.getElem?_eq_getElem j1)
  obtain ⟨u, e2, q2⟩ := zy.get (List.getElem?_eq_getElem j2)
  obtain ⟨v', f1, g1⟩ := rx.get e1
  obtain ⟨u', f2, g2⟩ := ry.get e2
  have x1 : ix.toArray[j] = v' := by
    have := List.getElem?_eq_some_iff.mp f1
    obtain ⟨_, q⟩ := this
    simpa using q
  have x2 : iy.toArray[j] = u' := by
    have := List.getElem?_eq_some_iff.mp f2
    obtain ⟨_, q⟩ := this
    simpa using q
  have y1 : xs.getD j .non = xs[j] := by simp [j1]
  have y2 : ys.getD j .non = ys[j] := by simp [j2]
  rw [x1, x2, y1, y2]
  exact ih _ _ A v u v' u' q1 q2 g1 g2 (o1 _ (List.getElem_mem j1)) (o2 _ (List.getElem_mem j2)) hu
theorem in1_units {A : Around} : A.in1.units = A.units + 1 := rfl
theorem eq_lists (I : Inv X pins σ H s) {n : Nat} {A : Around} (ih : ∀ (d e : D) (A : Around) (x y : V) (a b : Value), Rep X.K noW H d x → Rep X.K noW H e y → RelV x a → RelV y b → okN n d = true → okN n e = true → A.units + n < cLine → SeqAt.EqAt A s a b (D.eqv d e))
    {xs ys : List D} {vx vy : List V} {ix iy : List Value} {p q : Addr} (zx : Reps X.K noW H xs vx) (zy : Reps X.K noW H ys vy) (sx : LstAt X.K noW H p vx) (sy : LstAt X.K noW H q vy) (rx : Vals vx ix) (ry : Vals vy iy) (hx : s.heap.IsList p ix.toArray) (hy : s.heap.IsList q iy.toArray)
    (o1 : ∀ d ∈ xs, okN n d = true) (o2 : ∀ d ∈ ys, okN n d = true) (hu : A.units + (n + 1) < cLine) : SeqAt.EqAt A s (.ref p) (.ref q) (D.eqv (.lst xs) (.lst ys)) := by
  have l1 : xs.length = ix.length := zx.length.trans rx.length
  have l2 : ys.length = iy.length := zy.length.trans ry.length
  by_cases hpq : p = q
  · subst hpq
    have := I.list_inj sx.sq sy.sq
    subst this
    have k1 : okN (n + 1) (.lst xs) = true := by unfold okN; exact List.all_eq_true.mpr o1
    have k2 : okN (n + 1) (.lst ys) = true := by unfold okN; exact List.all_eq_true.mpr o2
    rw [← rep_inj I (n + 1) (.lst xs) (.lst ys) (.ref p) k1 k2 (rep_lst.mpr ⟨p, _, rfl, sx, zx⟩) (rep_lst.mpr ⟨p, _, rfl, sy, zy⟩), eqv_refl _ _ k1]
    exact SeqAt.EqAt.same _
  · refine SeqAt.EqAt.of_refs hpq ?_
    rw [D.eqv]
    by_cases hs : ix.toArray.size = iy.toArray.size
    · have hs' : xs.length = ys.length := by simpa [l1, l2] using hs
      rw [← eqvL_same hs', show xs.length = ix.toArray.size by simp [l1]]
      exact SeqAt.RcAt.lists hx hy hs (by omega) fun j h1 h2 => eq_items ih zx zy rx ry o1 o2 (by rw [in1_units]; omega) j h1 h2
    · rw [eqvL_other (by simpa [l1, l2] using hs)]
      exact SeqAt.RcAt.lists_lengths hx hy (by simpa using hs) (by omega)
theorem eq_tuples (I : Inv X pins σ H s) {n : Nat} {A : Around} (ih : ∀ (d e : D) (A : Around) (x y : V) (a b : Value), Rep X.K noW H d x → Rep X.K noW H e y → RelV x a → RelV y b → okN n d = true → okN n e = true → A.units + n < cLine → SeqAt.EqAt A s a b (D.eqv d e))
    {xs ys : List D} {vx vy : List V} {ix iy : List Value} {p q : Addr} (zx : Reps X.K noW H xs vx) (zy : Reps X.K noW H ys vy) (sx : TupAt X.K noW H p vx) (sy : TupAt X.K noW H q vy) (rx : Vals vx ix) (ry : Vals vy iy) (hx : IsTup s.heap p ix.toArray) (hy : IsTup s.heap q iy.toArray)
    (o1 : ∀ d ∈ xs, okN n d = true) (o2 : ∀ d ∈ ys, okN n d = true) (hu : A.units + (n + 1) < cLine) : SeqAt.EqAt A s (.ref p) (.ref q) (D.eqv (.tup xs) (.tup ys)) := by
  have l1 : xs.length = ix.length := zx.length.trans rx.length
  have l2 : ys.length = iy.length := zy.length.trans ry.length
  by_cases hpq : p = q
  · subst hpq
    have := I.tuple_inj sx.sq sy.sq
    subst this
    have k1 : okN (n + 1) (.tup xs) = true := by unfold okN; exact List.all_eq_true.mpr o1
    have k2 : okN (n + 1) (.tup ys) = true := by unfold okN; exact List.all_eq_true.mpr o2
    rw [← rep_inj I (n + 1) (.tup xs) (.tup ys) (.ref p) k1 k2 (rep_tup.mpr ⟨p, _, rfl, sx, zx⟩) (rep_tup.mpr ⟨p, _, rfl, sy, zy⟩), eqv_refl _ _ k1]
    exact SeqAt.EqAt.same _
  · refine SeqAt.EqAt.of_refs hpq ?_
    rw [D.eqv, ← eqvL_range xs ys, l1, l2, show ix.length = ix.toArray.size by simp, show iy.length = iy.toArray.size by simp]
    exact SeqAt.RcAt.tuples hx hy (by omega) fun j h1 h2 => eq_items ih zx zy rx ry o1 o2 (by rw [in1_units]; omega) j h1 h2
theorem eqAt_D (I : Inv X pins σ H s) : ∀ (n : Nat) (d e : D) (A : Around) (x y : V) (a b : Value), Rep X.K noW H d x → Rep X.K noW H e y → RelV x a → RelV y b → okN n d = true → okN n e = true → A.units + n < cLine → SeqAt.EqAt A s a b (D.eqv d e) := by
  intro n
  induction n with
  | zero =>
    intro d e A x y a b h1 h2 r1 r2 o1 o2 hu
    have hu0 : A.units < cLine := by omega
    cases d with
    | non =>
      rw [rep_non] at h1; subst x; cases r1
      cases e with
      | non =>
        rw [rep_non] at h2; subst y; cases r2
        exact SeqAt.EqAt.same _
      | bl q =>
        rw [rep_bl] at h2; subst y; cases r2
        exact SeqAt.EqAt.none_bool q
      | int q =>
        rw [rep_int] at h2; subst y; obtain ⟨ty, rfl⟩ := r2
        exact SeqAt.EqAt.none_int q ty
      | str q =>
        rw [rep_str] at h2; subst y; obtain ⟨ty, rfl⟩ := r2
        exact SeqAt.EqAt.none_str q ty
      | lst q =>
        simp [okN] at o2
      | tup q =>
        simp [okN] at o2
      | dct q => simp [okN] at o2
      | loc q => simp [okN] at o2
      | own q => simp [okN] at o2
      | ownd q => simp [okN] at o2
    | bl p =>
      rw [rep_bl] at h1; subst x; cases r1
      cases e with
      | non =>
        rw [rep_non] at h2; subst y; cases r2
        exact SeqAt.EqAt.bool_none p
      | bl q =>
        rw [rep_bl] at h2; subst y; cases r2
        exact SeqAt.EqAt.bool_bool p q
      | int q =>
        rw [rep_int] at h2; subst y; obtain ⟨ty, rfl⟩ := r2
        exact SeqAt.EqAt.bool_int p q ty
      | str q =>
        rw [rep_str] at h2; subst y; obtain ⟨ty, rfl⟩ := r2
        exact SeqAt.EqAt.bool_str p q ty
      | lst q =>
        simp [okN] at o2
      | tup q =>
        simp [okN] at o2
      | dct q => simp [okN] at o2
      | loc q => simp [okN] at o2
      | own q => simp [okN] at o2
      | ownd q => simp [okN] at o2
    | int p =>
      rw [rep_int] at h1; subst x; obtain ⟨tx, rfl⟩ := r1
      cases e with
      | non =>
        rw [rep_non] at h2; subst y; cases r2
        exact SeqAt.EqAt.int_none p tx
      | bl q =>
        rw [rep_bl] at h2; subst y; cases r2
        exact SeqAt.EqAt.int_bool p tx q
      | int q =>
        rw [rep_int] at h2; subst y; obtain ⟨ty, rfl⟩ := r2
        exact SeqAt.EqAt.int_int p tx q ty
      | str q =>
        rw [rep_str] at h2; subst y; obtain ⟨ty, rfl⟩ := r2
        exact SeqAt.EqAt.int_str p tx q ty
      | lst q =>
        simp [okN] at o2
      | tup q =>
        simp [okN] at o2
      | dct q => simp [okN] at o2
      | loc q => simp [okN] at o2
      | own q => simp [okN] at o2
      | ownd q => simp [okN] at o2
    | str p =>
      rw [rep_str] at h1; subst x; obtain ⟨tx, rfl⟩ := r1
      cases e with
      | non =>
        rw [rep_non] at h2; subst y; cases r2
        exact SeqAt.EqAt.str_none p tx
      | bl q =>
        rw [rep_bl] at h2; subst y; cases r2
        exact SeqAt.EqAt.str_bool p tx q
      | int q =>
        rw [rep_int] at h2; subst y; obtain ⟨ty, rfl⟩ := r2
        exact SeqAt.EqAt.str_int p tx q ty
      | str q =>
        rw [rep_str] at h2; subst y; obtain ⟨ty, rfl⟩ := r2
        exact SeqAt.EqAt.str_str p tx q ty
      | lst q =>
        simp [okN] at o2
      | tup q =>
        simp [okN] at o2
      | dct q => simp [okN] at o2
      | loc q => simp [okN] at o2
      | own q => simp [okN] at o2
      | ownd q => simp [okN] at o2
    | lst p =>
      simp [okN] at o1
    | tup p =>
      simp [okN] at o1
    | dct q => simp [okN] at o1
    | loc q => simp [okN] at o1
    | own q => simp [okN] at o1
    | ownd q => simp [okN] at o1
  | succ n ih =>
    intro d e A x y a b h1 h2 r1 r2 o1 o2 hu
    have hu0 : A.units < cLine := by omega
    cases d with
    | non =>
      rw [rep_non] at h1; subst x; cases r1
      cases e with
      | non =>
        rw [rep_non] at h2; subst y; cases r2
        exact SeqAt.EqAt.same _
      | bl q =>
        rw [rep_bl] at h2; subst y; cases r2
        exact SeqAt.EqAt.none_bool q
      | int q =>
        rw [rep_int] at h2; subst y; obtain ⟨ty, rfl⟩ := r2
        exact SeqAt.EqAt.none_int q ty
      | str q =>
        rw [rep_str] at h2; subst y; obtain ⟨ty, rfl⟩ := r2
        exact SeqAt.EqAt.none_str q ty
      | lst q =>
        obtain ⟨ay, vsy, rfl, qy, zy⟩ := rep_lst.mp h2; cases r2; obtain ⟨iy, rvy, ply, _⟩ := I.list qy.sq; have hly := ply.isList
        exact SeqAt.EqAt.none_list hly hu0
      | tup q =>
        obtain ⟨ay, vsy, rfl, qy, zy⟩ := rep_tup.mp h2; cases r2; obtain ⟨iy, rvy, hly, _⟩ := I.tuple qy.sq
        exact SeqAt.EqAt.none_tuple hly hu0
      | dct q => cases n <;> simp [okN] at o2
      | loc q => cases n <;> simp [okN] at o2
      | own q => cases n <;> simp [okN] at o2
      | ownd q => cases n <;> simp [okN] at o2
    | bl p =>
      rw [rep_bl] at h1; subst x; cases r1
      cases e with
      | non =>
        rw [rep_non] at h2; subst y; cases r2
        exact SeqAt.EqAt.bool_none p
      | bl q =>
        rw [rep_bl] at h2; subst y; cases r2
        exact SeqAt.EqAt.bool_bool p q
      | int q =>
        rw [rep_int] at h2; subst y; obtain ⟨ty, rfl⟩ := r2
        exact SeqAt.EqAt.bool_int p q ty
      | str q =>
        rw [rep_str] at h2; subst y; obtain ⟨ty, rfl⟩ := r2
        exact SeqAt.EqAt.bool_str p q ty
      | lst q =>
        obtain ⟨ay, vsy, rfl, qy, zy⟩ := rep_lst.mp h2; cases r2; obtain ⟨iy, rvy, ply, _⟩ := I.list qy.sq; have hly := ply.isList
        exact SeqAt.EqAt.bool_list p hly hu0
      | tup q =>
        obtain ⟨ay, vsy, rfl, qy, zy⟩ := rep_tup.mp h2; cases r2; obtain ⟨iy, rvy, hly, _⟩ := I.tuple qy.sq
        exact SeqAt.EqAt.bool_tuple p hly hu0
      | dct q => cases n <;> simp [okN] at o2
      | loc q => cases n <;> simp [okN] at o2
      | own q => cases n <;> simp [okN] at o2
      | ownd q => cases n <;> simp [okN] at o2
    | int p =>
      rw [rep_int] at h1; subst x; obtain ⟨tx, rfl⟩ := r1
      cases e with
      | non =>
        rw [rep_non] at h2; subst y; cases r2
        exact SeqAt.EqAt.int_none p tx
      | bl q =>
        rw [rep_bl] at h2; subst y; cases r2
        exact SeqAt.EqAt.int_bool p tx q
      | int q =>
        rw [rep_int] at h2; subst y; obtain ⟨ty, rfl⟩ := r2
        exact SeqAt.EqAt.int_int p tx q ty
      | str q =>
        rw [rep_str] at h2; subst y; obtain ⟨ty, rfl⟩ := r2
        exact SeqAt.EqAt.int_str p tx q ty
      | lst q =>
        obtain ⟨ay, vsy, rfl, qy, zy⟩ := rep_lst.mp h2; cases r2; obtain ⟨iy, rvy, ply, _⟩ := I.list qy.sq; have hly := ply.isList
        exact SeqAt.EqAt.int_list p tx hly hu0
      | tup q =>
        obtain ⟨ay, vsy, rfl, qy, zy⟩ := rep_tup.mp h2; cases r2; obtain ⟨iy, rvy, hly, _⟩ := I.tuple qy.sq
        exact SeqAt.EqAt.int_tuple p tx hly hu0
      | dct q => cases n <;> simp [okN] at o2
      | loc q => cases n <;> simp [okN] at o2
      | own q => cases n <;> simp [okN] at o2
      | ownd q => cases n <;> simp [okN] at o2
    | str p =>
      rw [rep_str] at h1; subst x; obtain ⟨tx, rfl⟩ := r1
      cases e with
      | non =>
        rw [rep_non] at h2; subst y; cases r2
        exact SeqAt.EqAt.str_none p tx
      | bl q =>
        rw [rep_bl] at h2; subst y; cases r2
        exact SeqAt.EqAt.str_bool p tx q
      | int q =>
        rw [rep_int] at h2; subst y; obtain ⟨ty, rfl⟩ := r2
        exact SeqAt.EqAt.str_int p tx q ty
      | str q =>
        rw [rep_str] at h2; subst y; obtain ⟨ty, rfl⟩ := r2
        exact SeqAt.EqAt.str_str p tx q ty
      | lst q =>
        obtain ⟨ay, vsy, rfl, qy, zy⟩ := rep_lst.mp h2; cases r2; obtain ⟨iy, rvy, ply, _⟩ := I.list qy.sq; have hly := ply.isList
        exact SeqAt.EqAt.str_list p tx hly hu0
      | tup q =>
        obtain ⟨ay, vsy, rfl, qy, zy⟩ := rep_tup.mp h2; cases r2; obtain ⟨iy, rvy, hly, _⟩ := I.tuple qy.sq
        exact SeqAt.EqAt.str_tuple p tx hly hu0
      | dct q => cases n <;> simp [okN] at o2
      | loc q => cases n <;> simp [okN] at o2
      | own q => cases n <;> simp [okN] at o2
      | ownd q => cases n <;> simp [okN] at o2
    | lst p =>
      obtain ⟨ax, vsx, rfl, qx, zx⟩ := rep_lst.mp h1; cases r1; obtain ⟨ix, rvx, plx, _⟩ := I.list qx.sq; have hlx := plx.isList
      cases e with
      | non =>
        rw [rep_non] at h2; subst y; cases r2
        exact SeqAt.EqAt.list_none hlx hu0
      | bl q =>
        rw [rep_bl] at h2; subst y; cases r2
        exact SeqAt.EqAt.list_bool q hlx hu0
      | int q =>
        rw [rep_int] at h2; subst y; obtain ⟨ty, rfl⟩ := r2
        exact SeqAt.EqAt.list_int q ty hlx hu0
      | str q =>
        rw [rep_str] at h2; subst y; obtain ⟨ty, rfl⟩ := r2
        exact SeqAt.EqAt.list_str q ty hlx hu0
      | lst q =>
        obtain ⟨ay, vsy, rfl, qy, zy⟩ := rep_lst.mp h2; cases r2; obtain ⟨iy, rvy, ply, _⟩ := I.list qy.sq; have hly := ply.isList
        exact eq_lists I ih zx zy qx qy rvx rvy hlx hly (okN_lst o1) (okN_lst o2) hu
      | tup q =>
        obtain ⟨ay, vsy, rfl, qy, zy⟩ := rep_tup.mp h2; cases r2; obtain ⟨iy, rvy, hly, _⟩ := I.tuple qy.sq
        exact SeqAt.EqAt.list_tuple hlx hly hu0
      | dct q => cases n <;> simp [okN] at o2
      | loc q => cases n <;> simp [okN] at o2
      | own q => cases n <;> simp [okN] at o2
      | ownd q => cases n <;> simp [okN] at o2
    | tup p =>
      obtain ⟨ax, vsx, rfl, qx, zx⟩ := rep_tup.mp h1; cases r1; obtain ⟨ix, rvx, hlx, _⟩ := I.tuple qx.sq
      cases e with
      | non =>
        rw [rep_non] at h2; subst y; cases r2
        exact SeqAt.EqAt.tuple_none hlx hu0
      | bl q =>
        rw [rep_bl] at h2; subst y; cases r2
        exact SeqAt.EqAt.tuple_bool q hlx hu0
      | int q =>
        rw [rep_int] at h2; subst y; obtain ⟨ty, rfl⟩ := r2
        exact SeqAt.EqAt.tuple_int q ty hlx hu0
      | str q =>
        rw [rep_str] at h2; subst y; obtain ⟨ty, rfl⟩ := r2
        exact SeqAt.EqAt.tuple_str q ty hlx hu0
      | lst q =>
        obtain ⟨ay, vsy, rfl, qy, zy⟩ := rep_lst.mp h2; cases r2; obtain ⟨iy, rvy, ply, _⟩ := I.list qy.sq; have hly := ply.isList
        exact SeqAt.EqAt.tuple_list hlx hly hu0
      | tup q =>
        obtain ⟨ay, vsy, rfl, qy, zy⟩ := rep_tup.mp h2; cases r2; obtain ⟨iy, rvy, hly, _⟩ := I.tuple qy.sq
        exact eq_tuples I ih zx zy qx qy rvx rvy hlx hly (okN_tup o1) (okN_tup o2) hu
      | dct q => cases n <;> simp [okN] at o2
      | loc q => cases n <;> simp [okN] at o2
      | own q => cases n <;> simp [okN] at o2
      | ownd q => cases n <;> simp [okN] at o2
    | dct q => cases n <;> simp [okN] at o1
    | loc q => cases n <;> simp [okN] at o1
    | own q => cases n <;> simp [okN] at o1
    | ownd q => cases n <;> simp [okN] at o1
theorem okN_all {n : Nat} {xs : List D} (h : okN n (.lst xs) = true ∨ okN n (.tup xs) = true) : ∃ k, n = k + 1 ∧ ∀ d ∈ xs, okN k d = true := by
  cases n with
  | zero => rcases h with h | h <;> simp [okN] at h
  | succ k =>
    refine ⟨k, rfl, ?_⟩
    rcases h with h | h
    · exact okN_lst h
    · exact okN_tup h
theorem rcAt_D_lists (I : Inv X pins σ H s) {n : Nat} {A : Around} {xs ys : List D} {vx vy : List V} {ix iy : List Value} {p q : Addr} (zx : Reps X.K noW H xs vx) (zy : Reps X.K noW H ys vy) (rx : Vals vx ix) (ry : Vals vy iy) (hx : s.heap.IsList p ix.toArray) (hy : s.heap.IsList q iy.toArray)
    (o1 : okN n (.lst xs) = true) (o2 : okN n (.lst ys) = true) (hu : A.units + n < cLine) : SeqAt.RcAt A s (.ref p) (.ref q) (D.eqv (.lst xs) (.lst ys)) := by
  obtain ⟨k, rfl, w1⟩ := okN_all (.inl o1)
  have w2 := okN_lst o2
  have l1 : xs.length = ix.length := zx.length.trans rx.length
  have l2 : ys.length = iy.length := zy.length.trans ry.length
  rw [D.eqv]
  by_cases hs : ix.toArray.size = iy.toArray.size
  · have hs' : xs.length = ys.length := by simpa [l1, l2] using hs
    rw [← eqvL_same hs', show xs.length = ix.toArray.size by simp [l1]]
    exact SeqAt.RcAt.lists hx hy hs (by omega) fun j h1 h2 => eq_items (eqAt_D I k) zx zy rx ry w1 w2 (by rw [in1_units]; omega) j h1 h2
  · rw [eqvL_other (by simpa [l1, l2] using hs)]
    exact SeqAt.RcAt.lists_lengths hx hy (by simpa using hs) (by omega)
theorem rcAt_D_tuples (I : Inv X pins σ H s) {n : Nat} {A : Around} {xs ys : List D} {vx vy : List V} {ix iy : List Value} {p q : Addr} (zx : Reps X.K noW H xs vx) (zy : Reps X.K noW H ys vy) (rx : Vals vx ix) (ry : Vals vy iy) (hx : IsTup s.heap p ix.toArray) (hy : IsTup s.heap q iy.toArray)
    (o1 : okN n (.tup xs) = true) (o2 : okN n (.tup ys) = true) (hu : A.units + n < cLine) : SeqAt.RcAt A s (.ref p) (.ref q) (D.eqv (.tup xs) (.tup ys)) := by
  obtain ⟨k, rfl, w1⟩ := okN_all (.inr o1)
  have w2 := okN_tup o2
  have l1 : xs.length = ix.length := zx.length.trans rx.length
  have l2 : ys.length = iy.length := zy.length.trans ry.length
  rw [D.eqv, ← eqvL_range xs ys, l1, l2, show ix.length = ix.toArray.size by simp, show iy.length = iy.toArray.size by simp]
  exact SeqAt.RcAt.tuples hx hy (by omega) fun j h1 h2 => eq_items (eqAt_D I k) zx zy rx ry w1 w2 (by rw [in1_units]; omega) j h1 h2
theorem neAt_D_lists (I : Inv X pins σ H s) {n : Nat} {A : Around} {xs ys : List D} {vx vy : List V} {ix iy : List Value} {p q : Addr} (zx : Reps X.K noW H xs vx) (zy : Reps X.K noW H ys vy) (rx : Vals vx ix) (ry : Vals vy iy) (hx : s.heap.IsList p ix.toArray) (hy : s.heap.IsList q iy.toArray)
    (o1 : okN n (.lst xs) = true) (o2 : okN n (.lst ys) = true) (hu : A.units + n < cLine) : SeqAt.RcNeAt A s (.ref p) (.ref q) (!D.eqv (.lst xs) (.lst ys)) := by
  obtain ⟨k, rfl, w1⟩ := okN_all (.inl o1)
  have w2 := okN_lst o2
  have l1 : xs.length = ix.length := zx.length.trans rx.length
  have l2 : ys.length = iy.length := zy.length.trans ry.length
  rw [D.eqv]
  by_cases hs : ix.toArray.size = iy.toArray.size
  · have hs' : xs.length = ys.length := by simpa [l1, l2] using hs
    rw [← eqvL_same hs', show xs.length = ix.toArray.size by simp [l1]]
    exact SeqAt.RcNeAt.lists hx hy hs (by omega) fun j h1 h2 => eq_items (eqAt_D I k) zx zy rx ry w1 w2 (by rw [in1_units]; omega) j h1 h2
  · rw [eqvL_other (by simpa [l1, l2] using hs)]
    exact SeqAt.RcNeAt.lists_lengths hx hy (by simpa using hs) (by omega)
theorem neAt_D_tuples (I : Inv X pins σ H s) {n : Nat} {A : Around} {xs ys : List D} {vx vy : List V} {ix iy : List Value} {p q : Addr} (zx : Reps X.K noW H xs vx) (zy : Reps X.K noW H ys vy) (rx : Vals vx ix) (ry : Vals vy iy) (hx : IsTup s.heap p ix.toArray) (hy : IsTup s.heap q iy.toArray)
    (o1 : okN n (.tup xs) = true) (o2 : okN n (.tup ys) = true) (hu : A.units + n < cLine) : SeqAt.RcNeAt A s (.ref p) (.ref q) (!D.eqv (.tup xs) (.tup ys)) := by
  obtain ⟨k, rfl, w1⟩ := okN_all (.inr o1)
  have w2 := okN_tup o2
  have l1 : xs.length = ix.length := zx.length.trans rx.length
  have l2 : ys.length = iy.length := zy.length.trans ry.length
  rw [D.eqv, ← eqvL_range xs ys, l1, l2, show ix.length = ix.toArray.size by simp, show iy.length = iy.toArray.size by simp]
  exact SeqAt.RcNeAt.tuples hx hy (by omega) fun j h1 h2 => eq_items (eqAt_D I k) zx zy rx ry w1 w2 (by rw [in1_units]; omega) j h1 h2
theorem rcAt_D (I : Inv X pins σ H s) : ∀ (n : Nat) (d e : D) (A : Around) (x y : V) (a b : Value), Rep X.K noW H d x → Rep X.K noW H e y → RelV x a → RelV y b → okN n d = true → okN n e = true → A.units + n < cLine → SeqAt.RcAt A s a b (D.eqv d e) := by
  intro n
  intro d e A x y a b h1 h2 r1 r2 o1 o2 hu
  have hu0 : A.units < cLine := by omega
  cases d with
  | non =>
    rw [rep_non] at h1; subst x; cases r1
    cases e with
    | non =>
      rw [rep_non] at h2; subst y; cases r2
      exact SeqAt.RcAt.none_none
    | bl q =>
      rw [rep_bl] at h2; subst y; cases r2
      exact SeqAt.RcAt.none_bool q
    | int q =>
      rw [rep_int] at h2; subst y; obtain ⟨ty, rfl⟩ := r2
      exact SeqAt.RcAt.none_int q ty
    | str q =>
      rw [rep_str] at h2; subst y; obtain ⟨ty, rfl⟩ := r2
      exact SeqAt.RcAt.none_str q ty
    | lst q =>
      obtain ⟨ay, vsy, rfl, qy, zy⟩ := rep_lst.mp h2; cases r2; obtain ⟨iy, rvy, ply, _⟩ := I.list qy.sq; have hly := ply.isList
      exact SeqAt.RcAt.none_list hly hu0
    | tup q =>
      obtain ⟨ay, vsy, rfl, qy, zy⟩ := rep_tup.mp h2; cases r2; obtain ⟨iy, rvy, hly, _⟩ := I.tuple qy.sq
      exact SeqAt.RcAt.none_tuple hly hu0
    | dct q => cases n <;> simp [okN] at o2
    | loc q => cases n <;> simp [okN] at o2
    | own q => cases n <;> simp [okN] at o2
    | ownd q => cases n <;> simp [okN] at o2
  | bl p =>
    rw [rep_bl] at h1; subst x; cases r1
    cases e with
    | non =>
      rw [rep_non] at h2; subst y; cases r2
      exact SeqAt.RcAt.bool_none p
    | bl q =>
      rw [rep_bl] at h2; subst y; cases r2
      exact SeqAt.RcAt.bool_bool p q
    | int q =>
      rw [rep_int] at h2; subst y; obtain ⟨ty, rfl⟩ := r2
      exact SeqAt.RcAt.bool_int p q ty
    | str q =>
      rw [rep_str] at h2; subst y; obtain ⟨ty, rfl⟩ := r2
      exact SeqAt.RcAt.bool_str p q ty
    | lst q =>
      obtain ⟨ay, vsy, rfl, qy, zy⟩ := rep_lst.mp h2; cases r2; obtain ⟨iy, rvy, ply, _⟩ := I.list qy.sq; have hly := ply.isList
      exact SeqAt.RcAt.bool_list p hly hu0
    | tup q =>
      obtain ⟨ay, vsy, rfl, qy, zy⟩ := rep_tup.mp h2; cases r2; obtain ⟨iy, rvy, hly, _⟩ := I.tuple qy.sq
      exact SeqAt.RcAt.bool_tuple p hly hu0
    | dct q => cases n <;> simp [okN] at o2
    | loc q => cases n <;> simp [okN] at o2
    | own q => cases n <;> simp [okN] at o2
    | ownd q => cases n <;> simp [okN] at o2
  | int p =>
    rw [rep_int] at h1; subst x; obtain ⟨tx, rfl⟩ := r1
    cases e with
    | non =>
      rw [rep_non] at h2; subst y; cases r2
      exact SeqAt.RcAt.int_none p tx
    | bl q =>
      rw [rep_bl] at h2; subst y; cases r2
      exact SeqAt.RcAt.int_bool p tx q
    | int q =>
      rw [rep_int] at h2; subst y; obtain ⟨ty, rfl⟩ := r2
      exact SeqAt.RcAt.int_int p tx q ty
    | str q =>
      rw [rep_str] at h2; subst y; obtain ⟨ty, rfl⟩ := r2
      exact SeqAt.RcAt.int_str p tx q ty
    | lst q =>
      obtain ⟨ay, vsy, rfl, qy, zy⟩ := rep_lst.mp h2; cases r2; obtain ⟨iy, rvy, ply, _⟩ := I.list qy.sq; have hly := ply.isList
      exact SeqAt.RcAt.int_list p tx hly hu0
    | tup q =>
      obtain ⟨ay, vsy, rfl, qy, zy⟩ := rep_tup.mp h2; cases r2; obtain ⟨iy, rvy, hly, _⟩ := I.tuple qy.sq
      exact SeqAt.RcAt.int_tuple p tx hly hu0
    | dct q => cases n <;> simp [okN] at o2
    | loc q => cases n <;> simp [okN] at o2
    | own q => cases n <;> simp [okN] at o2
    | ownd q => cases n <;> simp [okN] at o2
  | str p =>
    rw [rep_str] at h1; subst x; obtain ⟨tx, rfl⟩ := r1
    cases e with
    | non =>
      rw [rep_non] at h2; subst y; cases r2
      exact SeqAt.RcAt.str_none p tx
    | bl q =>
      rw [rep_bl] at h2; subst y; cases r2
      exact SeqAt.RcAt.str_bool p tx q
    | int q =>
      rw [rep_int] at h2; subst y; obtain ⟨ty, rfl⟩ := r2
      exact SeqAt.RcAt.str_int p tx q ty
    | str q =>
      rw [rep_str] at h2; subst y; obtain ⟨ty, rfl⟩ := r2
      exact SeqAt.RcAt.str_str p tx q ty
    | lst q =>
      obtain ⟨ay, vsy, rfl, qy, zy⟩ := rep_lst.mp h2; cases r2; obtain ⟨iy, rvy, ply, _⟩ := I.list qy.sq; have hly := ply.isList
      exact SeqAt.RcAt.str_list p tx hly hu0
    | tup q =>
      obtain ⟨ay, vsy, rfl, qy, zy⟩ := rep_tup.mp h2; cases r2; obtain ⟨iy, rvy, hly, _⟩ := I.tuple qy.sq
      exact SeqAt.RcAt.str_tuple p tx hly hu0
    | dct q => cases n <;> simp [okN] at o2
    | loc q => cases n <;> simp [okN] at o2
    | own q => cases n <;> simp [okN] at o2
    | ownd q => cases n <;> simp [okN] at o2
  | lst p =>
    obtain ⟨ax, vsx, rfl, qx, zx⟩ := rep_lst.mp h1; cases r1; obtain ⟨ix, rvx, plx, _⟩ := I.list qx.sq; have hlx := plx.isList
    cases e with
    | non =>
      rw [rep_non] at h2; subst y; cases r2
      exact SeqAt.RcAt.list_none hlx hu0
    | bl q =>
      rw [rep_bl] at h2; subst y; cases r2
      exact SeqAt.RcAt.list_bool q hlx hu0
    | int q =>
      rw [rep_int] at h2; subst y; obtain ⟨ty, rfl⟩ := r2
      exact SeqAt.RcAt.list_int q ty hlx hu0
    | str q =>
      rw [rep_str] at h2; subst y; obtain ⟨ty, rfl⟩ := r2
      exact SeqAt.RcAt.list_str q ty hlx hu0
    | lst q =>
      obtain ⟨ay, vsy, rfl, qy, zy⟩ := rep_lst.mp h2; cases r2; obtain ⟨iy, rvy, ply, _⟩ := I.list qy.sq; have hly := ply.isList
      exact rcAt_D_lists I zx zy rvx rvy hlx hly o1 o2 hu
    | tup q =>
      obtain ⟨ay, vsy, rfl, qy, zy⟩ := rep_tup.mp h2; cases r2; obtain ⟨iy, rvy, hly, _⟩ := I.tuple qy.sq
      exact SeqAt.RcAt.list_tuple hlx hly hu0
    | dct q => cases n <;> simp [okN] at o2
    | loc q => cases n <;> simp [okN] at o2
    | own q => cases n <;> simp [okN] at o2
    | ownd q => cases n <;> simp [okN] at o2
  | tup p =>
    obtain ⟨ax, vsx, rfl, qx, zx⟩ := rep_tup.mp h1; cases r1; obtain ⟨ix, rvx, hlx, _⟩ := I.tuple qx.sq
    cases e with
    | non =>
      rw [rep_non] at h2; subst y; cases r2
      exact SeqAt.RcAt.tuple_none hlx hu0
    | bl q =>
      rw [rep_bl] at h2; subst y; cases r2
      exact SeqAt.RcAt.tuple_bool q hlx hu0
    | int q =>
      rw [rep_int] at h2; subst y; obtain ⟨ty, rfl⟩ := r2
      exact SeqAt.RcAt.tuple_int q ty hlx hu0
    | str q =>
      rw [rep_str] at h2; subst y; obtain ⟨ty, rfl⟩ := r2
      exact SeqAt.RcAt.tuple_str q ty hlx hu0
    | lst q =>
      obtain ⟨ay, vsy, rfl, qy, zy⟩ := rep_lst.mp h2; cases r2; obtain ⟨iy, rvy, ply, _⟩ := I.list qy.sq; have hly := ply.isList
      exact SeqAt.RcAt.tuple_list hlx hly hu0
    | tup q =>
      obtain ⟨ay, vsy, rfl, qy, zy⟩ := rep_tup.mp h2; cases r2; obtain ⟨iy, rvy, hly, _⟩ := I.tuple qy.sq
      exact rcAt_D_tuples I zx zy rvx rvy hlx hly o1 o2 hu
    | dct q => cases n <;> simp [okN] at o2
    | loc q => cases n <;> simp [okN] at o2
    | own q => cases n <;> simp [okN] at o2
    | ownd q => cases n <;> simp [okN] at o2
  | dct q => cases n <;> simp [okN] at o1
  | loc q => cases n <;> simp [okN] at o1
  | own q => cases n <;> simp [okN] at o1
  | ownd q => cases n <;> simp [okN] at o1
theorem neAt_D (I : Inv X pins σ H s) : ∀ (n : Nat) (d e : D) (A : Around) (x y : V) (a b : Value), Rep X.K noW H d x → Rep X.K noW H e y → RelV x a → RelV y b → okN n d = true → okN n e = true → A.units + n < cLine → SeqAt.RcNeAt A s a b (!D.eqv d e) := by
  intro n
  intro d e A x y a b h1 h2 r1 r2 o1 o2 hu
  have hu0 : A.units < cLine := by omega
  cases d with
  | non =>
    rw [rep_non] at h1; subst x; cases r1
    cases e with
    | non =>
      rw [rep_non] at h2; subst y; cases r2
      exact SeqAt.RcNeAt.none_none
    | bl q =>
      rw [rep_bl] at h2; subst y; cases r2
      exact SeqAt.RcNeAt.none_bool q
    | int q =>
      rw [rep_int] at h2; subst y; obtain ⟨ty, rfl⟩ := r2
      exact SeqAt.RcNeAt.none_int q ty
    | str q =>
      rw [rep_str] at h2; subst y; obtain ⟨ty, rfl⟩ := r2
      exact SeqAt.RcNeAt.none_str q ty
    | lst q =>
      obtain ⟨ay, vsy, rfl, qy, zy⟩ := rep_lst.mp h2; cases r2; obtain ⟨iy, rvy, ply, _⟩ := I.list qy.sq; have hly := ply.isList
      exact SeqAt.RcNeAt.none_list hly hu0
    | tup q =>
      obtain ⟨ay, vsy, rfl, qy, zy⟩ := rep_tup.mp h2; cases r2; obtain ⟨iy, rvy, hly, _⟩ := I.tuple qy.sq
      exact SeqAt.RcNeAt.none_tuple hly hu0
    | dct q => cases n <;> simp [okN] at o2
    | loc q => cases n <;> simp [okN] at o2
    | own q => cases n <;> simp [okN] at o2
    | ownd q => cases n <;> simp [okN] at o2
  | bl p =>
    rw [rep_bl] at h1; subst x; cases r1
    cases e with
    | non =>
      rw [rep_non] at h2; subst y; cases r2
      exact SeqAt.RcNeAt.bool_none p
    | bl q =>
      rw [rep_bl] at h2; subst y; cases r2
      exact SeqAt.RcNeAt.bool_bool p q
    | int q =>
      rw [rep_int] at h2; subst y; obtain ⟨ty, rfl⟩ := r2
      exact SeqAt.RcNeAt.bool_int p q ty
    | str q =>
      rw [rep_str] at h2; subst y; obtain ⟨ty, rfl⟩ := r2
      exact SeqAt.RcNeAt.bool_str p q ty
    | lst q =>
      obtain ⟨ay, vsy, rfl, qy, zy⟩ := rep_lst.mp h2; cases r2; obtain ⟨iy, rvy, ply, _⟩ := I.list qy.sq; have hly := ply.isList
      exact SeqAt.RcNeAt.bool_list p hly hu0
    | tup q =>
      obtain ⟨ay, vsy, rfl, qy, zy⟩ := rep_tup.mp h2; cases r2; obtain ⟨iy, rvy, hly, _⟩ := I.tuple qy.sq
      exact SeqAt.RcNeAt.bool_tuple p hly hu0
    | dct q => cases n <;> simp [okN] at o2
    | loc q => cases n <;> simp [okN] at o2
    | own q => cases n <;> simp [okN] at o2
    | ownd q => cases n <;> simp [okN] at o2
  | int p =>
    rw [rep_int] at h1; subst x; obtain ⟨tx, rfl⟩ := r1
    cases e with
    | non =>
      rw [rep_non] at h2; subst y; cases r2
      exact SeqAt.RcNeAt.int_none p tx
    | bl q =>
      rw [rep_bl] at h2; subst y; cases r2
      exact SeqAt.RcNeAt.int_bool p tx q
    | int q =>
      rw [rep_int] at h2; subst y; obtain ⟨ty, rfl⟩ := r2
      exact SeqAt.RcNeAt.int_int p tx q ty
    | str q =>
      rw [rep_str] at h2; subst y; obtain ⟨ty, rfl⟩ := r2
      exact SeqAt.RcNeAt.int_str p tx q ty
    | lst q =>
      obtain ⟨ay, vsy, rfl, qy, zy⟩ := rep_lst.mp h2; cases r2; obtain ⟨iy, rvy, ply, _⟩ := I.list qy.sq; have hly := ply.isList
      exact SeqAt.RcNeAt.int_list p tx hly hu0
    | tup q =>
      obtain ⟨ay, vsy, rfl, qy, zy⟩ := rep_tup.mp h2; cases r2; obtain ⟨iy, rvy, hly, _⟩ := I.tuple qy.sq
      exact SeqAt.RcNeAt.int_tuple p tx hly hu0
    | dct q => cases n <;> simp [okN] at o2
    | loc q => cases n <;> simp [okN] at o2
    | own q => cases n <;> simp [okN] at o2
    | ownd q => cases n <;> simp [okN] at o2
  | str p =>
    rw [rep_str] at h1; subst x; obtain ⟨tx, rfl⟩ := r1
    cases e with
    | non =>
      rw [rep_non] at h2; subst y; cases r2
      exact SeqAt.RcNeAt.str_none p tx
    | bl q =>
      rw [rep_bl] at h2; subst y; cases r2
      exact SeqAt.RcNeAt.str_bool p tx q
    | int q =>
      rw [rep_int] at h2; subst y; obtain ⟨ty, rfl⟩ := r2
      exact SeqAt.RcNeAt.str_int p tx q ty
    | str q =>
      rw [rep_str] at h2; subst y; obtain ⟨ty, rfl⟩ := r2
      exact SeqAt.RcNeAt.str_str p tx q ty
    | lst q =>
      obtain ⟨ay, vsy, rfl, qy, zy⟩ := rep_lst.mp h2; cases r2; obtain ⟨iy, rvy, ply, _⟩ := I.list qy.sq; have hly := ply.isList
      exact SeqAt.RcNeAt.str_list p tx hly hu0
    | tup q =>
      obtain ⟨ay, vsy, rfl, qy, zy⟩ := rep_tup.mp h2; cases r2; obtain ⟨iy, rvy, hly, _⟩ := I.tuple qy.sq
      exact SeqAt.RcNeAt.str_tuple p tx hly hu0
    | dct q => cases n <;> simp [okN] at o2
    | loc q => cases n <;> simp [okN] at o2
    | own q => cases n <;> simp [okN] at o2
    | ownd q => cases n <;> simp [okN] at o2
  | lst p =>
    obtain ⟨ax, vsx, rfl, qx, zx⟩ := rep_lst.mp h1; cases r1; obtain ⟨ix, rvx, plx, _⟩ := I.list qx.sq; have hlx := plx.isList
    cases e with
    | non =>
      rw [rep_non] at h2; subst y; cases r2
      exact SeqAt.RcNeAt.list_none hlx hu0
    | bl q =>
      rw [rep_bl] at h2; subst y; cases r2
      exact SeqAt.RcNeAt.list_bool q hlx hu0
    | int q =>
      rw [rep_int] at h2; subst y; obtain ⟨ty, rfl⟩ := r2
      exact SeqAt.RcNeAt.list_int q ty hlx hu0
    | str q =>
      rw [rep_str] at h2; subst y; obtain ⟨ty, rfl⟩ := r2
      exact SeqAt.RcNeAt.list_str q ty hlx hu0
    | lst q =>
      obtain ⟨ay, vsy, rfl, qy, zy⟩ := rep_lst.mp h2; cases r2; obtain ⟨iy, rvy, ply, _⟩ := I.list qy.sq; have hly := ply.isList
      exact neAt_D_lists I zx zy rvx rvy hlx hly o1 o2 hu
    | tup q =>
      obtain ⟨ay, vsy, rfl, qy, zy⟩ := rep_tup.mp h2; cases r2; obtain ⟨iy, rvy, hly, _⟩ := I.tuple qy.sq
      exact SeqAt.RcNeAt.list_tuple hlx hly hu0
    | dct q => cases n <;> simp [okN] at o2
    | loc q => cases n <;> simp [okN] at o2
    | own q => cases n <;> simp [okN] at o2
    | ownd q => cases n <;> simp [okN] at o2
  | tup p =>
    obtain ⟨ax, vsx, rfl, qx, zx⟩ := rep_tup.mp h1; cases r1; obtain ⟨ix, rvx, hlx, _⟩ := I.tuple qx.sq
    cases e with
    | non =>
      rw [rep_non] at h2; subst y; cases r2
      exact SeqAt.RcNeAt.tuple_none hlx hu0
    | bl q =>
      rw [rep_bl] at h2; subst y; cases r2
      exact SeqAt.RcNeAt.tuple_bool q hlx hu0
    | int q =>
      rw [rep_int] at h2; subst y; obtain ⟨ty, rfl⟩ := r2
      exact SeqAt.RcNeAt.tuple_int q ty hlx hu0
    | str q =>
      rw [rep_str] at h2; subst y; obtain ⟨ty, rfl⟩ := r2
      exact SeqAt.RcNeAt.tuple_str q ty hlx hu0
    | lst q =>
      obtain ⟨ay, vsy, rfl, qy, zy⟩ := rep_lst.mp h2; cases r2; obtain ⟨iy, rvy, ply, _⟩ := I.list qy.sq; have hly := ply.isList
      exact SeqAt.RcNeAt.tuple_list hlx hly hu0
    | tup q =>
      obtain ⟨ay, vsy, rfl, qy, zy⟩ := rep_tup.mp h2; cases r2; obtain ⟨iy, rvy, hly, _⟩ := I.tuple qy.sq
      exact neAt_D_tuples I zx zy rvx rvy hlx hly o1 o2 hu
    | dct q => cases n <;> simp [okN] at o2
    | loc q => cases n <;> simp [okN] at o2
    | own q => cases n <;> simp [okN] at o2
    | ownd q => cases n <;> simp [okN] at o2
  | dct q => cases n <;> simp [okN] at o1
  | loc q => cases n <;> simp [okN] at o1
  | own q => cases n <;> simp [okN] at o1
  | ownd q => cases n <;> simp [okN] at o1
end
def dEq (d e : D) : Option D := if okN 60 d = true ∧ okN 60 e = true then some (.bl (D.eqv d e)) else none
def dNe (d e : D) : Option D := if okN 60 d = true ∧ okN 60 e = true then some (.bl (!D.eqv d e)) else none
section
variable {T : List (Addr × Str)} {X : Cx} {Wx : WX} {κ κ' : Bool} {a b : Expr} {ma mb : M D} {pos : Pos}
def rEqW (K : PySem.W.Frag) : L2.R2 := fun x y H Q => ∃ d e, okN 60 d = true ∧ okN 60 e = true ∧ Rep K noW H d x ∧ Rep K noW H e y ∧ Q (.bl (D.eqv d e)) H
def rNeW (K : PySem.W.Frag) : L2.R2 := fun x y H Q => ∃ d e, okN 60 d = true ∧ okN 60 e = true ∧ Rep K noW H d x ∧ Rep K noW H e y ∧ Q (.bl (!D.eqv d e)) H
/-- x in a list or tuple of plain data -/
def rInW (K : PySem.W.Frag) (neg : Bool) : L2.R2 := fun x y H Q => ∃ d xs, okN 59 d = true ∧ (∀ z ∈ xs, okN 59 z = true) ∧ Rep K noW H d x ∧ (Rep K noW H (.lst xs) y ∨ Rep K noW H (.tup xs) y) ∧ Q (.bl (if neg then !xs.any (fun z => D.eqv z d) else xs.any (fun z => D.eqv z d))) H
open Classical in
noncomputable def eItem (K : PySem.W.Frag) (H : Hp) (d : D) (w : Value) : Bool := if h : ∃ z y, okN 59 z = true ∧ Rep K noW H z y ∧ RelV y w then D.eqv (choose h) d else false
theorem eItem_is {pins : List (Addr × Obj)} {σ : L2.St} {H : Hp} {s : Shared} (I : Inv X pins σ H s) {d z : D} {y : V} {w : Value} (o : okN 59 z = true) (h : Rep X.K noW H z y) (r : RelV y w) : eItem X.K H d w = D.eqv z d := by
  have ex : ∃ z y, okN 59 z = true ∧ Rep X.K noW H z y ∧ RelV y w := ⟨z, y, o, h, r⟩
  unfold eItem
  rw [dif_pos ex]
  obtain ⟨y', o', h', r'⟩ := Classical.choose_spec ex
  have e : y' = y := RelV.inj r' r
  subst e
  rw [rep_inj I 59 _ _ _ o' o h' h]
theorem any_items {pins : List (Addr × Obj)} {σ : L2.St} {H : Hp} {s : Shared} (I : Inv X pins σ H s) {d : D} : ∀ {xs : List D} {vs : List V} {us : List Value}, (∀ z ∈ xs, okN 59 z = true) → Reps X.K noW H xs vs → Vals vs us → us.any (eItem X.K H d) = xs.any fun z => D.eqv z d
  | [], vs, us, _, h, r => by unfold Reps at h; subst h; cases r; rfl
  | x :: xs, vs, us, o, h, r => by
    unfold Reps at h
    obtain ⟨v, rs, rfl, h1, h2⟩ := h
    cases r with
    | cons r1 r2 => rw [List.any_cons, List.any_cons, eItem_is I (o x (by simp)) h1 r1, any_items I (fun z hz => o z (by simp [hz])) h2 r2]
theorem item_eqAt {pins : List (Addr × Obj)} {σ : L2.St} {H : Hp} {s : Shared} (I : Inv X pins σ H s) (hu : X.A.units + 64 < cLine) {d : D} {x : V} {v : Value} (od : okN 59 d = true) (hd : Rep X.K noW H d x) (rx : RelV x v) {xs : List D} {vs : List V} {us : List Value} (o : ∀ z ∈ xs, okN 59 z = true) (h : Reps X.K noW H xs vs) (r : Vals vs us) :
    ∀ w ∈ us, SeqAt.EqAt X.A.in1 s w v (eItem X.K H d w) := fun w hw => by
  obtain ⟨j, hj, e⟩ := List.getElem_of_mem hw
  have l : vs.length = us.length := r.length
  obtain ⟨z, ez, hz⟩ := h.getV (List.getElem?_eq_getElem (show j < vs.length by omega))
  obtain ⟨w', ew, rw'⟩ := r.get (List.getElem?_eq_getElem (show j < vs.length by omega))
  have : w' = w := by
    rw [List.getElem?_eq_getElem hj, e] at ew
    exact (Option.some.inj ew).symm
  subst this
  have oz := o z (List.mem_of_getElem? ez)
  rw [eItem_is I oz hz rw']
  exact eqAt_D I 59 z d X.A.in1 _ x w' v hz hd rw' rx oz od (by rw [in1_units]; omega)
theorem op_inW (hu : X.A.units + 64 < cLine) : OpR X (compareOp .In) (rInW X.K false) := by
  intro pins s σ H x y v u Q I rx ry ⟨d, xs, od, o, hd, hx, q⟩
  rcases hx with hx | hx
  · obtain ⟨a, vs, rfl, l, r⟩ := rep_lst.mp hx
    cases ry
    obtain ⟨its, rv, pl, hz⟩ := I.list l.sq
    refine SeqAt.in_listAt (eItem X.K H d) pl.isList (fun w hw => item_eqAt I hu od hd rx o r rv w (by simpa using hw)) ⟨.bl _, H, I, rfl, ?_⟩
    rw [List.any_toArray, any_items I o r rv]
    exact q
  · obtain ⟨a, vs, rfl, l, r⟩ := rep_tup.mp hx
    cases ry
    obtain ⟨its, rv, pl, hz⟩ := I.tuple l.sq
    refine SeqAt.in_tupleAt (eItem X.K H d) pl (fun w hw => item_eqAt I hu od hd rx o r rv w (by simpa using hw)) ⟨.bl _, H, I, rfl, ?_⟩
    rw [List.any_toArray, any_items I o r rv]
    exact q
theorem op_notInW (hu : X.A.units + 64 < cLine) : OpR X (compareOp .NotIn) (rInW X.K true) := by
  intro pins s σ H x y v u Q I rx ry ⟨d, xs, od, o, hd, hx, q⟩
  rcases hx with hx | hx
  · obtain ⟨a, vs, rfl, l, r⟩ := rep_lst.mp hx
    cases ry
    obtain ⟨its, rv, pl, hz⟩ := I.list l.sq
    refine SeqAt.notIn_listAt (eItem X.K H d) pl.isList (fun w hw => item_eqAt I hu od hd rx o r rv w (by simpa using hw)) ⟨.bl _, H, I, rfl, ?_⟩
    rw [List.any_toArray, any_items I o r rv]
    exact q
  · obtain ⟨a, vs, rfl, l, r⟩ := rep_tup.mp hx
    cases ry
    obtain ⟨its, rv, pl, hz⟩ := I.tuple l.sq
    refine SeqAt.notIn_tupleAt (eItem X.K H d) pl (fun w hw => item_eqAt I hu od hd rx o r rv w (by simpa using hw)) ⟨.bl _, H, I, rfl, ?_⟩
    rw [List.any_toArray, any_items I o r rv]
    exact q
theorem op_eqW (hu : X.A.units + 64 < cLine) : OpR X (compareOp .Eq) (rEqW X.K) := by
  intro pins s σ H x y v u Q I rx ry ⟨d, e, o1, o2, h1, h2, q⟩
  exact rcAt_D I 60 d e X.A x y v u h1 h2 rx ry o1 o2 (by omega) X.prog X.w _ _ ⟨.bl _, _, I, rfl, q⟩
theorem op_neW (hu : X.A.units + 64 < cLine) : OpR X (compareOp .NotEq) (rNeW X.K) := by
  intro pins s σ H x y v u Q I rx ry ⟨d, e, o1, o2, h1, h2, q⟩
  exact neAt_D I 60 d e X.A x y v u h1 h2 rx ry o1 o2 (by omega) X.prog X.w _ _ ⟨.bl _, _, I, rfl, q⟩
theorem op2_eqW : Op2 true (CurR X) (CurR X) (RepR X) T X Wx (rEqW X.K) (pure2 dEq) := by
  intro W H env st σ x y d e Q rl h1 h2 hp
  unfold pure2 dEq at hp
  split at hp
  · rename_i o
    exact ⟨d, e, o.1, o.2, cur_data o.1 h1, cur_data o.2 h2, hp.ok rl (rep_bl.mpr rfl)⟩
  · exact hp.elim
theorem op2_neW : Op2 true (CurR X) (CurR X) (RepR X) T X Wx (rNeW X.K) (pure2 dNe) := by
  intro W H env st σ x y d e Q rl h1 h2 hp
  unfold pure2 dNe at hp
  split at hp
  · rename_i o
    exact ⟨d, e, o.1, o.2, cur_data o.1 h1, cur_data o.2 h2, hp.ok rl (rep_bl.mpr rfl)⟩
  · exact hp.elim
end
end Ev

set_option maxRecDepth 100000
set_option maxHeartbeats 4000000
/-! order, tests, displays -/
namespace Ev
open PySem PySem.Spec PyProof.Rows L2
/-- what can be read now -/
def ToCur (X : Cx) (R : Wm → Hp → D → V → Prop) : Prop := ∀ W H d v, R W H d v → CRep X.K W H d v
theorem ToCur.rep {X : Cx} : ToCur X (RepR X) := fun _ _ _ _ h => .inl h
theorem ToCur.cur {X : Cx} : ToCur X (CurR X) := fun _ _ _ _ h => h
theorem ToCur.held {X : Cx} : ToCur X (HeldR X) := fun _ _ _ _ h => h.imp id (Or.imp (fun ⟨t, ds, _, a, b⟩ => ⟨t, ds, a, b⟩) fun ⟨t, ds, _, a, b⟩ => ⟨t, ds, a, b⟩)
section
variable {T : List (Addr × Str)} {X : Cx} {Wx : WX} {κ κ' κa κb κc : Bool} {a b c e : Expr} {ma mb mc : M D} {pos p : Pos} {R1 R2 R4 : Wm → Hp → D → V → Prop}
theorem Op2.low {α : Type} {R3 : Wm → Hp → α → V → Prop} {r : L2.R2} {f : D → D → Sto → Res α} (o : Op2 true (CurR X) (CurR X) R3 T X Wx r f) (c1 : ToCur X R1) (c2 : ToCur X R2) : Op2 true R1 R2 R3 T X Wx r f :=
  fun W H env st σ x y d1 d2 Q rl h1 h2 hp => o W H env st σ x y d1 d2 Q rl (c1 _ _ _ _ h1) (c2 _ _ _ _ h2) hp
/-- an answer that is a bool -/
def D.b? : D → Option Bool
  | .bl b => some b
  | _ => none
def mTest (m : M D) : M Bool := fun env st => (m env st).bind fun d st' => Res.of d.b? st'
theorem tTest_of {t : TE} {m : M D} (h : ∀ W H env st σ Q, Rel (Gof X T) W H env st σ → Post κ (RepR X) (Gof X T) Wx W H env σ (m env st) Q → t σ H Q) :
    ∀ W H env st σ Q, Rel (Gof X T) W H env st σ → Post κ BoolR (Gof X T) Wx W H env σ (mTest m env st) Q → tTest t σ H Q := fun W H env st σ Q r p =>
  h W H env st σ _ r (p.bind id fun d st' W' H' v e r' q p' => by
    cases d with
    | bl b => exact ⟨b, rep_bl.mp q, p'.ok r' rfl⟩
    | _ => exact p'.elim)
section
variable {r : L2.R2} {f : D → D → Sto → Res D}
theorem tv_cmpR {op : CmpOp} (ho : OpR X (compareOp op) r) (S : Stands κb R1) (o : Op2 true R1 R2 (RepR X) T X Wx r f) (hm : behindInMarks op b = false) (ha : EVg κa R1 T X Wx a ma) (hb : EVg κb R2 T X Wx b mb) : TV (κa && κb) T X Wx (.Compare a [op] [b] pos) (mTest (mBin ma mb f)) := by
  obtain ⟨ta, pa, ra⟩ := ha.ex
  obtain ⟨tb, pb, rb⟩ := hb.ex
  exact ⟨_, pt_cmpR ho pa pb hm, tTest_of (op2_pair S o ra rb)⟩
end
/-! ### order -/
def dOrd (f : Int → Int → Bool) : D → D → Option D
  | .int i, .int j => some (.bl (f i j))
  | _, _ => none
abbrev fLt : Int → Int → Bool := fun i j => decide (i < j)
abbrev fLe : Int → Int → Bool := fun i j => decide (i ≤ j)
abbrev fGt : Int → Int → Bool := fun i j => decide (j < i)
abbrev fGe : Int → Int → Bool := fun i j => decide (j ≤ i)
theorem op2_ord {f : Int → Int → Bool} : Op2 true (RepR X) (RepR X) (RepR X) T X Wx (rI0 fun i j => .bl (f i j)) (pure2 (dOrd f)) := op2_of fun W H x y d1 d2 d Q h1 h2 e q => by
  unfold dOrd at e
  split at e
  · cases e; rw [rep_int] at h1 h2; exact ⟨_, _, h1, h2, q _ (rep_bl.mpr rfl)⟩
  · cases e
theorem ev_lt (ha : EV κ T X Wx a ma) (hb : EV κ' T X Wx b mb) : EV (κ && κ') T X Wx (.Compare a [.Lt] [b] pos) (mBin ma mb (pure2 (dOrd fLt))) := ev_cmpR op_lt Stands.rep op2_ord (nomark _) ha hb
theorem ev_le (ha : EV κ T X Wx a ma) (hb : EV κ' T X Wx b mb) : EV (κ && κ') T X Wx (.Compare a [.LtE] [b] pos) (mBin ma mb (pure2 (dOrd fLe))) := ev_cmpR op_le Stands.rep op2_ord (nomark _) ha hb
theorem ev_gt (ha : EV κ T X Wx a ma) (hb : EV κ' T X Wx b mb) : EV (κ && κ') T X Wx (.Compare a [.Gt] [b] pos) (mBin ma mb (pure2 (dOrd fGt))) := ev_cmpR op_gt Stands.rep op2_ord (nomark _) ha hb
theorem ev_ge (ha : EV κ T X Wx a ma) (hb : EV κ' T X Wx b mb) : EV (κ && κ') T X Wx (.Compare a [.GtE] [b] pos) (mBin ma mb (pure2 (dOrd fGe))) := ev_cmpR op_ge Stands.rep op2_ord (nomark _) ha hb
theorem tv_lt (ha : EV κ T X Wx a ma) (hb : EV κ' T X Wx b mb) : TV (κ && κ') T X Wx (.Compare a [.Lt] [b] pos) (mTest (mBin ma mb (pure2 (dOrd fLt)))) := tv_cmpR op_lt Stands.rep op2_ord (nomark _) ha hb
theorem tv_le (ha : EV κ T X Wx a ma) (hb : EV κ' T X Wx b mb) : TV (κ && κ') T X Wx (.Compare a [.LtE] [b] pos) (mTest (mBin ma mb (pure2 (dOrd fLe)))) := tv_cmpR op_le Stands.rep op2_ord (nomark _) ha hb
theorem tv_gt (ha : EV κ T X Wx a ma) (hb : EV κ' T X Wx b mb) : TV (κ && κ') T X Wx (.Compare a [.Gt] [b] pos) (mTest (mBin ma mb (pure2 (dOrd fGt)))) := tv_cmpR op_gt Stands.rep op2_ord (nomark _) ha hb
theorem tv_ge (ha : EV κ T X Wx a ma) (hb : EV κ' T X Wx b mb) : TV (κ && κ') T X Wx (.Compare a [.GtE] [b] pos) (mTest (mBin ma mb (pure2 (dOrd fGe)))) := tv_cmpR op_ge Stands.rep op2_ord (nomark _) ha hb
/-! ### == and != -/
theorem ev_eq (hu : X.A.units + 64 < cLine) (ha : EVg κ R1 T X Wx a ma) (hb : EVg κ' R2 T X Wx b mb) (S : Stands κ' R1 := by first | exact Stands.rep | exact Stands.held | exact Stands.cur) (c1 : ToCur X R1 := by first | exact ToCur.rep | exact ToCur.held | exact ToCur.cur) (c2 : ToCur X R2 := by first | exact ToCur.rep | exact ToCur.held | exact ToCur.cur) :
    EV (κ && κ') T X Wx (.Compare a [.Eq] [b] pos) (mBin ma mb (pure2 dEq)) := ev_cmpR (op_eqW hu) S (op2_eqW.low c1 c2) (nomark _) ha hb
theorem ev_ne (hu : X.A.units + 64 < cLine) (ha : EVg κ R1 T X Wx a ma) (hb : EVg κ' R2 T X Wx b mb) (S : Stands κ' R1 := by first | exact Stands.rep | exact Stands.held | exact Stands.cur) (c1 : ToCur X R1 := by first | exact ToCur.rep | exact ToCur.held | exact ToCur.cur) (c2 : ToCur X R2 := by first | exact ToCur.rep | exact ToCur.held | exact ToCur.cur) :
    EV (κ && κ') T X Wx (.Compare a [.NotEq] [b] pos) (mBin ma mb (pure2 dNe)) := ev_cmpR (op_neW hu) S (op2_neW.low c1 c2) (nomark _) ha hb
theorem tv_eq (hu : X.A.units + 64 < cLine) (ha : EVg κ R1 T X Wx a ma) (hb : EVg κ' R2 T X Wx b mb) (S : Stands κ' R1 := by first | exact Stands.rep | exact Stands.held | exact Stands.cur) (c1 : ToCur X R1 := by first | exact ToCur.rep | exact ToCur.held | exact ToCur.cur) (c2 : ToCur X R2 := by first | exact ToCur.rep | exact ToCur.held | exact ToCur.cur) :
    TV (κ && κ') T X Wx (.Compare a [.Eq] [b] pos) (mTest (mBin ma mb (pure2 dEq))) := tv_cmpR (op_eqW hu) S (op2_eqW.low c1 c2) (nomark _) ha hb
theorem tv_ne (hu : X.A.units + 64 < cLine) (ha : EVg κ R1 T X Wx a ma) (hb : EVg κ' R2 T X Wx b mb) (S : Stands κ' R1 := by first | exact Stands.rep | exact Stands.held | exact Stands.cur) (c1 : ToCur X R1 := by first | exact ToCur.rep | exact ToCur.held | exact ToCur.cur) (c2 : ToCur X R2 := by first | exact ToCur.rep | exact ToCur.held | exact ToCur.cur) :
    TV (κ && κ') T X Wx (.Compare a [.NotEq] [b] pos) (mTest (mBin ma mb (pure2 dNe))) := tv_cmpR (op_neW hu) S (op2_neW.low c1 c2) (nomark _) ha hb
/-! ### is None, is not None -/
def dIsN : D → D → Option D
  | .non, .non => some (.bl true)
  | .bl _, .non => some (.bl false)
  | .int _, .non => some (.bl false)
  | .str _, .non => some (.bl false)
  | .tup _, .non => some (.bl false)
  | .lst _, .non => some (.bl false)
  | .dct _, .non => some (.bl false)
  | .loc _, .non => some (.bl false)
  | _, _ => none
def dNotN (d e : D) : Option D := match dIsN d e with
  | some (.bl b) => some (.bl (!b))
  | _ => none
theorem dIsN_some {W : Wm} {H : Hp} {x y : V} {d e z : D} (h1 : Rep X.K W H d x) (h2 : Rep X.K W H e y) (h : dIsN d e = some z) : y = .non ∧ z = .bl (decide (x = .non)) := by
  unfold dIsN at h
  split at h <;> first | (cases h; done) | skip
  all_goals cases h
  all_goals refine ⟨rep_non.mp h2, ?_⟩
  · rw [rep_non.mp h1]; rfl
  · rw [rep_bl.mp h1]; rfl
  · rw [rep_int.mp h1]; rfl
  · rw [rep_str.mp h1]; rfl
  · obtain ⟨_, _, e, _⟩ := rep_tup.mp h1; rw [e]; rfl
  · obtain ⟨_, _, e, _⟩ := rep_lst.mp h1; rw [e]; rfl
  · unfold Rep at h1; obtain ⟨_, e, _⟩ := h1; rw [e]; rfl
  · obtain ⟨_, e, _⟩ := rep_loc.mp h1; rw [e]; rfl
theorem op2_isN : Op2 true (RepR X) (RepR X) (RepR X) T X Wx (fun x y H Q => y = .non ∧ Q (.bl (decide (x = .non))) H) (pure2 dIsN) := op2_of fun W H x y d1 d2 d Q h1 h2 e q => by
  obtain ⟨h3, h4⟩ := dIsN_some h1 h2 e
  subst h4
  exact ⟨h3, q _ (rep_bl.mpr rfl)⟩
theorem op2_notN : Op2 true (RepR X) (RepR X) (RepR X) T X Wx (fun x y H Q => y = .non ∧ Q (.bl (!decide (x = .non))) H) (pure2 dNotN) := op2_of fun W H x y d1 d2 d Q h1 h2 e q => by
  unfold dNotN at e
  split at e
  · rename_i b eb
    obtain ⟨h3, h4⟩ := dIsN_some h1 h2 eb
    cases e
    cases h4
    exact ⟨h3, q _ (rep_bl.mpr rfl)⟩
  · cases e
theorem ev_isN (ha : EV κ T X Wx a ma) (hb : EV κ' T X Wx b mb) : EV (κ && κ') T X Wx (.Compare a [.Is] [b] pos) (mBin ma mb (pure2 dIsN)) := ev_cmpR op_isN Stands.rep op2_isN (nomark _) ha hb
theorem ev_notN (ha : EV κ T X Wx a ma) (hb : EV κ' T X Wx b mb) : EV (κ && κ') T X Wx (.Compare a [.IsNot] [b] pos) (mBin ma mb (pure2 dNotN)) := ev_cmpR op_notN Stands.rep op2_notN (nomark _) ha hb
theorem tv_isN (ha : EV κ T X Wx a ma) (hb : EV κ' T X Wx b mb) : TV (κ && κ') T X Wx (.Compare a [.Is] [b] pos) (mTest (mBin ma mb (pure2 dIsN))) := tv_cmpR op_isN Stands.rep op2_isN (nomark _) ha hb
theorem tv_notN (ha : EV κ T X Wx a ma) (hb : EV κ' T X Wx b mb) : TV (κ && κ') T X Wx (.Compare a [.IsNot] [b] pos) (mTest (mBin ma mb (pure2 dNotN))) := tv_cmpR op_notN Stands.rep op2_notN (nomark _) ha hb
/-! ### a < b < c -/
def mChain (ma mb mc : M D) (f g : D → D → Option D) : M D := fun env st => (ma env st).bind fun x st1 => (mb env st1).bind fun y st2 => (Res.of ((f x y).bind D.b?) st2).bind fun k st3 =>
  if k = true then (mc env st3).bind fun z st4 => Res.of (g y z) st4 else .ok (.bl false) st3
section
variable {r r' : L2.R2} {f g : D → D → Option D}
theorem chain_read {ta tb tc : TE} (hf : ∀ W H x y d1 d2 d Q, Rep X.K W H d1 x → Rep X.K W H d2 y → f d1 d2 = some d → (∀ v, Rep X.K W H d v → Q v H) → r x y H Q)
    (hg : ∀ W H x y d1 d2 d Q, Rep X.K W H d1 x → Rep X.K W H d2 y → g d1 d2 = some d → (∀ v, Rep X.K W H d v → Q v H) → r' x y H Q)
    (ha : ∀ W H env st σ Q, Rel (Gof X T) W H env st σ → Post κa (RepR X) (Gof X T) Wx W H env σ (ma env st) Q → ta σ H Q) (hb : ∀ W H env st σ Q, Rel (Gof X T) W H env st σ → Post κb (RepR X) (Gof X T) Wx W H env σ (mb env st) Q → tb σ H Q)
    (hc : ∀ W H env st σ Q, Rel (Gof X T) W H env st σ → Post κc (RepR X) (Gof X T) Wx W H env σ (mc env st) Q → tc σ H Q) :
    ∀ W H env st σ Q, Rel (Gof X T) W H env st σ → Post ((κa && κb) && κc) (RepR X) (Gof X T) Wx W H env σ (mChain ma mb mc f g env st) Q → tChain r r' ta tb tc σ H Q := fun W H env st σ Q rl h =>
  ha _ _ _ _ _ _ rl (h.bind and3 fun x st1 W1 H1 v e1 r1 q1 h1 => hb _ _ _ _ _ _ r1 (h1.bind and32 fun y st2 W2 H2 u e2 r2 q2 h2 => by
    cases ef : f x y with
    | none => rw [ef] at h2; exact h2.elim
    | some d =>
      rw [ef] at h2
      cases d with
      | bl k =>
        have q1' := Rep.mono e2.mo _ _ q1
        refine hf W2 H2 v u x y _ _ q1' q2 ef fun w' hw => ⟨k, rep_bl.mp hw, ?_⟩
        have h3 : Post ((κa && κb) && κc) (RepR X) (Gof X T) Wx W2 H2 env σ (if k = true then (mc env st2).bind fun z st4 => Res.of (g y z) st4 else .ok (.bl false) st2) Q := h2
        by_cases hk : k = true
        · rw [if_pos hk] at h3 ⊢
          refine hc _ _ _ _ _ _ r2 (h3.bind and33 fun z st4 W4 H4 w4 e4 r4 q4 h4 => ?_)
          cases eg : g y z with
          | none => rw [eg] at h4; exact h4.elim
          | some d' =>
            rw [eg] at h4
            exact hg W4 H4 u w4 y z d' Q (Rep.mono e4.mo _ _ q2) q4 eg fun v' hv => h4.ok r4 hv
        · rw [if_neg hk] at h3 ⊢
          exact h3.ok r2 (rep_bl.mpr rfl)
      | _ => exact h2.elim))
end
theorem ord_read {f : Int → Int → Bool} : ∀ (W : Wm) (H : Hp) (x y : V) (d1 d2 d : D) (Q : VK), Rep X.K W H d1 x → Rep X.K W H d2 y → dOrd f d1 d2 = some d → (∀ v, Rep X.K W H d v → Q v H) → rI0 (fun i j => .bl (f i j)) x y H Q := fun W H x y d1 d2 d Q h1 h2 e q => by
  unfold dOrd at e
  split at e
  · cases e; rw [rep_int] at h1 h2; exact ⟨_, _, h1, h2, q _ (rep_bl.mpr rfl)⟩
  · cases e
theorem opr_ord {op : CmpOp} {f : Int → Int → Bool} (h : (op = .Lt ∧ f = fLt) ∨ (op = .LtE ∧ f = fLe) ∨ (op = .Gt ∧ f = fGt) ∨ (op = .GtE ∧ f = fGe)) : OpR X (compareOp op) (rI0 fun i j => .bl (f i j)) := by
  rcases h with ⟨rfl, rfl⟩ | ⟨rfl, rfl⟩ | ⟨rfl, rfl⟩ | ⟨rfl, rfl⟩
  · exact op_lt
  · exact op_le
  · exact op_gt
  · exact op_ge
def ordOf : CmpOp → Int → Int → Bool
  | .Lt => fLt
  | .LtE => fLe
  | .Gt => fGt
  | _ => fGe
theorem ordOf_ok {op : CmpOp} (h : op = .Lt ∨ op = .LtE ∨ op = .Gt ∨ op = .GtE) : OpR X (compareOp op) (rI0 fun i j => .bl (ordOf op i j)) := by
  rcases h with rfl | rfl | rfl | rfl
  · exact op_lt
  · exact op_le
  · exact op_gt
  · exact op_ge
theorem ev_chain {op op' : CmpOp} (h1 : op = .Lt ∨ op = .LtE ∨ op = .Gt ∨ op = .GtE) (h2 : op' = .Lt ∨ op' = .LtE ∨ op' = .Gt ∨ op' = .GtE) (ha : EV κa T X Wx a ma) (hb : EV κb T X Wx b mb) (hc : EV κc T X Wx c mc) (hm : lastMarks [op, op'] [b, c] = false := by with_unfolding_all rfl) :
    EV ((κa && κb) && κc) T X Wx (.Compare a [op, op'] [b, c] pos) (mChain ma mb mc (dOrd (ordOf op)) (dOrd (ordOf op'))) := by
  obtain ⟨ta, pa, ra⟩ := ha.ex
  obtain ⟨tb, pb, rb⟩ := hb.ex
  obtain ⟨tc, pc, rc⟩ := hc.ex
  exact ⟨_, pe_chain (ordOf_ok h1) (ordOf_ok h2) pa pb pc hm, chain_read ord_read ord_read ra rb rc⟩
theorem tv_chain {op op' : CmpOp} (h1 : op = .Lt ∨ op = .LtE ∨ op = .Gt ∨ op = .GtE) (h2 : op' = .Lt ∨ op' = .LtE ∨ op' = .Gt ∨ op' = .GtE) (ha : EV κa T X Wx a ma) (hb : EV κb T X Wx b mb) (hc : EV κc T X Wx c mc) (hm : lastMarks [op, op'] [b, c] = false := by with_unfolding_all rfl) :
    TV ((κa && κb) && κc) T X Wx (.Compare a [op, op'] [b, c] pos) (mTest (mChain ma mb mc (dOrd (ordOf op)) (dOrd (ordOf op')))) := by
  obtain ⟨ta, pa, ra⟩ := ha.ex
  obtain ⟨tb, pb, rb⟩ := hb.ex
  obtain ⟨tc, pc, rc⟩ := hc.ex
  exact ⟨_, pt_chain (ordOf_ok h1) (ordOf_ok h2) pa pb pc hm, tTest_of (chain_read ord_read ord_read ra rb rc)⟩
/-! ### and, or, not, if -/
def mAnd (m n : M Bool) : M Bool := fun env st => (m env st).bind fun k st1 => if k = true then n env st1 else .ok false st1
def mOr (m n : M Bool) : M Bool := fun env st => (m env st).bind fun k st1 => if k = true then .ok true st1 else n env st1
def mNot (m : M Bool) : M Bool := fun env st => (m env st).bind fun k st1 => .ok (!k) st1
def mIf {α : Type} (m : M Bool) (n o : M α) : M α := fun env st => (m env st).bind fun k st1 => if k = true then n env st1 else o env st1
section
variable {mt mu : M Bool} {rest : List Expr}
theorem tw_and1 (ha : TV κ T X Wx a mt) : TW κ T X Wx (.BoolOp .And [a] pos) mt := by
  obtain ⟨ta, pa, ra⟩ := ha.ex
  exact ⟨_, pw_and1 pa, ra⟩
theorem tw_or1 (ha : TV κ T X Wx a mt) : TW κ T X Wx (.BoolOp .Or [a] pos) mt := by
  obtain ⟨ta, pa, ra⟩ := ha.ex
  exact ⟨_, pw_or1 pa, ra⟩
theorem tw_and (ha : TV κ T X Wx a mt) (hb : TW κ' T X Wx (.BoolOp .And (b :: rest) pos) mu) : TW (κ && κ') T X Wx (.BoolOp .And (a :: b :: rest) pos) (mAnd mt mu) := by
  obtain ⟨ta, pa, ra⟩ := ha.ex
  obtain ⟨tb, pb, rb⟩ := hb.ex
  refine ⟨_, pw_and pa pb, fun W H env st σ Q rl h => ra _ _ _ _ _ _ rl (h.bind and21 fun k st1 W1 H1 v e1 r1 q1 h1 => ?_)⟩
  subst q1
  by_cases hk : v = true
  · rw [if_pos hk] at h1 ⊢; exact rb _ _ _ _ _ _ r1 (h1.weak and22)
  · rw [if_neg hk] at h1 ⊢; exact h1.ok r1 rfl
theorem tw_or (ha : TV κ T X Wx a mt) (hb : TW κ' T X Wx (.BoolOp .Or (b :: rest) pos) mu) : TW (κ && κ') T X Wx (.BoolOp .Or (a :: b :: rest) pos) (mOr mt mu) := by
  obtain ⟨ta, pa, ra⟩ := ha.ex
  obtain ⟨tb, pb, rb⟩ := hb.ex
  refine ⟨_, pw_or pa pb, fun W H env st σ Q rl h => ra _ _ _ _ _ _ rl (h.bind and21 fun k st1 W1 H1 v e1 r1 q1 h1 => ?_)⟩
  subst q1
  by_cases hk : v = true
  · rw [if_pos hk] at h1 ⊢; exact h1.ok r1 rfl
  · rw [if_neg hk] at h1 ⊢; exact rb _ _ _ _ _ _ r1 (h1.weak and22)
theorem tv_not (ha : TV κ T X Wx a mt) : TV κ T X Wx (.UnaryOp .Not a pos) (mNot mt) := by
  obtain ⟨ta, pa, ra⟩ := ha.ex
  exact ⟨_, pt_not pa, fun W H env st σ Q rl h => ra _ _ _ _ _ _ rl (h.bind id fun k st1 W1 H1 v e1 r1 q1 h1 => by subst q1; exact h1.ok r1 rfl)⟩
theorem ev_if {α : Type} {R : Wm → Hp → α → V → Prop} {na nb : M α} (hc : TV κ T X Wx c mt) (ha : EVg κa R T X Wx a na) (hb : EVg κb R T X Wx b nb) : EVg ((κ && κa) && κb) R T X Wx (.IfExp c a b pos) (mIf mt na nb) := by
  obtain ⟨tc, pc, rc⟩ := hc.ex
  obtain ⟨ta, pa, ra⟩ := ha.ex
  obtain ⟨tb, pb, rb⟩ := hb.ex
  refine ⟨_, pe_ifExp pc pa pb, fun W H env st σ Q rl h => rc _ _ _ _ _ _ rl (h.bind and3 fun k st1 W1 H1 v e1 r1 q1 h1 => ?_)⟩
  subst q1
  by_cases hk : v = true
  · rw [if_pos hk] at h1 ⊢; exact ra _ _ _ _ _ _ r1 (h1.weak and32)
  · rw [if_neg hk] at h1 ⊢; exact rb _ _ _ _ _ _ r1 (h1.weak and33)
end
/-- and, or, not as values: bools -/
def mAndV (m n : M D) : M D := fun env st => (mTest m env st).bind fun k st1 => if k = true then n env st1 else .ok (.bl false) st1
def mOrV (m n : M D) : M D := fun env st => (mTest m env st).bind fun k st1 => if k = true then .ok (.bl true) st1 else n env st1
def mNotV (m : M D) : M D := fun env st => (mTest m env st).bind fun k st1 => .ok (.bl !k) st1
section
variable {rest : List Expr} {op : BoolOp}
theorem ev_one (ha : EV κ T X Wx a ma) : EV κ T X Wx (.BoolOp op [a] pos) ma := by
  obtain ⟨ta, pa, ra⟩ := ha.ex
  exact ⟨_, pe_one pa, ra⟩
theorem test_bind {α β : Type} {R : Wm → Hp → α → β → Prop} {m : M D} {W : Wm} {H : Hp} {env : Env} {st : Sto} {σ : L2.St} {Q : β → Hp → Prop} {f : Bool → Sto → Res α} {Q1 : V → Hp → Prop} (h : Post κ R (Gof X T) Wx W H env σ ((mTest m env st).bind f) Q) (hk : κ = true → κ' = true)
    (k : ∀ b st' W' H', Ext κ' W H W' H' → Rel (Gof X T) W' H' env st' σ → Post κ R (Gof X T) Wx W' H' env σ (f b st') Q → Q1 (.bl b) H') : Post κ' (RepR X) (Gof X T) Wx W H env σ (m env st) Q1 := by
  unfold mTest at h
  cases em : m env st with
  | ok d st' =>
    rw [em] at h
    intro W' H' v e r q
    cases d with
    | bl b => rw [rep_bl.mp q]; exact k b st' W' H' e r (Post.ext h (e.weak hk))
    | _ => exact h.elim
  | exc x st' => rw [em] at h; exact h
  | bad => rw [em] at h; exact h.elim
theorem ev_and (ha : EV κ T X Wx a ma) (hb : EV κ' T X Wx (.BoolOp .And (b :: rest) pos) mb) : EV (κ && κ') T X Wx (.BoolOp .And (a :: b :: rest) pos) (mAndV ma mb) := by
  obtain ⟨ta, pa, ra⟩ := ha.ex
  obtain ⟨tb, pb, rb⟩ := hb.ex
  refine ⟨_, pe_and pa pb, fun W H env st σ Q rl h => ra _ _ _ _ _ _ rl (test_bind h and21 fun k st1 W1 H1 e1 r1 h1 => ⟨k, rfl, ?_⟩)⟩
  by_cases hk : k = true
  · rw [if_pos hk] at h1 ⊢; exact rb _ _ _ _ _ _ r1 (h1.weak and22)
  · rw [if_neg hk] at h1 ⊢; exact h1.ok r1 (rep_bl.mpr rfl)
theorem ev_or (ha : EV κ T X Wx a ma) (hb : EV κ' T X Wx (.BoolOp .Or (b :: rest) pos) mb) : EV (κ && κ') T X Wx (.BoolOp .Or (a :: b :: rest) pos) (mOrV ma mb) := by
  obtain ⟨ta, pa, ra⟩ := ha.ex
  obtain ⟨tb, pb, rb⟩ := hb.ex
  refine ⟨_, pe_or pa pb, fun W H env st σ Q rl h => ra _ _ _ _ _ _ rl (test_bind h and21 fun k st1 W1 H1 e1 r1 h1 => ⟨k, rfl, ?_⟩)⟩
  by_cases hk : k = true
  · rw [if_pos hk] at h1 ⊢; exact h1.ok r1 (rep_bl.mpr rfl)
  · rw [if_neg hk] at h1 ⊢; exact rb _ _ _ _ _ _ r1 (h1.weak and22)
theorem ev_not (ha : EV κ T X Wx a ma) : EV κ T X Wx (.UnaryOp .Not a pos) (mNotV ma) := by
  obtain ⟨ta, pa, ra⟩ := ha.ex
  exact ⟨_, pe_not pa, fun W H env st σ Q rl h => ra _ _ _ _ _ _ rl (test_bind h id fun k st1 W1 H1 e1 r1 h1 => ⟨k, rfl, h1.ok r1 (rep_bl.mpr rfl)⟩)⟩
end
/-- a test by an expression that gives a bool -/
theorem tv_val (ha : EV κ T X Wx a ma) (he : ∀ whole, isTrue a X.env whole = (do let v ← whole; standAt a.pos; holding [v] (truthy v)) := by intro _; rfl) : TV κ T X Wx a (mTest ma) := by
  obtain ⟨ta, pa, ra⟩ := ha.ex
  refine ⟨_, pt_val pa he, fun W H env st σ Q rl h => ?_⟩
  exact tTest_of ra W H env st σ Q rl h
/-! ### -a -/
def dNeg : D → Option D
  | .int i => some (.int (-i))
  | _ => none
theorem ev_neg (ha : EV κ T X Wx a ma) : EV κ T X Wx (.UnaryOp .USub a pos) (mUn ma fun d st => Res.of (dNeg d) st) := by
  obtain ⟨ta, pa, ra⟩ := ha.ex
  refine ⟨_, pe_un un_neg pa, fun W H env st σ Q rl h => ra _ _ _ _ _ _ rl (h.bind id fun d st1 W1 H1 v e1 r1 q1 h1 => ?_)⟩
  cases d with
  | int i => exact ⟨i, rep_int.mp q1, h1.ok r1 (rep_int.mpr rfl)⟩
  | _ => exact h1.elim
/-! ### arguments, tuples -/
def mNil : M (List D) := fun _ st => .ok [] st
def mCons (m : M D) (n : M (List D)) : M (List D) := mBin m n fun d ds st => .ok (d :: ds) st
theorem av_nil : AV true T X Wx [] mNil := ⟨_, pa_nil, fun W H env st σ Q rl h => h.ok rl Reps.nil⟩
theorem av_cons {es : List Expr} {n : M (List D)} (he : EV κ T X Wx e ma) (hr : AV κ' T X Wx es n) (hs : starEach (e :: es) X.env = (false, eval e X.env) :: starEach es X.env := by rfl) : AV (κ && κ') T X Wx (e :: es) (mCons ma n) := by
  obtain ⟨ta, pa, ra⟩ := he.ex
  obtain ⟨tb, pb, rb⟩ := hr.ex
  exact ⟨_, pa_cons pa pb hs, fun W H env st σ Q rl h => ra _ _ _ _ _ _ rl (h.bind and21 fun d st1 W1 H1 v e1 r1 q1 h1 => rb _ _ _ _ _ _ r1 (h1.bind and22 fun ds st2 W2 H2 vs e2 r2 q2 h2 => h2.ok r2 (Reps.cons (Rep.mono e2.mo _ _ q1) q2)))⟩
theorem small_line {n : Nat} (h : n ≤ 1000) : n ≤ sizeLine := Nat.le_of_lt (small1000 h)
/-- laying a new thing that nobody holds -/
theorem Post.laid {α : Type} {R : Wm → Hp → α → V → Prop} {a : α} {W : Wm} {H : Hp} {env : Env} {st : Sto} {σ : L2.St} {Q : VK} {o : HO} {p : Addr} (h : Post κ R (Gof X T) Wx W H env σ (.ok a st) Q) (rl : Rel (Gof X T) W H env st σ) (hp : H p = none) (q : R W (upd H p o) a (.ref p)) : Q (.ref p) (upd H p o) :=
  h.okE (Ext.laid rl.sto hp) (rl.laid hp) q
def mTup (m : M (List D)) : M D := fun env st => (m env st).bind fun ds st' => if ds.length ≤ 1000 then .ok (.tup ds) st' else .bad
theorem ev_tup {es : List Expr} {n : M (List D)} {x1 : Nat} (h : AV κ T X Wx es n) : EV κ T X Wx (.Tuple es x1 pos) (mTup n) := by
  obtain ⟨ta, pa, ra⟩ := h.ex
  refine ⟨_, pe_tup pa, fun W H env st σ Q rl h => ra _ _ _ _ _ _ rl (h.bind id fun ds st1 W1 H1 vs e1 r1 q1 h1 => ?_)⟩
  split at h1
  · rename_i hz
    rw [q1.length] at hz
    exact ⟨small_line hz, fun p hp => h1.laid r1 hp (rep_tup.mpr ⟨p, vs, rfl, ⟨r1.sto.nobody hp, upd_same⟩, Reps.mono (Ext.laid (κ := true) r1.sto hp).mo _ _ q1⟩)⟩
  · exact h1.elim
end
end Ev

set_option maxRecDepth 100000
set_option maxHeartbeats 4000000
/-! new lists, items, lengths, built-ins by name -/
namespace Ev
open PySem PySem.Spec PyProof.Rows L2
/-! ### what is new -/
def CL (K : PySem.W.Frag) : Wm → Hp → List D → Addr → Prop := fun W H ds p => ∃ vs, H p = some (.lst vs) ∧ Reps K W H ds vs
def CD (K : PySem.W.Frag) : Wm → Hp → Dc → Addr → Prop := fun W H kvs p => (∃ ks, H p = some (.dK ks) ∧ RepKc K W H kvs ks) ∨ ∃ ks, H p = some (.dT ks) ∧ RepTc K W H kvs ks
def PostN {α : Type} (κ : Bool) (C : Wm → Hp → α → Addr → Prop) (G : Gx) (Wx : WX) (W : Wm) (H : Hp) (env : Env) (σ : L2.St) (r : Res α) (Q : V → Hp → Prop) : Prop := match r with
  | .ok a st => ∀ W' H' p, Ext κ W H W' H' → Rel G W' H' env st σ → Fr H p → W' p = some .tmp → C W' H' a p → Q (.ref p) H'
  | .exc x st => ∀ W' H' c d, Ext false W H W' H' → Rel G W' H' env st σ → ExnRep G W' H' x c d → Wx c d σ H'
  | .bad => False
structure FV {α : Type} (κ : Bool) (C : Wm → Hp → α → Addr → Prop) (T : List (Addr × Str)) (X : Cx) (Wx : WX) (e : Expr) (m : M α) : Prop where
  ex : ∃ t, PE X e t ∧ ∀ W H env st σ Q, Rel (Gof X T) W H env st σ → PostN κ C (Gof X T) Wx W H env σ (m env st) Q → t σ H Q
abbrev NV (κ : Bool) (T : List (Addr × Str)) (X : Cx) (Wx : WX) (e : Expr) (m : M (List D)) : Prop := FV κ (CL X.K) T X Wx e m
abbrev NVd (κ : Bool) (T : List (Addr × Str)) (X : Cx) (Wx : WX) (e : Expr) (m : M (Dc)) : Prop := FV κ (CD X.K) T X Wx e m
section
variable {α β γ δ : Type} {κ κ' : Bool} {R : Wm → Hp → α → β → Prop} {C : Wm → Hp → γ → Addr → Prop} {C' : Wm → Hp → δ → Addr → Prop} {G : Gx} {Wx : WX} {W W' : Wm} {H H' : Hp} {env : Env} {σ : L2.St}
theorem Ext.fr_ (e : Ext κ W H W' H') {p : Addr} (hp : Fr H' p) : Fr H p := fun o q => by
  by_cases z : ∃ ps, o = .tbl ps
  · exact z
  · obtain ⟨o', q', n⟩ := e.th p o q fun ps y => z ⟨ps, y⟩
    obtain ⟨ps, y⟩ := hp o' q'
    exact absurd y (n ps)
theorem PostN.ext {r : Res γ} {Q : VK} (h : PostN κ C G Wx W H env σ r Q) (e : Ext κ W H W' H') : PostN κ C G Wx W' H' env σ r Q := by
  cases r with
  | ok a st => exact fun W2 H2 p e2 r2 hp w2 q => h W2 H2 p (e.trans e2) r2 (e.fr_ hp) w2 q
  | exc x st => exact fun W2 H2 c d e2 r2 q => h W2 H2 c d (e.f.trans e2) r2 q
  | bad => exact h.elim
theorem PostN.weak {r : Res γ} {Q : VK} (h : PostN κ C G Wx W H env σ r Q) (hk : κ = true → κ' = true) : PostN κ' C G Wx W H env σ r Q := by
  cases r with
  | ok a st => exact fun W' H' p e r hp w q => h W' H' p (e.weak hk) r hp w q
  | exc x st => exact h
  | bad => exact h.elim
/-- a part of an expression that makes something new -/
theorem PostN.bind {r : Res α} {f : α → Sto → Res γ} {Q : VK} {Q1 : β → Hp → Prop} (h : PostN κ C G Wx W H env σ (r.bind f) Q) (hk : κ = true → κ' = true)
    (k : ∀ a st' W' H' b, Ext κ' W H W' H' → Rel G W' H' env st' σ → R W' H' a b → PostN κ C G Wx W' H' env σ (f a st') Q → Q1 b H') : Post κ' R G Wx W H env σ r Q1 := by
  cases r with
  | ok a st => exact fun W' H' b e r q => k a st W' H' b e r q (h.ext (e.weak hk))
  | exc x st => exact h
  | bad => exact h.elim
/-- a new thing is a part -/
theorem Post.bindN {r : Res γ} {f : γ → Sto → Res α} {Q : β → Hp → Prop} {Q1 : VK} (h : Post κ R G Wx W H env σ (r.bind f) Q) (hk : κ = true → κ' = true)
    (k : ∀ a st' W' H' p, Ext κ' W H W' H' → Rel G W' H' env st' σ → Fr H p → W' p = some .tmp → C W' H' a p → Post κ R G Wx W' H' env σ (f a st') Q → Q1 (.ref p) H') : PostN κ' C G Wx W H env σ r Q1 := by
  cases r with
  | ok a st => exact fun W' H' p e r hp w q => k a st W' H' p e r hp w q (h.ext (e.weak hk))
  | exc x st => exact h
  | bad => exact h.elim
theorem PostN.bindN {r : Res γ} {f : γ → Sto → Res δ} {Q : VK} {Q1 : VK} (h : PostN κ C' G Wx W H env σ (r.bind f) Q) (hk : κ = true → κ' = true)
    (k : ∀ a st' W' H' p, Ext κ' W H W' H' → Rel G W' H' env st' σ → Fr H p → W' p = some .tmp → C W' H' a p → PostN κ C' G Wx W' H' env σ (f a st') Q → Q1 (.ref p) H') : PostN κ' C G Wx W H env σ r Q1 := by
  cases r with
  | ok a st => exact fun W' H' p e r hp w q => k a st W' H' p e r hp w q (h.ext (e.weak hk))
  | exc x st => exact h
  | bad => exact h.elim
/-- a new thing is laid -/
theorem PostN.laid {a : γ} {st : Sto} {Q : VK} {o : HO} {p : Addr} (h : PostN κ C G Wx W H env σ (.ok a st) Q) (r : Rel G W H env st σ) (hp : H p = none) (ho : ∀ ps, o ≠ .tbl ps) (q : C (tagW W p (some .tmp)) (upd H p o) a p) : Q (.ref p) (upd H p o) :=
  h _ _ p (ext_laidT r.sto hp) (r.laidT hp (fun n z => by cases z) ho) (.of hp) tagW_same q
/-- what is new and kept, is nobody's -/
theorem ext_untmp {st : Sto} (s : StoOk G W H st) (e : Ext κ W H W' H') {p : Addr} (hp : Fr H p) : Ext κ W H (tagW W' p none) H' where
  fr := fun a o h q n => by
    rw [tagW_ne fun z => by subst z; obtain ⟨ps, y⟩ := hp o q; exact n ps y]
    exact e.fr a o h q n
  ob := fun a n h => by
    rw [tagW_ne (s.neF hp h)]
    exact e.ob a n h
  hl := fun a t h k => by
    rw [tagW_ne (s.neF hp h)]
    exact e.hl a t h k
  th := e.th
end
section
variable {T : List (Addr × Str)} {X : Cx} {Wx : WX} {κ κ' κa κb κc : Bool} {a b c e : Expr} {ma mb mc : M D} {pos p : Pos} {R1 R2 R4 : Wm → Hp → D → V → Prop}
/-- the new thing is kept: nobody's -/
theorem ev_frz {n : M (List D)} (h : NV κ T X Wx e n) : EV κ T X Wx e (mUn n fun ds st => .ok (.lst ds) st) := by
  obtain ⟨t, h1, h2⟩ := h.ex
  refine ⟨t, h1, fun W H env st σ Q rl h => h2 _ _ _ _ _ _ rl ?_⟩
  show PostN κ (CL X.K) (Gof X T) Wx W H env σ (n env st) Q
  unfold mUn at h
  cases en : n env st with
  | ok ds st' =>
    rw [en] at h
    intro W' H' p e' r' hp w' ⟨vs, q1, q2⟩
    have mo := mo_untag (W := W') (H := H') (p := p) fun n z => by rw [w'] at z; cases z
    exact h (tagW W' p none) H' (.ref p) (ext_untmp rl.sto e' hp) (r'.untmp w') (rep_lst.mpr ⟨p, vs, rfl, .inl ⟨tagW_same, .inl q1⟩, Reps.mono mo _ _ q2⟩)
  | exc x st' => rw [en] at h; exact h
  | bad => rw [en] at h; exact h.elim
theorem rep_dct {K : PySem.W.Frag} {W : Wm} {H : Hp} {kvs : Dc} {v : V} : Rep K W H (.dct kvs) v ↔ ∃ a, v = .ref a ∧ ((∃ ks, Free W H a (.dK ks) ∧ RepKc K W H kvs ks) ∨ ∃ ks, Free W H a (.dT ks) ∧ RepTc K W H kvs ks) := by
  obtain ⟨t, l⟩ := kvs
  rw [Rep]
  exact Iff.rfl
theorem ev_frzD {n : M (Dc)} (h : NVd κ T X Wx e n) : EV κ T X Wx e (mUn n fun ds st => .ok (.dct ds) st) := by
  obtain ⟨t, h1, h2⟩ := h.ex
  refine ⟨t, h1, fun W H env st σ Q rl h => h2 _ _ _ _ _ _ rl ?_⟩
  show PostN κ (CD X.K) (Gof X T) Wx W H env σ (n env st) Q
  unfold mUn at h
  cases en : n env st with
  | ok ds st' =>
    rw [en] at h
    intro W' H' p e' r' hp w' q
    have mo := mo_untag (W := W') (H := H') (p := p) fun n z => by rw [w'] at z; cases z
    refine h (tagW W' p none) H' (.ref p) (ext_untmp rl.sto e' hp) (r'.untmp w') (rep_dct.mpr ⟨p, rfl, ?_⟩)
    rcases q with ⟨ks, q1, q2⟩ | ⟨ks, q1, q2⟩
    · exact .inl ⟨ks, ⟨tagW_same, .inl q1⟩, RepKc.mono mo _ _ q2⟩
    · exact .inr ⟨ks, ⟨tagW_same, .inl q1⟩, RepTc.mono mo _ _ q2⟩
  | exc x st' => rw [en] at h; exact h
  | bad => rw [en] at h; exact h.elim
/-- [a, b, ..] -/
def mSmall (m : M (List D)) : M (List D) := fun env st => (m env st).bind fun ds st' => if ds.length ≤ 1000 then .ok ds st' else .bad
theorem nv_lst {es : List Expr} {n : M (List D)} (h : AV κ T X Wx es n) : NV κ T X Wx (.List es pos) (mSmall n) := by
  obtain ⟨ta, pa, ra⟩ := h.ex
  refine ⟨_, pe_lst pa, fun W H env st σ Q rl h => ra _ _ _ _ _ _ rl (PostN.bind (R := RepsR X) h (fun z => z) fun ds st1 W1 H1 vs e1 r1 q1 h1 => ?_)⟩
  split at h1
  · rename_i hz
    rw [q1.length] at hz
    exact ⟨small_line hz, fun p hp => h1.laid r1 hp (fun _ z => by cases z) ⟨vs, upd_same, Reps.mono (ext_laidT (κ := true) r1.sto hp).mo _ _ q1⟩⟩
  · exact h1.elim
/-- [a, b, ..] as a list of the store: what others may change -/
def mStore (m : M (List D)) : M D := fun env st => (m env st).bind fun ds st' => if ds.length ≤ 1000 then .ok (.loc st'.length) (st' ++ [.ls ds]) else .bad
theorem ev_lstO {es : List Expr} {n : M (List D)} (h : AV κ T X Wx es n) : EV κ T X Wx (.List es pos) (mStore n) := by
  obtain ⟨ta, pa, ra⟩ := h.ex
  refine ⟨_, pe_lst pa, fun W H env st σ Q rl h => ra _ _ _ _ _ _ rl (h.bind (fun z => z) fun ds st1 W1 H1 vs e1 r1 q1 h1 => ?_)⟩
  split at h1
  · rename_i hz
    rw [q1.length] at hz
    exact ⟨small_line hz, fun p hp => h1.okE (ext_laidT r1.sto hp) (r1.laidO hp (fun _ z => by cases z) ⟨vs, upd_same, Reps.mono (ext_laidT (κ := true) r1.sto hp).mo _ _ q1⟩) (rep_loc.mpr ⟨p, rfl, tagW_same⟩)⟩
  · exact h1.elim
/-- {} -/
def mDnil (t : Bool) : M Dc := fun _ st => .ok (t, []) st
theorem nv_dnilK : NVd true T X Wx (.Dict [] [] pos) (mDnil false) := ⟨_, pe_dnewK, fun W H env st σ Q rl h p hp => h.laid rl hp (fun _ z => by cases z) (.inl ⟨[], upd_same, rfl, by unfold RepK; rfl⟩)⟩
theorem nv_dnilT : NVd true T X Wx (.Dict [] [] pos) (mDnil true) := ⟨_, pe_dnewT, fun W H env st σ Q rl h p hp => h.laid rl hp (fun _ z => by cases z) (.inr ⟨[], upd_same, rfl, by unfold RepT; rfl⟩)⟩
/-- what is new, by a test -/
theorem fv_if {α : Type} {C : Wm → Hp → α → Addr → Prop} {mt : M Bool} {na nb : M α} (hc : TV κ T X Wx c mt) (ha : FV κa C T X Wx a na) (hb : FV κb C T X Wx b nb) : FV ((κ && κa) && κb) C T X Wx (.IfExp c a b pos) (mIf mt na nb) := by
  obtain ⟨tc, pc, rc⟩ := hc.ex
  obtain ⟨ta, pa, ra⟩ := ha.ex
  obtain ⟨tb, pb, rb⟩ := hb.ex
  refine ⟨_, pe_ifExp pc pa pb, fun W H env st σ Q rl h => rc _ _ _ _ _ _ rl (PostN.bind (R := BoolR) h and3 fun k st1 W1 H1 v e1 r1 q1 h1 => ?_)⟩
  subst q1
  by_cases hk : v = true
  · rw [if_pos hk] at h1 ⊢; exact ra _ _ _ _ _ _ r1 (h1.weak and32)
  · rw [if_neg hk] at h1 ⊢; exact rb _ _ _ _ _ _ r1 (h1.weak and33)
/-! ### items -/
theorem CRep.lst {K : PySem.W.Frag} {W : Wm} {H : Hp} {ds : List D} {v : V} (h : CRep K W H (.lst ds) v) : ∃ a vs, v = .ref a ∧ SqL K H a vs ∧ Reps K W H ds vs := by
  rcases h with h | ⟨t, ds', e, a, vs, q, h1, h2, h3⟩ | ⟨t, kvs, e, _⟩
  · obtain ⟨a, vs, q, l, r⟩ := rep_lst.mp h
    exact ⟨a, vs, q, l.sq, r⟩
  · cases e
    exact ⟨a, vs, q, .of h2, h3⟩
  · cases e
theorem CRep.tup {K : PySem.W.Frag} {W : Wm} {H : Hp} {ds : List D} {v : V} (h : CRep K W H (.tup ds) v) : ∃ a vs, v = .ref a ∧ SqT K H a vs ∧ Reps K W H ds vs := by
  rcases h with h | ⟨t, ds', e, _⟩ | ⟨t, kvs, e, _⟩
  · obtain ⟨a, vs, q, l, r⟩ := rep_tup.mp h
    exact ⟨a, vs, q, l.sq, r⟩
  · cases e
  · cases e
theorem CRep.dct {K : PySem.W.Frag} {W : Wm} {H : Hp} {kvs : Dc} {v : V} (h : CRep K W H (.dct kvs) v) : ∃ a, v = .ref a ∧ ((∃ ks, Rd H a (.dK ks) ∧ RepKc K W H kvs ks) ∨ ∃ ks, Rd H a (.dT ks) ∧ RepTc K W H kvs ks) := by
  rcases h with h | ⟨t, ds', e, _⟩ | ⟨t, kvs', e, a, q, h1, h2⟩
  · obtain ⟨a, q, h⟩ := rep_dct.mp h
    refine ⟨a, q, ?_⟩
    rcases h with ⟨ks, z, r⟩ | ⟨ks, z, r⟩
    · exact .inl ⟨ks, z.2, r⟩
    · exact .inr ⟨ks, z.2, r⟩
  · cases e
  · cases e
    refine ⟨a, q, ?_⟩
    rcases h2 with ⟨ks, z, r⟩ | ⟨ks, z, r⟩
    · exact .inl ⟨ks, .inl z, r⟩
    · exact .inr ⟨ks, .inl z, r⟩
theorem CRep.rep {K : PySem.W.Frag} {W : Wm} {H : Hp} {d : D} {v : V} (h : CRep K W H d v) (n1 : ∀ xs, d ≠ .lst xs) (n2 : ∀ xs, d ≠ .dct xs) : Rep K W H d v := by
  rcases h with h | ⟨t, ds', e, _⟩ | ⟨t, kvs', e, _⟩
  · exact h
  · exact absurd e (n1 _)
  · exact absurd e (n2 _)
theorem CRep.int {K : PySem.W.Frag} {W : Wm} {H : Hp} {i : Int} {v : V} (h : CRep K W H (.int i) v) : v = .int i := rep_int.mp (h.rep (fun _ z => by cases z) fun _ z => by cases z)
theorem CRep.str {K : PySem.W.Frag} {W : Wm} {H : Hp} {i : Str} {v : V} (h : CRep K W H (.str i) v) : v = .str i := rep_str.mp (h.rep (fun _ z => by cases z) fun _ z => by cases z)
theorem CRep.bl {K : PySem.W.Frag} {W : Wm} {H : Hp} {i : Bool} {v : V} (h : CRep K W H (.bl i) v) : v = .bl i := rep_bl.mp (h.rep (fun _ z => by cases z) fun _ z => by cases z)
theorem CRep.loc {K : PySem.W.Frag} {W : Wm} {H : Hp} {i : Nat} {v : V} (h : CRep K W H (.loc i) v) : ∃ a, v = .ref a ∧ W a = some (.obj i) := rep_loc.mp (h.rep (fun _ z => by cases z) fun _ z => by cases z)
/-- a list of the store -/
theorem Rel.ls {G : Gx} {W : Wm} {H : Hp} {env : Env} {st : Sto} {σ : L2.St} (r : Rel G W H env st σ) {a : Addr} {n : Nat} {xs : List D} (h : W a = some (.obj n)) (e : st[n]? = some (.ls xs)) : ∃ vs, H a = some (.lst vs) ∧ Reps G.K W H xs vs := by
  obtain ⟨o, e', q⟩ := r.sto.obj a n h
  rw [e] at e'
  cases e'
  exact q
theorem Reps.atI {K : PySem.W.Frag} {W : Wm} {H : Hp} {ds : List D} {vs : List V} {i : Int} {d : D} (h : Reps K W H ds vs) (e : L2.atI ds i = some d) : ∃ v, L2.atI vs i = some v ∧ Rep K W H d v := by
  unfold L2.atI at e ⊢
  rw [← h.length]
  cases q : ixN ds.length i with
  | none => rw [q] at e; cases e
  | some j => rw [q] at e; exact h.get e
def dIx (d i : D) (st : Sto) : Option D := match d, i with
  | .lst xs, .int i => L2.atI xs i
  | .tup xs, .int i => L2.atI xs i
  | .str z, .int i => if z.length ≤ sizeLine then (L2.atI z.cps.toList i).map fun c => .str ⟨#[c]⟩ else none
  | .loc n, .int i => match st[n]? with
    | some (.ls xs) => L2.atI xs i
    | _ => none
  | _, _ => none
theorem op2_ix : Op2 true (CurR X) (CurR X) (RepR X) T X Wx (rIx X.K) (fun d i st => Res.of (dIx d i st) st) := by
  intro W H env st σ x y d1 d2 Q rl h1 h2 hp
  dsimp only at hp
  cases e : dIx d1 d2 st with
  | none => rw [e] at hp; exact hp.elim
  | some d =>
    rw [e] at hp
    unfold dIx at e
    split at e
    · obtain ⟨a, vs, rfl, l, r⟩ := CRep.lst h1
      obtain ⟨v, e', q⟩ := r.atI e
      exact .inl ⟨a, vs, _, v, rfl, CRep.int h2, l, e', hp.ok rl q⟩
    · obtain ⟨a, vs, rfl, l, r⟩ := CRep.tup h1
      obtain ⟨v, e', q⟩ := r.atI e
      exact .inr (.inl ⟨a, vs, _, v, rfl, CRep.int h2, l, e', hp.ok rl q⟩)
    · split at e
      · rename_i z i hz
        cases ea : L2.atI z.cps.toList i with
        | none => rw [ea] at e; cases e
        | some c =>
          rw [ea] at e
          cases e
          exact .inr (.inr ⟨z, i, c, CRep.str h1, CRep.int h2, hz, ea, hp.ok rl (rep_str.mpr rfl)⟩)
      · cases e
    · split at e
      · rename_i es
        obtain ⟨a, rfl, w⟩ := CRep.loc h1
        obtain ⟨vs, l, r⟩ := rl.ls w es
        obtain ⟨v, e', q⟩ := r.atI e
        exact .inl ⟨a, vs, _, v, rfl, CRep.int h2, .of l, e', hp.ok rl q⟩
      · cases e
    · cases e
theorem ev_ix (ha : EVg κ R1 T X Wx a ma) (hb : EVg κ' R2 T X Wx b mb) (hs : PlainIx b := by exact fun _ _ => rfl) (S : Stands κ' R1 := by first | exact Stands.rep | exact Stands.held | exact Stands.cur) (c1 : ToCur X R1 := by first | exact ToCur.rep | exact ToCur.held | exact ToCur.cur) (c2 : ToCur X R2 := by first | exact ToCur.rep | exact ToCur.held | exact ToCur.cur) :
    EV (κ && κ') T X Wx (.Subscript a b pos) (mBin ma mb fun d i st => Res.of (dIx d i st) st) := by
  obtain ⟨ta, pa, ra⟩ := ha.ex
  obtain ⟨tb, pb, rb⟩ := hb.ex
  exact ⟨_, pe_ix ix_seq pa pb hs, op2_pair S (op2_ix.low c1 c2) ra rb⟩
/-! ### a built-in's call by values -/
def Op1 {α β : Type} (R1 : Wm → Hp → α → V → Prop) (R3 : Wm → Hp → β → V → Prop) (T : List (Addr × Str)) (X : Cx) (Wx : WX) (r : V → Hp → VK → Prop) (f : α → Sto → Res β) : Prop :=
  ∀ W H env st σ x d Q, Rel (Gof X T) W H env st σ → R1 W H d x → Post true R3 (Gof X T) Wx W H env σ (f d st) Q → r x H Q
def Op1N {α β : Type} (R1 : Wm → Hp → α → V → Prop) (C : Wm → Hp → β → Addr → Prop) (T : List (Addr × Str)) (X : Cx) (Wx : WX) (r : V → Hp → VK → Prop) (f : α → Sto → Res β) : Prop :=
  ∀ W H env st σ x d Q, Rel (Gof X T) W H env st σ → R1 W H d x → PostN true C (Gof X T) Wx W H env σ (f d st) Q → r x H Q
section
variable {x : Str} {id Ty : String} {r : List V → Hp → VK → Prop} {f : D → Sto → Res D} {f2 : List D → Sto → Res D} {fN : D → Sto → Res (List D)}
theorem ev_callB (hc : CallR X (.builtin id) r) (o : Op1 (CurR X) (RepR X) T X Wx (fun v => r [v]) f) (hg : Gl X x) (hm : X.mg x = none) (hv : bootBuiltins x = some (.builtin id)) (ha : EVg κ R1 T X Wx a ma) (c1 : ToCur X R1 := by first | exact ToCur.rep | exact ToCur.held | exact ToCur.cur) (hn : x ≠ "__name__" := by decide) (hdb : (x == ("__debug__" : Str)) = false := by decide)
    (he : starEach (a :: []) X.env = (false, eval a X.env) :: starEach [] X.env := by rfl) (hpl : (backTo pos (starEach [] X.env)).any (·.1) = false := by rfl) : EV κ T X Wx (.Call (.Name x p) [a] [] pos) (mUn ma f) := by
  obtain ⟨ta, pa, ra⟩ := ha.ex
  refine ⟨_, pe_callB hc hg hm hv (pa_cons pa pa_nil he) hn hdb he hpl, fun W H env st σ Q rl h => ra _ _ _ _ _ _ rl (h.bind (fun z => z) fun d st1 W1 H1 v e1 r1 q1 h1 => ?_)⟩
  exact o W1 H1 env st1 σ v d Q r1 (c1 _ _ _ _ q1) (h1.weak fun _ => rfl)
theorem ev_callTy (hc : CallR X (.type Ty) r) (o : Op1 (CurR X) (RepR X) T X Wx (fun v => r [v]) f) (hg : Gl X x) (hm : X.mg x = none) (hv : bootBuiltins x = some (.type Ty)) (ha : EVg κ R1 T X Wx a ma) (c1 : ToCur X R1 := by first | exact ToCur.rep | exact ToCur.held | exact ToCur.cur) (hn : x ≠ "__name__" := by decide) (hdb : (x == ("__debug__" : Str)) = false := by decide)
    (he : starEach (a :: []) X.env = (false, eval a X.env) :: starEach [] X.env := by rfl) (hpl : (backTo pos (starEach [] X.env)).any (·.1) = false := by rfl) : EV κ T X Wx (.Call (.Name x p) [a] [] pos) (mUn ma f) := by
  obtain ⟨ta, pa, ra⟩ := ha.ex
  refine ⟨_, pe_callTy hc hg hm hv (pa_cons pa pa_nil he) hn hdb he hpl, fun W H env st σ Q rl h => ra _ _ _ _ _ _ rl (h.bind (fun z => z) fun d st1 W1 H1 v e1 r1 q1 h1 => ?_)⟩
  exact o W1 H1 env st1 σ v d Q r1 (c1 _ _ _ _ q1) (h1.weak fun _ => rfl)
theorem nv_callB {α : Type} {C : Wm → Hp → α → Addr → Prop} {fN : D → Sto → Res α} (hc : CallR X (.builtin id) r) (o : Op1N (CurR X) C T X Wx (fun v => r [v]) fN) (hg : Gl X x) (hm : X.mg x = none) (hv : bootBuiltins x = some (.builtin id)) (ha : EVg κ R1 T X Wx a ma) (c1 : ToCur X R1 := by first | exact ToCur.rep | exact ToCur.held | exact ToCur.cur) (hn : x ≠ "__name__" := by decide) (hdb : (x == ("__debug__" : Str)) = false := by decide)
    (he : starEach (a :: []) X.env = (false, eval a X.env) :: starEach [] X.env := by rfl) (hpl : (backTo pos (starEach [] X.env)).any (·.1) = false := by rfl) : FV κ C T X Wx (.Call (.Name x p) [a] [] pos) (mUn ma fN) := by
  obtain ⟨ta, pa, ra⟩ := ha.ex
  refine ⟨_, pe_callB hc hg hm hv (pa_cons pa pa_nil he) hn hdb he hpl, fun W H env st σ Q rl h => ra _ _ _ _ _ _ rl (PostN.bind (R := R1) h (fun z => z) fun d st1 W1 H1 v e1 r1 q1 h1 => ?_)⟩
  exact o W1 H1 env st1 σ v d Q r1 (c1 _ _ _ _ q1) (h1.weak fun _ => rfl)
theorem nv_callTy {α : Type} {C : Wm → Hp → α → Addr → Prop} {fN : D → Sto → Res α} (hc : CallR X (.type Ty) r) (o : Op1N (CurR X) C T X Wx (fun v => r [v]) fN) (hg : Gl X x) (hm : X.mg x = none) (hv : bootBuiltins x = some (.type Ty)) (ha : EVg κ R1 T X Wx a ma) (c1 : ToCur X R1 := by first | exact ToCur.rep | exact ToCur.held | exact ToCur.cur) (hn : x ≠ "__name__" := by decide) (hdb : (x == ("__debug__" : Str)) = false := by decide)
    (he : starEach (a :: []) X.env = (false, eval a X.env) :: starEach [] X.env := by rfl) (hpl : (backTo pos (starEach [] X.env)).any (·.1) = false := by rfl) : FV κ C T X Wx (.Call (.Name x p) [a] [] pos) (mUn ma fN) := by
  obtain ⟨ta, pa, ra⟩ := ha.ex
  refine ⟨_, pe_callTy hc hg hm hv (pa_cons pa pa_nil he) hn hdb he hpl, fun W H env st σ Q rl h => ra _ _ _ _ _ _ rl (PostN.bind (R := R1) h (fun z => z) fun d st1 W1 H1 v e1 r1 q1 h1 => ?_)⟩
  exact o W1 H1 env st1 σ v d Q r1 (c1 _ _ _ _ q1) (h1.weak fun _ => rfl)
/-- many arguments -/
theorem ev_callBs {es : List Expr} {n : M (List D)} (hc : CallR X (.builtin id) r) (hr : ∀ W H env st σ vs ds Q, Rel (Gof X T) W H env st σ → Reps X.K W H ds vs → Post true (RepR X) (Gof X T) Wx W H env σ (f2 ds st) Q → r vs H Q) (hg : Gl X x) (hm : X.mg x = none) (hv : bootBuiltins x = some (.builtin id)) (ha : AV κ T X Wx (a :: es) n) (hn : x ≠ "__name__" := by decide) (hdb : (x == ("__debug__" : Str)) = false := by decide)
    (he : starEach (a :: es) X.env = (false, eval a X.env) :: starEach es X.env := by rfl) (hpl : (backTo pos (starEach es X.env)).any (·.1) = false := by rfl) : EV κ T X Wx (.Call (.Name x p) (a :: es) [] pos) (mUn n f2) := by
  obtain ⟨ta, pa, ra⟩ := ha.ex
  refine ⟨_, pe_callB hc hg hm hv pa hn hdb he hpl, fun W H env st σ Q rl h => ra _ _ _ _ _ _ rl (h.bind (fun z => z) fun ds st1 W1 H1 vs e1 r1 q1 h1 => ?_)⟩
  exact hr W1 H1 env st1 σ vs ds Q r1 q1 (h1.weak fun _ => rfl)
end
end
end Ev

set_option maxRecDepth 100000
set_option maxHeartbeats 4000000
/-! calls of the text's own defs -/
namespace Ev
open PySem PySem.Spec PyProof.Rows L2
/-! ### calls whose errors are wished for at the slots -/
section
variable {X : Cx} {CX : CXT} {k : Nat} {f C : Addr} {fd : FuncData} {ps : List Str} {sp : Sp} {E : L2.St → XK} {x m : Str} {p pos apos : Pos} {e o : Expr} {es : List Expr} {ta : TE} {t : TA}
theorem pe_call0S (F : FnOk X.prog X.w X.K X.mg X.base CX k f fd ps sp) (hr : Room k X.A) (hg : Gl X x) (hm : X.mg x = some (.ref f)) (hk : PySem.W.keepIn X.K (.ref f) = true) (hb : Binds X.K fd ps []) (hx : ∀ σ, PassesAt CX X σ (E σ)) (hdb : (x == ("__debug__" : Str)) = false := by decide) :
    PE X (.Call (.Name x p) [] [] pos) (tCallS sp E tNil) :=
  ⟨fun pins s σ H Q I h => wpAny_Call_Name_kw (ld_glob I hg hm (PySem.W.callWith_K0 I.kIn hk (run_fnS (us := []) F hr hb (hx σ) I .nil h)) hdb)⟩
def tMethS (C : Addr) (m : Str) (sp : Sp) (E : L2.St → XK) (ta : TE) (t : TA) : TE := fun σ H Q => ta σ H fun x H1 => ∃ a dx fs, x = .ref a ∧ H1 a = some (.ins C dx fs) ∧ fs.lookup m = none ∧ t σ H1 fun vs H2 => sp (x :: vs) H2 Q (E σ)
theorem pe_methS {pl : Sem Bool} (he : PE X o ta) (c : Cls X.K C) (hm : Meth X.K C m f) (F : FnOk X.prog X.w X.K X.mg X.base CX k f fd ps sp) (hr : Room k X.A) (hb : Binds X.K fd ps []) (hx : ∀ σ, PassesAt CX X σ (E σ)) (ha : PA X (e :: es) t)
    (hst : starEach (e :: es) X.env = (false, eval e X.env) :: starEach es X.env := by rfl) (hpl : (backTo pos (starEach es X.env)).any (·.1) = false := by rfl)
    (ht : eval (.Call (.Attribute o m apos) (e :: es) [] pos) X.env = (eval o X.env >>= fun ov => standAt apos.atName >>= fun _ => holding [ov] (getMethod ov m pl) >>= fun z => callWith pos z.1 z.2 (backTo pos (starEach (e :: es) X.env)) (backToKw pos (keywordEach [] X.env))) := by rfl) :
    PE X (.Call (.Attribute o m apos) (e :: es) [] pos) (tMethS C m sp E ta t) := by
  constructor
  intro pins s σ H Q I h
  apply PySem.W.methodCall_KW (pl := pl) ?_ ht
  refine thn (he.run pins s σ H _ I h) ?_
  rintro u s1 ⟨x, H1, I1, rx, a, dx, fs, rfl, ea, l, q⟩
  cases rx
  apply getmeth_ok I1 ea c hm l
  apply PySem.W.callWith_K (first := [.ref a]) (h₀ := X.base) I.ok.mod.kin hm.kp ?_ hst hpl
  refine thn (ha.run pos pins s1 σ H1 _ I1 q) ?_
  rintro us s2 ⟨vs, H2, I2, r, q2⟩
  exact ⟨I2.kIn, run_fnS (us := .ref a :: us) (vs := .ref a :: vs) F hr hb (hx σ) I2 (.cons rfl r) q2⟩
theorem pe_meth0S {pl : Sem Bool} (he : PE X o ta) (c : Cls X.K C) (hm : Meth X.K C m f) (F : FnOk X.prog X.w X.K X.mg X.base CX k f fd ps sp) (hr : Room k X.A) (hb : Binds X.K fd ps []) (hx : ∀ σ, PassesAt CX X σ (E σ))
    (ht : eval (.Call (.Attribute o m apos) [] [] pos) X.env = (eval o X.env >>= fun ov => standAt apos.atName >>= fun _ => holding [ov] (getMethod ov m pl) >>= fun z => callWith pos z.1 z.2 (backTo pos (starEach [] X.env)) (backToKw pos (keywordEach [] X.env))) := by rfl) :
    PE X (.Call (.Attribute o m apos) [] [] pos) (tMethS C m sp E ta tNil) := by
  constructor
  intro pins s σ H Q I h
  apply PySem.W.methodCall_KW (pl := pl) ?_ ht
  refine thn (he.run pins s σ H _ I h) ?_
  rintro u s1 ⟨x, H1, I1, rx, a, dx, fs, rfl, ea, l, q⟩
  cases rx
  apply getmeth_ok I1 ea c hm l
  exact PySem.W.callWith_K0 (first := [.ref a]) I1.kIn hm.kp (run_fnS (us := [.ref a]) (vs := [.ref a]) F hr hb (hx σ) I1 (.cons rfl .nil) q)
def tMakeS (C : Addr) (sp : Sp) (E : L2.St → XK) (t : TA) : TE := fun σ H Q => t σ H fun vs H1 => ∀ x dx, H1 x = none → H1 dx = none → dx ≠ x →
  sp (.ref x :: vs) (upd (upd H1 dx (.own x)) x (.ins C dx [])) (fun v H2 => v = .non ∧ Q (.ref x) H2) (E σ)
theorem run_makeS {pins : List (Addr × Obj)} {σ : L2.St} {H : Hp} {s : Shared} {Q : VK} {us : List Value} {vs : List V} {E : XK} (M : Mk X.K C f) (F : FnOk X.prog X.w X.K X.mg X.base CX k f fd ps sp) (hr : Room (k + 1) X.A) (hb : Binds X.K fd ps [])
    (hx : PassesAt CX X σ E) (I : Inv X pins σ H s) (r : Vals vs us) (h : ∀ x dx, H x = none → H dx = none → dx ≠ x → sp (.ref x :: vs) (upd (upd H dx (.own x)) x (.ins C dx [])) (fun v H2 => v = .non ∧ Q (.ref x) H2) E) :
    wpAny (model X.prog X.w) X.A (call (.ref C) us) (EP X pins σ Q) X.xe s := by
  have hq := h (s.heap.objs.size + 1) s.heap.objs.size (I.hok.fresh (Nat.le_succ _)) (I.hok.fresh (Nat.le_refl _)) (Nat.ne_of_lt (Nat.lt_succ_self _))
  have J := Inv.made (C := C) I
  have r2 : Vals (V.ref (s.heap.objs.size + 1) :: vs) (Value.ref (s.heap.objs.size + 1) :: us) := .cons rfl r
  have hl : (Value.ref (s.heap.objs.size + 1) :: us).length = ps.length := r2.length.symm.trans (F.len _ _ _ _ hq)
  have b := hb _ (Value.ref (s.heap.objs.size + 1) :: us) J.kIn (by rw [List.append_nil]; exact hl)
  rw [List.append_nil] at b
  refine wpAny_call (make_map (f := f) I.kIn M.makes M.init (beq_iff_eq.mp M.fn) (codeAny_mono (F.run _ X.stack _ _ ⟨Value.ref (s.heap.objs.size + 1) :: us, []⟩ _ _ _ _ (hr.make C us []) (J.env0.make C us []) b r2 hq) ?_))
  intro r s' z
  match r, z with
  | .error e, z => exact hx pins _ _ e s' J z
  | .ok (.ret u), z =>
    obtain ⟨v, H', I3, rv, ev, q3⟩ := J.after z
    subst ev
    exact ⟨rv, V.ref (s.heap.objs.size + 1), H', I3, rfl, q3⟩
  | .ok .next, z => exact z.elim
  | .ok .brk, z => exact z.elim
  | .ok .cont, z => exact z.elim
theorem pe_makeS (M : Mk X.K C f) (F : FnOk X.prog X.w X.K X.mg X.base CX k f fd ps sp) (hr : Room (k + 1) X.A) (hg : Gl X x) (hm : X.mg x = some (.ref C)) (hb : Binds X.K fd ps []) (hx : ∀ σ, PassesAt CX X σ (E σ))
    (ha : PA X (e :: es) t) (hdb : (x == ("__debug__" : Str)) = false := by decide) (he : starEach (e :: es) X.env = (false, eval e X.env) :: starEach es X.env := by rfl) (hpl : (backTo pos (starEach es X.env)).any (·.1) = false := by rfl) :
    PE X (.Call (.Name x p) (e :: es) [] pos) (tMakeS C sp E t) := by
  constructor
  intro pins s σ H Q I h
  apply wpAny_Call_Name_kw
  apply ld_glob I hg hm ?_ hdb
  apply PySem.W.callWith_K (h₀ := X.base) I.ok.mod.kin M.kp ?_ he hpl
  refine thn (ha.run pos pins s σ H _ I h) ?_
  rintro us s1 ⟨vs, H1, I1, r, q⟩
  exact ⟨I1.kIn, run_makeS M F hr hb (hx σ) I1 r q⟩
theorem pe_make0S (M : Mk X.K C f) (F : FnOk X.prog X.w X.K X.mg X.base CX k f fd ps sp) (hr : Room (k + 1) X.A) (hg : Gl X x) (hm : X.mg x = some (.ref C)) (hb : Binds X.K fd ps []) (hx : ∀ σ, PassesAt CX X σ (E σ))
    (hdb : (x == ("__debug__" : Str)) = false := by decide) : PE X (.Call (.Name x p) [] [] pos) (tMakeS C sp E tNil) :=
  ⟨fun pins s σ H Q I h => wpAny_Call_Name_kw (ld_glob I hg hm (PySem.W.callWith_K0 I.kIn M.kp (run_makeS (us := []) M F hr hb (hx σ) I .nil h)) hdb)⟩
end
/-! ### a def by its mirror -/
/-- a mirror: what a def does with its arguments and the store -/
abbrev Fm := List D → Sto → Res D
/-- behind a call -/
def CPost (G : Gx) (W : Wm) (H : Hp) (r : Res D) (Q : VK) (E : XK) : Prop := match r with
  | .ok d st => ∀ W' H' v, Ext false W H W' H' → StoOk G W' H' st → Rep G.K W' H' d v → Q v H'
  | .exc x st => ∀ W' H' c d, Ext false W H W' H' → StoOk G W' H' st → ExnRep G W' H' x c d → E c d H'
  | .bad => False
def spOf (G : Gx) (n : Nat) (m : Fm) : Sp := fun vs H Q E => ∃ W st ds, vs.length = n ∧ StoOk G W H st ∧ Reps G.K W H ds vs ∧ CPost G W H (m ds st) Q E
theorem Rel.ofSto {G : Gx} {W W' : Wm} {H H' : Hp} {env : Env} {st st' : Sto} {σ : L2.St} {κ : Bool} (r : Rel G W H env st σ) (e : Ext κ W H W' H') (s : StoOk G W' H' st') : Rel G W' H' env st' σ :=
  ⟨s, r.env.mono e.mo fun a i h => e.hl a _ h (by simp [Tag.held])⟩
section
variable {T : List (Addr × Str)} {X : Cx} {Wx : WX} {κ κ' : Bool} {a e o : Expr} {es : List Expr} {ma mo : M D} {n : M (List D)} {mf : Fm} {k np : Nat} {f C : Addr} {fd : FuncData} {ps : List Str} {x m cls : Str} {p pos apos : Pos}
def mCall (mf : Fm) (n : M (List D)) : M D := fun env st => (n env st).bind fun ds st' => mf ds st'
theorem call_read {W : Wm} {H : Hp} {env : Env} {st : Sto} {σ : L2.St} {Q : VK} {vs : List V} {ds : List D} (rl : Rel (Gof X T) W H env st σ) (hd : Reps X.K W H ds vs) (h : Post false (RepR X) (Gof X T) Wx W H env σ (mf ds st) Q) (hl : vs.length = np) :
    spOf (Gof X T) np mf vs H Q (WE Wx σ) := by
  refine ⟨W, st, ds, hl, rl.sto, hd, ?_⟩
  cases e : mf ds st with
  | ok d st' => rw [e] at h; exact fun W' H' v ex s q => h W' H' v ex (rl.ofSto ex s) q
  | exc x st' => rw [e] at h; exact fun W' H' c d ex s q => h W' H' c d ex (rl.ofSto ex s) q
  | bad => rw [e] at h; exact h.elim
/-- f(..) -/
theorem ev_call (F : FnOk X.prog X.w X.K X.mg X.base (L2.CX X.prog X.w) k f fd ps (spOf (Gof X T) np mf)) (hr : Room k X.A) (tk : Takes X Wx) (hg : Gl X x) (hm : X.mg x = some (.ref f)) (hk : PySem.W.keepIn X.K (.ref f) = true) (hb : Binds X.K fd ps []) (ha : AV κ T X Wx (a :: es) n)
    (hn : ∀ env st ds st', n env st = .ok ds st' → ds.length = np) (hdb : (x == ("__debug__" : Str)) = false := by decide) (he : starEach (a :: es) X.env = (false, eval a X.env) :: starEach es X.env := by rfl) (hpl : (backTo pos (starEach es X.env)).any (·.1) = false := by rfl) :
    EV false T X Wx (.Call (.Name x p) (a :: es) [] pos) (mCall mf n) := by
  obtain ⟨ta, pa, ra⟩ := ha.ex
  refine ⟨_, pe_callS F hr hg hm hk hb (fun σ => passAt tk σ) pa hdb he hpl, fun W H env st σ Q rl h => ?_⟩
  unfold mCall at h
  cases en : n env st with
  | ok ds st' =>
    rw [en] at h
    refine ra W H env st σ _ rl ?_
    rw [en]
    intro W' H' vs ex r' q
    exact call_read r' q (Post.ext h ex.f) (q.length.symm.trans (hn _ _ _ _ en))
  | exc x st' =>
    rw [en] at h
    exact ra W H env st σ _ rl (by rw [en]; exact h)
  | bad => rw [en] at h; exact h.elim
theorem ev_call0 (F : FnOk X.prog X.w X.K X.mg X.base (L2.CX X.prog X.w) k f fd ps (spOf (Gof X T) 0 mf)) (hr : Room k X.A) (tk : Takes X Wx) (hg : Gl X x) (hm : X.mg x = some (.ref f)) (hk : PySem.W.keepIn X.K (.ref f) = true) (hb : Binds X.K fd ps [])
    (hdb : (x == ("__debug__" : Str)) = false := by decide) : EV false T X Wx (.Call (.Name x p) [] [] pos) (mCall mf mNil) :=
  ⟨_, pe_call0S F hr hg hm hk hb (fun σ => passAt tk σ) hdb, fun W H env st σ Q rl h => call_read rl Reps.nil h rfl⟩
end
end Ev

set_option maxRecDepth 100000
set_option maxHeartbeats 4000000
/-! statements, a def by its body -/
namespace Ev
open PySem PySem.Spec PyProof.Rows L2
/-- a statement's end -/
inductive Out where
  | nx (env : Env) (st : Sto)
  | rt (d : D) (st : Sto)
  | bk (env : Env) (st : Sto)
  | ct (env : Env) (st : Sto)
  | xc (x : Exn) (env : Env) (st : Sto)
  | bad
abbrev Sm := Env → Sto → Out
def Res.out {α : Type} (r : Res α) (env : Env) (f : α → Sto → Out) : Out := match r with
  | .ok a st => f a st
  | .exc x st => .xc x env st
  | .bad => .bad
@[simp] theorem Res.out_ok {α : Type} (a : α) (st : Sto) (env : Env) (f : α → Sto → Out) : (Res.ok a st).out env f = f a st := rfl
@[simp] theorem Res.out_exc {α : Type} (x : Exn) (st : Sto) (env : Env) (f : α → Sto → Out) : (Res.exc x st).out env f = .xc x env st := rfl
@[simp] theorem Res.out_bad {α : Type} (env : Env) (f : α → Sto → Out) : (Res.bad : Res α).out env f = .bad := rfl
def SPost (G : Gx) (Wx : WX) (W : Wm) (H : Hp) (o : Out) (D : Ends) : Prop := match o with
  | .nx env st => ∀ W' H' σ', ExtS W H W' H' → Rel G W' H' env st σ' → D.nx σ' H'
  | .rt d st => ∀ W' H' v, ExtS W H W' H' → StoOk G W' H' st → Rep G.K W' H' d v → D.rt v H'
  | .bk env st => ∀ W' H' σ', ExtS W H W' H' → Rel G W' H' env st σ' → D.bk σ' H'
  | .ct env st => ∀ W' H' σ', ExtS W H W' H' → Rel G W' H' env st σ' → D.ct σ' H'
  | .xc x env st => ∀ W' H' c d σ', ExtS W H W' H' → Rel G W' H' env st σ' → ExnRep G W' H' x c d → Wx c d σ' H'
  | .bad => False
structure SV (T : List (Addr × Str)) (X : Cx) (Wx : WX) (s : Stmt) (m : Sm) : Prop where
  ex : ∃ t, PS X s t ∧ ∀ W H env st σ D, Rel (Gof X T) W H env st σ → SPost (Gof X T) Wx W H (m env st) D → t D σ H
structure SsV (T : List (Addr × Str)) (X : Cx) (Wx : WX) (s : List Stmt) (m : Sm) : Prop where
  ex : ∃ t, PSs X s t ∧ ∀ W H env st σ D, Rel (Gof X T) W H env st σ → SPost (Gof X T) Wx W H (m env st) D → t D σ H
/-- the slots is alone may differ -/
def Off (is : List Nat) (σ σ' : L2.St) : Prop := σ'.length = σ.length ∧ ∀ j, j ∉ is → σ'[j]? = σ[j]?
structure GV (is : List Nat) (T : List (Addr × Str)) (X : Cx) (tg : Expr) (g : D → Env → Option Env) : Prop where
  ex : ∃ t, PG X tg t ∧ ∀ W H env st σ v d env' Q, Rel (Gof X T) W H env st σ → Rep X.K W H d v → g d env = some env' → (∀ σ', Rel (Gof X T) W H env' st σ' → Off is σ σ' → Q σ' H) → t v σ H Q
structure GsV (is : List Nat) (T : List (Addr × Str)) (X : Cx) (tgs : List Expr) (g : List D → Env → Option Env) : Prop where
  ex : ∃ t, PGs X tgs t ∧ ∀ W H env st σ vs ds env' Q, Rel (Gof X T) W H env st σ → Reps X.K W H ds vs → g ds env = some env' → (∀ σ', Rel (Gof X T) W H env' st σ' → Off is σ σ' → Q σ' H) → t vs σ H Q
theorem Off.refl {is : List Nat} {σ : L2.St} : Off is σ σ := ⟨rfl, fun _ _ => rfl⟩
theorem Off.trans {is js : List Nat} {σ σ' σ2 : L2.St} (a : Off is σ σ') (b : Off js σ' σ2) : Off (is ++ js) σ σ2 := ⟨b.1.trans a.1, fun j h => by
  rw [List.mem_append, not_or] at h
  exact (b.2 j h.2).trans (a.2 j h.1)⟩
theorem Off.set {σ : L2.St} {i : Nat} {v : Option V} : Off [i] σ (σ.set i v) := ⟨List.length_set, fun j h => List.getElem?_set_ne (by simpa using (Ne.symm (by simpa using h)))⟩
section
variable {G : Gx} {Wx : WX} {W W' : Wm} {H H' : Hp} {D : Ends}
theorem SPost.ext {o : Out} (h : SPost G Wx W H o D) (e : ExtS W H W' H') : SPost G Wx W' H' o D := by
  cases o with
  | nx env st => exact fun W2 H2 σ e2 r => h W2 H2 σ (e.trans e2) r
  | rt d st => exact fun W2 H2 v e2 r q => h W2 H2 v (e.trans e2) r q
  | bk env st => exact fun W2 H2 σ e2 r => h W2 H2 σ (e.trans e2) r
  | ct env st => exact fun W2 H2 σ e2 r => h W2 H2 σ (e.trans e2) r
  | xc x env st => exact fun W2 H2 c d σ e2 r q => h W2 H2 c d σ (e.trans e2) r q
  | bad => exact h
theorem SPost.nx {env : Env} {st : Sto} {σ : L2.St} (h : SPost G Wx W H (.nx env st) D) (r : Rel G W H env st σ) : D.nx σ H := h W H σ ExtS.refl r
/-- behind an expression -/
theorem SPost.of {α β : Type} {κ : Bool} {R : Wm → Hp → α → β → Prop} {env : Env} {σ : L2.St} {r : Res α} {f : α → Sto → Out} {Q : β → Hp → Prop} (h : SPost G Wx W H (r.out env f) D)
    (k : ∀ a st' W' H' b, Ext κ W H W' H' → Rel G W' H' env st' σ → R W' H' a b → SPost G Wx W' H' (f a st') D → Q b H') : Post κ R G Wx W H env σ r Q := by
  cases r with
  | ok a st => exact fun W' H' b e r q => k a st W' H' b e r q (SPost.ext h e.s)
  | exc x st => exact fun W' H' c d e r q => h W' H' c d σ e.s r q
  | bad => exact h
theorem SPost.ofN {α : Type} {κ : Bool} {C : Wm → Hp → α → Addr → Prop} {env : Env} {σ : L2.St} {r : Res α} {f : α → Sto → Out} {Q : VK} (h : SPost G Wx W H (r.out env f) D)
    (k : ∀ a st' W' H' p, Ext κ W H W' H' → Rel G W' H' env st' σ → Fr H p → W' p = some .tmp → C W' H' a p → SPost G Wx W' H' (f a st') D → Q (.ref p) H') : PostN κ C G Wx W H env σ r Q := by
  cases r with
  | ok a st => exact fun W' H' p e r hp w q => k a st W' H' p e r hp w q (SPost.ext h e.s)
  | exc x st => exact fun W' H' c d e r q => h W' H' c d σ e.s r q
  | bad => exact h
end
/-! ### slots stored -/
section
variable {G : Gx} {W : Wm} {H : Hp} {env : Env} {st : Sto} {σ : L2.St}
theorem EnvOk.set {K : PySem.W.Frag} (e : EnvOk K W H env σ) (i : Nat) {d : D} {v : V} (h : At K W H (.slot i) d v) : EnvOk K W H (env.set i (some d)) (σ.set i (some v)) where
  len := by rw [List.length_set, List.length_set]; exact e.len
  at_ := fun j d' hj => by
    by_cases hi : j = i
    · subst hi
      by_cases hl : j < env.length
      · rw [List.getElem?_set_self hl] at hj
        cases hj
        exact ⟨v, List.getElem?_set_self (by rw [← e.len]; exact hl), h⟩
      · rw [List.getElem?_eq_none_iff.mpr (by rw [List.length_set]; omega)] at hj
        cases hj
    · rw [List.getElem?_set_ne (Ne.symm hi)] at hj
      obtain ⟨v', q1, q2⟩ := e.at_ j d' hj
      exact ⟨v', by rw [List.getElem?_set_ne (Ne.symm hi)]; exact q1, q2⟩
theorem Rel.set (r : Rel G W H env st σ) (i : Nat) {d : D} {v : V} (h : Rep G.K W H d v) : Rel G W H (env.set i (some d)) st (σ.set i (some v)) := ⟨r.sto, r.env.set i (.of h)⟩
/-- a held thing changes hands -/
theorem mo_retag {a : Addr} {t : Tag} (h : W a ≠ none) (h2 : ∀ n, W a ≠ some (.obj n)) : Mo W H (tagW W a (some t)) H where
  fr := fun b u q r _ => by
    have z : b ≠ a := fun z => by subst z; exact h q
    exact ⟨by rw [tagW_ne z]; exact q, r⟩
  ob := fun b n q => by
    have z : b ≠ a := fun z => by subst z; exact h2 n q
    rw [tagW_ne z]; exact q
  tu := fun b vs q e => ⟨by rw [tagW_ne fun z => by subst z; exact h q]; exact q, e⟩
theorem Rel.retag {a : Addr} (r : Rel G W H env st σ) (h : W a = some .tmp) {t : Tag} (ht : ∀ n, t ≠ .obj n) : Rel G (tagW W a (some t)) H env st σ := by
  have mo : Mo W H (tagW W a (some t)) H := mo_retag (by rw [h]; simp) fun n z => by rw [h] at z; cases z
  refine ⟨⟨fun b n q => ?_, fun b c n q1 q2 => ?_, fun b u q => ?_, r.sto.tabs⟩, r.env.mono mo fun b i q => ?_⟩
  · have z : b ≠ a := fun z => by subst z; rw [tagW_same] at q; exact ht n (Option.some.inj q)
    rw [tagW_ne z] at q
    obtain ⟨o, e, ro⟩ := r.sto.obj b n q
    refine ⟨o, e, ro.mono mo rfl fun c f qc => ⟨?_, rfl⟩⟩
    have z : c ≠ a := fun z => by subst z; rw [h] at qc; cases qc
    rw [tagW_ne z]; exact qc
  · have z1 : b ≠ a := fun z => by subst z; rw [tagW_same] at q1; exact ht n (Option.some.inj q1)
    have z2 : c ≠ a := fun z => by subst z; rw [tagW_same] at q2; exact ht n (Option.some.inj q2)
    rw [tagW_ne z1] at q1
    rw [tagW_ne z2] at q2
    exact r.sto.uniq b c n q1 q2
  · by_cases z : b = a
    · subst z; exact r.sto.used b _ h
    · rw [tagW_ne z] at q; exact r.sto.used b u q
  · have z : b ≠ a := fun z => by subst z; rw [h] at q; cases q
    exact ⟨by rw [tagW_ne z]; exact q, rfl⟩
theorem exts_retag {a : Addr} {t : Tag} (h : W a = some .tmp) : ExtS W H (tagW W a (some t)) H where
  fr := fun b o q e _ => by
    have z : b ≠ a := fun z => by subst z; rw [h] at q; cases q
    exact ⟨by rw [tagW_ne z]; exact q, e⟩
  ob := fun b n q => by
    have z : b ≠ a := fun z => by subst z; rw [h] at q; cases q
    rw [tagW_ne z]; exact q
  ex := fun b q => by
    have z : b ≠ a := fun z => by subst z; rw [h] at q; cases q
    exact ⟨by rw [tagW_ne z]; exact q, rfl⟩
  th := fun _ o h n => ⟨o, h, n⟩
theorem Rel.setOwn (r : Rel G W H env st σ) (i : Nat) {ds : List D} {p : Addr} (h : W p = some .tmp) (c : CL G.K W H ds p) : Rel G (tagW W p (some (.slot i))) H (env.set i (some (.own ds))) st (σ.set i (some (.ref p))) := by
  have r' := r.retag h (t := .slot i) (fun n z => by cases z)
  have mo : Mo W H (tagW W p (some (.slot i))) H := (exts_retag h).mo
  obtain ⟨vs, q1, q2⟩ := c
  exact ⟨r'.sto, r'.env.set i (d := .own ds) ⟨p, vs, rfl, tagW_same, q1, Reps.mono mo _ _ q2⟩⟩
theorem Rel.setOwnD (r : Rel G W H env st σ) (i : Nat) {ds : Dc} {p : Addr} (h : W p = some .tmp) (c : CD G.K W H ds p) : Rel G (tagW W p (some (.slot i))) H (env.set i (some (.ownd ds))) st (σ.set i (some (.ref p))) := by
  have r' := r.retag h (t := .slot i) (fun n z => by cases z)
  have mo : Mo W H (tagW W p (some (.slot i))) H := (exts_retag h).mo
  refine ⟨r'.sto, r'.env.set i (d := .ownd ds) ⟨p, rfl, tagW_same, ?_⟩⟩
  rcases c with ⟨ks, q1, q2⟩ | ⟨ks, q1, q2⟩
  · exact .inl ⟨ks, q1, RepKc.mono mo _ _ q2⟩
  · exact .inr ⟨ks, q1, RepTc.mono mo _ _ q2⟩
end
section
variable {T : List (Addr × Str)} {X : Cx} {Wx : WX} {κ κ' : Bool} {a b c e : Expr} {ma mb : M D} {pos pos' p : Pos}
/-! ### targets -/
def gvN (i : Nat) : D → Env → Option Env := fun d env => some (env.set i (some d))
def gvT (g : List D → Env → Option Env) : D → Env → Option Env := fun d env => match d with
  | .tup ds => g ds env
  | _ => none
def gvNil : List D → Env → Option Env := fun ds env => match ds with
  | [] => some env
  | _ => none
def gvCons (g : D → Env → Option Env) (gs : List D → Env → Option Env) : List D → Env → Option Env := fun ds env => match ds with
  | d :: ds => (g d env).bind (gs ds)
  | [] => none
theorem gv_name (i : Nat) {x : Str} (hN : X.N.Nodup) (hi : X.N[i]? = some x := by rfl) (hx : Loc X.env.scope x := by first | exact Or.inl rfl | exact Or.inr rfl) (hf : X.fn x = true ∨ X.env.scope.names.lookup x = some .local := by first | exact .inl rfl | exact .inr rfl | assumption) : GV [i] T X (.Name x pos) (gvN i) :=
  ⟨_, pg_name hN hi hx hf, fun W H env st σ v d env' Q r q e k => by
    cases e
    exact k _ (r.set i q) Off.set⟩
theorem gsv_nil : GsV [] T X [] gvNil := ⟨_, pgs_nil, fun W H env st σ vs ds env' Q r q e k => by
  cases ds with
  | nil =>
    cases e
    unfold Reps at q
    exact ⟨q, k _ r Off.refl⟩
  | cons d ds => cases e⟩
theorem gsv_cons {es : List Expr} {g : D → Env → Option Env} {gs : List D → Env → Option Env} {is js : List Nat} (h1 : GV is T X e g) (h2 : GsV js T X es gs) (hs : (assignEach (e :: es) X.env).map (·.2) = assign e X.env :: (assignEach es X.env).map (·.2) := by rfl) : GsV (is ++ js) T X (e :: es) (gvCons g gs) := by
  obtain ⟨t1, p1, r1⟩ := h1.ex
  obtain ⟨t2, p2, r2⟩ := h2.ex
  refine ⟨_, pgs_cons p1 p2 hs, fun W H env st σ vs ds env' Q r q ee k => ?_⟩
  cases ds with
  | nil => cases ee
  | cons d ds =>
    unfold Reps at q
    obtain ⟨v, rs, rfl, q1, q2⟩ := q
    have ee : (g d env).bind (gs ds) = some env' := ee
    cases eg : g d env with
    | none => rw [eg] at ee; cases ee
    | some env1 =>
      rw [eg] at ee
      exact ⟨v, rs, rfl, r1 W H env st σ v d env1 _ r q1 eg fun σ1 r' o1 => r2 W H env1 st σ1 rs ds env' Q r' q2 ee fun σ2 r'' o2 => k σ2 r'' (o1.trans o2)⟩
theorem gv_tup {es : List Expr} {j n : Nat} {gs : List D → Env → Option Env} {is : List Nat} (hc : X.calm = true) (h : GsV is T X es gs) (hl : ∀ ds env env', gs ds env = some env' → ds.length = n) (hn : (assignEach es X.env).length = n := by rfl) (hst : (assignEach es X.env).findIdx? (·.1) = none := by rfl) : GV is T X (.Tuple es j pos) (gvT gs) := by
  obtain ⟨t, p, r⟩ := h.ex
  refine ⟨_, pg_tup hc p hn hst, fun W H env st σ v d env' Q rl q e k => ?_⟩
  cases d with
  | tup ds =>
    obtain ⟨a, vs, rfl, ta, rs⟩ := rep_tup.mp q
    have e : gs ds env = some env' := e
    exact ⟨a, vs, rfl, ta.sq, by rw [← rs.length]; exact hl _ _ _ e, r W H env st σ vs ds env' Q rl rs e k⟩
  | _ => cases e
/-! ### plain statements -/
def sPass : Sm := fun env st => .nx env st
def sSeq (m n : Sm) : Sm := fun env st => match m env st with
  | .nx env' st' => n env' st'
  | o => o
def sDrop (m : M D) : Sm := fun env st => (m env st).out env fun _ st' => .nx env st'
def sRet (m : M D) : Sm := fun env st => (m env st).out env fun d st' => .rt d st'
def sIf (t : M Bool) (m n : Sm) : Sm := fun env st => (t env st).out env fun k st' => if k = true then m env st' else n env st'
def sSet (i : Nat) (m : M D) : Sm := fun env st => (m env st).out env fun d st' => .nx (env.set i (some d)) st'
def sOwn (i : Nat) (m : M (List D)) : Sm := fun env st => (m env st).out env fun ds st' => .nx (env.set i (some (.own ds))) st'
def sOwnD (i : Nat) (m : M (Dc)) : Sm := fun env st => (m env st).out env fun ds st' => .nx (env.set i (some (.ownd ds))) st'
def sTgt (g : D → Env → Option Env) (m : M D) : Sm := fun env st => (m env st).out env fun d st' => match g d env with
  | some env' => .nx env' st'
  | none => .bad
section
variable {s : Stmt} {ss ss' : List Stmt} {m n : Sm} {mt : M Bool}
theorem ssv_nil : SsV T X Wx [] sPass := ⟨_, pss_nil, fun W H env st σ D r h => h.nx r⟩
theorem ssv_one (h : SV T X Wx s m) : SsV T X Wx [s] m := by
  obtain ⟨t, p, r⟩ := h.ex
  exact ⟨t, pss_one p, r⟩
theorem ssv_cons (h1 : SV T X Wx s m) (h2 : SsV T X Wx ss n) : SsV T X Wx (s :: ss) (sSeq m n) := by
  obtain ⟨t1, p1, r1⟩ := h1.ex
  obtain ⟨t2, p2, r2⟩ := h2.ex
  refine ⟨_, pss_cons p1 p2, fun W H env st σ D r h => r1 W H env st σ _ r ?_⟩
  unfold sSeq at h
  cases em : m env st with
  | nx env' st' =>
    rw [em] at h
    exact fun W' H' σ' e r' => r2 W' H' env' st' σ' D r' (SPost.ext h e)
  | rt d st' => rw [em] at h; exact h
  | bk d st' => rw [em] at h; exact h
  | ct d st' => rw [em] at h; exact h
  | xc d env' st' => rw [em] at h; exact h
  | bad => rw [em] at h; exact h
theorem sv_pass : SV T X Wx (.Pass pos) sPass := ⟨_, ps_pass, fun W H env st σ D r h => h.nx r⟩
theorem sv_break : SV T X Wx (.Break pos) (fun env st => .bk env st) := ⟨_, ps_break, fun W H env st σ D r h => h W H σ ExtS.refl r⟩
theorem sv_continue : SV T X Wx (.Continue pos) (fun env st => .ct env st) := ⟨_, ps_continue, fun W H env st σ D r h => h W H σ ExtS.refl r⟩
theorem sv_doc {x : Str} {j : Nat} : SV T X Wx (.Expr (.Constant (.str x) j pos) pos') sPass := ⟨_, ps_doc, fun W H env st σ D r h => h.nx r⟩
theorem sv_expr (h : EV κ T X Wx e ma) (hs : swapsWith e none pos.line X.env = pure false := by rfl) : SV T X Wx (.Expr e pos) (sDrop ma) := by
  obtain ⟨t, p, r⟩ := h.ex
  exact ⟨_, ps_expr p hs, fun W H env st σ D rl h => r _ _ _ _ _ _ rl (SPost.of h fun d st' W' H' v e r' q h' => h'.nx r')⟩
theorem sv_ret (h : EV κ T X Wx e ma) : SV T X Wx (.Return (some e) pos) (sRet ma) := by
  obtain ⟨t, p, r⟩ := h.ex
  exact ⟨_, ps_ret p, fun W H env st σ D rl h => r _ _ _ _ _ _ rl (SPost.of h fun d st' W' H' v e r' q h' => h' W' H' v ExtS.refl r'.sto q)⟩
theorem sv_retN : SV T X Wx (.Return none pos) (fun _ st => .rt .non st) := ⟨_, ps_retN, fun W H env st σ D rl h => h W H .non ExtS.refl rl.sto (rep_non.mpr rfl)⟩
theorem sv_if (hc : TV κ T X Wx c mt) (ha : SsV T X Wx ss m) (hb : SsV T X Wx ss' n) : SV T X Wx (.If c ss ss' pos) (sIf mt m n) := by
  obtain ⟨t, p, r⟩ := hc.ex
  obtain ⟨ta, pa, ra⟩ := ha.ex
  obtain ⟨tb, pb, rb⟩ := hb.ex
  refine ⟨_, ps_if p pa pb, fun W H env st σ D rl h => r _ _ _ _ _ _ rl (SPost.of h fun k st' W' H' v e r' q h' => ?_)⟩
  subst q
  by_cases hk : v = true
  · rw [if_pos hk] at h' ⊢; exact ra _ _ _ _ _ _ r' h'
  · rw [if_neg hk] at h' ⊢; exact rb _ _ _ _ _ _ r' h'
/-- x = e -/
theorem sv_set (i : Nat) {x : Str} (hN : X.N.Nodup) (h : EV κ T X Wx e ma) (hi : X.N[i]? = some x := by rfl) (hx : Loc X.env.scope x := by first | exact Or.inl rfl | exact Or.inr rfl) (hs : swapsWith e (some (.Name x pos')) pos.line X.env = pure false := by rfl) (hf : X.fn x = true ∨ X.env.scope.names.lookup x = some .local := by first | exact .inl rfl | exact .inr rfl | assumption) :
    SV T X Wx (.Assign [.Name x pos'] e pos) (sSet i ma) := by
  obtain ⟨t, p, r⟩ := h.ex
  exact ⟨_, ps_set hN hi hx p hs hf, fun W H env st σ D rl h => r _ _ _ _ _ _ rl (SPost.of h fun d st' W' H' v e r' q h' => h'.nx (r'.set i q))⟩
/-- x = a new list, a new dict: x's own -/
theorem sv_own (i : Nat) {x : Str} {ml : M (List D)} (hN : X.N.Nodup) (h : NV κ T X Wx e ml) (hi : X.N[i]? = some x := by rfl) (hx : Loc X.env.scope x := by first | exact Or.inl rfl | exact Or.inr rfl) (hs : swapsWith e (some (.Name x pos')) pos.line X.env = pure false := by rfl) (hf : X.fn x = true ∨ X.env.scope.names.lookup x = some .local := by first | exact .inl rfl | exact .inr rfl | assumption) :
    SV T X Wx (.Assign [.Name x pos'] e pos) (sOwn i ml) := by
  obtain ⟨t, p, r⟩ := h.ex
  exact ⟨_, ps_set hN hi hx p hs hf, fun W H env st σ D rl h => r _ _ _ _ _ _ rl (SPost.ofN h fun d st' W' H' p e r' hp w q h' => SPost.nx (h'.ext (exts_retag w)) (r'.setOwn i w q))⟩
theorem sv_ownD (i : Nat) {x : Str} {ml : M (Dc)} (hN : X.N.Nodup) (h : NVd κ T X Wx e ml) (hi : X.N[i]? = some x := by rfl) (hx : Loc X.env.scope x := by first | exact Or.inl rfl | exact Or.inr rfl) (hs : swapsWith e (some (.Name x pos')) pos.line X.env = pure false := by rfl) (hf : X.fn x = true ∨ X.env.scope.names.lookup x = some .local := by first | exact .inl rfl | exact .inr rfl | assumption) :
    SV T X Wx (.Assign [.Name x pos'] e pos) (sOwnD i ml) := by
  obtain ⟨t, p, r⟩ := h.ex
  exact ⟨_, ps_set hN hi hx p hs hf, fun W H env st σ D rl h => r _ _ _ _ _ _ rl (SPost.ofN h fun d st' W' H' p e r' hp w q h' => SPost.nx (h'.ext (exts_retag w)) (r'.setOwnD i w q))⟩
/-- a, b = e -/
theorem sv_tgt {tg : Expr} {g : D → Env → Option Env} {is : List Nat} (h : EV κ T X Wx e ma) (hg : GV is T X tg g) (hs : swapsWithSole [tg] e pos.line X.env = pure false := by rfl) (hw : swappedStores [tg] e X.env = pure none := by rfl) (h1 : (assignEach [tg] X.env).map (·.2) = [assign tg X.env] := by rfl) :
    SV T X Wx (.Assign [tg] e pos) (sTgt g ma) := by
  obtain ⟨t, p, r⟩ := h.ex
  obtain ⟨tg', pg, rg⟩ := hg.ex
  refine ⟨_, ps_asg p pg hs hw h1, fun W H env st σ D rl h => r _ _ _ _ _ _ rl (SPost.of h fun d st' W' H' v e r' q h' => ?_)⟩
  cases eg : g d env with
  | none => rw [eg] at h'; exact h'.elim
  | some env' =>
    rw [eg] at h'
    exact rg W' H' env st' σ v d env' _ r' q eg fun σ' r2 _ => h'.nx r2
end
end
/-! ### a def -/
def hold (W : Wm) : Wm := fun a => match W a with
  | some t => if t.held then some .ext else some t
  | none => none
theorem hold_none {W : Wm} {a : Addr} : hold W a = none ↔ W a = none := by
  unfold hold
  cases W a with
  | none => simp
  | some t => cases t <;> simp [Tag.held]
theorem hold_obj {W : Wm} {a : Addr} {n : Nat} : hold W a = some (.obj n) ↔ W a = some (.obj n) := by
  unfold hold
  cases W a with
  | none => simp
  | some t => cases t <;> simp [Tag.held]
theorem hold_fld {W : Wm} {a : Addr} {n : Nat} {f : Str} : hold W a = some (.fld n f) ↔ W a = some (.fld n f) := by
  unfold hold
  cases W a with
  | none => simp
  | some t => cases t <;> simp [Tag.held]
theorem hold_held {W : Wm} {a : Addr} {t : Tag} (h : W a = some t) (k : t.held = true) : hold W a = some .ext := by
  unfold hold
  rw [h]
  simp [k]
theorem hold_ext {W : Wm} {a : Addr} (h : hold W a = some .ext) : ∃ t, W a = some t ∧ t.held = true := by
  unfold hold at h
  cases e : W a with
  | none => rw [e] at h; cases h
  | some t => rw [e] at h; cases t <;> simp [Tag.held] at h ⊢
theorem hold_slot {W : Wm} {a : Addr} {i : Nat} : hold W a ≠ some (.slot i) := by
  unfold hold
  cases W a with
  | none => simp
  | some t => cases t <;> simp [Tag.held]
theorem hold_mo {W : Wm} {H : Hp} : Mo W H (hold W) H := ⟨fun a u h r _ => ⟨hold_none.mpr h, r⟩, fun a n h => hold_obj.mpr h, fun a vs h r => ⟨hold_none.mpr h, r⟩⟩
theorem StoOk.hold {G : Gx} {W : Wm} {H : Hp} {st : Sto} (s : StoOk G W H st) : StoOk G (hold W) H st where
  obj := fun a n h => by
    obtain ⟨o, e, r⟩ := s.obj a n (hold_obj.mp h)
    exact ⟨o, e, r.mono hold_mo rfl fun b f q => ⟨hold_fld.mpr q, rfl⟩⟩
  uniq := fun a b n h1 h2 => s.uniq a b n (hold_obj.mp h1) (hold_obj.mp h2)
  used := fun a t h => by
    cases e : W a with
    | none => rw [hold_none.mpr e] at h; cases h
    | some u => exact s.used a u e
  tabs := s.tabs
/-- back from a def: what the caller holds, it holds again -/
def back (W W' : Wm) : Wm := fun a => match W a with
  | some t => if t.held then some t else (match W' a with
    | some u => if u.held then none else some u
    | none => none)
  | none => match W' a with
    | some u => if u.held then none else some u
    | none => none
section
variable {G : Gx} {W W' : Wm} {H H' : Hp} {st st' : Sto}
theorem back_held {a : Addr} {t : Tag} (h : W a = some t) (k : t.held = true) : back W W' a = some t := by
  unfold back; rw [h]; simp [k]
theorem back_else {a : Addr} (h : ∀ t, W a = some t → t.held = false) : back W W' a = (match W' a with
    | some u => if u.held then none else some u
    | none => none) := by
  unfold back
  cases e : W a with
  | none => rfl
  | some t => simp [h t e]
theorem not_held (e : ExtS (hold W) H W' H') {a : Addr} (h : W' a ≠ some .ext) : ∀ t, W a = some t → t.held = false := fun t q => by
  cases k : t.held with
  | false => rfl
  | true => exact absurd (e.ex a (hold_held q k)).1 h
theorem back_ext (e : ExtS (hold W) H W' H') : Ext false W H (back W W') H' where
  fr := fun a o h q n => by
    obtain ⟨x, y⟩ := e.fr a o (hold_none.mpr h) q n
    refine ⟨?_, y⟩
    rw [back_else (fun t z => by rw [h] at z; cases z), x]
  ob := fun a n h => by
    have x := e.ob a n (hold_obj.mpr h)
    rw [back_else (fun t z => by rw [h] at z; cases z; rfl), x]
    simp [Tag.held]
  hl := fun a t h k => by
    have k : t.held = true := by simpa using k
    exact ⟨back_held h k, (e.ex a (hold_held h k)).2⟩
  th := e.th
theorem back_mo (e : ExtS (hold W) H W' H') : Mo W' H' (back W W') H' where
  fr := fun a u h r _ => ⟨by rw [back_else (not_held e (by rw [h]; simp)), h], r⟩
  ob := fun a n h => by
    rw [back_else (not_held e (by rw [h]; simp)), h]
    simp [Tag.held]
  tu := fun a vs h r => ⟨by rw [back_else (not_held e (by rw [h]; simp)), h], r⟩
theorem StoOk.back (s0 : StoOk G W H st) (e : ExtS (Ev.hold W) H W' H') (s : StoOk G W' H' st') : StoOk G (Ev.back W W') H' st' where
  obj := fun a n h => by
    have q : W' a = some (.obj n) := by
      by_cases z : ∃ t, W a = some t ∧ t.held = true
      · obtain ⟨t, z1, z2⟩ := z
        rw [back_held z1 z2] at h
        cases h
        simp [Tag.held] at z2
      · rw [back_else (fun t y => by cases k : t.held with | false => rfl | true => exact absurd ⟨t, y, k⟩ z)] at h
        split at h
        · split at h
          · cases h
          · rename_i u eu _; rw [eu]; exact h
        · cases h
    obtain ⟨o, e1, r⟩ := s.obj a n q
    refine ⟨o, e1, r.mono (back_mo e) rfl fun b f qb => ⟨?_, rfl⟩⟩
    rw [back_else (not_held e (by rw [qb]; simp)), qb]
    simp [Tag.held]
  uniq := fun a b n h1 h2 => by
    have q : ∀ c, Ev.back W W' c = some (.obj n) → W' c = some (.obj n) := fun c h => by
      by_cases z : ∃ t, W c = some t ∧ t.held = true
      · obtain ⟨t, z1, z2⟩ := z
        rw [back_held z1 z2] at h
        cases h
        simp [Tag.held] at z2
      · rw [back_else (fun t y => by cases k : t.held with | false => rfl | true => exact absurd ⟨t, y, k⟩ z)] at h
        split at h
        · split at h
          · cases h
          · rename_i u eu _; rw [eu]; exact h
        · cases h
    exact s.uniq a b n (q a h1) (q b h2)
  used := fun a t h => by
    by_cases z : ∃ t, W a = some t ∧ t.held = true
    · obtain ⟨u, z1, z2⟩ := z
      obtain ⟨o, q, n⟩ := s0.used a u z1
      exact ⟨o, (e.ex a (hold_held z1 z2)).2.trans q, n⟩
    · rw [back_else (fun t y => by cases k : t.held with | false => rfl | true => exact absurd ⟨t, y, k⟩ z)] at h
      split at h
      · rename_i u eu; exact s.used a u eu
      · cases h
  tabs := s.tabs
end
/-- a def's mirror by its body's -/
def mFn (N : Nat) (m : Sm) : Fm := fun ds st => match m (ds.map some ++ List.replicate (N - ds.length) none) st with
  | .rt d st' => .ok d st'
  | .nx _ st' => .ok .non st'
  | .xc x _ st' => .exc x st'
  | _ => .bad
theorem env_start {K : PySem.W.Frag} {W : Wm} {H : Hp} {N : List Str} {ds : List D} {vs : List V} (h : Reps K W H ds vs) : EnvOk K W H (ds.map some ++ List.replicate (N.length - ds.length) none) (L2.start N vs) where
  len := by simp [L2.start, h.length]
  at_ := fun i d e => by
    by_cases hi : i < ds.length
    · rw [List.getElem?_append_left (by simpa using hi), List.getElem?_map] at e
      cases q : ds[i]? with
      | none => rw [q] at e; cases e
      | some d' =>
        rw [q] at e
        cases e
        obtain ⟨v, q1, q2⟩ := h.get q
        refine ⟨v, ?_, .of q2⟩
        unfold L2.start
        rw [List.getElem?_append_left (by rw [List.length_map, ← h.length]; exact hi), List.getElem?_map, q1]
        rfl
    · rw [List.getElem?_append_right (by simpa using hi)] at e
      have := List.mem_of_getElem? e
      rw [List.mem_replicate] at this
      cases this.2
section
variable {P : Program} {w : World} {K : PySem.W.Frag} {mg : Str → Option Value} {base : Heap}
theorem fn_ok {T : List (Addr × Str)} {x qual : Str} {st : Stmt} {f : Addr} {fd : FuncData} {N ps : List Str} {k : Nat} {m : Sm} (F : Fun K x qual st f fd) (S : FnScope N ps (defScope st))
    (hbody : ∀ (cdv : Value) (A : Around) (outer : List PySem.Env) (s : Shared) (H : Hp) (E : XK), Room k (A.deeper (envOfC qual (defScope st) s.heap.objs.size f cdv)) →
      SsV T (cxOf (L2.CX P w) P w K mg base N qual (defScope st) f cdv A outer s H E) (fun c d _ H' => E c d H') (defBody st) m) :
    FnOk P w K mg base (L2.CX P w) (k + 1) f fd ps (spOf ⟨K, mg, T⟩ ps.length (mFn N.length m)) := by
  refine F.okX S (fun vs H Q E h => ?_) (fun cdv A outer s H vs Q E hr h => ?_)
  · obtain ⟨_, _, _, hl, _⟩ := h
    exact hl
  · obtain ⟨W, st0, ds, hl, s0, hd, hp⟩ := h
    obtain ⟨t, p, r⟩ := (hbody cdv A outer s H E hr).ex
    refine ⟨t, p, r (hold W) H _ st0 _ _ ⟨s0.hold, env_start (Reps.mono hold_mo _ _ hd)⟩ ?_⟩
    unfold mFn at hp
    generalize m (ds.map some ++ List.replicate (N.length - ds.length) none) st0 = o at hp ⊢
    cases o with
    | nx env st1 => exact fun W' H' σ' e r' => hp (back W W') H' .non (back_ext e) (s0.back e r'.sto) (rep_non.mpr rfl)
    | rt d st1 => exact fun W' H' v e r' q => hp (back W W') H' v (back_ext e) (s0.back e r') (Rep.mono (back_mo e) _ _ q)
    | xc x env st1 => exact fun W' H' c d σ' e r' q => hp (back W W') H' c d (back_ext e) (s0.back e r'.sto) (by
        obtain ⟨C, h1, h2, h3⟩ := q
        refine ⟨C, h1, h2, ?_⟩
        rcases h3 with h3 | ⟨dd, f, e', v, h4, h5, h6, h7⟩
        · exact .inl h3
        · exact .inr ⟨dd, f, e', v, h4, h5, h6, Rep.mono (back_mo e) _ _ h7⟩)
    | bk env st1 => exact hp.elim
    | ct env st1 => exact hp.elim
    | bad => exact hp.elim
end
end Ev

set_option maxRecDepth 100000
set_option maxHeartbeats 4000000
/-! what is walked; for; comprehensions -/
namespace Ev
open PySem PySem.Spec PyProof.Rows L2
abbrev Kept := Wm → Hp → Wm → Hp → Prop
/-- the walked thing gives ds, one by one, as long as Kp -/
def Steps (K : PySem.W.Frag) (Kp : Kept) (ds : List D) (J : It) (W : Wm) (H : Hp) : Prop := ∀ W1 H1, Kp W H W1 H1 → (∀ i, i < ds.length → J.go i H1) ∧ J.stop ds.length H1 ∧
  ∀ i x H2, i < ds.length → J.yld i H1 x H2 → ∃ d, ds[i]? = some d ∧ ((H2 = H1 ∧ Rep K W1 H1 d x) ∨ ∃ p xs, H1 p = none ∧ H2 = upd H1 p (.tup xs) ∧ ((∀ a, H1 a = none → W1 a = none) → Rep K W1 H2 d x))
def PostI (κ : Bool) (Kp : Kept) (G : Gx) (Wx : WX) (W : Wm) (H : Hp) (env : Env) (σ : L2.St) (r : Res (List D)) (R : It → Hp → Prop) : Prop := match r with
  | .ok ds st => ∀ W' H' J, Ext κ W H W' H' → Rel G W' H' env st σ → Steps G.K Kp ds J W' H' → R J H'
  | .exc x st => ∀ W' H' c d, Ext false W H W' H' → Rel G W' H' env st σ → ExnRep G W' H' x c d → Wx c d σ H'
  | .bad => False
structure IV (κ : Bool) (Kp : Kept) (T : List (Addr × Str)) (X : Cx) (Wx : WX) (tg iter : Expr) (m : M (List D)) : Prop where
  ex : ∃ wi, PI X tg iter wi ∧ ∀ W H env st σ R, Rel (Gof X T) W H env st σ → PostI κ Kp (Gof X T) Wx W H env σ (m env st) R → wi σ H R
/-- a relation that stands as long as Kp -/
def StandsK {α : Type} (Kp : Kept) (R : Wm → Hp → α → V → Prop) : Prop := ∀ W H W' H' a v, Kp W H W' H' → R W H a v → R W' H' a v
section
variable {T : List (Addr × Str)} {X : Cx} {Wx : WX} {κ κ' κa κb : Bool} {Kp : Kept} {a b c e tg iter : Expr} {ma mb : M D} {pos p : Pos} {R1 R2 : Wm → Hp → D → V → Prop}
theorem StandsK.s : StandsK ExtS (RepR X) := fun _ _ _ _ _ _ e h => Rep.mono e.mo _ _ h
theorem StandsK.rep : StandsK (Ext κ) (RepR X) := fun _ _ _ _ _ _ e h => Rep.mono e.mo _ _ h
theorem StandsK.held : StandsK (Ext κ) (HeldR X) := fun W H W' H' a v e h => Stands.held W H W' H' a v e h
theorem StandsK.cur : StandsK (Ext true) (CurR X) := fun W H W' H' a v e h => Stands.cur W H W' H' a v e h
theorem pi_or {w1 w2 : TI} (h1 : PI X tg e w1) (h2 : PI X tg e w2) : PI X tg e (fun σ H R => w1 σ H R ∨ w2 σ H R) :=
  ⟨fun pins s σ H R I h => h.elim (h1.run pins s σ H R I) (h2.run pins s σ H R I)⟩
/-- the items of a list, a tuple, a text -/
def D.items : D → Option (List D)
  | .lst ds => some ds
  | .tup ds => some ds
  | .str x => some (x.cps.toList.map fun c => .str ⟨#[c]⟩)
  | _ => none
def mItems (m : M D) : M (List D) := mUn m fun d st => Res.of d.items st
theorem steps_list {K : PySem.W.Frag} {W : Wm} {H : Hp} {a : Addr} {ds : List D} {vs : List V} (h : ∀ W1 H1, Kp W H W1 H1 → SqL K H1 a vs ∧ Reps K W1 H1 ds vs) (hl : ds.length = vs.length) : Steps K Kp ds (Itl K a) W H := fun W1 H1 k => by
  obtain ⟨h1, h2⟩ := h W1 H1 k
  have w := walk_list (K := K) (a := a) (xs := vs)
  rw [hl]
  refine ⟨fun i hi => w.goes i H1 hi h1, w.stops H1 h1, fun i x H2 hi y => ?_⟩
  obtain ⟨e1, e2⟩ := w.yields i H1 x H2 hi h1 y
  obtain ⟨d, q1, q2⟩ := h2.getV e2
  exact ⟨d, q1, .inl ⟨e1, q2⟩⟩
theorem steps_tup {K : PySem.W.Frag} {W : Wm} {H : Hp} {a : Addr} {ds : List D} {vs : List V} (h : ∀ W1 H1, Kp W H W1 H1 → SqT K H1 a vs ∧ Reps K W1 H1 ds vs) (hl : ds.length = vs.length) : Steps K Kp ds (Itt K a) W H := fun W1 H1 k => by
  obtain ⟨h1, h2⟩ := h W1 H1 k
  have w := walk_tup (K := K) (a := a) (xs := vs)
  rw [hl]
  refine ⟨fun i hi => w.goes i H1 hi h1, w.stops H1 h1, fun i x H2 hi y => ?_⟩
  obtain ⟨e1, e2⟩ := w.yields i H1 x H2 hi h1 y
  obtain ⟨d, q1, q2⟩ := h2.getV e2
  exact ⟨d, q1, .inl ⟨e1, q2⟩⟩
theorem CRep.lst_ref {K : PySem.W.Frag} {W W' : Wm} {H H' : Hp} {ds : List D} {a : Addr} (h : CRep K W H (.lst ds) (.ref a)) : ∃ vs, SqL K H a vs ∧ Reps K W H ds vs := by
  obtain ⟨b, vs, e, l, r⟩ := CRep.lst h
  cases e
  exact ⟨vs, l, r⟩
/-- two ways to read a list are one -/
def SameL (K : PySem.W.Frag) : Prop := True
theorem steps_items {K : PySem.W.Frag} {W : Wm} {H : Hp} {a : Addr} {ds : List D} (h : ∀ W1 H1, Kp W H W1 H1 → CRep K W1 H1 (.lst ds) (.ref a)) : Steps K Kp ds (Itl K a) W H := fun W1 H1 k => by
  obtain ⟨vs, h1, h2⟩ := CRep.lst_ref (W' := W1) (H' := H1) (h W1 H1 k)
  have w := walk_list (K := K) (a := a) (xs := vs)
  rw [h2.length]
  refine ⟨fun i hi => w.goes i H1 hi h1, w.stops H1 h1, fun i x H2 hi y => ?_⟩
  obtain ⟨e1, e2⟩ := w.yields i H1 x H2 hi h1 y
  obtain ⟨d, q1, q2⟩ := h2.getV e2
  exact ⟨d, q1, .inl ⟨e1, q2⟩⟩
theorem steps_itemsT {K : PySem.W.Frag} {W : Wm} {H : Hp} {a : Addr} {ds : List D} (h : ∀ W1 H1, Kp W H W1 H1 → CRep K W1 H1 (.tup ds) (.ref a)) : Steps K Kp ds (Itt K a) W H := fun W1 H1 k => by
  obtain ⟨b, vs, e, h1, h2⟩ := CRep.tup (h W1 H1 k)
  cases e
  have w := walk_tup (K := K) (a := a) (xs := vs)
  rw [h2.length]
  refine ⟨fun i hi => w.goes i H1 hi h1, w.stops H1 h1, fun i x H2 hi y => ?_⟩
  obtain ⟨e1, e2⟩ := w.yields i H1 x H2 hi h1 y
  obtain ⟨d, q1, q2⟩ := h2.getV e2
  exact ⟨d, q1, .inl ⟨e1, q2⟩⟩
theorem steps_str {K : PySem.W.Frag} {W : Wm} {H : Hp} {z : Str} : Steps K Kp (z.cps.toList.map fun c => .str ⟨#[c]⟩) (Its z) W H := fun W1 H1 _ => by
  have w := walk_str (z := z)
  have hl : (z.cps.toList.map fun c => D.str ⟨#[c]⟩).length = z.cps.size := by simp
  rw [hl]
  refine ⟨fun i hi => w.goes i H1 hi trivial, w.stops H1 trivial, fun i x H2 hi y => ?_⟩
  obtain ⟨e1, c, e2, e3⟩ := w.yields i H1 x H2 hi trivial y
  refine ⟨.str ⟨#[c]⟩, ?_, .inl ⟨e1, rep_str.mpr e3⟩⟩
  rw [List.getElem?_map, Array.getElem?_toList, e2]
  rfl
theorem iv_seq (ha : EVg κ R1 T X Wx e ma) (S : StandsK Kp R1 := by first | exact StandsK.s | exact StandsK.rep | exact StandsK.held | exact StandsK.cur) (c1 : ToCur X R1 := by first | exact ToCur.rep | exact ToCur.held | exact ToCur.cur) : IV κ Kp T X Wx tg e (mItems ma) := by
  obtain ⟨t, pt, rt⟩ := ha.ex
  refine ⟨_, pi_or (pi_list pt) (pi_or (pi_tup pt) (pi_str pt)), fun W H env st σ R rl h => ?_⟩
  unfold mItems mUn at h
  cases em : ma env st with
  | exc x st' =>
    rw [em] at h
    exact .inl (rt _ _ _ _ _ _ rl (by rw [em]; exact h))
  | bad => rw [em] at h; exact h.elim
  | ok d st' =>
    rw [em] at h
    cases d with
    | lst ds =>
      refine .inl (rt _ _ _ _ _ _ rl ?_)
      rw [em]
      intro W' H' v ex r' q
      have q' := c1 _ _ _ _ q
      obtain ⟨a, vs, ev, l, rs⟩ := CRep.lst q'
      subst ev
      exact ⟨a, rfl, ⟨vs, l⟩, h W' H' _ ex r' (steps_items fun W1 H1 k => c1 _ _ _ _ (S _ _ _ _ _ _ k q))⟩
    | tup ds =>
      refine .inr (.inl (rt _ _ _ _ _ _ rl ?_))
      rw [em]
      intro W' H' v ex r' q
      have q' := c1 _ _ _ _ q
      obtain ⟨a, vs, ev, l, rs⟩ := CRep.tup q'
      subst ev
      exact ⟨a, rfl, ⟨vs, l⟩, h W' H' _ ex r' (steps_itemsT fun W1 H1 k => c1 _ _ _ _ (S _ _ _ _ _ _ k q))⟩
    | str x =>
      refine .inr (.inr (rt _ _ _ _ _ _ rl ?_))
      rw [em]
      intro W' H' v ex r' q
      exact ⟨x, CRep.str (c1 _ _ _ _ q), h W' H' _ ex r' steps_str⟩
    | _ => exact h.elim
/-- range(a), range(a, b) -/
def rangeL (lo : Int) (n : Nat) : List D := (List.range n).map fun i : Nat => .int (lo + i)
def dRange1 (ds : List D) : Option (List D) := match ds with
  | [.int j] => if j ≤ 1000000 ∧ -1000000 ≤ j then some (rangeL 0 j.toNat) else none
  | _ => none
def dRange2 (ds : List D) : Option (List D) := match ds with
  | [.int i, .int j] => if j ≤ 1000000 ∧ -1000000 ≤ i ∧ i ≤ 1000000 ∧ -1000000 ≤ j then some (rangeL i (j - i).toNat) else none
  | _ => none
theorem steps_range {K : PySem.W.Frag} {W : Wm} {H : Hp} {lo : Int} {n : Nat} : Steps K Kp (rangeL lo n) (Itr lo n) W H := fun W1 H1 _ => by
  have w := walk_range (lo := lo) (n := n)
  have hl : (rangeL lo n).length = n := by simp [rangeL]
  rw [hl]
  refine ⟨fun i hi => w.goes i H1 hi trivial, w.stops H1 trivial, fun i x H2 hi y => ?_⟩
  obtain ⟨e1, e2⟩ := w.yields i H1 x H2 hi trivial y
  exact ⟨.int (lo + i), by simp [rangeL, hi], .inl ⟨e1, rep_int.mpr e2⟩⟩
theorem Reps.one_int {K : PySem.W.Frag} {W : Wm} {H : Hp} {i : Int} {vs : List V} (h : Reps K W H [.int i] vs) : vs = [.int i] := by
  obtain ⟨v, e, q⟩ := h.one_inv
  rw [e, rep_int.mp q]
theorem Reps.two_int {K : PySem.W.Frag} {W : Wm} {H : Hp} {i j : Int} {vs : List V} (h : Reps K W H [.int i, .int j] vs) : vs = [.int i, .int j] := by
  unfold Reps at h
  obtain ⟨v, r, e, q, h⟩ := h
  rw [e, rep_int.mp q, h.one_int]
theorem iv_range1 {ml : M (List D)} (ha : AV κ T X Wx [a] ml) (hg : Gl X "range") (hm : X.mg "range" = none) (hs : starEach [a] X.env = [(false, eval a X.env)] := by rfl) : IV κ Kp T X Wx tg (.Call (.Name "range" p) [a] [] pos) (mUn ml fun ds st => Res.of (dRange1 ds) st) := by
  obtain ⟨t, pt, rt⟩ := ha.ex
  refine ⟨_, pi_range1 hg hm pt hs, fun W H env st σ R rl h => rt _ _ _ _ _ _ rl ?_⟩
  unfold mUn at h
  cases em : ml env st with
  | exc x st' => rw [em] at h; exact h
  | bad => rw [em] at h; exact h.elim
  | ok ds st' =>
    rw [em] at h
    intro W' H' vs ex r' q
    replace h : PostI κ Kp (Gof X T) Wx W H env σ (Res.of (dRange1 ds) st') R := h
    unfold dRange1 at h
    split at h
    · split at h
      · rename_i j hj
        exact ⟨j, q.one_int, by omega, by omega, h W' H' _ ex r' steps_range⟩
      · exact h.elim
    · exact h.elim
theorem iv_range2 {ml : M (List D)} (ha : AV κ T X Wx [a, b] ml) (hg : Gl X "range") (hm : X.mg "range" = none) (hs : starEach [a, b] X.env = [(false, eval a X.env), (false, eval b X.env)] := by rfl) (hs2 : starEach [b] X.env = [(false, eval b X.env)] := by rfl) :
    IV κ Kp T X Wx tg (.Call (.Name "range" p) [a, b] [] pos) (mUn ml fun ds st => Res.of (dRange2 ds) st) := by
  obtain ⟨t, pt, rt⟩ := ha.ex
  refine ⟨_, pi_range2 hg hm pt hs hs2, fun W H env st σ R rl h => rt _ _ _ _ _ _ rl ?_⟩
  unfold mUn at h
  cases em : ml env st with
  | exc x st' => rw [em] at h; exact h
  | bad => rw [em] at h; exact h.elim
  | ok ds st' =>
    rw [em] at h
    intro W' H' vs ex r' q
    replace h : PostI κ Kp (Gof X T) Wx W H env σ (Res.of (dRange2 ds) st') R := h
    unfold dRange2 at h
    split at h
    · split at h
      · rename_i i j hj
        exact ⟨i, j, q.two_int, by omega, h W' H' _ ex r' steps_range⟩
      · exact h.elim
    · exact h.elim
/-! ### for -/
def loopM (g : D → Env → Option Env) (body : Sm) : List D → Sm
  | [], env, st => .nx env st
  | d :: ds, env, st => match g d env with
    | none => .bad
    | some env1 => match body env1 st with
      | .nx env2 st2 => loopM g body ds env2 st2
      | .ct env2 st2 => loopM g body ds env2 st2
      | .bk env2 st2 => .nx env2 st2
      | o => o
def sFor (it : M (List D)) (g : D → Env → Option Env) (body : Sm) : Sm := fun env st => (it env st).out env fun ds st' => loopM g body ds env st'
theorem rel_yield {G : Gx} {W : Wm} {H H2 : Hp} {env : Env} {st : Sto} {σ : L2.St} {d : D} {x : V} (r : Rel G W H env st σ) (h : (H2 = H ∧ Rep G.K W H d x) ∨ ∃ p xs, H p = none ∧ H2 = upd H p (.tup xs) ∧ ((∀ a, H a = none → W a = none) → Rep G.K W H2 d x)) :
    Rel G W H2 env st σ ∧ Rep G.K W H2 d x ∧ Ext true W H W H2 := by
  rcases h with ⟨rfl, h⟩ | ⟨p, xs, h1, rfl, h2⟩
  · exact ⟨r, h, Ext.refl⟩
  · exact ⟨r.laid h1, h2 fun a q => r.sto.nobody q, Ext.laid r.sto h1⟩
theorem for_readP {is : List Nat} {it : M (List D)} {wi : TI} {tg' : TG} {tb : TS} {g : D → Env → Option Env} {m : Sm} (P : Wm → Hp → Env → Sto → L2.St → Prop)
    (rw' : ∀ W H env st σ R, P W H env st σ → Rel (Gof X T) W H env st σ → PostI κ ExtS (Gof X T) Wx W H env σ (it env st) R → wi σ H R)
    (rg : ∀ W H env st σ v d env' Q, Rel (Gof X T) W H env st σ → Rep X.K W H d v → g d env = some env' → (∀ σ', Rel (Gof X T) W H env' st σ' → Off is σ σ' → Q σ' H) → tg' v σ H Q)
    (rb : ∀ W H env st σ D, Rel (Gof X T) W H env st σ → SPost (Gof X T) Wx W H (m env st) D → tb D σ H) :
    ∀ W H env st σ D, P W H env st σ → Rel (Gof X T) W H env st σ → SPost (Gof X T) Wx W H (sFor it g m env st) D → tFor wi tg' tb D σ H := fun W0 H0 env0 st0 σ0 D p0 rl0 h0 => by
  refine rw' _ _ _ _ _ _ p0 rl0 ?_
  unfold sFor at h0
  cases em : it env0 st0 with
  | exc x st' => rw [em] at h0; exact fun W' H' c d e r q => h0 W' H' c d σ0 e.s r q
  | bad => rw [em] at h0; exact h0.elim
  | ok ds st1 =>
    rw [em] at h0
    intro W1 H1 J e1 r1 sp
    have h1 : SPost (Gof X T) Wx W1 H1 (loopM g m ds env0 st1) D := SPost.ext h0 e1.s
    refine ⟨fun i k σ H => k = ds.length - i ∧ i ≤ ds.length ∧ ∃ W env st, ExtS W1 H1 W H ∧ Rel (Gof X T) W H env st σ ∧ SPost (Gof X T) Wx W H (loopM g m (ds.drop i) env st) D, ⟨ds.length, rfl, Nat.zero_le _, W1, env0, st1, ExtS.refl, r1, h1⟩, ?_⟩
    rintro i k σ H ⟨rfl, hi, W, env, st, e, r, h⟩
    obtain ⟨go, stop, yld⟩ := sp W H e
    by_cases hlt : i < ds.length
    · refine .inr ⟨go i hlt, fun σ' H' => ∃ W' env' st', ExtS W1 H1 W' H' ∧ Rel (Gof X T) W' H' env' st' σ' ∧ SPost (Gof X T) Wx W' H' (loopM g m (ds.drop (i + 1)) env' st') D,
        fun σ' H' ⟨W', env', st', a1, a2, a3⟩ => ⟨ds.length - (i + 1), by omega, rfl, hlt, W', env', st', a1, a2, a3⟩, fun x H2 y => ?_⟩
      obtain ⟨d, ed, q⟩ := yld i x H2 hlt y
      obtain ⟨r2, q2, e2⟩ := rel_yield r q
      have hd : ds.drop i = d :: ds.drop (i + 1) := by
        rw [List.drop_eq_getElem_cons hlt]
        congr 1
        rw [List.getElem?_eq_getElem hlt] at ed
        exact Option.some.inj ed
      rw [hd] at h
      unfold loopM at h
      cases eg : g d env with
      | none => simp only [eg] at h; exact h.elim
      | some env1 =>
        simp only [eg] at h
        refine rg W H2 env st σ x d env1 _ r2 q2 eg fun σ1 r3 _ => rb W H2 env1 st σ1 _ r3 ?_
        have e12 : ExtS W1 H1 W H2 := e.trans e2.s
        cases eb : m env1 st with
        | nx env2 st2 => simp only [eb] at h; exact fun W' H' σ' e' r' => ⟨W', env2, st2, e12.trans e', r', SPost.ext (SPost.ext h e2.s) e'⟩
        | ct env2 st2 => simp only [eb] at h; exact fun W' H' σ' e' r' => ⟨W', env2, st2, e12.trans e', r', SPost.ext (SPost.ext h e2.s) e'⟩
        | bk env2 st2 => simp only [eb] at h; exact fun W' H' σ' e' r' => h W' H' σ' (e2.s.trans e') r'
        | rt d2 st2 => simp only [eb] at h; exact SPost.ext h e2.s
        | xc x env2 st2 => simp only [eb] at h; exact SPost.ext h e2.s
        | bad => simp only [eb] at h; exact h.elim
    · have : i = ds.length := by omega
      subst this
      refine .inl ⟨stop, ?_⟩
      rw [List.drop_length] at h
      exact SPost.nx h r
theorem sv_for {is : List Nat} {iter : Expr} {body : List Stmt} {it : M (List D)} {g : D → Env → Option Env} {m : Sm} (hp : PassesOwn (model X.prog X.w) X.A X.env X.xe) (hc : X.calm = true) (hi : IV κ ExtS T X Wx tg iter it) (hg : GV is T X tg g) (hb : SsV T X Wx body m) (hs : ∀ x, foldedSetIterable iter X.env x = pure x := by intro _; rfl) : SV T X Wx (.For tg iter body [] pos) (sFor it g m) := by
  obtain ⟨wi, pw, rw'⟩ := hi.ex
  obtain ⟨tg', pg, rg⟩ := hg.ex
  obtain ⟨tb, pb, rb⟩ := hb.ex
  exact ⟨_, ps_for hp hc pw pg pb hs, fun W H env st σ D rl h => for_readP (fun _ _ _ _ _ => True) (fun W H env st σ R _ => rw' W H env st σ R) rg rb W H env st σ D trivial rl h⟩
/-! ### comprehensions -/
def wipeE (env : Env) : List Nat → Env
  | [] => env
  | v :: vs => (wipeE env vs).set v none
def compM (g : D → Env → Option Env) (t : M Bool) (el : M D) : List D → List D → M (List D)
  | [], acc, _, st => .ok acc st
  | d :: ds, acc, env, st => match g d env with
    | none => .bad
    | some env1 => match t env1 st with
      | .ok true st1 => match el env1 st1 with
        | .ok y st2 => compM g t el ds (acc ++ [y]) env st2
        | _ => .bad
      | .ok false st1 => compM g t el ds acc env st1
      | _ => .bad
def mComp (it : M (List D)) (vs : List Nat) (g : D → Env → Option Env) (t : M Bool) (el : M D) : M (List D) := fun env st => (it env st).bind fun ds st' => if ds.length ≤ 1000000 then compM g t el ds [] (wipeE env vs) st' else .bad
def mYes : M Bool := fun _ st => .ok true st
structure TsV (κ : Bool) (T : List (Addr × Str)) (X : Cx) (Wx : WX) (es : List Expr) (m : M Bool) : Prop where
  ex : ∃ t, PTs X es t ∧ ∀ W H env st σ Q, Rel (Gof X T) W H env st σ → Post κ BoolR (Gof X T) Wx W H env σ (m env st) Q → t σ H Q
theorem tsv_nil : TsV true T X Wx [] mYes := ⟨_, pts_nil, fun W H env st σ Q r h => h.ok r rfl⟩
theorem tsv_one {mt : M Bool} (h : TV κ T X Wx c mt) : TsV κ T X Wx [c] mt := by
  obtain ⟨t, p, r⟩ := h.ex
  exact ⟨_, pts_one p, r⟩
theorem wipe_get {σ : L2.St} {j : Nat} : ∀ {vs : List Nat}, (wipe σ vs)[j]? = if j ∈ vs ∧ j < σ.length then some none else σ[j]?
  | [] => by simp [wipe]
  | v :: vs => by
    unfold wipe
    by_cases h : v = j
    · subst h
      by_cases hl : v < σ.length
      · rw [List.getElem?_set_self (by rw [wipe_length]; exact hl), if_pos ⟨by simp, hl⟩]
      · rw [List.getElem?_eq_none_iff.mpr (by rw [List.length_set, wipe_length]; omega), if_neg (fun z => hl z.2)]
        exact (List.getElem?_eq_none_iff.mpr (by omega)).symm
    · rw [List.getElem?_set_ne h, wipe_get]
      simp [Ne.symm h]
theorem off_wipe {σ σ' : L2.St} {is vs : List Nat} (o : Off is σ σ') (h : ∀ i ∈ is, i ∈ vs) : wipe σ' vs = wipe σ vs := by
  apply List.ext_getElem?
  intro j
  rw [wipe_get, wipe_get, o.1]
  by_cases hj : j ∈ vs ∧ j < σ.length
  · rw [if_pos hj, if_pos hj]
  · rw [if_neg hj, if_neg hj]
    by_cases hv : j ∈ vs
    · have : ¬ j < σ.length := fun z => hj ⟨hv, z⟩
      rw [List.getElem?_eq_none_iff.mpr (by rw [o.1]; omega), List.getElem?_eq_none_iff.mpr (by omega)]
    · exact o.2 j fun z => hv (h j z)
theorem wipe_wipe {σ : L2.St} {vs : List Nat} : wipe (wipe σ vs) vs = wipe σ vs := by
  apply List.ext_getElem?
  intro j
  rw [wipe_get, wipe_get, wipe_length]
  by_cases hj : j ∈ vs ∧ j < σ.length
  · rw [if_pos hj, if_pos hj]
  · rw [if_neg hj, if_neg hj]
theorem wipeE_length (env : Env) : ∀ vs : List Nat, (wipeE env vs).length = env.length
  | [] => rfl
  | v :: vs => by unfold wipeE; rw [List.length_set, wipeE_length env vs]
theorem wipeE_ok {K : PySem.W.Frag} {W : Wm} {H : Hp} {env : Env} {σ : L2.St} (h : EnvOk K W H env σ) : ∀ vs : List Nat, EnvOk K W H (wipeE env vs) (wipe σ vs)
  | [] => h
  | v :: vs => by
    have ih := wipeE_ok h vs
    refine ⟨by rw [wipeE_length, wipe_length]; exact h.len, fun i d e => ?_⟩
    unfold wipeE at e
    unfold wipe
    by_cases hi : v = i
    · subst hi
      by_cases hl : v < (wipeE env vs).length
      · rw [List.getElem?_set_self hl] at e; cases e
      · rw [List.getElem?_eq_none_iff.mpr (by rw [List.length_set]; omega)] at e; cases e
    · rw [List.getElem?_set_ne hi] at e ⊢
      exact ih.at_ i d e
theorem Rel.wipe {G : Gx} {W : Wm} {H : Hp} {env : Env} {st : Sto} {σ : L2.St} (r : Rel G W H env st σ) (vs : List Nat) : Rel G W H (wipeE env vs) st (L2.wipe σ vs) := ⟨r.sto, wipeE_ok r.env vs⟩
/-- what a thing may be that is written: no table, no code object -/
def Plain (o : HO) : Prop := (∀ ps, o ≠ .tbl ps) ∧ ∀ φ, o ≠ .ext φ
theorem plain_lst {xs : List V} : Plain (.lst xs) := ⟨fun _ z => (by cases z), fun _ z => (by cases z)⟩
theorem plain_dK {xs : List (Key × V)} : Plain (.dK xs) := ⟨fun _ z => (by cases z), fun _ z => (by cases z)⟩
theorem plain_dT {xs : List (List Key × V)} : Plain (.dT xs) := ⟨fun _ z => (by cases z), fun _ z => (by cases z)⟩
theorem plain_ins {C dx : Addr} {fs : List (Str × V)} : Plain (.ins C dx fs) := ⟨fun _ z => (by cases z), fun _ z => (by cases z)⟩
theorem tabs_upd {T : List (Addr × Str)} {H : Hp} {p : Addr} {o o' : HO} (h : LamX.Tabs T H) (hp : H p = some o') (n : Plain o') : LamX.Tabs T (upd H p o) := fun q hq => by
  obtain ⟨ps, a1, a2, a3⟩ := h q hq
  have z : q.1 ≠ p := fun z => by rw [z, hp] at a1; exact n.1 ps (Option.some.inj a1)
  refine ⟨ps, by rw [upd_ne z]; exact a1, a2, fun pos cv hc => ?_⟩
  obtain ⟨c, c1, c2⟩ := a3 pos cv hc
  have z : c ≠ p := fun z => by rw [z, hp] at c2; exact n.2 _ (Option.some.inj c2)
  exact ⟨c, c1, by rw [upd_ne z]; exact c2⟩
/-- what is held for the time being is written -/
theorem mo_tmp {W : Wm} {H : Hp} {p : Addr} {o : HO} {t : Tag} (h : W p = some t) : Mo W H W (upd H p o) where
  fr := fun a u q r _ => ⟨q, by
    have z : a ≠ p := fun z => by subst z; rw [h] at q; cases q
    rcases r with r | ⟨ob, r⟩
    · exact .inl (by rw [upd_ne z]; exact r)
    · exact .inr ⟨ob, by rw [upd_ne z]; exact r⟩⟩
  ob := fun _ _ q => q
  tu := fun a vs q r => ⟨q, by rw [upd_ne fun z => by subst z; rw [h] at q; cases q]; exact r⟩
theorem Rel.tmpUpd {G : Gx} {W : Wm} {H : Hp} {env : Env} {st : Sto} {σ : L2.St} {p : Addr} {o o' : HO} (r : Rel G W H env st σ) (h : W p = some .tmp) (ho : ∀ ps, o ≠ .tbl ps) (hp : H p = some o') (n : Plain o') : Rel G W (upd H p o) env st σ := by
  have mo : Mo W H W (upd H p o) := mo_tmp h
  have ne : ∀ a t, W a = some t → t ≠ .tmp → a ≠ p := fun a t q n z => by subst z; rw [h] at q; exact n (Option.some.inj q).symm
  refine ⟨⟨fun a n q => ?_, r.sto.uniq, fun a t q => ?_, tabs_upd r.sto.tabs hp n⟩, r.env.mono mo fun a i q => ⟨q, upd_ne (ne a _ q (fun z => by cases z))⟩⟩
  · obtain ⟨ob, e, ro⟩ := r.sto.obj a n q
    exact ⟨ob, e, ro.mono mo (upd_ne (ne a _ q (fun z => by cases z))) fun b f qb => ⟨qb, upd_ne (ne b _ qb (fun z => by cases z))⟩⟩
  · by_cases z : a = p
    · subst z; rw [upd_same]; exact ⟨o, rfl, ho⟩
    · rw [upd_ne z]; exact r.sto.used a t q
theorem ext_tmpUpd {W W' : Wm} {H H' : Hp} {p : Addr} {o : HO} (e : Ext κ W H W' H') (s : ∀ a t, W a = some t → a ≠ p) (hp : H p = none) : Ext κ W H W' (upd H' p o) where
  fr := fun a u h q n => by
    obtain ⟨x, y⟩ := e.fr a u h q n
    exact ⟨x, by rw [upd_ne (ne_of_none q hp)]; exact y⟩
  ob := e.ob
  hl := fun a t h k => by
    obtain ⟨x, y⟩ := e.hl a t h k
    exact ⟨x, by rw [upd_ne (s a t h)]; exact y⟩
  th := fun a u h n => by
    obtain ⟨o1, h1, n1⟩ := e.th a u h n
    exact ⟨o1, by rw [upd_ne (ne_of_none h hp)]; exact h1, n1⟩
theorem comp_readP {is vs : List Nat} {Xb : Cx → Prop} {it : M (List D)} {wi : TI} {g0 : TG} {tt : TT} {te : TE} {g : D → Env → Option Env} {mt : M Bool} {el : M D} {κt κe : Bool}
    (P : Wm → Hp → Env → Sto → L2.St → Prop) (hsub : ∀ i ∈ is, i ∈ vs)
    (ri : ∀ W H env st σ R, P W H env st σ → Rel (Gof X T) W H env st σ → PostI κ (Ext (κt && κe)) (Gof X T) Wx W H env σ (it env st) R → wi σ H R)
    (rg : ∀ W H env st σ v d env' Q, Rel (Gof X T) W H env st σ → Rep X.K W H d v → g d env = some env' → (∀ σ', Rel (Gof X T) W H env' st σ' → Off is σ σ' → Q σ' H) → g0 v σ H Q)
    (rt : ∀ W H env st σ Q, Rel (Gof X T) W H env st σ → Post κt BoolR (Gof X T) (fun _ _ _ _ => False) W H env σ (mt env st) Q → tt σ H Q)
    (re : ∀ W H env st σ Q, Rel (Gof X T) W H env st σ → Post κe (RepR X) (Gof X T) (fun _ _ _ _ => False) W H env σ (el env st) Q → te σ H Q) :
    ∀ W H env st σ Q, P W H env st σ → Rel (Gof X T) W H env st σ → PostN ((κ && κt) && κe) (CL X.K) (Gof X T) Wx W H env σ (mComp it vs g mt el env st) Q → tLc wi g0 tt te vs σ H Q := fun W0 H0 env0 st0 σ Q p0 rl0 h0 => by
  refine ri _ _ _ _ _ _ p0 rl0 ?_
  unfold mComp at h0
  cases em : it env0 st0 with
  | exc x st' => rw [em] at h0; exact h0
  | bad => rw [em] at h0; exact h0.elim
  | ok ds st1 =>
    rw [em] at h0
    have h0 : PostN ((κ && κt) && κe) (CL X.K) (Gof X T) Wx W0 H0 env0 σ (if ds.length ≤ 1000000 then compM g mt el ds [] (wipeE env0 vs) st1 else .bad) Q := h0
    split at h0
    · rename_i hz
      intro W1 H1 J e1 r1 sp D hD
      have ha : ∀ a t, W1 a = some t → a ≠ D := fun a t q => r1.sto.ne hD q
      have hD0 : Fr H0 D := e1.fr_ (.of hD)
      have hq : PostN ((κ && κt) && κe) (CL X.K) (Gof X T) Wx W1 H1 env0 σ (compM g mt el ds [] (wipeE env0 vs) st1) Q := h0.ext (e1.weak and3)
      refine ⟨fun i k H => k = ds.length - i ∧ i ≤ ds.length ∧ ∃ W st acc av, Ext (κt && κe) W1 H1 W H ∧ Rel (Gof X T) W H env0 st σ ∧ W D = some .tmp ∧ H D = some (.lst av) ∧ Reps X.K W H acc av ∧ acc.length ≤ i ∧
          PostN ((κ && κt) && κe) (CL X.K) (Gof X T) Wx W1 H1 env0 σ (compM g mt el (ds.drop i) acc (wipeE env0 vs) st) Q, ⟨ds.length, rfl, Nat.zero_le _, tagW W1 D (some .tmp), st1, [], [], ?_, ?_, tagW_same, upd_same, Reps.nil, Nat.le_refl _, hq⟩, ?_⟩
      · exact ext_laidT r1.sto hD
      · exact r1.laidT hD (fun n z => by cases z) (fun _ z => by cases z)
      · rintro i k H ⟨rfl, hi, W, st, acc, av, e, r, wD, hDl, hr, hacc, h⟩
        obtain ⟨go, stop, yld⟩ := sp W H e
        by_cases hlt : i < ds.length
        · refine .inr ⟨go i hlt, fun H' => ∃ W' st' acc' av', Ext (κt && κe) W1 H1 W' H' ∧ Rel (Gof X T) W' H' env0 st' σ ∧ W' D = some .tmp ∧ H' D = some (.lst av') ∧ Reps X.K W' H' acc' av' ∧ acc'.length ≤ i + 1 ∧
              PostN ((κ && κt) && κe) (CL X.K) (Gof X T) Wx W1 H1 env0 σ (compM g mt el (ds.drop (i + 1)) acc' (wipeE env0 vs) st') Q,
            fun H' ⟨W', st', acc', av', a1, a2, a3, a4, a5, a6, a7⟩ => ⟨ds.length - (i + 1), by omega, rfl, hlt, W', st', acc', av', a1, a2, a3, a4, a5, a6, a7⟩, fun x H2 y => ?_⟩
          obtain ⟨d, ed, q⟩ := yld i x H2 hlt y
          obtain ⟨r2, q2, e2⟩ := rel_yield r q
          have hd : ds.drop i = d :: ds.drop (i + 1) := by
            rw [List.drop_eq_getElem_cons hlt]
            congr 1
            rw [List.getElem?_eq_getElem hlt] at ed
            exact Option.some.inj ed
          rw [hd] at h
          unfold compM at h
          cases eg : g d (wipeE env0 vs) with
          | none => simp only [eg] at h; exact h.elim
          | some env1 =>
            simp only [eg] at h
            refine rg W H2 _ st _ x d env1 _ (r2.wipe vs) q2 eg fun σ1 r3 o => ⟨(off_wipe o hsub).trans wipe_wipe, rt W H2 env1 st σ1 _ r3 ?_⟩
            cases et : mt env1 st with
            | exc x st' => simp only [et] at h; exact h.elim
            | bad => simp only [et] at h; exact h.elim
            | ok b st2 =>
              intro W3 H3 b' e3 r4 eb
              have eb : b' = b := eb
              subst eb
              have e13 : Ext (κt && κe) W1 H1 W3 H3 := (e.trans (e2.weak fun _ => rfl)).trans e3.l
              have back3 : Rel (Gof X T) W3 H3 env0 st2 σ := r.ofSto ((e2.weak (κ' := κt) fun _ => rfl).trans e3) r4.sto
              have wD3 := e3.hl D _ wD (by simp [Tag.held])
              have hD2 : H2 D = some (.lst av) := by rw [← hDl]; exact (e2.hl D _ wD rfl).2
              cases b' with
              | false =>
                simp only [et] at h
                rw [if_neg Bool.false_ne_true]
                exact ⟨W3, st2, acc, av, e13, back3, wD3.1, wD3.2.trans hD2, Reps.mono e3.mo _ _ (Reps.mono e2.mo _ _ hr), Nat.le_succ_of_le hacc, h⟩
              | true =>
                simp only [et] at h
                rw [if_pos rfl]
                refine re W3 H3 env1 st2 σ1 _ r4 ?_
                cases ee : el env1 st2 with
                | exc x st' => simp only [ee] at h; exact h.elim
                | bad => simp only [ee] at h; exact h.elim
                | ok yd st3 =>
                  simp only [ee] at h
                  intro W4 H4 y' e4 r5 q5
                  have wD4 := e4.hl D _ wD3.1 (by simp [Tag.held])
                  have hD4 : H4 D = some (.lst av) := wD4.2.trans (wD3.2.trans hD2)
                  have hr4 : Reps X.K W4 H4 acc av := Reps.mono e4.mo _ _ (Reps.mono e3.mo _ _ (Reps.mono e2.mo _ _ hr))
                  have e14 : Ext (κt && κe) W1 H1 W4 H4 := e13.trans e4.r
                  have back4 : Rel (Gof X T) W4 H4 env0 st3 σ := back3.ofSto e4 r5.sto
                  have mo5 : Mo W4 H4 W4 (upd H4 D (.lst (av ++ [y']))) := mo_tmp wD4.1
                  refine ⟨av, hD4, ?_, W4, st3, acc ++ [yd], av ++ [y'], ext_tmpUpd e14 ha hD, back4.tmpUpd wD4.1 (fun _ z => by cases z) hD4 plain_lst, wD4.1, upd_same, (Reps.mono mo5 _ _ hr4).append (Reps.one (Rep.mono mo5 _ _ q5)), by simp; omega, h⟩
                  rw [← hr4.length, sizeLine_eq]
                  omega
        · have : i = ds.length := by omega
          subst this
          refine .inl ⟨stop, ?_⟩
          rw [List.drop_length] at h
          exact h W H D (e.weak fun z => by simp at z ⊢; exact ⟨z.1.2, z.2⟩) r (.of hD) wD ⟨av, hDl, hr⟩
    · exact h0.elim
theorem comp_read {is vs : List Nat} {Xb : Cx → Prop} {it : M (List D)} {wi : TI} {g0 : TG} {tt : TT} {te : TE} {g : D → Env → Option Env} {mt : M Bool} {el : M D} {κt κe : Bool}
    (hsub : ∀ i ∈ is, i ∈ vs)
    (ri : ∀ W H env st σ R, Rel (Gof X T) W H env st σ → PostI κ (Ext (κt && κe)) (Gof X T) Wx W H env σ (it env st) R → wi σ H R)
    (rg : ∀ W H env st σ v d env' Q, Rel (Gof X T) W H env st σ → Rep X.K W H d v → g d env = some env' → (∀ σ', Rel (Gof X T) W H env' st σ' → Off is σ σ' → Q σ' H) → g0 v σ H Q)
    (rt : ∀ W H env st σ Q, Rel (Gof X T) W H env st σ → Post κt BoolR (Gof X T) (fun _ _ _ _ => False) W H env σ (mt env st) Q → tt σ H Q)
    (re : ∀ W H env st σ Q, Rel (Gof X T) W H env st σ → Post κe (RepR X) (Gof X T) (fun _ _ _ _ => False) W H env σ (el env st) Q → te σ H Q) :
    ∀ W H env st σ Q, Rel (Gof X T) W H env st σ → PostN ((κ && κt) && κe) (CL X.K) (Gof X T) Wx W H env σ (mComp it vs g mt el env st) Q → tLc wi g0 tt te vs σ H Q := fun W0 H0 env0 st0 σ Q rl0 h0 =>
  comp_readP (Xb := Xb) (fun _ _ _ _ _ => True) hsub (fun W H env st σ R _ => ri W H env st σ R) rg rt re W0 H0 env0 st0 σ Q trivial rl0 h0
end
end Ev

set_option maxRecDepth 100000
set_option maxHeartbeats 4000000
/-! comprehensions as expressions; objects -/
namespace Ev
open PySem PySem.Spec PyProof.Rows L2
/-! ### one reading for a family of contexts -/
section
variable {ι : Type} {T : List (Addr × Str)} {Xs : ι → Cx} {Wx : WX} {κ : Bool} {K : PySem.W.Frag} {mg : Str → Option Value}
theorem fam_ev {α : Type} {R : Wm → Hp → α → V → Prop} {e : Expr} {m : M α} (hK : ∀ i, Gof (Xs i) T = ⟨K, mg, T⟩) (h : ∀ i, EVg κ R T (Xs i) Wx e m) :
    ∃ t, (∀ i, PE (Xs i) e t) ∧ ∀ W H env st σ Q, Rel ⟨K, mg, T⟩ W H env st σ → Post κ R ⟨K, mg, T⟩ Wx W H env σ (m env st) Q → t σ H Q := by
  refine ⟨fun σ H Q => ∀ i, Classical.choose (h i).ex σ H Q, fun i => ⟨fun pins s σ H Q I q => (Classical.choose_spec (h i).ex).1.run pins s σ H Q I (q i)⟩, fun W H env st σ Q r p i => ?_⟩
  have z := (Classical.choose_spec (h i).ex).2
  exact z W H env st σ Q (by rw [hK i]; exact r) (by rw [hK i]; exact p)
theorem fam_tsv {es : List Expr} {m : M Bool} (hK : ∀ i, Gof (Xs i) T = ⟨K, mg, T⟩) (h : ∀ i, TsV κ T (Xs i) Wx es m) :
    ∃ t, (∀ i, PTs (Xs i) es t) ∧ ∀ W H env st σ Q, Rel ⟨K, mg, T⟩ W H env st σ → Post κ BoolR ⟨K, mg, T⟩ Wx W H env σ (m env st) Q → t σ H Q := by
  refine ⟨fun σ H Q => ∀ i, Classical.choose (h i).ex σ H Q, fun i => ⟨fun pins s σ H Q I q => (Classical.choose_spec (h i).ex).1.run pins s σ H Q I (q i)⟩, fun W H env st σ Q r p i => ?_⟩
  have z := (Classical.choose_spec (h i).ex).2
  exact z W H env st σ Q (by rw [hK i]; exact r) (by rw [hK i]; exact p)
theorem fam_gv {is : List Nat} {tg : Expr} {g : D → Env → Option Env} (hK : ∀ i, Gof (Xs i) T = ⟨K, mg, T⟩) (hK2 : ∀ i, (Xs i).K = K) (h : ∀ i, GV is T (Xs i) tg g) :
    ∃ t, (∀ i, PG (Xs i) tg t) ∧ ∀ W H env st σ v d env' Q, Rel ⟨K, mg, T⟩ W H env st σ → Rep K W H d v → g d env = some env' → (∀ σ', Rel ⟨K, mg, T⟩ W H env' st σ' → Off is σ σ' → Q σ' H) → t v σ H Q := by
  refine ⟨fun v σ H Q => ∀ i, Classical.choose (h i).ex v σ H Q, fun i => ⟨fun pins s σ H v u Q I r q => (Classical.choose_spec (h i).ex).1.run pins s σ H v u Q I r (q i)⟩, fun W H env st σ v d env' Q r q e k i => ?_⟩
  have z := (Classical.choose_spec (h i).ex).2
  exact z W H env st σ v d env' Q (by rw [hK i]; exact r) (by rw [hK2 i]; exact q) e fun σ' r' o => k σ' (by rw [← hK i]; exact r') o
end
abbrev noX : WX := fun _ _ _ _ => False
section
variable {T : List (Addr × Str)} {X : Cx} {Wx : WX} {κ κt κe : Bool} {tg iter elt : Expr} {ifs : List Expr} {scope : Scope} {own : List (Str × Nat)} {pos spos : Pos} {is : List Nat} {it : M (List D)} {g : D → Env → Option Env} {mt : M Bool} {el : M D}
theorem comp_parts (hN : X.N.Nodup) (hi : IV κ (Ext (κt && κe)) T X Wx tg iter it)
    (hg : ∀ (s : Shared) (H : Hp) (C : Addr) (cl : List (Str × Addr)) (fp : List Addr), GV is T (X.blk s H scope (compEnvC scope cl C X.env) fp) tg g) (ht : ∀ (s : Shared) (H : Hp) (C : Addr) (cl : List (Str × Addr)) (fp : List Addr), TsV κt T (X.blk s H scope (compEnvC scope cl C X.env) fp) noX ifs mt)
    (he : ∀ (s : Shared) (H : Hp) (C : Addr) (cl : List (Str × Addr)) (fp : List Addr), EV κe T (X.blk s H scope (compEnvC scope cl C X.env) fp) noX elt el) (hsub : ∀ i ∈ is, i ∈ own.map (·.2)) :
    ∃ (wi : TI) (g0 : TG) (tt : TT) (te : TE), PI X tg iter wi ∧ (∀ (s : Shared) (H : Hp) (C : Addr) (cl : List (Str × Addr)) (fp : List Addr), PG (X.blk s H scope (compEnvC scope cl C X.env) fp) tg g0) ∧ (∀ (s : Shared) (H : Hp) (C : Addr) (cl : List (Str × Addr)) (fp : List Addr), PTs (X.blk s H scope (compEnvC scope cl C X.env) fp) ifs tt) ∧
      (∀ (s : Shared) (H : Hp) (C : Addr) (cl : List (Str × Addr)) (fp : List Addr), PE (X.blk s H scope (compEnvC scope cl C X.env) fp) elt te) ∧
      ∀ W H env st σ Q, Rel (Gof X T) W H env st σ → PostN ((κ && κt) && κe) (CL X.K) (Gof X T) Wx W H env σ (mComp it (own.map (·.2)) g mt el env st) Q → tLc wi g0 tt te (own.map (·.2)) σ H Q := by
  obtain ⟨wi, pw, rw'⟩ := hi.ex
  let Xs : (Shared × Hp × Addr × List (Str × Addr) × List Addr) → Cx := fun z => X.blk z.1 z.2.1 scope (compEnvC scope z.2.2.2.1 z.2.2.1 X.env) z.2.2.2.2
  obtain ⟨g0, pg, rg⟩ := fam_gv (Xs := Xs) (K := X.K) (mg := X.mg) (T := T) (fun _ => rfl) (fun _ => rfl) fun z => hg _ _ _ _ _
  obtain ⟨tt, pt, rt⟩ := fam_tsv (Xs := Xs) (K := X.K) (mg := X.mg) (T := T) (fun _ => rfl) fun z => ht _ _ _ _ _
  obtain ⟨te, pe, re⟩ := fam_ev (Xs := Xs) (Wx := noX) (κ := κe) (R := RepR X) (e := elt) (m := el) (K := X.K) (mg := X.mg) (T := T) (fun _ => rfl) fun z => he z.1 z.2.1 z.2.2.1 z.2.2.2.1 z.2.2.2.2
  exact ⟨wi, g0, tt, te, pw, fun s H C cl fp => pg (s, H, C, cl, fp), fun s H C cl fp => pt (s, H, C, cl, fp), fun s H C cl fp => pe (s, H, C, cl, fp), comp_read (Xb := fun _ => True) hsub rw' rg rt re⟩
/-- [e for x in xs if t] -/
theorem nv_comp (hc : X.calm = true) (hN : X.N.Nodup) (hi : IV κ (Ext (κt && κe)) T X Wx tg iter it) (ok : BlkOk X.N X.env.scope scope own)
    (hg : ∀ (s : Shared) (H : Hp) (C : Addr) (cl : List (Str × Addr)) (fp : List Addr), GV is T (X.blk s H scope (compEnvC scope cl C X.env) fp) tg g) (ht : ∀ (s : Shared) (H : Hp) (C : Addr) (cl : List (Str × Addr)) (fp : List Addr), TsV κt T (X.blk s H scope (compEnvC scope cl C X.env) fp) noX ifs mt)
    (he : ∀ (s : Shared) (H : Hp) (C : Addr) (cl : List (Str × Addr)) (fp : List Addr), EV κe T (X.blk s H scope (compEnvC scope cl C X.env) fp) noX elt el) (hsub : ∀ i ∈ is, i ∈ own.map (·.2) := by decide) (hs : ∀ x, foldedSetIterable iter X.env x = pure x := by intro _; rfl) :
    NV ((κ && κt) && κe) T X Wx (.ListComp elt [⟨tg, iter, ifs, 0⟩] scope pos) (mComp it (own.map (·.2)) g mt el) := by
  obtain ⟨wi, g0, tt, te, a1, a2, a3, a4, a5⟩ := comp_parts hN hi hg ht he hsub
  exact ⟨_, pe_lc hc hN a1 ok a2 a3 a4 hs, a5⟩
/-- x = [e for ..], x a local -/
theorem sv_ownComp (i : Nat) {y : Str} {py : Pos} (hc : X.calm = true) (hN : X.N.Nodup) (hi : IV κ (Ext (κt && κe)) T X Wx tg iter it) (ok : BlkOk X.N X.env.scope scope own)
    (hg : ∀ (s : Shared) (H : Hp) (C : Addr) (cl : List (Str × Addr)) (fp : List Addr), GV is T (X.blk s H scope (compEnvC scope cl C X.env) fp) tg g) (ht : ∀ (s : Shared) (H : Hp) (C : Addr) (cl : List (Str × Addr)) (fp : List Addr), TsV κt T (X.blk s H scope (compEnvC scope cl C X.env) fp) noX ifs mt)
    (he : ∀ (s : Shared) (H : Hp) (C : Addr) (cl : List (Str × Addr)) (fp : List Addr), EV κe T (X.blk s H scope (compEnvC scope cl C X.env) fp) noX elt el)
    (hsw : swapsWith (.ListComp elt [⟨tg, iter, ifs, 0⟩] scope pos) (some (.Name y py)) spos.line X.env = pure true) (hy : X.N[i]? = some y := by rfl) (hyl : X.env.scope.names.lookup y = some .local := by rfl) (hsub : ∀ i ∈ is, i ∈ own.map (·.2) := by decide) (hs : ∀ x, foldedSetIterable iter X.env x = pure x := by intro _; rfl) :
    SV T X Wx (.Assign [.Name y py] (.ListComp elt [⟨tg, iter, ifs, 0⟩] scope pos) spos) (sOwn i (mComp it (own.map (·.2)) g mt el)) := by
  obtain ⟨wi, g0, tt, te, a1, a2, a3, a4, a5⟩ := comp_parts hN hi hg ht he hsub
  exact ⟨_, ps_setLc hc hN hy hyl hsw a1 ok a2 a3 a4 hs, fun W H env st σ D rl h => a5 _ _ _ _ _ _ rl (SPost.ofN h fun d st' W' H' p e r' hp w q h' => SPost.nx (h'.ext (exts_retag w)) (r'.setOwn i w q))⟩
theorem sv_setComp (i : Nat) {y : Str} {py : Pos} (hc : X.calm = true) (hN : X.N.Nodup) (hi : IV κ (Ext (κt && κe)) T X Wx tg iter it) (ok : BlkOk X.N X.env.scope scope own)
    (hg : ∀ (s : Shared) (H : Hp) (C : Addr) (cl : List (Str × Addr)) (fp : List Addr), GV is T (X.blk s H scope (compEnvC scope cl C X.env) fp) tg g) (ht : ∀ (s : Shared) (H : Hp) (C : Addr) (cl : List (Str × Addr)) (fp : List Addr), TsV κt T (X.blk s H scope (compEnvC scope cl C X.env) fp) noX ifs mt)
    (he : ∀ (s : Shared) (H : Hp) (C : Addr) (cl : List (Str × Addr)) (fp : List Addr), EV κe T (X.blk s H scope (compEnvC scope cl C X.env) fp) noX elt el)
    (hsw : swapsWith (.ListComp elt [⟨tg, iter, ifs, 0⟩] scope pos) (some (.Name y py)) spos.line X.env = pure true) (hy : X.N[i]? = some y := by rfl) (hyl : X.env.scope.names.lookup y = some .local := by rfl) (hsub : ∀ i ∈ is, i ∈ own.map (·.2) := by decide) (hs : ∀ x, foldedSetIterable iter X.env x = pure x := by intro _; rfl) :
    SV T X Wx (.Assign [.Name y py] (.ListComp elt [⟨tg, iter, ifs, 0⟩] scope pos) spos) (sSet i (mUn (mComp it (own.map (·.2)) g mt el) fun ds st => .ok (.lst ds) st)) := by
  obtain ⟨wi, g0, tt, te, a1, a2, a3, a4, a5⟩ := comp_parts hN hi hg ht he hsub
  refine ⟨_, ps_setLc hc hN hy hyl hsw a1 ok a2 a3 a4 hs, fun W H env st σ D rl h => a5 _ _ _ _ _ _ rl ?_⟩
  unfold sSet mUn at h
  cases em : mComp it (own.map (·.2)) g mt el env st with
  | exc x st' => rw [em] at h; exact fun W' H' c d e r q => h W' H' c d σ e.s r q
  | bad => rw [em] at h; exact h.elim
  | ok ds st' =>
    rw [em] at h
    intro W' H' p e r' hp w ⟨vs, q1, q2⟩
    have mo := mo_untag (W := W') (H := H') (p := p) fun n z => by rw [w] at z; cases z
    exact h (tagW W' p none) H' _ (ext_untmp rl.sto e hp).s ((r'.untmp w).set i (rep_lst.mpr ⟨p, vs, rfl, .inl ⟨tagW_same, .inl q1⟩, Reps.mono mo _ _ q2⟩))
end
/-! ### objects -/
section
variable {T : List (Addr × Str)} {X : Cx} {Wx : WX} {κ κ' : Bool} {a e o : Expr} {es : List Expr} {ma mo : M D} {n : M (List D)} {mf : Fm} {k np : Nat} {f C : Addr} {fd : FuncData} {ps : List Str} {x m cls fn : Str} {p pos apos pos' : Pos} {R1 : Wm → Hp → D → V → Prop}
/-- the object that a value is -/
def objAt (d : D) (st : Sto) (cls : Str) : Option (Nat × List (Str × D)) := match d with
  | .loc i => match st[i]? with
    | some (.ins c fs) => if c = cls then some (i, fs) else none
    | _ => none
  | _ => none
theorem objAt_some {d : D} {st : Sto} {i : Nat} {fs : List (Str × D)} (h : objAt d st cls = some (i, fs)) : d = .loc i ∧ st[i]? = some (.ins cls fs) := by
  unfold objAt at h
  split at h
  · split at h
    · rename_i e
      split at h
      · rename_i ec; cases h; subst ec; exact ⟨rfl, e⟩
      · cases h
    · cases h
  · cases h
/-- an instance as it stands -/
theorem Rel.ins {G : Gx} {W : Wm} {H : Hp} {env : Env} {st : Sto} {σ : L2.St} (r : Rel G W H env st σ) {d : D} {v : V} {i : Nat} {fs : List (Str × D)} (hq : Rep G.K W H d v) (h : objAt d st cls = some (i, fs)) (hC : G.mg cls = some (.ref C)) :
    ∃ a dx vs, v = .ref a ∧ W a = some (.obj i) ∧ H a = some (.ins C dx vs) ∧ (fs.map Prod.fst).Nodup ∧ FldsOk G.K W H i fs vs := by
  obtain ⟨rfl, e⟩ := objAt_some h
  obtain ⟨a, ev, w⟩ := rep_loc.mp hq
  obtain ⟨ob, e', q⟩ := r.sto.obj a i w
  rw [e] at e'
  cases e'
  obtain ⟨C', dx, vs, h1, h2, hn, h3⟩ := q
  rw [hC] at h1
  cases h1
  exact ⟨a, dx, vs, ev, w, h2, hn, h3⟩
theorem FldsOk.look {K : PySem.W.Frag} {W : Wm} {H : Hp} {n : Nat} {f : Str} : ∀ {fs : List (Str × D)} {vs : List (Str × V)}, FldsOk K W H n fs vs → (∀ d, fs.lookup f = some d → ∃ v, vs.lookup f = some v ∧ At K W H (.fld n f) d v) ∧ (fs.lookup f = none → vs.lookup f = none) ∧ fs.length = vs.length
  | [], vs, h => by
    unfold FldsOk at h
    subst h
    exact ⟨fun d z => (by cases z), fun _ => rfl, rfl⟩
  | (g, d0) :: r, vs, h => by
    unfold FldsOk at h
    obtain ⟨v, r', rfl, h1, h2⟩ := h
    obtain ⟨k1, k2, k3⟩ := FldsOk.look (f := f) h2
    by_cases z : f = g
    · subst z
      have e1 : ((f, d0) :: r).lookup f = some d0 := by simp [List.lookup]
      have e2 : ((f, v) :: r').lookup f = some v := by simp [List.lookup]
      exact ⟨fun d q => (by rw [e1] at q; cases q; exact ⟨v, e2, h1⟩), fun q => (by rw [e1] at q; cases q), by simp [k3]⟩
    · have zb : (f == g) = false := by simpa using z
      have e1 : ((g, d0) :: r).lookup f = r.lookup f := by simp [List.lookup, zb]
      have e2 : ((g, v) :: r').lookup f = r'.lookup f := by simp [List.lookup, zb]
      exact ⟨fun d q => (by rw [e1] at q; rw [e2]; exact k1 d q), fun q => (by rw [e1] at q; rw [e2]; exact k2 q), by simp [k3]⟩
/-- o.f, a field -/
def mFld (cls f : Str) (mo : M D) : M D := mUn mo fun d st => match objAt d st cls with
  | some (_, fs) => match fs.lookup f with
    | some (.own _) | some (.ownd _) | none => .bad
    | some d => .ok d st
  | none => .bad
def mFldC (cls f : Str) (mo : M D) : M D := mUn mo fun d st => match objAt d st cls with
  | some (_, fs) => match fs.lookup f with
    | none => .bad
    | some d => .ok d.cur st
  | none => .bad
theorem ev_fld (ho : EV κ T X Wx o mo) (hC : X.mg cls = some (.ref C)) (hc : Cls X.K C) (hn : NoAttr X.K C fn) (hb : attributeBase o fn X.env (eval o X.env) = eval o X.env := by rfl) : EV κ T X Wx (.Attribute o fn pos) (mFld cls fn mo) := by
  obtain ⟨t, pt, rt⟩ := ho.ex
  refine ⟨_, pe_fld pt hb, fun W H env st σ Q rl h => rt _ _ _ _ _ _ rl (h.bind (fun z => z) fun d st1 W1 H1 v e1 r1 q1 h1 => ?_)⟩
  cases eo : objAt d st1 cls with
  | none => simp only [eo] at h1; exact h1.elim
  | some z =>
    obtain ⟨i, fs⟩ := z
    simp only [eo] at h1
    obtain ⟨a, dx, vs, rfl, w, ha, hnd, hf⟩ := r1.ins q1 eo hC
    split at h1
    · exact h1.elim
    · exact h1.elim
    · exact h1.elim
    · rename_i d' n1 n2 el
      obtain ⟨v', l', q'⟩ := hf.look.1 _ el
      exact ⟨a, C, dx, vs, v', rfl, ha, hc, hn, l', h1.ok r1 (q'.rep (fun xs z => n1 xs (by rw [z])) fun xs z => n2 xs (by rw [z]))⟩
theorem cv_fld (ho : EV κ T X Wx o mo) (hC : X.mg cls = some (.ref C)) (hc : Cls X.K C) (hn : NoAttr X.K C fn) (hb : attributeBase o fn X.env (eval o X.env) = eval o X.env := by rfl) : CV κ T X Wx (.Attribute o fn pos) (mFldC cls fn mo) := by
  obtain ⟨t, pt, rt⟩ := ho.ex
  refine ⟨_, pe_fld pt hb, fun W H env st σ Q rl h => rt _ _ _ _ _ _ rl (h.bind (fun z => z) fun d st1 W1 H1 v e1 r1 q1 h1 => ?_)⟩
  cases eo : objAt d st1 cls with
  | none => simp only [eo] at h1; exact h1.elim
  | some z =>
    obtain ⟨i, fs⟩ := z
    simp only [eo] at h1
    obtain ⟨a, dx, vs, rfl, w, ha, hnd, hf⟩ := r1.ins q1 eo hC
    split at h1
    · exact h1.elim
    · rename_i d' el
      obtain ⟨v', l', q'⟩ := hf.look.1 _ el
      exact ⟨a, C, dx, vs, v', rfl, ha, hc, hn, l', h1.ok r1 q'.cur⟩
/-- o.m(..) -/
def mMeth (cls m : Str) (mf : Fm) (mo : M D) (n : M (List D)) : M D := fun env st => (mo env st).bind fun d st1 => match objAt d st1 cls with
  | some (_, fs) => if (fs.lookup m).isNone = true then (n env st1).bind fun ds st2 => mf (d :: ds) st2 else .bad
  | none => .bad
theorem ev_meth {pl : Sem Bool} (ho : EV κ T X Wx o mo) (hC : X.mg cls = some (.ref C)) (hc : Cls X.K C) (hm : Meth X.K C m f) (F : FnOk X.prog X.w X.K X.mg X.base (L2.CX X.prog X.w) k f fd ps (spOf (Gof X T) (np + 1) mf)) (hr : Room k X.A) (tk : Takes X Wx) (hb : Binds X.K fd ps []) (ha : AV κ' T X Wx (a :: es) n)
    (hl : ∀ env st ds st', n env st = .ok ds st' → ds.length = np) (hst : starEach (a :: es) X.env = (false, eval a X.env) :: starEach es X.env := by rfl) (hpl : (backTo pos (starEach es X.env)).any (·.1) = false := by rfl)
    (ht : eval (.Call (.Attribute o m apos) (a :: es) [] pos) X.env = (eval o X.env >>= fun ov => standAt apos.atName >>= fun _ => holding [ov] (getMethod ov m pl) >>= fun z => callWith pos z.1 z.2 (backTo pos (starEach (a :: es) X.env)) (backToKw pos (keywordEach [] X.env))) := by rfl) :
    EV false T X Wx (.Call (.Attribute o m apos) (a :: es) [] pos) (mMeth cls m mf mo n) := by
  obtain ⟨t, pt, rt⟩ := ho.ex
  obtain ⟨ta, pa, ra⟩ := ha.ex
  refine ⟨_, pe_methS pt hc hm F hr hb (fun σ => passAt tk σ) pa hst hpl ht, fun W H env st σ Q rl h => rt _ _ _ _ _ _ rl (Post.bind h (by intro z; cases z) fun d st1 W1 H1 v e1 r1 q1 h1 => ?_)⟩
  cases eo : objAt d st1 cls with
  | none => simp only [eo] at h1; exact h1.elim
  | some z =>
    obtain ⟨i, fs⟩ := z
    simp only [eo] at h1
    split at h1
    · rename_i hnone
      obtain ⟨a', dx, vs, rfl, w, hA, hnd, hf⟩ := r1.ins q1 eo hC
      refine ⟨a', dx, vs, rfl, hA, hf.look.2.1 (by simpa using hnone), ?_⟩
      cases en : n env st1 with
      | ok ds st2 =>
        rw [en] at h1
        refine ra W1 H1 env st1 σ _ r1 ?_
        rw [en]
        intro W2 H2 us ex r2 q2
        refine call_read r2 (Reps.cons (Rep.mono ex.mo _ _ q1) q2) (Post.ext h1 ex.f) ?_
        rw [List.length_cons, ← q2.length, hl _ _ _ _ en]
      | exc x st' => rw [en] at h1; exact ra W1 H1 env st1 σ _ r1 (by rw [en]; exact h1)
      | bad => rw [en] at h1; exact h1.elim
    · exact h1.elim
theorem ev_meth0 {pl : Sem Bool} (ho : EV κ T X Wx o mo) (hC : X.mg cls = some (.ref C)) (hc : Cls X.K C) (hm : Meth X.K C m f) (F : FnOk X.prog X.w X.K X.mg X.base (L2.CX X.prog X.w) k f fd ps (spOf (Gof X T) 1 mf)) (hr : Room k X.A) (tk : Takes X Wx) (hb : Binds X.K fd ps [])
    (ht : eval (.Call (.Attribute o m apos) [] [] pos) X.env = (eval o X.env >>= fun ov => standAt apos.atName >>= fun _ => holding [ov] (getMethod ov m pl) >>= fun z => callWith pos z.1 z.2 (backTo pos (starEach [] X.env)) (backToKw pos (keywordEach [] X.env))) := by rfl) :
    EV false T X Wx (.Call (.Attribute o m apos) [] [] pos) (mMeth cls m mf mo mNil) := by
  obtain ⟨t, pt, rt⟩ := ho.ex
  refine ⟨_, pe_meth0S pt hc hm F hr hb (fun σ => passAt tk σ) ht, fun W H env st σ Q rl h => rt _ _ _ _ _ _ rl (Post.bind h (by intro z; cases z) fun d st1 W1 H1 v e1 r1 q1 h1 => ?_)⟩
  cases eo : objAt d st1 cls with
  | none => simp only [eo] at h1; exact h1.elim
  | some z =>
    obtain ⟨i, fs⟩ := z
    simp only [eo] at h1
    split at h1
    · rename_i hnone
      obtain ⟨a', dx, vs, rfl, w, hA, hnd, hf⟩ := r1.ins q1 eo hC
      exact ⟨a', dx, vs, rfl, hA, hf.look.2.1 (by simpa using hnone), call_read r1 (Reps.one q1) h1 rfl⟩
    · exact h1.elim
/-- C(..) -/
def mMake (cls : Str) (mf : Fm) (n : M (List D)) : M D := fun env st => (n env st).bind fun ds st1 => (mf (.loc st1.length :: ds) (st1 ++ [.ins cls []])).bind fun d st2 => match d with
  | .non => .ok (.loc st1.length) st2
  | _ => .bad
theorem make_read {W : Wm} {H : Hp} {env : Env} {st : Sto} {σ : L2.St} {Q : VK} {vs : List V} {ds : List D} {x dx : Addr} (rl : Rel (Gof X T) W H env st σ) (hd : Reps X.K W H ds vs) (hC : X.mg cls = some (.ref C)) (hx : H x = none) (hdx : H dx = none) (hne : dx ≠ x) (hl : vs.length = np)
    (h : Post false (RepR X) (Gof X T) Wx W H env σ ((mf (.loc st.length :: ds) (st ++ [.ins cls []])).bind fun d st2 => match d with
      | .non => .ok (.loc st.length) st2
      | _ => .bad) Q) :
    spOf (Gof X T) (np + 1) mf (.ref x :: vs) (upd (upd H dx (.own x)) x (.ins C dx [])) (fun v H2 => v = .non ∧ Q (.ref x) H2) (WE Wx σ) := by
  have r1 : Rel (Gof X T) W (upd H dx (.own x)) env st σ := rl.laid hdx
  have hx1 : upd H dx (.own x) x = none := by rw [upd_ne (Ne.symm hne)]; exact hx
  have r2 : Rel (Gof X T) (tagW W x (some (.obj st.length))) (upd (upd H dx (.own x)) x (.ins C dx [])) env (st ++ [.ins cls []]) σ := r1.laidO hx1 (fun _ z => by cases z) ⟨C, dx, [], hC, upd_same, by simp, by unfold FldsOk; rfl⟩
  have e2 : Ext false W H (tagW W x (some (.obj st.length))) (upd (upd H dx (.own x)) x (.ins C dx [])) := (Ext.laid rl.sto hdx).trans (ext_laidT r1.sto hx1)
  refine ⟨_, _, .loc st.length :: ds, by rw [List.length_cons, hl], r2.sto, Reps.cons (rep_loc.mpr ⟨x, rfl, tagW_same⟩) (Reps.mono e2.mo _ _ hd), ?_⟩
  replace h := h.ext e2
  cases em : mf (.loc st.length :: ds) (st ++ [.ins cls []]) with
  | ok d st2 =>
    rw [em] at h
    intro W' H' v ex s q
    cases d with
    | non => exact ⟨rep_non.mp q, h W' H' (.ref x) ex (r2.ofSto ex s) (rep_loc.mpr ⟨x, rfl, ex.ob x _ tagW_same⟩)⟩
    | _ => exact h.elim
  | exc y st2 => rw [em] at h; exact fun W' H' c d ex s q => h W' H' c d ex (r2.ofSto ex s) q
  | bad => rw [em] at h; exact h.elim
theorem ev_make (hC : X.mg cls = some (.ref C)) (Mk' : Mk X.K C f) (F : FnOk X.prog X.w X.K X.mg X.base (L2.CX X.prog X.w) k f fd ps (spOf (Gof X T) (np + 1) mf)) (hr : Room (k + 1) X.A) (tk : Takes X Wx) (hg : Gl X cls) (hb : Binds X.K fd ps []) (ha : AV κ T X Wx (a :: es) n)
    (hl : ∀ env st ds st', n env st = .ok ds st' → ds.length = np) (hdb : (cls == ("__debug__" : Str)) = false := by decide) (he : starEach (a :: es) X.env = (false, eval a X.env) :: starEach es X.env := by rfl) (hpl : (backTo pos (starEach es X.env)).any (·.1) = false := by rfl) :
    EV false T X Wx (.Call (.Name cls p) (a :: es) [] pos) (mMake cls mf n) := by
  obtain ⟨ta, pa, ra⟩ := ha.ex
  refine ⟨_, pe_makeS Mk' F hr hg hC hb (fun σ => passAt tk σ) pa hdb he hpl, fun W H env st σ Q rl h => ?_⟩
  unfold mMake at h
  cases en : n env st with
  | ok ds st1 =>
    rw [en] at h
    refine ra W H env st σ _ rl ?_
    rw [en]
    intro W1 H1 us ex r1 q1 x dx hx hdx hne
    exact make_read r1 q1 hC hx hdx hne (q1.length.symm.trans (hl _ _ _ _ en)) (Post.ext h ex.f)
  | exc x st' => rw [en] at h; exact ra W H env st σ _ rl (by rw [en]; exact h)
  | bad => rw [en] at h; exact h.elim
theorem ev_make0 (hC : X.mg cls = some (.ref C)) (Mk' : Mk X.K C f) (F : FnOk X.prog X.w X.K X.mg X.base (L2.CX X.prog X.w) k f fd ps (spOf (Gof X T) 1 mf)) (hr : Room (k + 1) X.A) (tk : Takes X Wx) (hg : Gl X cls) (hb : Binds X.K fd ps [])
    (hdb : (cls == ("__debug__" : Str)) = false := by decide) : EV false T X Wx (.Call (.Name cls p) [] [] pos) (mMake cls mf mNil) :=
  ⟨_, pe_make0S Mk' F hr hg hC hb (fun σ => passAt tk σ) hdb, fun W H env st σ Q rl h x dx hx hdx hne => make_read rl Reps.nil hC hx hdx hne rfl h⟩
end
end Ev

set_option maxRecDepth 100000
set_option maxHeartbeats 4000000
/-! places that are written: own lists and dicts of slots and of fields, lists of the store; fields -/
namespace Ev
open PySem PySem.Spec PyProof.Rows L2
def putD (f : Str) (d : D) : List (Str × D) → List (Str × D)
  | [] => [(f, d)]
  | (g, x) :: r => if g = f then (g, d) :: r else (g, x) :: putD f d r
theorem putD_fst {f : Str} {d : D} : ∀ {fs : List (Str × D)}, (putD f d fs).map Prod.fst = if f ∈ fs.map Prod.fst then fs.map Prod.fst else fs.map Prod.fst ++ [f]
  | [] => by simp [putD]
  | (g, x) :: r => by
    unfold putD
    by_cases h : g = f
    · subst h; simp
    · rw [if_neg h, List.map_cons, putD_fst]
      by_cases h2 : f ∈ r.map Prod.fst
      · rw [if_pos h2, if_pos (by simp only [List.map_cons, List.mem_cons]; exact .inr h2)]; rfl
      · rw [if_neg h2, if_neg (by simp only [List.map_cons, List.mem_cons, not_or]; exact ⟨fun z => h z.symm, h2⟩)]; rfl
theorem putD_nodup {f : Str} {d : D} {fs : List (Str × D)} (h : (fs.map Prod.fst).Nodup) : ((putD f d fs).map Prod.fst).Nodup := by
  rw [putD_fst]
  split
  · exact h
  · rename_i n
    rw [List.nodup_append]
    exact ⟨h, by simp, fun a ha b hb z => by simp at hb; subst hb; subst z; exact n ha⟩
theorem FldsOk.keys {K : PySem.W.Frag} {W : Wm} {H : Hp} {n : Nat} : ∀ {fs : List (Str × D)} {vs : List (Str × V)}, FldsOk K W H n fs vs → vs.map Prod.fst = fs.map Prod.fst
  | [], vs, h => by unfold FldsOk at h; subst h; rfl
  | (f, d) :: r, vs, h => by
    unfold FldsOk at h
    obtain ⟨v, r', rfl, _, h2⟩ := h
    simp [FldsOk.keys h2]
/-- a field is put; the others' own stay -/
theorem FldsOk.put {K : PySem.W.Frag} {W W' : Wm} {H H' : Hp} {n : Nat} {f : Str} {d : D} {y : V} (m : Mo W H W' H') (k : ∀ a g, g ≠ f → W a = some (.fld n g) → W' a = some (.fld n g) ∧ H' a = H a) (hy : At K W' H' (.fld n f) d y) :
    ∀ {fs : List (Str × D)} {vs : List (Str × V)}, (fs.map Prod.fst).Nodup → FldsOk K W H n fs vs → FldsOk K W' H' n (putD f d fs) (putF f y vs)
  | [], vs, _, h => by
    unfold FldsOk at h
    subst h
    unfold putD FldsOk
    exact ⟨y, [], rfl, hy, by unfold FldsOk; rfl⟩
  | (g, x) :: r, vs, nd, h => by
    unfold FldsOk at h
    obtain ⟨v, r', rfl, h1, h2⟩ := h
    rw [List.map_cons, List.nodup_cons] at nd
    by_cases e : g = f
    · subst e
      have e1 : putD g d ((g, x) :: r) = (g, d) :: r := by unfold putD; rw [if_pos rfl]
      have e2 : putF g y ((g, v) :: r') = (g, y) :: r' := by unfold putF; rw [if_pos rfl]
      rw [e1, e2]
      unfold FldsOk
      refine ⟨y, r', rfl, hy, ?_⟩
      exact FldsOk.rest m (fun a g' hg => k a g' (fun z => nd.1 (by subst z; exact hg))) h2
    · have e1 : putD f d ((g, x) :: r) = (g, x) :: putD f d r := by rw [putD, if_neg e]
      have e2 : putF f y ((g, v) :: r') = (g, v) :: putF f y r' := by rw [putF, if_neg e]
      rw [e1, e2]
      unfold FldsOk
      exact ⟨v, _, rfl, h1.mono m fun a => k a g e, FldsOk.put m k hy nd.2 h2⟩
where
  FldsOk.rest {K : PySem.W.Frag} {W W' : Wm} {H H' : Hp} {n : Nat} (m : Mo W H W' H') : ∀ {fs : List (Str × D)} {vs : List (Str × V)}, (∀ a g, g ∈ fs.map Prod.fst → W a = some (.fld n g) → W' a = some (.fld n g) ∧ H' a = H a) → FldsOk K W H n fs vs → FldsOk K W' H' n fs vs
    | [], vs, _, h => by unfold FldsOk at h ⊢; exact h
    | (f, d) :: r, vs, k, h => by
      unfold FldsOk at h ⊢
      obtain ⟨v, r', e, h1, h2⟩ := h
      exact ⟨v, r', e, h1.mono m fun a => k a f (by simp), FldsOk.rest m (fun a g hg => k a g (by simp only [List.map_cons, List.mem_cons]; exact .inr hg)) h2⟩
section
variable {G : Gx} {W W' : Wm} {H H' : Hp} {env : Env} {st : Sto} {σ : L2.St}
/-- an object of the store is written -/
theorem StoOk.setObj {a : Addr} {n : Nat} {o o' : HO} {so : SObj} (s : StoOk G W H st) (hw : W a = some (.obj n)) (ha : H a = some o') (pl : Plain o') (ho : ∀ ps, o ≠ .tbl ps) (hr : ObjRep G W (upd H a o) n a so) : StoOk G W (upd H a o) (st.set n so) where
  obj := fun b k q => by
    by_cases z : b = a
    · subst z
      rw [hw] at q
      cases q
      obtain ⟨ob, e, _⟩ := s.obj b _ hw
      exact ⟨so, List.getElem?_set_self (List.getElem?_eq_some_iff.mp e).1, hr⟩
    · have nk : k ≠ n := fun z2 => z (s.uniq b a k q (by rw [z2]; exact hw))
      obtain ⟨ob, e, r⟩ := s.obj b k q
      refine ⟨ob, by rw [List.getElem?_set_ne (Ne.symm nk)]; exact e, r.mono (mo_tmp hw) (upd_ne z) fun c f qc => ⟨qc, upd_ne fun z2 => ?_⟩⟩
      subst z2
      rw [hw] at qc
      cases qc
  uniq := s.uniq
  used := fun b t q => by
    by_cases z : b = a
    · subst z; rw [upd_same]; exact ⟨o, rfl, ho⟩
    · rw [upd_ne z]; exact s.used b t q
  tabs := tabs_upd s.tabs ha pl
theorem ext_obj {a : Addr} {n : Nat} {o : HO} (hw : W a = some (.obj n)) (ho : ∀ ps, o ≠ .tbl ps := by intro _ z; cases z) : Ext false W H W (upd H a o) where
  fr := fun b u h q _ => ⟨h, by rw [upd_ne fun z => by subst z; rw [hw] at h; cases h]; exact q⟩
  ob := fun _ _ h => h
  hl := fun b t h k => ⟨h, upd_ne fun z => by subst z; rw [hw] at h; cases h; simp [Tag.held] at k⟩
  th := upd_th2 ho
theorem Rel.setObj {a : Addr} {n : Nat} {o o' : HO} {so : SObj} (r : Rel G W H env st σ) (hw : W a = some (.obj n)) (ha : H a = some o') (pl : Plain o') (ho : ∀ ps, o ≠ .tbl ps) (hr : ObjRep G W (upd H a o) n a so) : Rel G W (upd H a o) env (st.set n so) σ :=
  r.ofSto (ext_obj hw ho) (r.sto.setObj hw ha pl ho hr)
/-- a field is put -/
theorem Rel.setFld {cls f : Str} {C a dx : Addr} {n : Nat} {fs : List (Str × D)} {vs : List (Str × V)} {d : D} {y : V} (r : Rel G W H env st σ) (hC : G.mg cls = some (.ref C)) (hw : W a = some (.obj n)) (ha : H a = some (.ins C dx vs)) (nd : (fs.map Prod.fst).Nodup) (hf : FldsOk G.K W H n fs vs) (hy : Rep G.K W H d y) :
    Rel G W (upd H a (.ins C dx (putF f y vs))) env (st.set n (.ins cls (putD f d fs))) σ := by
  have mo : Mo W H W (upd H a (.ins C dx (putF f y vs))) := mo_tmp hw
  refine r.setObj hw ha plain_ins (fun _ z => by cases z) ⟨C, dx, _, hC, upd_same, putD_nodup nd, hf.put mo (fun b g _ q => ⟨q, upd_ne fun z => ?_⟩) (.of (Rep.mono mo _ _ hy)) nd⟩
  subst z
  rw [hw] at q
  cases q
theorem Rel.setFldOwn {cls f : Str} {C a dx : Addr} {n : Nat} {fs : List (Str × D)} {vs : List (Str × V)} {ds : List D} {p : Addr} (r : Rel G W H env st σ) (hC : G.mg cls = some (.ref C)) (hw : W a = some (.obj n)) (ha : H a = some (.ins C dx vs)) (nd : (fs.map Prod.fst).Nodup) (hf : FldsOk G.K W H n fs vs) (hp : W p = some .tmp) (hc : CL G.K W H ds p) :
    Rel G (tagW W p (some (.fld n f))) (upd H a (.ins C dx (putF f (.ref p) vs))) env (st.set n (.ins cls (putD f (.own ds) fs))) σ := by
  have r' := r.retag hp (t := .fld n f) (fun n z => by cases z)
  have hap : a ≠ p := fun z => by subst z; rw [hw] at hp; cases hp
  have hw' : tagW W p (some (.fld n f)) a = some (.obj n) := by rw [tagW_ne hap]; exact hw
  have m1 : Mo W H (tagW W p (some (.fld n f))) H := (exts_retag hp).mo
  have m2 : Mo (tagW W p (some (.fld n f))) H (tagW W p (some (.fld n f))) (upd H a (.ins C dx (putF f (.ref p) vs))) := mo_tmp hw'
  have mo : Mo W H (tagW W p (some (.fld n f))) (upd H a (.ins C dx (putF f (.ref p) vs))) := ⟨fun b u q1 q2 q3 => let ⟨z1, z2⟩ := m1.fr b u q1 q2 q3; m2.fr b u z1 z2 q3, fun b k q => m2.ob b k (m1.ob b k q), fun b us q1 q2 => let ⟨z1, z2⟩ := m1.tu b us q1 q2; m2.tu b us z1 z2⟩
  obtain ⟨vl, q1, q2⟩ := hc
  refine r'.setObj hw' ha plain_ins (fun _ z => by cases z) ⟨C, dx, _, hC, upd_same, putD_nodup nd, hf.put mo (fun b g hg q => ⟨?_, upd_ne fun z => ?_⟩) (d := .own ds) ⟨p, vl, rfl, tagW_same, by rw [upd_ne (Ne.symm hap)]; exact q1, Reps.mono mo _ _ q2⟩ nd⟩
  · rw [tagW_ne fun z => by subst z; rw [hp] at q; cases q]; exact q
  · subst z
    rw [hw] at q
    cases q
theorem Rel.setFldOwnD {cls f : Str} {C a dx : Addr} {n : Nat} {fs : List (Str × D)} {vs : List (Str × V)} {ds : Dc} {p : Addr} (r : Rel G W H env st σ) (hC : G.mg cls = some (.ref C)) (hw : W a = some (.obj n)) (ha : H a = some (.ins C dx vs)) (nd : (fs.map Prod.fst).Nodup) (hf : FldsOk G.K W H n fs vs) (hp : W p = some .tmp) (hc : CD G.K W H ds p) :
    Rel G (tagW W p (some (.fld n f))) (upd H a (.ins C dx (putF f (.ref p) vs))) env (st.set n (.ins cls (putD f (.ownd ds) fs))) σ := by
  have r' := r.retag hp (t := .fld n f) (fun n z => by cases z)
  have hap : a ≠ p := fun z => by subst z; rw [hw] at hp; cases hp
  have hw' : tagW W p (some (.fld n f)) a = some (.obj n) := by rw [tagW_ne hap]; exact hw
  have m1 : Mo W H (tagW W p (some (.fld n f))) H := (exts_retag hp).mo
  have m2 : Mo (tagW W p (some (.fld n f))) H (tagW W p (some (.fld n f))) (upd H a (.ins C dx (putF f (.ref p) vs))) := mo_tmp hw'
  have mo : Mo W H (tagW W p (some (.fld n f))) (upd H a (.ins C dx (putF f (.ref p) vs))) := ⟨fun b u q1 q2 q3 => let ⟨z1, z2⟩ := m1.fr b u q1 q2 q3; m2.fr b u z1 z2 q3, fun b k q => m2.ob b k (m1.ob b k q), fun b us q1 q2 => let ⟨z1, z2⟩ := m1.tu b us q1 q2; m2.tu b us z1 z2⟩
  refine r'.setObj hw' ha plain_ins (fun _ z => by cases z) ⟨C, dx, _, hC, upd_same, putD_nodup nd, hf.put mo (fun b g hg q => ⟨?_, upd_ne fun z => ?_⟩) (d := .ownd ds) ⟨p, rfl, tagW_same, ?_⟩ nd⟩
  · rw [tagW_ne fun z => by subst z; rw [hp] at q; cases q]; exact q
  · subst z
    rw [hw] at q
    cases q
  · rcases hc with ⟨ks, q1, q2⟩ | ⟨ks, q1, q2⟩
    · exact .inl ⟨ks, by rw [upd_ne (Ne.symm hap)]; exact q1, RepKc.mono mo _ _ q2⟩
    · exact .inr ⟨ks, by rw [upd_ne (Ne.symm hap)]; exact q1, RepTc.mono mo _ _ q2⟩
end
/-! ### o.f = e -/
section
variable {T : List (Addr × Str)} {X : Cx} {Wx : WX} {κ κ' : Bool} {a e o : Expr} {ma mo : M D} {C : Addr} {cls fn : Str} {p pos apos pos' tpos : Pos}
def sFldSet (cls fn : Str) (mo : M D) (m : M D) : Sm := fun env st => (m env st).out env fun d st1 => (mo env st1).out env fun od st2 => match objAt od st2 cls with
  | some (n, fs) => if fs.length < 900 then .nx env (st2.set n (.ins cls (putD fn d fs))) else .bad
  | none => .bad
def sFldOwn (cls fn : Str) (mo : M D) (m : M (List D)) : Sm := fun env st => (m env st).out env fun d st1 => (mo env st1).out env fun od st2 => match objAt od st2 cls with
  | some (n, fs) => if fs.length < 900 then .nx env (st2.set n (.ins cls (putD fn (.own d) fs))) else .bad
  | none => .bad
def sFldOwnD (cls fn : Str) (mo : M D) (m : M (Dc)) : Sm := fun env st => (m env st).out env fun d st1 => (mo env st1).out env fun od st2 => match objAt od st2 cls with
  | some (n, fs) => if fs.length < 900 then .nx env (st2.set n (.ins cls (putD fn (.ownd d) fs))) else .bad
  | none => .bad
theorem sv_fld (ho : EV κ T X Wx o mo) (hv : EV κ' T X Wx e ma) (hC : X.mg cls = some (.ref C)) (hc : Cls X.K C) (hn : NoAttr X.K C fn) (hs : swapsWith e (some (.Attribute o fn pos')) pos.line X.env = pure false := by rfl) : SV T X Wx (.Assign [.Attribute o fn pos'] e pos) (sFldSet cls fn mo ma) := by
  obtain ⟨t, pt, rt⟩ := ho.ex
  obtain ⟨tv, pv, rv⟩ := hv.ex
  refine ⟨_, ps_fld pt pv hs, fun W H env st σ D rl h => rv _ _ _ _ _ _ rl (SPost.of h fun d st1 W1 H1 y e1 r1 q1 h1 => rt _ _ _ _ _ _ r1 (SPost.of h1 fun od st2 W2 H2 v e2 r2 q2 h2 => ?_))⟩
  cases eo : objAt od st2 cls with
  | none => simp only [eo] at h2; exact h2.elim
  | some z =>
    obtain ⟨n, fs⟩ := z
    simp only [eo] at h2
    split at h2
    · rename_i hl
      obtain ⟨b, dx, vs, rfl, w, hb, nd, hf⟩ := r2.ins q2 eo hC
      exact ⟨b, C, dx, vs, rfl, hb, hc, hn, by have := hf.look (f := fn) |>.2.2; omega, h2 W2 _ σ (ext_obj w).s (r2.setFld hC w hb nd hf (Rep.mono e2.mo _ _ q1))⟩
    · exact h2.elim
theorem sv_fldOwn {ml : M (List D)} (ho : EV κ T X Wx o mo) (hv : NV κ' T X Wx e ml) (hC : X.mg cls = some (.ref C)) (hc : Cls X.K C) (hn : NoAttr X.K C fn) (hs : swapsWith e (some (.Attribute o fn pos')) pos.line X.env = pure false := by rfl) : SV T X Wx (.Assign [.Attribute o fn pos'] e pos) (sFldOwn cls fn mo ml) := by
  obtain ⟨t, pt, rt⟩ := ho.ex
  obtain ⟨tv, pv, rv⟩ := hv.ex
  refine ⟨_, ps_fld pt pv hs, fun W H env st σ D rl h => rv _ _ _ _ _ _ rl (SPost.ofN h fun d st1 W1 H1 p e1 r1 hp w1 q1 h1 => rt _ _ _ _ _ _ r1 (SPost.of h1 fun od st2 W2 H2 v e2 r2 q2 h2 => ?_))⟩
  cases eo : objAt od st2 cls with
  | none => simp only [eo] at h2; exact h2.elim
  | some z =>
    obtain ⟨n, fs⟩ := z
    simp only [eo] at h2
    split at h2
    · rename_i hl
      obtain ⟨b, dx, vs, rfl, w, hb, nd, hf⟩ := r2.ins q2 eo hC
      have w2 := e2.hl p _ w1 (by simp [Tag.held])
      obtain ⟨vl, c1, c2⟩ := q1
      have c : CL X.K W2 H2 d p := ⟨vl, w2.2.trans c1, Reps.mono e2.mo _ _ c2⟩
      have ex : ExtS W2 H2 (tagW W2 p (some (.fld n fn))) (upd H2 b (.ins C dx (putF fn (.ref p) vs))) := (exts_retag w2.1).trans (ext_obj (by rw [tagW_ne fun z => by subst z; rw [w] at w2; cases w2.1]; exact w)).s
      exact ⟨b, C, dx, vs, rfl, hb, hc, hn, by have := hf.look (f := fn) |>.2.2; omega, h2 _ _ σ ex (r2.setFldOwn hC w hb nd hf w2.1 c)⟩
    · exact h2.elim
theorem sv_fldOwnD {ml : M (Dc)} (ho : EV κ T X Wx o mo) (hv : NVd κ' T X Wx e ml) (hC : X.mg cls = some (.ref C)) (hc : Cls X.K C) (hn : NoAttr X.K C fn) (hs : swapsWith e (some (.Attribute o fn pos')) pos.line X.env = pure false := by rfl) : SV T X Wx (.Assign [.Attribute o fn pos'] e pos) (sFldOwnD cls fn mo ml) := by
  obtain ⟨t, pt, rt⟩ := ho.ex
  obtain ⟨tv, pv, rv⟩ := hv.ex
  refine ⟨_, ps_fld pt pv hs, fun W H env st σ D rl h => rv _ _ _ _ _ _ rl (SPost.ofN h fun d st1 W1 H1 p e1 r1 hp w1 q1 h1 => rt _ _ _ _ _ _ r1 (SPost.of h1 fun od st2 W2 H2 v e2 r2 q2 h2 => ?_))⟩
  cases eo : objAt od st2 cls with
  | none => simp only [eo] at h2; exact h2.elim
  | some z =>
    obtain ⟨n, fs⟩ := z
    simp only [eo] at h2
    split at h2
    · rename_i hl
      obtain ⟨b, dx, vs, rfl, w, hb, nd, hf⟩ := r2.ins q2 eo hC
      have w2 := e2.hl p _ w1 (by simp [Tag.held])
      have c : CD X.K W2 H2 d p := by
        rcases q1 with ⟨ks, c1, c2⟩ | ⟨ks, c1, c2⟩
        · exact .inl ⟨ks, w2.2.trans c1, RepKc.mono e2.mo _ _ c2⟩
        · exact .inr ⟨ks, w2.2.trans c1, RepTc.mono e2.mo _ _ c2⟩
      have ex : ExtS W2 H2 (tagW W2 p (some (.fld n fn))) (upd H2 b (.ins C dx (putF fn (.ref p) vs))) := (exts_retag w2.1).trans (ext_obj (by rw [tagW_ne fun z => by subst z; rw [w] at w2; cases w2.1]; exact w)).s
      exact ⟨b, C, dx, vs, rfl, hb, hc, hn, by have := hf.look (f := fn) |>.2.2; omega, h2 _ _ σ ex (r2.setFldOwnD hC w hb nd hf w2.1 c)⟩
    · exact h2.elim
/-- o.f op= e -/
def sFldAug (cls fn : Str) (op : D → D → Option D) (mo : M D) (m : M D) : Sm := fun env st => (mo env st).out env fun od st1 => match objAt od st1 cls with
  | some (n, fs) => match fs.lookup fn with
    | some (.own _) | some (.ownd _) | none => .bad
    | some dv => (m env st1).out env fun y st2 => match op dv y with
      | some z => match objAt od st2 cls with
        | some (n2, fs2) => if fs2.length < 900 then .nx env (st2.set n2 (.ins cls (putD fn z fs2))) else .bad
        | none => .bad
      | none => .bad
  | none => .bad
theorem sv_fldaug {opr : Operator} {op : D → D → Option D} {rd : V → V → Hp → VK → Prop} (hop : InOp X opr rd) (hrd : ∀ W H x y d1 d2 d Q, Rep X.K W H d1 x → Rep X.K W H d2 y → op d1 d2 = some d → (∀ v, Rep X.K W H d v → Q v H) → rd x y H Q)
    (ho : EV κ T X Wx o mo) (hv : EV κ' T X Wx e ma) (hC : X.mg cls = some (.ref C)) (hc : Cls X.K C) (hn : NoAttr X.K C fn) : SV T X Wx (.AugAssign (.Attribute o fn tpos) opr e pos) (sFldAug cls fn op mo ma) := by
  obtain ⟨t, pt, rt⟩ := ho.ex
  obtain ⟨tv, pv, rv⟩ := hv.ex
  refine ⟨_, ps_fldaug pt pv hop, fun W H env st σ D rl h => rt _ _ _ _ _ _ rl (SPost.of h fun od st1 W1 H1 v e1 r1 q1 h1 => ?_)⟩
  cases eo : objAt od st1 cls with
  | none => simp only [eo] at h1; exact h1.elim
  | some z =>
    obtain ⟨n, fs⟩ := z
    simp only [eo] at h1
    obtain ⟨b, dx, vs, rfl, w, hb, nd, hf⟩ := r1.ins q1 eo hC
    split at h1
    · exact h1.elim
    · exact h1.elim
    · exact h1.elim
    · rename_i dv n1 n2 el
      obtain ⟨v', l', q'⟩ := hf.look.1 _ el
      have q' := q'.rep (fun xs z => n1 xs (by rw [z])) fun xs z => n2 xs (by rw [z])
      refine ⟨b, C, dx, vs, v', rfl, hb, hc, hn, l', rv _ _ _ _ _ _ r1 (SPost.of h1 fun y st2 W2 H2 u e2 r2 q2 h2 => ?_)⟩
      cases ez : op dv y with
      | none => simp only [ez] at h2; exact h2.elim
      | some z =>
        simp only [ez] at h2
        refine hrd W2 H2 v' u dv y z _ (Rep.mono e2.mo _ _ q') q2 ez fun vz qz => ?_
        cases eo2 : objAt od st2 cls with
        | none => simp only [eo2] at h2; exact h2.elim
        | some z2 =>
          obtain ⟨n2', fs2⟩ := z2
          simp only [eo2] at h2
          split at h2
          · rename_i hl
            obtain ⟨b2, dx2, vs2, eb, w2, hb2, nd2, hf2⟩ := r2.ins (Rep.mono e2.mo _ _ q1) eo2 hC
            cases eb
            exact ⟨dx2, vs2, hb2, by have := hf2.look (f := fn) |>.2.2; omega, h2 W2 _ σ (ext_obj w2).s (r2.setFld hC w2 hb2 nd2 hf2 qz)⟩
          · exact h2.elim
theorem rd_add {K : PySem.W.Frag} : ∀ (W : Wm) (H : Hp) (x y : V) (d1 d2 d : D) (Q : VK), Rep K W H d1 x → Rep K W H d2 y → (fun a b => match a, b with | .int i, .int j => some (.int (i + j)) | _, _ => none : D → D → Option D) d1 d2 = some d → (∀ v, Rep K W H d v → Q v H) → rAdd x y H Q := fun W H x y d1 d2 d Q h1 h2 e q => by
  dsimp only at e
  split at e
  · cases e; rw [rep_int] at h1 h2; exact ⟨_, _, h1, h2, q _ (rep_int.mpr rfl)⟩
  · cases e
def dAddI : D → D → Option D
  | .int i, .int j => some (.int (i + j))
  | _, _ => none
theorem rd_addI {K : PySem.W.Frag} : ∀ (W : Wm) (H : Hp) (x y : V) (d1 d2 d : D) (Q : VK), Rep K W H d1 x → Rep K W H d2 y → dAddI d1 d2 = some d → (∀ v, Rep K W H d v → Q v H) → rAdd x y H Q := fun W H x y d1 d2 d Q h1 h2 e q => by
  unfold dAddI at e
  split at e
  · cases e; rw [rep_int] at h1 h2; exact ⟨_, _, h1, h2, q _ (rep_int.mpr rfl)⟩
  · cases e
theorem rd_subI {K : PySem.W.Frag} : ∀ (W : Wm) (H : Hp) (x y : V) (d1 d2 d : D) (Q : VK), Rep K W H d1 x → Rep K W H d2 y → dSub d1 d2 = some d → (∀ v, Rep K W H d v → Q v H) → rSub x y H Q := fun W H x y d1 d2 d Q h1 h2 e q => by
  unfold dSub at e
  split at e
  · cases e; rw [rep_int] at h1 h2; exact ⟨_, _, h1, h2, q _ (rep_int.mpr rfl)⟩
  · cases e
/-- x op= e, x a slot -/
def sAug (i : Nat) (op : D → D → Option D) (m : M D) : Sm := fun env st => match env[i]? with
  | some (some (.own _)) | some (some (.ownd _)) | some none | none => .bad
  | some (some d) => (m env st).out env fun y st2 => match op d y with
    | some z => .nx (env.set i (some z)) st2
    | none => .bad
theorem sv_aug (i : Nat) {x : Str} {opr : Operator} {op : D → D → Option D} {ti : TIp} (hN : X.N.Nodup) (ho : PIp X opr ti) (hti : ∀ W H x y d1 d2 d Q, Rep X.K W H d1 x → Rep X.K W H d2 y → op d1 d2 = some d → (∀ v, Rep X.K W H d v → Q v H) → ti x y H Q) (he : EV κ T X Wx e ma) (hi : X.N[i]? = some x := by rfl)
    (hx : Loc X.env.scope x := by first | exact Or.inl rfl | exact Or.inr rfl) (hf : X.fn x = true ∨ X.env.scope.names.lookup x = some .local := by first | exact .inl rfl | exact .inr rfl | assumption) : SV T X Wx (.AugAssign (.Name x pos') opr e pos) (sAug i op ma) := by
  obtain ⟨t, pt, rt⟩ := he.ex
  refine ⟨_, ps_aug hN hi hx pt ho hf, fun W H env st σ D rl h => ?_⟩
  unfold sAug at h
  split at h
  · exact h.elim
  · exact h.elim
  · exact h.elim
  · exact h.elim
  · rename_i d n1 n2 e0
    obtain ⟨v, q1, q2⟩ := rl.env.at_ i d e0
    have q2 := q2.rep (fun xs z => n1 xs (by rw [z])) fun xs z => n2 xs (by rw [z])
    refine ⟨v, q1, rt _ _ _ _ _ _ rl (SPost.of h fun y st2 W2 H2 u e2 r2 q3 h2 => ?_)⟩
    cases ez : op d y with
    | none => simp only [ez] at h2; exact h2.elim
    | some z =>
      simp only [ez] at h2
      exact hti W2 H2 v u d y z _ (Rep.mono e2.mo _ _ q2) q3 ez fun vz qz => h2.nx (r2.set i qz)
theorem ti_addI {K : PySem.W.Frag} : ∀ (W : Wm) (H : Hp) (x y : V) (d1 d2 d : D) (Q : VK), Rep K W H d1 x → Rep K W H d2 y → dAddI d1 d2 = some d → (∀ v, Rep K W H d v → Q v H) → ipI (fun i j => i + j) x y H Q := fun W H x y d1 d2 d Q h1 h2 e q => by
  unfold dAddI at e
  split at e
  · cases e; rw [rep_int] at h1 h2; exact ⟨_, _, h1, h2, q _ (rep_int.mpr rfl)⟩
  · cases e
theorem ti_subI {K : PySem.W.Frag} : ∀ (W : Wm) (H : Hp) (x y : V) (d1 d2 d : D) (Q : VK), Rep K W H d1 x → Rep K W H d2 y → dSub d1 d2 = some d → (∀ v, Rep K W H d v → Q v H) → ipI (fun i j => i - j) x y H Q := fun W H x y d1 d2 d Q h1 h2 e q => by
  unfold dSub at e
  split at e
  · cases e; rw [rep_int] at h1 h2; exact ⟨_, _, h1, h2, q _ (rep_int.mpr rfl)⟩
  · cases e
end
end Ev

set_option maxRecDepth 100000
set_option maxHeartbeats 4000000
/-! places: what is written at -/
namespace Ev
open PySem PySem.Spec PyProof.Rows L2
/-- the thing of the tag t stands at a now -/
def PlaceAt (G : Gx) (W : Wm) (H : Hp) (st : Sto) (σ : L2.St) (t : Tag) (a : Addr) : Prop := match t with
  | .slot i => σ[i]? = some (some (.ref a))
  | .obj n => W a = some (.obj n)
  | .fld n f => ∃ b C dx vs, W b = some (.obj n) ∧ H b = some (.ins C dx vs) ∧ vs.lookup f = some (.ref a)
  | _ => False
def contL (t : Tag) (env : Env) (st : Sto) : Option (List D) := match t with
  | .slot i => match env[i]? with
    | some (some (.own ds)) => some ds
    | _ => none
  | .obj n => match st[n]? with
    | some (.ls ds) => some ds
    | _ => none
  | .fld n f => match st[n]? with
    | some (.ins _ fs) => match fs.lookup f with
      | some (.own ds) => some ds
      | _ => none
    | _ => none
  | _ => none
def contD (t : Tag) (env : Env) (st : Sto) : Option (Dc) := match t with
  | .slot i => match env[i]? with
    | some (some (.ownd ds)) => some ds
    | _ => none
  | .fld n f => match st[n]? with
    | some (.ins _ fs) => match fs.lookup f with
      | some (.ownd ds) => some ds
      | _ => none
    | _ => none
  | _ => none
def setL (t : Tag) (ds : List D) (env : Env) (st : Sto) : Env × Sto := match t with
  | .slot i => (env.set i (some (.own ds)), st)
  | .obj n => (env, st.set n (.ls ds))
  | .fld n f => match st[n]? with
    | some (.ins c fs) => (env, st.set n (.ins c (putD f (.own ds) fs)))
    | _ => (env, st)
  | _ => (env, st)
def setDc (t : Tag) (ds : Dc) (env : Env) (st : Sto) : Env × Sto := match t with
  | .slot i => (env.set i (some (.ownd ds)), st)
  | .fld n f => match st[n]? with
    | some (.ins c fs) => (env, st.set n (.ins c (putD f (.ownd ds) fs)))
    | _ => (env, st)
  | _ => (env, st)
section
variable {G : Gx} {W : Wm} {H : Hp} {env : Env} {st : Sto} {σ : L2.St} {t : Tag} {a : Addr}
/-- an own list at its place -/
theorem place_own (r : Rel G W H env st σ) (p : PlaceAt G W H st σ t a) {d : D} (h : (∃ ds, contL t env st = some ds ∧ d = .own ds) ∨ ∃ ds, contD t env st = some ds ∧ d = .ownd ds) (ht : ∀ n, t ≠ .obj n) : At G.K W H t d (.ref a) := by
  cases t with
  | slot i =>
    have e : env[i]? = some (some d) := by
      rcases h with ⟨ds, h, rfl⟩ | ⟨ds, h, rfl⟩
      · unfold contL at h; dsimp only at h; split at h
        · rename_i e; cases h; exact e
        · cases h
      · unfold contD at h; dsimp only at h; split at h
        · rename_i e; cases h; exact e
        · cases h
    obtain ⟨v, q1, q2⟩ := r.env.at_ i d e
    have : v = .ref a := by
      have p : σ[i]? = some (some (.ref a)) := p
      rw [p] at q1
      exact (Option.some.inj (Option.some.inj q1)).symm
    rw [← this]
    exact q2
  | fld n f =>
    obtain ⟨b, C, dx, vs, h1, h2, h3⟩ := p
    obtain ⟨o, e, q⟩ := r.sto.obj b n h1
    have hl : ∃ c fs, o = .ins c fs ∧ fs.lookup f = some d := by
      rcases h with ⟨ds, h, rfl⟩ | ⟨ds, h, rfl⟩
      · unfold contL at h; dsimp only at h
        rw [e] at h
        cases o with
        | ls xs => cases h
        | ins c fs =>
          dsimp only at h
          split at h
          · rename_i e2; cases h; exact ⟨c, fs, rfl, e2⟩
          · cases h
      · unfold contD at h; dsimp only at h
        rw [e] at h
        cases o with
        | ls xs => cases h
        | ins c fs =>
          dsimp only at h
          split at h
          · rename_i e2; cases h; exact ⟨c, fs, rfl, e2⟩
          · cases h
    obtain ⟨c, fs, rfl, el⟩ := hl
    obtain ⟨C', dx', vs', g1, g2, nd, g3⟩ := q
    rw [h2] at g2
    cases g2
    obtain ⟨v, e1, q1⟩ := g3.look.1 _ el
    rw [h3] at e1
    cases e1
    exact q1
  | obj n => exact absurd rfl (ht n)
  | tmp => exact p.elim
  | ext => exact p.elim
theorem place_lst (r : Rel G W H env st σ) (p : PlaceAt G W H st σ t a) {ds : List D} (h : contL t env st = some ds) : W a = some t ∧ ∃ vs, H a = some (.lst vs) ∧ Reps G.K W H ds vs := by
  by_cases ht : ∃ n, t = .obj n
  · obtain ⟨n, rfl⟩ := ht
    have p : W a = some (.obj n) := p
    unfold contL at h
    dsimp only at h
    split at h
    · rename_i e; cases h; exact ⟨p, r.ls p e⟩
    · cases h
  · obtain ⟨b, vs, e, h1, h2, h3⟩ := place_own r p (.inl ⟨ds, h, rfl⟩) fun n z => ht ⟨n, z⟩
    cases e
    exact ⟨h1, vs, h2, h3⟩
theorem place_dct (r : Rel G W H env st σ) (p : PlaceAt G W H st σ t a) {ds : Dc} (h : contD t env st = some ds) : W a = some t ∧ ((∃ ks, H a = some (.dK ks) ∧ RepKc G.K W H ds ks) ∨ ∃ ks, H a = some (.dT ks) ∧ RepTc G.K W H ds ks) := by
  have ht : ∀ n, t ≠ .obj n := fun n z => by subst z; cases h
  obtain ⟨b, e, h1, h2⟩ := place_own r p (.inr ⟨ds, h, rfl⟩) ht
  cases e
  exact ⟨h1, h2⟩
theorem exts_upd {o : HO} (hw : W a = some t) (ht : t ≠ .ext) (ho : ∀ ps, o ≠ .tbl ps) : ExtS W H W (upd H a o) where
  fr := fun b u h q _ => ⟨h, by rw [upd_ne fun z => by subst z; rw [hw] at h; cases h]; exact q⟩
  ob := fun _ _ h => h
  ex := fun b h => ⟨h, upd_ne fun z => by subst z; rw [hw] at h; exact ht (Option.some.inj h)⟩
  th := upd_th2 ho
/-- a thing at its place is written -/
theorem place_upd (r : Rel G W H env st σ) (p : PlaceAt G W H st σ t a) {d : D} {o o' : HO} (hw : W a = some t) (ho : H a = some o') (pl : Plain o') (po : ∀ ps, o ≠ .tbl ps) (hd : At G.K W (upd H a o) t d (.ref a)) (h : (∃ ds, contL t env st ≠ none ∧ d = .own ds) ∨ ∃ ds, contD t env st ≠ none ∧ d = .ownd ds) (ht : ∀ n, t ≠ .obj n) :
    Rel G W (upd H a o) (match d with
      | .own ds => setL t ds env st
      | .ownd ds => setDc t ds env st
      | _ => (env, st)).1 (match d with
      | .own ds => setL t ds env st
      | .ownd ds => setDc t ds env st
      | _ => (env, st)).2 σ := by
  have mo : Mo W H W (upd H a o) := mo_tmp hw
  cases t with
  | slot i =>
    have p : σ[i]? = some (some (.ref a)) := p
    have st' : StoOk G W (upd H a o) st := by
      refine ⟨fun b n q => ?_, r.sto.uniq, fun b u q => ?_, tabs_upd r.sto.tabs ho pl⟩
      · obtain ⟨ob, e, ro⟩ := r.sto.obj b n q
        exact ⟨ob, e, ro.mono mo (upd_ne fun z => by subst z; rw [hw] at q; cases q) fun c f qc => ⟨qc, upd_ne fun z => by subst z; rw [hw] at qc; cases qc⟩⟩
      · by_cases z : b = a
        · subst z; rw [upd_same]; exact ⟨o, rfl, po⟩
        · rw [upd_ne z]; exact r.sto.used b u q
    have env' : EnvOk G.K W (upd H a o) (env.set i (some d)) σ := by
      refine ⟨by rw [List.length_set]; exact r.env.len, fun j d' e => ?_⟩
      by_cases hj : j = i
      · subst hj
        by_cases hl : j < env.length
        · rw [List.getElem?_set_self hl] at e
          cases e
          exact ⟨_, p, hd⟩
        · rw [List.getElem?_eq_none_iff.mpr (by rw [List.length_set]; omega)] at e
          cases e
      · rw [List.getElem?_set_ne (Ne.symm hj)] at e
        obtain ⟨v, q1, q2⟩ := r.env.at_ j d' e
        exact ⟨v, q1, q2.mono mo fun b qb => ⟨qb, upd_ne fun z => by subst z; rw [hw] at qb; cases qb; exact hj rfl⟩⟩
    rcases h with ⟨ds, _, rfl⟩ | ⟨ds, _, rfl⟩
    · exact ⟨st', env'⟩
    · exact ⟨st', env'⟩
  | fld n f =>
    obtain ⟨b, C, dx, vs, h1, h2, h3⟩ := p
    obtain ⟨ob, e, q⟩ := r.sto.obj b n h1
    have hc : ∃ c fs, ob = .ins c fs := by
      cases ob with
      | ins c fs => exact ⟨c, fs, rfl⟩
      | ls xs =>
        rcases h with ⟨ds, hn, _⟩ | ⟨ds, hn, _⟩
        · exact absurd (by unfold contL; dsimp only; rw [e]) hn
        · exact absurd (by unfold contD; dsimp only; rw [e]) hn
    obtain ⟨c, fs, rfl⟩ := hc
    obtain ⟨C', dx', vs', g1, g2, nd, g3⟩ := q
    rw [h2] at g2
    cases g2
    have hba : b ≠ a := fun z => by subst z; rw [hw] at h1; cases h1
    have nb : ∀ (fs : List (Str × D)) (vs : List (Str × V)), vs.lookup f = some (.ref a) → putF f (.ref a) vs = vs := fun _ vs hv => by
      induction vs with
      | nil => cases hv
      | cons x r ih =>
        obtain ⟨g, y⟩ := x
        unfold putF
        by_cases hg : g = f
        · subst hg
          have : List.lookup g ((g, y) :: r) = some y := by simp [List.lookup]
          rw [this] at hv
          rw [if_pos rfl, Option.some.inj hv]
        · rw [if_neg hg]
          have hb : (f == g) = false := by simpa using (Ne.symm hg)
          have : List.lookup f ((g, y) :: r) = r.lookup f := by simp [List.lookup, hb]
          rw [this] at hv
          rw [ih hv]
    have key : Rel G W (upd H a o) env (st.set n (.ins c (putD f d fs))) σ := by
      refine ⟨⟨fun b2 k q => ?_, r.sto.uniq, fun b2 u q => ?_, tabs_upd r.sto.tabs ho pl⟩, r.env.mono mo fun b2 i q => ⟨q, upd_ne fun z => by subst z; rw [hw] at q; cases q⟩⟩
      · by_cases hk : k = n
        · subst hk
          have := r.sto.uniq b2 b k q h1
          subst this
          refine ⟨_, List.getElem?_set_self (List.getElem?_eq_some_iff.mp e).1, C, dx, vs, g1, by rw [upd_ne hba]; exact h2, putD_nodup nd, ?_⟩
          rw [← nb fs vs h3]
          exact g3.put mo (fun b3 g hg q3 => ⟨q3, upd_ne fun z => by subst z; rw [hw] at q3; cases q3; exact hg rfl⟩) hd nd
        · obtain ⟨ob2, e2, ro⟩ := r.sto.obj b2 k q
          exact ⟨ob2, by rw [List.getElem?_set_ne (Ne.symm hk)]; exact e2, ro.mono mo (upd_ne fun z => by subst z; rw [hw] at q; cases q) fun b3 g q3 => ⟨q3, upd_ne fun z => by subst z; rw [hw] at q3; cases q3; exact hk rfl⟩⟩
      · by_cases z : b2 = a
        · subst z; rw [upd_same]; exact ⟨o, rfl, po⟩
        · rw [upd_ne z]; exact r.sto.used b2 u q
    rcases h with ⟨ds, _, rfl⟩ | ⟨ds, _, rfl⟩
    · have e1 : setL (.fld n f) ds env st = (env, st.set n (.ins c (putD f (.own ds) fs))) := by unfold setL; dsimp only; rw [e]
      dsimp only
      rw [e1]
      exact key
    · have e1 : setDc (.fld n f) ds env st = (env, st.set n (.ins c (putD f (.ownd ds) fs))) := by unfold setDc; dsimp only; rw [e]
      dsimp only
      rw [e1]
      exact key
  | obj n => exact absurd rfl (ht n)
  | tmp => exact p.elim
  | ext => exact p.elim
theorem place_updL (r : Rel G W H env st σ) (p : PlaceAt G W H st σ t a) {ds ds' : List D} {vs' : List V} (h : contL t env st = some ds) (hr : Reps G.K W H ds' vs') : Rel G W (upd H a (.lst vs')) (setL t ds' env st).1 (setL t ds' env st).2 σ ∧ ExtS W H W (upd H a (.lst vs')) := by
  obtain ⟨hw, vs, hv, _⟩ := place_lst r p h
  have mo : Mo W H W (upd H a (.lst vs')) := mo_tmp hw
  have hx : t ≠ .ext := fun z => by subst z; cases h
  refine ⟨?_, exts_upd hw hx (fun _ z => by cases z)⟩
  by_cases ht : ∃ n, t = .obj n
  · obtain ⟨n, rfl⟩ := ht
    exact r.setObj hw hv plain_lst (fun _ z => by cases z) ⟨vs', upd_same, Reps.mono mo _ _ hr⟩
  · exact place_upd r p (d := .own ds') hw hv plain_lst (fun _ z => by cases z) ⟨a, vs', rfl, hw, upd_same, Reps.mono mo _ _ hr⟩ (.inl ⟨ds', by rw [h]; simp, rfl⟩) fun n z => ht ⟨n, z⟩
theorem place_updD (r : Rel G W H env st σ) (p : PlaceAt G W H st σ t a) {ds ds' : Dc} (h : contD t env st = some ds) {o : HO} (hr : (∃ ks, o = .dK ks ∧ RepKc G.K W H ds' ks) ∨ ∃ ks, o = .dT ks ∧ RepTc G.K W H ds' ks) : Rel G W (upd H a o) (setDc t ds' env st).1 (setDc t ds' env st).2 σ ∧ ExtS W H W (upd H a o) := by
  obtain ⟨hw, hv⟩ := place_dct r p h
  have mo : Mo W H W (upd H a o) := mo_tmp hw
  have hx : t ≠ .ext := fun z => by subst z; cases h
  have ht : ∀ n, t ≠ .obj n := fun n z => by subst z; cases h
  have ⟨o', hv', pl⟩ : ∃ o', H a = some o' ∧ Plain o' := by
    rcases hv with ⟨ks, z, _⟩ | ⟨ks, z, _⟩
    · exact ⟨_, z, plain_dK⟩
    · exact ⟨_, z, plain_dT⟩
  have po : ∀ ps, o ≠ .tbl ps := fun ps z => by
    rcases hr with ⟨ks, z2, _⟩ | ⟨ks, z2, _⟩
    · rw [z2] at z; cases z
    · rw [z2] at z; cases z
  refine ⟨place_upd r p (d := .ownd ds') hw hv' pl po ⟨a, rfl, hw, ?_⟩ (.inr ⟨ds', by rw [h]; simp, rfl⟩) ht, exts_upd hw hx po⟩
  rcases hr with ⟨ks, rfl, q⟩ | ⟨ks, rfl, q⟩
  · exact .inl ⟨ks, upd_same, RepKc.mono mo _ _ q⟩
  · exact .inr ⟨ks, upd_same, RepTc.mono mo _ _ q⟩
end
/-! ### a place, told by an expression -/
def PostP (κ κe : Bool) (G : Gx) (Wx : WX) (W : Wm) (H : Hp) (env : Env) (σ : L2.St) (r : Res Tag) (Q : V → Hp → Prop) : Prop := match r with
  | .ok t st => ∀ W' H' a, Ext κ W H W' H' → Rel G W' H' env st σ → (∀ W2 H2 st2, Ext κe W' H' W2 H2 → Rel G W2 H2 env st2 σ → PlaceAt G W2 H2 st2 σ t a) → Q (.ref a) H'
  | .exc x st => ∀ W' H' c d, Ext false W H W' H' → Rel G W' H' env st σ → ExnRep G W' H' x c d → Wx c d σ H'
  | .bad => False
structure PlV (κ κe : Bool) (T : List (Addr × Str)) (X : Cx) (Wx : WX) (e : Expr) (m : M Tag) : Prop where
  ex : ∃ t, PE X e t ∧ ∀ W H env st σ Q, Rel (Gof X T) W H env st σ → PostP κ κe (Gof X T) Wx W H env σ (m env st) Q → t σ H Q
section
variable {T : List (Addr × Str)} {X : Cx} {Wx : WX} {κ κ' κe κi : Bool} {a e i o : Expr} {ma mi mo : M D} {C : Addr} {cls fn : Str} {p pos apos cpos pos' tpos : Pos}
/-- a slot's own list or dict -/
def pSlot (i : Nat) : M Tag := fun env st => match env[i]? with
  | some (some (.own _)) | some (some (.ownd _)) => .ok (.slot i) st
  | _ => .bad
theorem pl_slot (i : Nat) {x : Str} (hN : X.N[i]? = some x := by rfl) (hv : Vis X.env.scope x := by first | exact Or.inl rfl | exact Or.inr (Or.inl rfl) | exact Or.inr (Or.inr rfl)) (hd : (x == ("__debug__" : Str)) = false := by decide)
    (hcd : (x == ("__classdict__" : Str)) = false := by decide) : PlV true κe T X Wx (.Name x pos) (pSlot i) :=
  ⟨_, pe_var hN hv hd hcd, fun W H env st σ Q r h => by
    unfold pSlot at h
    split at h
    · rename_i ds e
      obtain ⟨v, q1, b, vs, rfl, q2⟩ := r.env.at_ i _ e
      exact ⟨.ref b, q1, h W H b Ext.refl r fun _ _ _ _ _ => q1⟩
    · rename_i ds e
      obtain ⟨v, q1, b, rfl, q2⟩ := r.env.at_ i _ e
      exact ⟨.ref b, q1, h W H b Ext.refl r fun _ _ _ _ _ => q1⟩
    · exact h.elim⟩
/-- a list of the store -/
def pObj (m : M D) : M Tag := mUn m fun d st => match d with
  | .loc n => .ok (.obj n) st
  | _ => .bad
theorem pl_obj (h : EV κ T X Wx e ma) : PlV κ κe T X Wx e (pObj ma) := by
  obtain ⟨t, pt, rt⟩ := h.ex
  refine ⟨_, pt, fun W H env st σ Q rl h => rt _ _ _ _ _ _ rl ?_⟩
  unfold pObj mUn at h
  cases em : ma env st with
  | exc x st' => rw [em] at h; exact h
  | bad => rw [em] at h; exact h.elim
  | ok d st' =>
    rw [em] at h
    intro W' H' v ex r q
    cases d with
    | loc n =>
      obtain ⟨b, rfl, w⟩ := rep_loc.mp q
      exact h W' H' b ex r fun W2 H2 st2 e2 r2 => e2.ob b n w
    | _ => exact h.elim
/-- o.f, an own list or dict -/
def pFld (cls fn : Str) (mo : M D) : M Tag := mUn mo fun d st => match objAt d st cls with
  | some (n, fs) => match fs.lookup fn with
    | some (.own _) | some (.ownd _) => .ok (.fld n fn) st
    | _ => .bad
  | none => .bad
theorem pl_fld (ho : EV κ T X Wx o mo) (hC : X.mg cls = some (.ref C)) (hc : Cls X.K C) (hn : NoAttr X.K C fn) (hb : attributeBase o fn X.env (eval o X.env) = eval o X.env := by rfl) : PlV κ true T X Wx (.Attribute o fn pos) (pFld cls fn mo) := by
  obtain ⟨t, pt, rt⟩ := ho.ex
  refine ⟨_, pe_fld pt hb, fun W H env st σ Q rl h => rt _ _ _ _ _ _ rl ?_⟩
  unfold pFld mUn at h
  cases em : mo env st with
  | exc x st' => rw [em] at h; exact h
  | bad => rw [em] at h; exact h.elim
  | ok d st' =>
    rw [em] at h
    intro W' H' v ex r q
    have h : PostP κ true (Gof X T) Wx W H env σ (match objAt d st' cls with
      | some (n, fs) => match fs.lookup fn with
        | some (.own _) | some (.ownd _) => .ok (.fld n fn) st'
        | _ => .bad
      | none => .bad) Q := h
    cases eo : objAt d st' cls with
    | none => simp only [eo] at h; exact h.elim
    | some z =>
      obtain ⟨n, fs⟩ := z
      simp only [eo] at h
      obtain ⟨b, dx, vs, rfl, w, hb', nd, hf⟩ := r.ins q eo hC
      have fin : ∀ d', fs.lookup fn = some d' → ((∃ ds, d' = .own ds) ∨ ∃ ds, d' = .ownd ds) → ∃ c, vs.lookup fn = some (.ref c) ∧ At (Gof X T).K W' H' (.fld n fn) d' (.ref c) := fun d' el hk => by
        obtain ⟨v', l', q'⟩ := hf.look.1 _ el
        rcases hk with ⟨ds, rfl⟩ | ⟨ds, rfl⟩
        · obtain ⟨c, _, rfl, _⟩ := id q'; exact ⟨c, l', q'⟩
        · obtain ⟨c, rfl, _⟩ := id q'; exact ⟨c, l', q'⟩
      have stay : ∀ c, vs.lookup fn = some (.ref c) → ∀ W2 H2 st2, Ext true W' H' W2 H2 → Rel (Gof X T) W2 H2 env st2 σ → PlaceAt (Gof X T) W2 H2 st2 σ (.fld n fn) c := fun c l W2 H2 st2 e2 r2 => by
        obtain ⟨x1, x2⟩ := e2.hl b _ w rfl
        exact ⟨b, C, dx, vs, x1, x2.trans hb', l⟩
      split at h
      · rename_i ds el
        obtain ⟨c, l, _⟩ := fin _ el (.inl ⟨ds, rfl⟩)
        exact ⟨b, C, dx, vs, .ref c, rfl, hb', hc, hn, l, h W' H' c ex r (stay c l)⟩
      · rename_i ds el
        obtain ⟨c, l, _⟩ := fin _ el (.inr ⟨ds, rfl⟩)
        exact ⟨b, C, dx, vs, .ref c, rfl, hb', hc, hn, l, h W' H' c ex r (stay c l)⟩
      · exact h.elim
end
end Ev

set_option maxRecDepth 100000
set_option maxHeartbeats 4000000
/-! dicts by content; places written -/
namespace Ev
open PySem PySem.Spec PyProof.Rows L2
/-! ### keys -/
theorem keyD_eqv (a b : Key) : D.eqv (keyD a) (keyD b) = decide (a = b) := by
  cases a <;> cases b <;> simp [keyD, D.eqv] <;> exact Bool.beq_eq_decide_eq _ _
theorem keysD_eqv : ∀ as bs : List Key, eqvL (as.map keyD) (bs.map keyD) = decide (as = bs)
  | [], [] => by simp [eqvL]
  | [], b :: bs => by simp [eqvL]
  | a :: as, [] => by simp [eqvL]
  | a :: as, b :: bs => by
    rw [List.map_cons, List.map_cons, eqvL, keyD_eqv, keysD_eqv as bs]
    by_cases h : a = b <;> by_cases h2 : as = bs <;> simp [h, h2]
def dKey? : D → Option Key
  | .int i => some (.inl i)
  | .str x => some (.inr x)
  | _ => none
def dKeys? : List D → Option (List Key)
  | [] => some []
  | d :: ds => match dKey? d, dKeys? ds with
    | some k, some ks => some (k :: ks)
    | _, _ => none
theorem dKey_some {d : D} {k : Key} (h : dKey? d = some k) : d = keyD k := by
  unfold dKey? at h
  split at h <;> first | (cases h; rfl) | cases h
theorem dKeys_some : ∀ {ds : List D} {ks : List Key}, dKeys? ds = some ks → ds = ks.map keyD
  | [], ks, h => by unfold dKeys? at h; cases h; rfl
  | d :: ds, ks, h => by
    unfold dKeys? at h
    split at h
    · rename_i k ks' e1 e2
      cases h
      rw [dKey_some e1, dKeys_some e2]; rfl
    · cases h
def dLook (kvs : List (D × D)) (k : D) : Option D := (kvs.find? fun p => D.eqv p.1 k).map (·.2)
def dPut (kvs : List (D × D)) (k d : D) : List (D × D) := if (kvs.any fun p => D.eqv p.1 k) = true then kvs.map (fun p => if D.eqv p.1 k = true then (p.1, d) else p) else kvs ++ [(k, d)]
def dDrop (kvs : List (D × D)) (k : D) : List (D × D) := kvs.filter fun p => !D.eqv p.1 k
section
variable {K : PySem.W.Frag} {W : Wm} {H : Hp}
theorem RepK.length : ∀ {kvs : List (D × D)} {ks : List (Key × V)}, RepK K W H kvs ks → kvs.length = ks.length
  | [], ks, h => by unfold RepK at h; subst h; rfl
  | (k, d) :: r, ks, h => by unfold RepK at h; obtain ⟨k', v, r', rfl, _, _, h2⟩ := h; simp [RepK.length h2]
theorem RepT.length : ∀ {kvs : List (D × D)} {ks : List (List Key × V)}, RepT K W H kvs ks → kvs.length = ks.length
  | [], ks, h => by unfold RepT at h; subst h; rfl
  | (k, d) :: r, ks, h => by unfold RepT at h; obtain ⟨k', v, r', rfl, _, _, h2⟩ := h; simp [RepT.length h2]
theorem RepK.look (k : Key) : ∀ {kvs : List (D × D)} {ks : List (Key × V)}, RepK K W H kvs ks → (∀ d, dLook kvs (keyD k) = some d → ∃ v, valV ks k = some v ∧ Rep K W H d v) ∧ (dLook kvs (keyD k) = none → valV ks k = none)
  | [], ks, h => by unfold RepK at h; subst h; exact ⟨fun d z => (by cases z), fun _ => rfl⟩
  | (q, d) :: r, ks, h => by
    unfold RepK at h
    obtain ⟨k', v, r', rfl, rfl, h1, h2⟩ := h
    by_cases e : k' = k
    · subst e
      have e1 : dLook ((keyD k', d) :: r) (keyD k') = some d := by simp [dLook, keyD_eqv]
      have e2 : valV ((k', v) :: r') k' = some v := valV_pos rfl
      exact ⟨fun d' z => (by rw [e1] at z; cases z; exact ⟨v, e2, h1⟩), fun z => (by rw [e1] at z; cases z)⟩
    · have e1 : dLook ((keyD k', d) :: r) (keyD k) = dLook r (keyD k) := by simp [dLook, keyD_eqv, e]
      have e2 : valV ((k', v) :: r') k = valV r' k := valV_neg e
      rw [e1, e2]
      exact RepK.look k h2
theorem RepT.look (k : List Key) : ∀ {kvs : List (D × D)} {ks : List (List Key × V)}, RepT K W H kvs ks → (∀ d, dLook kvs (.tup (k.map keyD)) = some d → ∃ v, valV ks k = some v ∧ Rep K W H d v) ∧ (dLook kvs (.tup (k.map keyD)) = none → valV ks k = none)
  | [], ks, h => by unfold RepT at h; subst h; exact ⟨fun d z => (by cases z), fun _ => rfl⟩
  | (q, d) :: r, ks, h => by
    unfold RepT at h
    obtain ⟨k', v, r', rfl, rfl, h1, h2⟩ := h
    by_cases e : k' = k
    · subst e
      have e1 : dLook ((.tup (k'.map keyD), d) :: r) (.tup (k'.map keyD)) = some d := by simp [dLook, D.eqv, keysD_eqv]
      have e2 : valV ((k', v) :: r') k' = some v := valV_pos rfl
      exact ⟨fun d' z => (by rw [e1] at z; cases z; exact ⟨v, e2, h1⟩), fun z => (by rw [e1] at z; cases z)⟩
    · have e1 : dLook ((.tup (k'.map keyD), d) :: r) (.tup (k.map keyD)) = dLook r (.tup (k.map keyD)) := by simp [dLook, D.eqv, keysD_eqv, e]
      have e2 : valV ((k', v) :: r') k = valV r' k := valV_neg e
      rw [e1, e2]
      exact RepT.look k h2
theorem any_isSome {kvs : List (D × D)} {k : D} : (kvs.any fun p => D.eqv p.1 k) = (dLook kvs k).isSome := by
  unfold dLook
  rw [Option.isSome_map, Bool.eq_iff_iff, List.find?_isSome, List.any_eq_true]
theorem RepK.append : ∀ {kvs : List (D × D)} {ks : List (Key × V)} {k : Key} {d : D} {v : V}, RepK K W H kvs ks → Rep K W H d v → RepK K W H (kvs ++ [(keyD k, d)]) (ks ++ [(k, v)])
  | [], ks, k, d, v, h, q => by
    unfold RepK at h; subst h
    show RepK K W H [(keyD k, d)] [(k, v)]
    unfold RepK
    exact ⟨k, v, [], rfl, rfl, q, by unfold RepK; rfl⟩
  | (k0, d0) :: r, ks, k, d, v, h, q => by
    unfold RepK at h
    obtain ⟨k', v', r', rfl, e, h1, h2⟩ := h
    show RepK K W H ((k0, d0) :: (r ++ [(keyD k, d)])) ((k', v') :: (r' ++ [(k, v)]))
    unfold RepK
    exact ⟨k', v', _, rfl, e, h1, RepK.append h2 q⟩
theorem RepK.repl {k : Key} {d : D} {v : V} (q : Rep K W H d v) : ∀ {kvs : List (D × D)} {ks : List (Key × V)}, RepK K W H kvs ks → RepK K W H (kvs.map fun p => if D.eqv p.1 (keyD k) = true then (p.1, d) else p) (ks.map fun kv => if kv.1 = k then (kv.1, v) else kv)
  | [], ks, h => by unfold RepK at h; subst h; unfold RepK; rfl
  | (k0, d0) :: r, ks, h => by
    unfold RepK at h
    obtain ⟨k', v', r', rfl, rfl, h1, h2⟩ := h
    have ih := RepK.repl (k := k) q h2
    rw [List.map_cons, List.map_cons]
    by_cases e : k' = k
    · subst e
      rw [if_pos (by rw [keyD_eqv]; simp), if_pos rfl]
      unfold RepK
      exact ⟨k', v, _, rfl, rfl, q, ih⟩
    · rw [if_neg (by rw [keyD_eqv]; simpa using e), if_neg e]
      unfold RepK
      exact ⟨k', v', _, rfl, rfl, h1, ih⟩
theorem RepK.put {kvs : List (D × D)} {ks : List (Key × V)} {k : Key} {d : D} {v : V} (h : RepK K W H kvs ks) (q : Rep K W H d v) : RepK K W H (dPut kvs (keyD k) d) (putK ks k v) := by
  have e : (kvs.any fun p => D.eqv p.1 (keyD k)) = (ks.any fun kv => decide (kv.1 = k)) := by
    rw [any_isSome, valV_any]
    have l := h.look k
    cases hl : dLook kvs (keyD k) with
    | none => rw [l.2 hl]; rfl
    | some d' => obtain ⟨v', e', _⟩ := l.1 _ hl; rw [e']; rfl
  unfold dPut putK
  rw [e]
  split
  · exact h.repl q
  · exact h.append q
theorem RepK.drop {k : Key} : ∀ {kvs : List (D × D)} {ks : List (Key × V)}, RepK K W H kvs ks → RepK K W H (dDrop kvs (keyD k)) (dropK ks k)
  | [], ks, h => by unfold RepK at h; subst h; unfold dDrop dropK; simp; unfold RepK; rfl
  | (k0, d0) :: r, ks, h => by
    unfold RepK at h
    obtain ⟨k', v', r', rfl, rfl, h1, h2⟩ := h
    have ih := RepK.drop (k := k) h2
    unfold dDrop dropK at ih ⊢
    by_cases e : k' = k
    · subst e
      rw [List.filter_cons_of_neg (by rw [keyD_eqv]; simp), List.filter_cons_of_neg (by simp)]
      exact ih
    · rw [List.filter_cons_of_pos (by rw [keyD_eqv]; simpa using e), List.filter_cons_of_pos (by simpa using e)]
      unfold RepK
      exact ⟨k', v', _, rfl, rfl, h1, ih⟩
theorem RepT.append : ∀ {kvs : List (D × D)} {ks : List (List Key × V)} {k : List Key} {d : D} {v : V}, RepT K W H kvs ks → Rep K W H d v → RepT K W H (kvs ++ [(.tup (k.map keyD), d)]) (ks ++ [(k, v)])
  | [], ks, k, d, v, h, q => by
    unfold RepT at h; subst h
    show RepT K W H [(.tup (k.map keyD), d)] [(k, v)]
    unfold RepT
    exact ⟨k, v, [], rfl, rfl, q, by unfold RepT; rfl⟩
  | (k0, d0) :: r, ks, k, d, v, h, q => by
    unfold RepT at h
    obtain ⟨k', v', r', rfl, e, h1, h2⟩ := h
    show RepT K W H ((k0, d0) :: (r ++ [(.tup (k.map keyD), d)])) ((k', v') :: (r' ++ [(k, v)]))
    unfold RepT
    exact ⟨k', v', _, rfl, e, h1, RepT.append h2 q⟩
theorem RepT.repl {k : List Key} {d : D} {v : V} (q : Rep K W H d v) : ∀ {kvs : List (D × D)} {ks : List (List Key × V)}, RepT K W H kvs ks → RepT K W H (kvs.map fun p => if D.eqv p.1 (.tup (k.map keyD)) = true then (p.1, d) else p) (ks.map fun kv => if kv.1 = k then (kv.1, v) else kv)
  | [], ks, h => by unfold RepT at h; subst h; unfold RepT; rfl
  | (k0, d0) :: r, ks, h => by
    unfold RepT at h
    obtain ⟨k', v', r', rfl, rfl, h1, h2⟩ := h
    have ih := RepT.repl (k := k) q h2
    rw [List.map_cons, List.map_cons]
    by_cases e : k' = k
    · subst e
      rw [if_pos (by simp [D.eqv, keysD_eqv]), if_pos rfl]
      unfold RepT
      exact ⟨k', v, _, rfl, rfl, q, ih⟩
    · rw [if_neg (by simpa [D.eqv, keysD_eqv] using e), if_neg e]
      unfold RepT
      exact ⟨k', v', _, rfl, rfl, h1, ih⟩
theorem RepT.put {kvs : List (D × D)} {ks : List (List Key × V)} {k : List Key} {d : D} {v : V} (h : RepT K W H kvs ks) (q : Rep K W H d v) : RepT K W H (dPut kvs (.tup (k.map keyD)) d) (putK ks k v) := by
  have e : (kvs.any fun p => D.eqv p.1 (.tup (k.map keyD))) = (ks.any fun kv => decide (kv.1 = k)) := by
    rw [any_isSome, valV_any]
    have l := h.look k
    cases hl : dLook kvs (.tup (k.map keyD)) with
    | none => rw [l.2 hl]; rfl
    | some d' => obtain ⟨v', e', _⟩ := l.1 _ hl; rw [e']; rfl
  unfold dPut putK
  rw [e]
  split
  · exact h.repl q
  · exact h.append q
/-- a key as it stands -/
theorem rep_key {k : Key} {v : V} : Rep K W H (keyD k) v ↔ v = kV k := by
  cases k with
  | inl i => exact rep_int
  | inr x => exact rep_str
theorem reps_keys : ∀ {ks : List Key} {vs : List V}, Reps K W H (ks.map keyD) vs → vs = ks.map kV
  | [], vs, h => by simpa [Reps] using h
  | k :: ks, vs, h => by
    rw [List.map_cons] at h
    unfold Reps at h
    obtain ⟨v, r, rfl, h1, h2⟩ := h
    rw [rep_key.mp h1, reps_keys h2]; rfl
end
/-- does a key fit a dict's kind? -/
def keyOk (t : Bool) (k : D) : Bool := if t = true then (match k with
  | .tup ks => (dKeys? ks).isSome
  | _ => false) else (dKey? k).isSome
section
variable {K : PySem.W.Frag} {W : Wm} {H : Hp}
theorem keyOk_K {k : D} {y : V} (h : keyOk false k = true) (hk : Rep K W H k y) : ∃ q : Key, k = keyD q ∧ y = kV q := by
  unfold keyOk at h
  rw [if_neg Bool.false_ne_true, Option.isSome_iff_exists] at h
  obtain ⟨q, e⟩ := h
  have e := dKey_some e
  subst e
  exact ⟨q, rfl, rep_key.mp hk⟩
theorem keyOk_T {k : D} {y : V} (h : keyOk true k = true) (hk : Rep K W H k y) : ∃ (q : List Key) (b : Addr), k = .tup (q.map keyD) ∧ y = .ref b ∧ H b = some (.tup (q.map kV)) ∧ W b = none := by
  unfold keyOk at h
  rw [if_pos rfl] at h
  cases k with
  | tup ks =>
    dsimp only at h
    rw [Option.isSome_iff_exists] at h
    obtain ⟨q, e⟩ := h
    have e := dKeys_some e
    subst e
    obtain ⟨b, vs, rfl, tb, r⟩ := rep_tup.mp hk
    rw [reps_keys r] at tb
    exact ⟨q, b, rfl, rfl, tb.2, tb.1⟩
  | _ => cases h
/-- the layer's look-up, by contents -/
theorem dget_of {c : Dc} {a : Addr} {k : D} {y : V} (hd : (∃ ks, Rd H a (.dK ks) ∧ RepKc K W H c ks) ∨ ∃ ks, Rd H a (.dT ks) ∧ RepTc K W H c ks) (hk : Rep K W H k y) (hf : keyOk c.1 k = true) :
    ∃ o, DGet H a y o ∧ (∀ d, dLook c.2 k = some d → ∃ v, o = some v ∧ Rep K W H d v) ∧ (dLook c.2 k = none → o = none) := by
  rcases hd with ⟨ks, z, ct, q⟩ | ⟨ks, z, ct, q⟩
  · rw [ct] at hf
    obtain ⟨k', rfl, rfl⟩ := keyOk_K hf hk
    have l := q.look k'
    exact ⟨valV ks k', .inl ⟨ks, k', z, rfl, rfl⟩, l.1, l.2⟩
  · rw [ct] at hf
    obtain ⟨k', b, rfl, rfl, hb, _⟩ := keyOk_T hf hk
    have l := q.look k'
    exact ⟨valV ks k', .inr ⟨ks, k', b, z, rfl, hb, rfl⟩, l.1, l.2⟩
/-- a store, by contents -/
theorem dput_of {c : Dc} {a : Addr} {k d : D} {y v : V} (hd : (∃ ks, H a = some (.dK ks) ∧ RepKc K W H c ks) ∨ ∃ ks, H a = some (.dT ks) ∧ RepTc K W H c ks) (hk : Rep K W H k y) (hv : Rep K W H d v) (hf : keyOk c.1 k = true) (hl : c.2.length < sizeLine) :
    ∃ o, DPut H a y v (upd H a o) ∧ ((∃ ks, o = .dK ks ∧ RepKc K W H (c.1, dPut c.2 k d) ks) ∨ ∃ ks, o = .dT ks ∧ RepTc K W H (c.1, dPut c.2 k d) ks) := by
  rcases hd with ⟨ks, z, ct, q⟩ | ⟨ks, z, ct, q⟩
  · rw [ct] at hf
    obtain ⟨k', rfl, rfl⟩ := keyOk_K hf hk
    exact ⟨_, .inl ⟨ks, k', z, rfl, by rw [← q.length]; exact hl, rfl⟩, .inl ⟨_, rfl, ct, q.put hv⟩⟩
  · rw [ct] at hf
    obtain ⟨k', b, rfl, rfl, hb, _⟩ := keyOk_T hf hk
    exact ⟨_, .inr ⟨ks, k', b, z, rfl, hb, by rw [← q.length]; exact hl, rfl⟩, .inr ⟨_, rfl, ct, q.put hv⟩⟩
end
/-! ### d[k], k in d -/
section
variable {T : List (Addr × Str)} {X : Cx} {Wx : WX} {κ κ' κa κb κi κe : Bool} {a b e i o : Expr} {ma mb mi : M D} {pos p tpos pos' apos cpos : Pos} {R1 R2 : Wm → Hp → D → V → Prop}
def dItem (d k : D) : Option D := match d with
  | .dct c => if keyOk c.1 k = true then dLook c.2 k else none
  | _ => none
theorem ev_dget (hu : X.A.units + 1 < cLine) (ha : EVg κ R1 T X Wx a ma) (hb : EV κ' T X Wx b mb) (hs : NoSl b := by exact fun _ _ => rfl) (S : Stands κ' R1 := by first | exact Stands.rep | exact Stands.held | exact Stands.cur) (c1 : ToCur X R1 := by first | exact ToCur.rep | exact ToCur.held | exact ToCur.cur) :
    EV (κ && κ') T X Wx (.Subscript a b pos) (mBin ma mb (pure2 dItem)) := by
  obtain ⟨ta, pa, ra⟩ := ha.ex
  obtain ⟨tb, pb, rb⟩ := hb.ex
  refine ⟨_, pe_dget hu pa pb hs, fun W H env st σ Q rl h => ra _ _ _ _ _ _ rl (h.bind and21 fun d st1 W1 H1 v e1 r1 q1 h1 => rb _ _ _ _ _ _ r1 (h1.bind and22 fun k st2 W2 H2 u e2 r2 q2 h2 => ?_))⟩
  have q1' := c1 _ _ _ _ (S _ _ _ _ _ _ e2 q1)
  unfold pure2 dItem at h2
  cases d with
  | dct c =>
    dsimp only at h2
    split at h2
    · rename_i hf
      cases el : dLook c.2 k with
      | none => rw [el] at h2; exact h2.elim
      | some d' =>
        rw [el] at h2
        obtain ⟨ad, rfl, hd⟩ := CRep.dct q1'
        obtain ⟨o, g, g1, _⟩ := dget_of hd q2 hf
        obtain ⟨v', rfl, q'⟩ := g1 _ el
        exact ⟨ad, v', rfl, g, Post.ok h2 r2 q'⟩
    · exact h2.elim
  | _ => exact h2.elim
/-- in and not in: a list, a tuple, a dict, a text -/
theorem op_inDict (hu : X.A.units + 1 < cLine) : OpR X (compareOp .In) (fun x y H Q => ∃ a o, y = .ref a ∧ DGet H a x o ∧ Q (.bl o.isSome) H) := by
  intro pins s σ H x y v u Q I rx ry ⟨a, o, ey, g, q⟩
  subst ey
  cases ry
  exact d_in hu I g rx fun s' I' => ⟨.bl _, H, I', rfl, q⟩
theorem op_notInDict (hu : X.A.units + 1 < cLine) : OpR X (compareOp .NotIn) (fun x y H Q => ∃ a o, y = .ref a ∧ DGet H a x o ∧ Q (.bl (!o.isSome)) H) := by
  intro pins s σ H x y v u Q I rx ry ⟨a, o, ey, g, q⟩
  subst ey
  cases ry
  exact d_notIn hu I g rx fun s' I' => ⟨.bl _, H, I', rfl, q⟩
def subStr (x y : Str) : Bool := !(Builtin.Str.occurrences y x 0 y.length 1).isEmpty
def isIn (x y : D) : Option Bool := match y with
  | .lst xs => if okN 59 x = true ∧ xs.all (okN 59) = true then some (xs.any fun z => D.eqv z x) else none
  | .tup xs => if okN 59 x = true ∧ xs.all (okN 59) = true then some (xs.any fun z => D.eqv z x) else none
  | .dct c => if keyOk c.1 x = true then some (dLook c.2 x).isSome else none
  | .str z => match x with
    | .str w => some (subStr w z)
    | _ => none
  | _ => none
def dIn (x y : D) : Option D := (isIn x y).map .bl
def dNotIn (x y : D) : Option D := (isIn x y).map fun b => .bl !b
def rInAll (K : PySem.W.Frag) : L2.R2 := fun x y H Q => rInW K false x y H Q ∨ (∃ a o, y = .ref a ∧ DGet H a x o ∧ Q (.bl o.isSome) H) ∨ ∃ i j, x = .str i ∧ y = .str j ∧ Q (.bl (!(Builtin.Str.occurrences j i 0 j.length 1).isEmpty)) H
def rNotInAll (K : PySem.W.Frag) : L2.R2 := fun x y H Q => rInW K true x y H Q ∨ (∃ a o, y = .ref a ∧ DGet H a x o ∧ Q (.bl (!o.isSome)) H) ∨ ∃ i j, x = .str i ∧ y = .str j ∧ Q (.bl (!(!(Builtin.Str.occurrences j i 0 j.length 1).isEmpty))) H
theorem op_inAll (hu : X.A.units + 64 < cLine) : OpR X (compareOp .In) (rInAll X.K) := (op_inW hu).or ((op_inDict (by omega)).or op_in_str)
theorem op_notInAll (hu : X.A.units + 64 < cLine) : OpR X (compareOp .NotIn) (rNotInAll X.K) := (op_notInW hu).or ((op_notInDict (by omega)).or L2.op_notin_str)
theorem in_read {W : Wm} {H : Hp} {x y : V} {d e : D} {b : Bool} (h1 : Rep X.K W H d x) (h2 : CRep X.K W H e y) (h : isIn d e = some b) :
    (okN 59 d = true ∧ ∃ xs, (∀ z ∈ xs, okN 59 z = true) ∧ (Rep X.K noW H (.lst xs) y ∨ Rep X.K noW H (.tup xs) y) ∧ Rep X.K noW H d x ∧ b = xs.any fun z => D.eqv z d) ∨ (∃ a o, y = .ref a ∧ DGet H a x o ∧ b = o.isSome) ∨ ∃ i j, x = .str i ∧ y = .str j ∧ b = subStr i j := by
  unfold isIn at h
  cases e with
  | lst xs =>
    dsimp only at h
    split at h
    · rename_i o
      cases h
      refine .inl ⟨o.1, xs, List.all_eq_true.mp o.2, .inl ?_, rep_data _ _ _ o.1 h1, rfl⟩
      exact cur_data (n := 60) (by unfold okN; exact o.2) h2
    · cases h
  | tup xs =>
    dsimp only at h
    split at h
    · rename_i o
      cases h
      refine .inl ⟨o.1, xs, List.all_eq_true.mp o.2, .inr ?_, rep_data _ _ _ o.1 h1, rfl⟩
      exact cur_data (n := 60) (by unfold okN; exact o.2) h2
    · cases h
  | dct c =>
    dsimp only at h
    split at h
    · rename_i hf
      cases h
      obtain ⟨ad, rfl, hd⟩ := CRep.dct h2
      obtain ⟨o, g, g1, g2⟩ := dget_of hd h1 hf
      refine .inr (.inl ⟨ad, o, rfl, g, ?_⟩)
      cases el : dLook c.2 d with
      | none => rw [g2 el]; rfl
      | some d' => obtain ⟨v', rfl, _⟩ := g1 _ el; rfl
    · cases h
  | str z =>
    dsimp only at h
    cases d with
    | str w => cases h; exact .inr (.inr ⟨w, z, rep_str.mp h1, CRep.str h2, rfl⟩)
    | _ => cases h
  | _ => cases h
theorem op2_in : Op2 true (RepR X) (CurR X) (RepR X) T X Wx (rInAll X.K) (pure2 dIn) := by
  intro W H env st σ x y d1 d2 Q rl h1 h2 hp
  unfold pure2 dIn at hp
  cases e : isIn d1 d2 with
  | none => rw [e] at hp; exact hp.elim
  | some b =>
    rw [e] at hp
    have hq : Q (.bl b) H := hp.ok rl (rep_bl.mpr rfl)
    rcases in_read h1 h2 e with ⟨o, xs, ox, hy, hx, rfl⟩ | ⟨a, o, ey, g, rfl⟩ | ⟨i, j, ex, ey, rfl⟩
    · exact .inl ⟨d1, xs, o, ox, hx, hy, hq⟩
    · exact .inr (.inl ⟨a, o, ey, g, hq⟩)
    · exact .inr (.inr ⟨i, j, ex, ey, hq⟩)
theorem op2_notIn : Op2 true (RepR X) (CurR X) (RepR X) T X Wx (rNotInAll X.K) (pure2 dNotIn) := by
  intro W H env st σ x y d1 d2 Q rl h1 h2 hp
  unfold pure2 dNotIn at hp
  cases e : isIn d1 d2 with
  | none => rw [e] at hp; exact hp.elim
  | some b =>
    rw [e] at hp
    have hq : Q (.bl !b) H := hp.ok rl (rep_bl.mpr rfl)
    rcases in_read h1 h2 e with ⟨o, xs, ox, hy, hx, rfl⟩ | ⟨a, o, ey, g, rfl⟩ | ⟨i, j, ex, ey, rfl⟩
    · exact .inl ⟨d1, xs, o, ox, hx, hy, hq⟩
    · exact .inr (.inl ⟨a, o, ey, g, hq⟩)
    · exact .inr (.inr ⟨i, j, ex, ey, hq⟩)
theorem Op2.low2 {α : Type} {R0 : Wm → Hp → D → V → Prop} {R3 : Wm → Hp → α → V → Prop} {r : L2.R2} {f : D → D → Sto → Res α} (o : Op2 true R0 (CurR X) R3 T X Wx r f) (c2 : ToCur X R2) : Op2 true R0 R2 R3 T X Wx r f :=
  fun W H env st σ x y d1 d2 Q rl h1 h2 hp => o W H env st σ x y d1 d2 Q rl h1 (c2 _ _ _ _ h2) hp
theorem ev_in (hu : X.A.units + 64 < cLine) (ha : EV κ T X Wx a ma) (hb : EVg κ' R2 T X Wx b mb) (hm : behindInMarks .In b = false := by rfl) (c2 : ToCur X R2 := by first | exact ToCur.rep | exact ToCur.held | exact ToCur.cur) : EV (κ && κ') T X Wx (.Compare a [.In] [b] pos) (mBin ma mb (pure2 dIn)) := ev_cmpR (op_inAll hu) Stands.rep (op2_in.low2 c2) hm ha hb
theorem ev_notIn (hu : X.A.units + 64 < cLine) (ha : EV κ T X Wx a ma) (hb : EVg κ' R2 T X Wx b mb) (hm : behindInMarks .NotIn b = false := by rfl) (c2 : ToCur X R2 := by first | exact ToCur.rep | exact ToCur.held | exact ToCur.cur) : EV (κ && κ') T X Wx (.Compare a [.NotIn] [b] pos) (mBin ma mb (pure2 dNotIn)) := ev_cmpR (op_notInAll hu) Stands.rep (op2_notIn.low2 c2) hm ha hb
theorem tv_in (hu : X.A.units + 64 < cLine) (ha : EV κ T X Wx a ma) (hb : EVg κ' R2 T X Wx b mb) (hm : behindInMarks .In b = false := by rfl) (c2 : ToCur X R2 := by first | exact ToCur.rep | exact ToCur.held | exact ToCur.cur) : TV (κ && κ') T X Wx (.Compare a [.In] [b] pos) (mTest (mBin ma mb (pure2 dIn))) := tv_cmpR (op_inAll hu) Stands.rep (op2_in.low2 c2) hm ha hb
theorem tv_notIn (hu : X.A.units + 64 < cLine) (ha : EV κ T X Wx a ma) (hb : EVg κ' R2 T X Wx b mb) (hm : behindInMarks .NotIn b = false := by rfl) (c2 : ToCur X R2 := by first | exact ToCur.rep | exact ToCur.held | exact ToCur.cur) : TV (κ && κ') T X Wx (.Compare a [.NotIn] [b] pos) (mTest (mBin ma mb (pure2 dNotIn))) := tv_cmpR (op_notInAll hu) Stands.rep (op2_notIn.low2 c2) hm ha hb
/-! ### places written -/
theorem PostP.bindS {m : Res Tag} {f : Tag → Sto → Out} {W : Wm} {H : Hp} {env : Env} {σ : L2.St} {D' : Ends} {Q : V → Hp → Prop} (h : SPost (Gof X T) Wx W H (m.out env f) D')
    (k : ∀ t st' W' H' ad, Ext κ W H W' H' → Rel (Gof X T) W' H' env st' σ → (∀ W2 H2 st2, Ext κe W' H' W2 H2 → Rel (Gof X T) W2 H2 env st2 σ → PlaceAt (Gof X T) W2 H2 st2 σ t ad) → SPost (Gof X T) Wx W' H' (f t st') D' → Q (.ref ad) H') : PostP κ κe (Gof X T) Wx W H env σ m Q := by
  cases m with
  | ok t st => exact fun W' H' ad e r pl => k t st W' H' ad e r pl (SPost.ext h e.s)
  | exc x st => exact fun W' H' c d e r q => h W' H' c d σ e.s r q
  | bad => exact h
def nxOf (z : Env × Sto) : Out := .nx z.1 z.2
/-- P.append(e) -/
def sAppend (pl : M Tag) (m : M D) : Sm := fun env st => (pl env st).out env fun t st1 => if (contL t env st1).isSome = true then (m env st1).out env fun d st2 => match contL t env st2 with
  | some ds => if ds.length < 1000000 then nxOf (setL t (ds ++ [d]) env st2) else .bad
  | none => .bad
  else .bad
theorem sv_append {pl : M Tag} (hp : PlV κ κ' T X Wx a pl) (he : EV κ' T X Wx e ma) (hbase : attributeBase a "append" X.env (eval a X.env) = eval a X.env := by rfl)
    (hfew : ((backTo cpos (starEach (e :: []) X.env)).all (fun x => !x.1) && (backToKw cpos (keywordEach [] X.env)).all (fun x => x.1.isSome) && decide ((e :: ([] : List Expr)).length + ([] : List Keyword).length + (if ([] : List Keyword).isEmpty then 0 else 1) < 30)) = true := by rfl)
    (hline : (apos.endLine == cpos.line) = true := by rfl) (hs : starEach (e :: []) X.env = (false, eval e X.env) :: starEach [] X.env := by rfl) (hplain : (backTo cpos (starEach [] X.env)).any (·.1) = false := by rfl) (hsw : swapsWith (.Call (.Attribute a "append" apos) [e] [] cpos) none pos.line X.env = pure false := by rfl) :
    SV T X Wx (.Expr (.Call (.Attribute a "append" apos) [e] [] cpos) pos) (sAppend pl ma) := by
  obtain ⟨tp, pp, rp⟩ := hp.ex
  obtain ⟨te, pe, re⟩ := he.ex
  refine ⟨_, ps_expr (pe_bm PySem.F.plainAttrs_list PySem.F.slot_list_append PySem.F.type_list_append mt_append pp (pa_cons pe pa_nil hs) hbase hfew hline hs hplain) hsw, fun W H env st σ D rl h => rp _ _ _ _ _ _ rl (PostP.bindS h fun t st1 W1 H1 ad e1 r1 pl1 h1 => ?_)⟩
  split at h1
  · rename_i hc
    obtain ⟨ds0, hc⟩ := Option.isSome_iff_exists.mp hc
    obtain ⟨_, vs0, hv0, _⟩ := place_lst r1 (pl1 _ _ _ Ext.refl r1) hc
    refine ⟨.inl ⟨rfl, vs0, .of hv0⟩, re _ _ _ _ _ _ r1 (SPost.of h1 fun d st2 W2 H2 v e2 r2 q2 h2 => ?_)⟩
    cases ec : contL t env st2 with
    | none => simp only [ec] at h2; exact h2.elim
    | some ds =>
      simp only [ec] at h2
      split at h2
      · rename_i hl
        have p2 := pl1 _ _ _ e2 r2
        obtain ⟨_, vs, hv, hr⟩ := place_lst r2 p2 ec
        obtain ⟨r3, e3⟩ := place_updL r2 p2 ec (hr.append (Reps.one q2))
        exact ⟨ad, vs, v, rfl, rfl, hv, by rw [← hr.length, sizeLine_eq]; omega, h2 _ _ _ e3 r3⟩
      · exact h2.elim
  · exact h1.elim
/-- P[i] = e, a list -/
def sSetIx (pl : M Tag) (mi m : M D) : Sm := fun env st => (m env st).out env fun d st1 => (pl env st1).out env fun t st2 => (mi env st2).out env fun i st3 => match contL t env st3, i with
  | some ds, .int k => match ixN ds.length k with
    | some j => nxOf (setL t (ds.set j d) env st3)
    | none => .bad
  | _, _ => .bad
theorem sv_setix {pl : M Tag} (hp : PlV κ κi T X Wx a pl) (hi : EV κi T X Wx i mi) (he : EV κ' T X Wx e ma) (ha : ∀ v, assign (.Subscript a i pos') X.env v = (holding [v] (eval a X.env) >>= fun ov => holding [v, ov] (eval i X.env) >>= fun iv => standAt pos' >>= fun _ => holding [v, ov, iv] (setItem ov iv v) >>= fun _ => release [v, ov, iv] []) := by intro _; rfl)
    (hs : swapsWithSole [.Subscript a i pos'] e pos.line X.env = pure false := by rfl) (hw : swappedStores [.Subscript a i pos'] e X.env = pure none := by rfl) (h1 : (assignEach [.Subscript a i pos'] X.env).map (·.2) = [assign (.Subscript a i pos') X.env] := by rfl) : SV T X Wx (.Assign [.Subscript a i pos'] e pos) (sSetIx pl mi ma) := by
  obtain ⟨tp, pp, rp⟩ := hp.ex
  obtain ⟨ti, pi, ri⟩ := hi.ex
  obtain ⟨te, pe, re⟩ := he.ex
  refine ⟨_, ps_asg pe (pg_sub pp pi set_list ha) hs hw h1, fun W H env st σ D rl h => re _ _ _ _ _ _ rl (SPost.of h fun d st1 W1 H1 v e1 r1 q1 h1 => rp _ _ _ _ _ _ r1 (PostP.bindS h1 fun t st2 W2 H2 ad e2 r2 pl2 h2 => ri _ _ _ _ _ _ r2 (SPost.of h2 fun di st3 W3 H3 vi e3 r3 q3 h3 => ?_)))⟩
  split at h3
  · rename_i ds k ec
    split at h3
    · rename_i j ej
      have p3 := pl2 _ _ _ e3 r3
      obtain ⟨_, vs, hv, hr⟩ := place_lst r3 p3 ec
      obtain ⟨r4, e4⟩ := place_updL r3 p3 ec (hr.set j (Rep.mono e3.mo _ _ (Rep.mono e2.mo _ _ q1)))
      exact ⟨ad, vs, k, j, rfl, rep_int.mp q3, hv, by rw [← hr.length]; exact ej, h3 _ _ _ e4 r4⟩
    · exact h3.elim
  · exact h3.elim
/-- P[k] = e, a dict -/
def sPut (pl : M Tag) (mi m : M D) : Sm := fun env st => (m env st).out env fun d st1 => (pl env st1).out env fun t st2 => (mi env st2).out env fun k st3 => match contD t env st3 with
  | some c => if keyOk c.1 k = true ∧ c.2.length < 1000000 then nxOf (setDc t (c.1, dPut c.2 k d) env st3) else .bad
  | none => .bad
theorem sv_dput {pl : M Tag} (hu : X.A.units + 1 < cLine) (hp : PlV κ κi T X Wx a pl) (hi : EV κi T X Wx i mi) (he : EV κ' T X Wx e ma) (hs : swapsWith e (some (.Subscript a i pos')) pos.line X.env = pure false := by rfl) : SV T X Wx (.Assign [.Subscript a i pos'] e pos) (sPut pl mi ma) := by
  obtain ⟨tp, pp, rp⟩ := hp.ex
  obtain ⟨ti, pi, ri⟩ := hi.ex
  obtain ⟨te, pe, re⟩ := he.ex
  refine ⟨_, ps_dput hu pp pi pe hs, fun W H env st σ D rl h => re _ _ _ _ _ _ rl (SPost.of h fun d st1 W1 H1 v e1 r1 q1 h1 => rp _ _ _ _ _ _ r1 (PostP.bindS h1 fun t st2 W2 H2 ad e2 r2 pl2 h2 => ri _ _ _ _ _ _ r2 (SPost.of h2 fun k st3 W3 H3 vi e3 r3 q3 h3 => ?_)))⟩
  cases ec : contD t env st3 with
  | none => simp only [ec] at h3; exact h3.elim
  | some c =>
    simp only [ec] at h3
    split at h3
    · rename_i hf
      have p3 := pl2 _ _ _ e3 r3
      obtain ⟨_, hd⟩ := place_dct r3 p3 ec
      obtain ⟨o, g, hr⟩ := dput_of hd q3 (Rep.mono e3.mo _ _ (Rep.mono e2.mo _ _ q1)) hf.1 (by rw [sizeLine_eq]; omega)
      obtain ⟨r4, e4⟩ := place_updD r3 p3 ec hr
      exact ⟨ad, _, rfl, g, h3 _ _ _ e4 r4⟩
    · exact h3.elim
/-- P[k] op= e, a dict -/
def sPutAug (op : D → D → Option D) (pl : M Tag) (mi m : M D) : Sm := fun env st => (pl env st).out env fun t st1 => (mi env st1).out env fun k st2 => match contD t env st2 with
  | some c => if keyOk c.1 k = true ∧ c.2.length < 1000000 then match dLook c.2 k with
    | some dv => (m env st2).out env fun y st3 => match op dv y, contD t env st3 with
      | some z, some c3 => if keyOk c3.1 k = true ∧ c3.2.length < 1000000 then nxOf (setDc t (c3.1, dPut c3.2 k z) env st3) else .bad
      | _, _ => .bad
    | none => .bad
    else .bad
  | none => .bad
theorem sv_daug {pl : M Tag} {opr : Operator} {op : D → D → Option D} {rd : V → V → Hp → VK → Prop} (hu : X.A.units + 1 < cLine) (hop : InOp X opr rd) (hrd : ∀ W H x y d1 d2 d Q, Rep X.K W H d1 x → Rep X.K W H d2 y → op d1 d2 = some d → (∀ v, Rep X.K W H d v → Q v H) → rd x y H Q) (hp : PlV κ (κi && κ') T X Wx a pl) (hi : EV κi T X Wx i mi) (he : EV κ' T X Wx e ma)
    (ha : ∀ ov iv new, augStore i ov iv new = (holding [new, ov, iv] (setItem ov iv new) >>= fun _ => release [new, ov, iv] [] >>= fun _ => pure .next) := by intros; rfl) : SV T X Wx (.AugAssign (.Subscript a i tpos) opr e pos) (sPutAug op pl mi ma) := by
  obtain ⟨tp, pp, rp⟩ := hp.ex
  obtain ⟨ti, pi, ri⟩ := hi.ex
  obtain ⟨te, pe, re⟩ := he.ex
  refine ⟨_, ps_daug hu pp pi pe hop ha, fun W H env st σ D rl h => rp _ _ _ _ _ _ rl (PostP.bindS h fun t st1 W1 H1 ad e1 r1 pl1 h1 => ri _ _ _ _ _ _ r1 (SPost.of h1 fun k st2 W2 H2 vk e2 r2 q2 h2 => ?_))⟩
  cases ec : contD t env st2 with
  | none => simp only [ec] at h2; exact h2.elim
  | some c =>
    simp only [ec] at h2
    split at h2
    · rename_i hf
      have p2 := pl1 _ _ _ e2.l r2
      obtain ⟨_, hd⟩ := place_dct r2 p2 ec
      cases el : dLook c.2 k with
      | none => simp only [el] at h2; exact h2.elim
      | some dv =>
        simp only [el] at h2
        have hd' : (∃ ks, Rd H2 ad (.dK ks) ∧ RepKc X.K W2 H2 c ks) ∨ ∃ ks, Rd H2 ad (.dT ks) ∧ RepTc X.K W2 H2 c ks := hd.imp (fun ⟨ks, z, q⟩ => ⟨ks, .inl z, q⟩) fun ⟨ks, z, q⟩ => ⟨ks, .inl z, q⟩
        obtain ⟨o, g, g1, _⟩ := dget_of hd' q2 hf.1
        obtain ⟨v', rfl, q'⟩ := g1 _ el
        refine ⟨ad, v', rfl, g, re _ _ _ _ _ _ r2 (SPost.of h2 fun y st3 W3 H3 u e3 r3 q3 h3 => ?_)⟩
        split at h3
        · rename_i z c3 ez ec3
          split at h3
          · rename_i hf3
            refine hrd W3 H3 v' u dv y z _ (Rep.mono e3.mo _ _ q') q3 ez fun vz qz => ?_
            have p3 := pl1 _ _ _ (e2.l.trans e3.r) r3
            obtain ⟨_, hd3⟩ := place_dct r3 p3 ec3
            obtain ⟨o3, g3, hr3⟩ := dput_of hd3 (Rep.mono e3.mo _ _ q2) qz hf3.1 (by rw [sizeLine_eq]; omega)
            obtain ⟨r4, e4⟩ := place_updD r3 p3 ec3 hr3
            exact ⟨_, g3, h3 _ _ _ e4 r4⟩
          · exact h3.elim
        · exact h3.elim
    · exact h2.elim
/-- del P[k], a dict of plain keys -/
def sDel (pl : M Tag) (mi : M D) : Sm := fun env st => (pl env st).out env fun t st1 => (mi env st1).out env fun k st2 => match contD t env st2 with
  | some c => if c.1 = false ∧ keyOk false k = true ∧ (dLook c.2 k).isSome = true then nxOf (setDc t (c.1, dDrop c.2 k) env st2) else .bad
  | none => .bad
theorem sv_ddel {pl : M Tag} (hp : PlV κ κi T X Wx a pl) (hi : EV κi T X Wx i mi) : SV T X Wx (.Delete [.Subscript a i tpos] pos) (sDel pl mi) := by
  obtain ⟨tp, pp, rp⟩ := hp.ex
  obtain ⟨ti, pi, ri⟩ := hi.ex
  refine ⟨_, ps_ddel pp pi, fun W H env st σ D rl h => rp _ _ _ _ _ _ rl (PostP.bindS h fun t st1 W1 H1 ad e1 r1 pl1 h1 => ri _ _ _ _ _ _ r1 (SPost.of h1 fun k st2 W2 H2 vk e2 r2 q2 h2 => ?_))⟩
  cases ec : contD t env st2 with
  | none => simp only [ec] at h2; exact h2.elim
  | some c =>
    simp only [ec] at h2
    split at h2
    · rename_i hf
      have p2 := pl1 _ _ _ e2 r2
      obtain ⟨_, hd⟩ := place_dct r2 p2 ec
      rcases hd with ⟨ks, z, ct, q⟩ | ⟨ks, z, ct, q⟩
      · obtain ⟨k', rfl, rfl⟩ := keyOk_K hf.2.1 q2
        obtain ⟨d', el⟩ := Option.isSome_iff_exists.mp hf.2.2
        obtain ⟨v', ev, _⟩ := (q.look k').1 _ el
        obtain ⟨r4, e4⟩ := place_updD r2 p2 ec (ds' := (c.1, dDrop c.2 (keyD k'))) (.inl ⟨_, rfl, ct, q.drop (k := k')⟩)
        exact ⟨ad, ks, k', rfl, z, rfl, by rw [ev]; rfl, h2 _ _ _ e4 r4⟩
      · rw [hf.1] at ct; cases ct
    · exact h2.elim
end
end Ev

set_option maxRecDepth 100000
set_option maxHeartbeats 4000000
/-! errors raised; a lambda handed to the def that calls it and tells its error -/
namespace Ev
open PySem PySem.Spec PyProof.Rows L2
section
variable {G : Gx} {W : Wm} {H H1 : Hp} {env : Env} {st : Sto} {σ : L2.St} {κ : Bool}
theorem ext_extN (s : StoOk G W H st) (e : LamX.ExtN H H1) : Ext κ W H W H1 where
  fr := fun a o h q n => ⟨h, e a o q n⟩
  ob := fun _ _ h => h
  hl := fun a t h _ => ⟨h, by
    obtain ⟨o, q, n⟩ := s.used a t h
    rw [q]; exact e a o q n⟩
  th := fun a o q n => ⟨o, e a o q n, n⟩
theorem Rel.extN (r : Rel G W H env st σ) (e : LamX.ExtN H H1) (tb : LamX.Tabs G.T H1) : Rel G W H1 env st σ :=
  r.ofSto (κ := true) (ext_extN r.sto e) (r.sto.more (ext_extN (κ := true) r.sto e).mo (fun a t h => ⟨h, ((ext_extN (κ := true) r.sto e).hl a t h rfl).2⟩) (fun _ _ _ h => h) tb)
end
/-! ### raise -/
def sRaise (cls : Str) (m : M (List D)) : Sm := fun env st => (m env st).out env fun _ st' => .xc ⟨cls, []⟩ env st'
section
variable {T : List (Addr × Str)} {X : Cx} {Wx : WX} {κ κ' : Bool} {a e : Expr} {es : List Expr} {ma : M D} {n : M (List D)} {x cls : Str} {p p2 pos pos2 : Pos} {C : Addr} {bmB : List Value} {B newId initId : String}
/-- raise X(e, ..) -/
theorem sv_raise (hc : X.calm = true) (tk : Takes X Wx) (F : ExcBaseFacts B newId initId bmB) (q : PySem.W.excIn X.K C bmB newId = true) (gC : X.mg cls = some (.ref C)) (kC : PySem.W.keepIn X.K (.ref C) = true) (r : Raises X (.ref C)) (hg : Gl X cls) (ha : AV κ T X Wx (e :: es) n) (hl : ∀ env st ds st', n env st = .ok ds st' → ds.length ≤ 1000)
    (hdb : (cls == ("__debug__" : Str)) = false := by decide) (he : starEach (e :: es) X.env = (false, eval e X.env) :: starEach es X.env := by rfl) (hpl : (backTo pos (starEach es X.env)).any (·.1) = false := by rfl) : SV T X Wx (.Raise (some (.Call (.Name cls p) (e :: es) [] pos)) none pos2) (sRaise cls n) := by
  obtain ⟨t, pt, rt⟩ := ha.ex
  refine ⟨_, ps_raise hc tk (pmk_ownA F q gC kC r hg pt hdb he hpl), fun W H env st σ D rl h => ?_⟩
  unfold sRaise at h
  cases en : n env st with
  | ok ds st' =>
    rw [en] at h
    refine rt W H env st σ _ rl ?_
    rw [en]
    intro W' H' vs ex r' q'
    exact ⟨by rw [← q'.length]; exact small_line (hl _ _ _ _ en), h W' H' (.ref C) none σ ex.s r' ⟨C, rfl, gC, .inl ⟨rfl, rfl⟩⟩⟩
  | exc x st' =>
    rw [en] at h
    exact rt W H env st σ _ rl (by rw [en]; exact fun W' H' c d e r q => h W' H' c d σ e.s r q)
  | bad => rw [en] at h; exact h.elim
/-- raise X('..') -/
theorem sv_raiseS {m : Str} {j : Nat} (hc : X.calm = true) (tk : Takes X Wx) (F : ExcBaseFacts B newId initId bmB) (q : PySem.W.excIn X.K C bmB newId = true) (gC : X.mg cls = some (.ref C)) (kC : PySem.W.keepIn X.K (.ref C) = true) (r : Raises X (.ref C)) (hg : Gl X cls) (hdb : (cls == ("__debug__" : Str)) = false := by decide) :
    SV T X Wx (.Raise (some (.Call (.Name cls p) [.Constant (.str m) j p2] [] pos)) none pos2) (sRaise cls mNil) :=
  ⟨_, ps_raise hc tk (L2.pmk_own F q gC kC r hg hdb), fun W H env st σ D rl h => h W H (.ref C) none σ ExtS.refl rl ⟨C, rfl, gC, .inl ⟨rfl, rfl⟩⟩⟩
end
/-! ### told -/
/-- what is wished of an error that some clauses take: each hands back its word -/
def EchM (K : PySem.W.Frag) : List (Addr × Str) → VK → XK
  | [], _ => fun _ _ _ => False
  | (CS, ret) :: r, Q => fun cls d H' => ∃ b, PySem.W.exmOne K cls (.ref CS) = some b ∧ (b = true → Q (.str ret) H') ∧ (b = false → EchM K r Q cls d H')
def TTm (K : PySem.W.Frag) (cs : List (Addr × Str)) : (XK → Hp → VK → Prop) → Hp → VK → Prop := fun tl H Q => tl (EchM K cs Q) H Q
def clauses (cs : List (Addr × Str)) : List (Value × (Addr → Value → Option Addr → TS)) := cs.map fun p => (.ref p.1, fun _ _ _ => tRet (tC (.str p.2)))
theorem wMany_of {K : PySem.W.Frag} {D : Ends} : ∀ {cs : List (Addr × Str)} {cls : Value} {d : Option Addr} {σ : L2.St} {H : Hp}, EchM K cs D.rt cls d H → wMany K noX D (clauses cs) cls d σ H
  | [], _, _, _, _, h => h
  | (CS, ret) :: r, cls, d, σ, H, ⟨b, e, h1, h2⟩ => ⟨b, e, fun hb _ _ => h1 hb, fun hb => wMany_of (cs := r) (h2 hb)⟩
theorem told_gives_many {X : Cx} {Ng : List Str} {x a q : Str} {sg : Scope} {g : Addr} {cdg : Value} {p1 p2 p3 p8 : Pos} {h₀ : ExceptHandler} {hds : List ExceptHandler} {cs : List (Addr × Str)} (h0 : ∀ f : Addr, (L2.start Ng [V.ref f])[0]? = some (some (V.ref f)))
    (hh : ∀ (s : Shared) (H : Hp), HdsOk (cxOf C8.CX0 X.prog X.w X.K X.mg X.base Ng x sg g cdg X.A X.stack s H C8.E0).nox (h₀ :: hds) (clauses cs)) :
    LamX.GivesTo X Ng x sg g cdg [.Try [.Return (some (.Call (.Name a p1) [] [] p2)) p3] (h₀ :: hds) [] [] p8] a q (TTm X.K cs) := by
  intro f c' s H Q tl act hc h
  refine ⟨_, pss_one (ps_try_many (X := (cxOf C8.CX0 X.prog X.w X.K X.mg X.base Ng x sg g cdg X.A X.stack s H C8.E0).nox) (Wout := noX)
      (tb := fun W D σ H => ∃ Ech : XK, (∀ cls d σ' H', Ech cls d H' → W cls d σ' H') ∧ σ[0]? = some (some (.ref f)) ∧ H c' = some (LamX.CodeO c' q) ∧ tl Ech H D.rt) rfl rfl takes_none5 (fun W pn xe tk _ => ?_) (hh s H)), ?_⟩
  · refine ⟨fun pins s' σ H' D I h' => ?_⟩
    obtain ⟨Ech, hW, h1, h2, h3⟩ := h'
    exact (pss_one (ps_ret (pos := p3) (act W pn xe Ech p1 p2 tk hW))).run pins s' σ H' D I ⟨h1, h2, h3⟩
  · exact ⟨EchM X.K cs Q, fun cls d σ' H' z => wMany_of z, h0 f, hc, h⟩
/-- the clauses by names: the first that takes the class -/
def wordFor (ts : Str → Str → Bool) (c : Str) : List (Str × Str) → Option Str
  | [] => none
  | (x, r) :: l => if ts c x = true then some r else wordFor ts c l
def mTold (ts : Str → Str → Bool) (ws : List (Str × Str)) (m : M D) : M D := fun env st => match m env st with
  | .ok d st' => .ok d st'
  | .exc x st' => match wordFor ts x.cls ws with
    | some r => .ok (.str r) st'
    | none => .bad
  | .bad => .bad
/-- classes by names -/
inductive ClsAll (K : PySem.W.Frag) (mg : Str → Option Value) (ts : Str → Str → Bool) : List (Str × Str) → List (Addr × Str) → Prop
  | nil : ClsAll K mg ts [] []
  | cons {x r : Str} {C : Addr} {l : List (Str × Str)} {cs : List (Addr × Str)} (h : ∀ (y : Str) (A : Addr), mg y = some (.ref A) → wordFor ts y ((x, r) :: l) ≠ none → PySem.W.exmOne K (.ref A) (.ref C) = some (ts y x)) (t : ClsAll K mg ts l cs) : ClsAll K mg ts ((x, r) :: l) ((C, r) :: cs)
theorem ech_of {K : PySem.W.Frag} {mg : Str → Option Value} {ts : Str → Str → Bool} {Q : VK} {d : Option Addr} {H : Hp} {y r : Str} {A : Addr} (hA : mg y = some (.ref A)) : ∀ {ws : List (Str × Str)} {cs : List (Addr × Str)}, ClsAll K mg ts ws cs → wordFor ts y ws = some r → Q (.str r) H → EchM K cs Q (.ref A) d H
  | [], _, _, e, _ => by cases e
  | (x, r0) :: l, _, .cons h t, e, q => by
    refine ⟨_, h y A hA (by rw [e]; simp), fun hb => ?_, fun hb => ?_⟩
    · unfold wordFor at e
      rw [if_pos hb] at e
      cases e
      exact q
    · unfold wordFor at e
      rw [if_neg (by rw [hb]; simp)] at e
      exact ech_of hA t e q
section
variable {T : List (Addr × Str)} {X : Cx} {Wx : WX} {κ : Bool} {m : M D} {x a : Str} {g c P : Addr} {k : Nat} {pg : Arguments} {bg : List Stmt} {sg : Scope} {dV kV doc pm cdv ct oc : Value} {an od : Option Addr} {osl : Array (Option Value)} {Ng : List Str} {params : Arguments} {body : Expr} {scope : Scope} {p lpos pos : Pos} {cs : List (Addr × Str)} {ws : List (Str × Str)} {ts : Str → Str → Bool}
theorem ev_told (hg : Gl X x) (hm : X.mg x = some (.ref g)) (hk : PySem.W.keepIn X.K (.ref g) = true) (lk : X.K.lookup g = some ⟨oc, od, .func (PySem.W.fnOf x x pg bg sg dV kV doc pm an cdv ct), osl⟩) (hcg : PySem.W.codeIn X.K cdv x = true)
    (hb : L2.Binds X.K (PySem.W.fnOf x x pg bg sg dV kV doc pm an cdv ct) [a] []) (Sg : FnScope Ng [a] sg) (hNg : Ng[0]? = some a) (hva : Vis sg a) (hG : LamX.GivesTo X Ng x sg g cdv bg a (X.env.qual ++ "<lambda>") (TTm X.K cs)) (hcl : ClsAll X.K X.mg ts ws cs)
    (TB : LamX.TabB X.base X.mg c P) (hcode : X.env.code = .ref c) (hmT : (P, X.env.qual ++ "<lambda>") ∈ T) (hu : ∀ p ∈ T, p.1 = P → p.2 = X.env.qual ++ "<lambda>") (hr : Room (k + 2) X.A) (L : LamX.LamS X.env.scope scope) (hdef : defaultsOf params X.env = ([], []))
    (hbind : ∀ (q : Str) (cl : List (Str × Addr)) (pm cv ctv : Value), bindArgs (PySem.W.kla_fn "<lambda>" q params body scope cl pm cv ctv) ⟨[], []⟩ = pure [])
    (hbody : ∀ (A : Around) (outer : List PySem.Env) (s : Shared) (H : Hp) (E : XK) (f c' : Addr), Room k (A.deeper (LamX.lamEnv X scope s.heap.objs.size f c')) → EV κ T (LamX.lamCx X A outer s H E scope f c') (fun c d _ H' => E c d H') body m)
    (hdb : (x == ("__debug__" : Str)) = false := by decide) (hd : (a == ("__debug__" : Str)) = false := by decide) (hcd : (a == ("__classdict__" : Str)) = false := by decide) :
    EV false T X Wx (.Call (.Name x p) [.Lambda params body scope lpos] [] pos) (mTold ts ws m) := by
  have fam : ∀ E : XK, ∃ t : TE, (∀ (A : Around) (outer : List PySem.Env) (s : Shared) (H : Hp) (f c' : Addr), Room k (A.deeper (LamX.lamEnv X scope s.heap.objs.size f c')) → PE (LamX.lamCx X A outer s H E scope f c') body t) ∧
      ∀ W H env st σ Q, Rel (Gof X T) W H env st σ → Post κ (RepR X) (Gof X T) (fun c d _ H' => E c d H') W H env σ (m env st) Q → t σ H Q := fun E => by
    let Xs : {z : Around × List PySem.Env × Shared × Hp × Addr × Addr // Room k (z.1.deeper (LamX.lamEnv X scope z.2.2.1.heap.objs.size z.2.2.2.2.1 z.2.2.2.2.2))} → Cx := fun z => LamX.lamCx X z.1.1 z.1.2.1 z.1.2.2.1 z.1.2.2.2.1 E scope z.1.2.2.2.2.1 z.1.2.2.2.2.2
    obtain ⟨t, h1, h2⟩ := fam_ev (Xs := Xs) (Wx := fun c d _ H' => E c d H') (κ := κ) (R := RepR X) (e := body) (m := m) (K := X.K) (mg := X.mg) (T := T) (fun _ => rfl) fun z => hbody z.1.1 z.1.2.1 z.1.2.2.1 z.1.2.2.2.1 E z.1.2.2.2.2.1 z.1.2.2.2.2.2 z.2
    exact ⟨t, fun A outer s H f c' hr => h1 ⟨(A, outer, s, H, f, c'), hr⟩, h2⟩
  refine ⟨_, LamX.pe_lamcall (t := fun E => Classical.choose (fam E)) hg hm hk lk hcg hb Sg hNg hva hG TB hcode hmT hu hr L hdef hbind (fun A outer s H E f c' hr => (Classical.choose_spec (fam E)).1 A outer s H f c' hr) hdb hd hcd, fun W H env st σ Q rl h => ?_⟩
  refine ⟨rl.sto.tabs, fun H1 e1 tb => ?_⟩
  have r1 := rl.extN e1 tb
  have x1 : ∀ κ, Ext κ W H W H1 := fun κ => ext_extN rl.sto e1
  refine (Classical.choose_spec (fam (EchM X.K cs Q))).2 W H1 env st σ Q r1 ?_
  unfold mTold at h
  cases em : m env st with
  | ok d st' => simp only [em] at h; exact Post.weak (Post.ext h (x1 _)) (by intro z; cases z)
  | bad => simp only [em] at h; exact h.elim
  | exc ex st' =>
    simp only [em] at h
    intro W' H' c d e r ⟨C', ec, hC, hp⟩
    subst ec
    cases ew : wordFor ts ex.cls ws with
    | none => simp only [ew] at h; exact h.elim
    | some r0 =>
      simp only [ew] at h
      exact ech_of hC hcl ew (Post.okE h ((x1 _).trans e) r (rep_str.mpr rfl))
end
end Ev

set_option maxRecDepth 100000
set_option maxHeartbeats 4000000
/-! built-ins by value -/
namespace Ev
open PySem PySem.Spec PyProof.Rows L2
/-! ### readings -/
def dInts : List D → Option (List Int)
  | [] => some []
  | .int i :: r => (dInts r).map (i :: ·)
  | _ :: _ => none
theorem reps_dInts {K : PySem.W.Frag} {W : Wm} {H : Hp} : ∀ {ds : List D} {vs : List V} {ns : List Int}, Reps K W H ds vs → dInts ds = some ns → vs = ns.map V.int
  | [], vs, ns, h, e => by
    unfold dInts at e; cases e
    unfold Reps at h; exact h
  | .int i :: r, vs, ns, h, e => by
    unfold dInts at e
    cases er : dInts r with
    | none => rw [er] at e; cases e
    | some ms =>
      rw [er] at e; cases e
      unfold Reps at h
      obtain ⟨v, us, rfl, h1, h2⟩ := h
      rw [rep_int.mp h1, reps_dInts h2 er]; rfl
  | .bl _ :: _, _, _, _, e => by simp [dInts] at e
  | .non :: _, _, _, _, e => by simp [dInts] at e
  | .str _ :: _, _, _, _, e => by simp [dInts] at e
  | .tup _ :: _, _, _, _, e => by simp [dInts] at e
  | .lst _ :: _, _, _, _, e => by simp [dInts] at e
  | .dct _ :: _, _, _, _, e => by simp [dInts] at e
  | .loc _ :: _, _, _, _, e => by simp [dInts] at e
  | .own _ :: _, _, _, _, e => by simp [dInts] at e
  | .ownd _ :: _, _, _, _, e => by simp [dInts] at e
theorem dInts_map (ns : List Int) : dInts (ns.map D.int) = some ns := by
  induction ns with
  | nil => rfl
  | cons a t ih => simp [dInts, ih]
/-- the contents of a list -/
def dL (d : D) (st : Sto) : Option (List D) := match d with
  | .lst xs => some xs
  | .loc n => match st[n]? with
    | some (.ls xs) => some xs
    | _ => none
  | _ => none
/-- of a list or a tuple -/
def dS (d : D) (st : Sto) : Option (List D) := match d with
  | .tup xs => some xs
  | d => dL d st
section
variable {T : List (Addr × Str)} {X : Cx} {Wx : WX} {κ κ' κa κb κc : Bool} {a b c e : Expr} {ma mb mc : M D} {pos p : Pos} {R1 R2 R4 : Wm → Hp → D → V → Prop}
theorem dL_read {W : Wm} {H : Hp} {env : Env} {st : Sto} {σ : L2.St} {d : D} {x : V} {ds : List D} (rl : Rel (Gof X T) W H env st σ) (h : CRep X.K W H d x) (e : dL d st = some ds) : ∃ a vs, x = .ref a ∧ SqL X.K H a vs ∧ Reps X.K W H ds vs := by
  unfold dL at e
  split at e
  · cases e; exact CRep.lst h
  · split at e
    · rename_i es
      cases e
      obtain ⟨a, rfl, w⟩ := CRep.loc h
      obtain ⟨vs, l, r⟩ := rl.ls w es
      exact ⟨a, vs, rfl, .of l, r⟩
    · cases e
  · cases e
theorem dS_read {W : Wm} {H : Hp} {env : Env} {st : Sto} {σ : L2.St} {d : D} {x : V} {ds : List D} (rl : Rel (Gof X T) W H env st σ) (h : CRep X.K W H d x) (e : dS d st = some ds) : ∃ a vs, x = .ref a ∧ (SqL X.K H a vs ∨ SqT X.K H a vs) ∧ Reps X.K W H ds vs := by
  unfold dS at e
  split at e
  · cases e
    obtain ⟨a, vs, h1, h2, h3⟩ := CRep.tup h
    exact ⟨a, vs, h1, .inr h2, h3⟩
  · obtain ⟨a, vs, h1, h2, h3⟩ := dL_read rl h e
    exact ⟨a, vs, h1, .inl h2, h3⟩
theorem op1_of {f : D → Sto → Option D} {r : V → Hp → VK → Prop} (h : ∀ W H env st σ x d1 d Q, Rel (Gof X T) W H env st σ → CRep X.K W H d1 x → f d1 st = some d → (∀ v, Rep X.K W H d v → Q v H) → r x H Q) : Op1 (CurR X) (RepR X) T X Wx r (fun d st => Res.of (f d st) st) := by
  intro W H env st σ x d1 Q rl h1 hp
  dsimp only at hp
  cases e : f d1 st with
  | none => rw [e] at hp; exact hp.elim
  | some d => rw [e] at hp; exact h W H env st σ x d1 d Q rl h1 e fun v q => hp.ok rl q
/-! ### len -/
def dLen (d : D) (st : Sto) : Option D := match d with
  | .str z => if z.length ≤ sizeLine then some (.int z.length) else none
  | d => (dS d st).map fun xs => .int xs.length
theorem op1_len : Op1 (CurR X) (RepR X) T X Wx (fun x H Q => ∃ y n, [x] = [y] ∧ LenV X.K y H n ∧ Q (.int n) H) (fun d st => Res.of (dLen d st) st) := op1_of fun W H env st σ x d1 d Q rl h1 e q => by
  unfold dLen at e
  split at e
  · split at e
    · rename_i hz
      cases e
      rw [CRep.str h1]
      exact ⟨_, _, rfl, ⟨hz, rfl⟩, q _ (rep_int.mpr rfl)⟩
    · cases e
  · cases ed : dS d1 st with
    | none => rw [ed] at e; cases e
    | some ds =>
      rw [ed] at e; cases e
      obtain ⟨a, vs, rfl, h2, h3⟩ := dS_read rl h1 ed
      refine ⟨_, ds.length, rfl, ?_, q _ (rep_int.mpr rfl)⟩
      rcases h2 with h2 | h2
      · exact .inl ⟨vs, h2, h3.length⟩
      · exact .inr ⟨vs, h2, h3.length⟩
theorem ev_len {f : Pos} (hg : Gl X "len") (hm : X.mg "len" = none) (ha : EVg κ R1 T X Wx a ma) (c1 : ToCur X R1 := by first | exact ToCur.rep | exact ToCur.held | exact ToCur.cur)
    (he : starEach (a :: []) X.env = (false, eval a X.env) :: starEach [] X.env := by rfl) (hpl : (backTo pos (starEach [] X.env)).any (·.1) = false := by rfl) : EV κ T X Wx (.Call (.Name "len" f) [a] [] pos) (mUn ma fun d st => Res.of (dLen d st) st) :=
  ev_callB call_len op1_len hg hm rfl ha c1 (by decide) (by decide) he hpl
/-! ### abs, int, str -/
def dAbs (d : D) (_ : Sto) : Option D := match d with
  | .int i => some (.int (if i < 0 then -i else i))
  | _ => none
theorem ev_abs {f : Pos} (hg : Gl X "abs") (hm : X.mg "abs" = none) (ha : EVg κ R1 T X Wx a ma) (c1 : ToCur X R1 := by first | exact ToCur.rep | exact ToCur.held | exact ToCur.cur)
    (he : starEach (a :: []) X.env = (false, eval a X.env) :: starEach [] X.env := by rfl) (hpl : (backTo pos (starEach [] X.env)).any (·.1) = false := by rfl) : EV κ T X Wx (.Call (.Name "abs" f) [a] [] pos) (mUn ma fun d st => Res.of (dAbs d st) st) :=
  ev_callB call_abs (op1_of fun W H env st σ x d1 d Q rl h1 e q => by
    unfold dAbs at e
    split at e
    · cases e; rw [CRep.int h1]; exact ⟨_, rfl, q _ (rep_int.mpr rfl)⟩
    · cases e) hg hm rfl ha c1 (by decide) (by decide) he hpl
def dStrOf (d : D) (_ : Sto) : Option D := match d with
  | .int i => if i.natAbs.log2 < 1920 then some (.str (toString i)) else none
  | .str z => some (.str z)
  | _ => none
theorem ev_strOf {f : Pos} (hg : Gl X "str") (hm : X.mg "str" = none) (ha : EVg κ R1 T X Wx a ma) (c1 : ToCur X R1 := by first | exact ToCur.rep | exact ToCur.held | exact ToCur.cur)
    (he : starEach (a :: []) X.env = (false, eval a X.env) :: starEach [] X.env := by rfl) (hpl : (backTo pos (starEach [] X.env)).any (·.1) = false := by rfl) : EV κ T X Wx (.Call (.Name "str" f) [a] [] pos) (mUn ma fun d st => Res.of (dStrOf d st) st) :=
  ev_callTy (call_str_int.or SkE.call_str_str) (op1_of fun W H env st σ x d1 d Q rl h1 e q => by
    unfold dStrOf at e
    split at e
    · split at e
      · cases e; rw [CRep.int h1]; exact .inl ⟨_, rfl, by assumption, q _ (rep_str.mpr rfl)⟩
      · cases e
    · cases e; rw [CRep.str h1]; exact .inr ⟨_, rfl, q _ (rep_str.mpr rfl)⟩
    · cases e) hg hm rfl ha c1 (by decide) (by decide) he hpl
/-! ### sum, min, max -/
def dSum (d : D) (st : Sto) : Option D := ((dL d st).bind dInts).map fun ns => .int ns.sum
theorem dLI_read {W : Wm} {H : Hp} {env : Env} {st : Sto} {σ : L2.St} {d : D} {x : V} {ns : List Int} (rl : Rel (Gof X T) W H env st σ) (h : CRep X.K W H d x) (e : (dL d st).bind dInts = some ns) : ∃ a, x = .ref a ∧ SqL X.K H a (ns.map V.int) := by
  cases ed : dL d st with
  | none => rw [ed] at e; cases e
  | some ds =>
    rw [ed] at e
    obtain ⟨a, vs, rfl, h2, h3⟩ := dL_read rl h ed
    rw [reps_dInts h3 e] at h2
    exact ⟨a, rfl, h2⟩
theorem ev_sum {f : Pos} (hc : X.calm = true) (hg : Gl X "sum") (hm : X.mg "sum" = none) (ha : EVg κ R1 T X Wx a ma) (c1 : ToCur X R1 := by first | exact ToCur.rep | exact ToCur.held | exact ToCur.cur)
    (he : starEach (a :: []) X.env = (false, eval a X.env) :: starEach [] X.env := by rfl) (hpl : (backTo pos (starEach [] X.env)).any (·.1) = false := by rfl) : EV κ T X Wx (.Call (.Name "sum" f) [a] [] pos) (mUn ma fun d st => Res.of (dSum d st) st) :=
  ev_callB (cr_sum hc) (op1_of fun W H env st σ x d1 d Q rl h1 e q => by
    unfold dSum at e
    cases ed : (dL d1 st).bind dInts with
    | none => rw [ed] at e; cases e
    | some ns =>
      rw [ed] at e; cases e
      obtain ⟨a, rfl, h2⟩ := dLI_read rl h1 ed
      exact ⟨a, ns, rfl, h2, q _ (rep_int.mpr rfl)⟩) hg hm rfl ha c1 (by decide) (by decide) he hpl
def iMin : List Int → Option Int
  | [] => none
  | i :: r => some (r.foldl (fun x y => if y < x then y else x) i)
def iMax : List Int → Option Int
  | [] => none
  | i :: r => some (r.foldl (fun x y => if x < y then y else x) i)
theorem foldMin_spec : ∀ (r : List Int) (i : Int), (r.foldl (fun x y => if y < x then y else x) i) ∈ i :: r ∧ ∀ y ∈ i :: r, r.foldl (fun x y => if y < x then y else x) i ≤ y
  | [], i => by simp
  | a :: r, i => by
    obtain ⟨h1, h2⟩ := foldMin_spec r (if a < i then a else i)
    rw [List.foldl_cons]
    refine ⟨?_, fun y hy => ?_⟩
    · rcases List.mem_cons.mp h1 with h | h
      · rw [h]; split <;> simp
      · exact List.mem_cons_of_mem _ (List.mem_cons_of_mem _ h)
    · have h0 := h2 _ List.mem_cons_self
      have k : (if a < i then a else i) ≤ i ∧ (if a < i then a else i) ≤ a := by split <;> omega
      rcases List.mem_cons.mp hy with rfl | hy
      · exact Int.le_trans h0 k.1
      · rcases List.mem_cons.mp hy with rfl | hy
        · exact Int.le_trans h0 k.2
        · exact h2 y (List.mem_cons_of_mem _ hy)
theorem foldMax_spec : ∀ (r : List Int) (i : Int), (r.foldl (fun x y => if x < y then y else x) i) ∈ i :: r ∧ ∀ y ∈ i :: r, y ≤ r.foldl (fun x y => if x < y then y else x) i
  | [], i => by simp
  | a :: r, i => by
    obtain ⟨h1, h2⟩ := foldMax_spec r (if i < a then a else i)
    rw [List.foldl_cons]
    refine ⟨?_, fun y hy => ?_⟩
    · rcases List.mem_cons.mp h1 with h | h
      · rw [h]; split <;> simp
      · exact List.mem_cons_of_mem _ (List.mem_cons_of_mem _ h)
    · have h0 := h2 _ List.mem_cons_self
      have k : i ≤ (if i < a then a else i) ∧ a ≤ (if i < a then a else i) := by split <;> omega
      rcases List.mem_cons.mp hy with rfl | hy
      · exact Int.le_trans k.1 h0
      · rcases List.mem_cons.mp hy with rfl | hy
        · exact Int.le_trans k.2 h0
        · exact h2 y (List.mem_cons_of_mem _ hy)
theorem iMin_is {ns : List Int} {m : Int} (h1 : m ∈ ns) (h2 : ∀ y, y ∈ ns → m ≤ y) : iMin ns = some m := by
  cases ns with
  | nil => cases h1
  | cons i r =>
    obtain ⟨a, b⟩ := foldMin_spec r i
    show some _ = some m
    congr 1
    have := b m h1
    have := h2 _ a
    omega
theorem iMax_is {ns : List Int} {m : Int} (h1 : m ∈ ns) (h2 : ∀ y, y ∈ ns → y ≤ m) : iMax ns = some m := by
  cases ns with
  | nil => cases h1
  | cons i r =>
    obtain ⟨a, b⟩ := foldMax_spec r i
    show some _ = some m
    congr 1
    have := b m h1
    have := h2 _ a
    omega
def dMin (d : D) (st : Sto) : Option D := (((dL d st).bind dInts).bind iMin).map .int
def dMax (d : D) (st : Sto) : Option D := (((dL d st).bind dInts).bind iMax).map .int
theorem ev_min {f : Pos} (hc : X.calm = true) (hg : Gl X "min") (hm : X.mg "min" = none) (ha : EVg κ R1 T X Wx a ma) (c1 : ToCur X R1 := by first | exact ToCur.rep | exact ToCur.held | exact ToCur.cur)
    (he : starEach (a :: []) X.env = (false, eval a X.env) :: starEach [] X.env := by rfl) (hpl : (backTo pos (starEach [] X.env)).any (·.1) = false := by rfl) : EV κ T X Wx (.Call (.Name "min" f) [a] [] pos) (mUn ma fun d st => Res.of (dMin d st) st) :=
  ev_callB (cr_min hc) (op1_of fun W H env st σ x d1 d Q rl h1 e q => by
    unfold dMin at e
    cases ed : (dL d1 st).bind dInts with
    | none => rw [ed] at e; cases e
    | some ns =>
      rw [ed] at e
      obtain ⟨a, rfl, h2⟩ := dLI_read rl h1 ed
      refine ⟨a, ns, rfl, h2, ?_, fun m m1 m2 => ?_⟩
      · cases ns with
        | nil => cases e
        | cons i r => simp
      · change (iMin ns).map D.int = some d at e
        rw [iMin_is m1 m2] at e
        cases e
        exact q _ (rep_int.mpr rfl)) hg hm rfl ha c1 (by decide) (by decide) he hpl
theorem ev_max {f : Pos} (hc : X.calm = true) (hg : Gl X "max") (hm : X.mg "max" = none) (ha : EVg κ R1 T X Wx a ma) (c1 : ToCur X R1 := by first | exact ToCur.rep | exact ToCur.held | exact ToCur.cur)
    (he : starEach (a :: []) X.env = (false, eval a X.env) :: starEach [] X.env := by rfl) (hpl : (backTo pos (starEach [] X.env)).any (·.1) = false := by rfl) : EV κ T X Wx (.Call (.Name "max" f) [a] [] pos) (mUn ma fun d st => Res.of (dMax d st) st) :=
  ev_callB (cr_max hc) (op1_of fun W H env st σ x d1 d Q rl h1 e q => by
    unfold dMax at e
    cases ed : (dL d1 st).bind dInts with
    | none => rw [ed] at e; cases e
    | some ns =>
      rw [ed] at e
      obtain ⟨a, rfl, h2⟩ := dLI_read rl h1 ed
      refine ⟨a, ns, rfl, h2, ?_, fun m m1 m2 => ?_⟩
      · cases ns with
        | nil => cases e
        | cons i r => simp
      · change (iMax ns).map D.int = some d at e
        rw [iMax_is m1 m2] at e
        cases e
        exact q _ (rep_int.mpr rfl)) hg hm rfl ha c1 (by decide) (by decide) he hpl
/-- min(a, b), max(a, b) -/
def fMin2 : List D → Sto → Res D
  | [.int i, .int j], st => .ok (.int (if j < i then j else i)) st
  | _, _ => .bad
def fMax2 : List D → Sto → Res D
  | [.int i, .int j], st => .ok (.int (if j > i then j else i)) st
  | _, _ => .bad
theorem reps_ii {K : PySem.W.Frag} {W : Wm} {H : Hp} {i j : Int} {vs : List V} (h : Reps K W H [.int i, .int j] vs) : vs = [.int i, .int j] := reps_dInts (ns := [i, j]) h rfl
theorem ev_min2 {f : Pos} {n : M (List D)} (hc : X.calm = true) (hg : Gl X "min") (hm : X.mg "min" = none) (ha : AV κ T X Wx [a, b] n)
    (he : starEach (a :: [b]) X.env = (false, eval a X.env) :: starEach [b] X.env := by rfl) (hpl : (backTo pos (starEach [b] X.env)).any (·.1) = false := by rfl) : EV κ T X Wx (.Call (.Name "min" f) [a, b] [] pos) (mUn n fMin2) :=
  ev_callBs (call_min2 hc) (fun W H env st σ vs ds Q rl r h => by
    unfold fMin2 at h
    split at h
    · rw [reps_ii r]; exact ⟨_, _, rfl, h.ok rl (rep_int.mpr rfl)⟩
    · exact h.elim) hg hm rfl ha (by decide) (by decide) he hpl
theorem ev_max2 {f : Pos} {n : M (List D)} (hc : X.calm = true) (hg : Gl X "max") (hm : X.mg "max" = none) (ha : AV κ T X Wx [a, b] n)
    (he : starEach (a :: [b]) X.env = (false, eval a X.env) :: starEach [b] X.env := by rfl) (hpl : (backTo pos (starEach [b] X.env)).any (·.1) = false := by rfl) : EV κ T X Wx (.Call (.Name "max" f) [a, b] [] pos) (mUn n fMax2) :=
  ev_callBs (call_max2 hc) (fun W H env st σ vs ds Q rl r h => by
    unfold fMax2 at h
    split at h
    · rw [reps_ii r]; exact ⟨_, _, rfl, h.ok rl (rep_int.mpr rfl)⟩
    · exact h.elim) hg hm rfl ha (by decide) (by decide) he hpl
/-! ### tuple(xs), list(xs) -/
theorem ev_tupOf {f : Pos} (hg : Gl X "tuple") (hm : X.mg "tuple" = none) (ha : EVg κ R1 T X Wx a ma) (c1 : ToCur X R1 := by first | exact ToCur.rep | exact ToCur.held | exact ToCur.cur)
    (he : starEach (a :: []) X.env = (false, eval a X.env) :: starEach [] X.env := by rfl) (hpl : (backTo pos (starEach [] X.env)).any (·.1) = false := by rfl) : EV κ T X Wx (.Call (.Name "tuple" f) [a] [] pos) (mUn ma fun d st => (Res.of (dS d st) st).bind fun xs st => .ok (.tup xs) st) :=
  ev_callTy call_tuple_of (fun W H env st σ x d Q rl h1 hp => by
    unfold dS at hp
    split at hp
    · obtain ⟨a, vs, rfl, h2, h3⟩ := CRep.tup h1
      exact ⟨a, vs, rfl, .inr ⟨h2, hp.ok rl (h1.rep (fun _ z => by cases z) fun _ z => by cases z)⟩⟩
    · cases ed : dL d st with
      | none => rw [ed] at hp; exact hp.elim
      | some ds =>
        rw [ed] at hp
        obtain ⟨a, vs, rfl, h2, h3⟩ := dL_read rl h1 ed
        exact ⟨a, vs, rfl, .inl ⟨h2, fun l hl => Post.laid hp rl hl (rep_tup.mpr ⟨l, vs, rfl, ⟨rl.sto.nobody hl, upd_same⟩, Reps.mono (Ext.laid (κ := true) rl.sto hl).mo _ _ h3⟩)⟩⟩) hg hm rfl ha c1 (by decide) (by decide) he hpl
end
end Ev

set_option maxRecDepth 100000
set_option maxHeartbeats 4000000
/-! int(), new lists by call and by operator, slices, methods of texts, tuples put together, dict(pairs) -/
namespace Ev
open PySem PySem.Spec PyProof.Rows L2
theorem q_add_lists (l b : Addr) (items items2 : Array Value) (n n2 : Nat) (sl sl2 : Array (Option Value)) (hz : items.size + items2.size ≤ sizeLine) :
    Meets (Builtin.«list.__add__» ⟨[.ref l, .ref b], []⟩) (fun _ R s => s.heap.get? l = some { cls := .type "list", dict := none, data := .seq items n, slots := sl } ∧ s.heap.get? b = some { cls := .type "list", dict := none, data := .seq items2 n2, slots := sl2 } ∧
      R (.ok (.ret (Value.ref s.heap.objs.size))) { s with heap := s.heap.push { cls := Value.type "list", data := Data.seq (items ++ items2) } }) :=
  .of_wp fun prog w A R s h => by
    obtain ⟨hp, g, d, tk, os⟩ := s; obtain ⟨hl, hb, h⟩ := h; have f1 := PySem.AutoSeq1.idx_int; have f3 := PySem.AutoSeq1.sub_list_list
    wp_walk using PySem.AutoSeq1.wpAny_loadPart' hl, PySem.AutoSeq1.wpAny_loadPart' hb; exact ⟨_, rfl, h⟩
section
variable {T : List (Addr × Str)} {X : Cx} {Wx : WX} {κ κ' κa κb κc : Bool} {a b c e : Expr} {ma mb mc : M D} {pos p : Pos} {R1 R2 R4 : Wm → Hp → D → V → Prop}
/-- list + list, any two -/
theorem op_catL : OpR X (binaryOp .Add) (fun x y H Q => ∃ l b xs zs, x = .ref l ∧ y = .ref b ∧ SqL X.K H l xs ∧ SqL X.K H b zs ∧ xs.length + zs.length ≤ sizeLine ∧ ∀ p, H p = none → Q (.ref p) (upd H p (.lst (xs ++ zs)))) := by
  intro pins s σ H x y v u Q I rx ry h
  obtain ⟨l, b, xs, zs, rfl, rfl, hH, hB, hz, q⟩ := h
  cases rx
  cases ry
  obtain ⟨its, r, ⟨⟨cls, dd, data, sl⟩, n, ho, hc, hd, hs⟩, _⟩ := I.list hH
  obtain ⟨its2, r2, ⟨⟨cls2, dd2, data2, sl2⟩, n2, ho2, hc2, hd2, hs2⟩, _⟩ := I.list hB
  have e1 : cls = Value.type "list" := hc
  have e2 : data = Data.seq its.toArray n := hs
  have e3 : cls2 = Value.type "list" := hc2
  have e4 : data2 = Data.seq its2.toArray n2 := hs2
  have e5 : dd = none := hd
  have e6 : dd2 = none := hd2
  subst e1 e2 e3 e4 e5 e6
  have hl := r.length
  have hl2 := r2.length
  refine concat_meets ⟨_, ho, rfl⟩ ⟨_, ho2, rfl⟩ noFill_list_add seq_list_add F.slot_list_add F.entry_list_add (F.args_list_add_2 _ _) (q_add_lists l b its.toArray its2.toArray n n2 sl sl2 (by rw [List.size_toArray, List.size_toArray]; omega)) ⟨ho, ho2, ?_⟩
  have ea : its.toArray ++ its2.toArray = (its ++ its2).toArray := by simp
  rw [ea]
  exact ⟨.ref _, _, I.lnew (t' := s.toks) (r.append r2) (by rw [List.length_append]; omega), rfl, q _ I.fresh⟩
/-! ### int() -/
def dInt (d : D) (_ : Sto) : Option D := match d with
  | .int i => some (.int i)
  | .bl k => some (.int (if k then 1 else 0))
  | .str z => if z.length ≤ 640 then (PySem.intText? z).map .int else none
  | _ => none
theorem ev_int1 {f : Pos} (hg : Gl X "int") (hm : X.mg "int" = none) (ha : EVg κ R1 T X Wx a ma) (c1 : ToCur X R1 := by first | exact ToCur.rep | exact ToCur.held | exact ToCur.cur)
    (he : starEach (a :: []) X.env = (false, eval a X.env) :: starEach [] X.env := by rfl) (hpl : (backTo pos (starEach [] X.env)).any (·.1) = false := by rfl) : EV κ T X Wx (.Call (.Name "int" f) [a] [] pos) (mUn ma fun d st => Res.of (dInt d st) st) :=
  ev_callTy (call_int1.or call_int_str) (op1_of fun W H env st σ x d1 d Q rl h1 e q => by
    unfold dInt at e
    split at e
    · cases e; rw [CRep.int h1]; exact .inl (.inl ⟨_, rfl, q _ (rep_int.mpr rfl)⟩)
    · cases e; rw [CRep.bl h1]; exact .inl (.inr ⟨_, rfl, q _ (rep_int.mpr rfl)⟩)
    · split at e
      · rename_i z hz
        cases ei : PySem.intText? z with
        | none => rw [ei] at e; cases e
        | some i => rw [ei] at e; cases e; rw [CRep.str h1]; exact .inr ⟨z, i, rfl, ei, hz, q _ (rep_int.mpr rfl)⟩
      · cases e
    · cases e) hg hm rfl ha c1 (by decide) (by decide) he hpl
/-! ### new lists -/
def Op2N {α β γ : Type} (R1 : Wm → Hp → α → V → Prop) (R2 : Wm → Hp → β → V → Prop) (C : Wm → Hp → γ → Addr → Prop) (T : List (Addr × Str)) (X : Cx) (Wx : WX) (r : L2.R2) (f : α → β → Sto → Res γ) : Prop :=
  ∀ W H env st σ x y d1 d2 Q, Rel (Gof X T) W H env st σ → R1 W H d1 x → R2 W H d2 y → PostN true C (Gof X T) Wx W H env σ (f d1 d2 st) Q → r x y H Q
theorem nv_op {α β γ : Type} {R1 : Wm → Hp → α → V → Prop} {R2 : Wm → Hp → β → V → Prop} {C : Wm → Hp → γ → Addr → Prop} {na : M α} {nb : M β} {op : Operator} {r : L2.R2} {f : α → β → Sto → Res γ} (ho : OpR X (binaryOp op) r) (S : Stands κb R1) (o : Op2N R1 R2 C T X Wx r f) (ha : EVg κa R1 T X Wx a na) (hb : EVg κb R2 T X Wx b nb) : FV (κa && κb) C T X Wx (.BinOp a op b pos) (mBin na nb f) := by
  obtain ⟨ta, pa, ra⟩ := ha.ex
  obtain ⟨tb, pb, rb⟩ := hb.ex
  exact ⟨_, pe_op ho pa pb, fun W H env st σ Q rl h => ra _ _ _ _ _ _ rl (PostN.bind (R := R1) h and21 fun x st1 W1 H1 v e1 r1 q1 h1 => rb _ _ _ _ _ _ r1 (PostN.bind (R := R2) h1 and22 fun y st2 W2 H2 u e2 r2 q2 h2 =>
    o W2 H2 env st2 σ v u x y Q r2 (S _ _ _ _ _ _ e2 q1) q2 (h2.weak fun _ => rfl)))⟩
theorem newLst {W : Wm} {H : Hp} {env : Env} {st : Sto} {σ : L2.St} {Q : VK} {ds : List D} {vs : List V} (h : PostN κ (CL X.K) (Gof X T) Wx W H env σ (.ok ds st) Q) (rl : Rel (Gof X T) W H env st σ) (r : Reps X.K W H ds vs) : ∀ p, H p = none → Q (.ref p) (upd H p (.lst vs)) :=
  fun p hp => h.laid rl hp (fun _ z => by cases z) ⟨vs, upd_same, Reps.mono (ext_laidT (κ := true) rl.sto hp).mo _ _ r⟩
def fCat (d e : D) (st : Sto) : Res (List D) := match dL d st, dL e st with
  | some xs, some ys => if xs.length + ys.length ≤ 1000000 then .ok (xs ++ ys) st else .bad
  | _, _ => .bad
theorem mill {n : Nat} (h : n ≤ 1000000) : n ≤ sizeLine := by rw [sizeLine_eq]; omega
theorem nv_cat (ha : EVg κ R1 T X Wx a ma) (hb : EVg κ' R2 T X Wx b mb) (S : Stands κ' R1 := by first | exact Stands.rep | exact Stands.held | exact Stands.cur) (c1 : ToCur X R1 := by first | exact ToCur.rep | exact ToCur.held | exact ToCur.cur) (c2 : ToCur X R2 := by first | exact ToCur.rep | exact ToCur.held | exact ToCur.cur) :
    NV (κ && κ') T X Wx (.BinOp a .Add b pos) (mBin ma mb fCat) :=
  nv_op op_catL S (fun W H env st σ x y d1 d2 Q rl h1 h2 hp => by
    unfold fCat at hp
    split at hp
    · rename_i xs ys e1 e2
      split at hp
      · rename_i hz
        obtain ⟨a1, v1, rfl, l1, r1⟩ := dL_read rl (c1 _ _ _ _ h1) e1
        obtain ⟨a2, v2, rfl, l2, r2⟩ := dL_read rl (c2 _ _ _ _ h2) e2
        exact ⟨a1, a2, v1, v2, rfl, rfl, l1, l2, mill (by rw [← r1.length, ← r2.length]; exact hz), newLst hp rl (r1.append r2)⟩
      · exact hp.elim
    · exact hp.elim) ha hb
/-- list(xs) of a list or a tuple -/
theorem nv_listOf {f : Pos} (hg : Gl X "list") (hm : X.mg "list" = none) (ha : EVg κ R1 T X Wx a ma) (c1 : ToCur X R1 := by first | exact ToCur.rep | exact ToCur.held | exact ToCur.cur)
    (he : starEach (a :: []) X.env = (false, eval a X.env) :: starEach [] X.env := by rfl) (hpl : (backTo pos (starEach [] X.env)).any (·.1) = false := by rfl) : NV κ T X Wx (.Call (.Name "list" f) [a] [] pos) (mUn ma fun d st => Res.of (dS d st) st) :=
  nv_callTy call_list_of (fun W H env st σ x d Q rl h1 hp => by
    cases ed : dS d st with
    | none => rw [ed] at hp; exact hp.elim
    | some ds =>
      rw [ed] at hp
      obtain ⟨a, vs, rfl, h2, h3⟩ := dS_read rl h1 ed
      exact ⟨a, vs, rfl, h2, newLst hp rl h3⟩) hg hm rfl ha c1 (by decide) (by decide) he hpl
/-! ### slices -/
structure OV (κ : Bool) (T : List (Addr × Str)) (X : Cx) (Wx : WX) (e : Option Expr) (m : M (Option Int)) : Prop where
  ex : ∃ t, PO X e t ∧ ∀ W H env st σ (Q : Option Int → Hp → Prop), Rel (Gof X T) W H env st σ → Post κ (fun _ _ a b => b = a) (Gof X T) Wx W H env σ (m env st) Q → t σ H Q
def mNoPart : M (Option Int) := fun _ st => .ok none st
def mPart (m : M D) : M (Option Int) := mUn m fun d st => match d with
  | .int i => .ok (some i) st
  | _ => .bad
theorem ov_none : OV true T X Wx none mNoPart := ⟨_, po_none, fun W H env st σ Q rl h => h.ok rl rfl⟩
theorem ov_some (ha : EV κ T X Wx a ma) : OV κ T X Wx (some a) (mPart ma) := by
  obtain ⟨ta, pa, ra⟩ := ha.ex
  refine ⟨_, po_some pa, fun W H env st σ Q rl h => ra _ _ _ _ _ _ rl (h.bind (fun z => z) fun d st1 W1 H1 v e1 r1 q1 h1 => ?_)⟩
  dsimp only at h1
  split at h1
  · exact ⟨_, rep_int.mp q1, h1.ok r1 rfl⟩
  · exact h1.elim
def cutD (xs : List D) (lo hi : Option Int) : List D := (xs.drop (HT.sIx xs.length 0 lo)).take (HT.sIx xs.length xs.length hi - HT.sIx xs.length 0 lo)
theorem Reps.cut {K : PySem.W.Frag} {W : Wm} {H : Hp} {ds : List D} {vs : List V} (h : Reps K W H ds vs) (lo hi : Option Int) : Reps K W H (cutD ds lo hi) (cutV vs lo hi) := by
  unfold cutD cutV
  rw [h.length]
  exact (h.drop _).take _
def mSl {α : Type} (m : M D) (ml mh : M (Option Int)) (f : D → Option Int → Option Int → Sto → Res α) : M α := fun env st => (m env st).bind fun d st1 => (ml env st1).bind fun lo st2 => (mh env st2).bind fun hi st3 => f d lo hi st3
section
variable {lo hi : Option Expr} {ml mh : M (Option Int)} {p2 : Pos} {κl κh : Bool}
/-- a list's slice: new -/
theorem nv_slice (ha : EVg κ R1 T X Wx a ma) (hl : OV true T X Wx lo ml) (hh : OV true T X Wx hi mh) (S : Stands true R1 := by first | exact Stands.rep | exact Stands.held | exact Stands.cur) (c1 : ToCur X R1 := by first | exact ToCur.rep | exact ToCur.held | exact ToCur.cur) :
    NV κ T X Wx (.Subscript a (.Slice lo hi none p2) pos) (mSl ma ml mh fun d lo hi st => (Res.of (dL d st) st).bind fun xs st => .ok (cutD xs lo hi) st) := by
  obtain ⟨ta, pa, ra⟩ := ha.ex
  obtain ⟨tl, pl, rl⟩ := hl.ex
  obtain ⟨th, ph, rh⟩ := hh.ex
  refine ⟨_, pe_slice sl_list pa pl ph, fun W H env st σ Q r h => ra _ _ _ _ _ _ r (PostN.bind (R := R1) h (fun z => z) fun d st1 W1 H1 v e1 r1 q1 h1 => rl _ _ _ _ _ _ r1 (PostN.bind (R := fun _ _ a b => b = a) h1 (fun _ => rfl) fun l st2 W2 H2 l' e2 r2 q2 h2 =>
    rh _ _ _ _ _ _ r2 (PostN.bind (R := fun _ _ a b => b = a) h2 (fun _ => rfl) fun u st3 W3 H3 u' e3 r3 q3 h3 => ?_)))⟩
  subst q2 q3
  dsimp only at h3
  cases ed : dL d st3 with
  | none => rw [ed] at h3; exact h3.elim
  | some ds =>
    rw [ed] at h3
    obtain ⟨a, vs, rfl, l1, l2⟩ := dL_read r3 (c1 _ _ _ _ (S _ _ _ _ _ _ (e2.trans e3) q1)) ed
    exact ⟨a, vs, rfl, l1, newLst h3 r3 (l2.cut _ _)⟩
def fSlS (d : D) (lo hi : Option Int) (st : Sto) : Res D := match d with
  | .str z => if z.length ≤ sizeLine then .ok (.str (cutS z lo hi)) st else .bad
  | _ => .bad
/-- a text's slice -/
theorem ev_sliceS (ha : EV κ T X Wx a ma) (hl : OV true T X Wx lo ml) (hh : OV true T X Wx hi mh) :
    EV κ T X Wx (.Subscript a (.Slice lo hi none p2) pos) (mSl ma ml mh fSlS) := by
  obtain ⟨ta, pa, ra⟩ := ha.ex
  obtain ⟨tl, pl, rl⟩ := hl.ex
  obtain ⟨th, ph, rh⟩ := hh.ex
  refine ⟨_, pe_slice sl_str pa pl ph, fun W H env st σ Q r h => ra _ _ _ _ _ _ r (h.bind (fun z => z) fun d st1 W1 H1 v e1 r1 q1 h1 => rl _ _ _ _ _ _ r1 (h1.bind (fun _ => rfl) fun l st2 W2 H2 l' e2 r2 q2 h2 =>
    rh _ _ _ _ _ _ r2 (h2.bind (fun _ => rfl) fun u st3 W3 H3 u' e3 r3 q3 h3 => ?_)))⟩
  subst q2 q3
  unfold fSlS at h3
  split at h3
  · split at h3
    · exact ⟨_, rep_str.mp q1, by assumption, h3.ok r3 (rep_str.mpr rfl)⟩
    · exact h3.elim
  · exact h3.elim
/-- a tuple's slice -/
theorem ev_sliceT (ha : EV κ T X Wx a ma) (hl : OV true T X Wx lo ml) (hh : OV true T X Wx hi mh) :
    EV κ T X Wx (.Subscript a (.Slice lo hi none p2) pos) (mSl ma ml mh fun d lo hi st => match d with
      | .tup xs => .ok (.tup (cutD xs lo hi)) st
      | _ => .bad) := by
  obtain ⟨ta, pa, ra⟩ := ha.ex
  obtain ⟨tl, pl, rl⟩ := hl.ex
  obtain ⟨th, ph, rh⟩ := hh.ex
  refine ⟨_, pe_slice sl_tupA pa pl ph, fun W H env st σ Q r h => ra _ _ _ _ _ _ r (h.bind (fun z => z) fun d st1 W1 H1 v e1 r1 q1 h1 => rl _ _ _ _ _ _ r1 (h1.bind (fun _ => rfl) fun l st2 W2 H2 l' e2 r2 q2 h2 =>
    rh _ _ _ _ _ _ r2 (h2.bind (fun _ => rfl) fun u st3 W3 H3 u' e3 r3 q3 h3 => ?_)))⟩
  subst q2 q3
  dsimp only at h3
  split at h3
  · have q1' := Rep.mono (e2.trans e3).mo _ _ q1
    obtain ⟨a, vs, rfl, t, r⟩ := rep_tup.mp q1'
    refine ⟨a, vs, rfl, t.sq, fun z => h3.ok r3 ?_, fun z p hp => h3.laid r3 hp (rep_tup.mpr ⟨p, _, rfl, ⟨r3.sto.nobody hp, upd_same⟩, Reps.mono (Ext.laid (κ := true) r3.sto hp).mo _ _ (r.cut _ _)⟩)⟩
    have e : cutV vs l' u' = vs := by
      unfold cutV
      rw [z.1, z.2, List.drop_zero, Nat.sub_zero, List.take_length]
    exact rep_tup.mpr ⟨a, vs, rfl, t, by rw [← e]; exact r.cut _ _⟩
  · exact h3.elim
end
/-! ### t + u -/
def dCatT (d e : D) : Option D := match d, e with
  | .tup xs, .tup ys => if xs.length + ys.length ≤ 1000000 then some (.tup (xs ++ ys)) else none
  | _, _ => none
theorem ev_catT (ha : EV κ T X Wx a ma) (hb : EV κ' T X Wx b mb) : EV (κ && κ') T X Wx (.BinOp a .Add b pos) (mBin ma mb (pure2 dCatT)) :=
  ev_op op_catA Stands.rep (fun W H env st σ x y d1 d2 Q rl h1 h2 hp => by
    unfold pure2 dCatT at hp
    split at hp
    · split at hp
      · rename_i hz
        obtain ⟨a1, v1, rfl, t1, r1⟩ := rep_tup.mp h1
        obtain ⟨a2, v2, rfl, t2, r2⟩ := rep_tup.mp h2
        have l1 := r1.length
        have l2 := r2.length
        refine ⟨a1, a2, v1, v2, rfl, rfl, t1.sq, t2.sq, mill (by omega), fun z => hp.ok rl ?_, fun z z2 => hp.ok rl ?_, fun z z2 p hp' => hp.laid rl hp' (rep_tup.mpr ⟨p, _, rfl, ⟨rl.sto.nobody hp', upd_same⟩, Reps.mono (Ext.laid (κ := true) rl.sto hp').mo _ _ (r1.append r2)⟩)⟩
        · subst z
          have := List.eq_nil_of_length_eq_zero (l1.trans rfl)
          subst this
          exact rep_tup.mpr ⟨a2, v2, rfl, t2, r2⟩
        · subst z2
          have := List.eq_nil_of_length_eq_zero (l2.trans rfl)
          subst this
          rw [List.append_nil]
          exact rep_tup.mpr ⟨a1, v1, rfl, t1, r1⟩
      · exact hp.elim
    · exact hp.elim) ha hb
/-! ### methods of texts -/
theorem ev_sm0 {id : String} {name : Str} {apos : Pos} {r : V → List V → Hp → VK → Prop} {f : Str → Option D} (slot : Slot "str" name id) (ty : typeOf (.builtin id) = pure (.type "method_descriptor")) (rule : MtR X id r) (hr : ∀ W H z d (Q : VK), f z = some d → (∀ v, Rep X.K W H d v → Q v H) → r (.str z) [] H Q)
    (ha : EV κ T X Wx a ma) (hbase : attributeBase a name X.env (eval a X.env) = eval a X.env := by rfl) (hline : (apos.endLine == pos.line) = true := by rfl) : EV κ T X Wx (.Call (.Attribute a name apos) [] [] pos) (mUn ma fun d st => match d with
      | .str z => Res.of (f z) st
      | _ => .bad) := by
  obtain ⟨ta, pa, ra⟩ := ha.ex
  refine ⟨_, pe_m0 slot ty rule pa hbase hline, fun W H env st σ Q rl h => ra _ _ _ _ _ _ rl (h.bind (fun z => z) fun d st1 W1 H1 v e1 r1 q1 h1 => ?_)⟩
  dsimp only at h1
  split at h1
  · rename_i z
    rw [rep_str.mp q1]
    cases ef : f z with
    | none => rw [ef] at h1; exact h1.elim
    | some d => rw [ef] at h1; exact ⟨⟨_, rfl⟩, hr W1 H1 z d Q ef fun v q => h1.ok r1 q⟩
  · exact h1.elim
def mSM1 (ma mb : M D) (f : Str → Str → Option D) : M D := fun env st => (ma env st).bind fun d st1 => match d with
  | .str z => (mb env st1).bind fun e st2 => match e with
    | .str y => Res.of (f z y) st2
    | _ => .bad
  | _ => .bad
theorem ev_sm1 {id : String} {name : Str} {apos : Pos} {r : V → List V → Hp → VK → Prop} {f : Str → Str → Option D} (slot : Slot "str" name id) (ty : typeOf (.builtin id) = pure (.type "method_descriptor")) (rule : MtR X id r) (hr : ∀ W H z y d (Q : VK), f z y = some d → (∀ v, Rep X.K W H d v → Q v H) → r (.str z) [.str y] H Q)
    (ha : EV κ T X Wx a ma) (hb : EV κ' T X Wx b mb) (hs : starEach [b] X.env = [(false, eval b X.env)] := by rfl) (hbase : attributeBase a name X.env (eval a X.env) = eval a X.env := by rfl) (hline : (apos.endLine == pos.line) = true := by rfl) : EV (κ && κ') T X Wx (.Call (.Attribute a name apos) [b] [] pos) (mSM1 ma mb f) := by
  obtain ⟨ta, pa, ra⟩ := ha.ex
  obtain ⟨tb, pb, rb⟩ := hb.ex
  refine ⟨_, pe_m1 slot ty rule pa pb hs hbase hline, fun W H env st σ Q rl h => ra _ _ _ _ _ _ rl (h.bind and21 fun d st1 W1 H1 v e1 r1 q1 h1 => ?_)⟩
  try dsimp only at h1
  split at h1
  · rename_i z
    rw [rep_str.mp q1]
    refine ⟨⟨_, rfl⟩, rb _ _ _ _ _ _ r1 (h1.bind and22 fun d2 st2 W2 H2 v2 e2 r2 q2 h2 => ?_)⟩
    try dsimp only at h2
    split at h2
    · rename_i y
      rw [rep_str.mp q2]
      cases ef : f z y with
      | none => rw [ef] at h2; exact h2.elim
      | some d => rw [ef] at h2; exact hr W2 H2 z y d Q ef fun v q => h2.ok r2 q
    · exact h2.elim
  · exact h1.elim
def fStarts (z y : Str) : Option D := some (.bl (Txt.startswith z y))
def fEnds (z y : Str) : Option D := some (.bl (Txt.endswith z y))
def fStripC (z y : Str) : Option D := if z.length ≤ sizeLine then some (.str (Txt.stripChars z y)) else none
section
variable {apos : Pos}
theorem ev_endswith (ha : EV κ T X Wx a ma) (hb : EV κ' T X Wx b mb) (hs : starEach [b] X.env = [(false, eval b X.env)] := by rfl) (hbase : attributeBase a "endswith" X.env (eval a X.env) = eval a X.env := by rfl) (hline : (apos.endLine == pos.line) = true := by rfl) : EV (κ && κ') T X Wx (.Call (.Attribute a "endswith" apos) [b] [] pos) (mSM1 ma mb fEnds) :=
  ev_sm1 F.slot_str_endswith F.type_str_endswith mt_endswith (fun W H z y d Q e q => by cases e; exact ⟨z, y, rfl, rfl, q _ (rep_bl.mpr rfl)⟩) ha hb hs hbase hline
theorem ev_startswith (ha : EV κ T X Wx a ma) (hb : EV κ' T X Wx b mb) (hs : starEach [b] X.env = [(false, eval b X.env)] := by rfl) (hbase : attributeBase a "startswith" X.env (eval a X.env) = eval a X.env := by rfl) (hline : (apos.endLine == pos.line) = true := by rfl) : EV (κ && κ') T X Wx (.Call (.Attribute a "startswith" apos) [b] [] pos) (mSM1 ma mb fStarts) :=
  ev_sm1 F.slot_str_startswith F.type_str_startswith mt_startswith (fun W H z y d Q e q => by cases e; exact ⟨z, y, rfl, rfl, q _ (rep_bl.mpr rfl)⟩) ha hb hs hbase hline
theorem ev_stripC (ha : EV κ T X Wx a ma) (hb : EV κ' T X Wx b mb) (hs : starEach [b] X.env = [(false, eval b X.env)] := by rfl) (hbase : attributeBase a "strip" X.env (eval a X.env) = eval a X.env := by rfl) (hline : (apos.endLine == pos.line) = true := by rfl) : EV (κ && κ') T X Wx (.Call (.Attribute a "strip" apos) [b] [] pos) (mSM1 ma mb fStripC) :=
  ev_sm1 F.slot_str_strip F.type_str_strip mt_stripChars (fun W H z y d Q e q => by
    unfold fStripC at e
    split at e
    · cases e; exact ⟨z, y, rfl, rfl, by assumption, q _ (rep_str.mpr rfl)⟩
    · cases e) ha hb hs hbase hline
end
/-! ### i ** j -/
def dPow (d e : D) : Option D := match d, e with
  | .int i, .int j => if 0 ≤ j ∧ j ≤ 1000 ∧ i.natAbs < 18446744073709551616 then some (.int (i ^ j.toNat)) else none
  | _, _ => none
theorem ev_pow (ha : EV κ T X Wx a ma) (hb : EV κ' T X Wx b mb) : EV (κ && κ') T X Wx (.BinOp a .Pow b pos) (mBin ma mb (pure2 dPow)) :=
  ev_op op_pow Stands.rep (op2_of fun W H x y d1 d2 d Q h1 h2 e q => by
    unfold dPow at e
    split at e
    · split at e
      · rename_i hz
        cases e; rw [rep_int] at h1 h2; exact ⟨_, _, h1, h2, ⟨hz.1, Int.le_trans hz.2.1 (by decide), hz.2.2⟩, q _ (rep_int.mpr rfl)⟩
      · cases e
    · cases e) ha hb
/-! ### dict(pairs) -/
def dPairs : List D → Option (List (D × D))
  | [] => some []
  | .tup [k, v] :: r => match dKey? k, dPairs r with
    | some _, some ps => some ((k, v) :: ps)
    | _, _ => none
  | _ :: _ => none
def dMerge (ps : List (D × D)) : List (D × D) := ps.foldl (fun acc kv => dPut acc kv.1 kv.2) []
end
end Ev

set_option maxRecDepth 100000
set_option maxHeartbeats 4000000
/-! sorted, dict(pairs), what is owned given up -/
namespace Ev
open PySem PySem.Spec PyProof.Rows L2
/-! ### contents as data -/
mutual
def encD : D → PyData
  | .bl b => .bool b
  | .int i => .int i
  | .str x => .str x
  | .tup ds => .tuple (encDs ds)
  | .lst ds => .list (encDs ds)
  | _ => .none
def encDs : List D → List PyData
  | [] => []
  | d :: ds => encD d :: encDs ds
end
mutual
def isData : D → Bool
  | .bl _ | .int _ | .str _ => true
  | .tup ds | .lst ds => isDatas ds
  | _ => false
def isDatas : List D → Bool
  | [] => true
  | d :: ds => isData d && isDatas ds
end
theorem encDs_map : ∀ ds : List D, encDs ds = ds.map encD
  | [] => by simp [encDs]
  | d :: ds => by simp [encDs, encDs_map ds]
def sortOk (ds : List D) : Bool := isDatas ds && (ds.all fun a => ds.all fun b => PySem.W.alike (encD a) (encD b)) &&
  ((ds.all fun a => match a with | .tup (_ :: _) => true | _ => false) || (ds.all fun a => match a with | .tup _ => false | _ => true)) && (ds.all fun a => decide ((encD a).depth ≤ 20)) && decide (ds.length ≤ 1000000)
noncomputable def sortD (ds : List D) : List D := ds.mergeSort (PySem.W.dataLe false encD)
section
variable {X : Cx} {pins : List (Addr × Obj)} {σ : L2.St} {H : Hp} {s : Shared} {W : Wm}
mutual
theorem reads_of (I : Inv X pins σ H s) : ∀ (d : D) (x : V) (v : Value), Rep X.K W H d x → RelV x v → isData d = true → ∃ as, Reads s.heap v (encD d) as
  | .bl b, x, v, h, r, _ => by rw [rep_bl.mp h] at r; cases r; exact ⟨[], by simpa [encD] using Reads.bool b⟩
  | .int i, x, v, h, r, _ => by rw [rep_int.mp h] at r; obtain ⟨t, rfl⟩ := r; exact ⟨[], by simpa [encD] using Reads.int i t⟩
  | .str z, x, v, h, r, _ => by rw [rep_str.mp h] at r; obtain ⟨t, rfl⟩ := r; exact ⟨[], by simpa [encD] using Reads.str z t⟩
  | .tup ds, x, v, h, r, e => by
    obtain ⟨a, vs, rfl, t, q⟩ := rep_tup.mp h
    cases r
    obtain ⟨its, rv, ⟨o, ho, hc, n, hd⟩, _⟩ := I.tuple t.sq
    obtain ⟨as, ra⟩ := readsAll_of I ds vs its q rv (by simpa [isData] using e)
    exact ⟨as, by rw [encD]; exact Reads.tuple ho hc hd (by simpa using ra)⟩
  | .lst ds, x, v, h, r, e => by
    obtain ⟨a, vs, rfl, t, q⟩ := rep_lst.mp h
    cases r
    obtain ⟨its, rv, ⟨o, n, ho, hc, hdn, hd⟩, _⟩ := I.list t.sq
    obtain ⟨as, ra⟩ := readsAll_of I ds vs its q rv (by simpa [isData] using e)
    exact ⟨_, by rw [encD]; exact Reads.list ho hc hd (by simpa using ra)⟩
  | .non, _, _, _, _, e => by simp [isData] at e
  | .dct _, _, _, _, _, e => by simp [isData] at e
  | .loc _, _, _, _, _, e => by simp [isData] at e
  | .own _, _, _, _, _, e => by simp [isData] at e
  | .ownd _, _, _, _, _, e => by simp [isData] at e
theorem readsAll_of (I : Inv X pins σ H s) : ∀ (ds : List D) (vs : List V) (its : List Value), Reps X.K W H ds vs → Vals vs its → isDatas ds = true → ∃ as, ReadsAll s.heap its (encDs ds) as
  | [], vs, its, h, r, _ => by
    unfold Reps at h; subst h; cases r; exact ⟨[], by simpa [encDs] using ReadsAll.nil⟩
  | d :: ds, vs, its, h, r, e => by
    unfold Reps at h
    obtain ⟨v, us, rfl, h1, h2⟩ := h
    cases r with
    | cons r1 r2 =>
      simp only [isDatas, Bool.and_eq_true] at e
      obtain ⟨a1, q1⟩ := reads_of I d v _ h1 r1 e.1
      obtain ⟨a2, q2⟩ := readsAll_of I ds us _ h2 r2 e.2
      exact ⟨_, by rw [encDs]; exact ReadsAll.cons q1 q2⟩
end
def SRel (X : Cx) (W : Wm) (H : Hp) : Value → D → Prop := fun v d => ∃ x, RelV x v ∧ Rep X.K W H d x
theorem each_srel : ∀ {ds : List D} {vs : List V} {its : List Value}, Reps X.K W H ds vs → Vals vs its → PySem.W.EachIs (SRel X W H) its ds
  | [], vs, its, h, r => by unfold Reps at h; subst h; cases r; exact .nil
  | d :: ds, vs, its, h, r => by
    unfold Reps at h
    obtain ⟨v, us, rfl, h1, h2⟩ := h
    cases r with
    | cons r1 r2 => exact .cons ⟨v, r1, h1⟩ (each_srel h2 r2)
theorem srel_each : ∀ {ds : List D} {its : List Value}, PySem.W.EachIs (SRel X W H) its ds → ∃ vs, Reps X.K W H ds vs ∧ Vals vs its
  | _, _, .nil => ⟨[], Reps.nil, .nil⟩
  | _, _, .cons ⟨v, r1, h1⟩ t => by
    obtain ⟨vs, h2, r2⟩ := srel_each t
    exact ⟨v :: vs, Reps.cons h1 h2, .cons r1 r2⟩
theorem each_reads (I : Inv X pins σ H s) : ∀ {ds : List D} {vs : List V} {its : List Value}, Reps X.K W H ds vs → Vals vs its → isDatas ds = true → PySem.W.EachIs (fun v b => ∃ as, Reads s.heap v (encD b) as) its ds
  | [], vs, its, h, r, _ => by unfold Reps at h; subst h; cases r; exact .nil
  | d :: ds, vs, its, h, r, e => by
    unfold Reps at h
    obtain ⟨v, us, rfl, h1, h2⟩ := h
    simp only [isDatas, Bool.and_eq_true] at e
    cases r with
    | cons r1 r2 => exact .cons (reads_of I d v _ h1 r1 e.1) (each_reads I h2 r2 e.2)
theorem isDatas_mem : ∀ {ds : List D}, isDatas ds = true → ∀ d ∈ ds, isData d = true
  | [], _, d, hd => by cases hd
  | x :: ds, e, d, hd => by
    simp only [isDatas, Bool.and_eq_true] at e
    rcases List.mem_cons.mp hd with rfl | hd
    · exact e.1
    · exact isDatas_mem e.2 d hd
/-- sorted(xs) by content -/
theorem call_sortedC (hu : X.A.units + 64 < cLine) : CallR X (.builtin "sorted") (fun us H Q => ∃ (a : Addr) (xs : List V) (ds : List D) (W : Wm), us = [V.ref a] ∧ SqL X.K H a xs ∧ Reps X.K W H ds xs ∧ sortOk ds = true ∧
    ∀ (ys : List V) (p : Addr), Reps X.K W H (sortD ds) ys → H p = none → Q (.ref p) (upd H p (.lst ys))) := by
  intro pins s σ H us vs Q I r h
  obtain ⟨a, xs, ds, W, rfl, hs, hr, ok, q⟩ := h
  obtain ⟨its, rv, hl, hz⟩ := I.list hs
  rw [Vals.ref1 r]
  unfold sortOk at ok
  simp only [Bool.and_eq_true, Bool.or_eq_true, List.all_eq_true, decide_eq_true_eq] at ok
  obtain ⟨⟨⟨⟨o1, o2⟩, o3⟩, o4⟩, o5⟩ := ok
  refine PySem.W.sorted_data (bs := ds) (enc := encD) (R := SRel X W H) hl.isList (each_srel hr rv) (each_reads I hr rv o1) ?_ ?_ ?_ ?_ fun out hlen he => ?_
  · intro d hd d' hd'
    obtain ⟨b, hb, rfl⟩ := List.mem_map.mp hd
    obtain ⟨b', hb', rfl⟩ := List.mem_map.mp hd'
    exact o2 b hb b' hb'
  · rcases o3 with o3 | o3
    · refine .inl fun d hd => ?_
      obtain ⟨b, hb, rfl⟩ := List.mem_map.mp hd
      have := o3 b hb
      split at this
      · exact ⟨_, _, by rw [encD, encDs]⟩
      · cases this
    · refine .inr fun d hd => ?_
      obtain ⟨b, hb, rfl⟩ := List.mem_map.mp hd
      have h1 := o3 b hb
      have h2 := isDatas_mem o1 b hb
      cases b with
      | tup _ => cases h1
      | bl _ => exact ⟨(by simp [encD]), fun xs => by simp [encD]⟩
      | int _ => exact ⟨(by simp [encD]), fun xs => by simp [encD]⟩
      | str _ => exact ⟨(by simp [encD]), fun xs => by simp [encD]⟩
      | lst _ => exact ⟨(by simp [encD]), fun xs => by simp [encD]⟩
      | _ => simp [isData] at h2
  · rw [sizeLine_eq]; omega
  · intro b hb
    have := o4 b hb
    omega
  · obtain ⟨ys, h1, h2⟩ := srel_each he
    obtain ⟨c, hc⟩ := sortedAll_at s.heap its out.toArray
    refine ⟨.ref _, _, I.laid (t' := s.toks) (fun b o e => sortedAll_old e) (Nat.le_succ _) (show ObjOk X.prog X.w _ _ _ (.lst ys) from ⟨?_, out, c, h2, hc⟩), rfl, q ys _ h1 (I.hok.fresh (Nat.le_succ _))⟩
    rw [h2.length, hlen, sizeLine_eq]; omega
end
noncomputable def fSorted (d : D) (st : Sto) : Res (List D) := match dL d st with
  | some ds => if sortOk ds = true then .ok (sortD ds) st else .bad
  | none => .bad
section
variable {T : List (Addr × Str)} {X : Cx} {Wx : WX} {κ κ' κa κb κc : Bool} {a b c e : Expr} {ma mb mc : M D} {pos p : Pos} {R1 R2 R4 : Wm → Hp → D → V → Prop}
theorem nv_sorted {f : Pos} (hu : X.A.units + 64 < cLine) (hg : Gl X "sorted") (hm : X.mg "sorted" = none) (ha : EVg κ R1 T X Wx a ma) (c1 : ToCur X R1 := by first | exact ToCur.rep | exact ToCur.held | exact ToCur.cur)
    (he : starEach (a :: []) X.env = (false, eval a X.env) :: starEach [] X.env := by rfl) (hpl : (backTo pos (starEach [] X.env)).any (·.1) = false := by rfl) : NV κ T X Wx (.Call (.Name "sorted" f) [a] [] pos) (mUn ma fSorted) :=
  nv_callB (call_sortedC hu) (fun W H env st σ x d Q rl h1 hp => by
    unfold fSorted at hp
    split at hp
    · rename_i ds ed
      split at hp
      · rename_i ok
        obtain ⟨a, vs, rfl, h2, h3⟩ := dL_read rl h1 ed
        exact ⟨a, vs, ds, W, rfl, h2, h3, ok, fun ys p hr hp' => newLst hp rl hr p hp'⟩
      · exact hp.elim
    · exact hp.elim) hg hm rfl ha c1 (by decide) (by decide) he hpl
/-! ### sorted(d), list(d) -/
def keysInt : List (D × D) → Option (List Int)
  | [] => some []
  | (.int i, _) :: r => (keysInt r).map (i :: ·)
  | _ :: _ => none
def keysStr : List (D × D) → Option (List Str)
  | [] => some []
  | (.str i, _) :: r => (keysStr r).map (i :: ·)
  | _ :: _ => none
theorem keysInt_read {K : PySem.W.Frag} {W : Wm} {H : Hp} : ∀ {kvs : List (D × D)} {ks : List (Key × V)} {is : List Int}, RepK K W H kvs ks → keysInt kvs = some is → ks.map (·.1) = is.map Sum.inl
  | [], ks, is, h, e => by unfold RepK at h; subst h; cases e; rfl
  | (k, d) :: r, ks, is, h, e => by
    unfold RepK at h
    obtain ⟨k', v, r', rfl, rfl, _, h2⟩ := h
    cases k' with
    | inr z => simp [keysInt, keyD] at e
    | inl i =>
      simp only [keysInt, keyD] at e
      cases er : keysInt r with
      | none => rw [er] at e; cases e
      | some js => rw [er] at e; cases e; simp [keysInt_read h2 er]
theorem keysStr_read {K : PySem.W.Frag} {W : Wm} {H : Hp} : ∀ {kvs : List (D × D)} {ks : List (Key × V)} {is : List Str}, RepK K W H kvs ks → keysStr kvs = some is → ks.map (·.1) = is.map Sum.inr
  | [], ks, is, h, e => by unfold RepK at h; subst h; cases e; rfl
  | (k, d) :: r, ks, is, h, e => by
    unfold RepK at h
    obtain ⟨k', v, r', rfl, rfl, _, h2⟩ := h
    cases k' with
    | inl z => simp [keysStr, keyD] at e
    | inr i =>
      simp only [keysStr, keyD] at e
      cases er : keysStr r with
      | none => rw [er] at e; cases e
      | some js => rw [er] at e; cases e; simp [keysStr_read h2 er]
def leI (a b : Int) : Bool := decide (a ≤ b)
def leS (a b : Str) : Bool := decide (a.cps.toList ≤ b.cps.toList)
theorem sortI_is {ys ks : List Int} (p : ys.Perm ks) (s : ys.Pairwise (· ≤ ·)) : ys = ks.mergeSort leI := by
  have h1 : (ks.mergeSort leI).Pairwise (fun a b => leI a b = true) := List.pairwise_mergeSort (fun a b c h1 h2 => by simp [leI] at *; omega) (fun a b => by simp [leI]; omega) ks
  exact List.Perm.eq_of_pairwise (le := (· ≤ ·)) (fun _ _ _ _ a b => Int.le_antisymm a b) s (h1.imp fun h => by simpa [leI] using h) (p.trans (List.mergeSort_perm ks leI).symm)
theorem rising_all : ∀ (l : List Str) (p : Str), risingS p l = true → (∀ x ∈ l, p.cps.toList ≤ x.cps.toList) ∧ l.Pairwise (fun a b => a.cps.toList ≤ b.cps.toList)
  | [], p, _ => ⟨fun x hx => (by cases hx), .nil⟩
  | y :: r, p, h => by
    simp only [risingS, Bool.and_eq_true, Bool.not_eq_true'] at h
    obtain ⟨h1, h2⟩ := h
    rw [ltCps_eq] at h1
    have h1 : p.cps.toList ≤ y.cps.toList := List.not_lt.mp (by simpa using h1)
    obtain ⟨h3, h4⟩ := rising_all r y h2
    refine ⟨fun x hx => ?_, List.pairwise_cons.mpr ⟨h3, h4⟩⟩
    rcases List.mem_cons.mp hx with rfl | hx
    · exact h1
    · exact List.le_trans h1 (h3 x hx)
theorem sortS_is {ys ks : List Str} (p : ys.Perm ks) (s : sortedS ys = true) : ys = ks.mergeSort leS := by
  have h1 : (ks.mergeSort leS).Pairwise (fun a b => leS a b = true) := List.pairwise_mergeSort (fun a b c h1 h2 => by simp only [leS, decide_eq_true_eq] at *; exact List.le_trans h1 h2) (fun a b => by
    simp only [leS, Bool.or_eq_true, decide_eq_true_eq]; exact List.le_total _ _) ks
  have h2 : ys.Pairwise (fun a b => a.cps.toList ≤ b.cps.toList) := by
    cases ys with
    | nil => exact .nil
    | cons x r => obtain ⟨a, b⟩ := rising_all r x s; exact List.pairwise_cons.mpr ⟨a, b⟩
  exact List.Perm.eq_of_pairwise (le := fun a b : Str => a.cps.toList ≤ b.cps.toList) (fun x y _ _ a b => PySem.W.str_of_cps (List.le_antisymm a b)) h2 (h1.imp fun h => by simpa [leS] using h) (p.trans (List.mergeSort_perm ks leS).symm)
def fSortedD (d : D) (st : Sto) : Res (List D) := match d with
  | .dct (false, kvs) => if kvs.length < 64 then match keysInt kvs with
    | some is => .ok ((is.mergeSort leI).map .int) st
    | none => match keysStr kvs with
      | some zs => .ok ((zs.mergeSort leS).map .str) st
      | none => .bad
    else .bad
  | _ => .bad
theorem CRep.dctK {K : PySem.W.Frag} {W : Wm} {H : Hp} {kvs : List (D × D)} {v : V} (h : CRep K W H (.dct (false, kvs)) v) : ∃ a ks, v = .ref a ∧ Rd H a (.dK ks) ∧ RepK K W H kvs ks := by
  obtain ⟨a, rfl, q⟩ := CRep.dct h
  rcases q with ⟨ks, h1, h2⟩ | ⟨ks, h1, h2⟩
  · exact ⟨a, ks, rfl, h1, h2.2⟩
  · cases h2.1
theorem Reps.strs {K : PySem.W.Frag} {W : Wm} {H : Hp} {ns : List Str} : Reps K W H (ns.map D.str) (ns.map V.str) := by
  induction ns with
  | nil => exact Reps.nil
  | cons a t ih => exact Reps.cons (rep_str.mpr rfl) ih
theorem nv_sortedD {f : Pos} (hc : X.calm = true) (hg : Gl X "sorted") (hm : X.mg "sorted" = none) (ha : EVg κ R1 T X Wx a ma) (c1 : ToCur X R1 := by first | exact ToCur.rep | exact ToCur.held | exact ToCur.cur)
    (he : starEach (a :: []) X.env = (false, eval a X.env) :: starEach [] X.env := by rfl) (hpl : (backTo pos (starEach [] X.env)).any (·.1) = false := by rfl) : NV κ T X Wx (.Call (.Name "sorted" f) [a] [] pos) (mUn ma fSortedD) :=
  nv_callB ((call_sortedD hc).or (call_sortedDI hc)) (fun W H env st σ x d Q rl h1 hp => by
    unfold fSortedD at hp
    split at hp
    · rename_i kvs
      split at hp
      · rename_i hz
        obtain ⟨a, ks, rfl, h2, h3⟩ := CRep.dctK h1
        have hl := h3.length
        split at hp
        · rename_i is ei
          have hk := keysInt_read h3 ei
          have hl2 := congrArg List.length hk
          rw [List.length_map, List.length_map] at hl2
          refine .inr ⟨a, ks, is, rfl, h2, hk, by omega, fun ys p q1 q2 hp' => ?_⟩
          rw [sortI_is q1 q2]
          exact newLst hp rl Reps.ints p hp'
        · split at hp
          · rename_i zs ei
            have hk := keysStr_read h3 ei
            have hl2 := congrArg List.length hk
            rw [List.length_map, List.length_map] at hl2
            refine .inl ⟨a, ks, zs, rfl, h2, hk, by omega, fun ys p q1 q2 hp' => ?_⟩
            rw [sortS_is q1 q2]
            exact newLst hp rl Reps.strs p hp'
          · exact hp.elim
      · exact hp.elim
    · exact hp.elim) hg hm rfl ha c1 (by decide) (by decide) he hpl
end
end Ev

set_option maxRecDepth 100000
set_option maxHeartbeats 4000000
/-! dict(pairs), sum(d.values()), enumerate, what is owned given up, dicts walked -/
namespace Ev
open PySem PySem.Spec PyProof.Rows L2
section
variable {K : PySem.W.Frag} {W : Wm} {H : Hp}
theorem pairs_read : ∀ {ds : List D} {vs : List V} {ps : List (D × D)}, Reps K W H ds vs → dPairs ds = some ps → ∃ (as : List Addr) (kvs : List (Key × V)), vs = as.map V.ref ∧ Paired (fun p kv => SqT K H p [kV kv.1, kv.2]) as kvs ∧ RepK K W H ps kvs
  | [], vs, ps, h, e => by
    unfold dPairs at e; cases e
    unfold Reps at h; subst h
    exact ⟨[], [], rfl, .nil, by unfold RepK; rfl⟩
  | d :: ds, vs, ps, h, e => by
    unfold dPairs at e
    split at e
    · rename_i heq; cases heq
    · rename_i k v r heq
      cases heq
      split at e
      · rename_i key ps' e1 e2
        cases e
        unfold Reps at h
        obtain ⟨x, us, rfl, h1, h2⟩ := h
        obtain ⟨as, kvs, rfl, q1, q2⟩ := pairs_read h2 e2
        obtain ⟨a, ws, rfl, t, q⟩ := rep_tup.mp h1
        have ek := dKey_some e1
        subst ek
        unfold Reps at q
        obtain ⟨kv, r1, rfl, h3, q⟩ := q
        unfold Reps at q
        obtain ⟨vv, r2, rfl, h4, q⟩ := q
        unfold Reps at q
        subst q
        have := rep_key.mp h3
        subst this
        exact ⟨a :: as, (key, vv) :: kvs, rfl, .cons t.sq q1, by unfold RepK; exact ⟨key, vv, kvs, rfl, rfl, h4, q2⟩⟩
      · cases e
    · cases e
theorem RepK.merge : ∀ {ps acc : List (D × D)} {kvs ks : List (Key × V)}, RepK K W H ps kvs → RepK K W H acc ks → RepK K W H (ps.foldl (fun acc kv => dPut acc kv.1 kv.2) acc) (mergeK ks kvs)
  | [], acc, kvs, ks, h, r => by unfold RepK at h; subst h; exact r
  | (k, d) :: ps, acc, kvs, ks, h, r => by
    unfold RepK at h
    obtain ⟨k', v, r', rfl, rfl, h1, h2⟩ := h
    exact RepK.merge (ps := ps) (acc := dPut acc (keyD k') d) (kvs := r') (ks := putK ks k' v) h2 (r.put h1)
end
section
variable {T : List (Addr × Str)} {X : Cx} {Wx : WX} {κ κ' κa κb κc : Bool} {a b c e : Expr} {ma mb mc : M D} {pos p : Pos} {R1 R2 R4 : Wm → Hp → D → V → Prop}
/-- dict(pairs) -/
def fDictP (d : D) (st : Sto) : Res Dc := match (dL d st).bind dPairs with
  | some ps => .ok (false, dMerge ps) st
  | none => .bad
theorem nv_dictP {f : Pos} (hc : X.calm = true) (hg : Gl X "dict") (hm : X.mg "dict" = none) (ha : EVg κ R1 T X Wx a ma) (c1 : ToCur X R1 := by first | exact ToCur.rep | exact ToCur.held | exact ToCur.cur)
    (he : starEach (a :: []) X.env = (false, eval a X.env) :: starEach [] X.env := by rfl) (hpl : (backTo pos (starEach [] X.env)).any (·.1) = false := by rfl) : NVd κ T X Wx (.Call (.Name "dict" f) [a] [] pos) (mUn ma fDictP) :=
  nv_callTy (call_dictP hc) (fun W H env st σ x d Q rl h1 hp => by
    unfold fDictP at hp
    split at hp
    · rename_i ps e
      cases ed : dL d st with
      | none => rw [ed] at e; cases e
      | some ds =>
        rw [ed] at e
        obtain ⟨a, vs, rfl, h2, h3⟩ := dL_read rl h1 ed
        obtain ⟨as, kvs, rfl, q1, q2⟩ := pairs_read h3 e
        refine ⟨a, as, kvs, rfl, h2, q1, fun p hp' => hp.laid rl hp' (fun _ z => by cases z) (.inl ⟨_, upd_same, rfl, ?_⟩)⟩
        exact RepK.mono (ext_laidT (κ := true) rl.sto hp').mo _ _ (RepK.merge q2 (by unfold RepK; rfl))
    · exact hp.elim) hg hm rfl ha c1 (by decide) (by decide) he hpl
/-! ### sum(d.values()) -/
def tSumVals (td : TE) : TE := fun σ H Q => td σ H fun x H1 => ∃ (a : Addr) (kvs : List (Key × V)) (is : List Int), x = V.ref a ∧ Rd H1 a (.dK kvs) ∧ kvs.map (·.2) = is.map V.int ∧ Q (.int is.sum) H1
theorem pe_sumVals {o : Expr} {apos mpos : Pos} {td : TE} (hc : X.calm = true) (hg : Gl X "sum") (hm : X.mg "sum" = none) (hd : PE X o td) (hbase : attributeBase o "values" X.env (eval o X.env) = eval o X.env := by rfl) (hline : (apos.endLine == mpos.line) = true := by rfl)
    (hse : starEach [Expr.Call (.Attribute o "values" apos) [] [] mpos] X.env = [(false, eval (Expr.Call (.Attribute o "values" apos) [] [] mpos) X.env)] := by rfl) :
    PE X (.Call (.Name "sum" p) [.Call (.Attribute o "values" apos) [] [] mpos] [] pos) (tSumVals td) := by
  refine ⟨fun pins s σ H Q I h => ?_⟩
  refine wpAny_Call_Name_kw (ld_blt I hg hm (u := .builtin "sum") (by first | rfl | decide +kernel) ?_ (by first | decide +kernel | decide) (by first | decide +kernel | decide))
  rw [hse]
  refine PySem.callWith_builtin1 (wpAny_Call_method0_late hbase hline (thn (hd.run pins s σ H _ I h) fun v s1 ⟨x, H1, I1, r1, a, kvs, is, ex, ha, hv, q⟩ => ?_))
  subst ex
  obtain rfl : v = Value.ref a := r1
  obtain ⟨_, hsys, vs, rel, dof⟩ := dk_rd I1.hok ha
  obtain ⟨ep, dat⟩ := dof.dictAt
  have dat' := dat
  obtain ⟨ob, es, ho, ex, hdat, hko, hpr, hnd⟩ := dat'
  refine ⟨"dict", "dict.values", F.plainAttrs_dict, F.slot_dict_values, F.type_dict_values, ⟨ob, ho, ex.1⟩, fun b e => ?_, Calls.callWith_builtin rfl (PySem.evalArgs_none ?_)⟩
  · cases e
    exact ⟨ob, ho, ex.2.1⟩
  refine call_meetsIn F.slot_dict_values ⟨ob, ho, ex.1⟩ F.entry_dict_values (F.args_dict_values_1 _) (meets_dict_values (mixKind X.prog X.w) a hsys) ⟨⟨vs, dof⟩, ?_⟩
  have k1 : ∀ b u, s1.heap.get? b = some u → (s1.heap.push { cls := .type "dict_values", data := .fields #[.ref a] }).get? b = some u := fun b u e => Heap.get?_push_of_some _ e
  have dat1 : (s1.heap.push { cls := .type "dict_values", data := .fields #[.ref a] }).DictAt (mixKind X.prog X.w) a vs ep := dat.keep k1
  have hlv : vs.length = is.length := by
    have e1 := congrArg List.length hv
    rw [List.length_map, List.length_map] at e1
    rw [← e1]
    exact (KV.length rel).symm
  have hval : ∀ (i : Nat) (v : Value), (∃ k, vs[i]? = some (k, v)) → ∃ t, v = Value.int (is.getD i 0) t := fun i v ⟨k, hk⟩ => by
    obtain ⟨x, h1, h2⟩ := KV.at' rel hk
    have e1 : (kvs.map (·.2))[i]? = some x := by rw [List.getElem?_map, h1] <;> rfl
    rw [hv, List.getElem?_map] at e1
    obtain ⟨j, hj, e2⟩ := Option.map_eq_some_iff.mp e1
    subst e2
    obtain ⟨t, e3⟩ := h2
    refine ⟨t, ?_⟩
    rw [e3, List.getD_eq_getElem?_getD, hj] <;> rfl
  refine call_sum_walkG (wpAny_pyIter_values (v := s1.heap.objs.size) (d := a) ⟨_, Heap.get?_push_size _ rfl, rfl, rfl⟩ dat1 ?_)
  have hlt : a < s1.heap.objs.size := Heap.lt_size ho
  have hsz : (s1.heap.push { cls := .type "dict_values", data := .fields #[.ref a] }).objs.size = s1.heap.objs.size + 1 := Heap.size_push _ _
  refine ⟨_, _, _, _, _, _, fun i => is.getD i 0, rfl, Walks.dictValues (knd := mixKind X.prog X.w) (A := X.A.in1) (I.ok.hd hc) (s1.heap.push { cls := .type "dict_values", data := .fields #[.ref a] }).objs.size a (by rw [hsz]; exact Nat.ne_of_lt (Nat.lt_succ_of_lt hlt)) vs ep,
    ⟨⟨_, Heap.get?_push_size _ rfl, rfl, rfl⟩, dat1.keep fun b u e => Heap.get?_push_of_some _ e⟩, fun b hb => ?_, hval, fun h' tk t' hk => ?_⟩
  · show b < ((s1.heap.push _).push _).objs.size
    rw [Heap.size_push, Heap.size_push]
    rw [hsz] at hb
    rcases List.mem_cons.mp hb with e | hb
    · rw [e]
      exact Nat.lt_succ_self _
    · have e : b = a := List.mem_singleton.mp hb
      rw [e]
      exact Nat.lt_succ_of_lt (Nat.lt_succ_of_lt hlt)
  · refine ⟨.int _, H1, I1.kept (t' := tk) fun b u e => hk b u (fun hmem => ?_) (Heap.get?_push_of_some _ (k1 b u e)), ⟨t', rfl⟩, ?_⟩
    · have e1 : b = (s1.heap.push { cls := .type "dict_values", data := .fields #[.ref a] }).objs.size := List.mem_singleton.mp hmem
      have e2 := Heap.lt_size e
      rw [hsz] at e1
      rw [e1] at e2
      exact absurd e2 (Nat.not_lt.mpr (Nat.le_succ _))
    · rw [preSum_getD, List.take_of_length_le (by omega)]
      exact q
def valsInt (kvs : List (D × D)) : Option (List Int) := dInts (kvs.map (·.2))
theorem RepK.vals {K : PySem.W.Frag} {W : Wm} {H : Hp} : ∀ {kvs : List (D × D)} {ks : List (Key × V)}, RepK K W H kvs ks → Reps K W H (kvs.map (·.2)) (ks.map (·.2))
  | [], ks, h => by unfold RepK at h; subst h; exact Reps.nil
  | (k, d) :: r, ks, h => by
    unfold RepK at h
    obtain ⟨k', v, r', rfl, rfl, h1, h2⟩ := h
    exact Reps.cons h1 (RepK.vals h2)
def dSumV (d : D) (_ : Sto) : Option D := match d with
  | .dct (false, kvs) => (valsInt kvs).map fun is => .int is.sum
  | _ => none
theorem ev_sumVals {apos mpos : Pos} (hc : X.calm = true) (hg : Gl X "sum") (hm : X.mg "sum" = none) (ha : EVg κ R1 T X Wx a ma) (c1 : ToCur X R1 := by first | exact ToCur.rep | exact ToCur.held | exact ToCur.cur) (hbase : attributeBase a "values" X.env (eval a X.env) = eval a X.env := by rfl) (hline : (apos.endLine == mpos.line) = true := by rfl)
    (hse : starEach [Expr.Call (.Attribute a "values" apos) [] [] mpos] X.env = [(false, eval (Expr.Call (.Attribute a "values" apos) [] [] mpos) X.env)] := by rfl) :
    EV κ T X Wx (.Call (.Name "sum" p) [.Call (.Attribute a "values" apos) [] [] mpos] [] pos) (mUn ma fun d st => Res.of (dSumV d st) st) := by
  obtain ⟨ta, pa, ra⟩ := ha.ex
  refine ⟨_, pe_sumVals hc hg hm pa hbase hline hse, fun W H env st σ Q rl h => ra _ _ _ _ _ _ rl (h.bind (fun z => z) fun d st1 W1 H1 v e1 r1 q1 h1 => ?_)⟩
  dsimp only at h1
  cases ed : dSumV d st1 with
  | none => rw [ed] at h1; exact h1.elim
  | some d' =>
    rw [ed] at h1
    unfold dSumV at ed
    split at ed
    · rename_i kvs
      cases ei : valsInt kvs with
      | none => rw [ei] at ed; cases ed
      | some is =>
        rw [ei] at ed; cases ed
        obtain ⟨a, ks, rfl, h2, h3⟩ := CRep.dctK (c1 _ _ _ _ q1)
        exact ⟨a, ks, is, rfl, h2, reps_dInts h3.vals ei, h1.ok r1 (rep_int.mpr rfl)⟩
    · cases ed
/-! ### what a slot owns is given up: a statement before it -/
def frzE (i : Nat) (env : Env) : Env := match env[i]? with
  | some (some d) => env.set i (some d.cur)
  | _ => env
def sFrz (i : Nat) (m : Sm) : Sm := fun env st => m (frzE i env) st
theorem rel_frz {G : Gx} {W : Wm} {H : Hp} {env : Env} {st : Sto} {σ : L2.St} (r : Rel G W H env st σ) (i : Nat) : ∃ W', ExtS W H W' H ∧ Rel G W' H (frzE i env) st σ := by
  unfold frzE
  split
  · rename_i d e
    obtain ⟨v, ev, at_⟩ := r.env.at_ i d e
    have same : ∀ (e2 : d.cur = d), ∃ W', ExtS W H W' H ∧ Rel G W' H (env.set i (some d.cur)) st σ := fun e2 => by
      rw [e2]
      refine ⟨W, ExtS.refl, ?_⟩
      have : env.set i (some d) = env := by
        apply List.ext_getElem?
        intro j
        by_cases hj : i = j
        · subst hj
          have hl : i < env.length := (List.getElem?_eq_some_iff.mp e).1
          rw [List.getElem?_set_self hl, e]
        · rw [List.getElem?_set_ne hj]
      rw [this]
      exact r
    have key : ∀ (a : Addr), v = .ref a → W a = some (.slot i) → (∀ W', Mo W H W' H → W' a = none → Rep G.K W' H d.cur v) → ∃ W', ExtS W H W' H ∧ Rel G W' H (env.set i (some d.cur)) st σ := fun a ha wa hr => by
      subst ha
      have mo := mo_untag (W := W) (H := H) (p := a) fun n z => by rw [wa] at z; cases z
      refine ⟨tagW W a none, ⟨fun b o h q n => ⟨?_, q⟩, mo.ob, fun b h => ⟨?_, rfl⟩, fun b o h n => ⟨o, h, n⟩⟩, r.sto.untag (fun n z => by rw [wa] at z; cases z) (fun n f z => by rw [wa] at z; cases z), ?_⟩
      · by_cases z : b = a
        · rw [z, tagW_same]
        · rw [tagW_ne z]; exact h
      · rw [tagW_ne fun z => by subst z; rw [wa] at h; cases h]; exact h
      · refine ⟨by rw [List.length_set]; exact r.env.len, fun j d' e' => ?_⟩
        by_cases hj : i = j
        · subst hj
          have hl : i < env.length := (List.getElem?_eq_some_iff.mp e).1
          rw [List.getElem?_set_self hl] at e'
          cases e'
          exact ⟨_, ev, .of (hr _ mo tagW_same)⟩
        · rw [List.getElem?_set_ne hj] at e'
          obtain ⟨u, q1, q2⟩ := r.env.at_ j d' e'
          exact ⟨u, q1, q2.mono mo fun b hb => ⟨by rw [tagW_ne fun z => by subst z; rw [wa] at hb; exact hj (Tag.slot.inj (Option.some.inj hb))]; exact hb, rfl⟩⟩
    cases d with
    | own ds =>
      obtain ⟨a, vs, h1, h2, h3, h4⟩ := at_
      exact key a h1 h2 fun W' m wn => rep_lst.mpr ⟨a, vs, h1, .inl ⟨wn, .inl h3⟩, Reps.mono m _ _ h4⟩
    | ownd kvs =>
      obtain ⟨a, h1, h2, h3⟩ := at_
      refine key a h1 h2 fun W' m wn => rep_dct.mpr ⟨a, h1, ?_⟩
      rcases h3 with ⟨ks, q1, q2⟩ | ⟨ks, q1, q2⟩
      · exact .inl ⟨ks, ⟨wn, .inl q1⟩, RepKc.mono m _ _ q2⟩
      · exact .inr ⟨ks, ⟨wn, .inl q1⟩, RepTc.mono m _ _ q2⟩
    | _ => exact same rfl
  · exact ⟨W, ExtS.refl, r⟩
theorem sv_frz (i : Nat) {s : Stmt} {m : Sm} (h : SV T X Wx s m) : SV T X Wx s (sFrz i m) := by
  obtain ⟨t, p, r⟩ := h.ex
  refine ⟨t, p, fun W H env st σ D rl q => ?_⟩
  obtain ⟨W', e, rl'⟩ := rel_frz rl i
  exact r _ _ _ _ _ _ rl' (SPost.ext q e)
/-! ### enumerate(xs) -/
def dEnum (ds : List D) : List D := ds.mapIdx fun i d => .tup [.int (i : Nat), d]
theorem iv_enum {Kp : Kept} {elts : List Expr} {kk : Nat} {tpos : Pos} (hg : Gl X "enumerate") (hm : X.mg "enumerate" = none) (ha : EV κ T X Wx a ma) (K1 : StandsK Kp (RepR X) := by first | exact StandsK.s | exact StandsK.rep) (hs : starEach [a] X.env = [(false, eval a X.env)] := by rfl) (hs1 : starEach (a :: []) X.env = (false, eval a X.env) :: starEach [] X.env := by rfl) :
    IV κ Kp T X Wx (.Tuple elts kk tpos) (.Call (.Name "enumerate" p) [a] [] pos) (mUn ma fun d st => match d with
      | .lst ds => .ok (dEnum ds) st
      | _ => .bad) := by
  obtain ⟨ta, pa, ra⟩ := ha.ex
  refine ⟨_, pi_enum hg hm (pa_cons pa pa_nil hs1) hs, fun W H env st σ R rl h => ra _ _ _ _ _ _ rl ?_⟩
  unfold mUn at h
  cases em : ma env st with
  | exc x st' => rw [em] at h; exact h
  | bad => rw [em] at h; exact h.elim
  | ok d st' =>
    rw [em] at h
    intro W' H' v ex r' q
    by_cases hd : ∃ ds, d = .lst ds
    · obtain ⟨ds, rfl⟩ := hd
      obtain ⟨a, vs, rfl, l, rs⟩ := rep_lst.mp q
      refine ⟨a, vs, rfl, l.sq, h W' H' _ ex r' fun W1 H1 k => ?_⟩
      have q1 := K1 _ _ _ _ _ _ k q
      obtain ⟨a1, vs1, e1, l1, rs1⟩ := rep_lst.mp q1
      cases e1
      have hlen := rs1.length
      have hld : (dEnum ds).length = ds.length := by simp [dEnum]
      refine ⟨fun i hi => ?_, ⟨vs1, l1.sq, by omega⟩, fun i x H2 hi y => ?_⟩
      · have : i < vs1.length := by omega
        exact ⟨vs1, vs1[i], l1.sq, List.getElem?_eq_getElem this⟩
      · obtain ⟨Tp, x', rfl, hT, rfl, hx⟩ := y
        obtain ⟨d, hd, rd⟩ := rs1.getV (hx vs1 l1.sq)
        refine ⟨.tup [.int (i : Nat), d], by rw [dEnum, List.getElem?_mapIdx, hd]; rfl, .inr ⟨Tp, _, hT, rfl, fun hW => rep_tup.mpr ⟨Tp, _, rfl, ⟨hW Tp hT, upd_same⟩, Reps.cons (rep_int.mpr rfl) (Reps.one ?_)⟩⟩⟩
        refine Rep.mono ⟨fun b u w r n => ⟨w, ?_⟩, fun _ _ h => h, fun b us w e => ⟨w, by rw [upd_ne (ne_of_none e hT)]; exact e⟩⟩ _ _ rd
        rcases r with r | ⟨o, r⟩
        · exact .inl (by rw [upd_ne (ne_of_none r hT)]; exact r)
        · exact .inr ⟨o, by rw [upd_ne (ne_of_none r hT)]; exact r⟩
    · exfalso
      cases d <;> first | exact h | exact hd ⟨_, rfl⟩
end
end Ev

set_option maxRecDepth 100000
set_option maxHeartbeats 4000000
/-! a, b = x, y -/
namespace Ev
open PySem PySem.Spec PyProof.Rows L2
def D.isOwn : D → Bool
  | .own _ | .ownd _ => true
  | _ => false
def ownVals : List D → List V → List V
  | d :: ds, v :: vs => if d.isOwn = true then v :: ownVals ds vs else ownVals ds vs
  | _, _ => []
def AsR (K : PySem.W.Frag) (W : Wm) (H : Hp) : List D → List V → Prop
  | [], vs => vs = []
  | d :: ds, vs => ∃ v r, vs = v :: r ∧ At K W H .tmp d v ∧ (d.isOwn = true → v ∉ ownVals ds r) ∧ AsR K W H ds r
def PostA (κ : Bool) (G : Gx) (Wx : WX) (W : Wm) (H : Hp) (env : Env) (σ : L2.St) (r : Res (List D)) (Q : List V → Hp → Prop) : Prop := match r with
  | .ok ds st => ∀ W' H' vs, Ext κ W H W' H' → Rel G W' H' env st σ → AsR G.K W' H' ds vs → (∀ v ∈ ownVals ds vs, ∃ p, v = .ref p ∧ Fr H p) → Q vs H'
  | .exc x st => ∀ W' H' c d, Ext false W H W' H' → Rel G W' H' env st σ → ExnRep G W' H' x c d → Wx c d σ H'
  | .bad => False
structure AW (κ : Bool) (T : List (Addr × Str)) (X : Cx) (Wx : WX) (es : List Expr) (m : M (List D)) : Prop where
  ex : ∃ t, PA X es t ∧ ∀ W H env st σ Q, Rel (Gof X T) W H env st σ → PostA κ (Gof X T) Wx W H env σ (m env st) Q → t σ H Q
section
variable {T : List (Addr × Str)} {X : Cx} {Wx : WX} {κ κ' : Bool} {a b c e : Expr} {es : List Expr} {ma : M D} {ml : M (List D)} {md : M Dc} {n : M (List D)} {pos p : Pos}
theorem aw_nil : AW true T X Wx [] mNil := ⟨_, pa_nil, fun W H env st σ Q rl h => h W H [] Ext.refl rl (by unfold AsR; rfl) (fun v hv => by cases hv)⟩
theorem At.notOwn {K : PySem.W.Frag} {W : Wm} {H : Hp} {d : D} {v : V} (h : Rep K W H d v) : d.isOwn = false := by
  cases d with
  | own _ => exact h.elim
  | ownd _ => exact h.elim
  | _ => rfl
theorem aw_ev (he : EV κ T X Wx e ma) (hr : AW κ' T X Wx es n) (hs : starEach (e :: es) X.env = (false, eval e X.env) :: starEach es X.env := by rfl) : AW (κ && κ') T X Wx (e :: es) (mCons ma n) := by
  obtain ⟨ta, pa, ra⟩ := he.ex
  obtain ⟨tb, pb, rb⟩ := hr.ex
  refine ⟨_, pa_cons pa pb hs, fun W H env st σ Q rl h => ra _ _ _ _ _ _ rl ?_⟩
  unfold mCons mBin at h
  cases em : ma env st with
  | exc x st1 => rw [em] at h; exact h
  | bad => rw [em] at h; exact h.elim
  | ok d st1 =>
    rw [em] at h
    intro W1 H1 v e1 r1 q1
    refine rb _ _ _ _ _ _ r1 ?_
    cases en : n env st1 with
    | exc x st2 =>
      simp only [Res.bind, en] at h
      exact fun W2 H2 c d e2 r2 q2 => h W2 H2 c d (e1.f.trans e2) r2 q2
    | bad => simp only [Res.bind, en] at h; exact h.elim
    | ok ds st2 =>
      simp only [Res.bind, en] at h
      intro W2 H2 vs e2 r2 q2 f2
      have hn := At.notOwn (Rep.mono e2.mo _ _ q1)
      refine h W2 H2 (v :: vs) ((e1.weak and21).trans (e2.weak and22)) r2 ?_ ?_
      · unfold AsR
        exact ⟨v, vs, rfl, .of (Rep.mono e2.mo _ _ q1), fun z => (by rw [hn] at z; cases z), q2⟩
      · intro u hu
        unfold ownVals at hu
        rw [hn] at hu
        obtain ⟨p, h1, h2⟩ := f2 u (by simpa using hu)
        exact ⟨p, h1, e1.fr_ h2⟩
theorem aw_new {α : Type} {C : Wm → Hp → α → Addr → Prop} {m : M α} (mk : α → D) (ho : ∀ x, (mk x).isOwn = true) (hC : ∀ W H x p, W p = some .tmp → C W H x p → At X.K W H .tmp (mk x) (.ref p)) (he : FV κ C T X Wx e m) (hr : AW κ' T X Wx es n) (hs : starEach (e :: es) X.env = (false, eval e X.env) :: starEach es X.env := by rfl) : AW (κ && κ') T X Wx (e :: es) (mCons (mUn m fun x st => .ok (mk x) st) n) := by
  obtain ⟨ta, pa, ra⟩ := he.ex
  obtain ⟨tb, pb, rb⟩ := hr.ex
  refine ⟨_, pa_cons pa pb hs, fun W H env st σ Q rl h => ra _ _ _ _ _ _ rl ?_⟩
  unfold mCons mBin mUn at h
  cases em : m env st with
  | exc x st1 => rw [em] at h; exact h
  | bad => rw [em] at h; exact h.elim
  | ok x st1 =>
    simp only [em, Res.bind] at h
    intro W1 H1 p e1 r1 hp w1 q1
    refine rb _ _ _ _ _ _ r1 ?_
    cases en : n env st1 with
    | exc x st2 =>
      simp only [en] at h
      exact fun W2 H2 c d e2 r2 q2 => h W2 H2 c d (e1.f.trans e2) r2 q2
    | bad => simp only [en] at h; exact h.elim
    | ok ds st2 =>
      simp only [en] at h
      intro W2 H2 vs e2 r2 q2 f2
      have k : ∀ a, W1 a = some .tmp → W2 a = some .tmp ∧ H2 a = H1 a := fun a ha => e2.hl a _ ha (by simp [Tag.held])
      have at1 : At X.K W1 H1 .tmp (mk x) (.ref p) := hC W1 H1 x p w1 q1
      have at2 : At X.K W2 H2 .tmp (mk x) (.ref p) := at1.mono e2.mo k
      refine h W2 H2 (.ref p :: vs) ((e1.weak and21).trans (e2.weak and22)) r2 ?_ ?_
      · unfold AsR
        refine ⟨_, vs, rfl, at2, fun _ hm => ?_, q2⟩
        obtain ⟨p', h1, h2⟩ := f2 _ hm
        cases h1
        obtain ⟨o, ho1, ho2⟩ := r1.sto.used p _ w1
        obtain ⟨ps, z⟩ := h2 o ho1
        exact ho2 ps z
      · intro u hu
        unfold ownVals at hu
        rw [if_pos (ho x)] at hu
        rcases List.mem_cons.mp hu with rfl | hu
        · exact ⟨p, rfl, hp⟩
        · obtain ⟨p', h1, h2⟩ := f2 u hu
          exact ⟨p', h1, e1.fr_ h2⟩
theorem aw_nv (he : NV κ T X Wx e ml) (hr : AW κ' T X Wx es n) (hs : starEach (e :: es) X.env = (false, eval e X.env) :: starEach es X.env := by rfl) : AW (κ && κ') T X Wx (e :: es) (mCons (mUn ml fun x st => .ok (.own x) st) n) :=
  aw_new D.own (fun _ => rfl) (fun W H x p w ⟨vs, h1, h2⟩ => ⟨p, vs, rfl, w, h1, h2⟩) he hr hs
theorem aw_nvd (he : NVd κ T X Wx e md) (hr : AW κ' T X Wx es n) (hs : starEach (e :: es) X.env = (false, eval e X.env) :: starEach es X.env := by rfl) : AW (κ && κ') T X Wx (e :: es) (mCons (mUn md fun x st => .ok (.ownd x) st) n) :=
  aw_new D.ownd (fun _ => rfl) (fun W H x p w h => ⟨p, rfl, w, h⟩) he hr hs
/-! ### the slots filled -/
def setsV (σ : L2.St) : List Nat → List V → L2.St
  | i :: is, v :: vs => setsV (σ.set i (some v)) is vs
  | _, _ => σ
def setsD (env : Env) : List Nat → List D → Env
  | i :: is, d :: ds => setsD (env.set i (some d)) is ds
  | _, _ => env
theorem asr_mono {K : PySem.W.Frag} {W W' : Wm} {H H' : Hp} (m : Mo W H W' H') : ∀ {ds : List D} {vs : List V}, (∀ v ∈ ownVals ds vs, ∀ a, v = .ref a → W a = some .tmp → W' a = some .tmp ∧ H' a = H a) → AsR K W H ds vs → AsR K W' H' ds vs
  | [], vs, _, h => by unfold AsR at h ⊢; exact h
  | d :: ds, vs, k, h => by
    unfold AsR at h ⊢
    obtain ⟨v, r, rfl, h1, h2, h3⟩ := h
    refine ⟨v, r, rfl, ?_, h2, asr_mono m (fun u hu => k u ?_) h3⟩
    · cases d with
      | own xs =>
        obtain ⟨a, us, rfl, w, q1, q2⟩ := h1
        obtain ⟨w', e⟩ := k (.ref a) (by simp [ownVals, D.isOwn]) a rfl w
        exact ⟨a, us, rfl, w', by rw [e]; exact q1, Reps.mono m _ _ q2⟩
      | ownd xs =>
        obtain ⟨a, rfl, w, q⟩ := h1
        obtain ⟨w', e⟩ := k (.ref a) (by simp [ownVals, D.isOwn]) a rfl w
        refine ⟨a, rfl, w', ?_⟩
        rcases q with ⟨ks, q1, q2⟩ | ⟨ks, q1, q2⟩
        · exact .inl ⟨ks, by rw [e]; exact q1, RepKc.mono m _ _ q2⟩
        · exact .inr ⟨ks, by rw [e]; exact q1, RepTc.mono m _ _ q2⟩
      | _ => exact Rep.mono m _ _ h1
    · unfold ownVals
      split
      · exact List.mem_cons_of_mem _ hu
      · exact hu
theorem rel_sets {G : Gx} {H : Hp} {st : Sto} : ∀ {is : List Nat} {ds : List D} {vs : List V} {W : Wm} {env : Env} {σ : L2.St}, Rel G W H env st σ → AsR G.K W H ds vs → ∃ W', ExtS W H W' H ∧ Rel G W' H (setsD env is ds) st (setsV σ is vs)
  | [], ds, vs, W, env, σ, r, _ => ⟨W, ExtS.refl, by cases ds <;> cases vs <;> exact r⟩
  | i :: is, [], vs, W, env, σ, r, h => by unfold AsR at h; subst h; exact ⟨W, ExtS.refl, r⟩
  | i :: is, d :: ds, vs, W, env, σ, r, h => by
    unfold AsR at h
    obtain ⟨v, us, rfl, h1, h2, h3⟩ := h
    show ∃ W', ExtS W H W' H ∧ Rel G W' H (setsD (env.set i (some d)) is ds) st (setsV (σ.set i (some v)) is us)
    have own : ∀ (a : Addr), v = .ref a → W a = some .tmp → d.isOwn = true → ∀ W1, W1 = tagW W a (some (.slot i)) → AsR G.K W1 H ds us := fun a ha wa ho W1 e1 => by
      subst e1
      refine asr_mono (exts_retag wa).mo (fun u hu b hb wb => ?_) h3
      have : b ≠ a := fun z => by subst z; subst hb; subst ha; exact h2 ho hu
      exact ⟨by rw [tagW_ne this]; exact wb, rfl⟩
    have plain : Rep G.K W H d v → ∃ W', ExtS W H W' H ∧ Rel G W' H (setsD (env.set i (some d)) is ds) st (setsV (σ.set i (some v)) is us) := fun h => rel_sets (r.set i h) h3
    cases d with
    | own xs =>
      obtain ⟨a, ws, rfl, w, q1, q2⟩ := h1
      obtain ⟨W', e, r'⟩ := rel_sets (is := is) (r.setOwn i w ⟨ws, q1, q2⟩) (own a rfl w rfl _ rfl)
      exact ⟨W', (exts_retag w).trans e, r'⟩
    | ownd xs =>
      obtain ⟨a, rfl, w, q⟩ := h1
      obtain ⟨W', e, r'⟩ := rel_sets (is := is) (r.setOwnD i w q) (own a rfl w rfl _ rfl)
      exact ⟨W', (exts_retag w).trans e, r'⟩
    | _ => exact plain h1
theorem asr_len {K : PySem.W.Frag} {W : Wm} {H : Hp} : ∀ {ds : List D} {vs : List V}, AsR K W H ds vs → ds.length = vs.length
  | [], vs, h => by unfold AsR at h; subst h; rfl
  | d :: ds, vs, h => by unfold AsR at h; obtain ⟨v, r, rfl, _, _, h3⟩ := h; simp [asr_len h3]
/-! ### names -/
structure GNs (is : List Nat) (X : Cx) (es : List Expr) : Prop where
  ex : ∃ t, PGs X es t ∧ ∀ vs σ H Q, vs.length = is.length → Q (setsV σ is vs) H → t vs σ H Q
theorem gns_nil : GNs [] X [] := ⟨_, pgs_nil, fun vs σ H Q hl q => ⟨List.eq_nil_of_length_eq_zero hl, by cases List.eq_nil_of_length_eq_zero hl; exact q⟩⟩
theorem gns_cons {x : Str} {is : List Nat} (i : Nat) (hN : X.N.Nodup) (h : GNs is X es) (hi : X.N[i]? = some x := by rfl) (hx : Loc X.env.scope x := by first | exact Or.inl rfl | exact Or.inr rfl) (hf : X.fn x = true ∨ X.env.scope.names.lookup x = some .local := by first | exact .inl rfl | exact .inr rfl | assumption)
    (hs : (assignEach (.Name x p :: es) X.env).map (·.2) = assign (.Name x p) X.env :: (assignEach es X.env).map (·.2) := by rfl) : GNs (i :: is) X (.Name x p :: es) := by
  obtain ⟨t, pt, r⟩ := h.ex
  refine ⟨_, pgs_cons (pg_name hN hi hx hf) pt hs, fun vs σ H Q hl q => ?_⟩
  cases vs with
  | nil => cases hl
  | cons v vs => exact ⟨v, vs, rfl, r vs _ H Q (by simpa using hl) q⟩
def sPar (is : List Nat) (m : M (List D)) : Sm := fun env st => (m env st).out env fun ds st' => if ds.length = is.length ∧ ds.length ≤ 1000 then .nx (setsD env is ds) st' else .bad
/-- a, b, .. = x, y, .. by way of the tuple -/
theorem sv_parT {j k2 n1 : Nat} {pt pt2 : Pos} {tgs : List Expr} {is : List Nat} (hc : X.calm = true) (ha : AW κ T X Wx es n) (hg : GNs is X tgs) (hs : swapsWithSole [.Tuple tgs j pt] (.Tuple es k2 pt2) pos.line X.env = pure false := by rfl) (hw : swappedStores [.Tuple tgs j pt] (.Tuple es k2 pt2) X.env = pure none := by rfl)
    (h1 : (assignEach [.Tuple tgs j pt] X.env).map (·.2) = [assign (.Tuple tgs j pt) X.env] := by rfl) (hn : (assignEach tgs X.env).length = n1 := by rfl) (hl : is.length = n1 := by rfl) (hst : (assignEach tgs X.env).findIdx? (·.1) = none := by rfl) :
    SV T X Wx (.Assign [.Tuple tgs j pt] (.Tuple es k2 pt2) pos) (sPar is n) := by
  obtain ⟨ta, pa, ra⟩ := ha.ex
  obtain ⟨tg, pg, rg⟩ := hg.ex
  refine ⟨_, ps_asg (pe_tup pa) (pg_tup hc pg hn hst) hs hw h1, fun W H env st σ D rl h => ra _ _ _ _ _ _ rl ?_⟩
  unfold sPar at h
  cases en : n env st with
  | exc x st1 => rw [en] at h; exact fun W1 H1 c d e1 r1 q1 => h W1 H1 c d σ e1.s r1 q1
  | bad => rw [en] at h; exact h.elim
  | ok ds st1 =>
    simp only [en, Res.out] at h
    split at h
    · rename_i hz
      intro W1 H1 vs e1 r1 q1 _
      have hlen := asr_len q1
      refine ⟨small_line (by omega), fun q hq => ⟨q, vs, rfl, .inl (.inl upd_same), by omega, rg vs σ _ _ (by omega) ?_⟩⟩
      have e2 : Ext true W1 H1 W1 (upd H1 q (.tup vs)) := Ext.laid r1.sto hq
      have q2 : AsR X.K W1 (upd H1 q (.tup vs)) ds vs := asr_mono e2.mo (fun v _ a _ w => ⟨w, upd_ne (r1.sto.ne hq w)⟩) q1
      obtain ⟨W', e3, r3⟩ := rel_sets (is := is) (r1.laid hq (o := .tup vs)) q2
      exact h W' _ _ ((e1.s.trans e2.s).trans e3) r3
    · exact h.elim
/-- a, b = x, y, two locals -/
theorem sv_par2 {i j : Nat} {x y : Str} {px py pt pt2 : Pos} {kt k2 : Nat} (hc : X.calm = true) (hN : X.N.Nodup) (ha : AW κ T X Wx [a, b] n) (hw : swappedStores [.Tuple [.Name x px, .Name y py] kt pt] (.Tuple [a, b] k2 pt2) X.env = pure (some [x, y]))
    (hi : X.N[i]? = some x := by rfl) (hj : X.N[j]? = some y := by rfl) (hij : i ≠ j := by decide) (hx : X.env.scope.names.lookup x = some .local := by rfl) (hy : X.env.scope.names.lookup y = some .local := by rfl)
    (hs : swapsWithSole [.Tuple [.Name x px, .Name y py] kt pt] (.Tuple [a, b] k2 pt2) pos.line X.env = pure false := by rfl) :
    SV T X Wx (.Assign [.Tuple [.Name x px, .Name y py] kt pt] (.Tuple [a, b] k2 pt2) pos) (sPar [i, j] n) := by
  obtain ⟨ta, pa, ra⟩ := ha.ex
  refine ⟨_, ps_par hc hN hi hj hij hx hy pa hw hs, fun W H env st σ D rl h => ra _ _ _ _ _ _ rl ?_⟩
  unfold sPar at h
  cases en : n env st with
  | exc x st1 => rw [en] at h; exact fun W1 H1 c d e1 r1 q1 => h W1 H1 c d σ e1.s r1 q1
  | bad => rw [en] at h; exact h.elim
  | ok ds st1 =>
    simp only [en, Res.out] at h
    split at h
    · rename_i hz
      intro W1 H1 vs e1 r1 q1 _
      have hlen := asr_len q1
      obtain ⟨W', e3, r3⟩ := rel_sets (is := [i, j]) r1 q1
      match vs, hlen with
      | [v, w], _ => exact ⟨v, w, rfl, h W' _ _ (e1.s.trans e3) r3⟩
      | [], hl => simp at hl; simp [hl] at hz
      | [_], hl => simp at hl; simp [hl] at hz
      | _ :: _ :: _ :: _, hl => simp at hl; simp [hl] at hz
    · exact h.elim
theorem sv_par3 {i j l : Nat} {x y z : Str} {px py pz pt pt2 : Pos} {kt k2 : Nat} (hc : X.calm = true) (hN : X.N.Nodup) (ha : AW κ T X Wx [a, b, c] n) (hw : swappedStores [.Tuple [.Name x px, .Name y py, .Name z pz] kt pt] (.Tuple [a, b, c] k2 pt2) X.env = pure (some [x, y, z]))
    (hi : X.N[i]? = some x := by rfl) (hj : X.N[j]? = some y := by rfl) (hl : X.N[l]? = some z := by rfl) (hij : i ≠ j := by decide) (hil : i ≠ l := by decide) (hjl : j ≠ l := by decide) (hx : X.env.scope.names.lookup x = some .local := by rfl) (hy : X.env.scope.names.lookup y = some .local := by rfl) (hz : X.env.scope.names.lookup z = some .local := by rfl)
    (hs : swapsWithSole [.Tuple [.Name x px, .Name y py, .Name z pz] kt pt] (.Tuple [a, b, c] k2 pt2) pos.line X.env = pure false := by rfl) :
    SV T X Wx (.Assign [.Tuple [.Name x px, .Name y py, .Name z pz] kt pt] (.Tuple [a, b, c] k2 pt2) pos) (sPar [i, j, l] n) := by
  obtain ⟨ta, pa, ra⟩ := ha.ex
  refine ⟨_, ps_par3 hc hN hi hj hl hij hil hjl hx hy hz pa hw hs, fun W H env st σ D rl h => ra _ _ _ _ _ _ rl ?_⟩
  unfold sPar at h
  cases en : n env st with
  | exc x st1 => rw [en] at h; exact fun W1 H1 c d e1 r1 q1 => h W1 H1 c d σ e1.s r1 q1
  | bad => rw [en] at h; exact h.elim
  | ok ds st1 =>
    simp only [en, Res.out] at h
    split at h
    · rename_i hz
      intro W1 H1 vs e1 r1 q1 _
      have hlen := asr_len q1
      obtain ⟨W', e3, r3⟩ := rel_sets (is := [i, j, l]) r1 q1
      match vs, hlen with
      | [u, v, w], _ => exact ⟨u, v, w, rfl, h W' _ _ (e1.s.trans e3) r3⟩
      | [], hl => simp at hl; simp [hl] at hz
      | [_], hl => simp at hl; simp [hl] at hz
      | [_, _], hl => simp at hl; simp [hl] at hz
      | _ :: _ :: _ :: _ :: _, hl => simp at hl; simp [hl] at hz
    · exact h.elim
end
end Ev

set_option maxRecDepth 100000
set_option maxHeartbeats 4000000
/-! dicts walked: locked meanwhile -/
namespace Ev
open PySem PySem.Spec PyProof.Rows L2
section
variable {G : Gx} {W W' : Wm} {H H' : Hp} {env : Env} {st : Sto} {σ : L2.St} {d : Addr} {u : HO} {od : Obj}
theorem plain_frz : Plain (.frz od u) := ⟨fun _ z => (by cases z), fun _ z => (by cases z)⟩
def IsDct (u : HO) : Prop := (∃ ks, u = .dK ks) ∨ ∃ ks, u = .dT ks
theorem IsDct.plain (h : IsDct u) : Plain u := by rcases h with ⟨ks, rfl⟩ | ⟨ks, rfl⟩ <;> exact ⟨fun _ z => (by cases z), fun _ z => (by cases z)⟩
theorem IsDct.mut (h : IsDct u) : Mut (some u) := by rcases h with ⟨ks, rfl⟩ | ⟨ks, rfl⟩ <;> trivial
theorem IsDct.nfrz (h : IsDct u) : ∀ o v, u ≠ .frz o v := by rcases h with ⟨ks, rfl⟩ | ⟨ks, rfl⟩ <;> intro o v z <;> cases z
theorem IsDct.ntup (h : IsDct u) : ∀ v, u ≠ .tup v := by rcases h with ⟨ks, rfl⟩ | ⟨ks, rfl⟩ <;> intro v z <;> cases z
theorem lock_mo (hw : W d = none) (hd : H d = some u) (hu : IsDct u) : Mo W H W (upd H d (.frz od u)) where
  fr := fun a v h r n => ⟨h, by
    by_cases z : a = d
    · subst z
      rcases r with r | ⟨o, r⟩
      · rw [hd] at r; cases r; exact .inr ⟨od, upd_same⟩
      · rw [hd] at r; exact absurd (Option.some.inj r) (hu.nfrz _ _)
    · rcases r with r | ⟨o, r⟩
      · exact .inl (by rw [upd_ne z]; exact r)
      · exact .inr ⟨o, by rw [upd_ne z]; exact r⟩⟩
  ob := fun _ _ h => h
  tu := fun a vs h e => ⟨h, by
    rw [upd_ne fun z => by subst z; rw [hd] at e; exact hu.ntup _ (Option.some.inj e)]
    exact e⟩
theorem unlock_mo (hw : W d = none) (hd : H d = some (.frz od u)) (hu : IsDct u) : Mo W H W (upd H d u) where
  fr := fun a v h r n => ⟨h, by
    by_cases z : a = d
    · subst z
      rcases r with r | ⟨o, r⟩
      · rw [hd] at r; exact absurd (Option.some.inj r).symm (n.2 _ _)
      · rw [hd] at r; cases r; exact .inl upd_same
    · rcases r with r | ⟨o, r⟩
      · exact .inl (by rw [upd_ne z]; exact r)
      · exact .inr ⟨o, by rw [upd_ne z]; exact r⟩⟩
  ob := fun _ _ h => h
  tu := fun a vs h e => ⟨h, by
    rw [upd_ne fun z => by subst z; rw [hd] at e; cases e]
    exact e⟩
theorem rel_swap {o o' : HO} (r : Rel G W H env st σ) (hw : W d = none) (hd : H d = some o') (po : Plain o') (mo : Mo W H W (upd H d o)) : Rel G W (upd H d o) env st σ := by
  have ne : ∀ a t, W a = some t → a ≠ d := fun a t h z => by subst z; rw [hw] at h; cases h
  exact ⟨r.sto.more mo (fun a t h => ⟨h, upd_ne (ne a t h)⟩) (fun _ _ _ h => h) (tabs_upd r.sto.tabs hd po), r.env.mono mo fun a i h => ⟨h, upd_ne (ne a _ h)⟩⟩
theorem ext_unlock {κ : Bool} (hw : W d = none) (hd : H d = some u) (hu : IsDct u) (e : Ext κ W (upd H d (.frz od u)) W' H') : W' d = none ∧ H' d = some (.frz od u) ∧ Ext κ W H W' (upd H' d u) := by
  obtain ⟨w', h'⟩ := e.fr d _ hw upd_same frz_ntbl
  refine ⟨w', h', fun a o h q n => ?_, e.ob, fun a t h k => ?_, fun a o q n => ?_⟩
  · by_cases z : a = d
    · subst z; exact ⟨w', by rw [upd_same, ← hd, q]⟩
    · obtain ⟨x, y⟩ := e.fr a o h (by rw [upd_ne z]; exact q) n
      exact ⟨x, by rw [upd_ne z]; exact y⟩
  · have z : a ≠ d := fun z => by subst z; rw [hw] at h; cases h
    obtain ⟨x, y⟩ := e.hl a t h k
    exact ⟨x, by rw [upd_ne z, y, upd_ne z]⟩
  · by_cases z : a = d
    · subst z; exact ⟨u, upd_same, hu.plain.1⟩
    · obtain ⟨o', q', n'⟩ := e.th a o (by rw [upd_ne z]; exact q) n
      exact ⟨o', by rw [upd_ne z]; exact q', n'⟩
theorem exts_unlock (hw : W d = none) (hd : H d = some u) (hu : IsDct u) (e : ExtS W (upd H d (.frz od u)) W' H') : W' d = none ∧ H' d = some (.frz od u) ∧ ExtS W H W' (upd H' d u) := by
  obtain ⟨w', h'⟩ := e.fr d _ hw upd_same frz_ntbl
  refine ⟨w', h', fun a o h q n => ?_, e.ob, fun a h => ?_, fun a o q n => ?_⟩
  · by_cases z : a = d
    · subst z; exact ⟨w', by rw [upd_same, ← hd, q]⟩
    · obtain ⟨x, y⟩ := e.fr a o h (by rw [upd_ne z]; exact q) n
      exact ⟨x, by rw [upd_ne z]; exact y⟩
  · have z : a ≠ d := fun z => by subst z; rw [hw] at h; cases h
    obtain ⟨x, y⟩ := e.ex a h
    exact ⟨x, by rw [upd_ne z, y, upd_ne z]⟩
  · by_cases z : a = d
    · subst z; exact ⟨u, upd_same, hu.plain.1⟩
    · obtain ⟨o', q', n'⟩ := e.th a o (by rw [upd_ne z]; exact q) n
      exact ⟨o', by rw [upd_ne z]; exact q', n'⟩
end
theorem pe_or {X : Cx} {e : Expr} {t1 t2 : TE} (h1 : PE X e t1) (h2 : PE X e t2) : PE X e (fun σ H Q => t1 σ H Q ∨ t2 σ H Q) :=
  ⟨fun pins s σ H Q I h => h.elim (fun h => h1.run pins s σ H Q I h) fun h => h2.run pins s σ H Q I h⟩
theorem ps_or {X : Cx} {e : Stmt} {t1 t2 : TS} (h1 : PS X e t1) (h2 : PS X e t2) : PS X e (fun D σ H => t1 D σ H ∨ t2 D σ H) :=
  ⟨fun pins s σ H D I h => h.elim (fun h => h1.run pins s σ H D I h) fun h => h2.run pins s σ H D I h⟩
theorem compM_ne {g : D → Env → Option Env} {t : M Bool} {el : M D} : ∀ {ds acc : List D} {env : Env} {st st' : Sto} {x : Exn}, compM g t el ds acc env st ≠ .exc x st'
  | [], acc, env, st, st', x => by unfold compM; intro z; cases z
  | d :: ds, acc, env, st, st', x => by
    unfold compM
    split
    · intro z; cases z
    · split
      · split
        · exact compM_ne
        · intro z; cases z
      · exact compM_ne
      · intro z; cases z
/-- how a dict is walked: its keys, its values, its pairs -/
inductive Wk where
  | keys | vals | items
def Wk.of : Wk → Dc → Option (List D)
  | .keys, (false, kvs) => some (kvs.map (·.1))
  | .vals, (false, kvs) => some (kvs.map (·.2))
  | .items, (false, kvs) => some (kvs.map fun p => .tup [p.1, p.2])
  | _, _ => none
def mWalk (w : Wk) (i : Nat) : M (List D) := fun env st => match env[i]? with
  | some (some (.dct c)) => Res.of (w.of c) st
  | _ => .bad
/-- the slot's dict stands locked -/
def LockedAt (G : Gx) (i : Nat) : Wm → Hp → Env → Sto → L2.St → Prop := fun W H env _ σ => ∃ d o kvs ks, env[i]? = some (some (.dct (false, kvs))) ∧ σ[i]? = some (some (.ref d)) ∧ W d = none ∧ H d = some (.frz o (.dK ks)) ∧ RepK G.K W H kvs ks
section
variable {K : PySem.W.Frag} {W : Wm} {H : Hp}
theorem RepK.at' : ∀ {kvs : List (D × D)} {ks : List (Key × V)} {i : Nat} {k : Key} {v : V}, RepK K W H kvs ks → ks[i]? = some (k, v) → ∃ d, kvs[i]? = some (keyD k, d) ∧ Rep K W H d v
  | [], ks, i, k, v, h, e => by unfold RepK at h; subst h; simp at e
  | (q, d) :: r, ks, i, k, v, h, e => by
    unfold RepK at h
    obtain ⟨k', v', r', rfl, rfl, h1, h2⟩ := h
    cases i with
    | zero => simp at e; obtain ⟨rfl, rfl⟩ := e; exact ⟨d, rfl, h1⟩
    | succ i => simpa using RepK.at' h2 (by simpa using e)
end
theorem kept_frz {κ : Bool} {W W1 : Wm} {H H1 : Hp} {d : Addr} {o : Obj} {u : HO} (hw : W d = none) (hd : H d = some (.frz o u)) (e : ExtS W H W1 H1) : W1 d = none ∧ H1 d = some (.frz o u) := e.fr d _ hw hd frz_ntbl
section
variable {T : List (Addr × Str)} {X : Cx} {Wx : WX} {κ κ' κt κe : Bool} {a b c e : Expr} {ma : M D} {n : M (List D)} {pos p : Pos}
/-- a thing that walks the slot's dict, locked -/
structure IVd (w : Wk) (i : Nat) (T : List (Addr × Str)) (X : Cx) (tg iter : Expr) : Prop where
  ex : ∃ wi, PI X tg iter wi ∧ ∀ (Kp : Kept), (∀ W H W' H', Kp W H W' H' → ExtS W H W' H') → ∀ κ Wx W H env st σ R, LockedAt (Gof X T) i W H env st σ → Rel (Gof X T) W H env st σ → PostI κ Kp (Gof X T) Wx W H env σ (mWalk w i env st) R → wi σ H R
theorem ivd_keys (i : Nat) {tg : Expr} {x : Str} (hN : X.N[i]? = some x := by rfl) (hv : Vis X.env.scope x := by first | exact Or.inl rfl | exact Or.inr (Or.inl rfl) | exact Or.inr (Or.inr rfl)) (hd : (x == ("__debug__" : Str)) = false := by decide)
    (hcd : (x == ("__classdict__" : Str)) = false := by decide) : IVd .keys i T X tg (.Name x pos) := by
  refine ⟨_, pi_keys (pe_var hN hv hd hcd), fun Kp hK κ Wx W H env st σ R ⟨d, o, kvs, ks, h1, h2, h3, h4, h5⟩ rl h => ⟨.ref d, h2, d, o, rfl, .inl ⟨ks, h4, ?_⟩⟩⟩
  unfold mWalk at h
  rw [h1] at h
  refine h W H _ Ext.refl rl fun W1 H1 k => ?_
  have ex := hK _ _ _ _ k
  obtain ⟨w1, d1⟩ := kept_frz (κ := true) h3 h4 ex
  have r1 := RepK.mono ex.mo _ _ h5
  have hl := r1.length
  refine ⟨fun j hj => ⟨d1, by simpa [hl] using hj⟩, ⟨d1, by simp [hl]⟩, fun j y H2 hj yl => ?_⟩
  obtain ⟨rfl, k', v, e1, rfl⟩ := yl
  obtain ⟨d', e2, _⟩ := r1.at' e1
  exact ⟨keyD k', by simp [e2], .inl ⟨rfl, rep_key.mpr rfl⟩⟩
theorem ivd_values (i : Nat) {tg : Expr} {x : Str} {apos cpos : Pos} (hN : X.N[i]? = some x := by rfl) (hv : Vis X.env.scope x := by first | exact Or.inl rfl | exact Or.inr (Or.inl rfl) | exact Or.inr (Or.inr rfl)) (hd : (x == ("__debug__" : Str)) = false := by decide)
    (hcd : (x == ("__classdict__" : Str)) = false := by decide) (hbase : attributeBase (.Name x pos) "values" X.env (eval (.Name x pos) X.env) = eval (.Name x pos) X.env := by rfl) (hline : (apos.endLine == cpos.line) = true := by rfl) : IVd .vals i T X tg (.Call (.Attribute (.Name x pos) "values" apos) [] [] cpos) := by
  refine ⟨_, pi_values (pe_var hN hv hd hcd) hbase hline, fun Kp hK κ Wx W H env st σ R ⟨d, o, kvs, ks, h1, h2, h3, h4, h5⟩ rl h => ⟨.ref d, h2, d, o, ks, rfl, h4, ?_⟩⟩
  unfold mWalk at h
  rw [h1] at h
  refine h W H _ Ext.refl rl fun W1 H1 k => ?_
  have ex := hK _ _ _ _ k
  obtain ⟨w1, d1⟩ := kept_frz (κ := true) h3 h4 ex
  have r1 := RepK.mono ex.mo _ _ h5
  have hl := r1.length
  refine ⟨fun j hj => ⟨d1, by simpa [hl] using hj⟩, ⟨d1, by simp [hl]⟩, fun j y H2 hj yl => ?_⟩
  obtain ⟨rfl, k', e1⟩ := yl
  obtain ⟨d', e2, q⟩ := r1.at' e1
  exact ⟨d', by simp [e2], .inl ⟨rfl, q⟩⟩
theorem ivd_items (i : Nat) {x : Str} {apos cpos : Pos} {elts : List Expr} {kk : Nat} {tpos : Pos} (hN : X.N[i]? = some x := by rfl) (hv : Vis X.env.scope x := by first | exact Or.inl rfl | exact Or.inr (Or.inl rfl) | exact Or.inr (Or.inr rfl)) (hd : (x == ("__debug__" : Str)) = false := by decide)
    (hcd : (x == ("__classdict__" : Str)) = false := by decide) (hbase : attributeBase (.Name x pos) "items" X.env (eval (.Name x pos) X.env) = eval (.Name x pos) X.env := by rfl) (hline : (apos.endLine == cpos.line) = true := by rfl) : IVd .items i T X (.Tuple elts kk tpos) (.Call (.Attribute (.Name x pos) "items" apos) [] [] cpos) := by
  refine ⟨_, pi_items (pe_var hN hv hd hcd) hbase hline, fun Kp hK κ Wx W H env st σ R ⟨d, o, kvs, ks, h1, h2, h3, h4, h5⟩ rl h => ⟨.ref d, h2, d, o, ks, rfl, h4, ?_⟩⟩
  unfold mWalk at h
  rw [h1] at h
  refine h W H _ Ext.refl rl fun W1 H1 k => ?_
  have ex := hK _ _ _ _ k
  obtain ⟨w1, d1⟩ := kept_frz (κ := true) h3 h4 ex
  have r1 := RepK.mono ex.mo _ _ h5
  have hl := r1.length
  refine ⟨fun j hj => ⟨d1, by simpa [hl] using hj⟩, ⟨d1, by simp [hl]⟩, fun j y H2 hj yl => ?_⟩
  obtain ⟨Tp, k', v, e1, rfl, hT, rfl⟩ := yl
  obtain ⟨d', e2, q⟩ := r1.at' e1
  refine ⟨.tup [keyD k', d'], by simp [e2], .inr ⟨Tp, _, hT, rfl, fun hW => rep_tup.mpr ⟨Tp, _, rfl, ⟨hW Tp hT, upd_same⟩, Reps.cons (rep_key.mpr rfl) (Reps.one ?_)⟩⟩⟩
  refine Rep.mono ⟨fun b u w r n => ⟨w, ?_⟩, fun _ _ h => h, fun b us w e => ⟨w, by rw [upd_ne (ne_of_none e hT)]; exact e⟩⟩ _ _ q
  rcases r with r | ⟨o, r⟩
  · exact .inl (by rw [upd_ne (ne_of_none r hT)]; exact r)
  · exact .inr ⟨o, by rw [upd_ne (ne_of_none r hT)]; exact r⟩
/-- what a slot's frozen dict is -/
theorem slot_dct {i : Nat} {W : Wm} {H : Hp} {env : Env} {st : Sto} {σ : L2.St} {kvs : List (D × D)} (rl : Rel (Gof X T) W H env st σ) (e : env[i]? = some (some (.dct (false, kvs)))) : ∃ d ks, σ[i]? = some (some (.ref d)) ∧ W d = none ∧ RepK X.K W H kvs ks ∧ (H d = some (.dK ks) ∨ ∃ o, H d = some (.frz o (.dK ks))) := by
  obtain ⟨v, h1, h2⟩ := rl.env.at_ i _ e
  obtain ⟨a, rfl, h⟩ := rep_dct.mp (show Rep X.K W H (.dct (false, kvs)) v from h2)
  rcases h with ⟨ks, h3, h4⟩ | ⟨ks, h3, h4⟩
  · exact ⟨a, ks, h1, h3.1, h4.2, h3.2⟩
  · cases h4.1
section
variable {tg iter elt : Expr} {ifs : List Expr} {scope : Scope} {own : List (Str × Nat)} {is : List Nat} {g : D → Env → Option Env} {mt : M Bool} {el : M D} {w : Wk} {i : Nat}
/-- [e for k in d if t], d a slot's frozen dict -/
theorem nv_compD (hc : X.calm = true) (hN : X.N.Nodup) (hi : IVd w i T X tg iter) (ok : BlkOk X.N X.env.scope scope own)
    (hg : ∀ (s : Shared) (H : Hp) (C : Addr) (cl : List (Str × Addr)) (fp : List Addr), GV is T (X.blk s H scope (compEnvC scope cl C X.env) fp) tg g) (ht : ∀ (s : Shared) (H : Hp) (C : Addr) (cl : List (Str × Addr)) (fp : List Addr), TsV κt T (X.blk s H scope (compEnvC scope cl C X.env) fp) noX ifs mt)
    (he : ∀ (s : Shared) (H : Hp) (C : Addr) (cl : List (Str × Addr)) (fp : List Addr), EV κe T (X.blk s H scope (compEnvC scope cl C X.env) fp) noX elt el) (hsub : ∀ i ∈ is, i ∈ own.map (·.2) := by decide) (hs : ∀ x, foldedSetIterable iter X.env x = pure x := by intro _; rfl) :
    NV (κt && κe) T X Wx (.ListComp elt [⟨tg, iter, ifs, 0⟩] scope pos) (mComp (mWalk w i) (own.map (·.2)) g mt el) := by
  obtain ⟨wi, pw, rw'⟩ := hi.ex
  let Xs : (Shared × Hp × Addr × List (Str × Addr) × List Addr) → Cx := fun z => X.blk z.1 z.2.1 scope (compEnvC scope z.2.2.2.1 z.2.2.1 X.env) z.2.2.2.2
  obtain ⟨g0, pg, rg⟩ := fam_gv (Xs := Xs) (K := X.K) (mg := X.mg) (T := T) (fun _ => rfl) (fun _ => rfl) fun z => hg _ _ _ _ _
  obtain ⟨tt, pt, rt⟩ := fam_tsv (Xs := Xs) (K := X.K) (mg := X.mg) (T := T) (fun _ => rfl) fun z => ht _ _ _ _ _
  obtain ⟨te, pe, re⟩ := fam_ev (Xs := Xs) (Wx := noX) (κ := κe) (R := RepR X) (e := elt) (m := el) (K := X.K) (mg := X.mg) (T := T) (fun _ => rfl) fun z => he z.1 z.2.1 z.2.2.1 z.2.2.2.1 z.2.2.2.2
  have P := pe_lc (pos := pos) hc hN pw ok (fun s H C cl fp => pg (s, H, C, cl, fp)) (fun s H C cl fp => pt (s, H, C, cl, fp)) (fun s H C cl fp => pe (s, H, C, cl, fp)) hs
  have read : ∀ W H env st σ Q, LockedAt (Gof X T) i W H env st σ → Rel (Gof X T) W H env st σ → PostN ((true && κt) && κe) (CL X.K) (Gof X T) Wx W H env σ (mComp (mWalk w i) (own.map (·.2)) g mt el env st) Q → tLc wi g0 tt te (own.map (·.2)) σ H Q :=
    comp_readP (Xb := fun _ => True) (LockedAt (Gof X T) i) hsub (fun W H env st σ R hl rl q => rw' (Ext (κt && κe)) (fun _ _ _ _ e => e.s) true Wx W H env st σ R hl rl q) rg rt re
  refine ⟨_, pe_or P (pe_lock P), fun W H env st σ Q rl h => ?_⟩
  rw [Bool.true_and] at read
  cases ei : env[i]? with
  | none => unfold mComp mWalk at h; simp only [ei] at h; exact h.elim
  | some od =>
  cases od with
  | none => unfold mComp mWalk at h; simp only [ei] at h; exact h.elim
  | some dd =>
  cases dd with
  | dct c =>
    obtain ⟨tg', kvs⟩ := c
    cases tg' with
    | true =>
      unfold mComp mWalk at h
      simp only [ei] at h
      cases w <;> exact h.elim
    | false =>
      obtain ⟨d, ks, h1, h2, h3, h4⟩ := slot_dct rl ei
      rcases h4 with h4 | ⟨o, h4⟩
      · refine .inr ⟨d, _, h4, trivial, fun od => ?_⟩
        have hu : IsDct (.dK ks) := .inl ⟨ks, rfl⟩
        have lm : Mo W H W (upd H d (.frz od (.dK ks))) := lock_mo h2 h4 hu
        refine read W _ env st σ _ ⟨d, od, kvs, ks, ei, h1, h2, upd_same, RepK.mono lm _ _ h3⟩ (rel_swap rl h2 h4 hu.plain lm) ?_
        cases em : mComp (mWalk w i) (own.map (·.2)) g mt el env st with
        | bad => rw [em] at h; exact h.elim
        | exc x st' =>
          unfold mComp mWalk at em
          simp only [ei] at em
          cases ew : w.of (false, kvs) with
          | none => simp [ew, Res.of, Res.bind] at em
          | some l =>
            simp only [ew, Res.of, Res.bind] at em
            split at em
            · exact absurd em compM_ne
            · cases em
        | ok ds st' =>
          rw [em] at h
          intro W' H' q e' r' fq wq cq
          obtain ⟨a1, a2, a3⟩ := ext_unlock h2 h4 hu e'
          have um : Mo W' H' W' (upd H' d (.dK ks)) := unlock_mo a1 a2 hu
          have nq : q ≠ d := fun z => by subst z; rw [a1] at wq; cases wq
          refine ⟨a2, h W' (upd H' d (.dK ks)) q a3 (rel_swap r' a1 a2 plain_frz um) (fun o ho => fq o (by rw [upd_ne nq]; exact ho)) wq ?_⟩
          obtain ⟨vs, c1, c2⟩ := cq
          exact ⟨vs, by rw [upd_ne nq]; exact c1, Reps.mono um _ _ c2⟩
      · exact .inl (read W H env st σ Q ⟨d, o, kvs, ks, ei, h1, h2, h4, h3⟩ rl h)
  | _ => unfold mComp mWalk at h; simp only [ei] at h; exact h.elim
end
end
end Ev

set_option maxRecDepth 100000
set_option maxHeartbeats 4000000
/-! what the head tells, by names; calls by name -/
namespace Ev
open PySem PySem.Spec PyProof.Rows L2
def fdOf (K : PySem.W.Frag) (a : Addr) : FuncData := match K.lookup a with
  | some ⟨_, _, .func fd, _⟩ => fd
  | _ => default
section
variable {P : Program} {w : World} {K : PySem.W.Frag} {mg : Str → Option Value} {base : Heap} {T : List (Addr × Str)} {x qual : Str} {params : Arguments} {body : List Stmt} {scope : Scope} {f : Addr} {N ps : List Str} {k np : Nat} {m : Sm} {mf : Fm}
theorem funD_at {dvs : List V} {kws : List (Str × V)} (h : ∃ fd, FunD K x qual params body scope dvs kws f fd) : FunD K x qual params body scope dvs kws f (fdOf K f) := by
  obtain ⟨fd, F⟩ := h
  obtain ⟨oc, od, dV, kV, doc, pm, an, cdv, ct, osl, e, lk, r⟩ := F.ex
  have : fdOf K f = fd := by unfold fdOf; rw [lk]
  rw [this]
  exact F
theorem fn_okD (F : FunD K x qual params body scope [] [] f (fdOf K f)) (S : FnScope N ps scope)
    (hbody : ∀ (A : Around) (outer : List PySem.Env) (s : Shared) (H : Hp) (E : XK), Room k (A.deeper (envOfC qual scope s.heap.objs.size f (fdOf K f).code)) →
      SsV T (cxOf (L2.CX P w) P w K mg base N qual scope f (fdOf K f).code A outer s H E) (fun c d _ H' => E c d H') body m) :
    FnOk P w K mg base (L2.CX P w) (k + 1) f (fdOf K f) ps (spOf ⟨K, mg, T⟩ ps.length (mFn N.length m)) := by
  obtain ⟨oc, od, dV, kV, doc, pm, an, cdv, ct, osl, e, lk, hcd, _, _⟩ := F.ex
  have ec : (fdOf K f).code = cdv := by rw [e]
  rw [ec] at hbody
  rw [e] at lk ⊢
  refine fn_of lk hcd S (fun vs H Q E h => ?_) fun A outer s H vs Q E hr h => ?_
  · obtain ⟨_, _, _, hl, _⟩ := h
    exact hl
  · obtain ⟨W, st0, ds, hl, s0, hd, hp⟩ := h
    obtain ⟨t, p, r⟩ := (hbody A outer s H E hr).ex
    refine ⟨t, p, r (hold W) H _ st0 _ _ ⟨s0.hold, env_start (Reps.mono hold_mo _ _ hd)⟩ ?_⟩
    unfold mFn at hp
    generalize m (ds.map some ++ List.replicate (N.length - ds.length) none) st0 = o at hp ⊢
    cases o with
    | nx env st1 => exact fun W' H' σ' e r' => hp (back W W') H' .non (back_ext e) (s0.back e r'.sto) (rep_non.mpr rfl)
    | rt d st1 => exact fun W' H' v e r' q => hp (back W W') H' v (back_ext e) (s0.back e r') (Rep.mono (back_mo e) _ _ q)
    | xc x env st1 => exact fun W' H' c d σ' e r' q => hp (back W W') H' c d (back_ext e) (s0.back e r'.sto) (by
        obtain ⟨C, h1, h2, h3⟩ := q
        refine ⟨C, h1, h2, ?_⟩
        rcases h3 with h3 | ⟨dd, f, e', v, h4, h5, h6, h7⟩
        · exact .inl h3
        · exact .inr ⟨dd, f, e', v, h4, h5, h6, Rep.mono (back_mo e) _ _ h7⟩)
    | bk env st1 => exact hp.elim
    | ct env st1 => exact hp.elim
    | bad => exact hp.elim
end
/-! ### bundles -/
section
variable (P : Program) (w : World) (K : PySem.W.Frag) (mg : Str → Option Value) (base : Heap) (T : List (Addr × Str))
structure Df (x : Str) (k np : Nat) (mf : Fm) : Prop where
  ex : ∃ (f : Addr) (fd : FuncData) (ps : List Str), mg x = some (.ref f) ∧ PySem.W.keepIn K (.ref f) = true ∧ Binds K fd ps [] ∧ FnOk P w K mg base (L2.CX P w) k f fd ps (spOf ⟨K, mg, T⟩ np mf)
structure Dm (cls m : Str) (k np : Nat) (mf : Fm) : Prop where
  ex : ∃ (C f : Addr) (fd : FuncData) (ps : List Str), mg cls = some (.ref C) ∧ Cls K C ∧ Meth K C m f ∧ Binds K fd ps [] ∧ FnOk P w K mg base (L2.CX P w) k f fd ps (spOf ⟨K, mg, T⟩ np mf)
structure Dk (cls : Str) (k np : Nat) (mf : Fm) : Prop where
  ex : ∃ (C f : Addr) (fd : FuncData) (ps : List Str), mg cls = some (.ref C) ∧ Mk K C f ∧ Binds K fd ps [] ∧ FnOk P w K mg base (L2.CX P w) k f fd ps (spOf ⟨K, mg, T⟩ np mf)
end
structure De (K : PySem.W.Frag) (mg : Str → Option Value) (cls : Str) : Prop where
  ex : ∃ C : Addr, mg cls = some (.ref C) ∧ PySem.W.excIn K C He.veBase "ValueError.__new__" = true ∧ PySem.W.keepIn K (.ref C) = true ∧ PySem.W.subIn K (.ref C) (.type "BaseException") = some true ∧ PySem.W.typeIn K (.ref C) = some (.type "type")
structure Da (K : PySem.W.Frag) (mg : Str → Option Value) (cls fn : Str) : Prop where
  ex : ∃ C : Addr, mg cls = some (.ref C) ∧ Cls K C ∧ NoAttr K C fn
section
variable {T : List (Addr × Str)} {X : Cx} {Wx : WX} {κ κ' : Bool} {a e o : Expr} {es : List Expr} {ma mo : M D} {ml n : M (List D)} {md : M Dc} {mf : Fm} {j k np : Nat} {x m cls fn : Str} {p p2 pos pos2 pos' apos : Pos}
abbrev Lens (n : M (List D)) (np : Nat) : Prop := ∀ env st ds st', n env st = .ok ds st' → ds.length = np
theorem len_nil : Lens mNil 0 := fun _ _ _ _ h => by cases h; rfl
theorem len_cons {np : Nat} (h : Lens n np) : Lens (mCons ma n) (np + 1) := fun env st ds st' e => by
  unfold mCons mBin at e
  cases em : ma env st with
  | ok d st1 =>
    rw [em] at e
    cases en : n env st1 with
    | ok es st2 =>
      simp only [Res.bind, en] at e
      cases e
      simp [h _ _ _ _ en]
    | exc x st2 => simp only [Res.bind, en] at e; cases e
    | bad => simp only [Res.bind, en] at e; cases e
  | exc x st1 => rw [em] at e; cases e
  | bad => rw [em] at e; cases e
theorem ev_f (h : Df X.prog X.w X.K X.mg X.base T x j np mf) (hr : Room k X.A) (tk : Takes X Wx) (ha : AV κ T X Wx (a :: es) n) (hl : Lens n np) (hj : j ≤ k := by decide) (hg : Gl X x := by rfl) (hdb : (x == ("__debug__" : Str)) = false := by decide)
    (he : starEach (a :: es) X.env = (false, eval a X.env) :: starEach es X.env := by rfl) (hpl : (backTo pos (starEach es X.env)).any (·.1) = false := by rfl) : EV false T X Wx (.Call (.Name x p) (a :: es) [] pos) (mCall mf n) := by
  obtain ⟨f, fd, ps, h1, h2, h3, h4⟩ := h.ex
  exact ev_call h4 (hr.mono hj) tk hg h1 h2 h3 ha hl hdb he hpl
theorem ev_f0 (h : Df X.prog X.w X.K X.mg X.base T x j 0 mf) (hr : Room k X.A) (tk : Takes X Wx) (hj : j ≤ k := by decide) (hg : Gl X x := by rfl) (hdb : (x == ("__debug__" : Str)) = false := by decide) : EV false T X Wx (.Call (.Name x p) [] [] pos) (mCall mf mNil) := by
  obtain ⟨f, fd, ps, h1, h2, h3, h4⟩ := h.ex
  exact ev_call0 h4 (hr.mono hj) tk hg h1 h2 h3 hdb
theorem ev_m {pl : Sem Bool} (cls : Str) (h : Dm X.prog X.w X.K X.mg X.base T cls m j (np + 1) mf) (hr : Room k X.A) (tk : Takes X Wx) (ho : EV κ T X Wx o mo) (ha : AV κ' T X Wx (a :: es) n) (hl : Lens n np) (hj : j ≤ k := by decide)
    (hst : starEach (a :: es) X.env = (false, eval a X.env) :: starEach es X.env := by rfl) (hpl : (backTo pos (starEach es X.env)).any (·.1) = false := by rfl)
    (ht : eval (.Call (.Attribute o m apos) (a :: es) [] pos) X.env = (eval o X.env >>= fun ov => standAt apos.atName >>= fun _ => holding [ov] (getMethod ov m pl) >>= fun z => callWith pos z.1 z.2 (backTo pos (starEach (a :: es) X.env)) (backToKw pos (keywordEach [] X.env))) := by rfl) :
    EV false T X Wx (.Call (.Attribute o m apos) (a :: es) [] pos) (mMeth cls m mf mo n) := by
  obtain ⟨C, f, fd, ps, h1, h2, h3, h4, h5⟩ := h.ex
  exact ev_meth ho h1 h2 h3 h5 (hr.mono hj) tk h4 ha hl hst hpl ht
theorem ev_m0 {pl : Sem Bool} (cls : Str) (h : Dm X.prog X.w X.K X.mg X.base T cls m j 1 mf) (hr : Room k X.A) (tk : Takes X Wx) (ho : EV κ T X Wx o mo) (hj : j ≤ k := by decide)
    (ht : eval (.Call (.Attribute o m apos) [] [] pos) X.env = (eval o X.env >>= fun ov => standAt apos.atName >>= fun _ => holding [ov] (getMethod ov m pl) >>= fun z => callWith pos z.1 z.2 (backTo pos (starEach [] X.env)) (backToKw pos (keywordEach [] X.env))) := by rfl) :
    EV false T X Wx (.Call (.Attribute o m apos) [] [] pos) (mMeth cls m mf mo mNil) := by
  obtain ⟨C, f, fd, ps, h1, h2, h3, h4, h5⟩ := h.ex
  exact ev_meth0 ho h1 h2 h3 h5 (hr.mono hj) tk h4 ht
theorem ev_k (h : Dk X.prog X.w X.K X.mg X.base T cls j (np + 1) mf) (hr : Room k X.A) (tk : Takes X Wx) (ha : AV κ T X Wx (a :: es) n) (hl : Lens n np) (hj : j + 1 ≤ k := by decide) (hg : Gl X cls := by rfl) (hdb : (cls == ("__debug__" : Str)) = false := by decide)
    (he : starEach (a :: es) X.env = (false, eval a X.env) :: starEach es X.env := by rfl) (hpl : (backTo pos (starEach es X.env)).any (·.1) = false := by rfl) : EV false T X Wx (.Call (.Name cls p) (a :: es) [] pos) (mMake cls mf n) := by
  obtain ⟨C, f, fd, ps, h1, h2, h3, h4⟩ := h.ex
  exact ev_make h1 h2 h4 (hr.mono hj) tk hg h3 ha hl hdb he hpl
theorem ev_k0 (h : Dk X.prog X.w X.K X.mg X.base T cls j 1 mf) (hr : Room k X.A) (tk : Takes X Wx) (hj : j + 1 ≤ k := by decide) (hg : Gl X cls := by rfl) (hdb : (cls == ("__debug__" : Str)) = false := by decide) : EV false T X Wx (.Call (.Name cls p) [] [] pos) (mMake cls mf mNil) := by
  obtain ⟨C, f, fd, ps, h1, h2, h3, h4⟩ := h.ex
  exact ev_make0 h1 h2 h4 (hr.mono hj) tk hg h3 hdb
theorem sv_rs {mm : Str} {i : Nat} (h : De X.K X.mg cls) (tk : Takes X Wx) (hc : X.calm = true := by rfl) (hg : Gl X cls := by rfl) (hdb : (cls == ("__debug__" : Str)) = false := by decide) : SV T X Wx (.Raise (some (.Call (.Name cls p) [.Constant (.str mm) i p2] [] pos)) none pos2) (sRaise cls mNil) := by
  obtain ⟨C, h1, h2, h3, h4, h5⟩ := h.ex
  exact sv_raiseS hc tk PySem.F.excBase_ValueError h2 h1 h3 (raises_own h4 h5) hg hdb
theorem sv_r (h : De X.K X.mg cls) (tk : Takes X Wx) (ha : AV κ T X Wx (e :: es) n) (hl : Lens n np) (hz : np ≤ 1000 := by decide) (hc : X.calm = true := by rfl) (hg : Gl X cls := by rfl) (hdb : (cls == ("__debug__" : Str)) = false := by decide)
    (he : starEach (e :: es) X.env = (false, eval e X.env) :: starEach es X.env := by rfl) (hpl : (backTo pos (starEach es X.env)).any (·.1) = false := by rfl) : SV T X Wx (.Raise (some (.Call (.Name cls p) (e :: es) [] pos)) none pos2) (sRaise cls n) := by
  obtain ⟨C, h1, h2, h3, h4, h5⟩ := h.ex
  exact sv_raise hc tk PySem.F.excBase_ValueError h2 h1 h3 (raises_own h4 h5) hg ha (fun env st ds st' q => by rw [hl env st ds st' q]; exact hz) hdb he hpl
theorem ev_a (cls : Str) (h : Da X.K X.mg cls fn) (ho : EV κ T X Wx o mo) (hb : attributeBase o fn X.env (eval o X.env) = eval o X.env := by rfl) : EV κ T X Wx (.Attribute o fn pos) (mFld cls fn mo) := by
  obtain ⟨C, h1, h2, h3⟩ := h.ex
  exact ev_fld ho h1 h2 h3 hb
theorem cv_a (cls : Str) (h : Da X.K X.mg cls fn) (ho : EV κ T X Wx o mo) (hb : attributeBase o fn X.env (eval o X.env) = eval o X.env := by rfl) : CV κ T X Wx (.Attribute o fn pos) (mFldC cls fn mo) := by
  obtain ⟨C, h1, h2, h3⟩ := h.ex
  exact cv_fld ho h1 h2 h3 hb
theorem pl_a (cls : Str) (h : Da X.K X.mg cls fn) (ho : EV κ T X Wx o mo) (hb : attributeBase o fn X.env (eval o X.env) = eval o X.env := by rfl) : PlV κ true T X Wx (.Attribute o fn pos) (pFld cls fn mo) := by
  obtain ⟨C, h1, h2, h3⟩ := h.ex
  exact pl_fld ho h1 h2 h3 hb
theorem sv_a (cls : Str) (h : Da X.K X.mg cls fn) (ho : EV κ T X Wx o mo) (hv : EV κ' T X Wx e ma) (hs : swapsWith e (some (.Attribute o fn pos')) pos.line X.env = pure false := by rfl) : SV T X Wx (.Assign [.Attribute o fn pos'] e pos) (sFldSet cls fn mo ma) := by
  obtain ⟨C, h1, h2, h3⟩ := h.ex
  exact sv_fld ho hv h1 h2 h3 hs
theorem sv_ao (cls : Str) (h : Da X.K X.mg cls fn) (ho : EV κ T X Wx o mo) (hv : NV κ' T X Wx e ml) (hs : swapsWith e (some (.Attribute o fn pos')) pos.line X.env = pure false := by rfl) : SV T X Wx (.Assign [.Attribute o fn pos'] e pos) (sFldOwn cls fn mo ml) := by
  obtain ⟨C, h1, h2, h3⟩ := h.ex
  exact sv_fldOwn ho hv h1 h2 h3 hs
theorem sv_aod (cls : Str) (h : Da X.K X.mg cls fn) (ho : EV κ T X Wx o mo) (hv : NVd κ' T X Wx e md) (hs : swapsWith e (some (.Attribute o fn pos')) pos.line X.env = pure false := by rfl) : SV T X Wx (.Assign [.Attribute o fn pos'] e pos) (sFldOwnD cls fn mo md) := by
  obtain ⟨C, h1, h2, h3⟩ := h.ex
  exact sv_fldOwnD ho hv h1 h2 h3 hs
end
end Ev

set_option maxRecDepth 100000
set_option maxHeartbeats 4000000
/-! the def that tells of errors, by name -/
namespace Ev
open PySem PySem.Spec PyProof.Rows L2
/-- the def x takes one thing a and calls it; its clauses give words -/
structure Tl (K : PySem.W.Frag) (mg : Str → Option Value) (ts : Str → Str → Bool) (ws : List (Str × Str)) (x a : Str) : Prop where
  ex : ∃ (g : Addr) (pg : Arguments) (bg : List Stmt) (sg : Scope) (dV kV doc pm cdv ct oc : Value) (an od : Option Addr) (osl : Array (Option Value)) (cs : List (Addr × Str)),
    mg x = some (.ref g) ∧ PySem.W.keepIn K (.ref g) = true ∧ K.lookup g = some ⟨oc, od, .func (PySem.W.fnOf x x pg bg sg dV kV doc pm an cdv ct), osl⟩ ∧ PySem.W.codeIn K cdv x = true ∧ L2.Binds K (PySem.W.fnOf x x pg bg sg dV kV doc pm an cdv ct) [a] [] ∧
      FnScope [a] [a] sg ∧ Vis sg a ∧ (∀ (X : Cx) (q : Str), X.K = K → X.mg = mg → LamX.GivesTo X [a] x sg g cdv bg a q (TTm K cs)) ∧ ClsAll K mg ts ws cs
/-- the table of a def's lambdas -/
structure Lt (base : Heap) (mg : Str → Option Value) (T : List (Addr × Str)) (q : Str) (code : Value) : Prop where
  ex : ∃ c P : Addr, code = .ref c ∧ LamX.TabB base mg c P ∧ (P, q ++ "<lambda>") ∈ T ∧ ∀ p ∈ T, p.1 = P → p.2 = q ++ "<lambda>"
section
variable {T : List (Addr × Str)} {X : Cx} {Wx : WX} {κ : Bool} {m : M D} {x a : Str} {k : Nat} {params : Arguments} {body : Expr} {scope : Scope} {p lpos pos : Pos} {ws : List (Str × Str)} {ts : Str → Str → Bool}
theorem ev_t (h : Tl X.K X.mg ts ws x a) (hl : Lt X.base X.mg T X.env.qual X.env.code) (hr : Room (k + 2) X.A)
    (hbody : ∀ (A : Around) (outer : List PySem.Env) (s : Shared) (H : Hp) (E : XK) (f c' : Addr), Room k (A.deeper (LamX.lamEnv X scope s.heap.objs.size f c')) → EV κ T (LamX.lamCx X A outer s H E scope f c') (fun c d _ H' => E c d H') body m)
    (L : LamX.lamSB X.env.scope scope = true := by rfl) (hg : Gl X x := by rfl) (hdef : defaultsOf params X.env = ([], []) := by rfl)
    (hbind : ∀ (q : Str) (cl : List (Str × Addr)) (pm cv ctv : Value), bindArgs (PySem.W.kla_fn "<lambda>" q params body scope cl pm cv ctv) ⟨[], []⟩ = pure [] := by intros; rfl)
    (hdb : (x == ("__debug__" : Str)) = false := by decide) (hd : (a == ("__debug__" : Str)) = false := by decide) (hcd : (a == ("__classdict__" : Str)) = false := by decide) :
    EV false T X Wx (.Call (.Name x p) [.Lambda params body scope lpos] [] pos) (mTold ts ws m) := by
  obtain ⟨g, pg, bg, sg, dV, kV, doc, pm, cdv, ct, oc, an, od, osl, cs, h1, h2, h3, h4, h5, h6, h7, h8, h9⟩ := h.ex
  obtain ⟨c, P, e1, e2, e3, e4⟩ := hl.ex
  exact ev_told hg h1 h2 h3 h4 h5 h6 rfl h7 (h8 X _ rfl rfl) h9 e2 e1 e3 e4 hr (LamX.lamS_by L) hdef hbind hbody hdb hd hcd
end
/-- the clause by its word -/
theorem names_of {X : Cx} {x : Str} {C : Addr} (hg : Gl X x) (hm : X.mg x = some (.ref C)) (hdb : (x == ("__debug__" : Str)) = false := by decide) : Names X x (.ref C) := ⟨hg, hdb, .inl hm⟩
end Ev

set_option maxRecDepth 100000
set_option maxHeartbeats 4000000
/-! list(range(..)), some statements by name -/
namespace Ev
open PySem PySem.Spec PyProof.Rows L2
section
variable {T : List (Addr × Str)} {X : Cx} {Wx : WX} {κ κ' κi : Bool} {a b c e i : Expr} {ma mb mi : M D} {pos pos' p p2 tpos : Pos}
theorem reps_rg {K : PySem.W.Frag} {W : Wm} {H : Hp} (lo hi : Int) : Reps K W H (rangeL lo (hi - lo).toNat) (rgV lo hi) := by
  unfold rangeL rgV
  generalize List.range (hi - lo).toNat = l
  induction l with
  | nil => exact Reps.nil
  | cons x r ih => exact Reps.cons (rep_int.mpr rfl) ih
def fListRg1 (d : D) (st : Sto) : Res (List D) := match d with
  | .int j => if -1000000 ≤ j ∧ j ≤ 1000000 then .ok (rangeL 0 j.toNat) st else .bad
  | _ => .bad
def fListRg2 (d e : D) (st : Sto) : Res (List D) := match d, e with
  | .int i, .int j => if (-1000000 ≤ i ∧ i ≤ 1000000) ∧ (-1000000 ≤ j ∧ j ≤ 1000000) then .ok (rangeL i (j - i).toNat) st else .bad
  | _, _ => .bad
theorem nv_listRg2 (hc : X.calm = true) (hg : Gl X "list") (hm : X.mg "list" = none) (hgr : Gl X "range") (hmr : X.mg "range" = none) (ha : EV κ T X Wx a ma) (hb : EV κ' T X Wx b mb)
    (na : starEach [.Call (.Name "range" p2) [a, b] [] pos'] X.env = (false, eval (.Call (.Name "range" p2) [a, b] [] pos') X.env) :: starEach [] X.env := by rfl) (n2 : starEach [a, b] X.env = (false, eval a X.env) :: starEach [b] X.env := by rfl)
    (nb : starEach [b] X.env = (false, eval b X.env) :: starEach [] X.env := by rfl) (hp : (backTo pos' (starEach [b] X.env)).any (·.1) = false := by rfl) : NV (κ && κ') T X Wx (.Call (.Name "list" p) [.Call (.Name "range" p2) [a, b] [] pos'] [] pos) (mBin ma mb fListRg2) := by
  obtain ⟨ta, pa, ra⟩ := ha.ex
  obtain ⟨tb, pb, rb⟩ := hb.ex
  refine ⟨_, pe_listRg hc hg hm (prg_2 hgr hmr pa pb n2 nb hp) na, fun W H env st σ Q rl h => ra _ _ _ _ _ _ rl (PostN.bind (R := RepR X) h and21 fun x st1 W1 H1 v e1 r1 q1 h1 => rb _ _ _ _ _ _ r1 (PostN.bind (R := RepR X) h1 and22 fun y st2 W2 H2 u e2 r2 q2 h2 => ?_))⟩
  unfold fListRg2 at h2
  split at h2
  · split at h2
    · rename_i i j hz
      have k1 := rep_int.mp (Rep.mono e2.mo _ _ q1)
      have k2 := rep_int.mp q2
      subst k1 k2
      exact ⟨i, j, rfl, rfl, ⟨by omega, by omega, by omega, by omega, by omega⟩, newLst h2 r2 (reps_rg i j)⟩
    · exact h2.elim
  · exact h2.elim
theorem nv_listRg1 (hc : X.calm = true) (hg : Gl X "list") (hm : X.mg "list" = none) (hgr : Gl X "range") (hmr : X.mg "range" = none) (ha : EV κ T X Wx a ma)
    (na : starEach [.Call (.Name "range" p2) [a] [] pos'] X.env = (false, eval (.Call (.Name "range" p2) [a] [] pos') X.env) :: starEach [] X.env := by rfl) (n2 : starEach [a] X.env = (false, eval a X.env) :: starEach [] X.env := by rfl) : NV κ T X Wx (.Call (.Name "list" p) [.Call (.Name "range" p2) [a] [] pos'] [] pos) (mUn ma fListRg1) := by
  obtain ⟨ta, pa, ra⟩ := ha.ex
  refine ⟨_, pe_listRg hc hg hm (prg_1 hgr hmr pa n2) na, fun W H env st σ Q rl h => ra _ _ _ _ _ _ rl (PostN.bind (R := RepR X) h (fun z => z) fun x st1 W1 H1 v e1 r1 q1 h1 => ?_)⟩
  unfold fListRg1 at h1
  split at h1
  · split at h1
    · rename_i j hz
      have k1 := rep_int.mp q1
      subst k1
      refine ⟨j, rfl, ⟨by omega, by omega, by omega, by omega, by omega⟩, newLst h1 r1 ?_⟩
      have := reps_rg (K := X.K) (W := W1) (H := H1) 0 j
      rwa [Int.sub_zero] at this
    · exact h1.elim
  · exact h1.elim
theorem gvl_nil : ∀ (ds : List D) (env env' : Env), gvNil ds env = some env' → ds.length = 0 := fun ds env env' h => by
  cases ds with
  | nil => rfl
  | cons d ds => cases h
theorem gvl_cons {g : D → Env → Option Env} {gs : List D → Env → Option Env} {n : Nat} (h : ∀ (ds : List D) (env env' : Env), gs ds env = some env' → ds.length = n) : ∀ (ds : List D) (env env' : Env), gvCons g gs ds env = some env' → ds.length = n + 1 := fun ds env env' e => by
  cases ds with
  | nil => cases e
  | cons d ds =>
    have e : (g d env).bind (gs ds) = some env' := e
    cases eg : g d env with
    | none => rw [eg] at e; cases e
    | some env1 => rw [eg] at e; simp [h _ _ _ e]
theorem _root_.L2.Room.u1 {k : Nat} {A : Around} (r : Room k A) : A.units + 1 < cLine := Nat.lt_of_le_of_lt (by omega) r.units
theorem sv_augAdd (i : Nat) {x : Str} (hN : X.N.Nodup) (he : EV κ T X Wx e ma) (hi : X.N[i]? = some x := by rfl) (hx : Loc X.env.scope x := by first | exact Or.inl rfl | exact Or.inr rfl) (hf : X.fn x = true ∨ X.env.scope.names.lookup x = some .local := by first | exact .inl rfl | exact .inr rfl | assumption) :
    SV T X Wx (.AugAssign (.Name x pos') .Add e pos) (sAug i dAddI ma) := sv_aug i hN ip_add ti_addI he hi hx hf
theorem sv_augSub (i : Nat) {x : Str} (hN : X.N.Nodup) (he : EV κ T X Wx e ma) (hi : X.N[i]? = some x := by rfl) (hx : Loc X.env.scope x := by first | exact Or.inl rfl | exact Or.inr rfl) (hf : X.fn x = true ∨ X.env.scope.names.lookup x = some .local := by first | exact .inl rfl | exact .inr rfl | assumption) :
    SV T X Wx (.AugAssign (.Name x pos') .Sub e pos) (sAug i dSub ma) := sv_aug i hN ip_sub ti_subI he hi hx hf
theorem sv_daugAdd {pl : M Tag} (hu : X.A.units + 1 < cLine) (hp : PlV κ (κi && κ') T X Wx a pl) (hi : EV κi T X Wx i mi) (he : EV κ' T X Wx e ma)
    (ha : ∀ ov iv new, augStore i ov iv new = (holding [new, ov, iv] (setItem ov iv new) >>= fun _ => release [new, ov, iv] [] >>= fun _ => pure .next) := by intros; rfl) : SV T X Wx (.AugAssign (.Subscript a i tpos) .Add e pos) (sPutAug dAddI pl mi ma) := sv_daug hu in_add rd_addI hp hi he ha
theorem sv_daugSub {pl : M Tag} (hu : X.A.units + 1 < cLine) (hp : PlV κ (κi && κ') T X Wx a pl) (hi : EV κi T X Wx i mi) (he : EV κ' T X Wx e ma)
    (ha : ∀ ov iv new, augStore i ov iv new = (holding [new, ov, iv] (setItem ov iv new) >>= fun _ => release [new, ov, iv] [] >>= fun _ => pure .next) := by intros; rfl) : SV T X Wx (.AugAssign (.Subscript a i tpos) .Sub e pos) (sPutAug dSub pl mi ma) := sv_daug hu in_sub rd_subI hp hi he ha
end
end Ev

set_option maxRecDepth 100000
set_option maxHeartbeats 4000000
/-! the end: from the head's facts to the law -/
namespace Ev
open PySem PySem.Spec PyProof.Rows L2
section
variable {K : PySem.W.Frag} {mg : Str → Option Value} {h : Heap}
/-- the clauses' classes -/
theorem clsAll_of {ts : Str → Str → Bool} {dom : List Str} (hd : ∀ y x, ts y x = true → y ∈ dom) (glo : ∀ y ∈ dom, mg y = some (.ref (He.ga K y))) : ∀ {ws : List (Str × Str)}, (∀ y ∈ dom, ∀ p ∈ ws, PySem.W.exmOne K (.ref (He.ga K y)) (.ref (He.ga K p.1)) = some (ts y p.1)) → ClsAll K mg ts ws (ws.map fun p => (He.ga K p.1, p.2))
  | [], _ => .nil
  | (x, r) :: l, ex => by
    refine .cons (fun y A hA hw => ?_) (clsAll_of hd glo fun y hy p hp => ex y hy p (List.mem_cons_of_mem _ hp))
    have key : ∀ {ws : List (Str × Str)}, wordFor ts y ws ≠ none → y ∈ dom := by
      intro ws
      induction ws with
      | nil => intro z; exact absurd rfl z
      | cons p t ih =>
        intro z
        obtain ⟨x', r'⟩ := p
        unfold wordFor at z
        by_cases hb : ts y x' = true
        · exact hd y x' hb
        · rw [if_neg hb] at z; exact ih z
    have hy := key hw
    have e := glo y hy
    rw [hA] at e
    have : A = He.ga K y := by cases e; rfl
    rw [this]
    exact ex y hy (x, r) List.mem_cons_self
def lamT (K : PySem.W.Frag) (tf : List (He.Defn × Str)) : List (Addr × Str) := tf.map fun p => ((He.cT K p.1).2, p.2)
def tabsNodup (tf : List (He.Defn × Str)) (K : PySem.W.Frag) : Bool := decide ((tf.map fun p => (He.cT K p.1).2).Nodup)
theorem lt_of {base : Heap} {tf : List (He.Defn × Str)} {name qual : Str} {params : Arguments} {body : List Stmt} {scope : Scope} {at_ : He.Defn} {q : Str} (F : FunD K name qual params body scope [] [] (He.fAd K at_) (fdOf K (He.fAd K at_))) (nd : tabsNodup tf K = true) (hm : (at_, q ++ "<lambda>") ∈ tf)
    (TB : ∀ p ∈ tf.map (fun p => He.cT K p.1), LamX.TabB base mg p.1 p.2) : Lt base mg (lamT K tf) q (fdOf K (He.fAd K at_)).code := by
  obtain ⟨oc, od, dV, kV, doc, pm, an, cdv, ct, osl, e, lk, hcd, _, _⟩ := F.ex
  obtain ⟨c, ec⟩ := He.codeIn_ref hcd
  have ecode : (fdOf K (He.fAd K at_)).code = .ref c := by rw [e]; exact ec
  have eco : He.codeOf K at_ = c := He.codeOf_eq lk ecode
  have hP : (He.cT K at_) = (c, He.tabOf K c) := by unfold He.cT; rw [eco]
  refine ⟨c, He.tabOf K c, ecode, ?_, ?_, fun p hp ep => ?_⟩
  · have := TB _ (List.mem_map.mpr ⟨_, hm, rfl⟩)
    dsimp only at this
    rw [hP] at this
    exact this
  · refine List.mem_map.mpr ⟨_, hm, ?_⟩
    dsimp only
    rw [hP]
  · obtain ⟨z, hz, rfl⟩ := List.mem_map.mp hp
    unfold tabsNodup at nd
    have nd := of_decide_eq_true nd
    have e1 : (He.cT K z.1).2 = (He.cT K at_).2 := by rw [hP]; exact ep
    have := nodup_map_inj nd hz hm e1
    rw [this]
where
  nodup_map_inj {α β : Type} {f : α → β} : ∀ {l : List α}, (l.map f).Nodup → ∀ {a b : α}, a ∈ l → b ∈ l → f a = f b → a = b
    | [], _, _, _, ha, _, _ => by cases ha
    | x :: l, nd, a, b, ha, hb, e => by
      rw [List.map_cons, List.nodup_cons] at nd
      rcases List.mem_cons.mp ha with rfl | ha
      · rcases List.mem_cons.mp hb with rfl | hb
        · rfl
        · exact absurd (List.mem_map.mpr ⟨b, hb, e.symm⟩) nd.1
      · rcases List.mem_cons.mp hb with hb | hb
        · rw [hb] at e
          exact absurd (List.mem_map.mpr ⟨a, ha, e⟩) nd.1
        · exact nodup_map_inj nd.2 ha hb e
end
/-- the law's promise by its mirror -/
theorem law_at {l : PySem.W.OpenLaw} {w : World} {K : PySem.W.Frag} {mg : Str → Option Value} {h : Heap} {fa : List He.Fa} {fn : List He.DefD} {tabs : List He.Tab} {ex : PySem.W.Frag → Bool} {tf : List (He.Defn × Str)} {k n : Nat} {x : Str} {f : Addr} {fd : FuncData} {mf : Fm}
    (X : K.In h) (c : He.SaysX fa fn tabs (tf.map (·.1)) ex w h K) (hb : ∀ (s : Shared) (u : Value), BindsTo s fd ⟨[u], []⟩ [(x, u)]) (plain : ∀ ns : List Int, ns.length ≤ n → (∀ z ∈ ns, Builtin.Int.intBits z ≤ 1048576) → ∃ st, mf [.lst (ns.map .int)] [] = .ok (.bl true) st)
    (F : ∀ base : Heap, K.In base → base.Ns mainGlobals mg → (∀ p ∈ tf.map (fun p => He.cT K p.1), LamX.TabB base mg p.1 p.2) → FnOk l.prog w K mg base (L2.CX l.prog w) k f fd [x] (spOf ⟨K, mg, lamT K tf⟩ 1 mf)) : LamX.LawAtS l w K (L2.CX l.prog w) k n x mg f h := by
  have mem : ∀ p ∈ tf.map (fun p => He.cT K p.1), ∃ q ∈ tf.map (·.1), p = He.cT K q := fun p hp => by
    obtain ⟨z, hz, rfl⟩ := List.mem_map.mp hp
    exact ⟨z.1, List.mem_map.mpr ⟨z, hz, rfl⟩, rfl⟩
  refine ⟨fd, tf.map (fun p => He.cT K p.1), _, fun p hp => ?_, fun p hp => ?_, fun p hp => ?_, hb, fun H a ns hl hbits hT hS => ?_, F⟩
  · obtain ⟨q, hq, rfl⟩ := mem p hp; exact c.empty q hq
  · obtain ⟨q, hq, rfl⟩ := mem p hp; exact c.out q hq
  · obtain ⟨q, hq, rfl⟩ := mem p hp; exact PySem.W.codeHd_of_K X (c.hd q hq)
  · obtain ⟨st, e⟩ := plain ns hl hbits
    refine ⟨fun _ => none, [], [.lst (ns.map .int)], rfl, ⟨fun a n z => (by cases z), fun a b n z => (by cases z), fun a t z => (by cases z), fun p hp => ?_⟩, Reps.one (rep_lst.mpr ⟨a, ns.map V.int, rfl, ?_, Reps.ints⟩), ?_⟩
    · obtain ⟨z, hz, rfl⟩ := List.mem_map.mp hp
      exact ⟨#[], hT _ (List.mem_map.mpr ⟨z, hz, rfl⟩), (by trivial), fun pos cv q => by simp [codeAmong] at q⟩
    · rcases hS with hS | hS
      · exact .inl ⟨rfl, hS⟩
      · exact .inr hS
    · rw [e]
      exact fun W' H' v _ _ r => rep_bl.mp r
end Ev

set_option maxRecDepth 100000
set_option maxHeartbeats 4000000
/-! what a mirror does, by wishes -/
namespace Ev
open PySem PySem.Spec PyProof.Rows L2
def wpR {α : Type} (r : Res α) (P : α → Sto → Prop) (E : Exn → Sto → Prop) : Prop := match r with
  | .ok a st => P a st
  | .exc x st => E x st
  | .bad => False
structure Wi where
  nx : Env → Sto → Prop
  rt : D → Sto → Prop
  bk : Env → Sto → Prop
  ct : Env → Sto → Prop
  xc : Exn → Sto → Prop
def wpO (o : Out) (Q : Wi) : Prop := match o with
  | .nx env st => Q.nx env st
  | .rt d st => Q.rt d st
  | .bk env st => Q.bk env st
  | .ct env st => Q.ct env st
  | .xc x _ st => Q.xc x st
  | .bad => False
section
variable {α β γ : Type} {P : α → Sto → Prop} {E : Exn → Sto → Prop} {env : Env} {st : Sto} {Q : Wi}
theorem wpR.imp {r : Res α} {P P' : α → Sto → Prop} {E E' : Exn → Sto → Prop} (h : wpR r P E) (k : ∀ a st, P a st → P' a st) (e : ∀ x st, E x st → E' x st) : wpR r P' E' := by
  cases r with
  | ok a st => exact k a st h
  | exc x st => exact e x st h
  | bad => exact h.elim
@[simp] theorem wp_ok {a : α} : wpR (.ok a st) P E ↔ P a st := Iff.rfl
@[simp] theorem wp_exc {x : Exn} : wpR (.exc x st) P E ↔ E x st := Iff.rfl
@[simp] theorem wp_bad : wpR (.bad : Res α) P E ↔ False := Iff.rfl
@[simp] theorem wp_bind {r : Res β} {f : β → Sto → Res α} : wpR (r.bind f) P E ↔ wpR r (fun b st => wpR (f b st) P E) E := by cases r <;> exact Iff.rfl
@[simp] theorem wp_of {o : Option α} : wpR (Res.of o st) P E ↔ ∃ a, o = some a ∧ P a st := by
  cases o with
  | none => simp [Res.of]
  | some a => simp [Res.of]
@[simp] theorem wp_ite {c : Prop} [Decidable c] {r r' : Res α} : wpR (if c then r else r') P E ↔ (c → wpR r P E) ∧ (¬c → wpR r' P E) := by
  by_cases h : c <;> simp [h]
@[simp] theorem wp_mVar {i : Nat} {P : D → Sto → Prop} : wpR (mVar i env st) P E ↔ ∃ d, env[i]? = some (some d) ∧ d.isOwn = false ∧ P d st := by
  unfold mVar
  split
  · rename_i h; simp [h, D.isOwn]
  · rename_i h; simp [h, D.isOwn]
  · rename_i h; simp [h]
  · rename_i h; simp [h]
  · rename_i d h1 h2 h
    simp only [h, wp_ok]
    refine ⟨fun p => ⟨d, rfl, ?_, p⟩, fun ⟨d', e, _, p⟩ => by cases e; exact p⟩
    cases d <;> first | rfl | exact absurd rfl (h1 _) | exact absurd rfl (h2 _)
@[simp] theorem wp_mVarC {i : Nat} {P : D → Sto → Prop} : wpR (mVarC i env st) P E ↔ ∃ d, env[i]? = some (some d) ∧ P d.cur st := by
  unfold mVarC
  split
  · rename_i h; simp [h]
  · rename_i h; simp [h]
  · rename_i d h; simp [h]
@[simp] theorem wp_mK {d : D} {P : D → Sto → Prop} : wpR (mK d env st) P E ↔ P d st := Iff.rfl
@[simp] theorem wp_mBin {ma : M β} {mb : M γ} {f : β → γ → Sto → Res α} : wpR (mBin ma mb f env st) P E ↔ wpR (ma env st) (fun x st1 => wpR (mb env st1) (fun y st2 => wpR (f x y st2) P E) E) E := by unfold mBin; simp
@[simp] theorem wp_mUn {ma : M β} {f : β → Sto → Res α} : wpR (mUn ma f env st) P E ↔ wpR (ma env st) (fun x st1 => wpR (f x st1) P E) E := by unfold mUn; simp
@[simp] theorem wp_pure2 {f : β → γ → Option α} {x : β} {y : γ} : wpR (pure2 f x y st) P E ↔ ∃ a, f x y = some a ∧ P a st := by unfold pure2; simp
@[simp] theorem wp_mTest {m : M D} {P : Bool → Sto → Prop} : wpR (mTest m env st) P E ↔ wpR (m env st) (fun d st => ∃ b, d.b? = some b ∧ P b st) E := by unfold mTest; simp
@[simp] theorem wp_mIf {t : M Bool} {a b : M α} : wpR (mIf t a b env st) P E ↔ wpR (t env st) (fun k st1 => (k = true → wpR (a env st1) P E) ∧ (k = false → wpR (b env st1) P E)) E := by unfold mIf; simp
@[simp] theorem wp_mAnd {t u : M Bool} {P : Bool → Sto → Prop} : wpR (mAnd t u env st) P E ↔ wpR (t env st) (fun k st1 => (k = true → wpR (u env st1) P E) ∧ (k = false → P false st1)) E := by unfold mAnd; simp
@[simp] theorem wp_mOr {t u : M Bool} {P : Bool → Sto → Prop} : wpR (mOr t u env st) P E ↔ wpR (t env st) (fun k st1 => (k = true → P true st1) ∧ (k = false → wpR (u env st1) P E)) E := by unfold mOr; simp
@[simp] theorem wp_mNot {t : M Bool} {P : Bool → Sto → Prop} : wpR (mNot t env st) P E ↔ wpR (t env st) (fun k st1 => P (!k) st1) E := by unfold mNot; simp
@[simp] theorem wp_mNil {P : List D → Sto → Prop} : wpR (mNil env st) P E ↔ P [] st := Iff.rfl
@[simp] theorem wp_mCons {m : M D} {n : M (List D)} {P : List D → Sto → Prop} : wpR (mCons m n env st) P E ↔ wpR (m env st) (fun d st1 => wpR (n env st1) (fun ds st2 => P (d :: ds) st2) E) E := by unfold mCons; simp
@[simp] theorem wp_mSmall {m : M (List D)} {P : List D → Sto → Prop} : wpR (mSmall m env st) P E ↔ wpR (m env st) (fun ds st1 => ds.length ≤ 1000 ∧ P ds st1) E := by
  unfold mSmall
  rw [wp_bind]
  constructor <;> intro h <;> refine h.imp (fun a st q => ?_) (fun _ _ q => q)
  · split at q
    · exact ⟨by assumption, q⟩
    · exact q.elim
  · rw [if_pos q.1]; exact q.2
@[simp] theorem wp_mTup {m : M (List D)} {P : D → Sto → Prop} : wpR (mTup m env st) P E ↔ wpR (m env st) (fun ds st1 => ds.length ≤ 1000 ∧ P (.tup ds) st1) E := by
  unfold mTup
  rw [wp_bind]
  constructor <;> intro h <;> refine h.imp (fun a st q => ?_) (fun _ _ q => q)
  · split at q
    · exact ⟨by assumption, q⟩
    · exact q.elim
  · rw [if_pos q.1]; exact q.2
@[simp] theorem wp_mStore {m : M (List D)} {P : D → Sto → Prop} : wpR (mStore m env st) P E ↔ wpR (m env st) (fun ds st1 => ds.length ≤ 1000 ∧ P (.loc st1.length) (st1 ++ [.ls ds])) E := by
  unfold mStore
  rw [wp_bind]
  constructor <;> intro h <;> refine h.imp (fun a st q => ?_) (fun _ _ q => q)
  · split at q
    · exact ⟨by assumption, q⟩
    · exact q.elim
  · rw [if_pos q.1]; exact q.2
@[simp] theorem wp_mCall {mf : Fm} {n : M (List D)} {P : D → Sto → Prop} : wpR (mCall mf n env st) P E ↔ wpR (n env st) (fun ds st1 => wpR (mf ds st1) P E) E := by unfold mCall; simp
@[simp] theorem wp_mDnil {t : Bool} {P : Dc → Sto → Prop} : wpR (mDnil t env st) P E ↔ P (t, []) st := Iff.rfl
@[simp] theorem wp_mPart {m : M D} {P : Option Int → Sto → Prop} : wpR (mPart m env st) P E ↔ wpR (m env st) (fun d st => ∃ i, d = .int i ∧ P (some i) st) E := by
  unfold mPart
  rw [wp_mUn]
  constructor <;> intro h <;> refine h.imp (fun a st q => ?_) (fun _ _ q => q)
  · split at q
    · exact ⟨_, rfl, q⟩
    · exact q.elim
  · obtain ⟨i, rfl, q⟩ := q; exact q
@[simp] theorem wp_mNoPart {P : Option Int → Sto → Prop} : wpR (mNoPart env st) P E ↔ P none st := Iff.rfl
@[simp] theorem wp_mSl {m : M D} {ml mh : M (Option Int)} {f : D → Option Int → Option Int → Sto → Res α} : wpR (mSl m ml mh f env st) P E ↔ wpR (m env st) (fun d st1 => wpR (ml env st1) (fun lo st2 => wpR (mh env st2) (fun hi st3 => wpR (f d lo hi st3) P E) E) E) E := by unfold mSl; simp
@[simp] theorem wp_mChain {ma mb mc : M D} {f g : D → D → Option D} {P : D → Sto → Prop} : wpR (mChain ma mb mc f g env st) P E ↔ wpR (ma env st) (fun x st1 => wpR (mb env st1) (fun y st2 => ∃ k, (f x y).bind D.b? = some k ∧ wpR (if k = true then (mc env st2).bind fun z st3 => Res.of (g y z) st3 else .ok (.bl false) st2) P E) E) E := by
  unfold mChain
  simp only [wp_bind]
  constructor <;> intro h <;> refine h.imp (fun a st q => q.imp (fun b st q => ?_) (fun _ _ q => q)) (fun _ _ q => q)
  · rw [wp_of] at q; exact q
  · rw [wp_of]; exact q
@[simp] theorem wp_mItems {m : M D} {P : List D → Sto → Prop} : wpR (mItems m env st) P E ↔ wpR (m env st) (fun d st => ∃ ds, d.items = some ds ∧ P ds st) E := by unfold mItems; simp
/-! ### statements -/
@[simp] theorem wo_nx : wpO (.nx env st) Q ↔ Q.nx env st := Iff.rfl
@[simp] theorem wo_rt {d : D} : wpO (.rt d st) Q ↔ Q.rt d st := Iff.rfl
@[simp] theorem wo_bk : wpO (.bk env st) Q ↔ Q.bk env st := Iff.rfl
@[simp] theorem wo_ct : wpO (.ct env st) Q ↔ Q.ct env st := Iff.rfl
@[simp] theorem wo_xc {x : Exn} : wpO (.xc x env st) Q ↔ Q.xc x st := Iff.rfl
@[simp] theorem wo_bad : wpO .bad Q ↔ False := Iff.rfl
@[simp] theorem wo_out {r : Res α} {f : α → Sto → Out} : wpO (r.out env f) Q ↔ wpR r (fun a st => wpO (f a st) Q) Q.xc := by cases r <;> exact Iff.rfl
@[simp] theorem wo_ite {c : Prop} [Decidable c] {o o' : Out} : wpO (if c then o else o') Q ↔ (c → wpO o Q) ∧ (¬c → wpO o' Q) := by by_cases h : c <;> simp [h]
@[simp] theorem wo_seq {m n : Sm} : wpO (sSeq m n env st) Q ↔ wpO (m env st) { Q with nx := fun env' st' => wpO (n env' st') Q } := by
  unfold sSeq
  cases m env st <;> exact Iff.rfl
@[simp] theorem wo_pass : wpO (sPass env st) Q ↔ Q.nx env st := Iff.rfl
@[simp] theorem wo_if {t : M Bool} {m n : Sm} : wpO (sIf t m n env st) Q ↔ wpR (t env st) (fun k st' => (k = true → wpO (m env st') Q) ∧ (k = false → wpO (n env st') Q)) Q.xc := by unfold sIf; simp
@[simp] theorem wo_ret {m : M D} : wpO (sRet m env st) Q ↔ wpR (m env st) Q.rt Q.xc := by unfold sRet; simp
@[simp] theorem wo_set {i : Nat} {m : M D} : wpO (sSet i m env st) Q ↔ wpR (m env st) (fun d st' => Q.nx (env.set i (some d)) st') Q.xc := by unfold sSet; simp
@[simp] theorem wo_own {i : Nat} {m : M (List D)} : wpO (sOwn i m env st) Q ↔ wpR (m env st) (fun d st' => Q.nx (env.set i (some (.own d))) st') Q.xc := by unfold sOwn; simp
@[simp] theorem wo_ownD {i : Nat} {m : M Dc} : wpO (sOwnD i m env st) Q ↔ wpR (m env st) (fun d st' => Q.nx (env.set i (some (.ownd d))) st') Q.xc := by unfold sOwnD; simp
@[simp] theorem wo_drop {m : M D} : wpO (sDrop m env st) Q ↔ wpR (m env st) (fun _ st' => Q.nx env st') Q.xc := by unfold sDrop; simp
@[simp] theorem wo_raise {c : Str} {m : M (List D)} : wpO (sRaise c m env st) Q ↔ wpR (m env st) (fun _ st' => Q.xc ⟨c, []⟩ st') Q.xc := by unfold sRaise; simp
@[simp] theorem wo_frz {i : Nat} {m : Sm} : wpO (sFrz i m env st) Q ↔ wpO (m (frzE i env) st) Q := Iff.rfl
@[simp] theorem wo_tgt {g : D → Env → Option Env} {m : M D} : wpO (sTgt g m env st) Q ↔ wpR (m env st) (fun d st' => ∃ env', g d env = some env' ∧ Q.nx env' st') Q.xc := by
  unfold sTgt
  rw [wo_out]
  constructor <;> intro h <;> refine h.imp (fun a st q => ?_) (fun _ _ q => q)
  · split at q
    · rename_i e; exact ⟨_, e, q⟩
    · exact q.elim
  · obtain ⟨env', e, q⟩ := q
    simp only [e]; exact q
@[simp] theorem wo_par {is : List Nat} {m : M (List D)} : wpO (sPar is m env st) Q ↔ wpR (m env st) (fun ds st' => (ds.length = is.length ∧ ds.length ≤ 1000) ∧ Q.nx (setsD env is ds) st') Q.xc := by
  unfold sPar
  rw [wo_out]
  constructor <;> intro h <;> refine h.imp (fun a st q => ?_) (fun _ _ q => q)
  · split at q
    · exact ⟨by assumption, q⟩
    · exact q.elim
  · rw [if_pos q.1]; exact q.2
@[simp] theorem wo_for {it : M (List D)} {g : D → Env → Option Env} {m : Sm} : wpO (sFor it g m env st) Q ↔ wpR (it env st) (fun ds st' => wpO (loopM g m ds env st') Q) Q.xc := by unfold sFor; simp
@[simp] theorem wo_loop_nil {g : D → Env → Option Env} {m : Sm} : wpO (loopM g m [] env st) Q ↔ Q.nx env st := by unfold loopM; simp
theorem wo_loop_cons {g : D → Env → Option Env} {m : Sm} {d : D} {ds : List D} : wpO (loopM g m (d :: ds) env st) Q ↔ ∃ env1, g d env = some env1 ∧ wpO (m env1 st) { Q with nx := fun env' st' => wpO (loopM g m ds env' st') Q, ct := fun env' st' => wpO (loopM g m ds env' st') Q, bk := Q.nx } := by
  conv => lhs; unfold loopM
  cases g d env with
  | none => simp
  | some env1 =>
    simp only [Option.some.injEq, exists_eq_left']
    cases m env1 st <;> exact Iff.rfl
/-- a loop by its invariant -/
theorem wo_loop {g : D → Env → Option Env} {m : Sm} (Inv : List D → Env → Sto → Prop) (hs : ∀ d ds env st, Inv (d :: ds) env st → ∃ env1, g d env = some env1 ∧ wpO (m env1 st) { Q with nx := Inv ds, ct := Inv ds, bk := Q.nx }) (he : ∀ env st, Inv [] env st → Q.nx env st) :
    ∀ {ds : List D} {env : Env} {st : Sto}, Inv ds env st → wpO (loopM g m ds env st) Q
  | [], env, st, h => by simpa using he env st h
  | d :: ds, env, st, h => by
    rw [wo_loop_cons]
    obtain ⟨env1, e, q⟩ := hs d ds env st h
    refine ⟨env1, e, ?_⟩
    cases eo : m env1 st with
    | nx env2 st2 => rw [eo] at q; exact wo_loop Inv hs he q
    | ct env2 st2 => rw [eo] at q; exact wo_loop Inv hs he q
    | bk env2 st2 => rw [eo] at q; exact q
    | rt d2 st2 => rw [eo] at q; exact q
    | xc x env2 st2 => rw [eo] at q; exact q
    | bad => rw [eo] at q; exact q
theorem wpR_congr {r : Res α} {P P' : α → Sto → Prop} (h : ∀ a st, P a st ↔ P' a st) : wpR r P E ↔ wpR r P' E := ⟨fun q => q.imp (fun a st => (h a st).mp) fun _ _ q => q, fun q => q.imp (fun a st => (h a st).mpr) fun _ _ q => q⟩
theorem wo_opt {o : Option α} {f : α → Out} : wpO (match o with | some a => f a | none => .bad) Q ↔ ∃ a, o = some a ∧ wpO (f a) Q := by cases o <;> simp
theorem wp_opt {o : Option β} {f : β → Res α} : wpR (match o with | some a => f a | none => .bad) P E ↔ ∃ a, o = some a ∧ wpR (f a) P E := by cases o <;> simp
theorem iteb {c : Prop} [Decidable c] {o : Out} : wpO (if c then o else .bad) Q ↔ c ∧ wpO o Q := by by_cases h : c <;> simp [h]
theorem itebr {c : Prop} [Decidable c] {r : Res α} : wpR (if c then r else .bad) P E ↔ c ∧ wpR r P E := by by_cases h : c <;> simp [h]
@[simp] theorem wo_nxOf {z : Env × Sto} : wpO (nxOf z) Q ↔ Q.nx z.1 z.2 := Iff.rfl
@[simp] theorem wo_app {pl : M Tag} {m : M D} : wpO (sAppend pl m env st) Q ↔ wpR (pl env st) (fun t st1 => (contL t env st1).isSome = true ∧ wpR (m env st1) (fun d st2 => ∃ xs, contL t env st2 = some xs ∧ xs.length < 1000000 ∧ Q.nx (setL t (xs ++ [d]) env st2).1 (setL t (xs ++ [d]) env st2).2) Q.xc) Q.xc := by
  unfold sAppend
  simp only [wo_out, iteb]
  refine wpR_congr fun t st1 => and_congr_right fun _ => wpR_congr fun d st2 => ?_
  cases contL t env st2 with
  | none => simp
  | some c => simp only [iteb, wo_nxOf, Option.some.injEq, exists_eq_left']
theorem wo_lk {o : Option (List D)} {i : D} {f : List D → Int → Out} : wpO (match o, i with | some ds, .int k => f ds k | _, _ => .bad) Q ↔ ∃ ds k, o = some ds ∧ i = .int k ∧ wpO (f ds k) Q := by
  cases o with
  | none => simp
  | some ds => cases i <;> simp
@[simp] theorem wo_setix {pl : M Tag} {mi m : M D} : wpO (sSetIx pl mi m env st) Q ↔ wpR (m env st) (fun d st1 => wpR (pl env st1) (fun t st2 => wpR (mi env st2) (fun i st3 => ∃ ds k, contL t env st3 = some ds ∧ i = .int k ∧ ∃ j, ixN ds.length k = some j ∧ Q.nx (setL t (ds.set j d) env st3).1 (setL t (ds.set j d) env st3).2) Q.xc) Q.xc) Q.xc := by
  unfold sSetIx
  simp only [wo_out]
  refine wpR_congr fun d st1 => wpR_congr fun t st2 => wpR_congr fun i st3 => ?_
  cases contL t env st3 with
  | none => simp
  | some ds =>
    cases i <;> simp
    cases ixN ds.length _ <;> simp
@[simp] theorem wo_put {pl : M Tag} {mi m : M D} : wpO (sPut pl mi m env st) Q ↔ wpR (m env st) (fun d st1 => wpR (pl env st1) (fun t st2 => wpR (mi env st2) (fun k st3 => ∃ c, contD t env st3 = some c ∧ (keyOk c.1 k = true ∧ c.2.length < 1000000) ∧ Q.nx (setDc t (c.1, dPut c.2 k d) env st3).1 (setDc t (c.1, dPut c.2 k d) env st3).2) Q.xc) Q.xc) Q.xc := by
  unfold sPut
  simp only [wo_out]
  refine wpR_congr fun d st1 => wpR_congr fun t st2 => wpR_congr fun k st3 => ?_
  cases contD t env st3 with
  | none => simp
  | some c => simp only [iteb, wo_nxOf, Option.some.injEq, exists_eq_left']
@[simp] theorem wo_del {pl : M Tag} {mi : M D} : wpO (sDel pl mi env st) Q ↔ wpR (pl env st) (fun t st1 => wpR (mi env st1) (fun k st2 => ∃ c, contD t env st2 = some c ∧ (c.1 = false ∧ keyOk false k = true ∧ (dLook c.2 k).isSome = true) ∧ Q.nx (setDc t (c.1, dDrop c.2 k) env st2).1 (setDc t (c.1, dDrop c.2 k) env st2).2) Q.xc) Q.xc := by
  unfold sDel
  simp only [wo_out]
  refine wpR_congr fun t st2 => wpR_congr fun k st3 => ?_
  cases contD t env st3 with
  | none => simp
  | some c => simp only [iteb, wo_nxOf, Option.some.injEq, exists_eq_left']
theorem wo_od {o : Option D} {o2 : Option Dc} {f : D → Dc → Out} : wpO (match o, o2 with | some z, some c => f z c | _, _ => .bad) Q ↔ ∃ z c, o = some z ∧ o2 = some c ∧ wpO (f z c) Q := by
  cases o with
  | none => simp
  | some ds => cases o2 <;> simp
@[simp] theorem wo_putaug {op : D → D → Option D} {pl : M Tag} {mi m : M D} : wpO (sPutAug op pl mi m env st) Q ↔ wpR (pl env st) (fun t st1 => wpR (mi env st1) (fun k st2 => ∃ c, contD t env st2 = some c ∧ (keyOk c.1 k = true ∧ c.2.length < 1000000) ∧ ∃ dv, dLook c.2 k = some dv ∧
    wpR (m env st2) (fun y st3 => ∃ z c3, op dv y = some z ∧ contD t env st3 = some c3 ∧ (keyOk c3.1 k = true ∧ c3.2.length < 1000000) ∧ Q.nx (setDc t (c3.1, dPut c3.2 k z) env st3).1 (setDc t (c3.1, dPut c3.2 k z) env st3).2) Q.xc) Q.xc) Q.xc := by
  unfold sPutAug
  simp only [wo_out]
  refine wpR_congr fun t st1 => wpR_congr fun k st2 => ?_
  cases contD t env st2 with
  | none => simp
  | some c =>
    simp only [iteb, Option.some.injEq, exists_eq_left']
    refine and_congr_right fun _ => ?_
    cases dLook c.2 k with
    | none => simp
    | some dv =>
      simp only [wo_out, Option.some.injEq, exists_eq_left']
      refine wpR_congr fun y st3 => ?_
      cases op dv y with
      | none => simp
      | some z =>
        cases contD t env st3 with
        | none => simp
        | some c3 => simp only [iteb, wo_nxOf, Option.some.injEq, exists_eq_left', exists_and_left]
@[simp] theorem wo_aug {i : Nat} {op : D → D → Option D} {m : M D} : wpO (sAug i op m env st) Q ↔ ∃ d, env[i]? = some (some d) ∧ d.isOwn = false ∧ wpR (m env st) (fun y st2 => ∃ z, op d y = some z ∧ Q.nx (env.set i (some z)) st2) Q.xc := by
  unfold sAug
  split
  · rename_i h; simp [h, D.isOwn]
  · rename_i h; simp [h, D.isOwn]
  · rename_i h; simp [h]
  · rename_i h; simp [h]
  · rename_i d h1 h2 h
    have hd : d.isOwn = false := by cases d <;> first | rfl | exact absurd rfl (h1 _) | exact absurd rfl (h2 _)
    simp only [wo_out, h, Option.some.injEq, exists_eq_left', hd, true_and]
    refine wpR_congr fun y st2 => ?_
    cases op d y <;> simp
@[simp] theorem wp_slot {i : Nat} {P : Tag → Sto → Prop} : wpR (pSlot i env st) P E ↔ ∃ d, env[i]? = some (some d) ∧ d.isOwn = true ∧ P (.slot i) st := by
  unfold pSlot
  split
  · rename_i h; simp [h, D.isOwn]
  · rename_i h; simp [h, D.isOwn]
  · rename_i h1 h2
    simp only [wp_bad, false_iff]
    rintro ⟨d, e, o, _⟩
    cases d <;> first | exact h1 _ e | exact h2 _ e | cases o
@[simp] theorem wp_pObj {m : M D} {P : Tag → Sto → Prop} : wpR (pObj m env st) P E ↔ wpR (m env st) (fun d st => ∃ n, d = .loc n ∧ P (.obj n) st) E := by
  unfold pObj
  rw [wp_mUn]
  constructor <;> intro h <;> refine h.imp (fun a st q => ?_) (fun _ _ q => q)
  · split at q
    · exact ⟨_, rfl, q⟩
    · exact q.elim
  · obtain ⟨n, rfl, q⟩ := q; exact q
@[simp] theorem wp_pFld {cls fn : Str} {mo : M D} {P : Tag → Sto → Prop} : wpR (pFld cls fn mo env st) P E ↔ wpR (mo env st) (fun d st => ∃ z, objAt d st cls = some z ∧ ∃ v, z.2.lookup fn = some v ∧ v.isOwn = true ∧ P (.fld z.1 fn) st) E := by
  unfold pFld
  rw [wp_mUn]
  constructor <;> intro h <;> refine h.imp (fun a st q => ?_) (fun _ _ q => q)
  · split at q
    · rename_i n fs e
      split at q
      · rename_i e2; exact ⟨(n, fs), e, _, e2, rfl, q⟩
      · rename_i e2; exact ⟨(n, fs), e, _, e2, rfl, q⟩
      · exact q.elim
    · exact q.elim
  · obtain ⟨⟨n, fs⟩, e, v, e2, o, q⟩ := q
    dsimp only at e2
    simp only [e]
    cases v <;> first | (simp only [e2]; exact q) | cases o
@[simp] theorem wp_mFld {cls fn : Str} {mo : M D} {P : D → Sto → Prop} : wpR (mFld cls fn mo env st) P E ↔ wpR (mo env st) (fun d st => ∃ z, objAt d st cls = some z ∧ ∃ v, z.2.lookup fn = some v ∧ v.isOwn = false ∧ P v st) E := by
  unfold mFld
  rw [wp_mUn]
  constructor <;> intro h <;> refine h.imp (fun a st q => ?_) (fun _ _ q => q)
  · split at q
    · rename_i n fs e
      split at q
      · exact q.elim
      · exact q.elim
      · exact q.elim
      · rename_i v h1 h2 e2
        refine ⟨(n, fs), e, v, e2, ?_, q⟩
        cases v <;> first | rfl | exact absurd rfl (h1 _) | exact absurd rfl (h2 _)
    · exact q.elim
  · obtain ⟨⟨n, fs⟩, e, v, e2, o, q⟩ := q
    dsimp only at e2
    simp only [e]
    cases v <;> first | (simp only [e2]; exact q) | cases o
@[simp] theorem wp_mFldC {cls fn : Str} {mo : M D} {P : D → Sto → Prop} : wpR (mFldC cls fn mo env st) P E ↔ wpR (mo env st) (fun d st => ∃ z, objAt d st cls = some z ∧ ∃ v, z.2.lookup fn = some v ∧ P v.cur st) E := by
  unfold mFldC
  rw [wp_mUn]
  constructor <;> intro h <;> refine h.imp (fun a st q => ?_) (fun _ _ q => q)
  · split at q
    · rename_i n fs e
      split at q
      · exact q.elim
      · rename_i v e2; exact ⟨(n, fs), e, v, e2, q⟩
    · exact q.elim
  · obtain ⟨⟨n, fs⟩, e, v, e2, q⟩ := q
    dsimp only at e2
    simp only [e, e2]; exact q
@[simp] theorem wp_mMeth {cls m : Str} {mf : Fm} {mo : M D} {n : M (List D)} {P : D → Sto → Prop} : wpR (mMeth cls m mf mo n env st) P E ↔ wpR (mo env st) (fun d st1 => ∃ z, objAt d st1 cls = some z ∧ (z.2.lookup m).isNone = true ∧ wpR (n env st1) (fun ds st2 => wpR (mf (d :: ds) st2) P E) E) E := by
  unfold mMeth
  rw [wp_bind]
  constructor <;> intro h <;> refine h.imp (fun a st q => ?_) (fun _ _ q => q)
  · split at q
    · rename_i n fs e
      rw [itebr, wp_bind] at q
      exact ⟨_, e, q⟩
    · exact q.elim
  · obtain ⟨⟨i, fs⟩, e, q⟩ := q
    simp only [e]
    rw [itebr, wp_bind]
    exact q
@[simp] theorem wp_mMake {cls : Str} {mf : Fm} {n : M (List D)} {P : D → Sto → Prop} : wpR (mMake cls mf n env st) P E ↔ wpR (n env st) (fun ds st1 => wpR (mf (.loc st1.length :: ds) (st1 ++ [.ins cls []])) (fun d st2 => d = .non ∧ P (.loc st1.length) st2) E) E := by
  unfold mMake
  rw [wp_bind]
  constructor <;> intro h <;> refine h.imp (fun a st q => ?_) (fun _ _ q => q)
  · rw [wp_bind] at q
    refine q.imp (fun b st q => ?_) (fun _ _ q => q)
    split at q
    · exact ⟨rfl, q⟩
    · exact q.elim
  · rw [wp_bind]
    refine q.imp (fun b st q => ?_) (fun _ _ q => q)
    obtain ⟨rfl, q⟩ := q
    exact q
@[simp] theorem wo_fldset {cls fn : Str} {mo m : M D} : wpO (sFldSet cls fn mo m env st) Q ↔ wpR (m env st) (fun d st1 => wpR (mo env st1) (fun od st2 => ∃ z, objAt od st2 cls = some z ∧ z.2.length < 900 ∧ Q.nx env (st2.set z.1 (.ins cls (putD fn d z.2)))) Q.xc) Q.xc := by
  unfold sFldSet
  rw [wo_out]
  constructor <;> intro h <;> refine h.imp (fun a st q => ?_) (fun _ _ q => q)
  · rw [wo_out] at q
    refine q.imp (fun b st q => ?_) (fun _ _ q => q)
    split at q
    · rename_i e; rw [iteb] at q; exact ⟨_, e, q⟩
    · exact q.elim
  · rw [wo_out]
    refine q.imp (fun b st q => ?_) (fun _ _ q => q)
    obtain ⟨⟨i, fs⟩, e, q⟩ := q
    simp only [e]; rw [iteb]; exact q
@[simp] theorem wo_fldown {cls fn : Str} {mo : M D} {m : M (List D)} : wpO (sFldOwn cls fn mo m env st) Q ↔ wpR (m env st) (fun d st1 => wpR (mo env st1) (fun od st2 => ∃ z, objAt od st2 cls = some z ∧ z.2.length < 900 ∧ Q.nx env (st2.set z.1 (.ins cls (putD fn (.own d) z.2)))) Q.xc) Q.xc := by
  unfold sFldOwn
  rw [wo_out]
  constructor <;> intro h <;> refine h.imp (fun a st q => ?_) (fun _ _ q => q)
  · rw [wo_out] at q
    refine q.imp (fun b st q => ?_) (fun _ _ q => q)
    split at q
    · rename_i e; rw [iteb] at q; exact ⟨_, e, q⟩
    · exact q.elim
  · rw [wo_out]
    refine q.imp (fun b st q => ?_) (fun _ _ q => q)
    obtain ⟨⟨i, fs⟩, e, q⟩ := q
    simp only [e]; rw [iteb]; exact q
@[simp] theorem wo_fldownd {cls fn : Str} {mo : M D} {m : M Dc} : wpO (sFldOwnD cls fn mo m env st) Q ↔ wpR (m env st) (fun d st1 => wpR (mo env st1) (fun od st2 => ∃ z, objAt od st2 cls = some z ∧ z.2.length < 900 ∧ Q.nx env (st2.set z.1 (.ins cls (putD fn (.ownd d) z.2)))) Q.xc) Q.xc := by
  unfold sFldOwnD
  rw [wo_out]
  constructor <;> intro h <;> refine h.imp (fun a st q => ?_) (fun _ _ q => q)
  · rw [wo_out] at q
    refine q.imp (fun b st q => ?_) (fun _ _ q => q)
    split at q
    · rename_i e; rw [iteb] at q; exact ⟨_, e, q⟩
    · exact q.elim
  · rw [wo_out]
    refine q.imp (fun b st q => ?_) (fun _ _ q => q)
    obtain ⟨⟨i, fs⟩, e, q⟩ := q
    simp only [e]; rw [iteb]; exact q
@[simp] theorem wp_told {ts : Str → Str → Bool} {ws : List (Str × Str)} {m : M D} {P : D → Sto → Prop} : wpR (mTold ts ws m env st) P E ↔ wpR (m env st) P (fun x st' => ∃ r, wordFor ts x.cls ws = some r ∧ P (.str r) st') := by
  unfold mTold
  cases m env st with
  | ok d st' => exact Iff.rfl
  | exc x st' =>
    simp only [wp_exc]
    cases wordFor ts x.cls ws <;> simp
  | bad => exact Iff.rfl
end
/-! ### calls -/
theorem wp_fn {N : Nat} {m : Sm} {ds : List D} {st : Sto} {P : D → Sto → Prop} {E : Exn → Sto → Prop} : wpR (mFn N m ds st) P E ↔ wpO (m (ds.map some ++ List.replicate (N - ds.length) none) st) ⟨fun _ st => P .non st, P, fun _ _ => False, fun _ _ => False, E⟩ := by
  unfold mFn
  cases m (ds.map some ++ List.replicate (N - ds.length) none) st <;> exact Iff.rfl
theorem wp_eq {α : Type} {r : Res α} {a : α} {st : Sto} (h : wpR r (fun b s => b = a ∧ s = st) fun _ _ => False) : r = .ok a st := by
  cases r with
  | ok b s => obtain ⟨rfl, rfl⟩ := h; rfl
  | exc x s => exact h.elim
  | bad => exact h.elim
theorem wp_ex {α : Type} {r : Res α} {P : α → Sto → Prop} (h : wpR r P fun _ _ => False) : ∃ a st, r = .ok a st ∧ P a st := by
  cases r with
  | ok b s => exact ⟨b, s, rfl, h⟩
  | exc x s => exact h.elim
  | bad => exact h.elim
/-! ### comprehensions -/
/-- one without effects -/
theorem comp_pure {g : D → Env → Option Env} {t : M Bool} {el : M D} {env : Env} {st : Sto} (F : D → Option D) : ∀ {ds acc : List D}, (∀ d ∈ ds, ∃ env1, g d env = some env1 ∧ ((∃ y, t env1 st = .ok true st ∧ el env1 st = .ok y st ∧ F d = some y) ∨ (t env1 st = .ok false st ∧ F d = none))) →
    compM g t el ds acc env st = .ok (acc ++ ds.filterMap F) st
  | [], acc, _ => by unfold compM; simp
  | d :: ds, acc, h => by
    obtain ⟨env1, e, q⟩ := h d List.mem_cons_self
    have ih := fun acc => comp_pure F (acc := acc) fun d hd => h d (List.mem_cons_of_mem _ hd)
    unfold compM
    simp only [e]
    rcases q with ⟨y, q1, q2, q3⟩ | ⟨q1, q2⟩
    · simp [q1, q2, ih, List.filterMap_cons, q3]
    · simp [q1, ih, List.filterMap_cons, q2]
end Ev

set_option maxRecDepth 100000
set_option maxHeartbeats 4000000
/-! ops on contents, in closed form -/
namespace Ev
open PySem PySem.Spec PyProof.Rows L2
section
variable {i j : Int} {x y : Str} {st : Sto}
@[simp] theorem dAdd_i : dAdd (.int i) (.int j) = some (.int (i + j)) := rfl
@[simp] theorem dAddI_i : dAddI (.int i) (.int j) = some (.int (i + j)) := rfl
@[simp] theorem dSub_i : dSub (.int i) (.int j) = some (.int (i - j)) := rfl
theorem dAdd_s : dAdd (.str x) (.str y) = if x.length + y.length ≤ sizeLine then some (.str (x ++ y)) else none := rfl
theorem dMul_i (h : (-(2 ^ 64) < i ∧ i < 2 ^ 64) ∨ (-(2 ^ 64) < j ∧ j < 2 ^ 64)) : dMul (.int i) (.int j) = some (.int (i * j)) := if_pos h
theorem dDiv_i (h : 0 < j) (h2 : j < 1073741824) : dDiv (.int i) (.int j) = some (.int (i / j)) := if_pos ⟨h, h2⟩
theorem dMod_i (h : 0 < j) : dMod (.int i) (.int j) = some (.int (i % j)) := if_pos h
@[simp] theorem dLt_i : dOrd fLt (.int i) (.int j) = some (.bl (decide (i < j))) := rfl
@[simp] theorem dLe_i : dOrd fLe (.int i) (.int j) = some (.bl (decide (i ≤ j))) := rfl
@[simp] theorem dGt_i : dOrd fGt (.int i) (.int j) = some (.bl (decide (j < i))) := rfl
@[simp] theorem dGe_i : dOrd fGe (.int i) (.int j) = some (.bl (decide (j ≤ i))) := rfl
@[simp] theorem dOrd_i {op : CmpOp} : dOrd (ordOf op) (.int i) (.int j) = some (.bl (ordOf op i j)) := rfl
@[simp] theorem bq {b : Bool} : D.b? (.bl b) = some b := rfl
theorem eqv_i : D.eqv (.int i) (.int j) = decide (i = j) := by simp [D.eqv]; exact Bool.beq_eq_decide_eq _ _
theorem eqv_s : D.eqv (.str x) (.str y) = decide (x = y) := by simp [D.eqv]; exact Bool.beq_eq_decide_eq _ _
@[simp] theorem okN_i {n : Nat} : okN n (.int i) = true := by cases n <;> rfl
@[simp] theorem okN_s {n : Nat} : okN n (.str x) = true := by cases n <;> rfl
@[simp] theorem okN_n {n : Nat} : okN n .non = true := by cases n <;> rfl
@[simp] theorem okN_b {n : Nat} {b : Bool} : okN n (.bl b) = true := by cases n <;> rfl
@[simp] theorem dEq_i : dEq (.int i) (.int j) = some (.bl (decide (i = j))) := by simp [dEq, eqv_i]
@[simp] theorem dNe_i : dNe (.int i) (.int j) = some (.bl (!decide (i = j))) := by simp [dNe, eqv_i]
@[simp] theorem dEq_s : dEq (.str x) (.str y) = some (.bl (decide (x = y))) := by simp [dEq, eqv_s]
@[simp] theorem dNe_s : dNe (.str x) (.str y) = some (.bl (!decide (x = y))) := by simp [dNe, eqv_s]
@[simp] theorem dInt_i : dInt (.int i) st = some (.int i) := rfl
@[simp] theorem dInt_b {b : Bool} : dInt (.bl b) st = some (.int (if b then 1 else 0)) := rfl
@[simp] theorem dAbs_i : dAbs (.int i) st = some (.int (if i < 0 then -i else i)) := rfl
theorem dIx_loc {n : Nat} {xs : List D} (h : st[n]? = some (.ls xs)) : dIx (.loc n) (.int i) st = L2.atI xs i := by simp [dIx, h]
@[simp] theorem dIx_lst {xs : List D} : dIx (.lst xs) (.int i) st = L2.atI xs i := rfl
@[simp] theorem dIx_tup {xs : List D} : dIx (.tup xs) (.int i) st = L2.atI xs i := rfl
@[simp] theorem own_i : D.isOwn (.int i) = false := rfl
@[simp] theorem own_s : D.isOwn (.str x) = false := rfl
@[simp] theorem own_b {b : Bool} : D.isOwn (.bl b) = false := rfl
@[simp] theorem own_n : D.isOwn .non = false := rfl
@[simp] theorem own_t {ds : List D} : D.isOwn (.tup ds) = false := rfl
@[simp] theorem own_l {ds : List D} : D.isOwn (.lst ds) = false := rfl
@[simp] theorem own_d {c : Dc} : D.isOwn (.dct c) = false := rfl
@[simp] theorem own_o {n : Nat} : D.isOwn (.loc n) = false := rfl
@[simp] theorem own_w {ds : List D} : D.isOwn (.own ds) = true := rfl
@[simp] theorem own_wd {c : Dc} : D.isOwn (.ownd c) = true := rfl
@[simp] theorem cur_i : D.cur (.int i) = .int i := rfl
@[simp] theorem cur_s : D.cur (.str x) = .str x := rfl
@[simp] theorem cur_w {ds : List D} : D.cur (.own ds) = .lst ds := rfl
@[simp] theorem cur_wd {c : Dc} : D.cur (.ownd c) = .dct c := rfl
@[simp] theorem cur_l {ds : List D} : D.cur (.lst ds) = .lst ds := rfl
@[simp] theorem cur_d {c : Dc} : D.cur (.dct c) = .dct c := rfl
@[simp] theorem at0 {α : Type} {a : α} {l : List α} : L2.atI (a :: l) 0 = some a := by simp [L2.atI, ixN]
@[simp] theorem at1 {α : Type} {a b : α} {l : List α} : L2.atI (a :: b :: l) 1 = some b := by
  have : (1 : Int) < (l.length : Int) + 1 + 1 := by omega
  simp [L2.atI, ixN, this]
@[simp] theorem at2 {α : Type} {a b c : α} {l : List α} : L2.atI (a :: b :: c :: l) 2 = some c := by
  have : (2 : Int) < (l.length : Int) + 1 + 1 + 1 := by omega
  simp [L2.atI, ixN, this]
@[simp] theorem ix30 : ixN 3 0 = some 0 := by decide
@[simp] theorem ix31 : ixN 3 1 = some 1 := by decide
@[simp] theorem ix32 : ixN 3 2 = some 2 := by decide
theorem contL_obj {n : Nat} {env : Env} {xs : List D} (h : st[n]? = some (.ls xs)) : contL (.obj n) env st = some xs := by simp [contL, h]
@[simp] theorem setL_obj {n : Nat} {env : Env} {xs : List D} : setL (.obj n) xs env st = (env, st.set n (.ls xs)) := rfl
end
end Ev

set_option maxRecDepth 100000
set_option maxHeartbeats 4000000
/-! dicts by keys that are texts or ints, as plain lists -/
namespace Ev
open PySem PySem.Spec PyProof.Rows L2
section
variable {κ α : Type} [DecidableEq κ]
/-- the first of a key -/
def lk (l : List (κ × α)) (k : κ) : Option α := (l.find? fun p => decide (p.1 = k)).map (·.2)
/-- written -/
def pt (l : List (κ × α)) (k : κ) (a : α) : List (κ × α) := if (l.any fun p => decide (p.1 = k)) = true then l.map (fun p => if p.1 = k then (p.1, a) else p) else l ++ [(k, a)]
/-- taken out -/
def dr (l : List (κ × α)) (k : κ) : List (κ × α) := l.filter fun p => !decide (p.1 = k)
/-- a key's content -/
class KeyD (κ : Type) where
  d : κ → D
  eqv : ∀ a b : κ, D.eqv (d a) (d b) = true ↔ a = b
  ok : ∀ a, keyOk false (d a) = true
instance : KeyD Str := ⟨D.str, fun a b => by rw [eqv_s]; simp, fun a => rfl⟩
instance : KeyD Int := ⟨D.int, fun a b => by rw [eqv_i]; simp, fun a => rfl⟩
variable [KeyD κ] (f : α → D)
def tb (l : List (κ × α)) : List (D × D) := l.map fun p => (KeyD.d p.1, f p.2)
@[simp] theorem tb_nil : tb f ([] : List (κ × α)) = [] := rfl
@[simp] theorem tb_len (l : List (κ × α)) : (tb f l).length = l.length := by simp [tb]
theorem keq (a b : κ) : D.eqv (KeyD.d a) (KeyD.d b) = decide (a = b) := by
  by_cases h : a = b
  · rw [(KeyD.eqv a b).mpr h]; simp [h]
  · have : D.eqv (KeyD.d a) (KeyD.d b) ≠ true := fun z => h ((KeyD.eqv a b).mp z)
    simp [h, this]
@[simp] theorem tb_look (l : List (κ × α)) (k : κ) : dLook (tb f l) (KeyD.d k) = (lk l k).map f := by
  unfold dLook tb lk
  rw [List.find?_map]
  simp only [Function.comp_def, keq]
  cases l.find? fun p => decide (p.1 = k) <;> rfl
@[simp] theorem tb_put (l : List (κ × α)) (k : κ) (a : α) : dPut (tb f l) (KeyD.d k) (f a) = tb f (pt l k a) := by
  unfold dPut pt tb
  rw [List.any_map]
  simp only [Function.comp_def, keq]
  split
  · rw [List.map_map, List.map_map]
    apply List.map_congr_left
    intro p _
    by_cases h : p.1 = k <;> simp [h, keq]
  · simp
@[simp] theorem tb_drop (l : List (κ × α)) (k : κ) : dDrop (tb f l) (KeyD.d k) = tb f (dr l k) := by
  unfold dDrop dr tb
  rw [List.filter_map]
  simp only [Function.comp_def, keq]
theorem in_dct (l : List (κ × α)) (k : κ) : dIn (KeyD.d k) (.dct (false, tb f l)) = some (.bl (lk l k).isSome) := by
  simp [dIn, isIn, KeyD.ok]
theorem notIn_dct (l : List (κ × α)) (k : κ) : dNotIn (KeyD.d k) (.dct (false, tb f l)) = some (.bl !(lk l k).isSome) := by
  simp [dNotIn, isIn, KeyD.ok]
theorem item_dct (l : List (κ × α)) (k : κ) : dItem (.dct (false, tb f l)) (KeyD.d k) = (lk l k).map f := by
  simp [dItem, KeyD.ok]
end
section
variable {α : Type} (f : α → D)
@[simp] theorem in_s (l : List (Str × α)) (k : Str) : dIn (.str k) (.dct (false, tb f l)) = some (.bl (lk l k).isSome) := in_dct f l k
@[simp] theorem notIn_s (l : List (Str × α)) (k : Str) : dNotIn (.str k) (.dct (false, tb f l)) = some (.bl !(lk l k).isSome) := notIn_dct f l k
@[simp] theorem item_s (l : List (Str × α)) (k : Str) : dItem (.dct (false, tb f l)) (.str k) = (lk l k).map f := item_dct f l k
@[simp] theorem look_s (l : List (Str × α)) (k : Str) : dLook (tb f l) (.str k) = (lk l k).map f := tb_look f l k
@[simp] theorem put_s (l : List (Str × α)) (k : Str) (a : α) : dPut (tb f l) (.str k) (f a) = tb f (pt l k a) := tb_put f l k a
@[simp] theorem drop_s (l : List (Str × α)) (k : Str) : dDrop (tb f l) (.str k) = tb f (dr l k) := tb_drop f l k
@[simp] theorem in_n (l : List (Int × α)) (k : Int) : dIn (.int k) (.dct (false, tb f l)) = some (.bl (lk l k).isSome) := in_dct f l k
@[simp] theorem notIn_n (l : List (Int × α)) (k : Int) : dNotIn (.int k) (.dct (false, tb f l)) = some (.bl !(lk l k).isSome) := notIn_dct f l k
@[simp] theorem item_n (l : List (Int × α)) (k : Int) : dItem (.dct (false, tb f l)) (.int k) = (lk l k).map f := item_dct f l k
@[simp] theorem look_n (l : List (Int × α)) (k : Int) : dLook (tb f l) (.int k) = (lk l k).map f := tb_look f l k
@[simp] theorem put_n (l : List (Int × α)) (k : Int) (a : α) : dPut (tb f l) (.int k) (f a) = tb f (pt l k a) := tb_put f l k a
@[simp] theorem drop_n (l : List (Int × α)) (k : Int) : dDrop (tb f l) (.int k) = tb f (dr l k) := tb_drop f l k
@[simp] theorem keyOk_s {k : Str} : keyOk false (.str k) = true := rfl
@[simp] theorem keyOk_n {k : Int} : keyOk false (.int k) = true := rfl
end
theorem objAt_loc {n : Nat} {st : Sto} {c : Str} {fs : List (Str × D)} (h : st[n]? = some (.ins c fs)) : objAt (.loc n) st c = some (n, fs) := by simp [objAt, h]
theorem contD_fld {n : Nat} {st : Sto} {c f : Str} {fs : List (Str × D)} {d : Dc} {env : Env} (h : st[n]? = some (.ins c fs)) (e : fs.lookup f = some (.ownd d)) : contD (.fld n f) env st = some d := by simp [contD, h, e]
theorem setDc_fld {n : Nat} {st : Sto} {c f : Str} {fs : List (Str × D)} {d : Dc} {env : Env} (h : st[n]? = some (.ins c fs)) : setDc (.fld n f) d env st = (env, st.set n (.ins c (putD f (.ownd d) fs))) := by simp [setDc, h]
theorem contL_fld {n : Nat} {st : Sto} {c f : Str} {fs : List (Str × D)} {d : List D} {env : Env} (h : st[n]? = some (.ins c fs)) (e : fs.lookup f = some (.own d)) : contL (.fld n f) env st = some d := by simp [contL, h, e]
theorem setL_fld {n : Nat} {st : Sto} {c f : Str} {fs : List (Str × D)} {d : List D} {env : Env} (h : st[n]? = some (.ins c fs)) : setL (.fld n f) d env st = (env, st.set n (.ins c (putD f (.own d) fs))) := by simp [setL, h]
@[simp] theorem fMin2_i {i j : Int} {st : Sto} : fMin2 [.int i, .int j] st = .ok (.int (if j < i then j else i)) st := rfl
@[simp] theorem fMax2_i {i j : Int} {st : Sto} : fMax2 [.int i, .int j] st = .ok (.int (if j > i then j else i)) st := rfl
end Ev

set_option maxRecDepth 100000
set_option maxHeartbeats 4000000
/-! sorting ints; least and greatest; loops over ranges -/
namespace Ev
open PySem PySem.Spec PyProof.Rows L2
theorem encD_i (i : Int) : encD (.int i) = .int i := by rw [encD]
theorem dataLe_i (a b : Int) : leI a b = PySem.W.dataLe false encD (.int a) (.int b) := by
  rw [PySem.W.dataLe_eq]
  simp only [encD_i, cond_false, PySem.W.dataLt_int, PySem.W.not_lt_int]
  rfl
theorem sortD_ints (zs : List Int) : sortD (zs.map .int) = (zs.mergeSort leI).map .int := by
  unfold sortD
  exact (List.map_mergeSort (f := D.int) (l := zs) fun a _ b _ => dataLe_i a b).symm
theorem sortOk_ints (zs : List Int) (h : zs.length ≤ 1000000) : sortOk (zs.map .int) = true := by
  have h1 : ∀ zs : List Int, isDatas (zs.map .int) = true := by
    intro zs
    induction zs with
    | nil => rfl
    | cons a t ih => simp [isDatas, isData, ih]
  unfold sortOk
  rw [h1]
  simp only [List.all_map, Function.comp_def, encD_i, PySem.W.alike, PyData.depth, Bool.true_and, List.length_map, Bool.and_eq_true, Bool.or_eq_true, List.all_eq_true, decide_eq_true_eq]
  exact ⟨⟨⟨fun _ _ _ _ => trivial, .inr fun _ _ => trivial⟩, fun _ _ => by omega⟩, h⟩
theorem fSorted_ints {zs : List Int} {st : Sto} (h : zs.length ≤ 1000000) : fSorted (.lst (zs.map .int)) st = .ok ((zs.mergeSort leI).map .int) st := by
  unfold fSorted
  simp only [dL, sortOk_ints zs h, if_true, sortD_ints]
theorem leI_sorted (zs : List Int) : (zs.mergeSort leI).Pairwise (· ≤ ·) := by
  have h1 : (zs.mergeSort leI).Pairwise (fun a b => leI a b = true) := List.pairwise_mergeSort (fun a b c h1 h2 => by simp [leI] at *; omega) (fun a b => by simp [leI]; omega) zs
  exact h1.imp fun h => by simpa [leI] using h
@[simp] theorem dL_ints {zs : List Int} {st : Sto} : dL (.lst (zs.map .int)) st = some (zs.map .int) := rfl
theorem dMin_ints {zs : List Int} {st : Sto} : dMin (.lst (zs.map .int)) st = (iMin zs).map .int := by simp [dMin, dInts_map]
theorem dMax_ints {zs : List Int} {st : Sto} : dMax (.lst (zs.map .int)) st = (iMax zs).map .int := by simp [dMax, dInts_map]
theorem dSum_ints {zs : List Int} {st : Sto} : dSum (.lst (zs.map .int)) st = some (.int zs.sum) := by simp [dSum, dInts_map]
/-- lists of ints compared -/
theorem eqvL_ints : ∀ xs ys : List Int, eqvL (xs.map .int) (ys.map .int) = decide (xs = ys)
  | [], [] => by simp [eqvL]
  | [], _ :: _ => by simp [eqvL]
  | _ :: _, [] => by simp [eqvL]
  | x :: xs, y :: ys => by
    rw [List.map_cons, List.map_cons, eqvL, eqv_i, eqvL_ints xs ys]
    by_cases h : x = y <;> by_cases h2 : xs = ys <;> simp [h, h2]
theorem okN_ints {n : Nat} (zs : List Int) : okN (n + 1) (.lst (zs.map .int)) = true := by simp [okN]
theorem okN_tints {n : Nat} (zs : List Int) : okN (n + 1) (.tup (zs.map .int)) = true := by simp [okN]
theorem dEq_lints {xs ys : List Int} : dEq (.lst (xs.map .int)) (.lst (ys.map .int)) = some (.bl (decide (xs = ys))) := by simp [dEq, okN_ints, D.eqv, eqvL_ints]
theorem dNe_lints {xs ys : List Int} : dNe (.lst (xs.map .int)) (.lst (ys.map .int)) = some (.bl (!decide (xs = ys))) := by simp [dNe, okN_ints, D.eqv, eqvL_ints]
theorem dNe_tints {xs ys : List Int} : dNe (.tup (xs.map .int)) (.tup (ys.map .int)) = some (.bl (!decide (xs = ys))) := by simp [dNe, okN_tints, D.eqv, eqvL_ints]
@[simp] theorem dLen_l {xs : List D} {st : Sto} : dLen (.lst xs) st = some (.int xs.length) := rfl
@[simp] theorem dLen_t {xs : List D} {st : Sto} : dLen (.tup xs) st = some (.int xs.length) := rfl
theorem dLen_s {z : Str} {st : Sto} (h : z.length ≤ sizeLine) : dLen (.str z) st = some (.int z.length) := by simp [dLen, h]
@[simp] theorem dS_l {xs : List D} {st : Sto} : dS (.lst xs) st = some xs := rfl
@[simp] theorem dS_t {xs : List D} {st : Sto} : dS (.tup xs) st = some xs := rfl
@[simp] theorem dL_l {xs : List D} {st : Sto} : dL (.lst xs) st = some xs := rfl
@[simp] theorem items_l {xs : List D} : D.items (.lst xs) = some xs := rfl
@[simp] theorem items_t {xs : List D} : D.items (.tup xs) = some xs := rfl
/-- a comprehension without effects, over a list that stands for zs -/
theorem comp_list {α : Type} {g : D → Ev.Env → Option Ev.Env} {t : M Bool} {el : M D} {env : Ev.Env} {st : Sto} (enc : α → D) (p : α → Bool) (f : α → D) : ∀ {zs : List α} {acc : List D}, (∀ i ∈ zs, ∃ env1, g (enc i) env = some env1 ∧ t env1 st = .ok (p i) st ∧ (p i = true → el env1 st = .ok (f i) st)) →
    compM g t el (zs.map enc) acc env st = .ok (acc ++ (zs.filter p).map f) st
  | [], acc, _ => by unfold compM; simp
  | i :: zs, acc, h => by
    obtain ⟨env1, e, q1, q2⟩ := h i List.mem_cons_self
    have ih := fun acc => comp_list enc p f (acc := acc) fun d hd => h d (List.mem_cons_of_mem _ hd)
    rw [List.map_cons]
    unfold compM
    simp only [e, q1]
    cases hp : p i with
    | true => simp [q2 hp, ih, List.filter_cons, hp]
    | false => simp [ih, List.filter_cons, hp]
theorem wp_compL {α : Type} {it : M (List D)} {vs : List Nat} {g : D → Ev.Env → Option Ev.Env} {t : M Bool} {el : M D} {env : Ev.Env} {st : Sto} {P : List D → Sto → Prop} {E : Exn → Sto → Prop} (zs : List α) (enc : α → D) (p : α → Bool) (f : α → D)
    (hi : wpR (it env st) (fun ds st' => ds = zs.map enc ∧ zs.length ≤ 1000000 ∧ (∀ i ∈ zs, ∃ env1, g (enc i) (wipeE env vs) = some env1 ∧ t env1 st' = .ok (p i) st' ∧ (p i = true → el env1 st' = .ok (f i) st')) ∧ P ((zs.filter p).map f) st') E) :
    wpR (mComp it vs g t el env st) P E := by
  unfold mComp
  rw [wp_bind]
  refine hi.imp (fun ds st' ⟨q0, q1, q2, q3⟩ => ?_) (fun _ _ z => z)
  subst q0
  rw [if_pos (by simpa using q1), comp_list enc p f q2]
  simpa using q3
theorem iMin_some {z : Int} {r : List Int} : ∃ m, iMin (z :: r) = some m ∧ m ∈ z :: r ∧ ∀ y ∈ z :: r, m ≤ y := ⟨_, rfl, foldMin_spec r z⟩
theorem iMax_some {z : Int} {r : List Int} : ∃ m, iMax (z :: r) = some m ∧ m ∈ z :: r ∧ ∀ y ∈ z :: r, y ≤ m := ⟨_, rfl, foldMax_spec r z⟩
end Ev

set_option maxRecDepth 100000
set_option maxHeartbeats 4000000
/-! dicts made of pairs -/
namespace Ev
open PySem PySem.Spec PyProof.Rows L2
section
variable {κ α : Type} [DecidableEq κ]
def keys (l : List (κ × α)) : List κ := l.map (·.1)
/-- pairs put in one after another -/
def mg (l : List (κ × α)) : List (κ × α) := l.foldl (fun acc p => pt acc p.1 p.2) []
theorem lk_none {l : List (κ × α)} {k : κ} : lk l k = none ↔ k ∉ keys l := by
  unfold lk keys
  rw [Option.map_eq_none_iff, List.find?_eq_none]
  constructor
  · intro h hk
    obtain ⟨p, hp, rfl⟩ := List.mem_map.mp hk
    exact h p hp (by simp)
  · intro h p hp hk
    exact h (List.mem_map.mpr ⟨p, hp, of_decide_eq_true hk⟩)
theorem lk_some {l : List (κ × α)} {k : κ} : (lk l k).isSome = true ↔ k ∈ keys l := by
  rw [Option.isSome_iff_ne_none, ne_eq, lk_none, Classical.not_not]
theorem lk_mem {l : List (κ × α)} {k : κ} {a : α} (h : lk l k = some a) : (k, a) ∈ l := by
  unfold lk at h
  obtain ⟨p, hp, e⟩ := Option.map_eq_some_iff.mp h
  have h1 := List.find?_some hp
  have h2 := List.mem_of_find?_eq_some hp
  have : p.1 = k := of_decide_eq_true h1
  rw [← this, ← e]
  exact h2
theorem any_key {l : List (κ × α)} {k : κ} : (l.any fun p => decide (p.1 = k)) = true ↔ k ∈ keys l := by
  rw [List.any_eq_true]
  unfold keys
  rw [List.mem_map]
  constructor
  · rintro ⟨p, hp, e⟩; exact ⟨p, hp, of_decide_eq_true e⟩
  · rintro ⟨p, hp, e⟩; exact ⟨p, hp, decide_eq_true e⟩
theorem pt_new {l : List (κ × α)} {k : κ} {a : α} (h : k ∉ keys l) : pt l k a = l ++ [(k, a)] := by
  unfold pt
  rw [if_neg (fun z => h (any_key.mp z))]
theorem keys_pt {l : List (κ × α)} {k : κ} {a : α} : keys (pt l k a) = if k ∈ keys l then keys l else keys l ++ [k] := by
  unfold pt
  by_cases h : k ∈ keys l
  · rw [if_pos (any_key.mpr h), if_pos h]
    unfold keys
    rw [List.map_map]
    apply List.map_congr_left
    intro p _
    by_cases e : p.1 = k <;> simp [e]
  · rw [if_neg (fun z => h (any_key.mp z)), if_neg h]
    simp [keys]
theorem nodup_pt {l : List (κ × α)} {k : κ} {a : α} (h : (keys l).Nodup) : (keys (pt l k a)).Nodup := by
  rw [keys_pt]
  split
  · exact h
  · rw [List.nodup_append]
    exact ⟨h, by simp, fun x hx y hy e => by
      have : y = k := by simpa using hy
      subst this; subst e; contradiction⟩
theorem mg_fold (r : List (κ × α)) : ∀ l : List (κ × α), (keys l ++ keys r).Nodup → r.foldl (fun acc p => pt acc p.1 p.2) l = l ++ r := by
  induction r with
  | nil => intro l _; simp
  | cons p r ih =>
    intro l h
    have hp : p.1 ∉ keys l := fun z => by
      rw [List.nodup_append] at h
      exact h.2.2 p.1 z p.1 (by simp [keys]) rfl
    rw [List.foldl_cons, pt_new hp, ih]
    · simp
    · have : keys (l ++ [(p.1, p.2)]) ++ keys r = keys l ++ keys (p :: r) := by simp [keys]
      rw [this]; exact h
theorem mg_id {l : List (κ × α)} (h : (keys l).Nodup) : mg l = l := by
  have := mg_fold l [] (by simpa [keys] using h)
  simpa [mg] using this
theorem nodup_fold (r : List (κ × α)) : ∀ l : List (κ × α), (keys l).Nodup → (keys (r.foldl (fun acc p => pt acc p.1 p.2) l)).Nodup := by
  induction r with
  | nil => intro l h; exact h
  | cons p r ih => intro l h; rw [List.foldl_cons]; exact ih _ (nodup_pt h)
theorem nodup_mg (l : List (κ × α)) : (keys (mg l)).Nodup := nodup_fold l [] (by simp [keys])
theorem keys_fold (r : List (κ × α)) : ∀ l : List (κ × α), ∀ k, k ∈ keys (r.foldl (fun acc p => pt acc p.1 p.2) l) ↔ k ∈ keys l ∨ k ∈ keys r := by
  induction r with
  | nil => intro l k; simp [keys]
  | cons p r ih =>
    intro l k
    rw [List.foldl_cons, ih, keys_pt]
    have : k ∈ keys (p :: r) ↔ k = p.1 ∨ k ∈ keys r := by simp [keys]
    rw [this]
    split
    · rename_i hp
      constructor
      · rintro (h | h)
        · exact .inl h
        · exact .inr (.inr h)
      · rintro (h | h | h)
        · exact .inl h
        · exact .inl (h ▸ hp)
        · exact .inr h
    · simp [or_assoc]
theorem keys_mg (l : List (κ × α)) (k : κ) : k ∈ keys (mg l) ↔ k ∈ keys l := by
  have := keys_fold l [] k
  simpa [mg, keys] using this
theorem len_pt {l : List (κ × α)} {k : κ} {a : α} : (pt l k a).length ≤ l.length + 1 := by
  have := congrArg List.length (keys_pt (l := l) (k := k) (a := a))
  have e : (keys (pt l k a)).length = (pt l k a).length := by simp [keys]
  rw [← e, this]
  by_cases h : k ∈ keys l
  · rw [if_pos h]; simp [keys]
  · rw [if_neg h]; simp [keys]
theorem len_fold (r : List (κ × α)) : ∀ l : List (κ × α), (r.foldl (fun acc p => pt acc p.1 p.2) l).length ≤ l.length + r.length := by
  induction r with
  | nil => intro l; simp
  | cons p r ih =>
    intro l
    rw [List.foldl_cons]
    have := ih (pt l p.1 p.2)
    have := len_pt (l := l) (k := p.1) (a := p.2)
    simp
    omega
theorem len_mg (l : List (κ × α)) : (mg l).length ≤ l.length := by
  have := len_fold l []
  simpa [mg] using this
theorem nodup_dr {l : List (κ × α)} {k : κ} (h : (keys l).Nodup) : (keys (dr l k)).Nodup := by
  unfold keys dr at *
  exact List.Nodup.sublist (List.Sublist.map _ List.filter_sublist) h
theorem lk_cons {l : List (κ × α)} {k q : κ} {a : α} : lk ((q, a) :: l) k = if q = k then some a else lk l k := by
  unfold lk
  by_cases h : q = k <;> simp [h]
variable [KeyD κ] (f : α → D)
theorem dKey_d (k : κ) : ∃ q, dKey? (KeyD.d k) = some q := by
  have := KeyD.ok k
  unfold keyOk at this
  rw [if_neg Bool.false_ne_true] at this
  exact Option.isSome_iff_exists.mp this
theorem dPairs_tb : ∀ l : List (κ × α), dPairs (l.map fun p => .tup [KeyD.d p.1, f p.2]) = some (tb f l)
  | [] => rfl
  | p :: r => by
    obtain ⟨q, e⟩ := dKey_d p.1
    rw [List.map_cons]
    unfold dPairs
    simp only [e, dPairs_tb r]
    rfl
theorem dMerge_tb (l : List (κ × α)) : dMerge (tb f l) = tb f (mg l) := by
  have key : ∀ (r l : List (κ × α)), (tb f r).foldl (fun acc kv => dPut acc kv.1 kv.2) (tb f l) = tb f (r.foldl (fun acc p => pt acc p.1 p.2) l) := by
    intro r
    induction r with
    | nil => intro l; rfl
    | cons p r ih =>
      intro l
      show (tb f r).foldl _ (dPut (tb f l) (KeyD.d p.1) (f p.2)) = _
      rw [tb_put, ih]; rfl
  exact key l []
theorem fDictP_tb {st : Sto} (l : List (κ × α)) : fDictP (.lst (l.map fun p => .tup [KeyD.d p.1, f p.2])) st = .ok (false, tb f (mg l)) st := by
  unfold fDictP
  simp only [dL_l, Option.bind_some, dPairs_tb, dMerge_tb]
end
section
variable {α : Type}
theorem keysInt_tbI (f : α → D) : ∀ l : List (Int × α), keysInt (tb f l) = some (keys l)
  | [] => rfl
  | p :: r => by
    show (keysInt (tb f r)).map _ = _
    rw [keysInt_tbI f r]; rfl
theorem sortedD_tbI {st : Sto} (f : α → D) (l : List (Int × α)) (h : l.length < 64) : fSortedD (.dct (false, tb f l)) st = .ok (((keys l).mergeSort leI).map .int) st := by
  unfold fSortedD
  have h' : (tb f l).length < 64 := by rw [tb_len]; exact h
  simp only [h', if_true, keysInt_tbI]
theorem mem_sortI {l : List Int} {k : Int} : k ∈ l.mergeSort leI ↔ k ∈ l := List.mem_mergeSort
/-- a list of different ints, sorted, is what a rising list has of it -/
theorem sort_filter {l r : List Int} (hl : l.Nodup) (hr : r.Pairwise (· < ·)) (h : ∀ k ∈ l, k ∈ r) : l.mergeSort leI = r.filter fun k => decide (k ∈ l) := by
  refine (sortI_is (ys := r.filter fun k => decide (k ∈ l)) ?_ ?_).symm
  · rw [List.perm_ext_iff_of_nodup ((hr.imp fun h => Int.ne_of_lt h).filter _) hl]
    intro k
    rw [List.mem_filter]
    constructor
    · intro z; exact of_decide_eq_true z.2
    · intro z; exact ⟨h k z, decide_eq_true z⟩
  · exact (hr.imp fun h => Int.le_of_lt h).filter _
end
end Ev

set_option maxRecDepth 100000
set_option maxHeartbeats 4000000
/-! more of dicts as lists; ranges -/
namespace Ev
open PySem PySem.Spec PyProof.Rows L2
/-- lo, lo + 1, ..: so many -/
def rng (lo : Int) (n : Nat) : List Int := (List.range n).map fun i : Nat => lo + i
theorem rangeL_rng (lo : Int) (n : Nat) : rangeL lo n = (rng lo n).map D.int := by unfold rangeL rng; rw [List.map_map]; rfl
theorem mem_rng {lo : Int} {n : Nat} {k : Int} : k ∈ rng lo n ↔ lo ≤ k ∧ k < lo + n := by
  unfold rng
  rw [List.mem_map]
  constructor
  · rintro ⟨i, hi, rfl⟩
    rw [List.mem_range] at hi
    omega
  · intro h
    exact ⟨(k - lo).toNat, by rw [List.mem_range]; omega, by omega⟩
theorem rng_lt (lo : Int) (n : Nat) : (rng lo n).Pairwise (· < ·) := by
  unfold rng
  rw [List.pairwise_map]
  exact List.pairwise_lt_range.imp fun h => by omega
theorem rng_nodup (lo : Int) (n : Nat) : (rng lo n).Nodup := (rng_lt lo n).imp fun h => Int.ne_of_lt h
theorem rng_shift (a lo : Int) (n : Nat) : (rng lo n).map (a + ·) = rng (a + lo) n := by
  unfold rng
  rw [List.map_map]
  apply List.map_congr_left
  intro i _
  show a + (lo + i) = a + lo + i
  omega
@[simp] theorem rng_len (lo : Int) (n : Nat) : (rng lo n).length = n := by simp [rng]
theorem sort_rng (lo : Int) (n : Nat) : (rng lo n).mergeSort leI = rng lo n := (sortI_is (List.Perm.refl _) ((rng_lt lo n).imp fun h => Int.le_of_lt h)).symm
theorem dRange1_i {j : Int} (h : -1000000 ≤ j ∧ j ≤ 1000000) : dRange1 [.int j] = some ((rng 0 j.toNat).map D.int) := by
  unfold dRange1
  simp only
  rw [if_pos ⟨h.2, h.1⟩, rangeL_rng]
theorem dRange2_i {i j : Int} (hi : -1000000 ≤ i ∧ i ≤ 1000000) (h : -1000000 ≤ j ∧ j ≤ 1000000) : dRange2 [.int i, .int j] = some ((rng i (j - i).toNat).map D.int) := by
  unfold dRange2
  simp only
  rw [if_pos ⟨h.2, hi.1, hi.2, h.1⟩, rangeL_rng]
section
variable {κ α : Type} [DecidableEq κ]
theorem lk_map {ks : List κ} {g : κ → α} {k : κ} : lk (ks.map fun k => (k, g k)) k = if k ∈ ks then some (g k) else none := by
  induction ks with
  | nil => simp [lk]
  | cons q r ih =>
    rw [List.map_cons, lk_cons, ih]
    by_cases h : q = k
    · subst h; simp
    · by_cases h2 : k ∈ r <;> simp [h, h2, Ne.symm h]
theorem keys_map {ks : List κ} {g : κ → α} : keys (ks.map fun k => (k, g k)) = ks := by
  unfold keys
  rw [List.map_map]
  exact List.map_id ks
theorem lk_append {l r : List (κ × α)} {k : κ} : lk (l ++ r) k = match lk l k with | some a => some a | none => lk r k := by
  induction l with
  | nil => rfl
  | cons p l ih =>
    obtain ⟨q, a⟩ := p
    rw [List.cons_append, lk_cons, lk_cons, ih]
    by_cases h : q = k <;> simp [h]
theorem lk_upd {l : List (κ × α)} {k q : κ} {a : α} : lk (l.map fun p => if p.1 = k then (p.1, a) else p) q = if q = k then (lk l q).map (fun _ => a) else lk l q := by
  induction l with
  | nil => simp [lk]
  | cons p l ih =>
    obtain ⟨c, b⟩ := p
    rw [List.map_cons]
    by_cases h : c = k
    · subst h
      simp only [if_true, lk_cons, ih]
      by_cases h2 : c = q
      · subst h2; simp
      · have : q ≠ c := Ne.symm h2
        simp [h2, this]
    · simp only [h, if_false, lk_cons, ih]
      by_cases h2 : c = q
      · subst h2; simp [h]
      · by_cases h3 : q = k
        · subst h3; simp [h2]
        · simp [h2, h3]
theorem lk_pt {l : List (κ × α)} {k q : κ} {a : α} : lk (pt l k a) q = if q = k then some a else lk l q := by
  by_cases h : k ∈ keys l
  · unfold pt
    rw [if_pos (any_key.mpr h), lk_upd]
    by_cases e : q = k
    · subst e
      obtain ⟨v, hv⟩ := Option.isSome_iff_exists.mp (lk_some.mpr h)
      simp [hv]
    · simp [e]
  · rw [pt_new h, lk_append]
    by_cases e : q = k
    · subst e
      rw [lk_none.mpr h]
      simp [lk]
    · cases lk l q with
      | some v => simp [e]
      | none => simp [lk, e, Ne.symm e]
theorem lk_dr {l : List (κ × α)} {k q : κ} : lk (dr l k) q = if q = k then none else lk l q := by
  induction l with
  | nil => simp [dr, lk]
  | cons p l ih =>
    obtain ⟨c, b⟩ := p
    unfold dr at *
    by_cases h : c = k
    · subst h
      simp only [List.filter_cons, decide_true, Bool.not_true, Bool.false_eq_true, if_false, ih, lk_cons]
      by_cases h2 : q = c
      · simp [h2]
      · simp [h2, Ne.symm h2]
    · simp only [List.filter_cons, h, decide_false, Bool.not_false, if_true, lk_cons, ih]
      by_cases h2 : c = q
      · subst h2; simp [h]
      · simp [h2]
theorem vals_sum {l : List (κ × Int)} {k : κ} {v a : Int} (h : (keys l).Nodup) (e : lk l k = some v) : ((pt l k a).map (·.2)).sum = (l.map (·.2)).sum - v + a := by
  have hk : k ∈ keys l := lk_some.mp (by rw [e]; rfl)
  unfold pt
  rw [if_pos (any_key.mpr hk), List.map_map]
  clear hk
  induction l with
  | nil => simp [lk] at e
  | cons p l ih =>
    obtain ⟨c, b⟩ := p
    have hn := List.nodup_cons.mp h
    rw [lk_cons] at e
    by_cases hc : c = k
    · subst hc
      rw [if_pos rfl] at e
      cases e
      have : l.map ((fun p : κ × Int => p.2) ∘ fun p => if p.1 = c then (p.1, a) else p) = l.map (·.2) := by
        apply List.map_congr_left
        intro p hp
        have : p.1 ≠ c := fun z => hn.1 (z ▸ List.mem_map.mpr ⟨p, hp, rfl⟩)
        simp [this]
      simp only [List.map_cons, List.sum_cons, this, Function.comp_apply, if_true]
      omega
    · rw [if_neg hc] at e
      have := ih hn.2 e
      simp only [List.map_cons, List.sum_cons, this, Function.comp_apply, hc, if_false]
      omega
theorem valsInt_tb [KeyD κ] (l : List (κ × Int)) : valsInt (tb D.int l) = some (l.map (·.2)) := by
  unfold valsInt tb
  rw [List.map_map]
  have : l.map ((fun x : D × D => x.2) ∘ fun p : κ × Int => (KeyD.d p.1, D.int p.2)) = (l.map (·.2)).map D.int := by rw [List.map_map]; rfl
  rw [this, dInts_map]
theorem dSumV_tb [KeyD κ] {st : Sto} (l : List (κ × Int)) : dSumV (.dct (false, tb D.int l)) st = some (.int (l.map (·.2)).sum) := by
  simp [dSumV, valsInt_tb]
end
end Ev

set_option maxRecDepth 100000
set_option maxHeartbeats 4000000
/-! a thing checked, told -/
namespace Ev
open PySem PySem.Spec PyProof.Rows L2
section
variable {env : Ev.Env} {st : Sto} {Q : Wi} {m due : M D} {v : D} {s t : Sm}
theorem dNe_self (hv : okN 60 v = true) : dNe v v = some (.bl false) := by simp [dNe, hv, eqv_refl 60 v hv]
/-- if m != due: .., where they are the same -/
theorem chk (hm : m env st = .ok v st) (hd : due env st = .ok v st) (hv : okN 60 v = true) (k : wpO (t env st) Q) : wpO (sIf (mTest (mBin m due (pure2 dNe))) s t env st) Q := by
  rw [wo_if]
  have e : mTest (mBin m due (pure2 dNe)) env st = .ok false st := by
    simp [mTest, mBin, hm, hd, pure2, dNe_self hv, Res.bind, Res.of]
  rw [e]
  exact ⟨fun z => (by cases z), fun _ => k⟩
theorem chkP (k : Q.nx env st) (hm : m env st = .ok v st) (hd : due env st = .ok v st) (hv : okN 60 v = true) : wpO (sIf (mTest (mBin m due (pure2 dNe))) s sPass env st) Q := chk hm hd hv k
theorem told_eq {ts : Str → Str → Bool} {ws : List (Str × Str)} (h : wpR (m env st) (fun d s => d = v ∧ s = st) (fun x s => ∃ r, wordFor ts x.cls ws = some r ∧ D.str r = v ∧ s = st)) : mTold ts ws m env st = .ok v st := by
  refine wp_eq ?_
  rw [wp_told]
  exact h
/-- a test that is known -/
theorem if_no {mt : M Bool} (h : mt env st = .ok false st) (k : wpO (t env st) Q) : wpO (sIf mt s t env st) Q := by
  rw [wo_if, h]; exact ⟨fun z => (by cases z), fun _ => k⟩
theorem if_yes {mt : M Bool} (h : mt env st = .ok true st) (k : wpO (s env st) Q) : wpO (sIf mt s t env st) Q := by
  rw [wo_if, h]; exact ⟨fun _ => k, fun z => (by cases z)⟩
/-! ### one statement, then the rest -/
variable {n : Sm} {mt : M Bool}
theorem sq {r : Sm} (h : wpO (r env st) { Q with nx := fun e s => wpO (n e s) Q }) : wpO (sSeq r n env st) Q := wo_seq.mpr h
theorem sq_chk (hm : m env st = .ok v st) (hd : due env st = .ok v st) (hv : okN 60 v = true) (k : wpO (n env st) Q) : wpO (sSeq (sIf (mTest (mBin m due (pure2 dNe))) s sPass) n env st) Q := sq (chkP (Q := { Q with nx := fun e s => wpO (n e s) Q }) k hm hd hv)
theorem sq_no (h : mt env st = .ok false st) (k : wpO (n env st) Q) : wpO (sSeq (sIf mt s sPass) n env st) Q := sq (if_no h k)
theorem sq_set {i : Nat} (h : wpR (m env st) (fun d st' => wpO (n (env.set i (some d)) st') Q) Q.xc) : wpO (sSeq (sSet i m) n env st) Q := sq (by rw [wo_set]; exact h)
theorem sq_setv {i : Nat} (h : m env st = .ok v st) (k : wpO (n (env.set i (some v)) st) Q) : wpO (sSeq (sSet i m) n env st) Q := sq_set (by rw [h]; exact k)
theorem sq_par {is : List Nat} {ml : M (List D)} (h : wpR (ml env st) (fun ds st' => (ds.length = is.length ∧ ds.length ≤ 1000) ∧ wpO (n (setsD env is ds) st') Q) Q.xc) : wpO (sSeq (sPar is ml) n env st) Q := sq (by rw [wo_par]; exact h)
theorem sq_parv {is : List Nat} {ml : M (List D)} {ds : List D} (h : ml env st = .ok ds st) (hl : ds.length = is.length) (hz : ds.length ≤ 1000) (k : wpO (n (setsD env is ds) st) Q) : wpO (sSeq (sPar is ml) n env st) Q := sq_par (by rw [h]; exact ⟨⟨hl, hz⟩, k⟩)
theorem sq_ify {a b : Sm} (h : mt env st = .ok true st) (k : wpO (a env st) { Q with nx := fun e s => wpO (n e s) Q }) : wpO (sSeq (sIf mt a b) n env st) Q := sq (if_yes h k)
theorem sq_tgt {g : D → Ev.Env → Option Ev.Env} {env' : Ev.Env} (h : m env st = .ok v st) (e : g v env = some env') (k : wpO (n env' st) Q) : wpO (sSeq (sTgt g m) n env st) Q := sq (by rw [wo_tgt, h]; exact ⟨env', e, k⟩)
theorem sq_if {a b : Sm} (h : wpR (mt env st) (fun k st' => (k = true → wpO (a env st') { Q with nx := fun e s => wpO (n e s) Q }) ∧ (k = false → wpO (b env st') { Q with nx := fun e s => wpO (n e s) Q })) Q.xc) : wpO (sSeq (sIf mt a b) n env st) Q := sq (by rw [wo_if]; exact h)
end
/-- the first that does -/
theorem first_of {l : List Int} {p : Int → Bool} {k : Int} (hl : l.Pairwise (· < ·)) (hk : k ∈ l) (hp : p k = true) (hn : ∀ j, j ∈ l → j < k → p j = false) : ∃ r, l.filter p = k :: r := by
  induction l with
  | nil => cases hk
  | cons a t ih =>
    have h2 := List.pairwise_cons.mp hl
    rcases List.mem_cons.mp hk with rfl | hk
    · exact ⟨t.filter p, by rw [List.filter_cons, hp]; rfl⟩
    · have := hn a List.mem_cons_self (h2.1 k hk)
      rw [List.filter_cons, this]
      exact ih h2.2 hk fun j hj => hn j (List.mem_cons_of_mem _ hj)
theorem sum_const (l : List Int) (e : Int) : (l.map fun _ => e).sum = l.length * e := by
  induction l with
  | nil => simp
  | cons a t ih =>
    rw [List.map_cons, List.sum_cons, ih, List.length_cons]
    push_cast
    rw [Int.add_mul]
    omega
end Ev

set_option maxRecDepth 100000
set_option maxHeartbeats 4000000
/-! comprehensions with effects -/
namespace Ev
open PySem PySem.Spec PyProof.Rows L2
theorem comp_inv {g : D → Ev.Env → Option Ev.Env} {t : M Bool} {el : M D} {env : Ev.Env} (I : List D → List D → Sto → Prop) (step : ∀ d ds acc st, I (d :: ds) acc st → ∃ env1, g d env = some env1 ∧ wpR (t env1 st) (fun b st1 => (b = true → wpR (el env1 st1) (fun y st2 => I ds (acc ++ [y]) st2) fun _ _ => False) ∧ (b = false → I ds acc st1)) fun _ _ => False) :
    ∀ {ds acc : List D} {st : Sto}, I ds acc st → wpR (compM g t el ds acc env st) (fun r st' => I [] r st') fun _ _ => False
  | [], acc, st, h => by unfold compM; exact h
  | d :: ds, acc, st, h => by
    obtain ⟨env1, e, q⟩ := step d ds acc st h
    have rest := fun acc st (h : I ds acc st) => comp_inv I step (ds := ds) (acc := acc) (st := st) h
    unfold compM
    simp only [e]
    cases et : t env1 st with
    | exc x s => rw [et] at q; exact q.elim
    | bad => rw [et] at q; exact q.elim
    | ok b st1 =>
      rw [et] at q
      cases b with
      | false => exact rest acc st1 (q.2 rfl)
      | true =>
        have q1 := q.1 rfl
        simp only
        cases ee : el env1 st1 with
        | exc x s => rw [ee] at q1; exact q1.elim
        | bad => rw [ee] at q1; exact q1.elim
        | ok y st2 => rw [ee] at q1; exact rest _ st2 q1
theorem wp_compI {it : M (List D)} {vs : List Nat} {g : D → Ev.Env → Option Ev.Env} {t : M Bool} {el : M D} {env : Ev.Env} {st : Sto} {P : List D → Sto → Prop} {E : Exn → Sto → Prop} (I : List D → List D → Sto → Prop)
    (hi : wpR (it env st) (fun ds st' => ds.length ≤ 1000000 ∧ I ds [] st' ∧ (∀ d ds acc st, I (d :: ds) acc st → ∃ env1, g d (wipeE env vs) = some env1 ∧ wpR (t env1 st) (fun b st1 => (b = true → wpR (el env1 st1) (fun y st2 => I ds (acc ++ [y]) st2) fun _ _ => False) ∧ (b = false → I ds acc st1)) fun _ _ => False) ∧ ∀ r st', I [] r st' → P r st') E) :
    wpR (mComp it vs g t el env st) P E := by
  unfold mComp
  rw [wp_bind]
  refine hi.imp (fun ds st' ⟨q1, q2, q3, q4⟩ => ?_) (fun _ _ z => z)
  rw [if_pos q1]
  exact (comp_inv I q3 q2).imp q4 fun _ _ z => z.elim
end Ev

set_option maxRecDepth 100000
set_option maxHeartbeats 4000000
namespace K02
open PySem PySem.Spec PyProof.Rows L2 Ev
noncomputable section
def top (i : Nat) : Stmt := PySem.Challenge.pw_shoehall_k02_sizes.main.body.getD i (.Pass ⟨0, 0, 0, 0⟩)
def mtd (i j : Nat) : Stmt := match top i with
  | .ClassDef _ _ _ body _ _ _ _ _ _ _ => body.getD j (.Pass ⟨0, 0, 0, 0⟩)
  | _ => .Pass ⟨0, 0, 0, 0⟩
def ws : List (Str × Str) := [("BadSize", "size"), ("BadShoe", "shoe"), ("BadPlan", "plan"), ("NoSuch", "no such"), ("NoRoom", "no room"), ("NoWay", "no way"), ("BadText", "text"), ("BadDeed", "deed")]
def below : List (Str × Str) := [("BadShoe", "BadShoe"), ("BadPlan", "BadPlan"), ("BadSize", "BadSize"), ("NoSuch", "NoSuch"), ("NoRoom", "NoRoom"), ("NoWay", "NoWay"), ("BadText", "BadText"), ("BadDeed", "BadDeed")]
def ts (x y : Str) : Bool := below.contains (x, y)
structure Facts (P : Program) (w : World) (K : PySem.W.Frag) (mg : Str → Option Value) (base : Heap) (T : List (Addr × Str)) : Prop where
  free_abs : mg "abs" = none
  free_dict : mg "dict" = none
  free_enumerate : mg "enumerate" = none
  free_int : mg "int" = none
  free_len : mg "len" = none
  free_list : mg "list" = none
  free_max : mg "max" = none
  free_min : mg "min" = none
  free_range : mg "range" = none
  free_sorted : mg "sorted" = none
  free_str : mg "str" = none
  free_sum : mg "sum" = none
  free_tuple : mg "tuple" = none
  d_Table___init__ : FunD K "__init__" "Table.__init__" (defArgs (mtd 11 0)) (defBody (mtd 11 0)) (defScope (mtd 11 0)) [] [] (He.fAd K ("Table", some "__init__")) (fdOf K (He.fAd K ("Table", some "__init__")))
  d_Table_tell : FunD K "tell" "Table.tell" (defArgs (mtd 11 1)) (defBody (mtd 11 1)) (defScope (mtd 11 1)) [] [] (He.fAd K ("Table", some "tell")) (fdOf K (He.fAd K ("Table", some "tell")))
  d_Table_forget : FunD K "forget" "Table.forget" (defArgs (mtd 11 2)) (defBody (mtd 11 2)) (defScope (mtd 11 2)) [] [] (He.fAd K ("Table", some "forget")) (fdOf K (He.fAd K ("Table", some "forget")))
  d_Table_size_of : FunD K "size_of" "Table.size_of" (defArgs (mtd 11 3)) (defBody (mtd 11 3)) (defScope (mtd 11 3)) [] [] (He.fAd K ("Table", some "size_of")) (fdOf K (He.fAd K ("Table", some "size_of")))
  d_Table_length_of : FunD K "length_of" "Table.length_of" (defArgs (mtd 11 4)) (defBody (mtd 11 4)) (defScope (mtd 11 4)) [] [] (He.fAd K ("Table", some "length_of")) (fdOf K (He.fAd K ("Table", some "length_of")))
  d_Table_shown : FunD K "shown" "Table.shown" (defArgs (mtd 11 7)) (defBody (mtd 11 7)) (defScope (mtd 11 7)) [] [] (He.fAd K ("Table", some "shown")) (fdOf K (He.fAd K ("Table", some "shown")))
  g_told_size : mg "told_size" = some (.ref (He.fAd K ("told_size", none)))
  d_told_size : FunD K "told_size" "told_size" (defArgs (top 12)) (defBody (top 12)) (defScope (top 12)) [] [] (He.fAd K ("told_size", none)) (fdOf K (He.fAd K ("told_size", none)))
  g_read_size : mg "read_size" = some (.ref (He.fAd K ("read_size", none)))
  d_read_size : FunD K "read_size" "read_size" (defArgs (top 13)) (defBody (top 13)) (defScope (top 13)) [] [] (He.fAd K ("read_size", none)) (fdOf K (He.fAd K ("read_size", none)))
  g_nearest_size : mg "nearest_size" = some (.ref (He.fAd K ("nearest_size", none)))
  d_nearest_size : FunD K "nearest_size" "nearest_size" (defArgs (top 14)) (defBody (top 14)) (defScope (top 14)) [] [] (He.fAd K ("nearest_size", none)) (fdOf K (He.fAd K ("nearest_size", none)))
  g_broken : mg "broken" = some (.ref (He.fAd K ("broken", none)))
  d_broken : FunD K "broken" "broken" (defArgs (top 15)) (defBody (top 15)) (defScope (top 15)) [] [] (He.fAd K ("broken", none)) (fdOf K (He.fAd K ("broken", none)))
  g_run_of : mg "run_of" = some (.ref (He.fAd K ("run_of", none)))
  d_run_of : FunD K "run_of" "run_of" (defArgs (top 16)) (defBody (top 16)) (defScope (top 16)) [] [] (He.fAd K ("run_of", none)) (fdOf K (He.fAd K ("run_of", none)))
  g_bell : mg "bell" = some (.ref (He.fAd K ("bell", none)))
  d_bell : FunD K "bell" "bell" (defArgs (top 17)) (defBody (top 17)) (defScope (top 17)) [] [] (He.fAd K ("bell", none)) (fdOf K (He.fAd K ("bell", none)))
  g__law_dice : mg "_law_dice" = some (.ref (He.fAd K ("_law_dice", none)))
  d__law_dice : FunD K "_law_dice" "_law_dice" (defArgs (top 19)) (defBody (top 19)) (defScope (top 19)) [] [] (He.fAd K ("_law_dice", none)) (fdOf K (He.fAd K ("_law_dice", none)))
  g__law_roll : mg "_law_roll" = some (.ref (He.fAd K ("_law_roll", none)))
  d__law_roll : FunD K "_law_roll" "_law_roll" (defArgs (top 20)) (defBody (top 20)) (defScope (top 20)) [] [] (He.fAd K ("_law_roll", none)) (fdOf K (He.fAd K ("_law_roll", none)))
  d_Table_turned : FunD K "turned" "Table.turned" (defArgs (mtd 11 5)) (defBody (mtd 11 5)) (defScope (mtd 11 5)) [] [] (He.fAd K ("Table", some "turned")) (fdOf K (He.fAd K ("Table", some "turned")))
  d_Table_same : FunD K "same" "Table.same" (defArgs (mtd 11 6)) (defBody (mtd 11 6)) (defScope (mtd 11 6)) [] [] (He.fAd K ("Table", some "same")) (fdOf K (He.fAd K ("Table", some "same")))
  g__law_rounds : mg "_law_rounds" = some (.ref (He.fAd K ("_law_rounds", none)))
  d__law_rounds : FunD K "_law_rounds" "_law_rounds" (defArgs (top 21)) (defBody (top 21)) (defScope (top 21)) [] [] (He.fAd K ("_law_rounds", none)) (fdOf K (He.fAd K ("_law_rounds", none)))
  g__law_cases1 : mg "_law_cases1" = some (.ref (He.fAd K ("_law_cases1", none)))
  d__law_cases1 : FunD K "_law_cases1" "_law_cases1" (defArgs (top 23)) (defBody (top 23)) (defScope (top 23)) [] [] (He.fAd K ("_law_cases1", none)) (fdOf K (He.fAd K ("_law_cases1", none)))
  g__law_each : mg "_law_each" = some (.ref (He.fAd K ("_law_each", none)))
  d__law_each : FunD K "_law_each" "_law_each" (defArgs (top 25)) (defBody (top 25)) (defScope (top 25)) [] [] (He.fAd K ("_law_each", none)) (fdOf K (He.fAd K ("_law_each", none)))
  g__law_rest1 : mg "_law_rest1" = some (.ref (He.fAd K ("_law_rest1", none)))
  d__law_rest1 : FunD K "_law_rest1" "_law_rest1" (defArgs (top 24)) (defBody (top 24)) (defScope (top 24)) [] [] (He.fAd K ("_law_rest1", none)) (fdOf K (He.fAd K ("_law_rest1", none)))
  g_law : mg "law" = some (.ref (He.fAd K ("law", none)))
  d_law : FunD K "law" "law" (defArgs (top 26)) (defBody (top 26)) (defScope (top 26)) [] [] (He.fAd K ("law", none)) (fdOf K (He.fAd K ("law", none)))
  gc_Table : mg "Table" = some (.ref (He.ga K "Table"))
  cl_Table : Cls K (He.ga K "Table")
  mk_Table : Mk K (He.ga K "Table") (He.fAd K ("Table", some "__init__"))
  mt_Table_tell : Meth K (He.ga K "Table") "tell" (He.fAd K ("Table", some "tell"))
  mt_Table_forget : Meth K (He.ga K "Table") "forget" (He.fAd K ("Table", some "forget"))
  mt_Table_size_of : Meth K (He.ga K "Table") "size_of" (He.fAd K ("Table", some "size_of"))
  mt_Table_length_of : Meth K (He.ga K "Table") "length_of" (He.fAd K ("Table", some "length_of"))
  mt_Table_shown : Meth K (He.ga K "Table") "shown" (He.fAd K ("Table", some "shown"))
  mt_Table_turned : Meth K (He.ga K "Table") "turned" (He.fAd K ("Table", some "turned"))
  mt_Table_same : Meth K (He.ga K "Table") "same" (He.fAd K ("Table", some "same"))
  a_Table_kinds : Da K mg "Table" "kinds"
  e_BadDeed : De K mg "BadDeed"
  e_BadPlan : De K mg "BadPlan"
  e_BadSize : De K mg "BadSize"
  e_NoSuch : De K mg "NoSuch"
  e_NoWay : De K mg "NoWay"
  tl : Tl K mg ts ws "_law_told" "what"
  lt__law_cases1 : Lt base mg T (envOfC "_law_cases1" (defScope (top 23)) 0 0 .none).qual (fdOf K (He.fAd K ("_law_cases1", none))).code
  lt__law_each : Lt base mg T (envOfC "_law_each" (defScope (top 25)) 0 0 .none).qual (fdOf K (He.fAd K ("_law_each", none))).code
  lt__law_rest1 : Lt base mg T (envOfC "_law_rest1" (defScope (top 24)) 0 0 .none).qual (fdOf K (He.fAd K ("_law_rest1", none))).code
  lt_law : Lt base mg T (envOfC "law" (defScope (top 26)) 0 0 .none).qual (fdOf K (He.fAd K ("law", none))).code
section
variable {P : Program} {w : World} {K : PySem.W.Frag} {mg : Str → Option Value} {base : Heap} {T : List (Addr × Str)}
abbrev N_Table___init__ : List Str := ["self"]
theorem sc_Table___init__ : FnScope N_Table___init__ ["self"] (defScope (mtd 11 0)) := ⟨rfl, rfl, rfl, by decide +kernel, rfl, by decide +kernel, by decide +kernel⟩
def m_Table___init__ : Sm := (sFldOwnD "Table" "kinds" (mVar 0) (mDnil false))
theorem fn_Table___init__ (C : Facts P w K mg base T) : FnOk P w K mg base (L2.CX P w) 1 (He.fAd K ("Table", some "__init__")) (fdOf K (He.fAd K ("Table", some "__init__"))) ["self"] (spOf ⟨K, mg, T⟩ 1 (mFn 1 m_Table___init__)) :=
  fn_okD (N := N_Table___init__) (ps := ["self"]) C.d_Table___init__ sc_Table___init__ fun A outer s H E hr =>
  (ssv_one (sv_aod "Table" C.a_Table_kinds (ev_var 0) (nv_dnilK)))
theorem ok_Table___init__ (C : Facts P w K mg base T) : Dk P w K mg base T "Table" 1 1 (mFn 1 m_Table___init__) :=
  ⟨_, _, _, ["self"], C.gc_Table, C.mk_Table, C.d_Table___init__.bindsN (fun _ _ _ _ _ _ us hl => match us, hl with | [_], _ => rfl), fn_Table___init__ C⟩
abbrev N_Table_tell : List Str := ["self", "name", "long", "size", "step"]
theorem sc_Table_tell : FnScope N_Table_tell ["self", "name", "long", "size", "step"] (defScope (mtd 11 1)) := ⟨rfl, rfl, rfl, by decide +kernel, rfl, by decide +kernel, by decide +kernel⟩
def m_Table_tell : Sm := (sSeq (sIf (mOr (mTest (mBin (mVar 1) (mK (.str "")) (pure2 dEq))) (mTest (mBin (mVar 1) (mFldC "Table" "kinds" (mVar 0)) (pure2 dIn)))) (sRaise "BadDeed" mNil) sPass)
  (sSeq (sIf (mOr (mTest (mBin (mUn (mCons (mVar 2) (mCons (mVar 3) mNil)) fMin2) (mK (.int 0)) (pure2 (dOrd fLt)))) (mTest (mBin (mVar 4) (mK (.int 1)) (pure2 (dOrd fLt))))) (sRaise "BadSize" mNil) sPass)
  (sPut (pFld "Table" "kinds" (mVar 0)) (mVar 1) (mTup (mCons (mVar 2) (mCons (mVar 3) (mCons (mVar 4) mNil)))))))
theorem fn_Table_tell (C : Facts P w K mg base T) : FnOk P w K mg base (L2.CX P w) 1 (He.fAd K ("Table", some "tell")) (fdOf K (He.fAd K ("Table", some "tell"))) ["self", "name", "long", "size", "step"] (spOf ⟨K, mg, T⟩ 5 (mFn 5 m_Table_tell)) :=
  fn_okD (N := N_Table_tell) (ps := ["self", "name", "long", "size", "step"]) C.d_Table_tell sc_Table_tell fun A outer s H E hr =>
  (ssv_cons (sv_if (TW.tv (tw_or (tv_eq hr.units (ev_var 1) ev_str) (tw_or1 (tv_in hr.units (ev_var 1) (cv_a "Table" C.a_Table_kinds (ev_var 0)))))) (ssv_one (sv_rs C.e_BadDeed (takes_of rfl rfl rfl rfl))) ssv_nil)
  (ssv_cons (sv_if (TW.tv (tw_or (tv_lt (ev_min2 (by rfl) (by rfl) C.free_min (av_cons (ev_var 2) (av_cons (ev_var 3) av_nil))) ev_int) (tw_or1 (tv_lt (ev_var 4) ev_int)))) (ssv_one (sv_rs C.e_BadSize (takes_of rfl rfl rfl rfl))) ssv_nil)
  (ssv_one (sv_dput hr.u1 (pl_a "Table" C.a_Table_kinds (ev_var 0)) (ev_var 1) (ev_tup (av_cons (ev_var 2) (av_cons (ev_var 3) (av_cons (ev_var 4) av_nil))))))))
theorem ok_Table_tell (C : Facts P w K mg base T) : Dm P w K mg base T "Table" "tell" 1 5 (mFn 5 m_Table_tell) :=
  ⟨_, _, _, ["self", "name", "long", "size", "step"], C.gc_Table, C.cl_Table, C.mt_Table_tell, C.d_Table_tell.bindsN (fun _ _ _ _ _ _ us hl => match us, hl with | [_, _, _, _, _], _ => rfl), fn_Table_tell C⟩
abbrev N_Table_forget : List Str := ["self", "name"]
theorem sc_Table_forget : FnScope N_Table_forget ["self", "name"] (defScope (mtd 11 2)) := ⟨rfl, rfl, rfl, by decide +kernel, rfl, by decide +kernel, by decide +kernel⟩
def m_Table_forget : Sm := (sSeq (sIf (mTest (mBin (mVar 1) (mFldC "Table" "kinds" (mVar 0)) (pure2 dNotIn))) (sRaise "NoSuch" (mCons (mVar 1) mNil)) sPass)
  (sDel (pFld "Table" "kinds" (mVar 0)) (mVar 1)))
theorem fn_Table_forget (C : Facts P w K mg base T) : FnOk P w K mg base (L2.CX P w) 1 (He.fAd K ("Table", some "forget")) (fdOf K (He.fAd K ("Table", some "forget"))) ["self", "name"] (spOf ⟨K, mg, T⟩ 2 (mFn 2 m_Table_forget)) :=
  fn_okD (N := N_Table_forget) (ps := ["self", "name"]) C.d_Table_forget sc_Table_forget fun A outer s H E hr =>
  (ssv_cons (sv_if (tv_notIn hr.units (ev_var 1) (cv_a "Table" C.a_Table_kinds (ev_var 0))) (ssv_one (sv_r C.e_NoSuch (takes_of rfl rfl rfl rfl) (av_cons (ev_var 1) av_nil) (len_cons len_nil))) ssv_nil)
  (ssv_one (sv_ddel (pl_a "Table" C.a_Table_kinds (ev_var 0)) (ev_var 1))))
theorem ok_Table_forget (C : Facts P w K mg base T) : Dm P w K mg base T "Table" "forget" 1 2 (mFn 2 m_Table_forget) :=
  ⟨_, _, _, ["self", "name"], C.gc_Table, C.cl_Table, C.mt_Table_forget, C.d_Table_forget.bindsN (fun _ _ _ _ _ _ us hl => match us, hl with | [_, _], _ => rfl), fn_Table_forget C⟩
abbrev N_Table_size_of : List Str := ["self", "name", "long", "first", "size", "step"]
theorem sc_Table_size_of : FnScope N_Table_size_of ["self", "name", "long"] (defScope (mtd 11 3)) := ⟨rfl, rfl, rfl, by decide +kernel, rfl, by decide +kernel, by decide +kernel⟩
def m_Table_size_of : Sm := (sSeq (sIf (mTest (mBin (mVar 1) (mFldC "Table" "kinds" (mVar 0)) (pure2 dNotIn))) (sRaise "NoSuch" (mCons (mVar 1) mNil)) sPass)
  (sSeq (sTgt (gvT (gvCons (gvN 3) (gvCons (gvN 4) (gvCons (gvN 5) gvNil)))) (mBin (mFldC "Table" "kinds" (mVar 0)) (mVar 1) (pure2 dItem)))
  (sSeq (sIf (mTest (mBin (mVar 2) (mVar 3) (pure2 (dOrd fLt)))) (sRaise "NoWay" mNil) sPass)
  (sRet (mBin (mVar 4) (mBin (mBin (mK (.int 0)) (mBin (mVar 2) (mVar 3) (pure2 dSub)) (pure2 dSub)) (mVar 5) (pure2 dDiv)) (pure2 dSub))))))
theorem fn_Table_size_of (C : Facts P w K mg base T) : FnOk P w K mg base (L2.CX P w) 1 (He.fAd K ("Table", some "size_of")) (fdOf K (He.fAd K ("Table", some "size_of"))) ["self", "name", "long"] (spOf ⟨K, mg, T⟩ 3 (mFn 6 m_Table_size_of)) :=
  fn_okD (N := N_Table_size_of) (ps := ["self", "name", "long"]) C.d_Table_size_of sc_Table_size_of fun A outer s H E hr =>
  (ssv_cons (sv_if (tv_notIn hr.units (ev_var 1) (cv_a "Table" C.a_Table_kinds (ev_var 0))) (ssv_one (sv_r C.e_NoSuch (takes_of rfl rfl rfl rfl) (av_cons (ev_var 1) av_nil) (len_cons len_nil))) ssv_nil)
  (ssv_cons (sv_tgt (ev_dget hr.u1 (cv_a "Table" C.a_Table_kinds (ev_var 0)) (ev_var 1)) (gv_tup (by rfl) (gsv_cons (gv_name 3 sc_Table_size_of.nd) (gsv_cons (gv_name 4 sc_Table_size_of.nd) (gsv_cons (gv_name 5 sc_Table_size_of.nd) gsv_nil))) (gvl_cons (gvl_cons (gvl_cons gvl_nil)))))
  (ssv_cons (sv_if (tv_lt (ev_var 2) (ev_var 3)) (ssv_one (sv_rs C.e_NoWay (takes_of rfl rfl rfl rfl))) ssv_nil)
  (ssv_one (sv_ret (ev_sub (ev_var 4) (ev_div (ev_sub ev_int (ev_sub (ev_var 2) (ev_var 3))) (ev_var 5))))))))
theorem ok_Table_size_of (C : Facts P w K mg base T) : Dm P w K mg base T "Table" "size_of" 1 3 (mFn 6 m_Table_size_of) :=
  ⟨_, _, _, ["self", "name", "long"], C.gc_Table, C.cl_Table, C.mt_Table_size_of, C.d_Table_size_of.bindsN (fun _ _ _ _ _ _ us hl => match us, hl with | [_, _, _], _ => rfl), fn_Table_size_of C⟩
abbrev N_Table_length_of : List Str := ["self", "name", "size", "first", "least", "step"]
theorem sc_Table_length_of : FnScope N_Table_length_of ["self", "name", "size"] (defScope (mtd 11 4)) := ⟨rfl, rfl, rfl, by decide +kernel, rfl, by decide +kernel, by decide +kernel⟩
def m_Table_length_of : Sm := (sSeq (sIf (mTest (mBin (mVar 1) (mFldC "Table" "kinds" (mVar 0)) (pure2 dNotIn))) (sRaise "NoSuch" (mCons (mVar 1) mNil)) sPass)
  (sSeq (sTgt (gvT (gvCons (gvN 3) (gvCons (gvN 4) (gvCons (gvN 5) gvNil)))) (mBin (mFldC "Table" "kinds" (mVar 0)) (mVar 1) (pure2 dItem)))
  (sSeq (sIf (mTest (mBin (mVar 2) (mVar 4) (pure2 (dOrd fLt)))) (sRaise "NoWay" mNil) sPass)
  (sRet (mBin (mVar 3) (mBin (mBin (mVar 2) (mVar 4) (pure2 dSub)) (mVar 5) (pure2 dMul)) (pure2 dAdd))))))
theorem fn_Table_length_of (C : Facts P w K mg base T) : FnOk P w K mg base (L2.CX P w) 1 (He.fAd K ("Table", some "length_of")) (fdOf K (He.fAd K ("Table", some "length_of"))) ["self", "name", "size"] (spOf ⟨K, mg, T⟩ 3 (mFn 6 m_Table_length_of)) :=
  fn_okD (N := N_Table_length_of) (ps := ["self", "name", "size"]) C.d_Table_length_of sc_Table_length_of fun A outer s H E hr =>
  (ssv_cons (sv_if (tv_notIn hr.units (ev_var 1) (cv_a "Table" C.a_Table_kinds (ev_var 0))) (ssv_one (sv_r C.e_NoSuch (takes_of rfl rfl rfl rfl) (av_cons (ev_var 1) av_nil) (len_cons len_nil))) ssv_nil)
  (ssv_cons (sv_tgt (ev_dget hr.u1 (cv_a "Table" C.a_Table_kinds (ev_var 0)) (ev_var 1)) (gv_tup (by rfl) (gsv_cons (gv_name 3 sc_Table_length_of.nd) (gsv_cons (gv_name 4 sc_Table_length_of.nd) (gsv_cons (gv_name 5 sc_Table_length_of.nd) gsv_nil))) (gvl_cons (gvl_cons (gvl_cons gvl_nil)))))
  (ssv_cons (sv_if (tv_lt (ev_var 2) (ev_var 4)) (ssv_one (sv_rs C.e_NoWay (takes_of rfl rfl rfl rfl))) ssv_nil)
  (ssv_one (sv_ret (ev_add (ev_var 3) (ev_mul (ev_sub (ev_var 2) (ev_var 4)) (ev_var 5))))))))
theorem ok_Table_length_of (C : Facts P w K mg base T) : Dm P w K mg base T "Table" "length_of" 1 3 (mFn 6 m_Table_length_of) :=
  ⟨_, _, _, ["self", "name", "size"], C.gc_Table, C.cl_Table, C.mt_Table_length_of, C.d_Table_length_of.bindsN (fun _ _ _ _ _ _ us hl => match us, hl with | [_, _, _], _ => rfl), fn_Table_length_of C⟩
abbrev N_Table_shown : List Str := ["self", "name"]
theorem sc_Table_shown : FnScope N_Table_shown ["self"] (defScope (mtd 11 7)) := ⟨rfl, rfl, rfl, by decide +kernel, rfl, by decide +kernel, by decide +kernel⟩
def m_Table_shown : Sm := (sRet (mUn (mUn (mComp (mItems (mUn (mUn (mFldC "Table" "kinds" (mVar 0)) fSortedD) fun ds st => .ok (.lst ds) st)) [1] (gvN 1) mYes (mBin (mTup (mCons (mVar 1) mNil)) (mBin (mFldC "Table" "kinds" (mVar 0)) (mVar 1) (pure2 dItem)) (pure2 dCatT))) fun ds st => .ok (.lst ds) st) fun d st => (Res.of (dS d st) st).bind fun xs st => .ok (.tup xs) st))
theorem fn_Table_shown (C : Facts P w K mg base T) : FnOk P w K mg base (L2.CX P w) 1 (He.fAd K ("Table", some "shown")) (fdOf K (He.fAd K ("Table", some "shown"))) ["self"] (spOf ⟨K, mg, T⟩ 1 (mFn 2 m_Table_shown)) :=
  fn_okD (N := N_Table_shown) (ps := ["self"]) C.d_Table_shown sc_Table_shown fun A outer s H E hr =>
  (ssv_one (sv_ret (ev_tupOf (by rfl) C.free_tuple (ev_frz (nv_comp (by rfl) sc_Table_shown.nd (iv_seq (ev_frz (nv_sortedD (by rfl) (by rfl) C.free_sorted (cv_a "Table" C.a_Table_kinds (ev_var 0))))) (blkOk_by (own := [("name", 1)]) (by rfl)) (fun _ _ _ _ _ => (gv_name 1 sc_Table_shown.nd)) (fun _ _ _ _ _ => tsv_nil) (fun _ _ _ _ _ => (ev_catT (ev_tup (av_cons (ev_var 1) av_nil)) (ev_dget hr.u1 (cv_a "Table" C.a_Table_kinds (ev_var 0)) (ev_var 1)))))))))
theorem ok_Table_shown (C : Facts P w K mg base T) : Dm P w K mg base T "Table" "shown" 1 1 (mFn 2 m_Table_shown) :=
  ⟨_, _, _, ["self"], C.gc_Table, C.cl_Table, C.mt_Table_shown, C.d_Table_shown.bindsN (fun _ _ _ _ _ _ us hl => match us, hl with | [_], _ => rfl), fn_Table_shown C⟩
abbrev N_told_size : List Str := ["halves"]
theorem sc_told_size : FnScope N_told_size ["halves"] (defScope (top 12)) := ⟨rfl, rfl, rfl, by decide +kernel, rfl, by decide +kernel, by decide +kernel⟩
def m_told_size : Sm := (sSeq (sIf (mTest (mBin (mVar 0) (mK (.int 0)) (pure2 (dOrd fLt)))) (sRaise "BadSize" mNil) sPass)
  (sRet (mBin (mUn (mBin (mVar 0) (mK (.int 2)) (pure2 dDiv)) fun d st => Res.of (dStrOf d st) st) (mIf (mTest (mBin (mBin (mVar 0) (mK (.int 2)) (pure2 dMod)) (mK (.int 1)) (pure2 dEq))) (mK (.str ".5")) (mK (.str ""))) (pure2 dAdd))))
theorem fn_told_size (C : Facts P w K mg base T) : FnOk P w K mg base (L2.CX P w) 1 (He.fAd K ("told_size", none)) (fdOf K (He.fAd K ("told_size", none))) ["halves"] (spOf ⟨K, mg, T⟩ 1 (mFn 1 m_told_size)) :=
  fn_okD (N := N_told_size) (ps := ["halves"]) C.d_told_size sc_told_size fun A outer s H E hr =>
  (ssv_cons (sv_if (tv_lt (ev_var 0) ev_int) (ssv_one (sv_rs C.e_BadSize (takes_of rfl rfl rfl rfl))) ssv_nil)
  (ssv_one (sv_ret (ev_add (ev_strOf (by rfl) C.free_str (ev_div (ev_var 0) ev_int)) (ev_if (tv_eq hr.units (ev_mod (ev_var 0) ev_int) ev_int) ev_str ev_str)))))
theorem ok_told_size (C : Facts P w K mg base T) : Df P w K mg base T "told_size" 1 1 (mFn 1 m_told_size) :=
  ⟨_, _, ["halves"], C.g_told_size, C.d_told_size.kp, C.d_told_size.bindsN (fun _ _ _ _ _ _ us hl => match us, hl with | [_], _ => rfl), fn_told_size C⟩
abbrev N_read_size : List Str := ["text", "whole"]
theorem sc_read_size : FnScope N_read_size ["text"] (defScope (top 13)) := ⟨rfl, rfl, rfl, by decide +kernel, rfl, by decide +kernel, by decide +kernel⟩
def m_read_size : Sm := (sSeq (sSet 1 (mIf (mTest (mSM1 (mVar 0) (mK (.str ".5")) fEnds)) (mSl (mVar 0) mNoPart (mPart (mUn (mK (.int 2)) fun d st => Res.of (dNeg d) st)) fSlS) (mVar 0)))
  (sSeq (sIf (mOr (mTest (mBin (mVar 1) (mK (.str "")) (pure2 dEq))) (mOr (mTest (mBin (mSM1 (mVar 1) (mK (.str "0123456789")) fStripC) (mK (.str "")) (pure2 dNe))) (mAnd (mTest (mBin (mUn (mVar 1) fun d st => Res.of (dLen d st) st) (mK (.int 1)) (pure2 (dOrd fGt)))) (mTest (mBin (mBin (mVar 1) (mK (.int 0)) fun d i st => Res.of (dIx d i st) st) (mK (.str "0")) (pure2 dEq)))))) (sRaise "BadPlan" mNil) sPass)
  (sRet (mBin (mBin (mK (.int 2)) (mUn (mVar 1) fun d st => Res.of (dInt d st) st) (pure2 dMul)) (mIf (mTest (mSM1 (mVar 0) (mK (.str ".5")) fEnds)) (mK (.int 1)) (mK (.int 0))) (pure2 dAdd)))))
theorem fn_read_size (C : Facts P w K mg base T) : FnOk P w K mg base (L2.CX P w) 1 (He.fAd K ("read_size", none)) (fdOf K (He.fAd K ("read_size", none))) ["text"] (spOf ⟨K, mg, T⟩ 1 (mFn 2 m_read_size)) :=
  fn_okD (N := N_read_size) (ps := ["text"]) C.d_read_size sc_read_size fun A outer s H E hr =>
  (ssv_cons (sv_set 1 sc_read_size.nd (ev_if (tv_val (ev_endswith (ev_var 0) ev_str)) (ev_sliceS (ev_var 0) ov_none (ov_some (ev_neg ev_int))) (ev_var 0)))
  (ssv_cons (sv_if (TW.tv (tw_or (tv_eq hr.units (ev_var 1) ev_str) (tw_or (tv_ne hr.units (ev_stripC (ev_var 1) ev_str) ev_str) (tw_or1 (TW.tv (tw_and (tv_gt (ev_len (by rfl) C.free_len (ev_var 1)) ev_int) (tw_and1 (tv_eq hr.units (ev_ix (ev_var 1) ev_int) ev_str)))))))) (ssv_one (sv_rs C.e_BadPlan (takes_of rfl rfl rfl rfl))) ssv_nil)
  (ssv_one (sv_ret (ev_add (ev_mul ev_int (ev_int1 (by rfl) C.free_int (ev_var 1))) (ev_if (tv_val (ev_endswith (ev_var 0) ev_str)) ev_int ev_int))))))
theorem ok_read_size (C : Facts P w K mg base T) : Df P w K mg base T "read_size" 1 1 (mFn 2 m_read_size) :=
  ⟨_, _, ["text"], C.g_read_size, C.d_read_size.kp, C.d_read_size.bindsN (fun _ _ _ _ _ _ us hl => match us, hl with | [_], _ => rfl), fn_read_size C⟩
abbrev N_nearest_size : List Str := ["halves", "shelf", "good", "size"]
theorem sc_nearest_size : FnScope N_nearest_size ["halves", "shelf"] (defScope (top 14)) := ⟨rfl, rfl, rfl, by decide +kernel, rfl, by decide +kernel, by decide +kernel⟩
def m_nearest_size : Sm := (sSeq (sIf (mTest (mBin (mUn (mVar 1) fun d st => Res.of (dLen d st) st) (mK (.int 0)) (pure2 dEq))) (sRaise "NoWay" mNil) sPass)
  (sSeq (sSet 2 (mUn (mComp (mItems (mVar 1)) [3] (gvN 3) (mTest (mBin (mVar 3) (mVar 0) (pure2 (dOrd fGe)))) (mVar 3)) fun ds st => .ok (.lst ds) st))
  (sRet (mIf (mTest (mBin (mVar 2) (mUn (mSmall mNil) fun ds st => .ok (.lst ds) st) (pure2 dNe))) (mUn (mVar 2) fun d st => Res.of (dMin d st) st) (mUn (mVar 1) fun d st => Res.of (dMax d st) st)))))
theorem fn_nearest_size (C : Facts P w K mg base T) : FnOk P w K mg base (L2.CX P w) 1 (He.fAd K ("nearest_size", none)) (fdOf K (He.fAd K ("nearest_size", none))) ["halves", "shelf"] (spOf ⟨K, mg, T⟩ 2 (mFn 4 m_nearest_size)) :=
  fn_okD (N := N_nearest_size) (ps := ["halves", "shelf"]) C.d_nearest_size sc_nearest_size fun A outer s H E hr =>
  (ssv_cons (sv_if (tv_eq hr.units (ev_len (by rfl) C.free_len (ev_var 1)) ev_int) (ssv_one (sv_rs C.e_NoWay (takes_of rfl rfl rfl rfl))) ssv_nil)
  (ssv_cons (sv_setComp 2 (by rfl) sc_nearest_size.nd (iv_seq (ev_var 1)) (blkOk_by (own := [("size", 3)]) (by rfl)) (fun _ _ _ _ _ => (gv_name 3 sc_nearest_size.nd)) (fun _ _ _ _ _ => (tsv_one (tv_ge (ev_var 3) (ev_var 0)))) (fun _ _ _ _ _ => (ev_var 3)) (by rfl))
  (ssv_one (sv_ret (ev_if (tv_ne hr.units (ev_var 2) (ev_frz (nv_lst av_nil))) (ev_min (by rfl) (by rfl) C.free_min (ev_var 2)) (ev_max (by rfl) (by rfl) C.free_max (ev_var 1)))))))
theorem ok_nearest_size (C : Facts P w K mg base T) : Df P w K mg base T "nearest_size" 1 2 (mFn 4 m_nearest_size) :=
  ⟨_, _, ["halves", "shelf"], C.g_nearest_size, C.d_nearest_size.kp, C.d_nearest_size.bindsN (fun _ _ _ _ _ _ us hl => match us, hl with | [_, _], _ => rfl), fn_nearest_size C⟩
abbrev N_broken : List Str := ["size", "turns", "number", "many"]
theorem sc_broken : FnScope N_broken ["size", "turns"] (defScope (top 15)) := ⟨rfl, rfl, rfl, by decide +kernel, rfl, by decide +kernel, by decide +kernel⟩
def m_broken : Sm := (sSeq (sIf (mTest (mBin (mVar 0) (mK (.int 1)) (pure2 (dOrd fLt)))) (sRaise "BadSize" mNil) sPass)
  (sSeq (sFor (mUn (mVar 1) fun d st => match d with | .lst ds => .ok (dEnum ds) st | _ => .bad) (gvT (gvCons (gvN 2) (gvCons (gvN 3) gvNil))) (sSeq (sIf (mTest (mBin (mVar 0) (mVar 3) (pure2 (dOrd fLe)))) (sRet (mTup (mCons (mVar 2) (mCons (mVar 0) mNil)))) sPass)
  (sAug 0 dSub (mVar 3))))
  (sRaise "NoWay" mNil)))
theorem fn_broken (C : Facts P w K mg base T) : FnOk P w K mg base (L2.CX P w) 1 (He.fAd K ("broken", none)) (fdOf K (He.fAd K ("broken", none))) ["size", "turns"] (spOf ⟨K, mg, T⟩ 2 (mFn 4 m_broken)) :=
  fn_okD (N := N_broken) (ps := ["size", "turns"]) C.d_broken sc_broken fun A outer s H E hr =>
  (ssv_cons (sv_if (tv_lt (ev_var 0) ev_int) (ssv_one (sv_rs C.e_BadSize (takes_of rfl rfl rfl rfl))) ssv_nil)
  (ssv_cons (sv_for (passes_of rfl) (by rfl) (iv_enum (by rfl) C.free_enumerate (ev_var 1)) (gv_tup (by rfl) (gsv_cons (gv_name 2 sc_broken.nd) (gsv_cons (gv_name 3 sc_broken.nd) gsv_nil)) (gvl_cons (gvl_cons gvl_nil))) (ssv_cons (sv_if (tv_le (ev_var 0) (ev_var 3)) (ssv_one (sv_ret (ev_tup (av_cons (ev_var 2) (av_cons (ev_var 0) av_nil))))) ssv_nil)
  (ssv_one (sv_augSub 0 sc_broken.nd (ev_var 3)))))
  (ssv_one (sv_rs C.e_NoWay (takes_of rfl rfl rfl rfl)))))
theorem ok_broken (C : Facts P w K mg base T) : Df P w K mg base T "broken" 1 2 (mFn 4 m_broken) :=
  ⟨_, _, ["size", "turns"], C.g_broken, C.d_broken.kp, C.d_broken.bindsN (fun _ _ _ _ _ _ us hl => match us, hl with | [_, _], _ => rfl), fn_broken C⟩
abbrev N_run_of : List Str := ["counts", "least", "size"]
theorem sc_run_of : FnScope N_run_of ["counts", "least"] (defScope (top 16)) := ⟨rfl, rfl, rfl, by decide +kernel, rfl, by decide +kernel, by decide +kernel⟩
def m_run_of : Sm := (sSeq (sIf (mTest (mBin (mVar 1) (mK (.int 0)) (pure2 (dOrd fLt)))) (sRaise "BadSize" mNil) sPass)
  (sRet (mUn (mUn (mComp (mItems (mUn (mUn (mVar 0) fSortedD) fun ds st => .ok (.lst ds) st)) [2] (gvN 2) (mTest (mBin (mBin (mVar 0) (mVar 2) (pure2 dItem)) (mVar 1) (pure2 (dOrd fLt)))) (mVar 2)) fun ds st => .ok (.lst ds) st) fun d st => (Res.of (dS d st) st).bind fun xs st => .ok (.tup xs) st)))
theorem fn_run_of (C : Facts P w K mg base T) : FnOk P w K mg base (L2.CX P w) 1 (He.fAd K ("run_of", none)) (fdOf K (He.fAd K ("run_of", none))) ["counts", "least"] (spOf ⟨K, mg, T⟩ 2 (mFn 3 m_run_of)) :=
  fn_okD (N := N_run_of) (ps := ["counts", "least"]) C.d_run_of sc_run_of fun A outer s H E hr =>
  (ssv_cons (sv_if (tv_lt (ev_var 1) ev_int) (ssv_one (sv_rs C.e_BadSize (takes_of rfl rfl rfl rfl))) ssv_nil)
  (ssv_one (sv_ret (ev_tupOf (by rfl) C.free_tuple (ev_frz (nv_comp (by rfl) sc_run_of.nd (iv_seq (ev_frz (nv_sortedD (by rfl) (by rfl) C.free_sorted (ev_var 0)))) (blkOk_by (own := [("size", 2)]) (by rfl)) (fun _ _ _ _ _ => (gv_name 2 sc_run_of.nd)) (fun _ _ _ _ _ => (tsv_one (tv_lt (ev_dget hr.u1 (ev_var 0) (ev_var 2)) (ev_var 1)))) (fun _ _ _ _ _ => (ev_var 2))))))))
theorem ok_run_of (C : Facts P w K mg base T) : Df P w K mg base T "run_of" 1 2 (mFn 3 m_run_of) :=
  ⟨_, _, ["counts", "least"], C.g_run_of, C.d_run_of.kp, C.d_run_of.bindsN (fun _ _ _ _ _ _ us hl => match us, hl with | [_, _], _ => rfl), fn_run_of C⟩
abbrev N_bell : List Str := ["middle", "wide", "many", "shares", "whole", "found", "far", "size"]
theorem sc_bell : FnScope N_bell ["middle", "wide", "many"] (defScope (top 17)) := ⟨rfl, rfl, rfl, by decide +kernel, rfl, by decide +kernel, by decide +kernel⟩
def m_bell : Sm := (sSeq (sIf (mOr (mTest (mBin (mVar 1) (mK (.int 1)) (pure2 (dOrd fLt)))) (mTest (mBin (mVar 2) (mK (.int 0)) (pure2 (dOrd fLt))))) (sRaise "BadSize" mNil) sPass)
  (sSeq (sSet 3 (mUn (mUn (mUn (mComp (mUn (mCons (mBin (mK (.int 1)) (mVar 1) (pure2 dSub)) (mCons (mVar 1) mNil)) fun ds st => Res.of (dRange2 ds) st) [6] (gvN 6) mYes (mTup (mCons (mBin (mVar 0) (mVar 6) (pure2 dAdd)) (mCons (mBin (mVar 1) (mUn (mVar 6) fun d st => Res.of (dAbs d st) st) (pure2 dSub)) mNil)))) fun ds st => .ok (.lst ds) st) fDictP) fun ds st => .ok (.dct ds) st))
  (sSeq (sSet 4 (mUn (mVar 3) fun d st => Res.of (dSumV d st) st))
  (sSeq (sOwnD 5 (mUn (mUn (mComp (mItems (mUn (mUn (mVar 3) fSortedD) fun ds st => .ok (.lst ds) st)) [7] (gvN 7) mYes (mTup (mCons (mVar 7) (mCons (mBin (mBin (mVar 2) (mBin (mVar 3) (mVar 7) (pure2 dItem)) (pure2 dMul)) (mVar 4) (pure2 dDiv)) mNil)))) fun ds st => .ok (.lst ds) st) fDictP))
  (sSeq (sPutAug dAddI (pSlot 5) (mVar 0) (mBin (mVar 2) (mUn (mVarC 5) fun d st => Res.of (dSumV d st) st) (pure2 dSub)))
  (sFrz 5 (sRet (mVar 5))))))))
theorem fn_bell (C : Facts P w K mg base T) : FnOk P w K mg base (L2.CX P w) 1 (He.fAd K ("bell", none)) (fdOf K (He.fAd K ("bell", none))) ["middle", "wide", "many"] (spOf ⟨K, mg, T⟩ 3 (mFn 8 m_bell)) :=
  fn_okD (N := N_bell) (ps := ["middle", "wide", "many"]) C.d_bell sc_bell fun A outer s H E hr =>
  (ssv_cons (sv_if (TW.tv (tw_or (tv_lt (ev_var 1) ev_int) (tw_or1 (tv_lt (ev_var 2) ev_int)))) (ssv_one (sv_rs C.e_BadSize (takes_of rfl rfl rfl rfl))) ssv_nil)
  (ssv_cons (sv_set 3 sc_bell.nd (ev_frzD (nv_dictP (by rfl) (by rfl) C.free_dict (ev_frz (nv_comp (by rfl) sc_bell.nd (iv_range2 (av_cons (ev_sub ev_int (ev_var 1)) (av_cons (ev_var 1) av_nil)) (by rfl) C.free_range) (blkOk_by (own := [("far", 6)]) (by rfl)) (fun _ _ _ _ _ => (gv_name 6 sc_bell.nd)) (fun _ _ _ _ _ => tsv_nil) (fun _ _ _ _ _ => (ev_tup (av_cons (ev_add (ev_var 0) (ev_var 6)) (av_cons (ev_sub (ev_var 1) (ev_abs (by rfl) C.free_abs (ev_var 6))) av_nil)))))))))
  (ssv_cons (sv_set 4 sc_bell.nd (ev_sumVals (by rfl) (by rfl) C.free_sum (ev_var 3)))
  (ssv_cons (sv_ownD 5 sc_bell.nd (nv_dictP (by rfl) (by rfl) C.free_dict (ev_frz (nv_comp (by rfl) sc_bell.nd (iv_seq (ev_frz (nv_sortedD (by rfl) (by rfl) C.free_sorted (ev_var 3)))) (blkOk_by (own := [("size", 7)]) (by rfl)) (fun _ _ _ _ _ => (gv_name 7 sc_bell.nd)) (fun _ _ _ _ _ => tsv_nil) (fun _ _ _ _ _ => (ev_tup (av_cons (ev_var 7) (av_cons (ev_div (ev_mul (ev_var 2) (ev_dget hr.u1 (ev_var 3) (ev_var 7))) (ev_var 4)) av_nil))))))))
  (ssv_cons (sv_daugAdd hr.u1 (pl_slot 5) (ev_var 0) (ev_sub (ev_var 2) (ev_sumVals (by rfl) (by rfl) C.free_sum (cv_var 5))))
  (ssv_one (sv_frz 5 (sv_ret (ev_var 5)))))))))
theorem ok_bell (C : Facts P w K mg base T) : Df P w K mg base T "bell" 1 3 (mFn 8 m_bell) :=
  ⟨_, _, ["middle", "wide", "many"], C.g_bell, C.d_bell.kp, C.d_bell.bindsN (fun _ _ _ _ _ _ us hl => match us, hl with | [_, _, _], _ => rfl), fn_bell C⟩
abbrev N__law_dice : List Str := ["cell"]
theorem sc__law_dice : FnScope N__law_dice ["cell"] (defScope (top 19)) := ⟨rfl, rfl, rfl, by decide +kernel, rfl, by decide +kernel, by decide +kernel⟩
def m__law_dice : Sm := (sSeq (sIf (mTest (mChain (mBin (mK (.int 0)) (mK (.int 10)) (pure2 dSub)) (mVar 0) (mK (.int 10)) (dOrd (ordOf .Lt)) (dOrd (ordOf .Lt)))) (sRet (mStore (mCons (mUn (mVar 0) fun d st => Res.of (dAbs d st) st) (mCons (mK (.int 0)) (mCons (mK (.int 2)) mNil))))) sPass)
  (sRet (mStore (mCons (mVar 0) (mCons (mBin (mK (.int 1)) (mBin (mUn (mVar 0) fun d st => Res.of (dInt d st) st) (mK (.int 1009)) (pure2 dMod)) (pure2 dAdd)) (mCons (mUn (mBin (mVar 0) (mBin (mK (.int 10)) (mK (.int 18)) (pure2 dPow)) (pure2 (dOrd fGe))) fun d st => Res.of (dInt d st) st) mNil))))))
theorem fn__law_dice (C : Facts P w K mg base T) : FnOk P w K mg base (L2.CX P w) 1 (He.fAd K ("_law_dice", none)) (fdOf K (He.fAd K ("_law_dice", none))) ["cell"] (spOf ⟨K, mg, T⟩ 1 (mFn 1 m__law_dice)) :=
  fn_okD (N := N__law_dice) (ps := ["cell"]) C.d__law_dice sc__law_dice fun A outer s H E hr =>
  (ssv_cons (sv_if (tv_chain (.inl rfl) (.inl rfl) (ev_sub ev_int ev_int) (ev_var 0) ev_int) (ssv_one (sv_ret (ev_lstO (av_cons (ev_abs (by rfl) C.free_abs (ev_var 0)) (av_cons ev_int (av_cons ev_int av_nil)))))) ssv_nil)
  (ssv_one (sv_ret (ev_lstO (av_cons (ev_var 0) (av_cons (ev_add ev_int (ev_mod (ev_int1 (by rfl) C.free_int (ev_var 0)) ev_int)) (av_cons (ev_int1 (by rfl) C.free_int (ev_ge (ev_var 0) (ev_pow ev_int ev_int))) av_nil)))))))
theorem ok__law_dice (C : Facts P w K mg base T) : Df P w K mg base T "_law_dice" 1 1 (mFn 1 m__law_dice) :=
  ⟨_, _, ["cell"], C.g__law_dice, C.d__law_dice.kp, C.d__law_dice.bindsN (fun _ _ _ _ _ _ us hl => match us, hl with | [_], _ => rfl), fn__law_dice C⟩
abbrev N__law_roll : List Str := ["dice", "many", "found"]
theorem sc__law_roll : FnScope N__law_roll ["dice", "many"] (defScope (top 20)) := ⟨rfl, rfl, rfl, by decide +kernel, rfl, by decide +kernel, by decide +kernel⟩
def m__law_roll : Sm := (sSeq (sIf (mOr (mTest (mBin (mBin (mVar 0) (mK (.int 2)) fun d i st => Res.of (dIx d i st) st) (mK (.int 2)) (pure2 dEq))) (mAnd (mTest (mBin (mBin (mVar 0) (mK (.int 2)) fun d i st => Res.of (dIx d i st) st) (mK (.int 1)) (pure2 dEq))) (mTest (mBin (mBin (mVar 0) (mK (.int 0)) fun d i st => Res.of (dIx d i st) st) (mK (.int 0)) (pure2 (dOrd fGt)))))) (sSeq (sSet 2 (mBin (mUn (mBin (mVar 0) (mK (.int 0)) fun d i st => Res.of (dIx d i st) st) fun d st => Res.of (dInt d st) st) (mVar 1) (pure2 dMod)))
  (sSeq (sSetIx (pObj (mVar 0)) (mK (.int 0)) (mBin (mBin (mVar 0) (mK (.int 0)) fun d i st => Res.of (dIx d i st) st) (mVar 1) (pure2 dDiv)))
  (sRet (mVar 2)))) sPass)
  (sSeq (sSetIx (pObj (mVar 0)) (mK (.int 2)) (mK (.int 0)))
  (sSeq (sSetIx (pObj (mVar 0)) (mK (.int 0)) (mBin (mUn (mBin (mBin (mBin (mBin (mVar 0) (mK (.int 0)) fun d i st => Res.of (dIx d i st) st) (mK (.int 48271)) (pure2 dMul)) (mBin (mBin (mVar 0) (mK (.int 1)) fun d i st => Res.of (dIx d i st) st) (mK (.int 69621)) (pure2 dMul)) (pure2 dAdd)) (mK (.int 11)) (pure2 dAdd)) fun d st => Res.of (dInt d st) st) (mK (.int 2147483647)) (pure2 dMod)))
  (sSeq (sSetIx (pObj (mVar 0)) (mK (.int 1)) (mBin (mBin (mVar 0) (mK (.int 1)) fun d i st => Res.of (dIx d i st) st) (mK (.int 1)) (pure2 dAdd)))
  (sRet (mBin (mUn (mBin (mBin (mBin (mVar 0) (mK (.int 0)) fun d i st => Res.of (dIx d i st) st) (mK (.int 7)) (pure2 dDiv)) (mBin (mVar 0) (mK (.int 0)) fun d i st => Res.of (dIx d i st) st) (pure2 dAdd)) fun d st => Res.of (dInt d st) st) (mVar 1) (pure2 dMod)))))))
theorem fn__law_roll (C : Facts P w K mg base T) : FnOk P w K mg base (L2.CX P w) 1 (He.fAd K ("_law_roll", none)) (fdOf K (He.fAd K ("_law_roll", none))) ["dice", "many"] (spOf ⟨K, mg, T⟩ 2 (mFn 3 m__law_roll)) :=
  fn_okD (N := N__law_roll) (ps := ["dice", "many"]) C.d__law_roll sc__law_roll fun A outer s H E hr =>
  (ssv_cons (sv_if (TW.tv (tw_or (tv_eq hr.units (ev_ix (ev_var 0) ev_int) ev_int) (tw_or1 (TW.tv (tw_and (tv_eq hr.units (ev_ix (ev_var 0) ev_int) ev_int) (tw_and1 (tv_gt (ev_ix (ev_var 0) ev_int) ev_int))))))) (ssv_cons (sv_set 2 sc__law_roll.nd (ev_mod (ev_int1 (by rfl) C.free_int (ev_ix (ev_var 0) ev_int)) (ev_var 1)))
  (ssv_cons (sv_setix (pl_obj (ev_var 0)) ev_int (ev_div (ev_ix (ev_var 0) ev_int) (ev_var 1)))
  (ssv_one (sv_ret (ev_var 2))))) ssv_nil)
  (ssv_cons (sv_setix (pl_obj (ev_var 0)) ev_int ev_int)
  (ssv_cons (sv_setix (pl_obj (ev_var 0)) ev_int (ev_mod (ev_int1 (by rfl) C.free_int (ev_add (ev_add (ev_mul (ev_ix (ev_var 0) ev_int) ev_int) (ev_mul (ev_ix (ev_var 0) ev_int) ev_int)) ev_int)) ev_int))
  (ssv_cons (sv_setix (pl_obj (ev_var 0)) ev_int (ev_add (ev_ix (ev_var 0) ev_int) ev_int))
  (ssv_one (sv_ret (ev_mod (ev_int1 (by rfl) C.free_int (ev_add (ev_div (ev_ix (ev_var 0) ev_int) ev_int) (ev_ix (ev_var 0) ev_int))) (ev_var 1))))))))
theorem ok__law_roll (C : Facts P w K mg base T) : Df P w K mg base T "_law_roll" 1 2 (mFn 3 m__law_roll) :=
  ⟨_, _, ["dice", "many"], C.g__law_roll, C.d__law_roll.kp, C.d__law_roll.bindsN (fun _ _ _ _ _ _ us hl => match us, hl with | [_, _], _ => rfl), fn__law_roll C⟩
abbrev N_Table_turned : List Str := ["self", "one", "size", "other"]
theorem sc_Table_turned : FnScope N_Table_turned ["self", "one", "size", "other"] (defScope (mtd 11 5)) := ⟨rfl, rfl, rfl, by decide +kernel, rfl, by decide +kernel, by decide +kernel⟩
def m_Table_turned : Sm := (sRet (mMeth "Table" "size_of" (mFn 6 m_Table_size_of) (mVar 0) (mCons (mVar 3) (mCons (mMeth "Table" "length_of" (mFn 6 m_Table_length_of) (mVar 0) (mCons (mVar 1) (mCons (mVar 2) mNil))) mNil))))
theorem fn_Table_turned (C : Facts P w K mg base T) : FnOk P w K mg base (L2.CX P w) 2 (He.fAd K ("Table", some "turned")) (fdOf K (He.fAd K ("Table", some "turned"))) ["self", "one", "size", "other"] (spOf ⟨K, mg, T⟩ 4 (mFn 4 m_Table_turned)) :=
  fn_okD (N := N_Table_turned) (ps := ["self", "one", "size", "other"]) C.d_Table_turned sc_Table_turned fun A outer s H E hr =>
  (ssv_one (sv_ret (ev_m "Table" (ok_Table_size_of C) hr (takes_of rfl rfl rfl rfl) (ev_var 0) (av_cons (ev_var 3) (av_cons (ev_m "Table" (ok_Table_length_of C) hr (takes_of rfl rfl rfl rfl) (ev_var 0) (av_cons (ev_var 1) (av_cons (ev_var 2) av_nil)) (len_cons (len_cons len_nil))) av_nil)) (len_cons (len_cons len_nil)))))
theorem ok_Table_turned (C : Facts P w K mg base T) : Dm P w K mg base T "Table" "turned" 2 4 (mFn 4 m_Table_turned) :=
  ⟨_, _, _, ["self", "one", "size", "other"], C.gc_Table, C.cl_Table, C.mt_Table_turned, C.d_Table_turned.bindsN (fun _ _ _ _ _ _ us hl => match us, hl with | [_, _, _, _], _ => rfl), fn_Table_turned C⟩
abbrev N_Table_same : List Str := ["self", "one", "other", "most", "found", "size", "long"]
theorem sc_Table_same : FnScope N_Table_same ["self", "one", "other", "most"] (defScope (mtd 11 6)) := ⟨rfl, rfl, rfl, by decide +kernel, rfl, by decide +kernel, by decide +kernel⟩
def m_Table_same : Sm := (sSeq (sIf (mOr (mTest (mBin (mVar 1) (mFldC "Table" "kinds" (mVar 0)) (pure2 dNotIn))) (mTest (mBin (mVar 2) (mFldC "Table" "kinds" (mVar 0)) (pure2 dNotIn)))) (sRaise "NoSuch" mNil) sPass)
  (sSeq (sOwn 4 (mSmall mNil))
  (sSeq (sFor (mUn (mCons (mBin (mBin (mFldC "Table" "kinds" (mVar 0)) (mVar 1) (pure2 dItem)) (mK (.int 1)) fun d i st => Res.of (dIx d i st) st) (mCons (mBin (mVar 3) (mK (.int 1)) (pure2 dAdd)) mNil)) fun ds st => Res.of (dRange2 ds) st) (gvN 5) (sSeq (sSet 6 (mMeth "Table" "length_of" (mFn 6 m_Table_length_of) (mVar 0) (mCons (mVar 1) (mCons (mVar 5) mNil))))
  (sIf (mAnd (mTest (mBin (mVar 6) (mBin (mBin (mFldC "Table" "kinds" (mVar 0)) (mVar 2) (pure2 dItem)) (mK (.int 0)) fun d i st => Res.of (dIx d i st) st) (pure2 (dOrd fGe)))) (mTest (mBin (mBin (mBin (mVar 6) (mBin (mBin (mFldC "Table" "kinds" (mVar 0)) (mVar 2) (pure2 dItem)) (mK (.int 0)) fun d i st => Res.of (dIx d i st) st) (pure2 dSub)) (mBin (mBin (mFldC "Table" "kinds" (mVar 0)) (mVar 2) (pure2 dItem)) (mK (.int 2)) fun d i st => Res.of (dIx d i st) st) (pure2 dMod)) (mK (.int 0)) (pure2 dEq)))) (sAppend (pSlot 4) (mVar 5)) sPass)))
  (sRet (mUn (mVarC 4) fun d st => (Res.of (dS d st) st).bind fun xs st => .ok (.tup xs) st)))))
theorem fn_Table_same (C : Facts P w K mg base T) : FnOk P w K mg base (L2.CX P w) 2 (He.fAd K ("Table", some "same")) (fdOf K (He.fAd K ("Table", some "same"))) ["self", "one", "other", "most"] (spOf ⟨K, mg, T⟩ 4 (mFn 7 m_Table_same)) :=
  fn_okD (N := N_Table_same) (ps := ["self", "one", "other", "most"]) C.d_Table_same sc_Table_same fun A outer s H E hr =>
  (ssv_cons (sv_if (TW.tv (tw_or (tv_notIn hr.units (ev_var 1) (cv_a "Table" C.a_Table_kinds (ev_var 0))) (tw_or1 (tv_notIn hr.units (ev_var 2) (cv_a "Table" C.a_Table_kinds (ev_var 0)))))) (ssv_one (sv_rs C.e_NoSuch (takes_of rfl rfl rfl rfl))) ssv_nil)
  (ssv_cons (sv_own 4 sc_Table_same.nd (nv_lst av_nil))
  (ssv_cons (sv_for (passes_of rfl) (by rfl) (iv_range2 (av_cons (ev_ix (ev_dget hr.u1 (cv_a "Table" C.a_Table_kinds (ev_var 0)) (ev_var 1)) ev_int) (av_cons (ev_add (ev_var 3) ev_int) av_nil)) (by rfl) C.free_range) (gv_name 5 sc_Table_same.nd) (ssv_cons (sv_set 6 sc_Table_same.nd (ev_m "Table" (ok_Table_length_of C) hr (takes_of rfl rfl rfl rfl) (ev_var 0) (av_cons (ev_var 1) (av_cons (ev_var 5) av_nil)) (len_cons (len_cons len_nil))))
  (ssv_one (sv_if (TW.tv (tw_and (tv_ge (ev_var 6) (ev_ix (ev_dget hr.u1 (cv_a "Table" C.a_Table_kinds (ev_var 0)) (ev_var 2)) ev_int)) (tw_and1 (tv_eq hr.units (ev_mod (ev_sub (ev_var 6) (ev_ix (ev_dget hr.u1 (cv_a "Table" C.a_Table_kinds (ev_var 0)) (ev_var 2)) ev_int)) (ev_ix (ev_dget hr.u1 (cv_a "Table" C.a_Table_kinds (ev_var 0)) (ev_var 2)) ev_int)) ev_int)))) (ssv_one (sv_append (pl_slot 4) (ev_var 5))) ssv_nil))))
  (ssv_one (sv_ret (ev_tupOf (by rfl) C.free_tuple (cv_var 4)))))))
theorem ok_Table_same (C : Facts P w K mg base T) : Dm P w K mg base T "Table" "same" 2 4 (mFn 7 m_Table_same) :=
  ⟨_, _, _, ["self", "one", "other", "most"], C.gc_Table, C.cl_Table, C.mt_Table_same, C.d_Table_same.bindsN (fun _ _ _ _ _ _ us hl => match us, hl with | [_, _, _, _], _ => rfl), fn_Table_same C⟩
abbrev N__law_rounds : List Str := ["script", "most", "cells", "cell"]
theorem sc__law_rounds : FnScope N__law_rounds ["script", "most"] (defScope (top 21)) := ⟨rfl, rfl, rfl, by decide +kernel, rfl, by decide +kernel, by decide +kernel⟩
def m__law_rounds : Sm := (sSeq (sSet 2 (mUn (mSl (mVar 0) mNoPart (mPart (mVar 1)) fun d lo hi st => (Res.of (dL d st) st).bind fun xs st => .ok (cutD xs lo hi) st) fun ds st => .ok (.lst ds) st))
  (sSeq (sIf (mTest (mBin (mVar 2) (mUn (mSmall mNil) fun ds st => .ok (.lst ds) st) (pure2 dEq))) (sSet 2 (mUn (mSmall (mCons (mK (.int 0)) mNil)) fun ds st => .ok (.lst ds) st)) sPass)
  (sRet (mUn (mComp (mItems (mVar 2)) [3] (gvN 3) mYes (mCall (mFn 1 m__law_dice) (mCons (mVar 3) mNil))) fun ds st => .ok (.lst ds) st))))
theorem fn__law_rounds (C : Facts P w K mg base T) : FnOk P w K mg base (L2.CX P w) 2 (He.fAd K ("_law_rounds", none)) (fdOf K (He.fAd K ("_law_rounds", none))) ["script", "most"] (spOf ⟨K, mg, T⟩ 2 (mFn 4 m__law_rounds)) :=
  fn_okD (N := N__law_rounds) (ps := ["script", "most"]) C.d__law_rounds sc__law_rounds fun A outer s H E hr =>
  (ssv_cons (sv_set 2 sc__law_rounds.nd (ev_frz (nv_slice (ev_var 0) ov_none (ov_some (ev_var 1)))))
  (ssv_cons (sv_if (tv_eq hr.units (ev_var 2) (ev_frz (nv_lst av_nil))) (ssv_one (sv_set 2 sc__law_rounds.nd (ev_frz (nv_lst (av_cons ev_int av_nil))))) ssv_nil)
  (ssv_one (sv_ret (ev_frz (nv_comp (by rfl) sc__law_rounds.nd (iv_seq (ev_var 2)) (blkOk_by (own := [("cell", 3)]) (by rfl)) (fun _ _ _ _ _ => (gv_name 3 sc__law_rounds.nd)) (fun _ _ _ _ _ => tsv_nil) (fun _ _ _ _ _ => (ev_f (ok__law_dice C) hr takes0 (av_cons (ev_var 3) av_nil) (len_cons len_nil)))))))))
theorem ok__law_rounds (C : Facts P w K mg base T) : Df P w K mg base T "_law_rounds" 2 2 (mFn 4 m__law_rounds) :=
  ⟨_, _, ["script", "most"], C.g__law_rounds, C.d__law_rounds.kp, C.d__law_rounds.bindsN (fun _ _ _ _ _ _ us hl => match us, hl with | [_, _], _ => rfl), fn__law_rounds C⟩
abbrev N__law_cases1 : List Str := []
theorem sc__law_cases1 : FnScope N__law_cases1 [] (defScope (top 23)) := ⟨rfl, rfl, rfl, by decide +kernel, rfl, by decide +kernel, by decide +kernel⟩
def m__law_cases1 : Sm := (sSeq (sIf (mTest (mBin (mTold ts ws (mCall (mFn 1 m_told_size) (mCons (mBin (mK (.int 0)) (mK (.int 1)) (pure2 dSub)) mNil))) (mK (.str "size")) (pure2 dNe))) (sRet (mK (.bl false))) sPass)
  (sSeq (sIf (mTest (mBin (mTold ts ws (mCall (mFn 4 m_broken) (mCons (mK (.int 0)) (mCons (mUn (mSmall mNil) fun ds st => .ok (.lst ds) st) mNil)))) (mK (.str "size")) (pure2 dNe))) (sRet (mK (.bl false))) sPass)
  (sSeq (sIf (mTest (mBin (mTold ts ws (mCall (mFn 3 m_run_of) (mCons (mUn (mDnil false) fun ds st => .ok (.dct ds) st) (mCons (mBin (mK (.int 0)) (mK (.int 1)) (pure2 dSub)) mNil)))) (mK (.str "size")) (pure2 dNe))) (sRet (mK (.bl false))) sPass)
  (sSeq (sIf (mTest (mBin (mTold ts ws (mCall (mFn 8 m_bell) (mCons (mK (.int 1)) (mCons (mK (.int 0)) (mCons (mK (.int 1)) mNil))))) (mK (.str "size")) (pure2 dNe))) (sRet (mK (.bl false))) sPass)
  (sRet (mK (.bl true)))))))
theorem fn__law_cases1 (C : Facts P w K mg base T) : FnOk P w K mg base (L2.CX P w) 4 (He.fAd K ("_law_cases1", none)) (fdOf K (He.fAd K ("_law_cases1", none))) [] (spOf ⟨K, mg, T⟩ 0 (mFn 0 m__law_cases1)) :=
  fn_okD (N := N__law_cases1) (ps := []) C.d__law_cases1 sc__law_cases1 fun A outer s H E hr =>
  (ssv_cons (sv_if (tv_ne hr.units (ev_t C.tl C.lt__law_cases1 (k := 1) hr (fun _ _ _ _ _ _ _ hl => (ev_f (ok_told_size C) hl (takes_of rfl rfl rfl rfl) (av_cons (ev_sub ev_int ev_int) av_nil) (len_cons len_nil)))) ev_str) (ssv_one (sv_ret ev_bl)) ssv_nil)
  (ssv_cons (sv_if (tv_ne hr.units (ev_t C.tl C.lt__law_cases1 (k := 1) hr (fun _ _ _ _ _ _ _ hl => (ev_f (ok_broken C) hl (takes_of rfl rfl rfl rfl) (av_cons ev_int (av_cons (ev_frz (nv_lst av_nil)) av_nil)) (len_cons (len_cons len_nil))))) ev_str) (ssv_one (sv_ret ev_bl)) ssv_nil)
  (ssv_cons (sv_if (tv_ne hr.units (ev_t C.tl C.lt__law_cases1 (k := 1) hr (fun _ _ _ _ _ _ _ hl => (ev_f (ok_run_of C) hl (takes_of rfl rfl rfl rfl) (av_cons (ev_frzD (nv_dnilK)) (av_cons (ev_sub ev_int ev_int) av_nil)) (len_cons (len_cons len_nil))))) ev_str) (ssv_one (sv_ret ev_bl)) ssv_nil)
  (ssv_cons (sv_if (tv_ne hr.units (ev_t C.tl C.lt__law_cases1 (k := 1) hr (fun _ _ _ _ _ _ _ hl => (ev_f (ok_bell C) hl (takes_of rfl rfl rfl rfl) (av_cons ev_int (av_cons ev_int (av_cons ev_int av_nil))) (len_cons (len_cons (len_cons len_nil)))))) ev_str) (ssv_one (sv_ret ev_bl)) ssv_nil)
  (ssv_one (sv_ret ev_bl))))))
theorem ok__law_cases1 (C : Facts P w K mg base T) : Df P w K mg base T "_law_cases1" 4 0 (mFn 0 m__law_cases1) :=
  ⟨_, _, [], C.g__law_cases1, C.d__law_cases1.kp, C.d__law_cases1.bindsN (fun _ _ _ _ _ _ us hl => match us, hl with | [], _ => rfl), fn__law_cases1 C⟩
abbrev N__law_each : List Str := ["table", "sorts", "long", "size", "name", "due", "other", "first", "least", "each", "k"]
theorem sc__law_each : FnScope N__law_each ["table", "sorts", "long", "size"] (defScope (top 25)) := ⟨rfl, rfl, rfl, by decide +kernel, rfl, by decide +kernel, by decide +kernel⟩
def m__law_each : Sm := (sSeq (sFor (mItems (mUn (mSmall (mCons (mK (.str "east")) (mCons (mK (.str "west")) (mCons (mK (.str "child")) mNil)))) fun ds st => .ok (.lst ds) st)) (gvN 4) (sSeq (sPar [5, 6] (mCons (mK (.str "no such")) (mCons (mK (.str "no such")) mNil)))
  (sSeq (sIf (mTest (mBin (mVar 4) (mVar 1) (pure2 dIn))) (sSeq (sTgt (gvT (gvCons (gvN 7) (gvCons (gvN 8) (gvCons (gvN 9) gvNil)))) (mBin (mVar 1) (mVar 4) (pure2 dItem)))
  (sSeq (sSet 5 (mIf (mTest (mBin (mVar 2) (mVar 7) (pure2 (dOrd fGe)))) (mBin (mUn (mComp (mUn (mCons (mK (.int 80)) mNil) fun ds st => Res.of (dRange1 ds) st) [10] (gvN 10) (mAnd (mTest (mBin (mBin (mVar 7) (mBin (mBin (mVar 10) (mVar 8) (pure2 dSub)) (mVar 9) (pure2 dMul)) (pure2 dAdd)) (mVar 2) (pure2 (dOrd fGe)))) (mTest (mBin (mVar 10) (mVar 8) (pure2 (dOrd fGe))))) (mVar 10)) fun ds st => .ok (.lst ds) st) (mK (.int 0)) fun d i st => Res.of (dIx d i st) st) (mK (.str "no way"))))
  (sSet 6 (mIf (mTest (mBin (mVar 3) (mVar 8) (pure2 (dOrd fGe)))) (mBin (mVar 7) (mUn (mUn (mComp (mUn (mCons (mVar 8) (mCons (mVar 3) mNil)) fun ds st => Res.of (dRange2 ds) st) [10] (gvN 10) mYes (mVar 9)) fun ds st => .ok (.lst ds) st) fun d st => Res.of (dSum d st) st) (pure2 dAdd)) (mK (.str "no way")))))) sPass)
  (sSeq (sIf (mTest (mBin (mTold ts ws (mMeth "Table" "size_of" (mFn 6 m_Table_size_of) (mVar 0) (mCons (mVar 4) (mCons (mVar 2) mNil)))) (mVar 5) (pure2 dNe))) (sRet (mK (.bl false))) sPass)
  (sIf (mTest (mBin (mTold ts ws (mMeth "Table" "length_of" (mFn 6 m_Table_length_of) (mVar 0) (mCons (mVar 4) (mCons (mVar 3) mNil)))) (mVar 6) (pure2 dNe))) (sRet (mK (.bl false))) sPass)))))
  (sRet (mK (.bl true))))
theorem fn__law_each (C : Facts P w K mg base T) : FnOk P w K mg base (L2.CX P w) 4 (He.fAd K ("_law_each", none)) (fdOf K (He.fAd K ("_law_each", none))) ["table", "sorts", "long", "size"] (spOf ⟨K, mg, T⟩ 4 (mFn 11 m__law_each)) :=
  fn_okD (N := N__law_each) (ps := ["table", "sorts", "long", "size"]) C.d__law_each sc__law_each fun A outer s H E hr =>
  (ssv_cons (sv_for (passes_of rfl) (by rfl) (iv_seq (ev_frz (nv_lst (av_cons ev_str (av_cons ev_str (av_cons ev_str av_nil)))))) (gv_name 4 sc__law_each.nd) (ssv_cons (sv_parT (by rfl) (aw_ev ev_str (aw_ev ev_str aw_nil)) (gns_cons 5 sc__law_each.nd (gns_cons 6 sc__law_each.nd gns_nil)))
  (ssv_cons (sv_if (tv_in hr.units (ev_var 4) (ev_var 1)) (ssv_cons (sv_tgt (ev_dget hr.u1 (ev_var 1) (ev_var 4)) (gv_tup (by rfl) (gsv_cons (gv_name 7 sc__law_each.nd) (gsv_cons (gv_name 8 sc__law_each.nd) (gsv_cons (gv_name 9 sc__law_each.nd) gsv_nil))) (gvl_cons (gvl_cons (gvl_cons gvl_nil)))))
  (ssv_cons (sv_set 5 sc__law_each.nd (ev_if (tv_ge (ev_var 2) (ev_var 7)) (ev_ix (ev_frz (nv_comp (by rfl) sc__law_each.nd (iv_range1 (av_cons ev_int av_nil) (by rfl) C.free_range) (blkOk_by (own := [("k", 10)]) (by rfl)) (fun _ _ _ _ _ => (gv_name 10 sc__law_each.nd)) (fun _ _ _ _ _ => (tsv_one (TW.tv (tw_and (tv_ge (ev_add (ev_var 7) (ev_mul (ev_sub (ev_var 10) (ev_var 8)) (ev_var 9))) (ev_var 2)) (tw_and1 (tv_ge (ev_var 10) (ev_var 8))))))) (fun _ _ _ _ _ => (ev_var 10)))) ev_int) ev_str))
  (ssv_one (sv_set 6 sc__law_each.nd (ev_if (tv_ge (ev_var 3) (ev_var 8)) (ev_add (ev_var 7) (ev_sum (by rfl) (by rfl) C.free_sum (ev_frz (nv_comp (by rfl) sc__law_each.nd (iv_range2 (av_cons (ev_var 8) (av_cons (ev_var 3) av_nil)) (by rfl) C.free_range) (blkOk_by (own := [("k", 10)]) (by rfl)) (fun _ _ _ _ _ => (gv_name 10 sc__law_each.nd)) (fun _ _ _ _ _ => tsv_nil) (fun _ _ _ _ _ => (ev_var 9)))))) ev_str))))) ssv_nil)
  (ssv_cons (sv_if (tv_ne hr.units (ev_t C.tl C.lt__law_each (k := 1) hr (fun _ _ _ _ _ _ _ hl => (ev_m "Table" (ok_Table_size_of C) hl (takes_of rfl rfl rfl rfl) (ev_var 0) (av_cons (ev_var 4) (av_cons (ev_var 2) av_nil)) (len_cons (len_cons len_nil))))) (ev_var 5)) (ssv_one (sv_ret ev_bl)) ssv_nil)
  (ssv_one (sv_if (tv_ne hr.units (ev_t C.tl C.lt__law_each (k := 1) hr (fun _ _ _ _ _ _ _ hl => (ev_m "Table" (ok_Table_length_of C) hl (takes_of rfl rfl rfl rfl) (ev_var 0) (av_cons (ev_var 4) (av_cons (ev_var 3) av_nil)) (len_cons (len_cons len_nil))))) (ev_var 6)) (ssv_one (sv_ret ev_bl)) ssv_nil))))))
  (ssv_one (sv_ret ev_bl)))
theorem ok__law_each (C : Facts P w K mg base T) : Df P w K mg base T "_law_each" 4 4 (mFn 11 m__law_each) :=
  ⟨_, _, ["table", "sorts", "long", "size"], C.g__law_each, C.d__law_each.kp, C.d__law_each.bindsN (fun _ _ _ _ _ _ us hl => match us, hl with | [_, _, _, _], _ => rfl), fn__law_each C⟩
abbrev N__law_rest1 : List Str := ["dice", "table", "size", "due", "same", "halves", "text", "bad", "shelf", "order", "good", "line", "number", "told", "turns", "place", "counts", "least", "middle", "wide", "many", "k", "one"]
theorem sc__law_rest1 : FnScope N__law_rest1 ["dice", "table", "size", "due", "same"] (defScope (top 24)) := ⟨rfl, rfl, rfl, by decide +kernel, rfl, by decide +kernel, by decide +kernel⟩
def m__law_rest1 : Sm := (sSeq (sIf (mTest (mBin (mTold ts ws (mMeth "Table" "turned" (mFn 4 m_Table_turned) (mVar 1) (mCons (mK (.str "east")) (mCons (mVar 2) (mCons (mK (.str "west")) mNil))))) (mVar 3) (pure2 dNe))) (sRet (mK (.bl false))) sPass)
  (sSeq (sIf (mTest (mBin (mTold ts ws (mMeth "Table" "same" (mFn 7 m_Table_same) (mVar 1) (mCons (mK (.str "east")) (mCons (mK (.str "west")) (mCons (mVar 2) mNil))))) (mVar 4) (pure2 dNe))) (sRet (mK (.bl false))) sPass)
  (sSeq (sSet 5 (mCall (mFn 3 m__law_roll) (mCons (mVar 0) (mCons (mK (.int 60)) mNil))))
  (sSeq (sSet 6 (mBin (mUn (mSmall (mCons (mK (.str "")) (mCons (mK (.str ".5")) mNil))) fun ds st => .ok (.lst ds) st) (mBin (mVar 5) (mK (.int 2)) (pure2 dMod)) fun d i st => Res.of (dIx d i st) st))
  (sSeq (sIf (mOr (mTest (mBin (mCall (mFn 1 m_told_size) (mCons (mVar 5) mNil)) (mBin (mUn (mBin (mVar 5) (mK (.int 2)) (pure2 dDiv)) fun d st => Res.of (dStrOf d st) st) (mVar 6) (pure2 dAdd)) (pure2 dNe))) (mTest (mBin (mCall (mFn 2 m_read_size) (mCons (mCall (mFn 1 m_told_size) (mCons (mVar 5) mNil)) mNil)) (mVar 5) (pure2 dNe)))) (sRet (mK (.bl false))) sPass)
  (sSeq (sFor (mItems (mUn (mSmall (mCons (mK (.str "")) (mCons (mK (.str ".5")) (mCons (mK (.str "07")) (mCons (mK (.str "x")) (mCons (mK (.str "7.")) (mCons (mK (.str "7.0")) (mCons (mK (.str "-1")) (mCons (mK (.str "1.5.5")) mNil))))))))) fun ds st => .ok (.lst ds) st)) (gvN 7) (sIf (mTest (mBin (mTold ts ws (mCall (mFn 2 m_read_size) (mCons (mVar 7) mNil))) (mK (.str "plan")) (pure2 dNe))) (sRet (mK (.bl false))) sPass))
  (sSeq (sSet 8 (mUn (mComp (mUn (mCons (mCall (mFn 3 m__law_roll) (mCons (mVar 0) (mCons (mK (.int 6)) mNil))) mNil) fun ds st => Res.of (dRange1 ds) st) [21] (gvN 21) mYes (mCall (mFn 3 m__law_roll) (mCons (mVar 0) (mCons (mK (.int 40)) mNil)))) fun ds st => .ok (.lst ds) st))
  (sSeq (sSet 9 (mUn (mUn (mVar 8) fSorted) fun ds st => .ok (.lst ds) st))
  (sSeq (sSet 10 (mIf (mTest (mBin (mVar 9) (mUn (mSmall mNil) fun ds st => .ok (.lst ds) st) (pure2 dNe))) (mUn (mBin (mUn (mComp (mItems (mVar 9)) [22] (gvN 22) (mTest (mBin (mVar 22) (mVar 2) (pure2 (dOrd fGe)))) (mVar 22)) fun ds st => .ok (.lst ds) st) (mUn (mSmall (mCons (mBin (mVar 9) (mBin (mUn (mVar 9) fun d st => Res.of (dLen d st) st) (mK (.int 1)) (pure2 dSub)) fun d i st => Res.of (dIx d i st) st) mNil)) fun ds st => .ok (.lst ds) st) fCat) fun ds st => .ok (.lst ds) st) (mUn (mSmall (mCons (mK (.str "no way")) mNil)) fun ds st => .ok (.lst ds) st)))
  (sSeq (sIf (mTest (mBin (mTold ts ws (mCall (mFn 4 m_nearest_size) (mCons (mVar 2) (mCons (mVar 8) mNil)))) (mBin (mVar 10) (mK (.int 0)) fun d i st => Res.of (dIx d i st) st) (pure2 dNe))) (sRet (mK (.bl false))) sPass)
  (sSeq (sPar [14, 15] (mCons (mUn (mComp (mUn (mCons (mCall (mFn 3 m__law_roll) (mCons (mVar 0) (mCons (mK (.int 4)) mNil))) mNil) fun ds st => Res.of (dRange1 ds) st) [21] (gvN 21) mYes (mCall (mFn 3 m__law_roll) (mCons (mVar 0) (mCons (mK (.int 9)) mNil)))) fun ds st => .ok (.lst ds) st) (mCons (mBin (mK (.int 1)) (mCall (mFn 3 m__law_roll) (mCons (mVar 0) (mCons (mK (.int 30)) mNil))) (pure2 dAdd)) mNil)))
  (sSeq (sSet 11 (mUn (mSmall mNil) fun ds st => .ok (.lst ds) st))
  (sSeq (sFor (mUn (mCons (mUn (mVar 14) fun d st => Res.of (dLen d st) st) mNil) fun ds st => Res.of (dRange1 ds) st) (gvN 12) (sSet 11 (mUn (mBin (mVar 11) (mUn (mComp (mUn (mCons (mBin (mVar 14) (mVar 12) fun d i st => Res.of (dIx d i st) st) mNil) fun ds st => Res.of (dRange1 ds) st) [21] (gvN 21) mYes (mTup (mCons (mVar 12) (mCons (mBin (mVar 21) (mK (.int 1)) (pure2 dAdd)) mNil)))) fun ds st => .ok (.lst ds) st) fCat) fun ds st => .ok (.lst ds) st)))
  (sSeq (sIf (mTest (mBin (mTold ts ws (mCall (mFn 4 m_broken) (mCons (mVar 15) (mCons (mVar 14) mNil)))) (mIf (mTest (mBin (mVar 15) (mUn (mVar 11) fun d st => Res.of (dLen d st) st) (pure2 (dOrd fLe)))) (mBin (mVar 11) (mBin (mVar 15) (mK (.int 1)) (pure2 dSub)) fun d i st => Res.of (dIx d i st) st) (mK (.str "no way"))) (pure2 dNe))) (sRet (mK (.bl false))) sPass)
  (sSeq (sPar [16, 17] (mCons (mUn (mUn (mUn (mComp (mUn (mCons (mCall (mFn 3 m__law_roll) (mCons (mVar 0) (mCons (mK (.int 6)) mNil))) mNil) fun ds st => Res.of (dRange1 ds) st) [21] (gvN 21) mYes (mTup (mCons (mCall (mFn 3 m__law_roll) (mCons (mVar 0) (mCons (mK (.int 12)) mNil))) (mCons (mCall (mFn 3 m__law_roll) (mCons (mVar 0) (mCons (mK (.int 9)) mNil))) mNil)))) fun ds st => .ok (.lst ds) st) fDictP) fun ds st => .ok (.dct ds) st) (mCons (mCall (mFn 3 m__law_roll) (mCons (mVar 0) (mCons (mK (.int 9)) mNil))) mNil)))
  (sSeq (sIf (mTest (mBin (mUn (mUn (mCall (mFn 3 m_run_of) (mCons (mVar 16) (mCons (mVar 17) mNil))) fun d st => Res.of (dS d st) st) fun ds st => .ok (.lst ds) st) (mUn (mComp (mUn (mCons (mK (.int 12)) mNil) fun ds st => Res.of (dRange1 ds) st) [22] (gvN 22) (mAnd (mTest (mBin (mVar 22) (mVar 16) (pure2 dIn))) (mTest (mBin (mBin (mVar 16) (mVar 22) (pure2 dItem)) (mVar 17) (pure2 (dOrd fLt))))) (mVar 22)) fun ds st => .ok (.lst ds) st) (pure2 dNe))) (sRet (mK (.bl false))) sPass)
  (sSeq (sPar [18, 19, 20] (mCons (mBin (mK (.int 10)) (mCall (mFn 3 m__law_roll) (mCons (mVar 0) (mCons (mK (.int 20)) mNil))) (pure2 dAdd)) (mCons (mBin (mK (.int 1)) (mCall (mFn 3 m__law_roll) (mCons (mVar 0) (mCons (mK (.int 5)) mNil))) (pure2 dAdd)) (mCons (mCall (mFn 3 m__law_roll) (mCons (mVar 0) (mCons (mK (.int 200)) mNil))) mNil))))
  (sSeq (sSet 13 (mCall (mFn 8 m_bell) (mCons (mVar 18) (mCons (mVar 19) (mCons (mVar 20) mNil)))))
  (sSeq (sIf (mOr (mTest (mBin (mUn (mVar 13) fun d st => Res.of (dSumV d st) st) (mVar 20) (pure2 dNe))) (mTest (mBin (mUn (mUn (mVar 13) fSortedD) fun ds st => .ok (.lst ds) st) (mUn (mBin (mBin (mBin (mVar 18) (mVar 19) (pure2 dSub)) (mK (.int 1)) (pure2 dAdd)) (mBin (mVar 18) (mVar 19) (pure2 dAdd)) fListRg2) fun ds st => .ok (.lst ds) st) (pure2 dNe)))) (sRet (mK (.bl false))) sPass)
  (sSeq (sIf (mTest (mBin (mUn (mComp (mWalk .keys 13) [22] (gvN 22) (mAnd (mTest (mBin (mVar 22) (mVar 18) (pure2 dNe))) (mTest (mBin (mBin (mVar 13) (mVar 22) (pure2 dItem)) (mBin (mBin (mVar 20) (mBin (mVar 19) (mUn (mBin (mVar 22) (mVar 18) (pure2 dSub)) fun d st => Res.of (dAbs d st) st) (pure2 dSub)) (pure2 dMul)) (mBin (mVar 19) (mVar 19) (pure2 dMul)) (pure2 dDiv)) (pure2 dNe)))) (mVar 22)) fun ds st => .ok (.lst ds) st) (mUn (mSmall mNil) fun ds st => .ok (.lst ds) st) (pure2 dNe))) (sRet (mK (.bl false))) sPass)
  (sRet (mCall (mFn 0 m__law_cases1) mNil))))))))))))))))))))))
theorem fn__law_rest1 (C : Facts P w K mg base T) : FnOk P w K mg base (L2.CX P w) 7 (He.fAd K ("_law_rest1", none)) (fdOf K (He.fAd K ("_law_rest1", none))) ["dice", "table", "size", "due", "same"] (spOf ⟨K, mg, T⟩ 5 (mFn 23 m__law_rest1)) :=
  fn_okD (N := N__law_rest1) (ps := ["dice", "table", "size", "due", "same"]) C.d__law_rest1 sc__law_rest1 fun A outer s H E hr =>
  (ssv_cons (sv_if (tv_ne hr.units (ev_t C.tl C.lt__law_rest1 (k := 4) hr (fun _ _ _ _ _ _ _ hl => (ev_m "Table" (ok_Table_turned C) hl (takes_of rfl rfl rfl rfl) (ev_var 1) (av_cons ev_str (av_cons (ev_var 2) (av_cons ev_str av_nil))) (len_cons (len_cons (len_cons len_nil)))))) (ev_var 3)) (ssv_one (sv_ret ev_bl)) ssv_nil)
  (ssv_cons (sv_if (tv_ne hr.units (ev_t C.tl C.lt__law_rest1 (k := 4) hr (fun _ _ _ _ _ _ _ hl => (ev_m "Table" (ok_Table_same C) hl (takes_of rfl rfl rfl rfl) (ev_var 1) (av_cons ev_str (av_cons ev_str (av_cons (ev_var 2) av_nil))) (len_cons (len_cons (len_cons len_nil)))))) (ev_var 4)) (ssv_one (sv_ret ev_bl)) ssv_nil)
  (ssv_cons (sv_set 5 sc__law_rest1.nd (ev_f (ok__law_roll C) hr (takes_of rfl rfl rfl rfl) (av_cons (ev_var 0) (av_cons ev_int av_nil)) (len_cons (len_cons len_nil))))
  (ssv_cons (sv_set 6 sc__law_rest1.nd (ev_ix (ev_frz (nv_lst (av_cons ev_str (av_cons ev_str av_nil)))) (ev_mod (ev_var 5) ev_int)))
  (ssv_cons (sv_if (TW.tv (tw_or (tv_ne hr.units (ev_f (ok_told_size C) hr (takes_of rfl rfl rfl rfl) (av_cons (ev_var 5) av_nil) (len_cons len_nil)) (ev_add (ev_strOf (by rfl) C.free_str (ev_div (ev_var 5) ev_int)) (ev_var 6))) (tw_or1 (tv_ne hr.units (ev_f (ok_read_size C) hr (takes_of rfl rfl rfl rfl) (av_cons (ev_f (ok_told_size C) hr (takes_of rfl rfl rfl rfl) (av_cons (ev_var 5) av_nil) (len_cons len_nil)) av_nil) (len_cons len_nil)) (ev_var 5))))) (ssv_one (sv_ret ev_bl)) ssv_nil)
  (ssv_cons (sv_for (passes_of rfl) (by rfl) (iv_seq (ev_frz (nv_lst (av_cons ev_str (av_cons ev_str (av_cons ev_str (av_cons ev_str (av_cons ev_str (av_cons ev_str (av_cons ev_str (av_cons ev_str av_nil))))))))))) (gv_name 7 sc__law_rest1.nd) (ssv_one (sv_if (tv_ne hr.units (ev_t C.tl C.lt__law_rest1 (k := 4) hr (fun _ _ _ _ _ _ _ hl => (ev_f (ok_read_size C) hl (takes_of rfl rfl rfl rfl) (av_cons (ev_var 7) av_nil) (len_cons len_nil)))) ev_str) (ssv_one (sv_ret ev_bl)) ssv_nil)))
  (ssv_cons (sv_set 8 sc__law_rest1.nd (ev_frz (nv_comp (by rfl) sc__law_rest1.nd (iv_range1 (av_cons (ev_f (ok__law_roll C) hr (takes_of rfl rfl rfl rfl) (av_cons (ev_var 0) (av_cons ev_int av_nil)) (len_cons (len_cons len_nil))) av_nil) (by rfl) C.free_range) (blkOk_by (own := [("k", 21)]) (by rfl)) (fun _ _ _ _ _ => (gv_name 21 sc__law_rest1.nd)) (fun _ _ _ _ _ => tsv_nil) (fun _ _ _ _ _ => (ev_f (ok__law_roll C) hr takes0 (av_cons (ev_var 0) (av_cons ev_int av_nil)) (len_cons (len_cons len_nil)))))))
  (ssv_cons (sv_set 9 sc__law_rest1.nd (ev_frz (nv_sorted hr.units (by rfl) C.free_sorted (ev_var 8))))
  (ssv_cons (sv_set 10 sc__law_rest1.nd (ev_if (tv_ne hr.units (ev_var 9) (ev_frz (nv_lst av_nil))) (ev_frz (nv_cat (ev_frz (nv_comp (by rfl) sc__law_rest1.nd (iv_seq (ev_var 9)) (blkOk_by (own := [("one", 22)]) (by rfl)) (fun _ _ _ _ _ => (gv_name 22 sc__law_rest1.nd)) (fun _ _ _ _ _ => (tsv_one (tv_ge (ev_var 22) (ev_var 2)))) (fun _ _ _ _ _ => (ev_var 22)))) (ev_frz (nv_lst (av_cons (ev_ix (ev_var 9) (ev_sub (ev_len (by rfl) C.free_len (ev_var 9)) ev_int)) av_nil))))) (ev_frz (nv_lst (av_cons ev_str av_nil)))))
  (ssv_cons (sv_if (tv_ne hr.units (ev_t C.tl C.lt__law_rest1 (k := 4) hr (fun _ _ _ _ _ _ _ hl => (ev_f (ok_nearest_size C) hl (takes_of rfl rfl rfl rfl) (av_cons (ev_var 2) (av_cons (ev_var 8) av_nil)) (len_cons (len_cons len_nil))))) (ev_ix (ev_var 10) ev_int)) (ssv_one (sv_ret ev_bl)) ssv_nil)
  (ssv_cons (sv_parT (by rfl) (aw_ev (ev_frz (nv_comp (by rfl) sc__law_rest1.nd (iv_range1 (av_cons (ev_f (ok__law_roll C) hr (takes_of rfl rfl rfl rfl) (av_cons (ev_var 0) (av_cons ev_int av_nil)) (len_cons (len_cons len_nil))) av_nil) (by rfl) C.free_range) (blkOk_by (own := [("k", 21)]) (by rfl)) (fun _ _ _ _ _ => (gv_name 21 sc__law_rest1.nd)) (fun _ _ _ _ _ => tsv_nil) (fun _ _ _ _ _ => (ev_f (ok__law_roll C) hr takes0 (av_cons (ev_var 0) (av_cons ev_int av_nil)) (len_cons (len_cons len_nil)))))) (aw_ev (ev_add ev_int (ev_f (ok__law_roll C) hr (takes_of rfl rfl rfl rfl) (av_cons (ev_var 0) (av_cons ev_int av_nil)) (len_cons (len_cons len_nil)))) aw_nil)) (gns_cons 14 sc__law_rest1.nd (gns_cons 15 sc__law_rest1.nd gns_nil)))
  (ssv_cons (sv_set 11 sc__law_rest1.nd (ev_frz (nv_lst av_nil)))
  (ssv_cons (sv_for (passes_of rfl) (by rfl) (iv_range1 (av_cons (ev_len (by rfl) C.free_len (ev_var 14)) av_nil) (by rfl) C.free_range) (gv_name 12 sc__law_rest1.nd) (ssv_one (sv_set 11 sc__law_rest1.nd (ev_frz (nv_cat (ev_var 11) (ev_frz (nv_comp (by rfl) sc__law_rest1.nd (iv_range1 (av_cons (ev_ix (ev_var 14) (ev_var 12)) av_nil) (by rfl) C.free_range) (blkOk_by (own := [("k", 21)]) (by rfl)) (fun _ _ _ _ _ => (gv_name 21 sc__law_rest1.nd)) (fun _ _ _ _ _ => tsv_nil) (fun _ _ _ _ _ => (ev_tup (av_cons (ev_var 12) (av_cons (ev_add (ev_var 21) ev_int) av_nil)))))))))))
  (ssv_cons (sv_if (tv_ne hr.units (ev_t C.tl C.lt__law_rest1 (k := 4) hr (fun _ _ _ _ _ _ _ hl => (ev_f (ok_broken C) hl (takes_of rfl rfl rfl rfl) (av_cons (ev_var 15) (av_cons (ev_var 14) av_nil)) (len_cons (len_cons len_nil))))) (ev_if (tv_le (ev_var 15) (ev_len (by rfl) C.free_len (ev_var 11))) (ev_ix (ev_var 11) (ev_sub (ev_var 15) ev_int)) ev_str)) (ssv_one (sv_ret ev_bl)) ssv_nil)
  (ssv_cons (sv_parT (by rfl) (aw_ev (ev_frzD (nv_dictP (by rfl) (by rfl) C.free_dict (ev_frz (nv_comp (by rfl) sc__law_rest1.nd (iv_range1 (av_cons (ev_f (ok__law_roll C) hr (takes_of rfl rfl rfl rfl) (av_cons (ev_var 0) (av_cons ev_int av_nil)) (len_cons (len_cons len_nil))) av_nil) (by rfl) C.free_range) (blkOk_by (own := [("k", 21)]) (by rfl)) (fun _ _ _ _ _ => (gv_name 21 sc__law_rest1.nd)) (fun _ _ _ _ _ => tsv_nil) (fun _ _ _ _ _ => (ev_tup (av_cons (ev_f (ok__law_roll C) hr takes0 (av_cons (ev_var 0) (av_cons ev_int av_nil)) (len_cons (len_cons len_nil))) (av_cons (ev_f (ok__law_roll C) hr takes0 (av_cons (ev_var 0) (av_cons ev_int av_nil)) (len_cons (len_cons len_nil))) av_nil)))))))) (aw_ev (ev_f (ok__law_roll C) hr (takes_of rfl rfl rfl rfl) (av_cons (ev_var 0) (av_cons ev_int av_nil)) (len_cons (len_cons len_nil))) aw_nil)) (gns_cons 16 sc__law_rest1.nd (gns_cons 17 sc__law_rest1.nd gns_nil)))
  (ssv_cons (sv_if (tv_ne hr.units (ev_frz (nv_listOf (by rfl) C.free_list (ev_f (ok_run_of C) hr (takes_of rfl rfl rfl rfl) (av_cons (ev_var 16) (av_cons (ev_var 17) av_nil)) (len_cons (len_cons len_nil))))) (ev_frz (nv_comp (by rfl) sc__law_rest1.nd (iv_range1 (av_cons ev_int av_nil) (by rfl) C.free_range) (blkOk_by (own := [("one", 22)]) (by rfl)) (fun _ _ _ _ _ => (gv_name 22 sc__law_rest1.nd)) (fun _ _ _ _ _ => (tsv_one (TW.tv (tw_and (tv_in hr.units (ev_var 22) (ev_var 16)) (tw_and1 (tv_lt (ev_dget hr.u1 (ev_var 16) (ev_var 22)) (ev_var 17))))))) (fun _ _ _ _ _ => (ev_var 22))))) (ssv_one (sv_ret ev_bl)) ssv_nil)
  (ssv_cons (sv_parT (by rfl) (aw_ev (ev_add ev_int (ev_f (ok__law_roll C) hr (takes_of rfl rfl rfl rfl) (av_cons (ev_var 0) (av_cons ev_int av_nil)) (len_cons (len_cons len_nil)))) (aw_ev (ev_add ev_int (ev_f (ok__law_roll C) hr (takes_of rfl rfl rfl rfl) (av_cons (ev_var 0) (av_cons ev_int av_nil)) (len_cons (len_cons len_nil)))) (aw_ev (ev_f (ok__law_roll C) hr (takes_of rfl rfl rfl rfl) (av_cons (ev_var 0) (av_cons ev_int av_nil)) (len_cons (len_cons len_nil))) aw_nil))) (gns_cons 18 sc__law_rest1.nd (gns_cons 19 sc__law_rest1.nd (gns_cons 20 sc__law_rest1.nd gns_nil))))
  (ssv_cons (sv_set 13 sc__law_rest1.nd (ev_f (ok_bell C) hr (takes_of rfl rfl rfl rfl) (av_cons (ev_var 18) (av_cons (ev_var 19) (av_cons (ev_var 20) av_nil))) (len_cons (len_cons (len_cons len_nil)))))
  (ssv_cons (sv_if (TW.tv (tw_or (tv_ne hr.units (ev_sumVals (by rfl) (by rfl) C.free_sum (ev_var 13)) (ev_var 20)) (tw_or1 (tv_ne hr.units (ev_frz (nv_sortedD (by rfl) (by rfl) C.free_sorted (ev_var 13))) (ev_frz (nv_listRg2 (by rfl) (by rfl) C.free_list (by rfl) C.free_range (ev_add (ev_sub (ev_var 18) (ev_var 19)) ev_int) (ev_add (ev_var 18) (ev_var 19)))))))) (ssv_one (sv_ret ev_bl)) ssv_nil)
  (ssv_cons (sv_if (tv_ne hr.units (ev_frz (nv_compD (by rfl) sc__law_rest1.nd (ivd_keys 13) (blkOk_by (own := [("one", 22)]) (by rfl)) (fun _ _ _ _ _ => (gv_name 22 sc__law_rest1.nd)) (fun _ _ _ _ _ => (tsv_one (TW.tv (tw_and (tv_ne hr.units (ev_var 22) (ev_var 18)) (tw_and1 (tv_ne hr.units (ev_dget hr.u1 (ev_var 13) (ev_var 22)) (ev_div (ev_mul (ev_var 20) (ev_sub (ev_var 19) (ev_abs (by rfl) C.free_abs (ev_sub (ev_var 22) (ev_var 18))))) (ev_mul (ev_var 19) (ev_var 19))))))))) (fun _ _ _ _ _ => (ev_var 22)))) (ev_frz (nv_lst av_nil))) (ssv_one (sv_ret ev_bl)) ssv_nil)
  (ssv_one (sv_ret (ev_f0 (ok__law_cases1 C) hr (takes_of rfl rfl rfl rfl))))))))))))))))))))))))
theorem ok__law_rest1 (C : Facts P w K mg base T) : Df P w K mg base T "_law_rest1" 7 5 (mFn 23 m__law_rest1) :=
  ⟨_, _, ["dice", "table", "size", "due", "same"], C.g__law_rest1, C.d__law_rest1.kp, C.d__law_rest1.bindsN (fun _ _ _ _ _ _ us hl => match us, hl with | [_, _, _, _, _], _ => rfl), fn__law_rest1 C⟩
abbrev N_law : List Str := ["script", "dice", "step", "table", "sorts", "long", "size", "due", "same", "far", "lengths", "name", "each", "told", "first", "least", "start", "small", "by", "k", "one"]
theorem sc_law : FnScope N_law ["script"] (defScope (top 26)) := ⟨rfl, rfl, rfl, by decide +kernel, rfl, by decide +kernel, by decide +kernel⟩
def m_law : Sm := (sSeq (sFor (mItems (mCall (mFn 4 m__law_rounds) (mCons (mVar 0) (mCons (mK (.int 1)) mNil)))) (gvN 1) (sSeq (sPar [3, 4] (mCons (mMake "Table" (mFn 1 m_Table___init__) mNil) (mCons (mUn (mDnil false) fun x st => .ok (.ownd x) st) mNil)))
  (sSeq (sFor (mUn (mCons (mCall (mFn 3 m__law_roll) (mCons (mVar 1) (mCons (mK (.int 9)) mNil))) mNil) fun ds st => Res.of (dRange1 ds) st) (gvN 2) (sSeq (sPar [11, 5, 6, 12] (mCons (mBin (mUn (mSmall (mCons (mK (.str "east")) (mCons (mK (.str "west")) (mCons (mK (.str "child")) (mCons (mK (.str "")) mNil))))) fun ds st => .ok (.lst ds) st) (mUn (mCons (mK (.int 3)) (mCons (mBin (mCall (mFn 3 m__law_roll) (mCons (mVar 1) (mCons (mK (.int 10)) mNil))) (mK (.int 3)) (pure2 dDiv)) mNil)) fMin2) fun d i st => Res.of (dIx d i st) st) (mCons (mCall (mFn 3 m__law_roll) (mCons (mVar 1) (mCons (mK (.int 30)) mNil))) (mCons (mCall (mFn 3 m__law_roll) (mCons (mVar 1) (mCons (mK (.int 20)) mNil))) (mCons (mCall (mFn 3 m__law_roll) (mCons (mVar 1) (mCons (mK (.int 5)) mNil))) mNil)))))
  (sSeq (sIf (mTest (mBin (mCall (mFn 3 m__law_roll) (mCons (mVar 1) (mCons (mK (.int 4)) mNil))) (mK (.int 0)) (pure2 (dOrd fGt)))) (sSeq (sSet 7 (mIf (mOr (mTest (mBin (mVar 11) (mK (.str "")) (pure2 dEq))) (mTest (mBin (mVar 11) (mVarC 4) (pure2 dIn)))) (mK (.str "deed")) (mIf (mTest (mBin (mVar 12) (mK (.int 1)) (pure2 (dOrd fLt)))) (mK (.str "size")) (mK .non))))
  (sSeq (sSet 13 (mTold ts ws (mMeth "Table" "tell" (mFn 5 m_Table_tell) (mVar 3) (mCons (mVar 11) (mCons (mVar 5) (mCons (mVar 6) (mCons (mVar 12) mNil)))))))
  (sIf (mTest (mBin (mVar 7) (mK .non) (pure2 dIsN))) (sPut (pSlot 4) (mVar 11) (mTup (mCons (mVar 5) (mCons (mVar 6) (mCons (mVar 12) mNil))))) sPass))) (sSeq (sPar [7, 13] (mCons (mIf (mTest (mBin (mVar 11) (mVarC 4) (pure2 dIn))) (mK .non) (mK (.str "no such"))) (mCons (mTold ts ws (mMeth "Table" "forget" (mFn 2 m_Table_forget) (mVar 3) (mCons (mVar 11) mNil))) mNil)))
  (sFrz 4 (sOwnD 4 (mUn (mUn (mComp (mWalk .keys 4) [20] (gvN 20) (mTest (mBin (mVar 20) (mVar 11) (pure2 dNe))) (mTup (mCons (mVar 20) (mCons (mBin (mVar 4) (mVar 20) (pure2 dItem)) mNil)))) fun ds st => .ok (.lst ds) st) fDictP)))))
  (sIf (mOr (mTest (mBin (mVar 13) (mVar 7) (pure2 dNe))) (mTest (mBin (mMeth "Table" "shown" (mFn 2 m_Table_shown) (mVar 3) mNil) (mUn (mUn (mComp (mItems (mUn (mUn (mVarC 4) fSortedD) fun ds st => .ok (.lst ds) st)) [20] (gvN 20) mYes (mBin (mTup (mCons (mVar 20) mNil)) (mBin (mVarC 4) (mVar 20) (pure2 dItem)) (pure2 dCatT))) fun ds st => .ok (.lst ds) st) fun d st => (Res.of (dS d st) st).bind fun xs st => .ok (.tup xs) st) (pure2 dNe)))) (sRet (mK (.bl false))) sPass))))
  (sSeq (sPar [5, 6] (mCons (mCall (mFn 3 m__law_roll) (mCons (mVar 1) (mCons (mK (.int 60)) mNil))) (mCons (mCall (mFn 3 m__law_roll) (mCons (mVar 1) (mCons (mK (.int 30)) mNil))) mNil)))
  (sSeq (sFrz 4 (sIf (mNot (mTest (mCall (mFn 11 m__law_each) (mCons (mVar 3) (mCons (mVar 4) (mCons (mVar 5) (mCons (mVar 6) mNil))))))) (sRet (mK (.bl false))) sPass))
  (sSeq (sPar [7, 8] (mCons (mK (.str "no such")) (mCons (mK (.str "no such")) mNil)))
  (sSeq (sIf (mTest (mBin (mK (.str "east")) (mVarC 4) (pure2 dIn))) (sSeq (sTgt (gvT (gvCons (gvN 14) (gvCons (gvN 15) (gvCons (gvN 12) gvNil)))) (mBin (mVarC 4) (mK (.str "east")) (pure2 dItem)))
  (sSet 7 (mIf (mTest (mBin (mVar 6) (mVar 15) (pure2 (dOrd fLt)))) (mK (.str "no way")) (mK (.str "no such"))))) sPass)
  (sSeq (sIf (mAnd (mTest (mBin (mK (.str "east")) (mVarC 4) (pure2 dIn))) (mTest (mBin (mK (.str "west")) (mVarC 4) (pure2 dIn)))) (sSeq (sTgt (gvT (gvCons (gvN 14) (gvCons (gvN 15) (gvCons (gvN 12) gvNil)))) (mBin (mVarC 4) (mK (.str "east")) (pure2 dItem)))
  (sSeq (sTgt (gvT (gvCons (gvN 16) (gvCons (gvN 17) (gvCons (gvN 18) gvNil)))) (mBin (mVarC 4) (mK (.str "west")) (pure2 dItem)))
  (sSeq (sSet 9 (mBin (mVar 14) (mBin (mBin (mVar 6) (mVar 15) (pure2 dSub)) (mVar 12) (pure2 dMul)) (pure2 dAdd)))
  (sSeq (sSet 7 (mIf (mAnd (mTest (mBin (mVar 6) (mVar 15) (pure2 (dOrd fGe)))) (mTest (mBin (mVar 9) (mVar 16) (pure2 (dOrd fGe))))) (mBin (mUn (mComp (mUn (mCons (mVar 17) (mCons (mK (.int 400)) mNil)) fun ds st => Res.of (dRange2 ds) st) [19] (gvN 19) (mTest (mBin (mBin (mVar 16) (mBin (mBin (mVar 19) (mVar 17) (pure2 dSub)) (mVar 18) (pure2 dMul)) (pure2 dAdd)) (mVar 9) (pure2 (dOrd fGe)))) (mVar 19)) fun ds st => .ok (.lst ds) st) (mK (.int 0)) fun d i st => Res.of (dIx d i st) st) (mK (.str "no way"))))
  (sSeq (sSet 10 (mUn (mComp (mUn (mCons (mK (.int 200)) mNil) fun ds st => Res.of (dRange1 ds) st) [19] (gvN 19) mYes (mBin (mVar 16) (mBin (mVar 19) (mVar 18) (pure2 dMul)) (pure2 dAdd))) fun ds st => .ok (.lst ds) st))
  (sSet 8 (mUn (mUn (mComp (mUn (mCons (mVar 15) (mCons (mBin (mVar 6) (mK (.int 1)) (pure2 dAdd)) mNil)) fun ds st => Res.of (dRange2 ds) st) [19] (gvN 19) (mTest (mBin (mBin (mVar 14) (mBin (mBin (mVar 19) (mVar 15) (pure2 dSub)) (mVar 12) (pure2 dMul)) (pure2 dAdd)) (mVar 10) (pure2 dIn))) (mVar 19)) fun ds st => .ok (.lst ds) st) fun d st => (Res.of (dS d st) st).bind fun xs st => .ok (.tup xs) st))))))) sPass)
  (sIf (mNot (mTest (mCall (mFn 23 m__law_rest1) (mCons (mVar 1) (mCons (mVar 3) (mCons (mVar 6) (mCons (mVar 7) (mCons (mVar 8) mNil)))))))) (sRet (mK (.bl false))) sPass)))))))))
  (sRet (mK (.bl true))))
theorem fn_law (C : Facts P w K mg base T) : FnOk P w K mg base (L2.CX P w) 10 (He.fAd K ("law", none)) (fdOf K (He.fAd K ("law", none))) ["script"] (spOf ⟨K, mg, T⟩ 1 (mFn 21 m_law)) :=
  fn_okD (N := N_law) (ps := ["script"]) C.d_law sc_law fun A outer s H E hr =>
  (ssv_cons (sv_for (passes_of rfl) (by rfl) (iv_seq (ev_f (ok__law_rounds C) hr (takes_of rfl rfl rfl rfl) (av_cons (ev_var 0) (av_cons ev_int av_nil)) (len_cons (len_cons len_nil)))) (gv_name 1 sc_law.nd) (ssv_cons (sv_parT (by rfl) (aw_ev (ev_k0 (ok_Table___init__ C) hr (takes_of rfl rfl rfl rfl)) (aw_nvd (nv_dnilK) aw_nil)) (gns_cons 3 sc_law.nd (gns_cons 4 sc_law.nd gns_nil)))
  (ssv_cons (sv_for (passes_of rfl) (by rfl) (iv_range1 (av_cons (ev_f (ok__law_roll C) hr (takes_of rfl rfl rfl rfl) (av_cons (ev_var 1) (av_cons ev_int av_nil)) (len_cons (len_cons len_nil))) av_nil) (by rfl) C.free_range) (gv_name 2 sc_law.nd) (ssv_cons (sv_parT (by rfl) (aw_ev (ev_ix (ev_frz (nv_lst (av_cons ev_str (av_cons ev_str (av_cons ev_str (av_cons ev_str av_nil)))))) (ev_min2 (by rfl) (by rfl) C.free_min (av_cons ev_int (av_cons (ev_div (ev_f (ok__law_roll C) hr (takes_of rfl rfl rfl rfl) (av_cons (ev_var 1) (av_cons ev_int av_nil)) (len_cons (len_cons len_nil))) ev_int) av_nil)))) (aw_ev (ev_f (ok__law_roll C) hr (takes_of rfl rfl rfl rfl) (av_cons (ev_var 1) (av_cons ev_int av_nil)) (len_cons (len_cons len_nil))) (aw_ev (ev_f (ok__law_roll C) hr (takes_of rfl rfl rfl rfl) (av_cons (ev_var 1) (av_cons ev_int av_nil)) (len_cons (len_cons len_nil))) (aw_ev (ev_f (ok__law_roll C) hr (takes_of rfl rfl rfl rfl) (av_cons (ev_var 1) (av_cons ev_int av_nil)) (len_cons (len_cons len_nil))) aw_nil)))) (gns_cons 11 sc_law.nd (gns_cons 5 sc_law.nd (gns_cons 6 sc_law.nd (gns_cons 12 sc_law.nd gns_nil)))))
  (ssv_cons (sv_if (tv_gt (ev_f (ok__law_roll C) hr (takes_of rfl rfl rfl rfl) (av_cons (ev_var 1) (av_cons ev_int av_nil)) (len_cons (len_cons len_nil))) ev_int) (ssv_cons (sv_set 7 sc_law.nd (ev_if (TW.tv (tw_or (tv_eq hr.units (ev_var 11) ev_str) (tw_or1 (tv_in hr.units (ev_var 11) (cv_var 4))))) ev_str (ev_if (tv_lt (ev_var 12) ev_int) ev_str ev_non)))
  (ssv_cons (sv_set 13 sc_law.nd (ev_t C.tl C.lt_law (k := 7) hr (fun _ _ _ _ _ _ _ hl => (ev_m "Table" (ok_Table_tell C) hl (takes_of rfl rfl rfl rfl) (ev_var 3) (av_cons (ev_var 11) (av_cons (ev_var 5) (av_cons (ev_var 6) (av_cons (ev_var 12) av_nil)))) (len_cons (len_cons (len_cons (len_cons len_nil))))))))
  (ssv_one (sv_if (tv_isN (ev_var 7) ev_non) (ssv_one (sv_dput hr.u1 (pl_slot 4) (ev_var 11) (ev_tup (av_cons (ev_var 5) (av_cons (ev_var 6) (av_cons (ev_var 12) av_nil)))))) ssv_nil)))) (ssv_cons (sv_par2 (by rfl) sc_law.nd (aw_ev (ev_if (tv_in hr.units (ev_var 11) (cv_var 4)) ev_non ev_str) (aw_ev (ev_t C.tl C.lt_law (k := 7) hr (fun _ _ _ _ _ _ _ hl => (ev_m "Table" (ok_Table_forget C) hl (takes_of rfl rfl rfl rfl) (ev_var 3) (av_cons (ev_var 11) av_nil) (len_cons len_nil)))) aw_nil)) (by rfl))
  (ssv_one (sv_frz 4 (sv_ownD 4 sc_law.nd (nv_dictP (by rfl) (by rfl) C.free_dict (ev_frz (nv_compD (by rfl) sc_law.nd (ivd_keys 4) (blkOk_by (own := [("one", 20)]) (by rfl)) (fun _ _ _ _ _ => (gv_name 20 sc_law.nd)) (fun _ _ _ _ _ => (tsv_one (tv_ne hr.units (ev_var 20) (ev_var 11)))) (fun _ _ _ _ _ => (ev_tup (av_cons (ev_var 20) (av_cons (ev_dget hr.u1 (ev_var 4) (ev_var 20)) av_nil))))))))))))
  (ssv_one (sv_if (TW.tv (tw_or (tv_ne hr.units (ev_var 13) (ev_var 7)) (tw_or1 (tv_ne hr.units (ev_m0 "Table" (ok_Table_shown C) hr (takes_of rfl rfl rfl rfl) (ev_var 3)) (ev_tupOf (by rfl) C.free_tuple (ev_frz (nv_comp (by rfl) sc_law.nd (iv_seq (ev_frz (nv_sortedD (by rfl) (by rfl) C.free_sorted (cv_var 4)))) (blkOk_by (own := [("one", 20)]) (by rfl)) (fun _ _ _ _ _ => (gv_name 20 sc_law.nd)) (fun _ _ _ _ _ => tsv_nil) (fun _ _ _ _ _ => (ev_catT (ev_tup (av_cons (ev_var 20) av_nil)) (ev_dget hr.u1 (cv_var 4) (ev_var 20))))))))))) (ssv_one (sv_ret ev_bl)) ssv_nil)))))
  (ssv_cons (sv_parT (by rfl) (aw_ev (ev_f (ok__law_roll C) hr (takes_of rfl rfl rfl rfl) (av_cons (ev_var 1) (av_cons ev_int av_nil)) (len_cons (len_cons len_nil))) (aw_ev (ev_f (ok__law_roll C) hr (takes_of rfl rfl rfl rfl) (av_cons (ev_var 1) (av_cons ev_int av_nil)) (len_cons (len_cons len_nil))) aw_nil)) (gns_cons 5 sc_law.nd (gns_cons 6 sc_law.nd gns_nil)))
  (ssv_cons (sv_frz 4 (sv_if (tv_not (tv_val (ev_f (ok__law_each C) hr (takes_of rfl rfl rfl rfl) (av_cons (ev_var 3) (av_cons (ev_var 4) (av_cons (ev_var 5) (av_cons (ev_var 6) av_nil)))) (len_cons (len_cons (len_cons (len_cons len_nil))))))) (ssv_one (sv_ret ev_bl)) ssv_nil))
  (ssv_cons (sv_parT (by rfl) (aw_ev ev_str (aw_ev ev_str aw_nil)) (gns_cons 7 sc_law.nd (gns_cons 8 sc_law.nd gns_nil)))
  (ssv_cons (sv_if (tv_in hr.units ev_str (cv_var 4)) (ssv_cons (sv_tgt (ev_dget hr.u1 (cv_var 4) ev_str) (gv_tup (by rfl) (gsv_cons (gv_name 14 sc_law.nd) (gsv_cons (gv_name 15 sc_law.nd) (gsv_cons (gv_name 12 sc_law.nd) gsv_nil))) (gvl_cons (gvl_cons (gvl_cons gvl_nil)))))
  (ssv_one (sv_set 7 sc_law.nd (ev_if (tv_lt (ev_var 6) (ev_var 15)) ev_str ev_str)))) ssv_nil)
  (ssv_cons (sv_if (TW.tv (tw_and (tv_in hr.units ev_str (cv_var 4)) (tw_and1 (tv_in hr.units ev_str (cv_var 4))))) (ssv_cons (sv_tgt (ev_dget hr.u1 (cv_var 4) ev_str) (gv_tup (by rfl) (gsv_cons (gv_name 14 sc_law.nd) (gsv_cons (gv_name 15 sc_law.nd) (gsv_cons (gv_name 12 sc_law.nd) gsv_nil))) (gvl_cons (gvl_cons (gvl_cons gvl_nil)))))
  (ssv_cons (sv_tgt (ev_dget hr.u1 (cv_var 4) ev_str) (gv_tup (by rfl) (gsv_cons (gv_name 16 sc_law.nd) (gsv_cons (gv_name 17 sc_law.nd) (gsv_cons (gv_name 18 sc_law.nd) gsv_nil))) (gvl_cons (gvl_cons (gvl_cons gvl_nil)))))
  (ssv_cons (sv_set 9 sc_law.nd (ev_add (ev_var 14) (ev_mul (ev_sub (ev_var 6) (ev_var 15)) (ev_var 12))))
  (ssv_cons (sv_set 7 sc_law.nd (ev_if (TW.tv (tw_and (tv_ge (ev_var 6) (ev_var 15)) (tw_and1 (tv_ge (ev_var 9) (ev_var 16))))) (ev_ix (ev_frz (nv_comp (by rfl) sc_law.nd (iv_range2 (av_cons (ev_var 17) (av_cons ev_int av_nil)) (by rfl) C.free_range) (blkOk_by (own := [("k", 19)]) (by rfl)) (fun _ _ _ _ _ => (gv_name 19 sc_law.nd)) (fun _ _ _ _ _ => (tsv_one (tv_ge (ev_add (ev_var 16) (ev_mul (ev_sub (ev_var 19) (ev_var 17)) (ev_var 18))) (ev_var 9)))) (fun _ _ _ _ _ => (ev_var 19)))) ev_int) ev_str))
  (ssv_cons (sv_set 10 sc_law.nd (ev_frz (nv_comp (by rfl) sc_law.nd (iv_range1 (av_cons ev_int av_nil) (by rfl) C.free_range) (blkOk_by (own := [("k", 19)]) (by rfl)) (fun _ _ _ _ _ => (gv_name 19 sc_law.nd)) (fun _ _ _ _ _ => tsv_nil) (fun _ _ _ _ _ => (ev_add (ev_var 16) (ev_mul (ev_var 19) (ev_var 18)))))))
  (ssv_one (sv_set 8 sc_law.nd (ev_tupOf (by rfl) C.free_tuple (ev_frz (nv_comp (by rfl) sc_law.nd (iv_range2 (av_cons (ev_var 15) (av_cons (ev_add (ev_var 6) ev_int) av_nil)) (by rfl) C.free_range) (blkOk_by (own := [("k", 19)]) (by rfl)) (fun _ _ _ _ _ => (gv_name 19 sc_law.nd)) (fun _ _ _ _ _ => (tsv_one (tv_in hr.units (ev_add (ev_var 14) (ev_mul (ev_sub (ev_var 19) (ev_var 15)) (ev_var 12))) (ev_var 10)))) (fun _ _ _ _ _ => (ev_var 19)))))))))))) ssv_nil)
  (ssv_one (sv_if (tv_not (tv_val (ev_f (ok__law_rest1 C) hr (takes_of rfl rfl rfl rfl) (av_cons (ev_var 1) (av_cons (ev_var 3) (av_cons (ev_var 6) (av_cons (ev_var 7) (av_cons (ev_var 8) av_nil))))) (len_cons (len_cons (len_cons (len_cons (len_cons len_nil)))))))) (ssv_one (sv_ret ev_bl)) ssv_nil))))))))))
  (ssv_one (sv_ret ev_bl)))
theorem ok_law (C : Facts P w K mg base T) : Df P w K mg base T "law" 10 1 (mFn 21 m_law) :=
  ⟨_, _, ["script"], C.g_law, C.d_law.kp, C.d_law.bindsN (fun _ _ _ _ _ _ us hl => match us, hl with | [_], _ => rfl), fn_law C⟩
end
end
end K02

set_option maxRecDepth 100000
set_option maxHeartbeats 0
namespace K02
open PySem PySem.Spec PyProof.Rows L2 Ev
noncomputable section
def fa0 : List He.Fa := [.free "abs",
  .free "dict",
  .free "enumerate",
  .free "int",
  .free "len",
  .free "list",
  .free "max",
  .free "min",
  .free "range",
  .free "sorted",
  .free "str",
  .free "sum",
  .free "tuple",
  .glo "told_size",
  .glo "read_size",
  .glo "nearest_size",
  .glo "broken",
  .glo "run_of",
  .glo "bell",
  .glo "_law_dice",
  .glo "_law_roll",
  .glo "_law_rounds",
  .glo "_law_cases1",
  .glo "_law_each",
  .glo "_law_rest1",
  .glo "law",
  .glo "_law_told",
  .glo "Table",
  .cls "Table",
  .mkr "Table",
  .meth "Table" "tell",
  .meth "Table" "forget",
  .meth "Table" "size_of",
  .meth "Table" "length_of",
  .meth "Table" "shown",
  .meth "Table" "turned",
  .meth "Table" "same",
  .noat "Table" "kinds",
  .exc "BadDeed",
  .glo "BadDeed",
  .exc "BadPlan",
  .glo "BadPlan",
  .exc "BadSize",
  .glo "BadSize",
  .exc "NoSuch",
  .glo "NoSuch",
  .exc "NoWay",
  .glo "NoWay",
  .glo "BadShoe",
  .glo "NoRoom",
  .glo "BadText"]
def dom : List Str := ["BadShoe", "BadPlan", "BadSize", "NoSuch", "NoRoom", "NoWay", "BadText", "BadDeed"]
def fa : List He.Fa := fa0 ++ dom.flatMap fun y => ws.map fun p => .exm y p.1 (ts y p.1)
def D_Table___init__ : He.DefD := ⟨("Table", some "__init__"), "__init__", "Table.__init__", defArgs (mtd 11 0), defBody (mtd 11 0), defScope (mtd 11 0), [], []⟩
def D_Table_tell : He.DefD := ⟨("Table", some "tell"), "tell", "Table.tell", defArgs (mtd 11 1), defBody (mtd 11 1), defScope (mtd 11 1), [], []⟩
def D_Table_forget : He.DefD := ⟨("Table", some "forget"), "forget", "Table.forget", defArgs (mtd 11 2), defBody (mtd 11 2), defScope (mtd 11 2), [], []⟩
def D_Table_size_of : He.DefD := ⟨("Table", some "size_of"), "size_of", "Table.size_of", defArgs (mtd 11 3), defBody (mtd 11 3), defScope (mtd 11 3), [], []⟩
def D_Table_length_of : He.DefD := ⟨("Table", some "length_of"), "length_of", "Table.length_of", defArgs (mtd 11 4), defBody (mtd 11 4), defScope (mtd 11 4), [], []⟩
def D_Table_shown : He.DefD := ⟨("Table", some "shown"), "shown", "Table.shown", defArgs (mtd 11 7), defBody (mtd 11 7), defScope (mtd 11 7), [], []⟩
def D_told_size : He.DefD := ⟨("told_size", none), "told_size", "told_size", defArgs (top 12), defBody (top 12), defScope (top 12), [], []⟩
def D_read_size : He.DefD := ⟨("read_size", none), "read_size", "read_size", defArgs (top 13), defBody (top 13), defScope (top 13), [], []⟩
def D_nearest_size : He.DefD := ⟨("nearest_size", none), "nearest_size", "nearest_size", defArgs (top 14), defBody (top 14), defScope (top 14), [], []⟩
def D_broken : He.DefD := ⟨("broken", none), "broken", "broken", defArgs (top 15), defBody (top 15), defScope (top 15), [], []⟩
def D_run_of : He.DefD := ⟨("run_of", none), "run_of", "run_of", defArgs (top 16), defBody (top 16), defScope (top 16), [], []⟩
def D_bell : He.DefD := ⟨("bell", none), "bell", "bell", defArgs (top 17), defBody (top 17), defScope (top 17), [], []⟩
def D__law_dice : He.DefD := ⟨("_law_dice", none), "_law_dice", "_law_dice", defArgs (top 19), defBody (top 19), defScope (top 19), [], []⟩
def D__law_roll : He.DefD := ⟨("_law_roll", none), "_law_roll", "_law_roll", defArgs (top 20), defBody (top 20), defScope (top 20), [], []⟩
def D_Table_turned : He.DefD := ⟨("Table", some "turned"), "turned", "Table.turned", defArgs (mtd 11 5), defBody (mtd 11 5), defScope (mtd 11 5), [], []⟩
def D_Table_same : He.DefD := ⟨("Table", some "same"), "same", "Table.same", defArgs (mtd 11 6), defBody (mtd 11 6), defScope (mtd 11 6), [], []⟩
def D__law_rounds : He.DefD := ⟨("_law_rounds", none), "_law_rounds", "_law_rounds", defArgs (top 21), defBody (top 21), defScope (top 21), [], []⟩
def D__law_cases1 : He.DefD := ⟨("_law_cases1", none), "_law_cases1", "_law_cases1", defArgs (top 23), defBody (top 23), defScope (top 23), [], []⟩
def D__law_each : He.DefD := ⟨("_law_each", none), "_law_each", "_law_each", defArgs (top 25), defBody (top 25), defScope (top 25), [], []⟩
def D__law_rest1 : He.DefD := ⟨("_law_rest1", none), "_law_rest1", "_law_rest1", defArgs (top 24), defBody (top 24), defScope (top 24), [], []⟩
def D_law : He.DefD := ⟨("law", none), "law", "law", defArgs (top 26), defBody (top 26), defScope (top 26), [], []⟩
def D__law_told : He.DefD := ⟨("_law_told", none), "_law_told", "_law_told", defArgs (top 22), defBody (top 22), defScope (top 22), [], []⟩
def fn : List He.DefD := [D_Table___init__, D_Table_tell, D_Table_forget, D_Table_size_of, D_Table_length_of, D_Table_shown, D_told_size, D_read_size, D_nearest_size, D_broken, D_run_of, D_bell, D__law_dice, D__law_roll, D_Table_turned, D_Table_same, D__law_rounds, D__law_cases1, D__law_each, D__law_rest1, D_law, D__law_told]
def tf : List (He.Defn × Str) := [(("_law_cases1", none), (envOfC "_law_cases1" (defScope (top 23)) 0 0 .none).qual ++ "<lambda>"),
  (("_law_each", none), (envOfC "_law_each" (defScope (top 25)) 0 0 .none).qual ++ "<lambda>"),
  (("_law_rest1", none), (envOfC "_law_rest1" (defScope (top 24)) 0 0 .none).qual ++ "<lambda>"),
  (("law", none), (envOfC "law" (defScope (top 26)) 0 0 .none).qual ++ "<lambda>")]
def loose : List Str := (["ShoeFault", "BadShoe", "BadPlan", "BadSize", "NoSuch", "NoRoom", "NoWay", "BadText", "BadDeed", "Table", "told_size", "read_size", "nearest_size", "broken", "run_of", "bell", "_law_dice", "_law_roll", "_law_rounds", "_law_told", "_law_cases1", "_law_rest1", "_law_each"] : List Str)
abbrev Rw : PySem.W.OpenRow := PySem.W.OpenLaw.row PySem.Challenge.rw_shoehall_k02_sizes
abbrev ex (K : PySem.W.Frag) : Bool := tabsNodup tf K
abbrev hk : PySem.W.Hook := He.hookX 5 fa fn [] (tf.map (·.1)) ex
def ob (s : PySem.W.SharedT) : He.AlX := He.obsX 5 fa fn [] (tf.map (·.1)) ex (HandSHeadRun.getT s)
theorem ob_eq (s : PySem.W.SharedT) : ob s = hk.obs s.abs := He.obsX_eq (HandSHeadRun.getT_eq s)
theorem head_run (w : World) : HandSHeadRun.RunEq Rw (PySem.W.view Rw.prog [26]) hk ob 4000 loose w := by
  intro os
  kernel_rfl
section
variable {w : World} {K : PySem.W.Frag} {h : Heap} {mg : Str → Option Value}
theorem exm_of (c : He.SaysX fa fn [] (tf.map (·.1)) ex w h K) : ∀ y ∈ dom, ∀ p ∈ ws, PySem.W.exmOne K (.ref (He.ga K y)) (.ref (He.ga K p.1)) = some (ts y p.1) := fun y hy p hp =>
  He.exm_ok (c.t.d.facts (List.mem_append_right _ (List.mem_flatMap.mpr ⟨y, hy, List.mem_map.mpr ⟨p, hp, rfl⟩⟩)))
theorem tl_of (X : K.In h) (G : h.Ns mainGlobals mg) (c : He.SaysX fa fn [] (tf.map (·.1)) ex w h K) : Tl K mg ts ws "_law_told" "what" := by
  have glo : ∀ x ∈ dom, mg x = some (.ref (He.ga K x)) := by
    intro x hx
    rcases (by simpa [dom] using hx : x = "BadShoe" ∨ x = "BadPlan" ∨ x = "BadSize" ∨ x = "NoSuch" ∨ x = "NoRoom" ∨ x = "NoWay" ∨ x = "BadText" ∨ x = "BadDeed") with rfl | rfl | rfl | rfl | rfl | rfl | rfl | rfl
    · exact He.glo_ok X G (c.t.d.fact 48 (f := .glo "BadShoe") rfl)
    · exact He.glo_ok X G (c.t.d.fact 41 (f := .glo "BadPlan") rfl)
    · exact He.glo_ok X G (c.t.d.fact 43 (f := .glo "BadSize") rfl)
    · exact He.glo_ok X G (c.t.d.fact 45 (f := .glo "NoSuch") rfl)
    · exact He.glo_ok X G (c.t.d.fact 49 (f := .glo "NoRoom") rfl)
    · exact He.glo_ok X G (c.t.d.fact 47 (f := .glo "NoWay") rfl)
    · exact He.glo_ok X G (c.t.d.fact 50 (f := .glo "BadText") rfl)
    · exact He.glo_ok X G (c.t.d.fact 39 (f := .glo "BadDeed") rfl)
  have gw : ∀ p ∈ ws, mg p.1 = some (.ref (He.ga K p.1)) := fun p hp => glo p.1 ((show ∀ p ∈ ws, p.1 ∈ dom by decide +kernel) p hp)
  have F := funD_at (c.t.d.def_ 21 (d := D__law_told) rfl)
  obtain ⟨oc, od, dV, kV, doc, pm, an, cdv, ct, osl, e, lk, hcd, hD, hK⟩ := F.ex
  have hb := F.bindsN (ps := ["what"]) (fun _ _ _ _ _ _ us hl => match us, hl with | [_], _ => rfl)
  rw [e] at lk hb
  refine ⟨_, _, _, _, dV, kV, doc, pm, cdv, ct, oc, an, od, osl, ws.map fun p => (He.ga K p.1, p.2), He.glo_ok X G (c.t.d.fact 26 (f := .glo "_law_told") rfl), F.kp, lk, hcd, hb, ⟨rfl, rfl, rfl, by decide +kernel, rfl, by decide +kernel, by decide +kernel⟩, .inl rfl, fun X2 q eK em => ?_,
    clsAll_of (dom := dom) (fun y x hyx => ?_) glo (exm_of c)⟩
  · rw [← eK]
    have hmg : ∀ p ∈ ws, X2.mg p.1 = some (.ref (He.ga X2.K p.1)) := fun p hp => by rw [em, eK]; exact gw p hp
    exact told_gives_many (fun f => rfl) fun s H => (.cons (names_of (by rfl) (hmg ("BadSize", "size") (by decide +kernel))) (fun _ _ _ _ _ _ _ => pss_one (ps_ret pe_str)) (.cons (names_of (by rfl) (hmg ("BadShoe", "shoe") (by decide +kernel))) (fun _ _ _ _ _ _ _ => pss_one (ps_ret pe_str)) (.cons (names_of (by rfl) (hmg ("BadPlan", "plan") (by decide +kernel))) (fun _ _ _ _ _ _ _ => pss_one (ps_ret pe_str)) (.cons (names_of (by rfl) (hmg ("NoSuch", "no such") (by decide +kernel))) (fun _ _ _ _ _ _ _ => pss_one (ps_ret pe_str)) (.cons (names_of (by rfl) (hmg ("NoRoom", "no room") (by decide +kernel))) (fun _ _ _ _ _ _ _ => pss_one (ps_ret pe_str)) (.cons (names_of (by rfl) (hmg ("NoWay", "no way") (by decide +kernel))) (fun _ _ _ _ _ _ _ => pss_one (ps_ret pe_str)) (.cons (names_of (by rfl) (hmg ("BadText", "text") (by decide +kernel))) (fun _ _ _ _ _ _ _ => pss_one (ps_ret pe_str)) (.cons (names_of (by rfl) (hmg ("BadDeed", "deed") (by decide +kernel))) (fun _ _ _ _ _ _ _ => pss_one (ps_ret pe_str)) .nil))))))))
  · have : (y, x) ∈ below := by simpa [ts] using hyx
    have z : y ∈ below.map (·.1) := List.mem_map.mpr ⟨_, this, rfl⟩
    exact (show ∀ a ∈ below.map (·.1), a ∈ dom by decide +kernel) y z
theorem facts_of {P : Program} {base : Heap} (X : K.In h) (G : h.Ns mainGlobals mg) (c : He.SaysX fa fn [] (tf.map (·.1)) ex w h K) (TB : ∀ p ∈ tf.map (fun p => He.cT K p.1), LamX.TabB base mg p.1 p.2) : Facts P w K mg base (lamT K tf) := by
  exact {
    free_abs := He.free_ok X G (c.t.d.fact 0 (f := .free "abs") rfl)
    free_dict := He.free_ok X G (c.t.d.fact 1 (f := .free "dict") rfl)
    free_enumerate := He.free_ok X G (c.t.d.fact 2 (f := .free "enumerate") rfl)
    free_int := He.free_ok X G (c.t.d.fact 3 (f := .free "int") rfl)
    free_len := He.free_ok X G (c.t.d.fact 4 (f := .free "len") rfl)
    free_list := He.free_ok X G (c.t.d.fact 5 (f := .free "list") rfl)
    free_max := He.free_ok X G (c.t.d.fact 6 (f := .free "max") rfl)
    free_min := He.free_ok X G (c.t.d.fact 7 (f := .free "min") rfl)
    free_range := He.free_ok X G (c.t.d.fact 8 (f := .free "range") rfl)
    free_sorted := He.free_ok X G (c.t.d.fact 9 (f := .free "sorted") rfl)
    free_str := He.free_ok X G (c.t.d.fact 10 (f := .free "str") rfl)
    free_sum := He.free_ok X G (c.t.d.fact 11 (f := .free "sum") rfl)
    free_tuple := He.free_ok X G (c.t.d.fact 12 (f := .free "tuple") rfl)
    d_Table___init__ := funD_at (c.t.d.def_ 0 (d := D_Table___init__) rfl)
    d_Table_tell := funD_at (c.t.d.def_ 1 (d := D_Table_tell) rfl)
    d_Table_forget := funD_at (c.t.d.def_ 2 (d := D_Table_forget) rfl)
    d_Table_size_of := funD_at (c.t.d.def_ 3 (d := D_Table_size_of) rfl)
    d_Table_length_of := funD_at (c.t.d.def_ 4 (d := D_Table_length_of) rfl)
    d_Table_shown := funD_at (c.t.d.def_ 5 (d := D_Table_shown) rfl)
    g_told_size := He.glo_ok X G (c.t.d.fact 13 (f := .glo "told_size") rfl)
    d_told_size := funD_at (c.t.d.def_ 6 (d := D_told_size) rfl)
    g_read_size := He.glo_ok X G (c.t.d.fact 14 (f := .glo "read_size") rfl)
    d_read_size := funD_at (c.t.d.def_ 7 (d := D_read_size) rfl)
    g_nearest_size := He.glo_ok X G (c.t.d.fact 15 (f := .glo "nearest_size") rfl)
    d_nearest_size := funD_at (c.t.d.def_ 8 (d := D_nearest_size) rfl)
    g_broken := He.glo_ok X G (c.t.d.fact 16 (f := .glo "broken") rfl)
    d_broken := funD_at (c.t.d.def_ 9 (d := D_broken) rfl)
    g_run_of := He.glo_ok X G (c.t.d.fact 17 (f := .glo "run_of") rfl)
    d_run_of := funD_at (c.t.d.def_ 10 (d := D_run_of) rfl)
    g_bell := He.glo_ok X G (c.t.d.fact 18 (f := .glo "bell") rfl)
    d_bell := funD_at (c.t.d.def_ 11 (d := D_bell) rfl)
    g__law_dice := He.glo_ok X G (c.t.d.fact 19 (f := .glo "_law_dice") rfl)
    d__law_dice := funD_at (c.t.d.def_ 12 (d := D__law_dice) rfl)
    g__law_roll := He.glo_ok X G (c.t.d.fact 20 (f := .glo "_law_roll") rfl)
    d__law_roll := funD_at (c.t.d.def_ 13 (d := D__law_roll) rfl)
    d_Table_turned := funD_at (c.t.d.def_ 14 (d := D_Table_turned) rfl)
    d_Table_same := funD_at (c.t.d.def_ 15 (d := D_Table_same) rfl)
    g__law_rounds := He.glo_ok X G (c.t.d.fact 21 (f := .glo "_law_rounds") rfl)
    d__law_rounds := funD_at (c.t.d.def_ 16 (d := D__law_rounds) rfl)
    g__law_cases1 := He.glo_ok X G (c.t.d.fact 22 (f := .glo "_law_cases1") rfl)
    d__law_cases1 := funD_at (c.t.d.def_ 17 (d := D__law_cases1) rfl)
    g__law_each := He.glo_ok X G (c.t.d.fact 23 (f := .glo "_law_each") rfl)
    d__law_each := funD_at (c.t.d.def_ 18 (d := D__law_each) rfl)
    g__law_rest1 := He.glo_ok X G (c.t.d.fact 24 (f := .glo "_law_rest1") rfl)
    d__law_rest1 := funD_at (c.t.d.def_ 19 (d := D__law_rest1) rfl)
    g_law := He.glo_ok X G (c.t.d.fact 25 (f := .glo "law") rfl)
    d_law := funD_at (c.t.d.def_ 20 (d := D_law) rfl)
    gc_Table := He.glo_ok X G (c.t.d.fact 27 (f := .glo "Table") rfl)
    cl_Table := He.cls_ok (c.t.d.fact 28 (f := .cls "Table") rfl)
    mk_Table := He.mkr_ok (c.t.d.fact 29 (f := .mkr "Table") rfl)
    mt_Table_tell := He.meth_ok (c.t.d.fact 30 (f := .meth "Table" "tell") rfl)
    mt_Table_forget := He.meth_ok (c.t.d.fact 31 (f := .meth "Table" "forget") rfl)
    mt_Table_size_of := He.meth_ok (c.t.d.fact 32 (f := .meth "Table" "size_of") rfl)
    mt_Table_length_of := He.meth_ok (c.t.d.fact 33 (f := .meth "Table" "length_of") rfl)
    mt_Table_shown := He.meth_ok (c.t.d.fact 34 (f := .meth "Table" "shown") rfl)
    mt_Table_turned := He.meth_ok (c.t.d.fact 35 (f := .meth "Table" "turned") rfl)
    mt_Table_same := He.meth_ok (c.t.d.fact 36 (f := .meth "Table" "same") rfl)
    a_Table_kinds := ⟨_, He.glo_ok X G (c.t.d.fact 27 (f := .glo "Table") rfl), He.cls_ok (c.t.d.fact 28 (f := .cls "Table") rfl), He.noat_ok (c.t.d.fact 37 (f := .noat "Table" "kinds") rfl)⟩
    e_BadDeed := ⟨_, He.glo_ok X G (c.t.d.fact 39 (f := .glo "BadDeed") rfl), He.exc_ok (c.t.d.fact 38 (f := .exc "BadDeed") rfl)⟩
    e_BadPlan := ⟨_, He.glo_ok X G (c.t.d.fact 41 (f := .glo "BadPlan") rfl), He.exc_ok (c.t.d.fact 40 (f := .exc "BadPlan") rfl)⟩
    e_BadSize := ⟨_, He.glo_ok X G (c.t.d.fact 43 (f := .glo "BadSize") rfl), He.exc_ok (c.t.d.fact 42 (f := .exc "BadSize") rfl)⟩
    e_NoSuch := ⟨_, He.glo_ok X G (c.t.d.fact 45 (f := .glo "NoSuch") rfl), He.exc_ok (c.t.d.fact 44 (f := .exc "NoSuch") rfl)⟩
    e_NoWay := ⟨_, He.glo_ok X G (c.t.d.fact 47 (f := .glo "NoWay") rfl), He.exc_ok (c.t.d.fact 46 (f := .exc "NoWay") rfl)⟩
    tl := tl_of X G c
    lt__law_cases1 := lt_of (funD_at (c.t.d.def_ 17 (d := D__law_cases1) rfl)) c.more (by simp [tf]) TB
    lt__law_each := lt_of (funD_at (c.t.d.def_ 18 (d := D__law_each) rfl)) c.more (by simp [tf]) TB
    lt__law_rest1 := lt_of (funD_at (c.t.d.def_ 19 (d := D__law_rest1) rfl)) c.more (by simp [tf]) TB
    lt_law := lt_of (funD_at (c.t.d.def_ 20 (d := D_law) rfl)) c.more (by simp [tf]) TB }
end
theorem law_in (plain : ∀ ns : List Int, ns.length ≤ 63 → (∀ z ∈ ns, Builtin.Int.intBits z ≤ 1048576) → ∃ st, mFn 21 m_law [.lst (ns.map .int)] [] = .ok (.bl true) st) {w : World} {K : PySem.W.Frag} {h : Heap} {mg : Str → Option Value} {f : Addr} (X : K.In h) (G : h.Ns mainGlobals mg) (c : He.SaysX fa fn [] (tf.map (·.1)) ex w h K) (hf : mg "law" = some (.ref f)) :
    LamX.LawAtS PySem.Challenge.rw_shoehall_k02_sizes w K (L2.CX PySem.Challenge.rw_shoehall_k02_sizes.prog w) 10 63 "script" mg f h := by
  have g : mg "law" = some (.ref (He.fAd K ("law", none))) := He.glo_ok X G (c.t.d.fact 25 (f := .glo "law") rfl)
  rw [hf] at g
  cases g
  refine law_at (tf := tf) X c (fun s u => ?_) plain fun base KB GB TB => fn_law (facts_of (P := PySem.Challenge.rw_shoehall_k02_sizes.prog) (base := base) X G c TB)
  exact FunD.bindsA (ps := ["script"]) (funD_at (c.t.d.def_ 20 (d := D_law) rfl)) (fun _ _ _ _ _ _ us hl => match us, hl with | [_], _ => rfl) s [u] rfl

end
end K02

set_option maxRecDepth 100000
set_option maxHeartbeats 4000000
namespace K02
open PySem PySem.Spec PyProof.Rows L2 Ev
theorem roll_eq {a b c many : Int} {i : Nat} {st : Sto} {P : D → Sto → Prop} {E : Exn → Sto → Prop} (hi : st[i]? = some (.ls [.int a, .int b, .int c])) (h0 : 0 < many) (h1 : many < 1073741824)
    (h : ∀ v a b c, 0 ≤ v → v < many → P (.int v) (st.set i (.ls [.int a, .int b, .int c]))) : wpR (mFn 3 m__law_roll [.loc i, .int many] st) P E := by
  have hl : i < st.length := (List.getElem?_eq_some_iff.mp hi).1
  have e1 := Int.emod_nonneg
  rw [wp_fn]
  unfold m__law_roll
  simp only [wo_seq, wo_if]
  by_cases hc : c = 2 ∨ (c = 1 ∧ 0 < a)
  · have key : wpR (mOr (mTest (mBin (mBin (mVar 0) (mK (.int 2)) fun d i st => Res.of (dIx d i st) st) (mK (.int 2)) (pure2 dEq))) (mAnd (mTest (mBin (mBin (mVar 0) (mK (.int 2)) fun d i st => Res.of (dIx d i st) st) (mK (.int 1)) (pure2 dEq))) (mTest (mBin (mBin (mVar 0) (mK (.int 0)) fun d i st => Res.of (dIx d i st) st) (mK (.int 0)) (pure2 (dOrd fGt))))) [some (.loc i), some (.int many), none] st) (fun k st' => k = true ∧ st' = st) (fun _ _ => False) := by
      simp [dIx_loc hi]
      rcases hc with rfl | ⟨rfl, h⟩ <;> simp [*]
    refine key.imp (fun k st' q => ?_) (fun _ _ z => z.elim)
    rw [q.1, q.2]
    simp [dIx_loc hi, dMod_i h0, dDiv_i h0 h1, contL_obj hi]
    exact h _ _ _ _ (Int.emod_nonneg _ (by omega)) (Int.emod_lt_of_pos _ h0)
  · have key : wpR (mOr (mTest (mBin (mBin (mVar 0) (mK (.int 2)) fun d i st => Res.of (dIx d i st) st) (mK (.int 2)) (pure2 dEq))) (mAnd (mTest (mBin (mBin (mVar 0) (mK (.int 2)) fun d i st => Res.of (dIx d i st) st) (mK (.int 1)) (pure2 dEq))) (mTest (mBin (mBin (mVar 0) (mK (.int 0)) fun d i st => Res.of (dIx d i st) st) (mK (.int 0)) (pure2 (dOrd fGt))))) [some (.loc i), some (.int many), none] st) (fun k st' => k = false ∧ st' = st) (fun _ _ => False) := by
      simp [dIx_loc hi]
      have h2 : c ≠ 2 := fun z => hc (.inl z)
      by_cases h3 : c = 1
      · subst h3
        have h4 : a ≤ 0 := by
          have := fun z => hc (.inr ⟨rfl, z⟩)
          omega
        simp [h4]
      · simp [h2, h3]
    refine key.imp (fun k st' q => ?_) (fun _ _ z => z.elim)
    rw [q.1, q.2]
    clear key
    simp only [Bool.false_eq_true, false_implies, true_implies, true_and, wo_pass, forall_const, reduceCtorEq]
    have s1 : (st.set i (.ls [.int a, .int b, .int 0]))[i]? = some (.ls [.int a, .int b, .int 0]) := List.getElem?_set_self hl
    simp [contL_obj hi]
    generalize h5 : (a * 48271 + b * 69621 + 11) % 2147483647 = a2
    have s2 : (st.set i (.ls [.int a2, .int b, .int 0]))[i]? = some (.ls [.int a2, .int b, .int 0]) := List.getElem?_set_self hl
    have s3 : (st.set i (.ls [.int a2, .int (b + 1), .int 0]))[i]? = some (.ls [.int a2, .int (b + 1), .int 0]) := List.getElem?_set_self hl
    simp [dIx_loc s1, dIx_loc s2, dIx_loc s3, contL_obj s1, contL_obj s2, contL_obj s3, dMul_i, dMod_i, dDiv_i, h5, h0]
    exact h _ _ _ _ (Int.emod_nonneg _ (by omega)) (Int.emod_lt_of_pos _ h0)
end K02

set_option maxRecDepth 100000
set_option maxHeartbeats 4000000
namespace K02
open PySem PySem.Spec PyProof.Rows L2 Ev
/-- a kind: the first length, the first size, the step -/
abbrev Kd := Int × Int × Int
abbrev kd (v : Kd) : D := .tup [.int v.1, .int v.2.1, .int v.2.2]
abbrev Ks := List (Str × Kd)
def fsT (l : Ks) : List (Str × D) := [("kinds", .ownd (false, tb kd l))]
def tabO (l : Ks) : SObj := .ins "Table" (fsT l)
def Tab (st : Sto) (n : Nat) (l : Ks) : Prop := st[n]? = some (tabO l)
section
variable {st : Sto} {n : Nat} {l : Ks} {P : D → Sto → Prop} {E : Exn → Sto → Prop} {x y : Str} {a b c : Int}
theorem tab_ob (h : Tab st n l) : objAt (.loc n) st "Table" = some (n, fsT l) := objAt_loc h
@[simp] theorem fsT_look : (fsT l).lookup ("kinds" : Str) = some (.ownd (false, tb kd l)) := by simp [fsT, List.lookup]
@[simp] theorem fsT_put {l' : Ks} : putD "kinds" (.ownd (false, tb kd l')) (fsT l) = fsT l' := by simp [putD, fsT]
theorem tab_cont {env : Ev.Env} (h : Tab st n l) : contD (.fld n "kinds") env st = some (false, tb kd l) := contD_fld h fsT_look
theorem tab_set {env : Ev.Env} {l' : Ks} (h : Tab st n l) : setDc (.fld n "kinds") (false, tb kd l') env st = (env, st.set n (tabO l')) := by rw [setDc_fld h]; simp [tabO]
@[simp] theorem kd_put : dPut (tb kd l) (.str x) (.tup [.int a, .int b, .int c]) = tb kd (pt l x (a, b, c)) := put_s kd l x (a, b, c)
theorem init_wp (h : st[n]? = some (.ins "Table" [])) (k : P .non (st.set n (tabO []))) : wpR (mFn 1 m_Table___init__ [.loc n] st) P E := by
  rw [wp_fn]
  unfold m_Table___init__
  simp [-Prod.exists, objAt_loc h, putD]
  exact k
theorem tell_wp (h : Tab st n l) (hz : l.length < 1000) (h1 : (x = "" ∨ (lk l x).isSome = true) → E ⟨"BadDeed", []⟩ st) (h2 : ¬ (x = "" ∨ (lk l x).isSome = true) → (a < 0 ∨ b < 0 ∨ c < 1) → E ⟨"BadSize", []⟩ st)
    (h3 : ¬ (x = "" ∨ (lk l x).isSome = true) → ¬ (a < 0 ∨ b < 0 ∨ c < 1) → P .non (st.set n (tabO (pt l x (a, b, c))))) : wpR (mFn 5 m_Table_tell [.loc n, .str x, .int a, .int b, .int c] st) P E := by
  rw [wp_fn]
  unfold m_Table_tell
  simp [-Prod.exists, tab_ob h, tab_cont h, tab_set h]
  by_cases e1 : x = ""
  · exact .inr ⟨e1, h1 (.inl e1)⟩
  · refine .inl ⟨e1, ?_⟩
    cases e2 : lk l x with
    | some v => exact .inr ⟨rfl, h1 (.inr (by rw [e2]; rfl))⟩
    | none =>
      have hn : ¬ (x = "" ∨ (lk l x).isSome = true) := by rw [e2]; simp [e1]
      refine .inl ⟨rfl, ?_⟩
      by_cases e3 : (if b < a then b else a) < 0
      · exact .inr ⟨e3, h2 hn (by split at e3 <;> omega)⟩
      · refine .inl ⟨by omega, ?_⟩
        by_cases e4 : c < 1
        · exact .inr ⟨e4, h2 hn (by omega)⟩
        · exact .inl ⟨by omega, by omega, h3 hn (by split at e3 <;> omega)⟩
theorem forget_wp (h : Tab st n l) (h1 : lk l x = none → E ⟨"NoSuch", []⟩ st) (h2 : (lk l x).isSome = true → P .non (st.set n (tabO (dr l x)))) : wpR (mFn 2 m_Table_forget [.loc n, .str x] st) P E := by
  rw [wp_fn]
  unfold m_Table_forget
  simp [-Prod.exists, tab_ob h, tab_cont h, tab_set h]
  cases e : lk l x with
  | none => exact .inr ⟨rfl, h1 e⟩
  | some v => exact .inl ⟨rfl, h2 (by rw [e]; rfl)⟩
theorem size_wp (h : Tab st n l) (h1 : lk l x = none → E ⟨"NoSuch", []⟩ st) (h2 : ∀ f s e, lk l x = some (f, s, e) → a < f → E ⟨"NoWay", []⟩ st)
    (h3 : ∀ f s e, lk l x = some (f, s, e) → f ≤ a → (0 < e ∧ e < 1073741824) ∧ P (.int (s - (0 - (a - f)) / e)) st) : wpR (mFn 6 m_Table_size_of [.loc n, .str x, .int a] st) P E := by
  rw [wp_fn]
  unfold m_Table_size_of
  cases e : lk l x with
  | none => simp [-Prod.exists, tab_ob h, e]; exact h1 e
  | some v =>
    obtain ⟨f, s, t⟩ := v
    by_cases ha : a < f
    · simp [-Prod.exists, tab_ob h, e, gvT, gvCons, gvN, gvNil, ha]; exact h2 _ _ _ e ha
    · obtain ⟨k1, k2⟩ := h3 _ _ _ e (by omega)
      simp [-Prod.exists, tab_ob h, e, gvT, gvCons, gvN, gvNil, ha, dDiv_i k1.1 k1.2]
      rw [Int.zero_sub] at k2
      exact k2
theorem length_wp (h : Tab st n l) (h1 : lk l x = none → E ⟨"NoSuch", []⟩ st) (h2 : ∀ f s e, lk l x = some (f, s, e) → a < s → E ⟨"NoWay", []⟩ st)
    (h3 : ∀ f s e, lk l x = some (f, s, e) → s ≤ a → (0 ≤ e ∧ e < 1073741824) ∧ P (.int (f + (a - s) * e)) st) : wpR (mFn 6 m_Table_length_of [.loc n, .str x, .int a] st) P E := by
  rw [wp_fn]
  unfold m_Table_length_of
  cases e : lk l x with
  | none => simp [-Prod.exists, tab_ob h, e]; exact h1 e
  | some v =>
    obtain ⟨f, s, t⟩ := v
    by_cases ha : a < s
    · simp [-Prod.exists, tab_ob h, e, gvT, gvCons, gvN, gvNil, ha]; exact h2 _ _ _ e ha
    · obtain ⟨k1, k2⟩ := h3 _ _ _ e (by omega)
      simp [-Prod.exists, tab_ob h, e, gvT, gvCons, gvN, gvNil, ha, dMul_i (i := a - s) (j := t) (.inr ⟨by omega, by omega⟩)]
      exact k2
theorem wp_val {α : Type} {r : Res α} {v : α} {st : Sto} {P : α → Sto → Prop} {E : Exn → Sto → Prop} (h : r = .ok v st) (k : P v st) : wpR r P E := by rw [h]; exact k
/-- what an own comprehension without effects gives -/
theorem wp_comp {it : M (List D)} {vs : List Nat} {g : D → Ev.Env → Option Ev.Env} {t : M Bool} {el : M D} {env : Ev.Env} {P : List D → Sto → Prop} (F : D → Option D) (hi : wpR (it env st) (fun ds st' => ds.length ≤ 1000000 ∧ (∀ d ∈ ds, ∃ env1, g d (wipeE env vs) = some env1 ∧ ((∃ y, t env1 st' = .ok true st' ∧ el env1 st' = .ok y st' ∧ F d = some y) ∨ (t env1 st' = .ok false st' ∧ F d = none))) ∧ P (ds.filterMap F) st') E) :
    wpR (mComp it vs g t el env st) P E := by
  unfold mComp
  rw [wp_bind]
  refine hi.imp (fun ds st' ⟨q1, q2, q3⟩ => ?_) (fun _ _ z => z)
  rw [if_pos q1, comp_pure F q2]
  simpa using q3
theorem turned_wp (h : Tab st n l) (h1 : (lk l x = none ∨ (∃ f s e, lk l x = some (f, s, e) ∧ s ≤ a) ∧ lk l y = none) → E ⟨"NoSuch", []⟩ st)
    (h2 : ∀ f s e, lk l x = some (f, s, e) → (a < s ∨ (s ≤ a ∧ ∃ f' s' e', lk l y = some (f', s', e') ∧ f + (a - s) * e < f')) → E ⟨"NoWay", []⟩ st)
    (h3 : ∀ f s e f' s' e', lk l x = some (f, s, e) → lk l y = some (f', s', e') → s ≤ a → f' ≤ f + (a - s) * e → P (.int (s' - (0 - (f + (a - s) * e - f')) / e')) st) (hk : ∀ z f s e, lk l z = some (f, s, e) → 0 < e ∧ e < 1073741824) :
    wpR (mFn 4 m_Table_turned [.loc n, .str x, .int a, .str y] st) P E := by
  rw [wp_fn]
  unfold m_Table_turned
  have n1 : (fsT l).lookup ("size_of" : Str) = none := by
    have : (("size_of" : Str) == ("kinds" : Str)) = false := by decide
    simp only [fsT, List.lookup, this]
  have n2 : (fsT l).lookup ("length_of" : Str) = none := by
    have : (("length_of" : Str) == ("kinds" : Str)) = false := by decide
    simp only [fsT, List.lookup, this]
  simp [-Prod.exists, -List.lookup_eq_none_iff, tab_ob h, n1, n2]
  refine length_wp h (fun e => h1 (.inl e)) (fun f s e e1 e2 => h2 f s e e1 (.inl e2)) fun f s e e1 e2 => ⟨⟨by have := hk _ _ _ _ e1; omega, (hk _ _ _ _ e1).2⟩, ?_⟩
  exact size_wp h (fun e3 => h1 (.inr ⟨⟨f, s, e, e1, e2⟩, e3⟩)) (fun f' s' e' e3 e4 => h2 f s e e1 (.inr ⟨e2, f', s', e', e3, e4⟩)) fun f' s' e' e3 e4 => ⟨hk _ _ _ _ e3, h3 _ _ _ _ _ _ e1 e3 e2 e4⟩
end
end K02

set_option maxRecDepth 100000
set_option maxHeartbeats 4000000
namespace K02
open PySem PySem.Spec PyProof.Rows L2 Ev
section
variable {st : Sto} {n : Nat} {l : Ks} {P : D → Sto → Prop} {E : Exn → Sto → Prop} {x y : Str} {a b c : Int}
theorem keysInt_tb {α : Type} (f : α → D) (p : Str × α) (r : List (Str × α)) : keysInt (tb f (p :: r)) = none := rfl
theorem keysStr_tb {α : Type} (f : α → D) : ∀ l : List (Str × α), keysStr (tb f l) = some (l.map (·.1))
  | [] => rfl
  | p :: r => by
    show (keysStr (tb f r)).map _ = _
    rw [keysStr_tb f r]; rfl
def skeys {α : Type} (l : List (Str × α)) : List Str := (l.map (·.1)).mergeSort leS
theorem sortedD_tb {α : Type} (f : α → D) (l : List (Str × α)) (h : l.length < 64) : fSortedD (.dct (false, tb f l)) st = .ok ((skeys l).map .str) st := by
  unfold fSortedD
  cases l with
  | nil => simp [keysInt, tb, skeys]
  | cons p r =>
    have h' : (tb f (p :: r)).length < 64 := by rw [tb_len]; exact h
    simp only [h', if_true, keysInt_tb, keysStr_tb]
    rfl
theorem mem_skeys {α : Type} {l : List (Str × α)} {k : Str} : k ∈ skeys l → ∃ v, lk l k = some v := fun h => by
  unfold skeys at h
  rw [List.mem_mergeSort] at h
  obtain ⟨p, hp, rfl⟩ := List.mem_map.mp h
  unfold lk
  cases e : l.find? fun q => decide (q.1 = p.1) with
  | some q => exact ⟨q.2, rfl⟩
  | none =>
    have := List.find?_eq_none.mp e p hp
    simp at this
/-- what is shown of a table -/
def showL (l : Ks) : D := .tup ((skeys l).filterMap fun k => (lk l k).map fun v => .tup [.str k, .int v.1, .int v.2.1, .int v.2.2])
theorem shown_wp (h : Tab st n l) (hl : l.length < 64) (k : P (showL l) st) : wpR (mFn 2 m_Table_shown [.loc n] st) P E := by
  rw [wp_fn]
  unfold m_Table_shown
  simp only [wo_ret, wp_mUn]
  refine wp_comp (fun d => match d with | .str k => (lk l k).map fun v => .tup [.str k, .int v.1, .int v.2.1, .int v.2.2] | _ => none) ?_
  simp [-Prod.exists, tab_ob h, sortedD_tb kd l hl, D.items]
  refine ⟨?_, fun z hz => ?_, ?_⟩
  · have : (skeys l).length = l.length := by simp [skeys, List.length_mergeSort]
    omega
  · obtain ⟨v, e⟩ := mem_skeys hz
    refine ⟨_, rfl, .inl ⟨rfl, .tup [.str z, .int v.1, .int v.2.1, .int v.2.2], ?_, v, e, rfl⟩⟩
    refine wp_eq ?_
    simp [-Prod.exists, tab_ob h, wipeE, e, dCatT]
  · first
      | exact ⟨_, rfl, k⟩
      | exact k
end
end K02

set_option maxRecDepth 100000
set_option maxHeartbeats 4000000
namespace K02
open PySem PySem.Spec PyProof.Rows L2 Ev
section
variable {st : Sto} {n : Nat} {l : Ks} {P : D → Sto → Prop} {E : Exn → Sto → Prop} {x y : Str} {a b c : Int}
def sameL (f s e f' e' most : Int) : List Int := (rng s (most + 1 - s).toNat).filter fun k => decide (f' ≤ f + (k - s) * e) && decide ((f + (k - s) * e - f') % e' = 0)
def smP (f s e f' e' : Int) (k : Int) : Bool := decide (f' ≤ f + (k - s) * e) && decide ((f + (k - s) * e - f') % e' = 0)
theorem sameL_is (f s e f' e' most : Int) : sameL f s e f' e' most = (rng s (most + 1 - s).toNat).filter (smP f s e f' e') := rfl
def SameInv (st : Sto) (n : Nat) (x y : Str) (a f s e f' e' : Int) (ds : List D) (env : Ev.Env) (s1 : Sto) : Prop :=
  s1 = st ∧ ∃ pre suf u v, ds = suf.map D.int ∧ rng s (a + 1 - s).toNat = pre ++ suf ∧ env = [some (.loc n), some (.str x), some (.str y), some (.int a), some (.own ((pre.filter (smP f s e f' e')).map D.int)), u, v]
theorem same_wp (h : Tab st n l) (h1 : (lk l x = none ∨ lk l y = none) → E ⟨"NoSuch", []⟩ st)
    (h2 : ∀ f s e f' s' e', lk l x = some (f, s, e) → lk l y = some (f', s', e') → P (.tup ((sameL f s e f' e' a).map D.int)) st) (hk : ∀ z f s e, lk l z = some (f, s, e) → (0 < e ∧ e < 1073741824) ∧ 0 ≤ s ∧ s ≤ 100000) (ha : -1000 ≤ a ∧ a ≤ 100000) :
    wpR (mFn 7 m_Table_same [.loc n, .str x, .str y, .int a] st) P E := by
  rw [wp_fn]
  unfold m_Table_same
  cases e1 : lk l x with
  | none => simp [-Prod.exists, tab_ob h, e1]; exact h1 (.inl e1)
  | some v =>
    cases e2 : lk l y with
    | none => simp [-Prod.exists, tab_ob h, e1, e2]; exact h1 (.inr e2)
    | some v' =>
      obtain ⟨f, s, e⟩ := v
      obtain ⟨f', s', e'⟩ := v'
      obtain ⟨⟨k1, k2⟩, k3, k4⟩ := hk _ _ _ _ e1
      obtain ⟨⟨k5, k6⟩, k7, k8⟩ := hk _ _ _ _ e2
      have n2 : (fsT l).lookup ("length_of" : Str) = none := by
        have : (("length_of" : Str) == ("kinds" : Str)) = false := by decide
        simp only [fsT, List.lookup, this]
      simp [-Prod.exists, -List.lookup_eq_none_iff, -List.map_append, tab_ob h, e1, e2, dRange2]
      refine ⟨_, ⟨by omega, rfl⟩, ?_⟩
      rw [rangeL_rng]
      refine wo_loop (SameInv st n x y a f s e f' e') ?_ ?_ ?_
      · rintro d ds env s1 ⟨rfl, pre, suf, u, v, hd, hr, rfl⟩
        cases suf with
        | nil => cases hd
        | cons k suf =>
          have hd' : d = .int k ∧ ds = suf.map D.int := by simpa using hd
          obtain ⟨rfl, rfl⟩ := hd'
          have hk' : k ∈ rng s (a + 1 - s).toNat := by rw [hr]; simp
          rw [mem_rng] at hk'
          have hpre : pre.length < 1000000 := by
            have := congrArg List.length hr
            simp [rng] at this
            omega
          refine ⟨_, rfl, ?_⟩
          simp [-Prod.exists, -List.lookup_eq_none_iff, tab_ob h, n2]
          refine length_wp h (fun z => by rw [e1] at z; cases z) (fun f2 s2 e2' z hlt => by rw [e1] at z; cases z; omega) fun f2 s2 e2' z hge => ⟨by rw [e1] at z; cases z; exact ⟨by omega, k2⟩, ?_⟩
          rw [e1] at z; cases z
          have sm : smP f s e f' e' k = (decide (f' ≤ f + (k - s) * e) && decide ((f + (k - s) * e - f') % e' = 0)) := rfl
          have go : ∀ b : Bool, smP f s e f' e' k = b → SameInv s1 n x y a f s e f' e' (suf.map D.int) [some (.loc n), some (.str x), some (.str y), some (.int a), some (.own (((pre.filter (smP f s e f' e')) ++ (if b = true then [k] else [])).map D.int)), some (.int k), some (.int (f + (k - s) * e))] s1 := fun b hb =>
            ⟨rfl, pre ++ [k], suf, some (.int k), some (.int (f + (k - s) * e)), rfl, by rw [hr]; simp, by rw [List.filter_append]; cases b <;> simp [hb]⟩
          by_cases c1 : f' ≤ f + (k - s) * e
          · by_cases c2 : (f + (k - s) * e - f') % e' = 0
            · have g := go true (by rw [sm]; simp [c1, c2])
              simp [-Prod.exists, tab_ob h, e2, c1, c2, dMod_i k5, contL, setL]
              refine ⟨?_, ?_⟩
              · have := List.length_filter_le (smP f s e f' e') pre
                omega
              · simpa using g
            · have g := go false (by rw [sm]; simp [c1, c2])
              simp [-Prod.exists, tab_ob h, e2, c1, c2, dMod_i k5, contL, setL]
              simpa using g
          · have g := go false (by rw [sm]; simp [c1])
            simp [-Prod.exists, tab_ob h, e2, c1]
            simpa using g
      · rintro env s1 ⟨rfl, pre, suf, u, v, hd, hr, rfl⟩
        have : suf = [] := by simpa using hd.symm
        subst this
        rw [List.append_nil] at hr
        have := h2 _ _ _ _ _ _ e1 e2
        rw [sameL_is, hr] at this
        simp [dS, dL]
        exact this
      · exact ⟨rfl, [], _, none, none, rfl, rfl, rfl⟩
end
end K02

set_option maxRecDepth 100000
set_option maxHeartbeats 4000000
namespace K02
open PySem PySem.Spec PyProof.Rows L2 Ev
section
variable {st : Sto} {P : D → Sto → Prop} {E : Exn → Sto → Prop} {h : Int} {zs : List Int}
theorem nearest_wp (hz : zs.length ≤ 1000) (h1 : zs = [] → E ⟨"NoWay", []⟩ st) (h2 : ∀ m, zs ≠ [] → (if zs.filter (fun z => decide (h ≤ z)) ≠ [] then iMin (zs.filter fun z => decide (h ≤ z)) else iMax zs) = some m → P (.int m) st) : wpR (mFn 4 m_nearest_size [.int h, .lst (zs.map .int)] st) P E := by
  rw [wp_fn]
  unfold m_nearest_size
  cases zs with
  | nil => simp; exact h1 rfl
  | cons z r =>
    generalize hzs : z :: r = zs at *
    have ne : zs ≠ [] := by rw [← hzs]; simp
    have hl : (zs.length : Int) ≠ 0 := by
      have : 0 < zs.length := List.length_pos_iff.mpr ne
      omega
    simp only [wo_seq, wo_if, wo_set, wp_mUn]
    have key : wpR (mTest (mBin (mUn (mVar 1) fun d st => Res.of (dLen d st) st) (mK (.int 0)) (pure2 dEq)) [some (.int h), some (.lst (zs.map .int)), none, none] st) (fun k s => k = false ∧ s = st) (fun _ _ => False) := by
      simp [ne]
    refine key.imp (fun k s q => ?_) (fun _ _ z => z.elim)
    rw [q.1, q.2]
    refine ⟨fun z => (by cases z), fun _ => ?_⟩
    simp only [wo_pass]
    refine wp_compL zs D.int (fun z => decide (h ≤ z)) D.int ?_
    simp
    refine ⟨by omega, fun i hi => ?_, ?_⟩
    · refine ⟨_, rfl, wp_eq ?_, fun _ => wp_eq ?_⟩ <;> simp [wipeE] <;> omega
    · have e : (D.lst []) = .lst (([] : List Int).map D.int) := rfl
      rw [e, dNe_lints]
      by_cases hf : zs.filter (fun z => decide (h ≤ z)) = []
      · refine ⟨_, rfl, .inl ⟨by simp [hf], ?_⟩⟩
        obtain ⟨m, em⟩ : ∃ m, iMax zs = some m := by rw [← hzs]; exact ⟨_, rfl⟩
        exact ⟨.int m, by rw [dMax_ints, em]; rfl, h2 m ne (by rw [if_neg (by simpa using hf)]; exact em)⟩
      · refine ⟨_, rfl, .inr ⟨by simp [hf], ?_⟩⟩
        obtain ⟨m, em⟩ : ∃ m, iMin (zs.filter fun z => decide (h ≤ z)) = some m := by
          cases q : zs.filter fun z => decide (h ≤ z) with
          | nil => exact absurd q hf
          | cons a b => exact ⟨_, rfl⟩
        exact ⟨.int m, by rw [dMin_ints, em]; rfl, h2 m ne (by rw [if_pos hf]; exact em)⟩
end
end K02

set_option maxRecDepth 100000
set_option maxHeartbeats 4000000
namespace K02
open PySem PySem.Spec PyProof.Rows L2 Ev
section
variable {st : Sto} {P : D → Sto → Prop} {E : Exn → Sto → Prop}
/-- through the turns: the turn and the place in it -/
def brk : List Int → Int → Int → Option (Int × Int)
  | [], _, _ => none
  | m :: r, i, s => if s ≤ m then some (i, s) else brk r (i + 1) (s - m)
theorem mapIdx_cons' (a : D) (r : List D) (i : Nat) : (a :: r).mapIdx (fun k d => D.tup [.int ((i + k : Nat) : Int), d]) = .tup [.int (i : Nat), a] :: r.mapIdx (fun k d => D.tup [.int ((i + 1 + k : Nat) : Int), d]) := by
  rw [List.mapIdx_cons]
  congr 1
  apply List.mapIdx_eq_mapIdx_iff.mpr
  intro k hk
  have : i + (k + 1) = i + 1 + k := by omega
  rw [this]
theorem broken_wp {s : Int} {zs : List Int} (h1 : s < 1 → E ⟨"BadSize", []⟩ st) (h2 : ¬ s < 1 → brk zs 0 s = none → E ⟨"NoWay", []⟩ st) (h3 : ¬ s < 1 → ∀ i p, brk zs 0 s = some (i, p) → P (.tup [.int i, .int p]) st) : wpR (mFn 4 m_broken [.int s, .lst (zs.map .int)] st) P E := by
  rw [wp_fn]
  unfold m_broken
  by_cases hs : s < 1
  · simp [hs]; exact h1 hs
  · simp [hs]
    have key : ∀ (zs : List Int) (i : Nat) (s : Int) (u v : Option D) (Q : Wi), (brk zs i s = none → ∀ env, Q.nx env st) → (∀ j p, brk zs i s = some (j, p) → Q.rt (.tup [.int j, .int p]) st) →
        ∀ t, wpO (loopM (gvT (gvCons (gvN 2) (gvCons (gvN 3) gvNil))) (sSeq (sIf (mTest (mBin (mVar 0) (mVar 3) (pure2 (dOrd fLe)))) (sRet (mTup (mCons (mVar 2) (mCons (mVar 0) mNil)))) sPass) (sAug 0 dSub (mVar 3))) ((zs.map D.int).mapIdx fun k d => .tup [.int ((i + k : Nat) : Int), d]) [some (.int s), t, u, v] st) Q := by
      intro zs
      induction zs with
      | nil => intro i s u v Q q1 q2 t; simp; exact q1 rfl _
      | cons m r ih =>
        intro i s u v Q q1 q2 t
        rw [List.map_cons, mapIdx_cons', wo_loop_cons]
        refine ⟨_, rfl, ?_⟩
        by_cases hm : s ≤ m
        · simp [hm]
          exact q2 _ _ (by simp [brk, hm])
        · simp [hm]
          have e : brk (m :: r) i s = brk r ((i + 1 : Nat) : Int) (s - m) := by simp [brk, hm]
          rw [e] at q1 q2
          refine ih (i + 1) (s - m) _ _ _ (fun z env => q1 z env) (fun j p z => q2 j p z) _
    have k0 := key zs 0 s none none
    simp only [Nat.zero_add] at k0
    refine k0 _ (fun z env => ?_) (fun j p z => ?_) _
    · simp; exact h2 hs z
    · exact h3 hs j p z
end
end K02

set_option maxRecDepth 100000
set_option maxHeartbeats 4000000
namespace K02
open PySem PySem.Spec PyProof.Rows L2 Ev
section
variable {st : Sto} {P : D → Sto → Prop} {E : Exn → Sto → Prop}
abbrev Ci := List (Int × Int)
def lessP (l : Ci) (m : Int) (k : Int) : Bool := match lk l k with
  | some v => decide (v < m)
  | none => false
theorem lessP_some {l : Ci} {m k v : Int} (h : lk l k = some v) : lessP l m k = decide (v < m) := by simp [lessP, h]
theorem run_wp {l : Ci} {m : Int} (hl : l.length < 64) (h1 : m < 0 → E ⟨"BadSize", []⟩ st) (h2 : ¬ m < 0 → P (.tup ((((keys l).mergeSort leI).filter (lessP l m)).map D.int)) st) : wpR (mFn 3 m_run_of [.dct (false, tb D.int l), .int m] st) P E := by
  rw [wp_fn]
  unfold m_run_of
  by_cases hm : m < 0
  · simp [hm]; exact h1 hm
  · simp [hm]
    refine wp_compL ((keys l).mergeSort leI) D.int (lessP l m) D.int ?_
    simp [sortedD_tbI D.int l hl]
    refine ⟨?_, fun k hk => ?_, h2 hm⟩
    · have : (keys l).length = l.length := by simp [keys]
      omega
    · obtain ⟨v, e⟩ := Option.isSome_iff_exists.mp (lk_some.mpr hk)
      refine ⟨_, rfl, wp_eq ?_, fun _ => wp_eq ?_⟩
      · simp [wipeE, e, lessP_some e]
        omega
      · simp [wipeE]
end
end K02

set_option maxRecDepth 100000
set_option maxHeartbeats 4000000
namespace K02
open PySem PySem.Spec PyProof.Rows L2 Ev
section
variable {st : Sto} {P : D → Sto → Prop} {E : Exn → Sto → Prop}
def ab (i : Int) : Int := if i < 0 then -i else i
/-- the shares, the first goes -/
def shr (mid wide : Int) : Ci := (rng (mid + (1 - wide)) (wide - (1 - wide)).toNat).map fun k => (k, wide - ab (k - mid))
def fst0 (mid wide many : Int) : Ci := (rng (mid + (1 - wide)) (wide - (1 - wide)).toNat).map fun k => (k, many * (wide - ab (k - mid)) / (wide * wide))
def bellL (mid wide many : Int) : Ci := pt (fst0 mid wide many) mid (many * wide / (wide * wide) + (many - ((fst0 mid wide many).map (·.2)).sum))
theorem shr_is (mid wide : Int) : (rng (1 - wide) (wide - (1 - wide)).toNat).map (fun far => (mid + far, wide - ab far)) = shr mid wide := by
  unfold shr
  rw [← rng_shift, List.map_map]
  apply List.map_congr_left
  intro i _
  show (mid + i, wide - ab i) = (mid + i, wide - ab (mid + i - mid))
  have : mid + i - mid = i := by omega
  rw [this]
theorem shr_keys (mid wide : Int) : keys (shr mid wide) = rng (mid + (1 - wide)) (wide - (1 - wide)).toNat := keys_map
theorem shr_sum {mid wide : Int} (h : 1 ≤ wide ∧ wide ≤ 5) : ((shr mid wide).map (·.2)).sum = wide * wide := by
  rw [← shr_is, List.map_map]
  show ((rng (1 - wide) (wide - (1 - wide)).toNat).map fun far => wide - ab far).sum = wide * wide
  have : wide = 1 ∨ wide = 2 ∨ wide = 3 ∨ wide = 4 ∨ wide = 5 := by omega
  rcases this with rfl | rfl | rfl | rfl | rfl <;> decide
theorem bell_wp {mid wide many : Int} (h : 1 ≤ wide ∧ wide ≤ 5) (hm : 0 ≤ many ∧ many ≤ 1000000) (k : P (.dct (false, tb D.int (bellL mid wide many))) st) : wpR (mFn 8 m_bell [.int mid, .int wide, .int many] st) P E := by
  rw [wp_fn]
  unfold m_bell
  have hw : 0 < wide * wide ∧ wide * wide ≤ 25 := by
    have : wide = 1 ∨ wide = 2 ∨ wide = 3 ∨ wide = 4 ∨ wide = 5 := by omega
    rcases this with rfl | rfl | rfl | rfl | rfl <;> decide
  have n1 : ¬ wide < 1 := by omega
  have n2 : ¬ many < 0 := by omega
  simp [n1, n2]
  refine wp_compL (rng (1 - wide) (wide - (1 - wide)).toNat) D.int (fun _ => true) (fun far => .tup [.int (mid + far), .int (wide - ab far)]) ?_
  simp [dRange2_i (i := 1 - wide) (j := wide) (by omega) (by omega)]
  refine ⟨by omega, fun i hi => ⟨_, rfl, rfl, wp_eq ?_⟩, ?_⟩
  · simp [wipeE, ab]
  · have e1 : (rng (1 - wide) (wide - (1 - wide)).toNat).map (fun far => D.tup [.int (mid + far), .int (wide - ab far)]) = (shr mid wide).map fun p => .tup [KeyD.d p.1, D.int p.2] := by
      rw [← shr_is, List.map_map]; rfl
    have nd : (keys (shr mid wide)).Nodup := by rw [shr_keys]; exact rng_nodup _ _
    rw [List.filter_eq_self.mpr (fun _ _ => rfl), e1, fDictP_tb D.int, mg_id nd]
    simp [dSumV_tb, shr_sum h]
    have sl : (shr mid wide).length < 64 := by simp [shr]; omega
    refine wp_compL (rng (mid + (1 - wide)) (wide - (1 - wide)).toNat) D.int (fun _ => true) (fun k => .tup [.int k, .int (many * (wide - ab (k - mid)) / (wide * wide))]) ?_
    simp [sortedD_tbI D.int _ sl, shr_keys, sort_rng]
    refine ⟨by omega, fun i hi => ⟨_, rfl, rfl, wp_eq ?_⟩, ?_⟩
    · have el : lk (shr mid wide) i = some (wide - ab (i - mid)) := by unfold shr; rw [lk_map, if_pos hi]
      simp [wipeE, el, dMul_i (i := many) (.inl ⟨by omega, by omega⟩), dDiv_i hw.1 (by omega)]
    · have e2 : (rng (mid + (1 - wide)) (wide - (1 - wide)).toNat).map (fun k => D.tup [.int k, .int (many * (wide - ab (k - mid)) / (wide * wide))]) = (fst0 mid wide many).map fun p => .tup [KeyD.d p.1, D.int p.2] := by
        unfold fst0; rw [List.map_map]; rfl
      have nd2 : (keys (fst0 mid wide many)).Nodup := by unfold fst0; rw [keys_map]; exact rng_nodup _ _
      rw [List.filter_eq_self.mpr (fun _ _ => rfl), e2, fDictP_tb D.int, mg_id nd2]
      have el : lk (fst0 mid wide many) mid = some (many * wide / (wide * wide)) := by
        unfold fst0
        rw [lk_map, if_pos (by rw [mem_rng]; omega)]
        simp [ab]
      have fl : (fst0 mid wide many).length < 1000000 := by simp [fst0]; omega
      simp [-Prod.exists, dSumV_tb, contD, setDc, el, fl, frzE]
      exact k
theorem fst0_keys (mid wide many : Int) : keys (fst0 mid wide many) = rng (mid + (1 - wide)) (wide - (1 - wide)).toNat := keys_map
theorem fst0_mid {mid wide many : Int} (h : 1 ≤ wide) : lk (fst0 mid wide many) mid = some (many * wide / (wide * wide)) := by
  unfold fst0
  rw [lk_map, if_pos (by rw [mem_rng]; omega)]
  simp [ab]
theorem bell_keys {mid wide many : Int} (h : 1 ≤ wide) : keys (bellL mid wide many) = rng (mid + (1 - wide)) (wide - (1 - wide)).toNat := by
  unfold bellL
  rw [keys_pt, if_pos (lk_some.mp (by rw [fst0_mid h]; rfl)), fst0_keys]
theorem bell_sum {mid wide many : Int} (h : 1 ≤ wide) : ((bellL mid wide many).map (·.2)).sum = many := by
  unfold bellL
  rw [vals_sum (by rw [fst0_keys]; exact rng_nodup _ _) (fst0_mid h)]
  omega
theorem bell_lk {mid wide many k : Int} (h : k ∈ rng (mid + (1 - wide)) (wide - (1 - wide)).toNat) (hk : k ≠ mid) : lk (bellL mid wide many) k = some (many * (wide - ab (k - mid)) / (wide * wide)) := by
  unfold bellL
  rw [lk_pt, if_neg hk]
  unfold fst0
  rw [lk_map, if_pos h]
end
end K02

set_option maxRecDepth 100000
set_option maxHeartbeats 4000000
namespace K02
open PySem PySem.Spec PyProof.Rows L2 Ev
section
variable {st : Sto} {P : D → Sto → Prop} {E : Exn → Sto → Prop}
theorem told_neg {h : Int} (hn : h < 0) (k : E ⟨"BadSize", []⟩ st) : wpR (mFn 1 m_told_size [.int h] st) P E := by
  rw [wp_fn]
  unfold m_told_size
  simp [hn]
  exact k
theorem bell_bad {mid many : Int} (k : E ⟨"BadSize", []⟩ st) : wpR (mFn 8 m_bell [.int mid, .int 0, .int many] st) P E := by
  rw [wp_fn]
  unfold m_bell
  simp
  exact k
theorem w_size : wordFor ts "BadSize" ws = some "size" := by decide +kernel
theorem w_plan : wordFor ts "BadPlan" ws = some "plan" := by decide +kernel
theorem w_such : wordFor ts "NoSuch" ws = some "no such" := by decide +kernel
theorem w_way : wordFor ts "NoWay" ws = some "no way" := by decide +kernel
theorem w_deed : wordFor ts "BadDeed" ws = some "deed" := by decide +kernel
theorem cases1_wp (k : P (.bl true) st) : wpR (mFn 0 m__law_cases1 [] st) P E := by
  rw [wp_fn]
  unfold m__law_cases1
  simp only [wo_seq]
  refine chkP (v := .str "size") ?_ (told_eq ?_) ?_ ?_
  rotate_left
  · simp; exact told_neg (by decide) ⟨_, w_size, rfl, rfl⟩
  · rfl
  · rfl
  dsimp only
  refine chkP (v := .str "size") ?_ (told_eq ?_) ?_ ?_
  rotate_left
  · simp; exact broken_wp (zs := []) (fun _ => ⟨_, w_size, rfl, rfl⟩) (fun z => absurd (by decide) z) (fun z => absurd (by decide) z)
  · rfl
  · rfl
  dsimp only
  refine chkP (v := .str "size") ?_ (told_eq ?_) ?_ ?_
  rotate_left
  · simp; exact run_wp (l := []) (by decide) (fun _ => ⟨_, w_size, rfl, rfl⟩) (fun z => absurd (by decide) z)
  · rfl
  · rfl
  dsimp only
  refine chkP (v := .str "size") ?_ (told_eq ?_) ?_ ?_
  rotate_left
  · simp; exact bell_bad ⟨_, w_size, rfl, rfl⟩
  · rfl
  · rfl
  dsimp only
  exact k
end
end K02

set_option maxRecDepth 100000
set_option maxHeartbeats 4000000
namespace K02
open PySem PySem.Spec PyProof.Rows L2 Ev
section
variable {st : Sto} {n : Nat} {l : Ks} {P : D → Sto → Prop} {E : Exn → Sto → Prop} {Q : Wi}
/-- what the table may hold -/
def Good (l : Ks) : Prop := ∀ x f s e, lk l x = some (f, s, e) → (0 ≤ f ∧ f < 30) ∧ (0 ≤ s ∧ s < 20) ∧ (1 ≤ e ∧ e < 5)
theorem least_is {f s e g : Int} {m : Nat} (he : 1 ≤ e ∧ e < 5) (hs : 0 ≤ s) (hf : f ≤ g) (hm : s - (0 - (g - f)) / e < m) : ∃ r, (rng 0 m).filter (fun k => decide (g ≤ f + (k - s) * e) && decide (s ≤ k)) = (s - (0 - (g - f)) / e) :: r := by
  have h4 : e = 1 ∨ e = 2 ∨ e = 3 ∨ e = 4 := by omega
  refine first_of (rng_lt 0 m) ?_ ?_ ?_
  · rw [mem_rng]
    rcases h4 with rfl | rfl | rfl | rfl <;> omega
  · rcases h4 with rfl | rfl | rfl | rfl <;> simp <;> omega
  · intro j hj hlt
    rcases h4 with rfl | rfl | rfl | rfl <;> simp <;> omega
def nm3 : List Str := ["east", "west", "child"]
def EachInv (st : Sto) (n : Nat) (l : Ks) (a b : Int) (ds : List D) (env : Ev.Env) (s1 : Sto) : Prop :=
  s1 = st ∧ (∃ xs : List Str, ds = xs.map D.str) ∧ ∃ u4 u5 u6 u7 u8 u9 u10, env = [some (.loc n), some (.dct (false, tb kd l)), some (.int a), some (.int b), u4, u5, u6, u7, u8, u9, u10]
theorem each_wp {a b : Int} (h : Tab st n l) (g : Good l) (ha : 0 ≤ a ∧ a < 60) (hb : 0 ≤ b ∧ b < 30) (k : P (.bl true) st) : wpR (mFn 11 m__law_each [.loc n, .dct (false, tb kd l), .int a, .int b] st) P E := by
  have n1 : (fsT l).lookup ("size_of" : Str) = none := by
    have : (("size_of" : Str) == ("kinds" : Str)) = false := by decide
    simp only [fsT, List.lookup, this]
  have n2 : (fsT l).lookup ("length_of" : Str) = none := by
    have : (("length_of" : Str) == ("kinds" : Str)) = false := by decide
    simp only [fsT, List.lookup, this]
  rw [wp_fn]
  unfold m__law_each
  refine sq ?_
  rw [wo_for]
  simp
  refine wo_loop (EachInv st n l a b) ?_ ?_ ?_
  · rintro d ds env s1 ⟨rfl, ⟨xs, hd⟩, u4, u5, u6, u7, u8, u9, u10, rfl⟩
    cases xs with
    | nil => cases hd
    | cons x xs =>
      have hd' : d = .str x ∧ ds = xs.map D.str := by simpa using hd
      obtain ⟨rfl, rfl⟩ := hd'
      refine ⟨_, rfl, ?_⟩
      refine sq_parv (ds := [.str "no such", .str "no such"]) (by rfl) (by rfl) (by decide) ?_
      cases e1 : lk l x with
      | none =>
        refine sq_no ?_ ?_
        · exact wp_eq (by simp [setsD, e1])
        refine sq_chk (v := .str "no such") (told_eq ?_) ?_ ?_ ?_
        · simp [-Prod.exists, -List.lookup_eq_none_iff, tab_ob h, n1, setsD]
          exact size_wp h (fun _ => ⟨_, w_such, rfl, rfl⟩) (fun f s e z => by rw [e1] at z; cases z) (fun f s e z => by rw [e1] at z; cases z)
        · exact wp_eq (by simp [setsD])
        · rfl
        refine chkP (v := .str "no such") ?_ (told_eq ?_) ?_ ?_
        · exact ⟨rfl, ⟨xs, rfl⟩, _, _, _, _, _, _, _, rfl⟩
        · simp [-Prod.exists, -List.lookup_eq_none_iff, tab_ob h, n2, setsD]
          exact length_wp h (fun _ => ⟨_, w_such, rfl, rfl⟩) (fun f s e z => by rw [e1] at z; cases z) (fun f s e z => by rw [e1] at z; cases z)
        · exact wp_eq (by simp [setsD])
        · rfl
      | some v =>
        obtain ⟨f, s, e⟩ := v
        obtain ⟨gf, gs, ge⟩ := g _ _ _ _ e1
        refine sq_ify ?_ ?_
        · exact wp_eq (by simp [setsD, e1])
        refine sq_tgt (v := kd (f, s, e)) (env' := [some (.loc n), some (.dct (false, tb kd l)), some (.int a), some (.int b), some (.str x), some (.str "no such"), some (.str "no such"), some (.int f), some (.int s), some (.int e), u10]) ?_ (by rfl) ?_
        · exact wp_eq (by simp [setsD, e1])
        refine sq_setv (v := if f ≤ a then .int (s - (0 - (a - f)) / e) else .str "no way") ?_ ?_
        · by_cases hf : f ≤ a
          · have hm : s - (0 - (a - f)) / e < (80 : Nat) := by
              have h4 : e = 1 ∨ e = 2 ∨ e = 3 ∨ e = 4 := by omega
              rcases h4 with rfl | rfl | rfl | rfl <;> omega
            obtain ⟨r, hr⟩ := least_is (m := 80) ge gs.1 hf hm
            refine wp_eq ?_
            simp [hf]
            refine wp_compL (rng 0 80) D.int (fun k => decide (a ≤ f + (k - s) * e) && decide (s ≤ k)) D.int ?_
            have e80 : dRange1 [.int 80] = some ((rng 0 80).map D.int) := dRange1_i (by decide)
            simp [e80]
            refine ⟨fun i hi => ⟨_, rfl, wp_eq ?_, fun _ _ => wp_eq ?_⟩, ?_⟩
            · rw [mem_rng] at hi
              simp [wipeE, dMul_i (i := i - s) (j := e) (.inl ⟨by omega, by omega⟩)]
              by_cases c1 : a ≤ f + (i - s) * e
              · right; simp [c1]; omega
              · left; simp [c1]; omega
            · simp [wipeE]
            · rw [hr]
              simp
          · refine wp_eq ?_
            simp [hf]
        rw [wo_set]
        refine wp_val (v := if s ≤ b then .int (f + (b - s) * e) else .str "no way") (st := s1) ?_ ?_
        · by_cases hs : s ≤ b
          · refine wp_eq ?_
            simp [hs]
            refine wp_compL (rng s (b - s).toNat) D.int (fun _ => true) (fun _ => .int e) ?_
            simp [dRange2_i (i := s) (j := b) (by omega) (by omega)]
            refine ⟨by omega, fun i hi => ⟨_, rfl, rfl, wp_eq ?_⟩, ?_⟩
            · simp [wipeE]
            · have e3 : ((rng s (b - s).toNat).filter fun _ => true).map (fun _ => D.int e) = ((rng s (b - s).toNat).map fun _ => e).map D.int := by
                rw [List.filter_eq_self.mpr (fun _ _ => rfl), List.map_map]; rfl
              rw [e3, dSum_ints, sum_const]
              refine ⟨_, rfl, ?_⟩
              simp
              have : max (b - s) 0 = b - s := by omega
              rw [this]
          · refine wp_eq ?_
            simp [hs]
        dsimp only
        refine sq_chk (v := if f ≤ a then .int (s - (0 - (a - f)) / e) else .str "no way") (told_eq ?_) ?_ ?_ ?_
        · simp [-Prod.exists, -List.lookup_eq_none_iff, tab_ob h, n1]
          refine size_wp h (fun z => by rw [e1] at z; cases z) (fun f' s' e' z hlt => ?_) (fun f' s' e' z hge => ?_)
          · rw [e1] at z; cases z
            exact ⟨_, w_way, by rw [if_neg (by omega)], rfl⟩
          · rw [e1] at z; cases z
            exact ⟨⟨by omega, by omega⟩, by rw [if_pos hge, Int.zero_sub], rfl⟩
        · exact wp_eq (by by_cases hf : f ≤ a <;> simp [hf])
        · by_cases hf : f ≤ a <;> simp [hf]
        refine chkP (v := if s ≤ b then .int (f + (b - s) * e) else .str "no way") ?_ (told_eq ?_) ?_ ?_
        · exact ⟨rfl, ⟨xs, rfl⟩, _, _, _, _, _, _, _, rfl⟩
        · simp [-Prod.exists, -List.lookup_eq_none_iff, tab_ob h, n2]
          refine length_wp h (fun z => by rw [e1] at z; cases z) (fun f' s' e' z hlt => ?_) (fun f' s' e' z hge => ?_)
          · rw [e1] at z; cases z
            exact ⟨_, w_way, by rw [if_neg (by omega)], rfl⟩
          · rw [e1] at z; cases z
            exact ⟨⟨by omega, by omega⟩, by rw [if_pos hge], rfl⟩
        · exact wp_eq (by by_cases hf : s ≤ b <;> simp [hf])
        · by_cases hf : s ≤ b <;> simp [hf]
  · rintro env s1 ⟨rfl, _, u4, u5, u6, u7, u8, u9, u10, rfl⟩
    simp
    exact k
  · exact ⟨rfl, ⟨nm3, rfl⟩, _, _, _, _, _, _, _, rfl⟩
end
end K02

set_option maxRecDepth 100000
set_option maxHeartbeats 4000000
namespace K02
open PySem PySem.Spec PyProof.Rows L2 Ev
def Dice (st : Sto) (d : Nat) : Prop := ∃ a b c : Int, st[d]? = some (.ls [.int a, .int b, .int c])
/-- only the dice differ -/
def But (d : Nat) (st st' : Sto) : Prop := st'.length = st.length ∧ ∀ n, n ≠ d → st'[n]? = st[n]?
theorem But.refl {d : Nat} {st : Sto} : But d st st := ⟨rfl, fun _ _ => rfl⟩
theorem But.trans {d : Nat} {a b c : Sto} (x : But d a b) (y : But d b c) : But d a c := ⟨y.1.trans x.1, fun n h => (y.2 n h).trans (x.2 n h)⟩
section
variable {st : Sto} {d : Nat} {P : D → Sto → Prop} {E : Exn → Sto → Prop} {many : Int}
theorem roll_wp (h : Dice st d) (h0 : 0 < many) (h1 : many < 1073741824) (k : ∀ v st', 0 ≤ v → v < many → Dice st' d → But d st st' → P (.int v) st') : wpR (mFn 3 m__law_roll [.loc d, .int many] st) P E := by
  obtain ⟨a, b, c, e⟩ := h
  have hl : d < st.length := (List.getElem?_eq_some_iff.mp e).1
  refine roll_eq e h0 h1 fun v a b c v0 v1 => k v _ v0 v1 ⟨a, b, c, List.getElem?_set_self hl⟩ ⟨List.length_set, fun n hn => List.getElem?_set_ne (Ne.symm hn)⟩
/-- some rolled, as a list -/
theorem rolls_wp {i : Nat} {env : Ev.Env} {c : Nat} {j : Nat} {hi : M (List D)} {P : List D → Sto → Prop} (he : (wipeE env [j])[i]? = some (some (.loc d))) (hij : i ≠ j) (hj : j < env.length) (h0 : 0 < many) (h1 : many < 1073741824) (hit : wpR (hi env st) (fun ds st1 => ds.length ≤ c ∧ Dice st1 d ∧ But d st st1) fun _ _ => False) (hc : c ≤ 1000)
    (k : ∀ (zs : List Int) st', (∀ z ∈ zs, 0 ≤ z ∧ z < many) → zs.length ≤ c → Dice st' d → But d st st' → P (zs.map D.int) st') : wpR (mComp hi [j] (gvN j) mYes (mCall (mFn 3 m__law_roll) (mCons (mVar i) (mCons (mK (.int many)) mNil))) env st) P E := by
  refine wp_compI (fun ds acc s => Dice s d ∧ But d st s ∧ ∃ zs : List Int, acc = zs.map D.int ∧ (∀ z ∈ zs, 0 ≤ z ∧ z < many) ∧ zs.length + ds.length ≤ c) ?_
  refine hit.imp (fun ds st1 ⟨q1, q2, q3⟩ => ⟨by omega, ⟨q2, q3, [], rfl, fun z hz => (by cases hz), by simpa using q1⟩, ?_, ?_⟩) (fun _ _ z => z.elim)
  · rintro x ds acc s ⟨a1, a2, zs, rfl, a4, a5⟩
    refine ⟨_, rfl, ?_⟩
    refine ⟨fun _ => ?_, fun z => (by cases z)⟩
    have hv : ((wipeE env [j]).set j (some x))[i]? = some (some (.loc d)) := by rw [List.getElem?_set_ne (Ne.symm hij)]; exact he
    simp [hv]
    refine roll_wp a1 h0 h1 fun v s' v0 v1 b1 b2 => ⟨b1, a2.trans b2, zs ++ [v], by simp, fun z hz => ?_, by simp at a5 ⊢; omega⟩
    rcases List.mem_append.mp hz with hz | hz
    · exact a4 z hz
    · have : z = v := by simpa using hz
      subst this; exact ⟨v0, v1⟩
  · rintro r s ⟨a1, a2, zs, rfl, a4, a5⟩
    exact k zs s a4 (by simpa using a5) a1 a2
end
end K02

set_option maxRecDepth 100000
set_option maxHeartbeats 4000000
namespace K02
open PySem PySem.Spec PyProof.Rows L2 Ev
def txt (h : Int) : Str := if h % 2 = 0 then "" else ".5"
def hTest : M Bool := (mOr (mTest (mBin (mCall (mFn 1 m_told_size) (mCons (mVar 5) mNil)) (mBin (mUn (mBin (mVar 5) (mK (.int 2)) (pure2 dDiv)) fun d st => Res.of (dStrOf d st) st) (mVar 6) (pure2 dAdd)) (pure2 dNe))) (mTest (mBin (mCall (mFn 2 m_read_size) (mCons (mCall (mFn 1 m_told_size) (mCons (mVar 5) mNil)) mNil)) (mVar 5) (pure2 dNe))))
theorem halves_no {h : Int} (h0 : 0 ≤ h) (h1 : h < 60) (st : Sto) (e0 e1 e2 e3 e4 : Option D) (r : List (Option D)) : hTest (e0 :: e1 :: e2 :: e3 :: e4 :: some (.int h) :: some (.str (txt h)) :: r) st = .ok false st := by
  have : h = 0 ∨ h = 1 ∨ h = 2 ∨ h = 3 ∨ h = 4 ∨ h = 5 ∨ h = 6 ∨ h = 7 ∨ h = 8 ∨ h = 9 ∨ h = 10 ∨ h = 11 ∨ h = 12 ∨ h = 13 ∨ h = 14 ∨ h = 15 ∨ h = 16 ∨ h = 17 ∨ h = 18 ∨ h = 19 ∨ h = 20 ∨ h = 21 ∨ h = 22 ∨ h = 23 ∨ h = 24 ∨ h = 25 ∨ h = 26 ∨ h = 27 ∨ h = 28 ∨ h = 29 ∨ h = 30 ∨ h = 31 ∨ h = 32 ∨ h = 33 ∨ h = 34 ∨ h = 35 ∨ h = 36 ∨ h = 37 ∨ h = 38 ∨ h = 39 ∨ h = 40 ∨ h = 41 ∨ h = 42 ∨ h = 43 ∨ h = 44 ∨ h = 45 ∨ h = 46 ∨ h = 47 ∨ h = 48 ∨ h = 49 ∨ h = 50 ∨ h = 51 ∨ h = 52 ∨ h = 53 ∨ h = 54 ∨ h = 55 ∨ h = 56 ∨ h = 57 ∨ h = 58 ∨ h = 59 := by omega
  rcases this with rfl | rfl | rfl | rfl | rfl | rfl | rfl | rfl | rfl | rfl | rfl | rfl | rfl | rfl | rfl | rfl | rfl | rfl | rfl | rfl | rfl | rfl | rfl | rfl | rfl | rfl | rfl | rfl | rfl | rfl | rfl | rfl | rfl | rfl | rfl | rfl | rfl | rfl | rfl | rfl | rfl | rfl | rfl | rfl | rfl | rfl | rfl | rfl | rfl | rfl | rfl | rfl | rfl | rfl | rfl | rfl | rfl | rfl | rfl | rfl
  all_goals kernel_rfl
theorem bad_plan : ∀ z ∈ (["", ".5", "07", "x", "7.", "7.0", "-1", "1.5.5"] : List Str), ∀ st : Sto, mFn 2 m_read_size [.str z] st = .exc ⟨"BadPlan", []⟩ st := by
  intro z hz st
  rcases (by simpa using hz : z = "" ∨ z = ".5" ∨ z = "07" ∨ z = "x" ∨ z = "7." ∨ z = "7.0" ∨ z = "-1" ∨ z = "1.5.5") with rfl | rfl | rfl | rfl | rfl | rfl | rfl | rfl
  all_goals kernel_rfl
end K02

set_option maxRecDepth 100000
set_option maxHeartbeats 4000000
namespace K02
open PySem PySem.Spec PyProof.Rows L2 Ev
theorem near1 {zs : List Int} {p : Int → Bool} (h : zs.filter p ≠ []) : ∃ m r, (zs.mergeSort leI).filter p = m :: r ∧ iMin (zs.filter p) = some m := by
  have perm : ((zs.mergeSort leI).filter p).Perm (zs.filter p) := (List.mergeSort_perm zs leI).filter p
  have srt : ((zs.mergeSort leI).filter p).Pairwise (· ≤ ·) := (leI_sorted zs).filter p
  cases e : (zs.mergeSort leI).filter p with
  | nil => rw [e] at perm; exact absurd perm.symm.eq_nil h
  | cons m r =>
    rw [e] at perm srt
    refine ⟨m, r, rfl, iMin_is (perm.mem_iff.mp List.mem_cons_self) fun y hy => ?_⟩
    rcases List.mem_cons.mp (perm.mem_iff.mpr hy) with rfl | hy
    · exact Int.le_refl _
    · exact (List.pairwise_cons.mp srt).1 y hy
theorem near2 {zs : List Int} (h : zs ≠ []) : ∃ i w, zs.mergeSort leI = i ++ [w] ∧ iMax zs = some w := by
  have perm := List.mergeSort_perm zs leI
  have srt := leI_sorted zs
  have ne : zs.mergeSort leI ≠ [] := fun z => by rw [z] at perm; exact h perm.symm.eq_nil
  obtain ⟨i, w, e⟩ : ∃ i w, zs.mergeSort leI = i ++ [w] := ⟨_, _, (List.dropLast_concat_getLast ne).symm⟩
  refine ⟨i, w, e, iMax_is (perm.mem_iff.mp (by rw [e]; simp)) fun y hy => ?_⟩
  have hy := perm.mem_iff.mpr hy
  rw [e] at hy srt
  rcases List.mem_append.mp hy with hy | hy
  · exact (List.pairwise_append.mp srt).2.2 y hy w (by simp)
  · have : y = w := by simpa using hy
    rw [this]; exact Int.le_refl _
theorem at_last {α : Type} {i : List α} {w : α} : L2.atI (i ++ [w]) (((i ++ [w]).length : Int) - 1) = some w := by
  unfold L2.atI ixN
  have h1 : (0 : Int) ≤ ((i ++ [w]).length : Int) - 1 := by simp
  rw [if_pos h1, if_pos (by omega)]
  have : (((i ++ [w]).length : Int) - 1).toNat = i.length := by simp
  rw [Option.bind_some, this]
  simp
/-- the places of the turns, one by one -/
def lineL : List Int → Int → List (Int × Int)
  | [], _ => []
  | m :: r, i => (rng 0 m.toNat).map (fun k => (i, k + 1)) ++ lineL r (i + 1)
theorem rng_get {lo : Int} {n j : Nat} (h : j < n) : (rng lo n)[j]? = some (lo + j) := by
  unfold rng
  rw [List.getElem?_map, List.getElem?_range h]
  rfl
theorem brk_line : ∀ (zs : List Int) (i s : Int), 1 ≤ s → (∀ z ∈ zs, 0 ≤ z) → brk zs i s = (lineL zs i)[(s - 1).toNat]?
  | [], i, s, _, _ => by simp [brk, lineL]
  | m :: r, i, s, h, hz => by
    have hm := hz m List.mem_cons_self
    unfold brk lineL
    by_cases hs : s ≤ m
    · rw [if_pos hs, List.getElem?_append_left (by simp; omega), List.getElem?_map, rng_get (by omega)]
      simp
      omega
    · rw [if_neg hs, List.getElem?_append_right (by simp; omega), brk_line r (i + 1) (s - m) (by omega) fun z h => hz z (List.mem_cons_of_mem _ h)]
      congr 1
      simp
      omega
theorem line_snoc : ∀ (pre : List Int) (m i : Int), lineL (pre ++ [m]) i = lineL pre i ++ (rng 0 m.toNat).map (fun k => (i + pre.length, k + 1))
  | [], m, i => by simp [lineL]
  | a :: pre, m, i => by
    rw [List.cons_append]
    unfold lineL
    rw [line_snoc pre m (i + 1), List.append_assoc]
    congr 2
    apply List.map_congr_left
    intro k _
    simp
    omega
theorem run_filter {l : Ci} {m : Int} (nd : (keys l).Nodup) (h : ∀ k ∈ keys l, 0 ≤ k ∧ k < 12) : ((keys l).mergeSort leI).filter (lessP l m) = (rng 0 12).filter fun k => (lk l k).isSome && lessP l m k := by
  rw [sort_filter nd (rng_lt 0 12) (fun k hk => by rw [mem_rng]; have := h k hk; omega), List.filter_filter]
  apply List.filter_congr
  intro k _
  by_cases hk : k ∈ keys l
  · simp [lk_some.mpr hk, hk]
  · simp [lk_none.mpr hk, hk]
end K02

set_option maxRecDepth 100000
set_option maxHeartbeats 4000000
namespace K02
open PySem PySem.Spec PyProof.Rows L2 Ev
def bads : List Str := ["", ".5", "07", "x", "7.", "7.0", "-1", "1.5.5"]
def BadInv (st : Sto) (e : Option D → Ev.Env) (ds : List D) (env : Ev.Env) (s1 : Sto) : Prop := s1 = st ∧ (∃ zs : List Str, ds = zs.map D.str ∧ ∀ z ∈ zs, z ∈ bads) ∧ ∃ u, env = e u
section
variable {st : Sto} {d n : Nat} {l : Ks} {P : D → Sto → Prop} {E : Exn → Sto → Prop}
theorem hit_wp {i : Nat} {env : Ev.Env} {many : Int} {c : Nat} {E : Exn → Sto → Prop} (hd : Dice st d) (he : env[i]? = some (some (.loc d))) (h0 : 0 < many) (h1 : many ≤ 1000) (hc : many ≤ c + 1) :
    wpR (mUn (mCons (mCall (mFn 3 m__law_roll) (mCons (mVar i) (mCons (mK (.int many)) mNil))) mNil) (fun ds st => Res.of (dRange1 ds) st) env st) (fun ds st1 => ds.length ≤ c ∧ Dice st1 d ∧ But d st st1) E := by
  simp only [wp_mUn, wp_mCons, wp_mCall, wp_mNil, wp_mK, wp_mVar]
  refine ⟨.loc d, he, rfl, ?_⟩
  refine roll_wp hd h0 (by omega) fun v st1 v0 v1 d1 b1 => ?_
  rw [dRange1_i (by omega)]
  simp [Res.of]
  exact ⟨by omega, d1, b1⟩
def goodL (zs : List Int) (b : Int) : List D := if zs = [] then [.str "no way"] else (((zs.mergeSort leI).filter fun z => decide (b ≤ z)).map .int) ++ [(L2.atI ((zs.mergeSort leI).map D.int) (((zs.mergeSort leI).length : Int) - 1)).getD .non]
theorem dNe_lnil {xs : List Int} : dNe (.lst (xs.map .int)) (.lst []) = some (.bl (!decide (xs = []))) := dNe_lints (ys := [])
theorem rng_cons (lo : Int) (n : Nat) : rng lo (n + 1) = lo :: rng (lo + 1) n := by
  unfold rng
  rw [List.range_succ_eq_map, List.map_cons, List.map_map]
  congr 1
  · simp
  · apply List.map_congr_left
    intro i _
    simp
    omega
def enc2 (p : Int × Int) : D := .tup [.int p.1, .int p.2]
def LineInv (st : Sto) (tz : List Int) (e : D → Option D → Ev.Env) (ds : List D) (env : Ev.Env) (s1 : Sto) : Prop :=
  s1 = st ∧ ∃ pre suf u, tz = pre ++ suf ∧ ds = (rng pre.length suf.length).map D.int ∧ env = e (.lst ((lineL pre 0).map enc2)) u
theorem line_len : ∀ (zs : List Int) (i : Int), (∀ z ∈ zs, 0 ≤ z ∧ z < 9) → (lineL zs i).length ≤ 9 * zs.length
  | [], _, _ => by simp [lineL]
  | m :: r, i, h => by
    have := line_len r (i + 1) fun z hz => h z (List.mem_cons_of_mem _ hz)
    have := h m List.mem_cons_self
    simp [lineL]
    omega
/-- some pairs rolled -/
theorem prolls_wp {i : Nat} {env : Ev.Env} {c : Nat} {j : Nat} {m1 m2 : Int} {hi : M (List D)} {P : List D → Sto → Prop} {E : Exn → Sto → Prop} (he : (wipeE env [j])[i]? = some (some (.loc d))) (hij : i ≠ j) (h0 : 0 < m1 ∧ m1 < 1073741824) (h1 : 0 < m2 ∧ m2 < 1073741824) (hit : wpR (hi env st) (fun ds st1 => ds.length ≤ c ∧ Dice st1 d ∧ But d st st1) fun _ _ => False) (hc : c ≤ 1000)
    (k : ∀ (zs : Ci) st', (∀ z ∈ zs, 0 ≤ z.1 ∧ z.1 < m1) → zs.length ≤ c → Dice st' d → But d st st' → P (zs.map enc2) st') : wpR (mComp hi [j] (gvN j) mYes (mTup (mCons (mCall (mFn 3 m__law_roll) (mCons (mVar i) (mCons (mK (.int m1)) mNil))) (mCons (mCall (mFn 3 m__law_roll) (mCons (mVar i) (mCons (mK (.int m2)) mNil))) mNil))) env st) P E := by
  refine wp_compI (fun ds acc s => Dice s d ∧ But d st s ∧ ∃ zs : Ci, acc = zs.map enc2 ∧ (∀ z ∈ zs, 0 ≤ z.1 ∧ z.1 < m1) ∧ zs.length + ds.length ≤ c) ?_
  refine hit.imp (fun ds st1 ⟨q1, q2, q3⟩ => ⟨by omega, ⟨q2, q3, [], rfl, fun z hz => (by cases hz), by simpa using q1⟩, ?_, ?_⟩) (fun _ _ z => z.elim)
  · rintro x ds acc s ⟨a1, a2, zs, rfl, a4, a5⟩
    refine ⟨_, rfl, ?_⟩
    refine ⟨fun _ => ?_, fun z => (by cases z)⟩
    have hv : ((wipeE env [j]).set j (some x))[i]? = some (some (.loc d)) := by rw [List.getElem?_set_ne (Ne.symm hij)]; exact he
    simp only [wp_mTup, wp_mCons, wp_mCall, wp_mNil, wp_mK, wp_mVar]
    refine ⟨.loc d, hv, rfl, ?_⟩
    refine roll_wp a1 h0.1 h0.2 fun v s' v0 v1 b1 b2 => ?_
    refine ⟨.loc d, hv, rfl, ?_⟩
    refine roll_wp b1 h1.1 h1.2 fun w s2 w0 w1 c1 c2 => ⟨by simp, c1, a2.trans (b2.trans c2), zs ++ [(v, w)], by simp [enc2], fun z hz => ?_, by simp at a5 ⊢; omega⟩
    rcases List.mem_append.mp hz with hz | hz
    · exact a4 z hz
    · have : z = (v, w) := by simpa using hz
      subst this; exact ⟨v0, v1⟩
  · rintro r s ⟨a1, a2, zs, rfl, a4, a5⟩
    exact k zs s a4 (by simpa using a5) a1 a2
def ToldIs (r : ∀ (P : D → Sto → Prop) (E : Exn → Sto → Prop), Prop) (v : D) (st : Sto) : Prop := r (fun d s => d = v ∧ s = st) (fun x s => ∃ r, wordFor ts x.cls ws = some r ∧ D.str r = v ∧ s = st)
theorem rest_wp {b : Int} {due same : D} (ht : Tab st n l) (hd : Dice st d) (hb : 0 ≤ b ∧ b < 30) (k1 : okN 60 due = true) (k2 : okN 60 same = true)
    (t1 : ToldIs (fun P E => wpR (mFn 4 m_Table_turned [.loc n, .str "east", .int b, .str "west"] st) P E) due st) (t2 : ToldIs (fun P E => wpR (mFn 7 m_Table_same [.loc n, .str "east", .str "west", .int b] st) P E) same st)
    (k : ∀ st', P (.bl true) st') : wpR (mFn 23 m__law_rest1 [.loc d, .loc n, .int b, due, same] st) P E := by
  have n1 : (fsT l).lookup ("turned" : Str) = none := by
    have : (("turned" : Str) == ("kinds" : Str)) = false := by decide
    simp only [fsT, List.lookup, this]
  have n2 : (fsT l).lookup ("same" : Str) = none := by
    have : (("same" : Str) == ("kinds" : Str)) = false := by decide
    simp only [fsT, List.lookup, this]
  have o1 : due.isOwn = false := by cases due <;> first | rfl | (simp [okN] at k1)
  have o2 : same.isOwn = false := by cases same <;> first | rfl | (simp [okN] at k2)
  rw [wp_fn]
  unfold m__law_rest1
  refine sq_chk (v := due) (told_eq ?_) ?_ k1 ?_
  · simp [-Prod.exists, -List.lookup_eq_none_iff, tab_ob ht, n1]
    exact t1
  · exact wp_eq (by simp [o1])
  refine sq_chk (v := same) (told_eq ?_) ?_ k2 ?_
  · simp [-Prod.exists, -List.lookup_eq_none_iff, tab_ob ht, n2]
    exact t2
  · exact wp_eq (by simp [o2])
  clear t1 t2 ht n1 n2
  refine sq_set ?_
  rw [wp_mCall]
  simp only [wp_mCons, wp_mNil, wp_mK, wp_mVar]
  refine ⟨.loc d, rfl, rfl, ?_⟩
  refine roll_wp hd (by decide) (by decide) fun h st1 h0 h1 hd1 _ => ?_
  refine sq_setv (v := .str (txt h)) ?_ ?_
  · refine wp_eq ?_
    have : h % 2 = 0 ∨ h % 2 = 1 := by omega
    rcases this with e | e <;> simp [dMod_i, e, txt]
  refine sq_no ?_ ?_
  · exact halves_no h0 h1 st1 _ _ _ _ _ _
  refine sq ?_
  rw [wo_for]
  refine wp_val (v := bads.map D.str) (st := st1) (by rfl) ?_
  refine wo_loop (BadInv st1 (fun u => [some (.loc d), some (.loc n), some (.int b), some due, some same, some (.int h), some (.str (txt h)), u, none, none, none, none, none, none, none, none, none, none, none, none, none, none, none])) ?_ ?_ ?_
  · rintro x ds env s1 ⟨rfl, ⟨zs, hz, hb⟩, u, rfl⟩
    cases zs with
    | nil => cases hz
    | cons z zs =>
      have hz' : x = .str z ∧ ds = zs.map D.str := by simpa using hz
      obtain ⟨rfl, rfl⟩ := hz'
      refine ⟨_, rfl, ?_⟩
      refine chkP (v := .str "plan") ?_ (told_eq ?_) ?_ ?_
      · exact ⟨rfl, ⟨zs, rfl, fun y hy => hb y (List.mem_cons_of_mem _ hy)⟩, _, rfl⟩
      · simp [bad_plan z (hb z List.mem_cons_self)]
        exact w_plan
      · rfl
      · rfl
  rotate_left
  · exact ⟨rfl, ⟨bads, rfl, fun _ h => h⟩, none, rfl⟩
  rintro env s1 ⟨rfl, _, u, rfl⟩
  dsimp only
  refine sq_set ?_
  rw [wp_mUn]
  refine rolls_wp (d := d) (c := 5) (by rfl) (by decide) (by simp) (by decide) (by decide) ?_ (by decide) fun zs st2 hz hl hd2 _ => ?_
  · exact hit_wp hd1 (by rfl) (by decide) (by decide) (by decide)
  dsimp only
  simp only [wp_ok]
  refine sq_setv (v := .lst ((zs.mergeSort leI).map .int)) ?_ ?_
  · exact wp_eq (by simp [fSorted_ints (zs := zs) (by omega)])
  refine sq_setv (v := .lst (goodL zs b)) ?_ ?_
  · refine wp_eq ?_
    by_cases hz0 : zs = []
    · subst hz0
      have e : dNe (.lst []) (.lst []) = some (.bl false) := dNe_lnil (xs := [])
      simp [goodL, e]
    · obtain ⟨i, w, e, em⟩ := near2 hz0
      have ne : i ++ [w] ≠ [] := by simp
      have hn : dNe (.lst ((i ++ [w]).map .int)) (.lst []) = some (.bl true) := by rw [dNe_lnil]; simp
      have hz2 : (i ++ [w]).length = zs.length := by rw [← e]; exact List.length_mergeSort _
      rw [e]
      have hla : L2.atI ((i ++ [w]).map D.int) ((((i ++ [w]).map D.int).length : Int) - 1) = some (.int w) := by
        have := at_last (i := i.map D.int) (w := D.int w)
        simpa using this
      have hg : goodL zs b = (((i ++ [w]).filter fun z => decide (b ≤ z)).map .int) ++ [.int w] := by
        unfold goodL
        rw [if_neg hz0, e]
        have : ((i ++ [w]).length : Int) = (((i ++ [w]).map D.int).length : Int) := by simp
        rw [this, hla]; rfl
      rw [hg]
      generalize hL : (i ++ [w]).map D.int = L at hn hla ⊢
      have hlen : L.length = zs.length := by rw [← hL, List.length_map]; exact hz2
      simp [hn, hla]
      refine wp_compL (i ++ [w]) D.int (fun z => decide (b ≤ z)) D.int ?_
      refine wp_val (v := L) (st := st2) (by rfl) ⟨hL.symm, by omega, fun z hz => ⟨_, rfl, wp_eq ?_, fun _ => wp_eq ?_⟩, ?_⟩
      · simp [wipeE]; omega
      · simp [wipeE]
      · have hf : (((i ++ [w]).filter fun z => decide (b ≤ z)).map D.int).length ≤ 1000 := by
          have := List.length_filter_le (fun z => decide (b ≤ z)) (i ++ [w])
          rw [List.length_map]; omega
        have : (((i ++ [w]).filter fun z => decide (b ≤ z)).map D.int).length + [D.int w].length ≤ 1000000 := by simp only [List.length_singleton]; omega
        simp only [fCat, dL_l, this, if_true, wp_ok]
        exact ⟨by simp [List.filter_append], trivial⟩
  have gl : ∀ v, (zs = [] → v = .str "no way") → (∀ m, zs ≠ [] → (if zs.filter (fun z => decide (b ≤ z)) ≠ [] then iMin (zs.filter fun z => decide (b ≤ z)) else iMax zs) = some m → v = .int m) → ∃ r, goodL zs b = v :: r := by
    intro v q1 q2
    by_cases hz0 : zs = []
    · rw [q1 hz0]; unfold goodL; rw [if_pos hz0]; exact ⟨[], rfl⟩
    · obtain ⟨i, w, e, em⟩ := near2 hz0
      have hla : L2.atI ((zs.mergeSort leI).map D.int) (((zs.mergeSort leI).length : Int) - 1) = some (.int w) := by
        have := at_last (i := i.map D.int) (w := D.int w)
        rw [e]
        simpa using this
      unfold goodL
      rw [if_neg hz0, hla]
      by_cases hf : zs.filter (fun z => decide (b ≤ z)) = []
      · have hs : (zs.mergeSort leI).filter (fun z => decide (b ≤ z)) = [] := by
          have perm : ((zs.mergeSort leI).filter fun z => decide (b ≤ z)).Perm (zs.filter fun z => decide (b ≤ z)) := (List.mergeSort_perm zs leI).filter _
          rw [hf] at perm
          exact perm.eq_nil
        rw [hs, q2 w hz0 (by rw [if_neg (by simpa using hf)]; exact em)]
        exact ⟨[], rfl⟩
      · obtain ⟨m, r, hm, hi⟩ := near1 hf
        rw [hm, q2 m hz0 (by rw [if_pos hf]; exact hi)]
        exact ⟨_, rfl⟩
  have nv : ∃ v, (mTold ts ws (mCall (mFn 4 m_nearest_size) (mCons (mVar 2) (mCons (mVar 8) mNil))) [some (.loc d), some (.loc n), some (.int b), some due, some same, some (.int h), some (.str (txt h)), u, some (.lst (zs.map .int)), some (.lst ((zs.mergeSort leI).map .int)), some (.lst (goodL zs b)), none, none, none, none, none, none, none, none, none, none, none, none] st2 = .ok v st2) ∧ okN 60 v = true ∧ ∃ r, goodL zs b = v :: r := by
    have key : wpR (mTold ts ws (mCall (mFn 4 m_nearest_size) (mCons (mVar 2) (mCons (mVar 8) mNil))) [some (.loc d), some (.loc n), some (.int b), some due, some same, some (.int h), some (.str (txt h)), u, some (.lst (zs.map .int)), some (.lst ((zs.mergeSort leI).map .int)), some (.lst (goodL zs b)), none, none, none, none, none, none, none, none, none, none, none, none] st2) (fun v s => s = st2 ∧ okN 60 v = true ∧ ∃ r, goodL zs b = v :: r) (fun _ _ => False) := by
      rw [wp_told]
      simp
      exact nearest_wp (by omega) (fun z => ⟨_, w_way, rfl, gl _ (fun _ => rfl) (fun _ q => absurd z q)⟩) fun m q1 q2 => ⟨rfl, rfl, gl _ (fun z => absurd z q1) (fun m' _ e => by rw [q2] at e; cases e; rfl)⟩
    obtain ⟨v, s, e, rfl, q2, q3⟩ := wp_ex key
    exact ⟨v, e, q2, q3⟩
  obtain ⟨v, nv1, nv2, r, nv3⟩ := nv
  refine sq_chk (v := v) nv1 ?_ nv2 ?_
  · exact wp_eq (by simp [nv3])
  clear nv1 nv3 gl
  refine sq_par ?_
  rw [wp_mCons, wp_mUn]
  refine rolls_wp (d := d) (c := 3) (by rfl) (by decide) (by simp) (by decide) (by decide) ?_ (by decide) fun tz st3 tz0 tzl hd3 _ => ?_
  · exact hit_wp hd2 (by rfl) (by decide) (by decide) (by decide)
  simp only [wp_ok, wp_mCons, wp_mBin, wp_mK, wp_mCall, wp_mNil, wp_mVar]
  refine ⟨.loc d, rfl, rfl, ?_⟩
  refine roll_wp hd3 (by decide) (by decide) fun pl st4 pl0 pl1 hd4 _ => ?_
  rw [wp_pure2]
  refine ⟨_, dAdd_i, ⟨rfl, by simp⟩, ?_⟩
  refine sq_setv (v := .lst []) (by rfl) ?_
  refine sq ?_
  rw [wo_for]
  refine wp_val (v := (rng 0 tz.length).map D.int) (st := st4) ?_ ?_
  · refine wp_eq ?_
    simp [setsD]
    rw [dRange1_i (by omega)]
    simp
  refine wo_loop (LineInv st4 tz (fun L u' => [some (.loc d), some (.loc n), some (.int b), some due, some same, some (.int h), some (.str (txt h)), u, some (.lst (zs.map .int)), some (.lst ((zs.mergeSort leI).map .int)), some (.lst (goodL zs b)), some L, u', none, some (.lst (tz.map .int)), some (.int (1 + pl)), none, none, none, none, none, none, none])) ?_ ?_ ?_
  · rintro x ds env s2 ⟨rfl, pre, suf, u', ht, hds, rfl⟩
    cases suf with
    | nil => cases hds
    | cons m suf =>
      rw [List.length_cons, rng_cons] at hds
      obtain ⟨rfl, rfl⟩ : x = .int pre.length ∧ ds = (rng ((pre.length : Int) + 1) suf.length).map D.int := by simpa using hds
      refine ⟨_, rfl, ?_⟩
      have hm : 0 ≤ m ∧ m < 9 := tz0 m (by rw [ht]; simp)
      have hat : L2.atI (tz.map D.int) (pre.length : Int) = some (.int m) := by
        unfold L2.atI ixN
        rw [if_pos (by omega), if_pos (by rw [ht]; simp; omega)]
        simp [ht]
      rw [wo_set]
      refine wp_val (v := .lst ((lineL (pre ++ [m]) 0).map enc2)) (st := s2) ?_ ?_
      · refine wp_eq ?_
        simp only [wp_mUn, wp_mBin, wp_mVar]
        refine ⟨_, rfl, rfl, ?_⟩
        refine wp_compL (rng 0 m.toNat) D.int (fun _ => true) (fun k => enc2 (pre.length, k + 1)) ?_
        refine wp_val (v := (rng 0 m.toNat).map D.int) (st := s2) ?_ ⟨rfl, by simp; omega, fun k hk => ⟨_, rfl, rfl, fun _ => wp_eq ?_⟩, ?_⟩
        · refine wp_eq ?_
          simp [hat]
          rw [dRange1_i (by omega)]
        · simp [wipeE, enc2]
        · have hl1 := line_len pre 0 fun z hz => tz0 z (by rw [ht]; simp [hz])
          have hpl : pre.length ≤ 3 := by
            have := congrArg List.length ht
            simp at this
            omega
          have hz5 : ((lineL pre 0).map enc2).length + (((rng 0 m.toNat).filter fun _ => true).map fun k => enc2 (pre.length, k + 1)).length ≤ 1000000 := by
            rw [List.filter_eq_self.mpr (fun _ _ => rfl)]
            simp
            omega
          simp only [wp_ok, fCat, dL_l, hz5, if_true]
          refine ⟨?_, trivial⟩
          rw [line_snoc, List.filter_eq_self.mpr (fun _ _ => rfl), List.map_append, List.map_map]
          simp
      · exact ⟨rfl, pre ++ [m], suf, _, by rw [ht]; simp, by simp, rfl⟩
  rotate_left
  · exact ⟨rfl, [], tz, none, rfl, by simp, rfl⟩
  rintro env s2 ⟨rfl, pre, suf, u', ht, hds, rfl⟩
  have : suf = [] := by
    cases suf with
    | nil => rfl
    | cons m suf => rw [List.length_cons, rng_cons] at hds; cases hds
  subst this
  rw [List.append_nil] at ht
  subst ht
  dsimp only
  have bl := brk_line tz 0 (1 + pl) (by omega) fun z hz => (tz0 z hz).1
  have e1 : (1 + pl - 1).toNat = pl.toNat := by omega
  rw [e1] at bl
  have bv : ∃ v, okN 60 v = true ∧ ((lineL tz 0)[pl.toNat]? = none → v = .str "no way") ∧ (∀ p, (lineL tz 0)[pl.toNat]? = some p → v = enc2 p) := by
    cases q : (lineL tz 0)[pl.toNat]? with
    | none => exact ⟨_, rfl, fun _ => rfl, fun p z => (by cases z)⟩
    | some p => exact ⟨enc2 p, rfl, fun z => (by cases z), fun p' z => (by cases z; rfl)⟩
  obtain ⟨v, bv1, bv2, bv3⟩ := bv
  refine sq_chk (v := v) (told_eq ?_) ?_ bv1 ?_
  · simp
    refine broken_wp (fun z => by omega) (fun _ z => ⟨_, w_way, ?_, rfl⟩) (fun _ i p z => ⟨?_, rfl⟩)
    · rw [bl] at z; exact (bv2 z).symm
    · rw [bl] at z; exact (bv3 _ z).symm
  · refine wp_eq ?_
    cases q : (lineL tz 0)[pl.toNat]? with
    | none =>
      have : ¬ 1 + pl ≤ ((lineL tz 0).length : Int) := by
        have := List.getElem?_eq_none_iff.mp q
        omega
      simp [this]
      exact (bv2 q).symm
    | some p =>
      have hlt := (List.getElem?_eq_some_iff.mp q).1
      have : 1 + pl ≤ ((lineL tz 0).length : Int) := by omega
      have ha : L2.atI ((lineL tz 0).map enc2) (1 + pl - 1) = some (enc2 p) := by
        unfold L2.atI ixN
        rw [if_pos (by omega), if_pos (by simp; omega), Option.bind_some, e1, List.getElem?_map, q]
        rfl
      simp [this, ha]
      exact (bv3 p q).symm
  clear bl bv1 bv2 bv3
  refine sq_par ?_
  rw [wp_mCons, wp_mUn, wp_mUn, wp_mUn]
  refine prolls_wp (d := d) (c := 5) (by rfl) (by decide) (by decide) (by decide) ?_ (by decide) fun cs st5 cs0 csl hd5 _ => ?_
  · exact hit_wp hd4 (by rfl) (by decide) (by decide) (by decide)
  have ed : fDictP (.lst (cs.map enc2)) st5 = .ok (false, tb D.int (mg cs)) st5 := fDictP_tb D.int cs
  simp only [wp_ok, ed, wp_mCons, wp_mCall, wp_mNil, wp_mVar, wp_mK]
  refine ⟨.loc d, rfl, rfl, ?_⟩
  refine roll_wp hd5 (by decide) (by decide) fun ls st6 ls0 ls1 hd6 _ => ?_
  refine ⟨⟨rfl, by simp⟩, ?_⟩
  have kin : ∀ q ∈ keys (mg cs), 0 ≤ q ∧ q < 12 := fun q hq => by
    rw [keys_mg] at hq
    obtain ⟨p, hp, rfl⟩ := List.mem_map.mp hq
    exact cs0 p hp
  have lmg := len_mg cs
  refine sq_chk (v := .lst (((rng 0 12).filter fun q => (lk (mg cs) q).isSome && lessP (mg cs) ls q).map .int)) ?_ ?_ (okN_ints _) ?_
  · refine wp_eq ?_
    simp [setsD]
    refine run_wp (by omega) (fun z => by omega) fun _ => ?_
    rw [run_filter (nodup_mg cs) kin]
    simp
  · refine wp_eq ?_
    rw [wp_mUn]
    refine wp_compL (rng 0 12) D.int (fun q => (lk (mg cs) q).isSome && lessP (mg cs) ls q) D.int ?_
    refine wp_val (v := (rng 0 12).map D.int) (st := st6) (by rfl) ⟨rfl, by simp, fun q hq => ⟨_, rfl, wp_eq ?_, fun _ => wp_eq ?_⟩, by simp⟩
    · cases e : lk (mg cs) q with
      | none => simp [setsD, wipeE, e]
      | some v => simp [setsD, wipeE, e, lessP_some e]; omega
    · simp [setsD, wipeE]
  clear kin
  refine sq_par ?_
  simp only [wp_mCons, wp_mBin, wp_mK, wp_mCall, wp_mNil, wp_mVar]
  refine ⟨.loc d, rfl, rfl, ?_⟩
  refine roll_wp hd6 (by decide) (by decide) fun mi st7 mi0 mi1 hd7 _ => ?_
  rw [wp_pure2]
  refine ⟨_, dAdd_i, .loc d, rfl, rfl, ?_⟩
  refine roll_wp hd7 (by decide) (by decide) fun wi st8 wi0 wi1 hd8 _ => ?_
  rw [wp_pure2]
  refine ⟨_, dAdd_i, .loc d, rfl, rfl, ?_⟩
  refine roll_wp hd8 (by decide) (by decide) fun ma st9 ma0 ma1 hd9 _ => ?_
  refine ⟨⟨rfl, by simp⟩, ?_⟩
  refine sq_set ?_
  rw [wp_mCall]
  simp only [wp_mCons, wp_mNil, wp_mVar]
  refine ⟨_, rfl, rfl, ⟨_, rfl, rfl, ⟨_, rfl, rfl, ?_⟩⟩⟩
  refine bell_wp (by omega) (by omega) ?_
  have kk : (keys (bellL (10 + mi) (1 + wi) ma)) = rng ((10 + mi) - (1 + wi) + 1) ((10 + mi) + (1 + wi) - ((10 + mi) - (1 + wi) + 1)).toNat := by
    rw [bell_keys (by omega)]
    congr 1 <;> omega
  have kl : (bellL (10 + mi) (1 + wi) ma).length < 64 := by
    have := congrArg List.length kk
    rw [rng_len] at this
    unfold keys at this
    rw [List.length_map] at this
    omega
  have b1 : fListRg2 (.int ((10 + mi) - (1 + wi) + 1)) (.int ((10 + mi) + (1 + wi))) st9 = .ok ((rng ((10 + mi) - (1 + wi) + 1) ((10 + mi) + (1 + wi) - ((10 + mi) - (1 + wi) + 1)).toNat).map D.int) st9 := by
    rw [← rangeL_rng]
    simp [fListRg2]
    omega
  refine sq_no ?_ ?_
  · refine wp_eq ?_
    simp [setsD, dSumV_tb, bell_sum (mid := 10 + mi) (wide := 1 + wi) (many := ma) (by omega), sortedD_tbI _ _ kl, kk, sort_rng, b1, dNe_lints]
  refine sq_no ?_ ?_
  · refine wp_eq ?_
    rw [wp_mTest, wp_mBin, wp_mUn]
    refine wp_compL (keys (bellL (10 + mi) (1 + wi) ma)) D.int (fun _ => false) D.int ?_
    refine wp_val (v := (keys (bellL (10 + mi) (1 + wi) ma)).map D.int) (st := st9) ?_ ⟨rfl, ?_, fun q hq => ⟨_, rfl, wp_eq ?_, (fun z => by cases z)⟩, ?_⟩
    · simp [setsD, mWalk, Wk.of, tb, keys]
      exact fun _ _ _ => rfl
    · unfold keys; rw [List.length_map]; omega
    · have hq' := hq
      rw [bell_keys (by omega)] at hq'
      have hl := fun h => bell_lk (mid := 10 + mi) (wide := 1 + wi) (many := ma) (k := q) hq' h
      by_cases h : q = 10 + mi
      · simp [setsD, wipeE, h]
      · have hw : 0 < (1 + wi) * (1 + wi) ∧ (1 + wi) * (1 + wi) ≤ 25 := by
          have : wi = 0 ∨ wi = 1 ∨ wi = 2 ∨ wi = 3 ∨ wi = 4 := by omega
          rcases this with rfl | rfl | rfl | rfl | rfl <;> decide
        simp [setsD, wipeE, h, hl h, ab, dMul_i (i := ma) (.inl ⟨by omega, by omega⟩), dMul_i (i := 1 + wi) (.inl ⟨by omega, by omega⟩), dDiv_i hw.1 (by omega)]
    · have : (keys (bellL (10 + mi) (1 + wi) ma)).filter (fun _ => false) = [] := List.filter_eq_nil_iff.mpr (fun _ _ z => by cases z)
      simp only [this]
      exact ⟨_, rfl, (by simp [D.eqv, eqvL]), rfl⟩
  rw [wo_ret, wp_mCall, wp_mNil]
  refine cases1_wp ?_
  exact k _
end
end K02

set_option maxRecDepth 100000
set_option maxHeartbeats 4000000
namespace K02
open PySem PySem.Spec PyProof.Rows L2 Ev
section
variable {st : Sto} {P : D → Sto → Prop} {E : Exn → Sto → Prop}
theorem pow_18 : dPow (D.int 10) (D.int 18) = some (.int 1000000000000000000) := by kernel_rfl
theorem dice_wp {z : Int} (k : ∀ a b c : Int, P (.loc st.length) (st ++ [.ls [.int a, .int b, .int c]])) : wpR (mFn 1 m__law_dice [.int z] st) P E := by
  rw [wp_fn]
  unfold m__law_dice
  simp
  cases e1 : ordOf CmpOp.Lt (-10) z with
  | false => exact .inl ⟨rfl, _, dMod_i (by decide), _, dAdd_i, _, pow_18, _, dGe_i, _, rfl, k _ _ _⟩
  | true =>
    refine .inr ⟨rfl, ?_⟩
    cases e2 : ordOf CmpOp.Lt z 10 with
    | false => exact .inl ⟨rfl, _, dMod_i (by decide), _, dAdd_i, _, pow_18, _, dGe_i, _, rfl, k _ _ _⟩
    | true => exact .inr ⟨rfl, k _ _ _⟩
theorem rounds_wp {ns : List Int} (k : ∀ a b c : Int, P (.lst [.loc st.length]) (st ++ [.ls [.int a, .int b, .int c]])) : wpR (mFn 4 m__law_rounds [.lst (ns.map .int), .int 1] st) P E := by
  rw [wp_fn]
  unfold m__law_rounds
  have key : ∀ z : Int, wpR (mComp (mItems (mVar 2)) [3] (gvN 3) mYes (mCall (mFn 1 m__law_dice) (mCons (mVar 3) mNil)) [some (.lst (ns.map .int)), some (.int 1), some (.lst [.int z]), none] st) (fun ds st' => ∃ a b c : Int, ds = [.loc st.length] ∧ st' = (st ++ [.ls [.int a, .int b, .int c]])) (fun _ _ => False) := by
    intro z
    refine wp_compI (fun ds acc s => (ds = [.int z] ∧ acc = [] ∧ s = st) ∨ (ds = [] ∧ ∃ a b c : Int, acc = [.loc st.length] ∧ s = (st ++ [.ls [.int a, .int b, .int c]]))) ?_
    simp [D.items]
    rintro d ds acc s rfl rfl rfl rfl
    refine ⟨_, rfl, ?_⟩
    simp [wipeE]
    exact wp_val (v := true) (st := s) (by rfl) ⟨fun _ => dice_wp fun a b c => ⟨rfl, a, b, c, rfl⟩, rfl⟩
  cases ns with
  | nil =>
    simp
    refine ⟨_, rfl, .inr ⟨(by rfl), (key 0).imp (fun ds st' ⟨a, b, c, q1, q2⟩ => ?_) fun _ _ z => z.elim⟩⟩
    rw [q1, q2]; exact k a b c
  | cons z r =>
    have hc : Ev.cutD (D.int z :: List.map D.int r) none (some 1) = [.int z] := by
      simp [Ev.cutD, HT.sIx]
    simp [hc]
    refine ⟨_, rfl, .inl ⟨(by rfl), (key z).imp (fun ds st' ⟨a, b, c, q1, q2⟩ => ?_) fun _ _ z => z.elim⟩⟩
    rw [q1, q2]; exact k a b c
end
end K02

set_option maxRecDepth 100000
set_option maxHeartbeats 4000000
namespace K02
open PySem PySem.Spec PyProof.Rows L2 Ev
def nmOf : Int → Str := fun k => if k = 0 then "east" else if k = 1 then "west" else if k = 2 then "child" else ""
def StInv (l : Ks) (st : Sto) : Prop := Dice st 0 ∧ Tab st 1 l ∧ Good l ∧ (keys l).Nodup ∧ ∀ x ∈ keys l, x ∈ nm3
theorem StInv.len {l : Ks} {st : Sto} (h : StInv l st) : l.length ≤ 3 := by
  have h1 := h.2.2.2.1
  have h2 := h.2.2.2.2
  have hp : (nm3.filter fun k => decide (k ∈ keys l)).Perm (keys l) := by
    rw [List.perm_ext_iff_of_nodup ((by decide : nm3.Nodup).filter _) h1]
    intro x
    rw [List.mem_filter]
    exact ⟨fun h => by simpa using h.2, fun h => ⟨h2 x h, by simpa using h⟩⟩
  have h3 := hp.length_eq
  have h4 := List.length_filter_le (fun k => decide (k ∈ keys l)) nm3
  have h5 : nm3.length = 3 := rfl
  have h6 : (keys l).length = l.length := by unfold keys; rw [List.length_map]
  omega
section
variable {st : Sto} {P : D → Sto → Prop} {E : Exn → Sto → Prop}
theorem name_wp {env : Ev.Env} (he : env[1]? = some (some (.loc 0))) (hd : Dice st 0) {P : D → Sto → Prop} (k : ∀ (x : Str) st', (x = "" ∨ x ∈ nm3) → Dice st' 0 → But 0 st st' → P (.str x) st') :
    wpR (mBin (mUn (mSmall (mCons (mK (.str "east")) (mCons (mK (.str "west")) (mCons (mK (.str "child")) (mCons (mK (.str "")) mNil))))) fun ds st => .ok (.lst ds) st) (mUn (mCons (mK (.int 3)) (mCons (mBin (mCall (mFn 3 m__law_roll) (mCons (mVar 1) (mCons (mK (.int 10)) mNil))) (mK (.int 3)) (pure2 dDiv)) mNil)) fMin2) (fun d i st => Res.of (dIx d i st) st) env st) P E := by
  simp only [wp_mBin, wp_mUn, wp_mSmall, wp_mCons, wp_mK, wp_mNil, wp_mCall, wp_mVar]
  refine ⟨by decide, _, he, rfl, ?_⟩
  refine roll_wp hd (by decide) (by decide) fun v st' v0 v1 d1 b1 => ?_
  have : v / 3 = 0 ∨ v / 3 = 1 ∨ v / 3 = 2 ∨ v / 3 = 3 := by omega
  rw [wp_pure2]
  refine ⟨_, dDiv_i (by decide) (by decide), ?_⟩
  rcases this with h | h | h | h
  · rw [h]; exact k "east" st' (.inr (by decide)) d1 b1
  · rw [h]; exact k "west" st' (.inr (by decide)) d1 b1
  · rw [h]; exact k "child" st' (.inr (by decide)) d1 b1
  · rw [h]; exact k "" st' (.inl rfl) d1 b1
end
end K02

set_option maxRecDepth 100000
set_option maxHeartbeats 4000000
namespace K02
open PySem PySem.Spec PyProof.Rows L2 Ev
theorem len21 {env : Ev.Env} (h : env.length = 21) : ∃ u0 u1 u2 u3 u4 u5 u6 u7 u8 u9 u10 u11 u12 u13 u14 u15 u16 u17 u18 u19 u20, env = [u0, u1, u2, u3, u4, u5, u6, u7, u8, u9, u10, u11, u12, u13, u14, u15, u16, u17, u18, u19, u20] := by
  match env, h with
  | [u0, u1, u2, u3, u4, u5, u6, u7, u8, u9, u10, u11, u12, u13, u14, u15, u16, u17, u18, u19, u20], _ => exact ⟨u0, u1, u2, u3, u4, u5, u6, u7, u8, u9, u10, u11, u12, u13, u14, u15, u16, u17, u18, u19, u20, rfl⟩
noncomputable section
def midB : Sm := (sIf (mOr (mTest (mBin (mVar 13) (mVar 7) (pure2 dNe))) (mTest (mBin (mMeth "Table" "shown" (mFn 2 m_Table_shown) (mVar 3) mNil) (mUn (mUn (mComp (mItems (mUn (mUn (mVarC 4) fSortedD) fun ds st => .ok (.lst ds) st)) [20] (gvN 20) mYes (mBin (mTup (mCons (mVar 20) mNil)) (mBin (mVarC 4) (mVar 20) (pure2 dItem)) (pure2 dCatT))) fun ds st => .ok (.lst ds) st) fun d st => (Res.of (dS d st) st).bind fun xs st => .ok (.tup xs) st) (pure2 dNe)))) (sRet (mK (.bl false))) sPass)
def stepB : Sm := (sSeq (sPar [11, 5, 6, 12] (mCons (mBin (mUn (mSmall (mCons (mK (.str "east")) (mCons (mK (.str "west")) (mCons (mK (.str "child")) (mCons (mK (.str "")) mNil))))) fun ds st => .ok (.lst ds) st) (mUn (mCons (mK (.int 3)) (mCons (mBin (mCall (mFn 3 m__law_roll) (mCons (mVar 1) (mCons (mK (.int 10)) mNil))) (mK (.int 3)) (pure2 dDiv)) mNil)) fMin2) fun d i st => Res.of (dIx d i st) st) (mCons (mCall (mFn 3 m__law_roll) (mCons (mVar 1) (mCons (mK (.int 30)) mNil))) (mCons (mCall (mFn 3 m__law_roll) (mCons (mVar 1) (mCons (mK (.int 20)) mNil))) (mCons (mCall (mFn 3 m__law_roll) (mCons (mVar 1) (mCons (mK (.int 5)) mNil))) mNil)))))
  (sSeq (sIf (mTest (mBin (mCall (mFn 3 m__law_roll) (mCons (mVar 1) (mCons (mK (.int 4)) mNil))) (mK (.int 0)) (pure2 (dOrd fGt)))) (sSeq (sSet 7 (mIf (mOr (mTest (mBin (mVar 11) (mK (.str "")) (pure2 dEq))) (mTest (mBin (mVar 11) (mVarC 4) (pure2 dIn)))) (mK (.str "deed")) (mIf (mTest (mBin (mVar 12) (mK (.int 1)) (pure2 (dOrd fLt)))) (mK (.str "size")) (mK .non))))
  (sSeq (sSet 13 (mTold ts ws (mMeth "Table" "tell" (mFn 5 m_Table_tell) (mVar 3) (mCons (mVar 11) (mCons (mVar 5) (mCons (mVar 6) (mCons (mVar 12) mNil)))))))
  (sIf (mTest (mBin (mVar 7) (mK .non) (pure2 dIsN))) (sPut (pSlot 4) (mVar 11) (mTup (mCons (mVar 5) (mCons (mVar 6) (mCons (mVar 12) mNil))))) sPass))) (sSeq (sPar [7, 13] (mCons (mIf (mTest (mBin (mVar 11) (mVarC 4) (pure2 dIn))) (mK .non) (mK (.str "no such"))) (mCons (mTold ts ws (mMeth "Table" "forget" (mFn 2 m_Table_forget) (mVar 3) (mCons (mVar 11) mNil))) mNil)))
  (sFrz 4 (sOwnD 4 (mUn (mUn (mComp (mWalk .keys 4) [20] (gvN 20) (mTest (mBin (mVar 20) (mVar 11) (pure2 dNe))) (mTup (mCons (mVar 20) (mCons (mBin (mVar 4) (mVar 20) (pure2 dItem)) mNil)))) fun ds st => .ok (.lst ds) st) fDictP)))))
  midB))
end
def LInv (env : Ev.Env) (st : Sto) : Prop := env.length = 21 ∧ ∃ l, env[1]? = some (some (.loc 0)) ∧ env[3]? = some (some (.loc 1)) ∧ env[4]? = some (some (.ownd (false, tb kd l))) ∧ StInv l st
section
variable {st : Sto} {env : Ev.Env} {Q : Wi}
theorem okN_show (l : Ks) : okN 60 (showL l) = true := by
  unfold showL
  simp only [okN, List.all_eq_true, List.mem_filterMap]
  rintro x ⟨k, _, e⟩
  cases h : lk l k with
  | none => simp [h] at e
  | some v => simp [h] at e; subst e; simp [okN]
theorem StInv.put {l : Ks} {st : Sto} {x : Str} {a b c : Int} (h : StInv l st) (hx : x ∈ nm3) (ha : 0 ≤ a ∧ a < 30) (hb : 0 ≤ b ∧ b < 20) (hc : 1 ≤ c ∧ c < 5) : StInv (pt l x (a, b, c)) (st.set 1 (tabO (pt l x (a, b, c)))) := by
  obtain ⟨⟨p, q, r, hd⟩, ht, hg, hn, hm⟩ := h
  have hl : 1 < st.length := (List.getElem?_eq_some_iff.mp ht).1
  refine ⟨⟨p, q, r, by rw [List.getElem?_set_ne (by decide)]; exact hd⟩, List.getElem?_set_self hl, ?_, nodup_pt hn, ?_⟩
  · intro y f s e h
    rw [lk_pt] at h
    split at h
    · cases h; exact ⟨ha, hb, hc⟩
    · exact hg y f s e h
  · intro y hy
    rw [keys_pt] at hy
    split at hy
    · exact hm y hy
    · rcases List.mem_append.mp hy with hy | hy
      · exact hm y hy
      · rw [List.mem_singleton.mp hy]; exact hx
theorem lk_of {l : Ks} {p : Str × Int × Int × Int} (hn : (keys l).Nodup) (hp : p ∈ l) : lk l p.1 = some p.2 := by
  induction l with
  | nil => cases hp
  | cons q r ih =>
    obtain ⟨a, b⟩ := q
    rw [lk_cons]
    have hn' : (a :: keys r).Nodup := hn
    rw [List.nodup_cons] at hn'
    rcases List.mem_cons.mp hp with h | h
    · rw [h, if_pos rfl]
    · rw [if_neg, ih hn'.2 h]
      intro e
      exact hn'.1 (e ▸ List.mem_map_of_mem h)
theorem dr_none {l : Ks} {x : Str} (e : lk l x = none) : dr l x = l := by
  unfold dr
  rw [List.filter_eq_self]
  intro p hp
  have := lk_none.mp e
  have : p.1 ≠ x := fun z => this (z ▸ List.mem_map_of_mem hp)
  simp [this]
theorem StInv.drop {l : Ks} {st : Sto} {x : Str} (h : StInv l st) : StInv (dr l x) (st.set 1 (tabO (dr l x))) := by
  obtain ⟨⟨p, q, r, hd⟩, ht, hg, hn, hm⟩ := h
  have hl : 1 < st.length := (List.getElem?_eq_some_iff.mp ht).1
  refine ⟨⟨p, q, r, by rw [List.getElem?_set_ne (by decide)]; exact hd⟩, List.getElem?_set_self hl, ?_, nodup_dr hn, ?_⟩
  · intro y f s e h
    rw [lk_dr] at h
    split at h
    · cases h
    · exact hg y f s e h
  · intro y hy
    unfold keys dr at hy
    obtain ⟨w, hw, rfl⟩ := List.mem_map.mp hy
    exact hm _ (List.mem_map_of_mem (List.mem_filter.mp hw).1)
theorem mid_wp {v : D} (h : LInv env st) (e7 : env[7]? = some (some v)) (e13 : env[13]? = some (some v)) (hv : okN 60 v = true) (k : LInv env st → Q.nx env st) : wpO (midB env st) Q := by
  have hk := k h
  obtain ⟨h0, l, h1, h3, h4, hs⟩ := h
  obtain ⟨u0, u1, u2, u3, u4, u5, u6, u7, u8, u9, u10, u11, u12, u13, u14, u15, u16, u17, u18, u19, u20, rfl⟩ := len21 h0
  have q1 := Option.some.inj h1
  have q3 := Option.some.inj h3
  have q4 := Option.some.inj h4
  have q7 := Option.some.inj e7
  have q13 := Option.some.inj e13
  subst q1 q3 q4 q7 q13
  clear h1 h3 h4 e7 e13
  have hl := hs.len
  obtain ⟨hd, ht, hg, hn, hm⟩ := hs
  unfold midB
  have ov : v.isOwn = false := by cases v <;> first | rfl | (simp [okN] at hv)
  refine if_no ?_ (by simpa using hk)
  refine wp_eq ?_
  simp only [wp_mOr, wp_mTest, wp_mBin, wp_mVar]
  refine ⟨v, rfl, ov, v, rfl, ov, ?_⟩
  rw [wp_pure2]
  refine ⟨_, dNe_self hv, _, rfl, (fun z => by cases z), fun _ => ?_⟩
  have n1 : (fsT l).lookup ("shown" : Str) = none := by
    have : (("shown" : Str) == ("kinds" : Str)) = false := by decide
    simp only [fsT, List.lookup, this]
  rw [wp_mMeth, wp_mVar]
  refine ⟨.loc 1, rfl, rfl, _, tab_ob ht, (by rw [n1]; rfl), ?_⟩
  rw [wp_mNil]
  refine shown_wp ht (by omega) ?_
  rw [wp_mUn, wp_mUn]
  refine wp_comp (fun d => match d with | .str k => (lk l k).map fun v => .tup [.str k, .int v.1, .int v.2.1, .int v.2.2] | _ => none) ?_
  simp [-Prod.exists, sortedD_tb kd l (show l.length < 64 by omega), D.items, D.cur]
  refine ⟨?_, fun z hz => ?_, ?_⟩
  · have : (skeys l).length = l.length := by simp [skeys, List.length_mergeSort]
    omega
  · obtain ⟨v, e⟩ := mem_skeys hz
    refine ⟨_, rfl, .inl ⟨rfl, .tup [.str z, .int v.1, .int v.2.1, .int v.2.2], ?_, v, e, rfl⟩⟩
    refine wp_eq ?_
    simp [-Prod.exists, wipeE, e, dCatT, D.cur]
  · exact ⟨_, dNe_self (okN_show l), rfl⟩
theorem step_wp (h : LInv env st) (k : ∀ env' st', LInv env' st' → Q.nx env' st') : wpO (stepB env st) Q := by
  obtain ⟨h0, l, h1, h3, h4, hs⟩ := h
  obtain ⟨u0, u1, u2, u3, u4, u5, u6, u7, u8, u9, u10, u11, u12, u13, u14, u15, u16, u17, u18, u19, u20, rfl⟩ := len21 h0
  simp only [List.getElem?_cons_zero, List.getElem?_cons_succ, Option.some.injEq] at h1 h3 h4
  subst h1 h3 h4
  have hl := hs.len
  obtain ⟨hd, ht, hg, hn, hm⟩ := hs
  unfold stepB
  refine sq_par ?_
  rw [wp_mCons]
  refine name_wp (by rfl) hd fun x s1 hx d1 b1 => ?_
  simp only [wp_mCons, wp_mCall, wp_mNil, wp_mVar, wp_mK]
  refine ⟨.loc 0, rfl, rfl, ?_⟩
  refine roll_wp d1 (by decide) (by decide) fun a s2 a0 a1 d2 b2 => ⟨.loc 0, rfl, rfl, ?_⟩
  refine roll_wp d2 (by decide) (by decide) fun b s3 e0 e1 d3 b3 => ⟨.loc 0, rfl, rfl, ?_⟩
  refine roll_wp d3 (by decide) (by decide) fun c s4 c0 c1 d4 b4 => ?_
  refine ⟨⟨rfl, by simp⟩, ?_⟩
  refine sq_if ?_
  rw [wp_mTest, wp_mBin, wp_mCall]
  simp only [wp_mCons, wp_mNil, wp_mVar, wp_mK]
  refine ⟨.loc 0, rfl, rfl, ?_⟩
  refine roll_wp d4 (by decide) (by decide) fun v s5 v0 v1 d5 b5 => ?_
  rw [wp_pure2]
  have t5 : Tab s5 1 l := by
    unfold Tab at *
    rw [b5.2 1 (by decide), b4.2 1 (by decide), b3.2 1 (by decide), b2.2 1 (by decide), b1.2 1 (by decide)]
    exact ht
  clear b5 b4 b3 b2 b1 d1 d2 d3 d4 hd ht
  refine ⟨_, dGt_i, _, rfl, fun _ => ?_, fun _ => ?_⟩
  · by_cases c1 : x = "" ∨ (lk l x).isSome = true
    · refine sq_setv (v := .str "deed") ?_ ?_
      · refine wp_eq ?_
        rcases c1 with c1 | c1
        · simp [setsD, c1]
        · simp [setsD, c1]
          exact (Classical.em _).symm
      refine sq_setv (v := .str "deed") (told_eq ?_) ?_
      · rw [wp_mMeth]
        have n1 : (fsT l).lookup ("tell" : Str) = none := by
          have : (("tell" : Str) == ("kinds" : Str)) = false := by decide
          simp only [fsT, List.lookup, this]
        simp only [wp_mVar, wp_mCons, wp_mNil]
        refine ⟨.loc 1, rfl, rfl, _, tab_ob t5, (by rw [n1]; rfl), _, rfl, rfl, _, rfl, rfl, _, rfl, rfl, _, rfl, rfl, ?_⟩
        refine tell_wp t5 (by omega) (fun _ => ⟨_, by rfl, rfl, rfl⟩) (fun h => absurd c1 h) (fun h => absurd c1 h)
      · refine if_no ?_ ?_
        · exact wp_eq (by simp [setsD]; exact ⟨_, by rfl, rfl⟩)
        · exact mid_wp (v := .str "deed") ⟨rfl, l, rfl, rfl, rfl, d5, t5, hg, hn, hm⟩ rfl rfl rfl (fun h => k _ _ h)
    · by_cases c2 : c < 1
      · refine sq_setv (v := .str "size") ?_ ?_
        · refine wp_eq ?_
          simp [setsD, not_or.mp c1, c2]
        refine sq_setv (v := .str "size") (told_eq ?_) ?_
        · rw [wp_mMeth]
          have n1 : (fsT l).lookup ("tell" : Str) = none := by
            have : (("tell" : Str) == ("kinds" : Str)) = false := by decide
            simp only [fsT, List.lookup, this]
          simp only [wp_mVar, wp_mCons, wp_mNil]
          refine ⟨.loc 1, rfl, rfl, _, tab_ob t5, (by rw [n1]; rfl), _, rfl, rfl, _, rfl, rfl, _, rfl, rfl, _, rfl, rfl, ?_⟩
          refine tell_wp t5 (by omega) (fun h => absurd h c1) (fun _ _ => ⟨_, by rfl, rfl, rfl⟩) (fun _ h => absurd (.inr (.inr c2)) h)
        · refine if_no ?_ ?_
          · exact wp_eq (by simp [setsD]; exact ⟨_, by rfl, rfl⟩)
          · exact mid_wp (v := .str "size") ⟨rfl, l, rfl, rfl, rfl, d5, t5, hg, hn, hm⟩ rfl rfl rfl (fun h => k _ _ h)
      · refine sq_setv (v := .non) ?_ ?_
        · refine wp_eq ?_
          simp [setsD, not_or.mp c1, c2]
        refine sq_set ?_
        rw [wp_told, wp_mMeth]
        have n1 : (fsT l).lookup ("tell" : Str) = none := by
          have : (("tell" : Str) == ("kinds" : Str)) = false := by decide
          simp only [fsT, List.lookup, this]
        simp only [wp_mVar, wp_mCons, wp_mNil]
        refine ⟨.loc 1, rfl, rfl, _, tab_ob t5, (by rw [n1]; rfl), _, rfl, rfl, _, rfl, rfl, _, rfl, rfl, _, rfl, rfl, ?_⟩
        refine tell_wp t5 (by omega) (fun h => absurd h c1) (fun _ h => by omega) (fun _ _ => ?_)
        refine if_yes ?_ ?_
        · exact wp_eq (by simp [setsD]; exact ⟨_, by rfl, rfl⟩)
        · simp [setsD]
          refine .inl ⟨tb kd l, rfl, by rw [tb_len]; omega, ?_⟩
          rw [kd_put]
          exact mid_wp (v := .non) ⟨rfl, pt l x (a, b, c), rfl, rfl, rfl, StInv.put ⟨d5, t5, hg, hn, hm⟩ (hx.resolve_left fun h => c1 (.inl h)) ⟨a0, a1⟩ ⟨e0, e1⟩ (by omega)⟩ rfl rfl rfl (fun h => k _ _ h)
  · refine sq_par ?_
    rw [wp_mCons]
    cases e : lk l x with
    | none =>
      have hdr : dr l x = l := dr_none e
      simp only [wp_mCons, wp_mNil]
      refine wp_val (v := .str "no such") (st := s5) (wp_eq (by simp [setsD, e])) ?_
      rw [wp_told, wp_mMeth]
      have n1 : (fsT l).lookup ("forget" : Str) = none := by
        have : (("forget" : Str) == ("kinds" : Str)) = false := by decide
        simp only [fsT, List.lookup, this]
      simp only [wp_mVar, wp_mCons, wp_mNil]
      refine ⟨.loc 1, rfl, rfl, _, tab_ob t5, (by rw [n1]; rfl), _, rfl, rfl, ?_⟩
      refine forget_wp t5 (fun _ => ⟨"no such", by rfl, ?_⟩) fun h => by rw [e] at h; cases h
      refine ⟨⟨rfl, by simp⟩, ?_⟩
      rw [wo_frz, wo_ownD, wp_mUn, wp_mUn]
      refine wp_compL l (fun p => .str p.1) (fun p => !decide (p.1 = x)) (fun p => .tup [KeyD.d p.1, kd p.2]) ?_
      refine wp_val (v := l.map fun p => .str p.1) (st := s5) ?_ ⟨rfl, by omega, fun p hp => ⟨_, rfl, wp_eq ?_, fun hx => wp_eq ?_⟩, ?_⟩
      · simp [setsD, mWalk, Wk.of, frzE, tb]
        exact fun _ _ _ _ _ => rfl
      · simp [setsD, wipeE, frzE]
        exact Classical.em _
      · simp [setsD, wipeE, frzE]
        exact ⟨⟨_, _, _, lk_of hn hp, rfl, rfl, rfl⟩, rfl⟩
      · rw [wp_ok, fDictP_tb kd, show mg (List.filter (fun p => !decide (p.1 = x)) l) = dr l x from mg_id (nodup_dr (k := x) hn), hdr]
        exact mid_wp (v := .str "no such") ⟨rfl, l, rfl, rfl, rfl, d5, t5, hg, hn, hm⟩ rfl rfl rfl (fun h => k _ _ h)
    | some v =>
      simp only [wp_mCons, wp_mNil]
      refine wp_val (v := .non) (st := s5) (wp_eq (by simp [setsD, e])) ?_
      rw [wp_told, wp_mMeth]
      have n1 : (fsT l).lookup ("forget" : Str) = none := by
        have : (("forget" : Str) == ("kinds" : Str)) = false := by decide
        simp only [fsT, List.lookup, this]
      simp only [wp_mVar, wp_mCons, wp_mNil]
      refine ⟨.loc 1, rfl, rfl, _, tab_ob t5, (by rw [n1]; rfl), _, rfl, rfl, ?_⟩
      refine forget_wp t5 (fun h => by rw [e] at h; cases h) fun _ => ?_
      refine ⟨⟨rfl, by simp⟩, ?_⟩
      rw [wo_frz, wo_ownD, wp_mUn, wp_mUn]
      refine wp_compL l (fun p => .str p.1) (fun p => !decide (p.1 = x)) (fun p => .tup [KeyD.d p.1, kd p.2]) ?_
      refine wp_val (v := l.map fun p => .str p.1) (st := List.set s5 1 (tabO (dr l x))) ?_ ⟨rfl, by omega, fun p hp => ⟨_, rfl, wp_eq ?_, fun hx => wp_eq ?_⟩, ?_⟩
      · simp [setsD, mWalk, Wk.of, frzE, tb]
        exact fun _ _ _ _ _ => rfl
      · simp [setsD, wipeE, frzE]
        exact Classical.em _
      · simp [setsD, wipeE, frzE]
        exact ⟨⟨_, _, _, lk_of hn hp, rfl, rfl, rfl⟩, rfl⟩
      · rw [wp_ok, fDictP_tb kd, show mg (List.filter (fun p => !decide (p.1 = x)) l) = dr l x from mg_id (nodup_dr (k := x) hn)]
        exact mid_wp (v := .non) ⟨rfl, dr l x, rfl, rfl, rfl, StInv.drop ⟨d5, t5, hg, hn, hm⟩⟩ rfl rfl rfl (fun h => k _ _ h)
end
end K02

set_option maxRecDepth 100000
set_option maxHeartbeats 4000000
namespace K02
open PySem PySem.Spec PyProof.Rows L2 Ev
noncomputable section
def tailB : Sm := (sSeq (sPar [5, 6] (mCons (mCall (mFn 3 m__law_roll) (mCons (mVar 1) (mCons (mK (.int 60)) mNil))) (mCons (mCall (mFn 3 m__law_roll) (mCons (mVar 1) (mCons (mK (.int 30)) mNil))) mNil)))
  (sSeq (sFrz 4 (sIf (mNot (mTest (mCall (mFn 11 m__law_each) (mCons (mVar 3) (mCons (mVar 4) (mCons (mVar 5) (mCons (mVar 6) mNil))))))) (sRet (mK (.bl false))) sPass))
  (sSeq (sPar [7, 8] (mCons (mK (.str "no such")) (mCons (mK (.str "no such")) mNil)))
  (sSeq (sIf (mTest (mBin (mK (.str "east")) (mVarC 4) (pure2 dIn))) (sSeq (sTgt (gvT (gvCons (gvN 14) (gvCons (gvN 15) (gvCons (gvN 12) gvNil)))) (mBin (mVarC 4) (mK (.str "east")) (pure2 dItem)))
  (sSet 7 (mIf (mTest (mBin (mVar 6) (mVar 15) (pure2 (dOrd fLt)))) (mK (.str "no way")) (mK (.str "no such"))))) sPass)
  (sSeq (sIf (mAnd (mTest (mBin (mK (.str "east")) (mVarC 4) (pure2 dIn))) (mTest (mBin (mK (.str "west")) (mVarC 4) (pure2 dIn)))) (sSeq (sTgt (gvT (gvCons (gvN 14) (gvCons (gvN 15) (gvCons (gvN 12) gvNil)))) (mBin (mVarC 4) (mK (.str "east")) (pure2 dItem)))
  (sSeq (sTgt (gvT (gvCons (gvN 16) (gvCons (gvN 17) (gvCons (gvN 18) gvNil)))) (mBin (mVarC 4) (mK (.str "west")) (pure2 dItem)))
  (sSeq (sSet 9 (mBin (mVar 14) (mBin (mBin (mVar 6) (mVar 15) (pure2 dSub)) (mVar 12) (pure2 dMul)) (pure2 dAdd)))
  (sSeq (sSet 7 (mIf (mAnd (mTest (mBin (mVar 6) (mVar 15) (pure2 (dOrd fGe)))) (mTest (mBin (mVar 9) (mVar 16) (pure2 (dOrd fGe))))) (mBin (mUn (mComp (mUn (mCons (mVar 17) (mCons (mK (.int 400)) mNil)) fun ds st => Res.of (dRange2 ds) st) [19] (gvN 19) (mTest (mBin (mBin (mVar 16) (mBin (mBin (mVar 19) (mVar 17) (pure2 dSub)) (mVar 18) (pure2 dMul)) (pure2 dAdd)) (mVar 9) (pure2 (dOrd fGe)))) (mVar 19)) fun ds st => .ok (.lst ds) st) (mK (.int 0)) fun d i st => Res.of (dIx d i st) st) (mK (.str "no way"))))
  (sSeq (sSet 10 (mUn (mComp (mUn (mCons (mK (.int 200)) mNil) fun ds st => Res.of (dRange1 ds) st) [19] (gvN 19) mYes (mBin (mVar 16) (mBin (mVar 19) (mVar 18) (pure2 dMul)) (pure2 dAdd))) fun ds st => .ok (.lst ds) st))
  (sSet 8 (mUn (mUn (mComp (mUn (mCons (mVar 15) (mCons (mBin (mVar 6) (mK (.int 1)) (pure2 dAdd)) mNil)) fun ds st => Res.of (dRange2 ds) st) [19] (gvN 19) (mTest (mBin (mBin (mVar 14) (mBin (mBin (mVar 19) (mVar 15) (pure2 dSub)) (mVar 12) (pure2 dMul)) (pure2 dAdd)) (mVar 10) (pure2 dIn))) (mVar 19)) fun ds st => .ok (.lst ds) st) fun d st => (Res.of (dS d st) st).bind fun xs st => .ok (.tup xs) st))))))) sPass)
  (sIf (mNot (mTest (mCall (mFn 23 m__law_rest1) (mCons (mVar 1) (mCons (mVar 3) (mCons (mVar 6) (mCons (mVar 7) (mCons (mVar 8) mNil)))))))) (sRet (mK (.bl false))) sPass))))))
end
theorem far_least {f s e g : Int} (he : 1 ≤ e ∧ e < 5) (hs : 0 ≤ s ∧ s < 20) (hf : f ≤ g) (hm : g - f ≤ 200) : ∃ r, (rng s (400 - s).toNat).filter (fun k => decide (g ≤ f + (k - s) * e)) = (s - (0 - (g - f)) / e) :: r := by
  have h4 : e = 1 ∨ e = 2 ∨ e = 3 ∨ e = 4 := by omega
  refine first_of (rng_lt _ _) ?_ ?_ ?_
  · rw [mem_rng]
    rcases h4 with rfl | rfl | rfl | rfl <;> omega
  · rcases h4 with rfl | rfl | rfl | rfl <;> simp <;> omega
  · intro j hj hlt
    rcases h4 with rfl | rfl | rfl | rfl <;> simp <;> omega
def lens (f e : Int) : List Int := (rng 0 200).map fun k => f + k * e
theorem mem_lens {f e v : Int} (he : 1 ≤ e ∧ e < 5) (hv : v - f < 200) : v ∈ lens f e ↔ f ≤ v ∧ (v - f) % e = 0 := by
  have h4 : e = 1 ∨ e = 2 ∨ e = 3 ∨ e = 4 := by omega
  unfold lens
  rw [List.mem_map]
  constructor
  · rintro ⟨k, hk, rfl⟩
    rw [mem_rng] at hk
    rcases h4 with rfl | rfl | rfl | rfl <;> omega
  · rintro ⟨h1, h2⟩
    refine ⟨(v - f) / e, ?_, ?_⟩
    · rw [mem_rng]
      rcases h4 with rfl | rfl | rfl | rfl <;> omega
    · rcases h4 with rfl | rfl | rfl | rfl <;> omega
theorem dIn_lints {k : Int} {zs : List Int} : dIn (.int k) (.lst (zs.map .int)) = some (.bl (decide (k ∈ zs))) := by
  have h2 : (zs.map D.int).all (okN 59) = true := by simp
  have e : ((zs.map D.int).any fun z => D.eqv z (.int k)) = decide (k ∈ zs) := by
    rw [List.any_map, Bool.eq_iff_iff, List.any_eq_true, decide_eq_true_eq]
    constructor
    · rintro ⟨z, hz, q⟩
      simp only [Function.comp_apply, eqv_i, decide_eq_true_eq] at q
      exact q ▸ hz
    · intro hk
      exact ⟨k, hk, by simp [eqv_i]⟩
  simp [dIn, isIn, e]
section
variable {st : Sto} {env : Ev.Env} {Q : Wi}
theorem tail_wp (h : LInv env st) (k : ∀ env' st', Q.nx env' st') : wpO (tailB env st) Q := by
  obtain ⟨h0, l, h1, h3, h4, hs⟩ := h
  obtain ⟨u0, u1, u2, u3, u4, u5, u6, u7, u8, u9, u10, u11, u12, u13, u14, u15, u16, u17, u18, u19, u20, rfl⟩ := len21 h0
  simp only [List.getElem?_cons_zero, List.getElem?_cons_succ, Option.some.injEq] at h1 h3 h4
  subst h1 h3 h4
  have hl := hs.len
  obtain ⟨hd, ht, hg, hn, hm⟩ := hs
  unfold tailB
  refine sq_par ?_
  simp only [wp_mCons, wp_mCall, wp_mNil, wp_mVar, wp_mK]
  refine ⟨.loc 0, rfl, rfl, ?_⟩
  refine roll_wp hd (by decide) (by decide) fun a s1 a0 a1 d1 b1 => ⟨.loc 0, rfl, rfl, ?_⟩
  refine roll_wp d1 (by decide) (by decide) fun b s2 e0 e1 d2 b2 => ?_
  have t2 : Tab s2 1 l := by
    unfold Tab at *
    rw [b2.2 1 (by decide), b1.2 1 (by decide)]
    exact ht
  clear b2 b1 d1 hd ht
  refine ⟨⟨rfl, by simp⟩, ?_⟩
  refine sq ?_
  rw [wo_frz]
  refine if_no (wp_eq ?_) ?_
  · rw [wp_mNot, wp_mTest, wp_mCall]
    simp only [wp_mCons, wp_mNil, wp_mVar, setsD, frzE]
    refine ⟨.loc 1, rfl, rfl, .dct (false, tb kd l), rfl, rfl, .int a, rfl, rfl, .int b, rfl, rfl, ?_⟩
    exact each_wp t2 hg ⟨a0, a1⟩ ⟨e0, e1⟩ ⟨true, rfl, rfl, rfl⟩
  refine sq_parv (ds := [.str "no such", .str "no such"]) (by rfl) (by rfl) (by decide) ?_
  have kk : ∀ z f s e, lk l z = some (f, s, e) → 0 < e ∧ e < 1073741824 := fun z f s e q => by
    have := (hg z f s e q).2.2
    omega
  have kk2 : ∀ z f s e, lk l z = some (f, s, e) → (0 < e ∧ e < 1073741824) ∧ 0 ≤ s ∧ s ≤ 100000 := fun z f s e q => by
    have := hg z f s e q
    omega
  cases q1 : lk l "east" with
  | none =>
    refine sq_no (wp_eq (by simp [setsD, frzE, q1])) ?_
    refine sq_no (wp_eq (by simp [setsD, frzE, q1])) ?_
    refine wo_if.mpr ?_
    rw [wp_mNot, wp_mTest, wp_mCall]
    simp only [wp_mCons, wp_mNil, wp_mVar, setsD, frzE]
    refine ⟨.loc 0, rfl, rfl, .loc 1, rfl, rfl, .int b, rfl, rfl, .str "no such", rfl, rfl, .str "no such", rfl, rfl, ?_⟩
    refine rest_wp t2 d2 ⟨e0, e1⟩ rfl rfl ?_ ?_ fun st' => ⟨true, rfl, (fun z => by cases z), fun _ => k _ _⟩
    · exact turned_wp t2 (fun _ => ⟨_, w_such, rfl, rfl⟩) (fun f s e z => by rw [q1] at z; cases z) (fun f s e f' s' e' z => by rw [q1] at z; cases z) kk
    · exact same_wp t2 (fun _ => ⟨_, w_such, rfl, rfl⟩) (fun f s e f' s' e' z => by rw [q1] at z; cases z) kk2 (by omega)
  | some v =>
    obtain ⟨f, s, e⟩ := v
    obtain ⟨gf, gs, ge⟩ := hg _ _ _ _ q1
    cases q2 : lk l "west" with
    | none =>
      refine sq_ify (wp_eq (by simp [setsD, frzE, q1])) ?_
      refine sq_tgt (v := kd (f, s, e)) (env' := [u0, some (.loc 0), u2, some (.loc 1), some (.dct (false, tb kd l)), some (.int a), some (.int b), some (.str "no such"), some (.str "no such"), u9, u10, u11, some (.int e), u13, some (.int f), some (.int s), u16, u17, u18, u19, u20]) (wp_eq (by simp [setsD, frzE, q1])) (by rfl) ?_
      rw [wo_set]
      refine wp_val (v := if b < s then .str "no way" else .str "no such") (st := s2) (wp_eq ?_) ?_
      · by_cases c : b < s <;> simp [c]
      dsimp only
      refine sq_no (wp_eq (by simp [q1, q2])) ?_
      refine wo_if.mpr ?_
      rw [wp_mNot, wp_mTest, wp_mCall]
      simp only [wp_mCons, wp_mNil, wp_mVar]
      refine ⟨.loc 0, rfl, rfl, .loc 1, rfl, rfl, .int b, rfl, rfl, _, rfl, (by split <;> rfl), .str "no such", rfl, rfl, ?_⟩
      refine rest_wp t2 d2 ⟨e0, e1⟩ (by split <;> rfl) rfl ?_ ?_ fun st' => ⟨true, rfl, (fun z => by cases z), fun _ => k _ _⟩
      · refine turned_wp t2 (fun z => ?_) (fun f' s' e' z w => ?_) (fun f s e f' s' e' z w => by rw [q2] at w; cases w) kk
        · rcases z with z | ⟨⟨f', s', e', z, w⟩, _⟩
          · rw [q1] at z; cases z
          · rw [q1] at z; cases z
            exact ⟨_, w_such, by rw [if_neg (by omega)], rfl⟩
        · rw [q1] at z; cases z
          rcases w with w | ⟨_, f2, s2, e2, w, _⟩
          · exact ⟨_, w_way, by rw [if_pos w], rfl⟩
          · rw [q2] at w; cases w
      · exact same_wp t2 (fun _ => ⟨_, w_such, rfl, rfl⟩) (fun f s e f' s' e' z w => by rw [q2] at w; cases w) kk2 (by omega)
    | some v' =>
      obtain ⟨f', s', e'⟩ := v'
      obtain ⟨gf', gs', ge'⟩ := hg _ _ _ _ q2
      have hfar : s ≤ b → f + (b - s) * e - f' ≤ 150 := fun _ => by
        have h4 : e = 1 ∨ e = 2 ∨ e = 3 ∨ e = 4 := by omega
        rcases h4 with rfl | rfl | rfl | rfl <;> omega
      refine sq_ify (wp_eq (by simp [setsD, frzE, q1])) ?_
      refine sq_tgt (v := kd (f, s, e)) (env' := [u0, some (.loc 0), u2, some (.loc 1), some (.dct (false, tb kd l)), some (.int a), some (.int b), some (.str "no such"), some (.str "no such"), u9, u10, u11, some (.int e), u13, some (.int f), some (.int s), u16, u17, u18, u19, u20]) (wp_eq (by simp [setsD, frzE, q1])) (by rfl) ?_
      rw [wo_set]
      refine wp_val (v := if b < s then .str "no way" else .str "no such") (st := s2) (wp_eq ?_) ?_
      · by_cases c : b < s <;> simp [c]
      dsimp only
      refine sq_ify (wp_eq (by simp [q1, q2])) ?_
      refine sq_tgt (v := kd (f, s, e)) (env' := [u0, some (.loc 0), u2, some (.loc 1), some (.dct (false, tb kd l)), some (.int a), some (.int b), some (if b < s then .str "no way" else .str "no such"), some (.str "no such"), u9, u10, u11, some (.int e), u13, some (.int f), some (.int s), u16, u17, u18, u19, u20]) (wp_eq (by simp [q1])) (by rfl) ?_
      refine sq_tgt (v := kd (f', s', e')) (env' := [u0, some (.loc 0), u2, some (.loc 1), some (.dct (false, tb kd l)), some (.int a), some (.int b), some (if b < s then .str "no way" else .str "no such"), some (.str "no such"), u9, u10, u11, some (.int e), u13, some (.int f), some (.int s), some (.int f'), some (.int s'), some (.int e'), u19, u20]) (wp_eq (by simp [q2])) (by rfl) ?_
      refine sq_setv (v := .int (f + (b - s) * e)) (wp_eq (by simp [dMul_i (i := b - s) (j := e) (.inl ⟨by omega, by omega⟩)])) ?_
      refine sq_setv (v := if s ≤ b ∧ f' ≤ f + (b - s) * e then .int (s' - (0 - (f + (b - s) * e - f')) / e') else .str "no way") (wp_eq ?_) ?_
      · by_cases c1 : s ≤ b
        · by_cases c2 : f' ≤ f + (b - s) * e
          · obtain ⟨r, hr⟩ := far_least ge' gs' c2 (by have := hfar c1; omega)
            simp [c1, c2]
            refine wp_compL (rng s' (400 - s').toNat) D.int (fun k => decide (f + (b - s) * e ≤ f' + (k - s') * e')) D.int ?_
            simp [dRange2_i (i := s') (j := 400) (by omega) (by omega)]
            refine ⟨by omega, fun i hi => ⟨_, rfl, wp_eq ?_, fun _ => wp_eq ?_⟩, ?_⟩
            · rw [mem_rng] at hi
              simp [wipeE, dMul_i (i := i - s') (j := e') (.inl ⟨by omega, by omega⟩)]
              by_cases q : f + (b - s) * e ≤ f' + (i - s') * e'
              · exact .inr q
              · exact .inl (Int.not_le.mp q)
            · simp [wipeE]
            · rw [hr]
              simp
          · simp [c1, c2]
        · simp [c1]
      refine sq_setv (v := .lst ((lens f' e').map D.int)) (wp_eq ?_) ?_
      · rw [wp_mUn]
        refine wp_compL (rng 0 200) D.int (fun _ => true) (fun k => .int (f' + k * e')) ?_
        have e200 : dRange1 [.int 200] = some ((rng 0 200).map D.int) := dRange1_i (by decide)
        simp [e200]
        refine ⟨fun i hi => ⟨_, rfl, rfl, wp_eq ?_⟩, ?_⟩
        · rw [mem_rng] at hi
          simp [wipeE, dMul_i (i := i) (j := e') (.inl ⟨by omega, by omega⟩)]
        · simp [lens]
          rw [List.filter_eq_self.mpr (fun _ _ => rfl)]
          rfl
      rw [wo_set]
      refine wp_val (v := .tup ((sameL f s e f' e' b).map D.int)) (st := s2) (wp_eq ?_) ?_
      · rw [wp_mUn, wp_mUn]
        refine wp_compL (rng s (b + 1 - s).toNat) D.int (smP f s e f' e') D.int ?_
        simp [dRange2_i (i := s) (j := b + 1) (by omega) (by omega)]
        refine ⟨by omega, fun i hi => ⟨_, rfl, wp_eq ?_, fun _ => wp_eq ?_⟩, ?_⟩
        · rw [mem_rng] at hi
          have hi2 : f + (i - s) * e - f' ≤ 150 := by
            have h4 : e = 1 ∨ e = 2 ∨ e = 3 ∨ e = 4 := by omega
            rcases h4 with rfl | rfl | rfl | rfl <;> omega
          have em := mem_lens (f := f') (e := e') (v := f + (i - s) * e) ge' (by omega)
          have e5 : smP f s e f' e' i = decide (f + (i - s) * e ∈ lens f' e') := by
            unfold smP
            by_cases c1 : f' ≤ f + (i - s) * e <;> by_cases c2 : (f + (i - s) * e - f') % e' = 0 <;> simp [em, c1, c2]
          rw [e5]
          simp [wipeE, dMul_i (i := i - s) (j := e) (.inl ⟨by omega, by omega⟩), dIn_lints]
          exact (Classical.em _).symm
        · simp [wipeE]
        · rfl
      dsimp only
      refine wo_if.mpr ?_
      rw [wp_mNot, wp_mTest, wp_mCall]
      simp only [wp_mCons, wp_mNil, wp_mVar]
      refine ⟨.loc 0, rfl, rfl, .loc 1, rfl, rfl, .int b, rfl, rfl, _, rfl, (by split <;> rfl), .tup ((sameL f s e f' e' b).map D.int), rfl, rfl, ?_⟩
      refine rest_wp t2 d2 ⟨e0, e1⟩ (by split <;> rfl) (okN_tints _) ?_ ?_ fun st' => ⟨true, rfl, (fun z => by cases z), fun _ => k _ _⟩
      · refine turned_wp t2 (fun z => ?_) (fun f1 s1 e1 z w => ?_) (fun f1 s1 e1 f2 s2 e2 z w h1 h2 => ?_) kk
        · rcases z with z | ⟨_, z⟩
          · rw [q1] at z; cases z
          · rw [q2] at z; cases z
        · rw [q1] at z; cases z
          rcases w with w | ⟨h1, f2, s2, e2, w, h2⟩
          · exact ⟨_, w_way, by rw [if_neg (by omega)], rfl⟩
          · rw [q2] at w; cases w
            exact ⟨_, w_way, by rw [if_neg (by omega)], rfl⟩
        · rw [q1] at z; cases z
          rw [q2] at w; cases w
          exact ⟨by rw [if_pos ⟨h1, h2⟩], rfl⟩
      · refine same_wp t2 (fun z => ?_) (fun f1 s1 e1 f2 s2 e2 z w => ?_) kk2 (by omega)
        · rcases z with z | z
          · rw [q1] at z; cases z
          · rw [q2] at z; cases z
        · rw [q1] at z; cases z
          rw [q2] at w; cases w
          exact ⟨rfl, rfl⟩
end
end K02

set_option maxRecDepth 100000
set_option maxHeartbeats 4000000
namespace K02
open PySem PySem.Spec PyProof.Rows L2 Ev
theorem law_shape : m_law = sSeq (sFor (mItems (mCall (mFn 4 m__law_rounds) (mCons (mVar 0) (mCons (mK (.int 1)) mNil)))) (gvN 1) (sSeq (sPar [3, 4] (mCons (mMake "Table" (mFn 1 m_Table___init__) mNil) (mCons (mUn (mDnil false) fun x st => .ok (.ownd x) st) mNil)))
  (sSeq (sFor (mUn (mCons (mCall (mFn 3 m__law_roll) (mCons (mVar 1) (mCons (mK (.int 9)) mNil))) mNil) fun ds st => Res.of (dRange1 ds) st) (gvN 2) stepB) tailB))) (sRet (mK (.bl true))) := rfl
theorem plain (ns : List Int) (h : ns.length ≤ 63) (hb : ∀ z ∈ ns, Builtin.Int.intBits z ≤ 1048576) : ∃ st, mFn 21 m_law [.lst (ns.map .int)] [] = .ok (.bl true) st := by
  have key : wpR (mFn 21 m_law [.lst (ns.map .int)] []) (fun d _ => d = .bl true) fun _ _ => False := by
    rw [wp_fn, law_shape]
    refine sq ?_
    rw [wo_for, wp_mItems, wp_mCall]
    simp only [wp_mCons, wp_mNil, wp_mVar, wp_mK]
    refine ⟨.lst (ns.map .int), rfl, rfl, ?_⟩
    refine rounds_wp fun a b c => ⟨[.loc 0], rfl, ?_⟩
    rw [wo_loop_cons]
    refine ⟨_, rfl, ?_⟩
    refine sq_par ?_
    rw [wp_mCons, wp_mMake, wp_mNil]
    refine init_wp (by rfl) ⟨rfl, ?_⟩
    rw [wp_mCons, wp_mUn, wp_mDnil, wp_ok, wp_mNil]
    refine ⟨⟨rfl, by simp⟩, ?_⟩
    refine sq ?_
    rw [wo_for, wp_mUn, wp_mCons, wp_mCall]
    simp only [wp_mCons, wp_mNil, wp_mVar, wp_mK]
    refine ⟨.loc 0, rfl, rfl, ?_⟩
    refine roll_wp (d := 0) ⟨a, b, c, rfl⟩ (by decide) (by decide) fun v st1 v0 v1 d1 b1 => ?_
    rw [wp_of]
    refine ⟨_, dRange1_i (by omega), ?_⟩
    have t1 : Tab st1 1 [] := by
      unfold Tab
      rw [b1.2 1 (by decide)]
      rfl
    refine wo_loop (fun _ env st => LInv env st) (fun d ds env st hI => ?_) (fun env st hI => ?_) ?_
    · obtain ⟨h0, l, h1, h3, h4, hs⟩ := hI
      refine ⟨env.set 2 (some d), rfl, step_wp ⟨by simpa using h0, l, ?_, ?_, ?_, hs⟩ fun env' st' hI => hI⟩
      · rw [List.getElem?_set_ne (by decide)]; exact h1
      · rw [List.getElem?_set_ne (by decide)]; exact h3
      · rw [List.getElem?_set_ne (by decide)]; exact h4
    · refine tail_wp hI fun env' st' => ?_
      simp
    · exact ⟨rfl, [], rfl, rfl, rfl, d1, t1, (fun x f s e z => by cases z), List.nodup_nil, fun x hx => by cases hx⟩
  obtain ⟨d, st, e, rfl⟩ := wp_ex key
  exact ⟨st, e⟩
end K02

set_option maxHeartbeats 0
open PySem PySem.W PySem.Calls PyProof.Rows
theorem PySem.Challenge.cw_shoehall_k02_sizes_holds : PySem.Challenge.rw_shoehall_k02_sizes.Holds := by
  w_on; o_law
  refine HandSHeadRun.head_any (r := OpenLaw.row PySem.Challenge.rw_shoehall_k02_sizes) (q := view (OpenLaw.row PySem.Challenge.rw_shoehall_k02_sizes).prog [26]) (H := K02.hk) (ob := K02.ob) (M := 4000) (loose := K02.loose) (d := HandSHeadRun.topDef (OpenLaw.row PySem.Challenge.rw_shoehall_k02_sizes).prog 26) (kwd := []) K02.ob_eq
    (by kernel_rfl) (fun s => by kernel_rfl) K02.head_run (by kernel_rfl) (by kernel_rfl) (by kernel_rfl) (by rfl) (by first | assumption | decide +kernel) (by decide +kernel) ⟨rfl, rfl, rfl, rfl, rfl, by decide +kernel⟩ ?hw ?hc
  case hw => w_witness2
  case hc =>
    refine LamX.walk_ofTsE (l := PySem.Challenge.rw_shoehall_k02_sizes) (n := 63) (k := 10) (x := "script") (CX := fun w => L2.CX PySem.Challenge.rw_shoehall_k02_sizes.prog w) rfl (by decide) (by kernel_rfl) ⟨rfl, by decide, by decide⟩ ?F (fun _ _ _ _ _ ⟨_, _, _, _, _, _, _, _, _, _, _, _, z⟩ => z.elim)
    intro w mg fa h Y G hmg0
    obtain ⟨K, KX, c⟩ := Y
    have hmg : mg ("law" : PySem.Str) = some (.ref fa) := by
      have e : (HandSHeadRun.topDef (OpenLaw.row PySem.Challenge.rw_shoehall_k02_sizes).prog 26).name = ("law" : PySem.Str) := by kernel_rfl
      rw [← e]
      exact hmg0
    exact ⟨K, KX, K02.law_in K02.plain KX G c hmg⟩

